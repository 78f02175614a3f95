/- How an argument of a law is read: for integers, bools, strings, slices and structs of these, whatever their nesting: if the memory reads as data of the type, there is a value of the kind; no condition beyond the types' own layout. -/
import Derived.Test.YtbmkobanpakohaaMFnExactMedianw0
import Derived.Deep.Slices
import Derived.ChangeArms
import Derived.ChangeSame
namespace Go.Proofs.Ytbmkobanpakohaa.Opens
open Go.RowKit Go.Proofs.YtbmkobanpakohaaW.PrintWords Go.ChangeShapes Go.WideShapes
set_option linter.unusedVariables false

/-- What reads as data of type t is of the kind d, and good. -/
def Opens {α : Type} (P : Program) (t : TypeId) (d : Kd α) (good : α → Prop) : Prop :=
  ∀ (H : Type) (enc : TypeId × Value → H) (w : World) (base : Nat) (spare : Nat → Bool) (held : Bool) (fuel : Nat) (cs : List Value) (x : DataW H × List MemPlace),
    DataW.trod enc P w base spare held fuel t cs = some x → ∃ a, d.K w a cs ∧ good a

theorem opens_int {P : Program} {t : TypeId} {k : IntKind} (ht : P.underlying t = some (.int k)) : Opens P t (Kd.int k) (fun n => (Lit.int k n).wf = true) := by
  intro H enc w base spare held fuel cs x h
  obtain ⟨n, rfl, _, hw⟩ := DataW.trod_int ht h
  exact ⟨n, rfl, hw⟩

theorem opens_slice {α : Type} {P : Program} {t e : TypeId} {d : Kd α} {good : α → Prop} (ht : P.underlying t = some (.slice e)) (hC : P.cellsOf e = d.sz) (ho : Opens P e d good) :
    Opens P t (Kd.slice e d) (fun l => l.length ≤ maxLen ∧ ∀ x ∈ l, good x) := by
  intro H enc w base spare held fuel cs x h
  rcases Go.Deep.open_slice ht h with ⟨rfl, _⟩ | ⟨a, len, cap, m, n, D, Pl, rfl, _, hl, hcap, hm, _, hi⟩
  · exact ⟨[], ⟨none, 0, rfl, Nat.le_refl _, rfl, Nat.zero_le _, fun h => absurd h (Nat.lt_irrefl 0)⟩, Nat.zero_le _, fun _ h => by cases h⟩
  · have hlm : len ≤ m := by rw [hm]; split <;> omega
    have hex : ∀ i : Fin len, ∃ y : α, ∃ c : List Value, c.length = d.sz ∧ d.K w y c ∧ good y ∧ ∀ j u, c[j]? = some u → w.cell? (a.add (i.1 * d.sz + j)) = some u := by
      intro i
      obtain ⟨cs', hc, ht'⟩ := hi i.1 (by have := i.2; omega)
      rw [hC] at hc
      obtain ⟨_, hcl, hat⟩ := World.cells?_some hc
      obtain ⟨y, hy, hg⟩ := ho _ enc w base spare held n cs' _ ht'
      refine ⟨y, cs', hcl, hy, hg, fun j u hu => ?_⟩
      have hj : j < d.sz := by rw [← hcl]; exact (List.getElem?_eq_some_iff.1 hu).1
      rw [← Go.Deep.add_add, hat j hj, hu]
    have hch : ∃ f : Fin len → α, ∀ i : Fin len, ∃ c : List Value, c.length = d.sz ∧ d.K w (f i) c ∧ good (f i) ∧ ∀ j u, c[j]? = some u → w.cell? (a.add (i.1 * d.sz + j)) = some u :=
      ⟨fun i => Classical.choose (hex i), fun i => Classical.choose_spec (hex i)⟩
    obtain ⟨f, hf⟩ := hch
    have hlen : (List.ofFn f).length = len := by simp
    refine ⟨List.ofFn f, ⟨some a, cap, by rw [hlen], by rw [hlen]; exact hl, hlen.symm ▸ rfl, by rw [hlen]; unfold maxLen at hcap; omega, fun _ => ⟨a, rfl, fun j p hj => ?_⟩⟩, by rw [hlen]; unfold maxLen at hcap ⊢; omega, ?_⟩
    · have hjl : j < len := by have := (List.getElem?_eq_some_iff.1 hj).1; rwa [hlen] at this
      have hp : p = f ⟨j, hjl⟩ := by
        rw [List.getElem?_ofFn] at hj
        simp [hjl] at hj
        exact hj.symm
      obtain ⟨c, h1, h2, _, h4⟩ := hf ⟨j, hjl⟩
      exact ⟨c, h1, by rw [hp]; exact h2, h4⟩
    · intro x hx
      obtain ⟨i, rfl⟩ := List.mem_ofFn.1 hx
      obtain ⟨c, _, _, h3, _⟩ := hf i
      exact h3

theorem field_at {α : Type} {P : Program} {fs : Array Field} {j : Nat} {f : Field} {d : Kd α} {good : α → Prop} (hf : fs[j]? = some f) (hC : P.cellsOf f.type = d.sz) (ho : Opens P f.type d good)
    {H : Type} (enc : TypeId × Value → H) (w : World) (base : Nat) (spare : Nat → Bool) (held : Bool) (n : Nat) (cs : List Value) (xs : List (DataW H × List MemPlace))
    (hl : xs.length = fs.size) (h : ∀ (i : Nat) (f : Field), fs[i]? = some f → DataW.trod enc P w base spare held n f.type ((cs.drop f.offset).take (P.cellsOf f.type)) = xs[i]?) :
    ∃ a, d.K w a ((cs.drop f.offset).take d.sz) ∧ good a := by
  have h1 := h j f hf
  have hj : j < xs.length := by rw [hl]; exact (Array.getElem?_eq_some_iff.1 hf).1
  rw [List.getElem?_eq_getElem hj, hC] at h1
  exact ho _ enc w base spare held n _ _ h1

theorem fields_last {α : Type} {P : Program} {t : TypeId} {fs : Array Field} {j : Nat} {f : Field} {d : Kd α} {good : α → Prop} (hf : fs[j]? = some f) (hC : P.cellsOf f.type = d.sz) (ho : Opens P f.type d good) {N : Nat} (hN : f.offset + d.sz = N) :
    ∀ (H : Type) (enc : TypeId × Value → H) (w : World) (base : Nat) (spare : Nat → Bool) (held : Bool) (n : Nat) (cs : List Value) (xs : List (DataW H × List MemPlace)), cs.length = N →
    xs.length = fs.size → (∀ (i : Nat) (f : Field), fs[i]? = some f → DataW.trod enc P w base spare held n f.type ((cs.drop f.offset).take (P.cellsOf f.type)) = xs[i]?) →
    ∃ a, d.K w a (cs.drop f.offset) ∧ good a := by
  intro H enc w base spare held n cs xs hcl hl h
  obtain ⟨a, h1, h2⟩ := field_at hf hC ho enc w base spare held n cs xs hl h
  refine ⟨a, ?_, h2⟩
  rw [List.take_of_length_le (by rw [List.length_drop]; omega)] at h1
  exact h1

/-- The fields from place j on: the cells from o on, of N in all. -/
def FieldsTo {α : Type} (P : Program) (fs : Array Field) (N o : Nat) (d : Kd α) (good : α → Prop) : Prop :=
  ∀ (H : Type) (enc : TypeId × Value → H) (w : World) (base : Nat) (spare : Nat → Bool) (held : Bool) (n : Nat) (cs : List Value) (xs : List (DataW H × List MemPlace)), cs.length = N →
    xs.length = fs.size → (∀ (i : Nat) (f : Field), fs[i]? = some f → DataW.trod enc P w base spare held n f.type ((cs.drop f.offset).take (P.cellsOf f.type)) = xs[i]?) →
    ∃ a, d.K w a (cs.drop o) ∧ good a

theorem fieldsTo_last {α : Type} {P : Program} {fs : Array Field} {N o j : Nat} {f : Field} {d : Kd α} {good : α → Prop} (hf : fs[j]? = some f) (hC : P.cellsOf f.type = d.sz) (ho : Opens P f.type d good) (hN : f.offset + d.sz = N) (hoff : f.offset = o) :
    FieldsTo P fs N o d good := by
  subst hoff
  intro H enc w base spare held n cs xs hcl hl h
  exact fields_last (t := 0) hf hC ho hN _ enc w base spare held n cs xs hcl hl h

theorem fieldsTo_cons {α β : Type} {P : Program} {fs : Array Field} {N o o' j : Nat} {f : Field} {d : Kd α} {good : α → Prop} {d' : Kd β} {good' : β → Prop} (hf : fs[j]? = some f) (hC : P.cellsOf f.type = d.sz) (ho : Opens P f.type d good)
    (hoff : f.offset = o) (hnext : o + d.sz = o') (hr : FieldsTo P fs N o' d' good') : FieldsTo P fs N o (Kd.pair d d') (fun x => good x.1 ∧ good' x.2) := by
  subst hoff
  intro H enc w base spare held n cs xs hcl hl h
  obtain ⟨a, h1, h2⟩ := field_at hf hC ho enc w base spare held n cs xs hl h
  obtain ⟨b, h3, h4⟩ := hr _ enc w base spare held n cs xs hcl hl h
  refine ⟨(a, b), ⟨(cs.drop f.offset).take d.sz, cs.drop o', ?_, h1, h3⟩, h2, h4⟩
  rw [← hnext, ← List.drop_drop, List.take_append_drop]

theorem opens_struct {α β : Type} {P : Program} {t : TypeId} {fs : Array Field} {d : Kd α} {good : α → Prop} {f : β → α} (g : α → β) (hfg : ∀ x, f (g x) = x) (ht : P.underlying t = some (.struct fs)) {N : Nat} (hN : P.cellsOf t = N) (hf : FieldsTo P fs N 0 d good) :
    Opens P t (Kd.iso d f) (fun y => good (f y)) := by
  intro H enc w base spare held fuel cs x h
  obtain ⟨xs, n, _, _, hcl, hl, hk⟩ := DataW.trod_struct ht h
  obtain ⟨a, h1, h2⟩ := hf _ enc w base spare held n cs xs (hcl.trans hN) hl hk
  rw [List.drop_zero] at h1
  refine ⟨g a, ?_, ?_⟩
  · show d.K w (f (g a)) cs
    rw [hfg]; exact h1
  · show good (f (g a))
    rw [hfg]; exact h2

/-- A slice that comes in. -/
theorem arg_slice {α : Type} {P : Program} {t e : TypeId} {d : Kd α} {good : α → Prop} (ho : Opens P t (Kd.slice e d) (fun l => l.length ≤ maxLen ∧ ∀ x ∈ l, good x)) {H : Type} {enc : TypeId × Value → H} {w : World} {base : Nat} {spare : Nat → Bool} {held : Bool}
    {A : Option Addr} {len cap : Nat} {dd : DataW H} {ps : List MemPlace} (h : DataW.Trod enc P w base spare held t (.slice A len cap) dd ps) :
    ∃ l : List α, l.length = len ∧ len ≤ cap ∧ Kd.C d w A l.length l ∧ ∀ x ∈ l, good x := by
  obtain ⟨fuel, hf⟩ := h
  obtain ⟨l, ⟨A', c, hcs, hl, hC⟩, hg⟩ := ho _ enc w base spare held fuel _ _ hf
  simp [Value.cells] at hcs
  obtain ⟨rfl, rfl, rfl⟩ := hcs
  exact ⟨l, rfl, hl, hC, hg.2⟩

/-- A struct that comes in by value. -/
theorem arg_struct {α : Type} {P : Program} {t : TypeId} {d : Kd α} {good : α → Prop} (ho : Opens P t d good) {H : Type} {enc : TypeId × Value → H} {w : World} {base : Nat} {spare : Nat → Bool} {held : Bool}
    {cs : Array Value} {dd : DataW H} {ps : List MemPlace} (h : DataW.Trod enc P w base spare held t (.agg cs) dd ps) : ∃ a, d.K w a cs.toList ∧ good a := by
  obtain ⟨fuel, hf⟩ := h
  exact ho _ enc w base spare held fuel _ _ hf

end Go.Proofs.Ytbmkobanpakohaa.Opens
