/- Laid by a program of this session out of the kit's print for the law FnMirrored: what it says of the machine is proved here, function by function; each contract under the conditions that it names. -/
import Derived.Test.YtbmkobanpakohaaMFnMirroredx0
import Derived.Test.YtbmkobanpakohaaMFnMirroredx2
import Derived.Test.YtbmkobanpakohaaMFnMirroredx3
import Derived.Test.YtbmkobanpakohaaMFnMirroredx5
import Derived.Maps.OwnSet
namespace Go.Proofs.Ytbmkobanpakohaa.PFnMirrored
open Go.RowKit Go.Proofs.YtbmkobanpakohaaW.PrintWords Go.Proofs.YtbmkobanpakohaaW.PrintLast Go.Proofs.YtbmkobanpakohaaW.PrintMore
attribute [local go_sem] max2_int min2_int max_two min_two max_three min_three max_four min_four   -- for this text's walks alone
set_option linter.unusedVariables false
set_option linter.unusedSimpArgs false

/-! ### impl_forest: function 68 -/
/-- a key: four numbers -/
def K4 (a b c d : Int) : Value := .agg #[.int .i64 a, .int .i64 b, .int .i64 c, .int .i64 d]
theorem K4.check (em : Bool) (a b c d : Int) (w : World) : (Instr.checkKey em 10000 96 (K4 a b c d)).run Try.prog w = .ok () w := by kernel_rfl
theorem eq_fields {P : Program} {t : TypeId} {fs : Array Field} {xs ys : Array Value} {r : Bool} {w : World} {d : Nat} (hu : P.underlying t = some (.struct fs)) (hp : P.stoodInHeld t = false) (h : (Op.eqFields d xs ys fs.toList).run P w = .ok r w) : (Op.equalIn (d + 1) t (.agg xs) (.agg ys)).run P w = .ok r w := by
  have hf : P.fieldsOf t = fs := by simp [Program.fieldsOf, hu]
  rw [run_equalIn_struct (P := P) w d t xs ys (by rw [hf]; exact hu) hp, hf]
  exact h
theorem eq_field {P : Program} {d : Nat} {xs ys : Array Value} {f : Field} {fs : List Field} {a b : Value} {r s : Bool} {w : World} (hn : (f.name == "_") = false) (ha : (part f.type xs f.offset).run P w = .ok a w) (hb : (part f.type ys f.offset).run P w = .ok b w) (he : (Op.equalIn d f.type a b).run P w = .ok r w) (hr : (Op.eqFields d xs ys fs).run P w = .ok s w) : (Op.eqFields d xs ys (f :: fs)).run P w = .ok (r && s) w := by
  have hn' : f.name ≠ "_" := by simpa using hn
  rw [Op.eqFields]
  simp only [if_pos hn', Sem.run_bind, ha, hb, he, Result.andThen_ok]
  cases r
  · simp
  · simpa using hr
theorem K4.eq (a b c d a' b' c' d' : Int) (w : World) : (Op.equal 96 (K4 a b c d) (K4 a' b' c' d')).run Try.prog w = .ok (a == a' && (b == b' && (c == c' && (d == d' && true)))) w := by
  unfold Op.equal Op.maxDepth
  refine eq_fields Try.underlying96 (by kernel_rfl) ?_
  refine eq_field rfl (a := .int .i64 a) (b := .int .i64 a') (by kernel_rfl) (by kernel_rfl) (by kernel_rfl) ?_
  refine eq_field rfl (a := .int .i64 b) (b := .int .i64 b') (by kernel_rfl) (by kernel_rfl) (by kernel_rfl) ?_
  refine eq_field rfl (a := .int .i64 c) (b := .int .i64 c') (by kernel_rfl) (by kernel_rfl) (by kernel_rfl) ?_
  refine eq_field rfl (a := .int .i64 d) (b := .int .i64 d') (by kernel_rfl) (by kernel_rfl) (by kernel_rfl) ?_
  simp [Op.eqFields]
theorem K4.stays (a b c d : Int) (w : World) : (Instr.keyThatStays (K4 a b c d) (K4 a b c d)).run Try.prog w = .ok (K4 a b c d) w := by
  have h : Instr.sameBits 10000 (K4 a b c d) (K4 a b c d) = true := by
    show Instr.sameBits (9999 + 1) (.agg _) (.agg _) = true
    simp [Instr.sameBits]
  simp [Instr.keyThatStays, h]
/-- what lies in the map is true -/
def Memo (F : Int → Int → Int → Int → Int → Prop) (w : World) (b : Nat) : Prop := ∃ es clock, w.heap[b]? = some (.map es clock) ∧ ∀ e ∈ es.toList, ∃ i j k m v, e.key = K4 i j k m ∧ e.val = .int .i64 v ∧ F i j k m v
theorem find4 {F : Int → Int → Int → Int → Int → Prop} (i j k m : Int) : ∀ (es : List MapEntry) (n : Nat), (∀ e ∈ es, ∃ i j k m v, e.key = K4 i j k m ∧ e.val = .int .i64 v ∧ F i j k m v) →
    (∀ w, (Instr.findAsking 96 (K4 i j k m) es n).run Try.prog w = .ok none w) ∨ ∃ p v e, (∀ w, (Instr.findAsking 96 (K4 i j k m) es n).run Try.prog w = .ok (some (n + p, .int .i64 v)) w) ∧ F i j k m v ∧ es[p]? = some e ∧ e.key = K4 i j k m
  | [], n, _ => .inl (fun w => by simp [Instr.findAsking])
  | e :: es, n, h => by
    obtain ⟨i', j', k', m', v, h1, h2, h3⟩ := h e List.mem_cons_self
    have he := K4.eq i j k m i' j' k' m'
    simp only [Bool.and_true] at he
    by_cases hc : (i == i' && (j == j' && (k == k' && m == m'))) = true
    · right
      refine ⟨0, v, e, fun w => ?_, ?_, by simp, ?_⟩
      · simp [Instr.findAsking, h1, he, hc, h2]
      · simp at hc
        obtain ⟨rfl, rfl, rfl, rfl⟩ := hc
        exact h3
      · simp at hc
        obtain ⟨rfl, rfl, rfl, rfl⟩ := hc
        exact h1
    · rw [Bool.not_eq_true] at hc
      rw [hc] at he
      have hs : ∀ w, (Instr.findAsking 96 (K4 i j k m) (e :: es) n).run Try.prog w = (Instr.findAsking 96 (K4 i j k m) es (n + 1)).run Try.prog w := fun w => by simp [Instr.findAsking, h1, he]
      rcases find4 i j k m es (n + 1) (fun e he => h e (List.mem_cons_of_mem _ he)) with h4 | ⟨p, v', e', h4, h5, h6, h7⟩
      · exact .inl (fun w => (hs w).trans (h4 w))
      · exact .inr ⟨p + 1, v', e', fun w => by rw [hs, h4, show n + 1 + p = n + (p + 1) by omega], h5, by simpa using h6, h7⟩
theorem findKey4 {F : Int → Int → Int → Int → Int → Prop} (i j k m : Int) (es : List MapEntry) (h : ∀ e ∈ es, ∃ i j k m v, e.key = K4 i j k m ∧ e.val = .int .i64 v ∧ F i j k m v) :
    (∀ w, (Instr.findKey 96 (K4 i j k m) es).run Try.prog w = .ok none w) ∨ ∃ p v e, (∀ w, (Instr.findKey 96 (K4 i j k m) es).run Try.prog w = .ok (some (p, .int .i64 v)) w) ∧ F i j k m v ∧ es[p]? = some e ∧ e.key = K4 i j k m := by
  rcases es with _ | ⟨e, es⟩
  · left
    intro w
    obtain ⟨fs, hu⟩ : ∃ fs, (underlying 96).run Try.prog w = .ok (.struct fs) w := ⟨_, run_underlying Try.underlying96 w⟩
    simp only [Instr.findKey, Sem.run_bind, hu, Result.andThen_ok, Instr.findNow, Sem.run_pure]
  · have h0 : ∀ w, (Instr.findKey 96 (K4 i j k m) (e :: es)).run Try.prog w = (Instr.findAsking 96 (K4 i j k m) (e :: es) 0).run Try.prog w := by
      intro w
      obtain ⟨i', j', k', m', v, h1, _⟩ := h e List.mem_cons_self
      obtain ⟨fs, hu⟩ : ∃ fs, (underlying 96).run Try.prog w = .ok (.struct fs) w := ⟨_, run_underlying Try.underlying96 w⟩
      have h5 : Instr.findNow (.struct fs) (K4 i j k m) (e :: es) 0 = none := by rw [Instr.findNow, h1]; rfl
      simp only [Instr.findKey, Sem.run_bind, hu, Result.andThen_ok, h5]
    rcases find4 i j k m (e :: es) 0 h with h4 | ⟨p, v', e', h4, h5, h6, h7⟩
    · exact .inl (fun w => (h0 w).trans (h4 w))
    · exact .inr ⟨p, v', e', fun w => by rw [h0, h4, Nat.zero_add], h5, h6, h7⟩
/-- what a look will tell, wherever the map's block is as it is now -/
theorem Memo.look {F : Int → Int → Int → Int → Int → Prop} {w : World} {b : Nat} (h : Memo F w b) (i j k m : Int) :
    ∃ v ok, (ok = true → F i j k m v) ∧ ∀ w' : World, w'.heap[b]? = w.heap[b]? → (Instr.lookup 97 (.map (some b)) (K4 i j k m) true).run Try.prog w' = .ok (.tuple #[.int .i64 v, .bool ok]) w' := by
  obtain ⟨es, clock, hb, he⟩ := h
  have hz : ∀ w', (zeroValue 3).run Try.prog w' = .ok (.int .i64 0) w' := fun w' => by kernel_rfl
  rcases findKey4 i j k m es.toList he with h1 | ⟨p, v, e, h1, h2, _⟩
  · exact ⟨0, false, (fun e => by cases e), fun w' hw => by simp [Instr.lookup, run_underlying Try.underlying97, MapKept.run_getObj_map (hw.trans hb), K4.check, h1, hz, Result.andThen]⟩
  · exact ⟨v, true, fun _ => h2, fun w' hw => by simp [Instr.lookup, run_underlying Try.underlying97, MapKept.run_getObj_map (hw.trans hb), K4.check, h1, Result.andThen]⟩
theorem setBlock_grown {w : World} {b : Nat} {o : Obj} : w.grownBy (ChangeMaps.setBlock w b o) (some b) := ⟨rfl, rfl, rfl, by simp [ChangeMaps.setBlock], fun k _ hk => by
  simp only [ChangeMaps.setBlock]
  rw [Array.getElem?_setIfInBounds_ne]
  exact fun e => hk (by rw [e])⟩
theorem Memo.store {F : Int → Int → Int → Int → Int → Prop} {w : World} {b : Nat} (h : Memo F w b) (i j k m v : Int) (hv : F i j k m v) :
    ∃ w', (Instr.mapUpdate 97 (.map (some b)) (K4 i j k m) (.int .i64 v)).run Try.prog w = .ok () w' ∧ Memo F w' b ∧ w.grownBy w' (some b) := by
  obtain ⟨es, clock, hb, he⟩ := h
  have hlt : b < w.heap.size := (Array.getElem?_eq_some_iff.1 hb).1
  have hat : ∀ o, (ChangeMaps.setBlock w b o).heap[b]? = some o := fun o => by simp [ChangeMaps.setBlock, hlt]
  rcases findKey4 i j k m es.toList he with h1 | ⟨p, v0, e0, h1, h2, h3, h4⟩
  · refine ⟨ChangeMaps.setBlock w b (.map (es.push ⟨K4 i j k m, .int .i64 v, clock⟩) (clock + 1)), ?_, ⟨_, _, hat _, ?_⟩, setBlock_grown⟩
    · simp [Instr.mapUpdate, run_underlying Try.underlying97, MapKept.run_getObj_map hb, K4.check, h1, MapKept.run_setObj_map _ hb, Result.andThen, ChangeMaps.setBlock]
    · intro e hm
      simp only [Array.toList_push, List.mem_append, List.mem_singleton] at hm
      rcases hm with hm | rfl
      · exact he e hm
      · exact ⟨_, _, _, _, _, rfl, rfl, hv⟩
  · have hj : es[p]? = some e0 := by simpa using h3
    refine ⟨ChangeMaps.setBlock w b (.map (es.modify p fun e => { e with key := K4 i j k m, val := .int .i64 v }) clock), ?_, ⟨_, _, hat _, ?_⟩, setBlock_grown⟩
    · simp [Instr.mapUpdate, run_underlying Try.underlying97, MapKept.run_getObj_map hb, K4.check, h1, hj, h4, K4.stays, MapKept.run_setObj_map _ hb, Result.andThen, ChangeMaps.setBlock]
    · intro e hm
      rw [Array.toList_modify, ChangeMaps.modify_eq_set _ _ _ _ h3] at hm
      rcases List.mem_or_eq_of_mem_set hm with hm | rfl
      · exact he e hm
      · exact ⟨_, _, _, _, _, rfl, rfl, hv⟩
theorem Memo.lt {F : Int → Int → Int → Int → Int → Prop} {w : World} {b : Nat} (h : Memo F w b) : b < w.heap.size := by
  obtain ⟨es, clock, h1, _⟩ := h
  exact (Array.getElem?_eq_some_iff.1 h1).1
theorem Memo.grown {F : Int → Int → Int → Int → Int → Prop} {w w' : World} {b : Nat} (h : Memo F w b) (hb : Below w.heap.size w w') : Memo F w' b := by
  obtain ⟨es, clock, h1, h2⟩ := h
  exact ⟨es, clock, (hb.block b (Array.getElem?_eq_some_iff.1 h1).1).trans h1, h2⟩
/-- a cell stays: the map's block holds none -/
theorem Memo.cell {F : Int → Int → Int → Int → Int → Prop} {w w' : World} {b : Nat} (h : Memo F w b) (hg : w.grownBy w' (some b)) {p : Addr} {v : Value} (hp : w.cell? p = some v) : w'.cell? p = some v := by
  obtain ⟨es, clock, h1, _⟩ := h
  refine hg.cell hp (fun e => ?_)
  injection e with e
  rw [World.cell?, e, h1] at hp
  cases hp
theorem grown_of_below {w w' : World} {row : Option Nat} (hb : Below w.heap.size w w') : w.grownBy w' row := ⟨hb.os, hb.tape, hb.output, hb.size, fun k hk _ => hb.block k hk⟩
def mx4 (a b : Int) : Int := if a < b then b else a
def row4 (ls : List (List Int)) (i : Int) : List Int := ls.getD i.toNat []
def impl_forest.f (la lb del ins : List Int) (rel : List (List Int)) : Nat → Int → Int → Int → Int → Option Int
 | 0, _, _, _, _ => none
 | k + 1, i, j, q, m =>
  if i = j then (if q = m then some 0 else
    (if 0 ≤ wrap64 (m - 1) ∧ wrap64 (m - 1) < (ins.length : Int) then (impl_forest.f la lb del ins rel k i j q (wrap64 (m - 1))).bind fun t => some (wrap64 (t + rd ins (wrap64 (m - 1)))) else none))
  else (if q = m then
    (if 0 ≤ wrap64 (j - 1) ∧ wrap64 (j - 1) < (del.length : Int) then (impl_forest.f la lb del ins rel k i (wrap64 (j - 1)) q m).bind fun t => some (wrap64 (t + rd del (wrap64 (j - 1)))) else none)
  else
    (if (0 ≤ wrap64 (j - 1) ∧ wrap64 (j - 1) < (la.length : Int) ∧ wrap64 (j - 1) < (del.length : Int) ∧ wrap64 (j - 1) < (rel.length : Int)) ∧ (0 ≤ wrap64 (m - 1) ∧ wrap64 (m - 1) < (lb.length : Int) ∧ wrap64 (m - 1) < (ins.length : Int) ∧ wrap64 (m - 1) < ((row4 rel (wrap64 (j - 1))).length : Int)) then
      (impl_forest.f la lb del ins rel k i (wrap64 (j - 1)) q m).bind fun t1 => (impl_forest.f la lb del ins rel k i j q (wrap64 (m - 1))).bind fun t2 =>
      (impl_forest.f la lb del ins rel k (mx4 i (rd la (wrap64 (j - 1)))) (wrap64 (j - 1)) (mx4 q (rd lb (wrap64 (m - 1)))) (wrap64 (m - 1))).bind fun t3 => (impl_forest.f la lb del ins rel k i (mx4 i (rd la (wrap64 (j - 1)))) q (mx4 q (rd lb (wrap64 (m - 1))))).bind fun t4 =>
      some (mn (mn (wrap64 (t1 + rd del (wrap64 (j - 1)))) (wrap64 (t2 + rd ins (wrap64 (m - 1))))) (wrap64 (wrap64 (t3 + t4) + rd (row4 rel (wrap64 (j - 1))) (wrap64 (m - 1)))))
    else none))
theorem impl_forest.rise (la lb del ins : List Int) (rel : List (List Int)) : ∀ (k : Nat) (i j q m r : Int), impl_forest.f la lb del ins rel k i j q m = some r → impl_forest.f la lb del ins rel (k + 1) i j q m = some r
 | 0, _, _, _, _, _, h => by simp [impl_forest.f] at h
 | k + 1, i, j, q, m, r, h => by
  have ih := impl_forest.rise la lb del ins rel k
  rw [impl_forest.f] at h
  rw [impl_forest.f]
  by_cases h1 : i = j
  · rw [if_pos h1] at h ⊢
    by_cases h2 : q = m
    · rw [if_pos h2] at h ⊢
      exact h
    · rw [if_neg h2] at h ⊢
      by_cases h3 : 0 ≤ wrap64 (m - 1) ∧ wrap64 (m - 1) < (ins.length : Int)
      · rw [if_pos h3] at h ⊢
        obtain ⟨t, ht, h⟩ := Option.bind_eq_some_iff.mp h
        rw [ih _ _ _ _ _ ht]
        exact h
      · rw [if_neg h3] at h
        cases h
  · rw [if_neg h1] at h ⊢
    by_cases h2 : q = m
    · rw [if_pos h2] at h ⊢
      by_cases h3 : 0 ≤ wrap64 (j - 1) ∧ wrap64 (j - 1) < (del.length : Int)
      · rw [if_pos h3] at h ⊢
        obtain ⟨t, ht, h⟩ := Option.bind_eq_some_iff.mp h
        rw [ih _ _ _ _ _ ht]
        exact h
      · rw [if_neg h3] at h
        cases h
    · rw [if_neg h2] at h ⊢
      split at h
      · rename_i h3
        rw [if_pos h3]
        obtain ⟨t1, e1, h⟩ := Option.bind_eq_some_iff.mp h
        obtain ⟨t2, e2, h⟩ := Option.bind_eq_some_iff.mp h
        obtain ⟨t3, e3, h⟩ := Option.bind_eq_some_iff.mp h
        obtain ⟨t4, e4, h⟩ := Option.bind_eq_some_iff.mp h
        rw [ih _ _ _ _ _ e1, Option.bind_some, ih _ _ _ _ _ e2, Option.bind_some, ih _ _ _ _ _ e3, Option.bind_some, ih _ _ _ _ _ e4]
        exact h
      · cases h
theorem impl_forest.up (la lb del ins : List Int) (rel : List (List Int)) {k k' : Nat} (hk : k ≤ k') {i j q m r : Int} (h : impl_forest.f la lb del ins rel k i j q m = some r) : impl_forest.f la lb del ins rel k' i j q m = some r := by
  induction hk with
  | refl => exact h
  | step _ ih => exact impl_forest.rise _ _ _ _ _ _ _ _ _ _ _ ih
def forestF (la lb del ins : List Int) (rel : List (List Int)) (i j q m v : Int) : Prop := ∃ k, impl_forest.f la lb del ins rel k i j q m = some v
theorem forestF.one {la lb del ins : List Int} {rel : List (List Int)} {i j q m v : Int} (h : forestF la lb del ins rel i j q m v) {k : Nat} {r : Int} (hr : impl_forest.f la lb del ins rel k i j q m = some r) : v = r := by
  obtain ⟨k', h⟩ := h
  have h1 := impl_forest.up la lb del ins rel (Nat.le_max_left k k') hr
  rw [impl_forest.up la lb del ins rel (Nat.le_max_right k k') h] at h1
  exact Option.some.inj h1
def IntAt (w : World) (A : Option Addr) (l : List Int) : Prop := ∀ i : Int, 0 ≤ i → i < (l.length : Int) → ∃ ad, A = some ad ∧ w.cell? (ad.add i.toNat) = some (.int .i64 (rd l i))
def RowsAt (w : World) (A : Option Addr) (ls : List (List Int)) : Prop := ∀ i : Int, 0 ≤ i → i < (ls.length : Int) → ∃ ad B c, A = some ad ∧ w.cell? (ad.add i.toNat) = some (.slice B (row4 ls i).length c) ∧ IntAt w B (row4 ls i)
structure MeasAt (w : World) (A2 A3 A4 A5 A6 : Option Addr) (la lb del ins : List Int) (rel : List (List Int)) : Prop where
  la : IntAt w A2 la
  lb : IntAt w A3 lb
  del : IntAt w A4 del
  ins : IntAt w A5 ins
  rel : RowsAt w A6 rel
theorem IntAt.keep {w w' : World} (hc : ∀ p v, w.cell? p = some v → w'.cell? p = some v) {A : Option Addr} {l : List Int} (h : IntAt w A l) : IntAt w' A l := fun i h0 h1 => by
  obtain ⟨ad, e, h2⟩ := h i h0 h1
  exact ⟨ad, e, hc _ _ h2⟩
theorem MeasAt.keep {w w' : World} (hc : ∀ p v, w.cell? p = some v → w'.cell? p = some v) {A2 A3 A4 A5 A6 : Option Addr} {la lb del ins : List Int} {rel : List (List Int)} (h : MeasAt w A2 A3 A4 A5 A6 la lb del ins rel) : MeasAt w' A2 A3 A4 A5 A6 la lb del ins rel :=
  ⟨h.la.keep hc, h.lb.keep hc, h.del.keep hc, h.ins.keep hc, fun i h0 h1 => by
    obtain ⟨ad, B, c, e, h2, h3⟩ := h.rel i h0 h1
    exact ⟨ad, B, c, e, hc _ _ h2, h3.keep hc⟩⟩
theorem Memo.new {F : Int → Int → Int → Int → Int → Prop} {w : World} {b : Nat} (h : w.heap[b]? = some (.map #[] 0)) : Memo F w b := ⟨_, _, h, fun e he => by cases he⟩
theorem rows_at {w : World} {A : Option Addr} {n : Nat} {xs : List (List Int)} (h : Kd.C (Kd.slice 3 (Kd.int .i64)) w A n xs) (i : Int) (h0 : 0 ≤ i) (h1 : i < (n : Int)) : ∃ ad B c, A = some ad ∧ w.cell? (ad.add i.toNat) = some (.slice B (row4 xs i).length c) ∧ IntAt w B (row4 xs i) := by
  obtain ⟨ad, B, c, e, h2, _, h4⟩ := at_L3 h i h0 h1
  exact ⟨ad, B, c, e, h2, fun j j0 j1 => Kd.at_int h4 j j0 j1⟩
theorem grown_eq {w w' : World} {row : Option Nat} (h1 : w'.os = w.os) (h2 : w'.tape = w.tape) (h3 : w'.output = w.output) (h4 : w'.heap = w.heap) : w.grownBy w' row := ⟨h1, h2, h3, by rw [h4]; exact Nat.le_refl _, fun k _ _ => by rw [h4]⟩
theorem below_cells {w w' : World} (hb : Below w.heap.size w w') (p : Addr) (v : Value) (h : w.cell? p = some v) : w'.cell? p = some v := (hb.cell (World.block_lt_of_cell? _ _ h)).trans h
section
variable {ops : Array Oper} {rest : List Oper} {o : Oper} {a : Act} {Q : Exit → Act → World → Prop}
theorem look_event {W : World} (hgd : o.guard = none) (m x : Operand) (hop : o.op = .lookup 97 m x true) (b : Nat) (hm : a.eval m = .map (some b)) (i j q k : Int) (hx : a.eval x = K4 i j q k) (v : Int) (ok : Bool) (hl : (Instr.lookup 97 (.map (some b)) (K4 i j q k) true).run Try.prog W = .ok (.tuple #[.int .i64 v, .bool ok]) W)
    (h : wpList Try.prog ops Q rest (a.put o.dst (.tuple #[.int .i64 v, .bool ok])) W) : wpList Try.prog ops Q (o :: rest) a W := by
  refine Kd.event_run hgd (v := .tuple #[.int .i64 v, .bool ok]) (w1 := W) ?_ h
  simp [execOp, hop, hm, hx, hl, Result.andThen]
theorem make_event {W : World} (hgd : o.guard = none) (hop : o.op = .makeMap 97 none)
    (h : ∀ b w', b = W.heap.size → w'.heap[b]? = some (.map #[] 0) → Below W.heap.size W w' → wpList Try.prog ops Q rest (a.put o.dst (.map (some b))) w') : wpList Try.prog ops Q (o :: rest) a W := by
  refine Kd.event_run hgd (v := .map (some W.heap.size)) (w1 := W.alloc (.map #[] 0)) ?_ (h _ _ rfl (blk_new W _) (below_alloc (Below.refl _ _) _))
  simp [execOp, hop, run_makeMap, Result.andThen]
theorem upd_event {F : Int → Int → Int → Int → Int → Prop} {W : World} (hgd : o.guard = none) (m x v : Operand) (hop : o.op = .mapUpdate 97 m x v) (b : Nat) (hm : a.eval m = .map (some b)) (i j q k n : Int) (hx : a.eval x = K4 i j q k) (hv : a.eval v = .int .i64 n) (hM : Memo F W b) (hF : F i j q k n)
    (h : ∀ w', Memo F w' b → W.grownBy w' (some b) → wpList Try.prog ops Q rest (a.put o.dst undef) w') : wpList Try.prog ops Q (o :: rest) a W := by
  obtain ⟨w', h1, h2, h3⟩ := hM.store i j q k n hF
  refine wpList_plain hgd fun K' hK' => ?_
  unfold Oper.wp
  simp [execOp, hop, hm, hx, hv, h1, Result.andThen]
  exact hK' _ _ (h w' h2 h3)
end
def ForestAt (la lb del ins : List Int) (rel : List (List Int)) (b : Nat) (A0 A1 A2 A3 A4 A5 A6 : Option Addr) (n0 n1 c0 c1 c2 c3 c4 c5 c6 : Nat) (k : Nat) : Prop := ∀ (i j q m r : Int) (w : World), MeasAt w A2 A3 A4 A5 A6 la lb del ins rel → Memo (forestF la lb del ins rel) w b → impl_forest.f la lb del ins rel k i j q m = some r →
  Calls Try.prog 68 #[.agg #[.slice A0 n0 c0, .slice A1 n1 c1, .slice A2 la.length c2, .slice A3 lb.length c3, .slice A4 del.length c4, .slice A5 ins.length c5, .slice A6 rel.length c6], .agg #[.int .i64 i, .int .i64 j, .int .i64 q, .int .i64 m], .map (some b)] w fun e w' => e = .returned (.int .i64 r) ∧ Memo (forestF la lb del ins rel) w' b ∧ w.grownBy w' (some b)
def impl_forest.T10 : Bool × List (List Nat × List Nat) := (true, [([], []), ([], []), ([1], [1]), ([], []), ([3], [3]), ([], []), ([5], [5]), ([], []), ([7], [7]), ([8], [8]), ([2, 4, 6, 9], [2, 4, 6, 9]), ([], []), ([0, 10, 11], [0, 10, 11]), ([], []), ([13], [13]), ([], []), ([15], [15]), ([16], [16]), ([14, 17], [14, 17]), ([18], [18]), ([12, 19], [12, 19]), ([20, 12, 0, 1, 2, 3, 4, 5, 6, 7, 8, 9, 10, 11, 12, 13, 14, 15, 16, 17, 18, 19, 20], [20])])
def impl_forest.B10 : List Nat := [0, 0, 2, 0, 8, 0, 32, 0, 128, 384, 1022, 0, 4095, 0, 8192, 0, 32768, 98304, 253952, 516096, 1048575, 2097151]
theorem impl_forest.tab10 : rtab .any (opsOf Try.f68 10) = impl_forest.T10 := by kernel_rfl
theorem impl_forest.bits10 : waitsOk impl_forest.T10.2 impl_forest.B10 = true := by kernel_rfl
def impl_forest.T12 : Bool × List (List Nat × List Nat) := (true, [([], []), ([], []), ([1], [1]), ([], []), ([3], [3]), ([4], [4]), ([], []), ([6], [6]), ([], []), ([8], [8]), ([2, 5, 7, 9], [2, 5, 7, 9]), ([], []), ([0, 10, 11], [0, 10, 11]), ([], []), ([13], [13]), ([], []), ([15], [15]), ([16], [16]), ([14, 17], [14, 17]), ([18], [18]), ([12, 19], [12, 19]), ([20, 12, 0, 1, 2, 3, 4, 5, 6, 7, 8, 9, 10, 11, 12, 13, 14, 15, 16, 17, 18, 19, 20], [20])])
def impl_forest.B12 : List Nat := [0, 0, 2, 0, 8, 24, 0, 64, 0, 256, 1022, 0, 4095, 0, 8192, 0, 32768, 98304, 253952, 516096, 1048575, 2097151]
theorem impl_forest.tab12 : rtab .any (opsOf Try.f68 12) = impl_forest.T12 := by kernel_rfl
theorem impl_forest.bits12 : waitsOk impl_forest.T12.2 impl_forest.B12 = true := by kernel_rfl
def impl_forest.T7 : Bool × List (List Nat × List Nat) := (true, [([], []), ([], []), ([1], [1]), ([], []), ([], []), ([4], [4]), ([], []), ([6], [6]), ([2, 3, 5, 7], [2, 3, 5, 7]), ([], []), ([0, 8, 9], [0, 8, 9]), ([], []), ([11], [11]), ([], []), ([12, 13], [12, 13]), ([14], [14]), ([10, 15], [10, 15]), ([], []), ([], []), ([18], [18]), ([], []), ([20], [20]), ([], []), ([22], [22]), ([], []), ([19, 21, 23, 24], [19, 21, 23, 24]), ([], []), ([17, 25, 26, 10], [17, 25, 26]), ([], []), ([28], [28]), ([], []), ([29, 30], [29, 30]), ([31], [31]), ([27, 32], [27, 32]), ([], []), ([], []), ([], []), ([], []), ([], []), ([35, 36, 37, 38], [35, 36, 37, 38]), ([], []), ([34, 39, 40, 27], [34, 39, 40]), ([], []), ([], []), ([43], [43]), ([], []), ([], []), ([46], [46]), ([], []), ([44, 45, 47, 48], [44, 45, 47, 48]), ([], []), ([42, 49, 50, 41], [42, 49, 50]), ([41, 51], [41, 51]), ([], []), ([53], [53]), ([], []), ([54, 55], [54, 55]), ([56], [56]), ([], []), ([57, 58], [57, 58]), ([59], [59]), ([52, 60], [52, 60]), ([16, 33, 61], [16, 33, 61]), ([62, 51, 0, 1, 2, 3, 4, 5, 6, 7, 8, 9, 10, 11, 12, 13, 14, 15, 16, 17, 18, 19, 20, 21, 22, 23, 24, 25, 26, 27, 28, 29, 30, 31, 32, 33, 34, 35, 36, 37, 38, 39, 40, 41, 42, 43, 44, 45, 46, 47, 48, 49, 50, 51, 52, 53, 54, 55, 56, 57, 58, 59, 60, 61, 62], [62])])
def impl_forest.B7 : List Nat := [0, 0, 2, 0, 0, 16, 0, 64, 254, 0, 1023, 0, 2048, 0, 14336, 30720, 65535, 0, 0, 262144, 0, 1048576, 0, 4194304, 0, 33292288, 0, 134088703, 0, 268435456, 0, 1879048192, 4026531840, 8589805567, 0, 0, 0, 0, 0, 515396075520, 0, 2182111692799, 0, 0, 8796093022208, 0, 0, 70368744177664, 0, 554153860399104, 0, 2251782902122495, 4503582715807743, 0, 9007199254740992, 0, 63050394783186944, 135107988821114880, 0, 567453553048682496, 1143914305352105984, 2305842992302131199, 4611686018427387903, 9223372036854775807]
theorem impl_forest.tab7 : rtab .any (opsOf Try.f68 7) = impl_forest.T7 := by kernel_rfl
theorem impl_forest.bits7 : waitsOk impl_forest.T7.2 impl_forest.B7 = true := by kernel_rfl
def impl_forest.T5 : Bool × List (List Nat × List Nat) := (true, [([], []), ([0], [0]), ([1], [1]), ([], []), ([3], [3]), ([4], [4]), ([2, 0, 1, 2], [2]), ([5, 6, 0, 1, 2, 3, 4, 5, 6], [5])])
def impl_forest.B5 : List Nat := [0, 1, 3, 0, 8, 24, 7, 127]
theorem impl_forest.tab5 : rtab .any (opsOf Try.f68 5) = impl_forest.T5 := by kernel_rfl
theorem impl_forest.bits5 : waitsOk impl_forest.T5.2 impl_forest.B5 = true := by kernel_rfl
def impl_forest.T6 : Bool × List (List Nat × List Nat) := (true, [([], []), ([0], [0]), ([], []), ([2], [2]), ([], []), ([3, 4], [3, 4]), ([5], [5]), ([1, 6], [1, 6]), ([], []), ([8], [8]), ([], []), ([10], [10]), ([], []), ([11, 12], [11, 12]), ([13], [13]), ([9, 14], [9, 14]), ([7, 0, 1, 2, 3, 4, 5, 6, 7], [7]), ([15, 16, 0, 1, 2, 3, 4, 5, 6, 7, 8, 9, 10, 11, 12, 13, 14, 15, 16], [15])])
def impl_forest.B6 : List Nat := [0, 1, 0, 4, 0, 28, 60, 127, 0, 256, 0, 1024, 0, 7168, 15360, 32512, 255, 131071]
theorem impl_forest.tab6 : rtab .any (opsOf Try.f68 6) = impl_forest.T6 := by kernel_rfl
theorem impl_forest.bits6 : waitsOk impl_forest.T6.2 impl_forest.B6 = true := by kernel_rfl
set_option maxHeartbeats 8000000 in
set_option maxRecDepth 100000 in
theorem impl_forest.way0 (la lb del ins : List Int) (rel : List (List Int)) (b : Nat) (A0 A1 A2 A3 A4 A5 A6 : Option Addr) (n0 n1 c0 c1 c2 c3 c4 c5 c6 : Nat) (k : Nat) (ih : ForestAt la lb del ins rel b A0 A1 A2 A3 A4 A5 A6 n0 n1 c0 c1 c2 c3 c4 c5 c6 k) (i j q m r : Int) (w : World) (hS : MeasAt w A2 A3 A4 A5 A6 la lb del ins rel) (hM : Memo (forestF la lb del ins rel) w b) (hF : forestF la lb del ins rel i j q m r) (v0 : Int) (hlook : ∀ w' : World, w'.heap[b]? = w.heap[b]? → (Instr.lookup 97 (.map (some b)) (K4 i j q m) true).run Try.prog w' = .ok (.tuple #[.int .i64 v0, .bool false]) w') (b1 : (i == j) = true) (b2 : (q == m) = true) (H : some (0 : Int) = some r) :
  Calls Try.prog 68 #[.agg #[.slice A0 n0 c0, .slice A1 n1 c1, .slice A2 la.length c2, .slice A3 lb.length c3, .slice A4 del.length c4, .slice A5 ins.length c5, .slice A6 rel.length c6], .agg #[.int .i64 i, .int .i64 j, .int .i64 q, .int .i64 m], .map (some b)] w fun e w' => e = .returned (.int .i64 r) ∧ Memo (forestF la lb del ins rel) w' b ∧ w.grownBy w' (some b) := by
  unfold ForestAt at ih
  have huT := Try.underlying96
  have huM := Try.underlying91
  have HS := Aside0.mk hS
  have HM := Aside0.mk hM
  have HF := Aside0.mk hF
  have HL := Aside0.mk hlook
  clear hS hM hF hlook
  obtain rfl := Option.some.inj H
  go_enter Try.func68, Try.ntmps68
  go_wp2_with (first | ((with_reducible refine gate_dst (N := 3) rfl ?_); refine box_event ?hg (N := 3) ?hd (cs := #[.slice A0 n0 c0, .slice A1 n1 c1, .slice A2 la.length c2, .slice A3 lb.length c3, .slice A4 del.length c4, .slice A5 ins.length c5, .slice A6 rel.length c6]) (t := 91) ?hr ?_; (case hd => rfl); (case hg => rfl); (case hr => exact z19_); intro g3 hg w1 hbox hb; have BK3 := Aside0.mk hbox; have HB1 := Aside0.mk hb; clear hb hbox hg) | ((with_reducible refine gate_dst (N := 4) rfl ?_); refine box_event ?hg (N := 4) ?hd (cs := #[.int .i64 i, .int .i64 j, .int .i64 q, .int .i64 m]) (t := 96) ?hr ?_; (case hd => rfl); (case hg => rfl); (case hr => exact z19_); intro g4 hg w2 hbox hb; have BK4 := Aside0.mk hbox; have BK3 := Aside0.mk (blk_below BK3.out hb); have HB2 := Aside0.mk hb; clear hb hbox hg; obtain ⟨hc3_0, hc3_1, hc3_2, hc3_3, hc3_4, hc3_5, hc3_6, hf3_0, hf3_1, hf3_2, hf3_3, hf3_4, hf3_5, hf3_6⟩ := bx7_ BK3.out; obtain ⟨hc4_0, hc4_1, hc4_2, hc4_3, hf4_0, hf4_1, hf4_2, hf4_3⟩ := bx4_ BK4.out; have HM2 := Aside0.mk ((HM.out.grown HB1.out).grown HB2.out); have HG := Aside0.mk ((grown_of_below (row := some b) HB1.out).trans (grown_of_below HB2.out)); have HS2 := Aside0.mk ((HS.out.keep (below_cells HB1.out)).keep (below_cells HB2.out))) | (at_lookup; refine look_event rfl _ _ rfl b rfl i j q m rfl v0 false (HL.out _ ((HB2.out.block b (Nat.lt_of_lt_of_le HM.out.lt HB1.out.size)).trans (HB1.out.block b HM.out.lt))) ?_) | (at_mapUpdate; refine upd_event rfl _ _ _ rfl b rfl i j q m _ rfl rfl HM2.out HF.out ?_; intro w9 hM9 hg9))
  go_ret
  have hgx_ : World.grownBy w2 w9 (some b) := by (refine World.grownBy.trans ?_ hg9; exact grown_eq rfl rfl rfl rfl)
  exact ⟨rfl, hM9, HG.out.trans hgx_⟩

set_option maxHeartbeats 8000000 in
set_option maxRecDepth 100000 in
theorem impl_forest.wayHit (la lb del ins : List Int) (rel : List (List Int)) (b : Nat) (A0 A1 A2 A3 A4 A5 A6 : Option Addr) (n0 n1 c0 c1 c2 c3 c4 c5 c6 : Nat) (k : Nat) (ih : ForestAt la lb del ins rel b A0 A1 A2 A3 A4 A5 A6 n0 n1 c0 c1 c2 c3 c4 c5 c6 k) (i j q m r : Int) (w : World) (hS : MeasAt w A2 A3 A4 A5 A6 la lb del ins rel) (hM : Memo (forestF la lb del ins rel) w b) (hF : forestF la lb del ins rel i j q m r) (v0 : Int) (hlook : ∀ w' : World, w'.heap[b]? = w.heap[b]? → (Instr.lookup 97 (.map (some b)) (K4 i j q m) true).run Try.prog w' = .ok (.tuple #[.int .i64 v0, .bool true]) w') (hv : v0 = r) :
  Calls Try.prog 68 #[.agg #[.slice A0 n0 c0, .slice A1 n1 c1, .slice A2 la.length c2, .slice A3 lb.length c3, .slice A4 del.length c4, .slice A5 ins.length c5, .slice A6 rel.length c6], .agg #[.int .i64 i, .int .i64 j, .int .i64 q, .int .i64 m], .map (some b)] w fun e w' => e = .returned (.int .i64 r) ∧ Memo (forestF la lb del ins rel) w' b ∧ w.grownBy w' (some b) := by
  unfold ForestAt at ih
  have huT := Try.underlying96
  have huM := Try.underlying91
  have HS := Aside0.mk hS
  have HM := Aside0.mk hM
  have HF := Aside0.mk hF
  have HL := Aside0.mk hlook
  clear hS hM hF hlook
  subst hv
  go_enter Try.func68, Try.ntmps68
  go_wp2_with (first | ((with_reducible refine gate_dst (N := 3) rfl ?_); refine box_event ?hg (N := 3) ?hd (cs := #[.slice A0 n0 c0, .slice A1 n1 c1, .slice A2 la.length c2, .slice A3 lb.length c3, .slice A4 del.length c4, .slice A5 ins.length c5, .slice A6 rel.length c6]) (t := 91) ?hr ?_; (case hd => rfl); (case hg => rfl); (case hr => exact z19_); intro g3 hg w1 hbox hb; have BK3 := Aside0.mk hbox; have HB1 := Aside0.mk hb; clear hb hbox hg) | ((with_reducible refine gate_dst (N := 4) rfl ?_); refine box_event ?hg (N := 4) ?hd (cs := #[.int .i64 i, .int .i64 j, .int .i64 q, .int .i64 m]) (t := 96) ?hr ?_; (case hd => rfl); (case hg => rfl); (case hr => exact z19_); intro g4 hg w2 hbox hb; have BK4 := Aside0.mk hbox; have BK3 := Aside0.mk (blk_below BK3.out hb); have HB2 := Aside0.mk hb; clear hb hbox hg; obtain ⟨hc3_0, hc3_1, hc3_2, hc3_3, hc3_4, hc3_5, hc3_6, hf3_0, hf3_1, hf3_2, hf3_3, hf3_4, hf3_5, hf3_6⟩ := bx7_ BK3.out; obtain ⟨hc4_0, hc4_1, hc4_2, hc4_3, hf4_0, hf4_1, hf4_2, hf4_3⟩ := bx4_ BK4.out; have HM2 := Aside0.mk ((HM.out.grown HB1.out).grown HB2.out); have HG := Aside0.mk ((grown_of_below (row := some b) HB1.out).trans (grown_of_below HB2.out)); have HS2 := Aside0.mk ((HS.out.keep (below_cells HB1.out)).keep (below_cells HB2.out))) | (at_lookup; refine look_event rfl _ _ rfl b rfl i j q m rfl v0 true (HL.out _ ((HB2.out.block b (Nat.lt_of_lt_of_le HM.out.lt HB1.out.size)).trans (HB1.out.block b HM.out.lt))) ?_))
  go_ret
  exact ⟨rfl, HM2.out, HG.out⟩

set_option maxHeartbeats 8000000 in
set_option maxRecDepth 100000 in
theorem impl_forest.way10 (la lb del ins : List Int) (rel : List (List Int)) (b : Nat) (A0 A1 A2 A3 A4 A5 A6 : Option Addr) (n0 n1 c0 c1 c2 c3 c4 c5 c6 : Nat) (k : Nat) (ih : ForestAt la lb del ins rel b A0 A1 A2 A3 A4 A5 A6 n0 n1 c0 c1 c2 c3 c4 c5 c6 k) (i j q m r : Int) (w : World) (hS : MeasAt w A2 A3 A4 A5 A6 la lb del ins rel) (hM : Memo (forestF la lb del ins rel) w b) (hF : forestF la lb del ins rel i j q m r) (v0 : Int) (hlook : ∀ w' : World, w'.heap[b]? = w.heap[b]? → (Instr.lookup 97 (.map (some b)) (K4 i j q m) true).run Try.prog w' = .ok (.tuple #[.int .i64 v0, .bool false]) w') (b1 : (i == j) = true) (b2 : (q == m) = false) (H : (if 0 ≤ wrap64 (m - 1) ∧ wrap64 (m - 1) < (ins.length : Int) then (impl_forest.f la lb del ins rel k i j q (wrap64 (m - 1))).bind fun t => some (wrap64 (t + rd ins (wrap64 (m - 1)))) else none) = some r) :
  Calls Try.prog 68 #[.agg #[.slice A0 n0 c0, .slice A1 n1 c1, .slice A2 la.length c2, .slice A3 lb.length c3, .slice A4 del.length c4, .slice A5 ins.length c5, .slice A6 rel.length c6], .agg #[.int .i64 i, .int .i64 j, .int .i64 q, .int .i64 m], .map (some b)] w fun e w' => e = .returned (.int .i64 r) ∧ Memo (forestF la lb del ins rel) w' b ∧ w.grownBy w' (some b) := by
  unfold ForestAt at ih
  have huT := Try.underlying96
  have huM := Try.underlying91
  have HS := Aside0.mk hS
  have HM := Aside0.mk hM
  have HF := Aside0.mk hF
  have HL := Aside0.mk hlook
  clear hS hM hF hlook
  obtain ⟨⟨p1, p2⟩, H⟩ := ifs_ H
  obtain ⟨t1, T1, H⟩ := bnd_ H
  obtain rfl := Option.some.inj H
  obtain ⟨d, hm1⟩ : ∃ d, wrap64 (m - 1) = d := ⟨_, rfl⟩
  have hm1w : IntKind.i64.wrap (m - 1) = d := (i64_w _).trans hm1
  rw [hm1] at p1 p2 T1 HF ⊢
  obtain ⟨ad5, ea5, hx5⟩ := HS.out.ins d p1 p2
  subst ea5
  have hp1 := eq_true p1
  have hp2 := eq_true p2
  have HX5 := Aside0.mk hx5
  clear p1 p2 hx5
  go_enter Try.func68, Try.ntmps68
  go_wp2_with (first | ((with_reducible refine gate_dst (N := 3) rfl ?_); refine box_event ?hg (N := 3) ?hd (cs := #[.slice A0 n0 c0, .slice A1 n1 c1, .slice A2 la.length c2, .slice A3 lb.length c3, .slice A4 del.length c4, .slice (some ad5) ins.length c5, .slice A6 rel.length c6]) (t := 91) ?hr ?_; (case hd => rfl); (case hg => rfl); (case hr => exact z19_); intro g3 hg w1 hbox hb; have BK3 := Aside0.mk hbox; have HB1 := Aside0.mk hb; clear hb hbox hg) | ((with_reducible refine gate_dst (N := 4) rfl ?_); refine box_event ?hg (N := 4) ?hd (cs := #[.int .i64 i, .int .i64 j, .int .i64 q, .int .i64 m]) (t := 96) ?hr ?_; (case hd => rfl); (case hg => rfl); (case hr => exact z19_); intro g4 hg w2 hbox hb; have BK4 := Aside0.mk hbox; have BK3 := Aside0.mk (blk_below BK3.out hb); have HB2 := Aside0.mk hb; clear hb hbox hg; obtain ⟨hc3_0, hc3_1, hc3_2, hc3_3, hc3_4, hc3_5, hc3_6, hf3_0, hf3_1, hf3_2, hf3_3, hf3_4, hf3_5, hf3_6⟩ := bx7_ BK3.out; obtain ⟨hc4_0, hc4_1, hc4_2, hc4_3, hf4_0, hf4_1, hf4_2, hf4_3⟩ := bx4_ BK4.out; have HM2 := Aside0.mk ((HM.out.grown HB1.out).grown HB2.out); have HG := Aside0.mk ((grown_of_below (row := some b) HB1.out).trans (grown_of_below HB2.out)); have HS2 := Aside0.mk ((HS.out.keep (below_cells HB1.out)).keep (below_cells HB2.out))) | (at_lookup; refine look_event rfl _ _ rfl b rfl i j q m rfl v0 false (HL.out _ ((HB2.out.block b (Nat.lt_of_lt_of_le HM.out.lt HB1.out.size)).trans (HB1.out.block b HM.out.lt))) ?_))
  have hx5 := below_cells HB2.out _ _ (below_cells HB1.out _ _ HX5.out)
  go_upto_region 10 with (fail)
  refine start_ (n := 22) (S := fun w' => w'.cell? ⟨g3, 0, none⟩ = some (.slice A0 n0 c0) ∧ w'.cell? ⟨g3, 1, none⟩ = some (.slice A1 n1 c1) ∧ w'.cell? ⟨g3, 2, none⟩ = some (.slice A2 la.length c2) ∧ w'.cell? ⟨g3, 3, none⟩ = some (.slice A3 lb.length c3) ∧ w'.cell? ⟨g3, 4, none⟩ = some (.slice A4 del.length c4) ∧ w'.cell? ⟨g3, 5, none⟩ = some (.slice (some ad5) ins.length c5) ∧ w'.cell? ⟨g3, 6, none⟩ = some (.slice A6 rel.length c6) ∧ w'.cell? ⟨g4, 0, none⟩ = some (.int .i64 i) ∧ w'.cell? ⟨g4, 1, none⟩ = some (.int .i64 j) ∧ w'.cell? ⟨g4, 2, none⟩ = some (.int .i64 q) ∧ w'.cell? ⟨g4, 3, none⟩ = some (.int .i64 m) ∧ w'.cell? (ad5.add d.toNat) = some (.int .i64 (rd ins d))) (ds := []) (fl_ 22 0) (by kernel_rfl) rfl (fl_zero _) ⟨hc3_0, hc3_1, hc3_2, hc3_3, hc3_4, hc3_5, hc3_6, hc4_0, hc4_1, hc4_2, hc4_3, hx5⟩ (fun hHeld => ?_)
  refine with_tabW impl_forest.tab10 impl_forest.bits10 (fun HT_ HW_ => ?_)
  refine zpg_ (i := 1) (ra_ [0, 1, 1, 20]) HT_ rfl rfl (by kernel_rfl) (fun _ _ _ h => h) (by rfl) ?_
  refine zpg_ (i := 3) (ra_ [0, 1, 1, 1, 1, 18]) HT_ rfl rfl (by kernel_rfl) (fun _ _ _ h => h) (by rfl) ?_
  refine zpg_ (i := 5) (ra_ [0, 1, 1, 1, 1, 1, 1, 16]) HT_ rfl rfl (by kernel_rfl) (fun _ _ _ h => h) (by rfl) ?_
  refine zpg_ (i := 7) (ra_ [0, 1, 1, 1, 1, 1, 1, 1, 1, 14]) HT_ rfl rfl (by kernel_rfl) (fun _ _ _ h => h) (by rfl) ?_
  refine zpg_ (i := 11) (ra_ [0, 1, 1, 1, 1, 1, 1, 1, 1, 3, 1, 10]) HT_ rfl rfl (by kernel_rfl) (fun _ _ _ h => h) (by rfl) ?_
  refine zpg_ (i := 13) (ra_ [0, 1, 1, 1, 1, 1, 1, 1, 1, 3, 1, 1, 1, 8]) HT_ rfl rfl (by kernel_rfl) (fun _ _ _ h => h) (by rfl) ?_
  refine zpg_ (i := 15) (ra_ [0, 1, 1, 1, 1, 1, 1, 1, 1, 3, 1, 1, 1, 1, 1, 6]) HT_ rfl rfl (by kernel_rfl) (fun _ _ _ h => h) (by rfl) ?_
  refine ztg_ (i := 0) (ra_ [2, 1, 1, 1, 1, 1, 1, 3, 1, 1, 1, 1, 1, 6]) HT_ HW_ rfl rfl (by kernel_rfl) (fun _ _ _ h => h) (by rfl) hHeld ?_ z63_
  refine ztg_ (i := 2) (ra_ [4, 1, 1, 1, 1, 3, 1, 1, 1, 1, 1, 6]) HT_ HW_ rfl rfl (by kernel_rfl) (fun _ _ _ h => h) (by rfl) hHeld ?_ z63_
  refine ztg_ (i := 4) (ra_ [6, 1, 1, 3, 1, 1, 1, 1, 1, 6]) HT_ HW_ rfl rfl (by kernel_rfl) (fun _ _ _ h => h) (by rfl) hHeld ?_ z63_
  refine ztg_ (i := 6) (ra_ [8, 3, 1, 1, 1, 1, 1, 6]) HT_ HW_ rfl rfl (by kernel_rfl) (fun _ _ _ h => h) (by rfl) hHeld ?_ z63_
  refine ztg_ (i := 8) (ra_ [9, 2, 1, 1, 1, 1, 1, 6]) HT_ HW_ rfl rfl (by kernel_rfl) (fun _ _ _ h => h) (by rfl) hHeld ?_ z63_
  refine zpg_ (i := 9) (ra_ [10, 1, 1, 1, 1, 1, 1, 6]) HT_ rfl rfl (by kernel_rfl) (fun _ _ _ h => h) (by rfl) ?_
  refine zpg_ (i := 10) (ra_ [12, 1, 1, 1, 1, 6]) HT_ rfl rfl (by kernel_rfl) (fun _ _ _ h => h) (by rfl) ?_
  refine ztg_ (i := 14) (ra_ [12, 1, 3, 6]) HT_ HW_ rfl rfl (by kernel_rfl) (fun _ _ _ h => h) (by rfl) hHeld ?_ z63_
  refine ztg_ (i := 16) (ra_ [12, 1, 4, 5]) HT_ HW_ rfl rfl (by kernel_rfl) (fun _ _ _ h => h) (by rfl) hHeld ?_ z63_
  refine zpg_ (i := 17) (ra_ [12, 1, 5, 4]) HT_ rfl rfl (by kernel_rfl) (fun _ _ _ h => h) (by rfl) ?_
  refine zpg_ (i := 18) (ra_ [12, 1, 6, 3]) HT_ rfl rfl (by kernel_rfl) (fun _ _ _ h => h) (by rfl) ?_
  refine ztg_ (i := 19) (ra_ [12, 1, 7, 2]) HT_ HW_ rfl rfl (by kernel_rfl) (fun _ _ _ h => h) (by rfl) hHeld ?_ z63_
  refine one_ (i := 12) (N := some 138) (fl_ 22 20) rfl rfl (one_of HT_.out (by kernel_rfl)) (by decide) (fun K hK => ?_)
  refine goes_ Try.func68 (by kernel_rfl) rfl #[.agg #[.slice A0 n0 c0, .slice A1 n1 c1, .slice A2 la.length c2, .slice A3 lb.length c3, .slice A4 del.length c4, .slice (some ad5) ins.length c5, .slice A6 rel.length c6], .agg #[.int .i64 i, .int .i64 j, .int .i64 q, .int .i64 d], .map (some b)] (by rfl) rfl rfl z185_ ?_
  with_reducible refine (ih (i) (j) (q) (d) t1 _ ?side1 ?side2 T1.out).mono ?_
  (case side1 => exact z240_)
  (case side2 => exact HM2.out)
  rintro e w3 ⟨rfl, hM_, hg_⟩
  refine ⟨_, rfl, ?_⟩
  have HM3 := Aside0.mk hM_
  have hgx_ : World.grownBy w2 w3 (some b) := by (refine World.grownBy.trans ?_ hg_; exact grown_eq rfl rfl rfl rfl)
  have HG3 := Aside0.mk (HG.out.trans hgx_)
  have hcl3 : ∀ p_ v_, World.cell? _ p_ = some v_ → w3.cell? p_ = some v_ := fun _ _ h_ => HM2.out.cell hgx_ h_
  have HS3 := Aside0.mk (HS2.out.keep hcl3)
  clear hM_ hg_ hgx_
  refine hK.out _ _ ⟨hcl3 _ _ (hHeld.1), hcl3 _ _ (hHeld.2.1), hcl3 _ _ (hHeld.2.2.1), hcl3 _ _ (hHeld.2.2.2.1), hcl3 _ _ (hHeld.2.2.2.2.1), hcl3 _ _ (hHeld.2.2.2.2.2.1), hcl3 _ _ (hHeld.2.2.2.2.2.2.1), hcl3 _ _ (hHeld.2.2.2.2.2.2.2.1), hcl3 _ _ (hHeld.2.2.2.2.2.2.2.2.1), hcl3 _ _ (hHeld.2.2.2.2.2.2.2.2.2.1), hcl3 _ _ (hHeld.2.2.2.2.2.2.2.2.2.2.1), hcl3 _ _ (hHeld.2.2.2.2.2.2.2.2.2.2.2)⟩ (fun hHeld => ?_)
  clear hK K
  refine zn_ rfl ?_
  iterate 2 refine zp_ HT_ rfl rfl (by kernel_rfl) (fun _ _ _ h => h) (by rfl) ?_
  refine done_ (done_of HT_.out (by kernel_rfl)) ?_
  go_wp2_with ((at_mapUpdate; refine upd_event rfl _ _ _ rfl b rfl i j q m _ rfl rfl HM3.out HF.out ?_; intro w9 hM9 hg9))
  go_ret
  have hgx_ : World.grownBy w3 w9 (some b) := by (refine World.grownBy.trans ?_ hg9; exact grown_eq rfl rfl rfl rfl)
  exact ⟨rfl, hM9, HG3.out.trans hgx_⟩

set_option maxHeartbeats 8000000 in
set_option maxRecDepth 100000 in
theorem impl_forest.way12 (la lb del ins : List Int) (rel : List (List Int)) (b : Nat) (A0 A1 A2 A3 A4 A5 A6 : Option Addr) (n0 n1 c0 c1 c2 c3 c4 c5 c6 : Nat) (k : Nat) (ih : ForestAt la lb del ins rel b A0 A1 A2 A3 A4 A5 A6 n0 n1 c0 c1 c2 c3 c4 c5 c6 k) (i j q m r : Int) (w : World) (hS : MeasAt w A2 A3 A4 A5 A6 la lb del ins rel) (hM : Memo (forestF la lb del ins rel) w b) (hF : forestF la lb del ins rel i j q m r) (v0 : Int) (hlook : ∀ w' : World, w'.heap[b]? = w.heap[b]? → (Instr.lookup 97 (.map (some b)) (K4 i j q m) true).run Try.prog w' = .ok (.tuple #[.int .i64 v0, .bool false]) w') (b1 : (i == j) = false) (b2 : (q == m) = true) (H : (if 0 ≤ wrap64 (j - 1) ∧ wrap64 (j - 1) < (del.length : Int) then (impl_forest.f la lb del ins rel k i (wrap64 (j - 1)) q m).bind fun t => some (wrap64 (t + rd del (wrap64 (j - 1)))) else none) = some r) :
  Calls Try.prog 68 #[.agg #[.slice A0 n0 c0, .slice A1 n1 c1, .slice A2 la.length c2, .slice A3 lb.length c3, .slice A4 del.length c4, .slice A5 ins.length c5, .slice A6 rel.length c6], .agg #[.int .i64 i, .int .i64 j, .int .i64 q, .int .i64 m], .map (some b)] w fun e w' => e = .returned (.int .i64 r) ∧ Memo (forestF la lb del ins rel) w' b ∧ w.grownBy w' (some b) := by
  unfold ForestAt at ih
  have huT := Try.underlying96
  have huM := Try.underlying91
  have HS := Aside0.mk hS
  have HM := Aside0.mk hM
  have HF := Aside0.mk hF
  have HL := Aside0.mk hlook
  clear hS hM hF hlook
  obtain ⟨⟨p1, p2⟩, H⟩ := ifs_ H
  obtain ⟨t1, T1, H⟩ := bnd_ H
  obtain rfl := Option.some.inj H
  obtain ⟨d, hm1⟩ : ∃ d, wrap64 (j - 1) = d := ⟨_, rfl⟩
  have hm1w : IntKind.i64.wrap (j - 1) = d := (i64_w _).trans hm1
  rw [hm1] at p1 p2 T1 HF ⊢
  obtain ⟨ad4, ea4, hx4⟩ := HS.out.del d p1 p2
  subst ea4
  have hp1 := eq_true p1
  have hp2 := eq_true p2
  have HX4 := Aside0.mk hx4
  clear p1 p2 hx4
  go_enter Try.func68, Try.ntmps68
  go_wp2_with (first | ((with_reducible refine gate_dst (N := 3) rfl ?_); refine box_event ?hg (N := 3) ?hd (cs := #[.slice A0 n0 c0, .slice A1 n1 c1, .slice A2 la.length c2, .slice A3 lb.length c3, .slice (some ad4) del.length c4, .slice A5 ins.length c5, .slice A6 rel.length c6]) (t := 91) ?hr ?_; (case hd => rfl); (case hg => rfl); (case hr => exact z19_); intro g3 hg w1 hbox hb; have BK3 := Aside0.mk hbox; have HB1 := Aside0.mk hb; clear hb hbox hg) | ((with_reducible refine gate_dst (N := 4) rfl ?_); refine box_event ?hg (N := 4) ?hd (cs := #[.int .i64 i, .int .i64 j, .int .i64 q, .int .i64 m]) (t := 96) ?hr ?_; (case hd => rfl); (case hg => rfl); (case hr => exact z19_); intro g4 hg w2 hbox hb; have BK4 := Aside0.mk hbox; have BK3 := Aside0.mk (blk_below BK3.out hb); have HB2 := Aside0.mk hb; clear hb hbox hg; obtain ⟨hc3_0, hc3_1, hc3_2, hc3_3, hc3_4, hc3_5, hc3_6, hf3_0, hf3_1, hf3_2, hf3_3, hf3_4, hf3_5, hf3_6⟩ := bx7_ BK3.out; obtain ⟨hc4_0, hc4_1, hc4_2, hc4_3, hf4_0, hf4_1, hf4_2, hf4_3⟩ := bx4_ BK4.out; have HM2 := Aside0.mk ((HM.out.grown HB1.out).grown HB2.out); have HG := Aside0.mk ((grown_of_below (row := some b) HB1.out).trans (grown_of_below HB2.out)); have HS2 := Aside0.mk ((HS.out.keep (below_cells HB1.out)).keep (below_cells HB2.out))) | (at_lookup; refine look_event rfl _ _ rfl b rfl i j q m rfl v0 false (HL.out _ ((HB2.out.block b (Nat.lt_of_lt_of_le HM.out.lt HB1.out.size)).trans (HB1.out.block b HM.out.lt))) ?_))
  have hx4 := below_cells HB2.out _ _ (below_cells HB1.out _ _ HX4.out)
  go_upto_region 12 with (fail)
  refine start_ (n := 22) (S := fun w' => w'.cell? ⟨g3, 0, none⟩ = some (.slice A0 n0 c0) ∧ w'.cell? ⟨g3, 1, none⟩ = some (.slice A1 n1 c1) ∧ w'.cell? ⟨g3, 2, none⟩ = some (.slice A2 la.length c2) ∧ w'.cell? ⟨g3, 3, none⟩ = some (.slice A3 lb.length c3) ∧ w'.cell? ⟨g3, 4, none⟩ = some (.slice (some ad4) del.length c4) ∧ w'.cell? ⟨g3, 5, none⟩ = some (.slice A5 ins.length c5) ∧ w'.cell? ⟨g3, 6, none⟩ = some (.slice A6 rel.length c6) ∧ w'.cell? ⟨g4, 0, none⟩ = some (.int .i64 i) ∧ w'.cell? ⟨g4, 1, none⟩ = some (.int .i64 j) ∧ w'.cell? ⟨g4, 2, none⟩ = some (.int .i64 q) ∧ w'.cell? ⟨g4, 3, none⟩ = some (.int .i64 m) ∧ w'.cell? (ad4.add d.toNat) = some (.int .i64 (rd del d))) (ds := []) (fl_ 22 0) (by kernel_rfl) rfl (fl_zero _) ⟨hc3_0, hc3_1, hc3_2, hc3_3, hc3_4, hc3_5, hc3_6, hc4_0, hc4_1, hc4_2, hc4_3, hx4⟩ (fun hHeld => ?_)
  refine with_tabW impl_forest.tab12 impl_forest.bits12 (fun HT_ HW_ => ?_)
  refine zpg_ (i := 1) (ra_ [0, 1, 1, 20]) HT_ rfl rfl (by kernel_rfl) (fun _ _ _ h => h) (by rfl) ?_
  refine zpg_ (i := 3) (ra_ [0, 1, 1, 1, 1, 18]) HT_ rfl rfl (by kernel_rfl) (fun _ _ _ h => h) (by rfl) ?_
  refine zpg_ (i := 6) (ra_ [0, 1, 1, 1, 1, 2, 1, 15]) HT_ rfl rfl (by kernel_rfl) (fun _ _ _ h => h) (by rfl) ?_
  refine zpg_ (i := 8) (ra_ [0, 1, 1, 1, 1, 2, 1, 1, 1, 13]) HT_ rfl rfl (by kernel_rfl) (fun _ _ _ h => h) (by rfl) ?_
  refine zpg_ (i := 11) (ra_ [0, 1, 1, 1, 1, 2, 1, 1, 1, 2, 1, 10]) HT_ rfl rfl (by kernel_rfl) (fun _ _ _ h => h) (by rfl) ?_
  refine zpg_ (i := 13) (ra_ [0, 1, 1, 1, 1, 2, 1, 1, 1, 2, 1, 1, 1, 8]) HT_ rfl rfl (by kernel_rfl) (fun _ _ _ h => h) (by rfl) ?_
  refine zpg_ (i := 15) (ra_ [0, 1, 1, 1, 1, 2, 1, 1, 1, 2, 1, 1, 1, 1, 1, 6]) HT_ rfl rfl (by kernel_rfl) (fun _ _ _ h => h) (by rfl) ?_
  refine ztg_ (i := 0) (ra_ [2, 1, 1, 2, 1, 1, 1, 2, 1, 1, 1, 1, 1, 6]) HT_ HW_ rfl rfl (by kernel_rfl) (fun _ _ _ h => h) (by rfl) hHeld ?_ z63_
  refine ztg_ (i := 2) (ra_ [4, 2, 1, 1, 1, 2, 1, 1, 1, 1, 1, 6]) HT_ HW_ rfl rfl (by kernel_rfl) (fun _ _ _ h => h) (by rfl) hHeld ?_ z63_
  refine ztg_ (i := 4) (ra_ [5, 1, 1, 1, 1, 2, 1, 1, 1, 1, 1, 6]) HT_ HW_ rfl rfl (by kernel_rfl) (fun _ _ _ h => h) (by rfl) hHeld ?_ z63_
  refine zpg_ (i := 5) (ra_ [7, 1, 1, 2, 1, 1, 1, 1, 1, 6]) HT_ rfl rfl (by kernel_rfl) (fun _ _ _ h => h) (by rfl) ?_
  refine ztg_ (i := 7) (ra_ [9, 2, 1, 1, 1, 1, 1, 6]) HT_ HW_ rfl rfl (by kernel_rfl) (fun _ _ _ h => h) (by rfl) hHeld ?_ z63_
  refine ztg_ (i := 9) (ra_ [10, 1, 1, 1, 1, 1, 1, 6]) HT_ HW_ rfl rfl (by kernel_rfl) (fun _ _ _ h => h) (by rfl) hHeld ?_ z63_
  refine zpg_ (i := 10) (ra_ [12, 1, 1, 1, 1, 6]) HT_ rfl rfl (by kernel_rfl) (fun _ _ _ h => h) (by rfl) ?_
  refine ztg_ (i := 14) (ra_ [12, 1, 3, 6]) HT_ HW_ rfl rfl (by kernel_rfl) (fun _ _ _ h => h) (by rfl) hHeld ?_ z63_
  refine ztg_ (i := 16) (ra_ [12, 1, 4, 5]) HT_ HW_ rfl rfl (by kernel_rfl) (fun _ _ _ h => h) (by rfl) hHeld ?_ z63_
  refine zpg_ (i := 17) (ra_ [12, 1, 5, 4]) HT_ rfl rfl (by kernel_rfl) (fun _ _ _ h => h) (by rfl) ?_
  refine zpg_ (i := 18) (ra_ [12, 1, 6, 3]) HT_ rfl rfl (by kernel_rfl) (fun _ _ _ h => h) (by rfl) ?_
  refine ztg_ (i := 19) (ra_ [12, 1, 7, 2]) HT_ HW_ rfl rfl (by kernel_rfl) (fun _ _ _ h => h) (by rfl) hHeld ?_ z63_
  refine one_ (i := 12) (N := some 165) (fl_ 22 20) rfl rfl (one_of HT_.out (by kernel_rfl)) (by decide) (fun K hK => ?_)
  refine goes_ Try.func68 (by kernel_rfl) rfl #[.agg #[.slice A0 n0 c0, .slice A1 n1 c1, .slice A2 la.length c2, .slice A3 lb.length c3, .slice (some ad4) del.length c4, .slice A5 ins.length c5, .slice A6 rel.length c6], .agg #[.int .i64 i, .int .i64 d, .int .i64 q, .int .i64 m], .map (some b)] (by rfl) rfl rfl z185_ ?_
  with_reducible refine (ih (i) (d) (q) (m) t1 _ ?side1 ?side2 T1.out).mono ?_
  (case side1 => exact z240_)
  (case side2 => exact HM2.out)
  rintro e w3 ⟨rfl, hM_, hg_⟩
  refine ⟨_, rfl, ?_⟩
  have HM3 := Aside0.mk hM_
  have hgx_ : World.grownBy w2 w3 (some b) := by (refine World.grownBy.trans ?_ hg_; exact grown_eq rfl rfl rfl rfl)
  have HG3 := Aside0.mk (HG.out.trans hgx_)
  have hcl3 : ∀ p_ v_, World.cell? _ p_ = some v_ → w3.cell? p_ = some v_ := fun _ _ h_ => HM2.out.cell hgx_ h_
  have HS3 := Aside0.mk (HS2.out.keep hcl3)
  clear hM_ hg_ hgx_
  refine hK.out _ _ ⟨hcl3 _ _ (hHeld.1), hcl3 _ _ (hHeld.2.1), hcl3 _ _ (hHeld.2.2.1), hcl3 _ _ (hHeld.2.2.2.1), hcl3 _ _ (hHeld.2.2.2.2.1), hcl3 _ _ (hHeld.2.2.2.2.2.1), hcl3 _ _ (hHeld.2.2.2.2.2.2.1), hcl3 _ _ (hHeld.2.2.2.2.2.2.2.1), hcl3 _ _ (hHeld.2.2.2.2.2.2.2.2.1), hcl3 _ _ (hHeld.2.2.2.2.2.2.2.2.2.1), hcl3 _ _ (hHeld.2.2.2.2.2.2.2.2.2.2.1), hcl3 _ _ (hHeld.2.2.2.2.2.2.2.2.2.2.2)⟩ (fun hHeld => ?_)
  clear hK K
  refine zn_ rfl ?_
  iterate 2 refine zp_ HT_ rfl rfl (by kernel_rfl) (fun _ _ _ h => h) (by rfl) ?_
  refine done_ (done_of HT_.out (by kernel_rfl)) ?_
  go_wp2_with ((at_mapUpdate; refine upd_event rfl _ _ _ rfl b rfl i j q m _ rfl rfl HM3.out HF.out ?_; intro w9 hM9 hg9))
  go_ret
  have hgx_ : World.grownBy w3 w9 (some b) := by (refine World.grownBy.trans ?_ hg9; exact grown_eq rfl rfl rfl rfl)
  exact ⟨rfl, hM9, HG3.out.trans hgx_⟩

set_option maxHeartbeats 8000000 in
set_option maxRecDepth 100000 in
theorem impl_forest.way7 (la lb del ins : List Int) (rel : List (List Int)) (b : Nat) (A0 A1 A2 A3 A4 A5 A6 : Option Addr) (n0 n1 c0 c1 c2 c3 c4 c5 c6 : Nat) (k : Nat) (ih : ForestAt la lb del ins rel b A0 A1 A2 A3 A4 A5 A6 n0 n1 c0 c1 c2 c3 c4 c5 c6 k) (i j q m r : Int) (w : World) (hS : MeasAt w A2 A3 A4 A5 A6 la lb del ins rel) (hM : Memo (forestF la lb del ins rel) w b) (hF : forestF la lb del ins rel i j q m r) (v0 : Int) (hlook : ∀ w' : World, w'.heap[b]? = w.heap[b]? → (Instr.lookup 97 (.map (some b)) (K4 i j q m) true).run Try.prog w' = .ok (.tuple #[.int .i64 v0, .bool false]) w') (b1 : (i == j) = false) (b2 : (q == m) = false) (H : (if (0 ≤ wrap64 (j - 1) ∧ wrap64 (j - 1) < (la.length : Int) ∧ wrap64 (j - 1) < (del.length : Int) ∧ wrap64 (j - 1) < (rel.length : Int)) ∧ (0 ≤ wrap64 (m - 1) ∧ wrap64 (m - 1) < (lb.length : Int) ∧ wrap64 (m - 1) < (ins.length : Int) ∧ wrap64 (m - 1) < ((row4 rel (wrap64 (j - 1))).length : Int)) then (impl_forest.f la lb del ins rel k i (wrap64 (j - 1)) q m).bind fun t1 => (impl_forest.f la lb del ins rel k i j q (wrap64 (m - 1))).bind fun t2 => (impl_forest.f la lb del ins rel k (mx4 i (rd la (wrap64 (j - 1)))) (wrap64 (j - 1)) (mx4 q (rd lb (wrap64 (m - 1)))) (wrap64 (m - 1))).bind fun t3 => (impl_forest.f la lb del ins rel k i (mx4 i (rd la (wrap64 (j - 1)))) q (mx4 q (rd lb (wrap64 (m - 1))))).bind fun t4 => some (mn (mn (wrap64 (t1 + rd del (wrap64 (j - 1)))) (wrap64 (t2 + rd ins (wrap64 (m - 1))))) (wrap64 (wrap64 (t3 + t4) + rd (row4 rel (wrap64 (j - 1))) (wrap64 (m - 1))))) else none) = some r) :
  Calls Try.prog 68 #[.agg #[.slice A0 n0 c0, .slice A1 n1 c1, .slice A2 la.length c2, .slice A3 lb.length c3, .slice A4 del.length c4, .slice A5 ins.length c5, .slice A6 rel.length c6], .agg #[.int .i64 i, .int .i64 j, .int .i64 q, .int .i64 m], .map (some b)] w fun e w' => e = .returned (.int .i64 r) ∧ Memo (forestF la lb del ins rel) w' b ∧ w.grownBy w' (some b) := by
  unfold ForestAt at ih
  have huT := Try.underlying96
  have huM := Try.underlying91
  have HS := Aside0.mk hS
  have HM := Aside0.mk hM
  have HF := Aside0.mk hF
  have HL := Aside0.mk hlook
  clear hS hM hF hlook
  obtain ⟨⟨⟨p1, p2, p3, p4⟩, s1, s2, s3, s4⟩, H⟩ := ifs_ H
  obtain ⟨t1, T1, H⟩ := bnd_ H
  obtain ⟨t2, T2, H⟩ := bnd_ H
  obtain ⟨t3, T3, H⟩ := bnd_ H
  obtain ⟨t4, T4, H⟩ := bnd_ H
  obtain rfl := Option.some.inj H
  obtain ⟨p, hp⟩ : ∃ d, wrap64 (j - 1) = d := ⟨_, rfl⟩
  have hpw : IntKind.i64.wrap (j - 1) = p := (i64_w _).trans hp
  obtain ⟨d, hm1⟩ : ∃ d, wrap64 (m - 1) = d := ⟨_, rfl⟩
  have hm1w : IntKind.i64.wrap (m - 1) = d := (i64_w _).trans hm1
  rw [hp] at p1 p2 p3 p4 s4 T1 T3 T4 HF ⊢
  rw [hm1] at s1 s2 s3 s4 T2 T3 T4 HF ⊢
  obtain ⟨x, hx⟩ : ∃ x, mx4 i (rd la p) = x := ⟨_, rfl⟩
  have hxw : (if i < rd la p then rd la p else i) = x := hx
  obtain ⟨y, hy⟩ : ∃ y, mx4 q (rd lb d) = y := ⟨_, rfl⟩
  have hyw : (if q < rd lb d then rd lb d else q) = y := hy
  rw [hx] at T3 T4
  rw [hy] at T3 T4
  obtain ⟨z1, hz1⟩ : ∃ z, mn (wrap64 (t1 + rd del p)) (wrap64 (t2 + rd ins d)) = z := ⟨_, rfl⟩
  have hz1w : (if wrap64 (t2 + rd ins d) < wrap64 (t1 + rd del p) then wrap64 (t2 + rd ins d) else wrap64 (t1 + rd del p)) = z1 := hz1
  rw [hz1] at HF ⊢
  obtain ⟨z2, hz2⟩ : ∃ z, mn z1 (wrap64 (wrap64 (t3 + t4) + rd (row4 rel p) d)) = z := ⟨_, rfl⟩
  have hz2w : (if wrap64 (wrap64 (t3 + t4) + rd (row4 rel p) d) < z1 then wrap64 (wrap64 (t3 + t4) + rd (row4 rel p) d) else z1) = z2 := hz2
  rw [hz2] at HF ⊢
  obtain ⟨ad4, ea4, hx4⟩ := HS.out.del p p1 p3
  subst ea4
  obtain ⟨ad5, ea5, hx5⟩ := HS.out.ins d s1 s3
  subst ea5
  obtain ⟨ad2, ea2, hx2⟩ := HS.out.la p p1 p2
  subst ea2
  obtain ⟨ad3, ea3, hx3⟩ := HS.out.lb d s1 s2
  subst ea3
  obtain ⟨ad6, B7, c7, ea6, hx6, hrow⟩ := HS.out.rel p p1 p4
  subst ea6
  obtain ⟨ad7, ea7, hx7⟩ := hrow d s1 s4
  subst ea7
  clear hrow
  have hp1 := eq_true p1
  have hp2 := eq_true p2
  have hp3 := eq_true p3
  have hp4 := eq_true p4
  have hs1 := eq_true s1
  have hs2 := eq_true s2
  have hs3 := eq_true s3
  have hs4 := eq_true s4
  have HX := Aside0.mk (And.intro hx2 (And.intro hx3 (And.intro hx4 (And.intro hx5 (And.intro hx6 hx7)))))
  clear hx2 hx3 hx4 hx5 hx6 hx7 p1 p2 p3 p4 s1 s2 s3 s4 hx hy hz1 hz2
  go_enter Try.func68, Try.ntmps68
  go_wp2_with (first | ((with_reducible refine gate_dst (N := 3) rfl ?_); refine box_event ?hg (N := 3) ?hd (cs := #[.slice A0 n0 c0, .slice A1 n1 c1, .slice (some ad2) la.length c2, .slice (some ad3) lb.length c3, .slice (some ad4) del.length c4, .slice (some ad5) ins.length c5, .slice (some ad6) rel.length c6]) (t := 91) ?hr ?_; (case hd => rfl); (case hg => rfl); (case hr => exact z19_); intro g3 hg w1 hbox hb; have BK3 := Aside0.mk hbox; have HB1 := Aside0.mk hb; clear hb hbox hg) | ((with_reducible refine gate_dst (N := 4) rfl ?_); refine box_event ?hg (N := 4) ?hd (cs := #[.int .i64 i, .int .i64 j, .int .i64 q, .int .i64 m]) (t := 96) ?hr ?_; (case hd => rfl); (case hg => rfl); (case hr => exact z19_); intro g4 hg w2 hbox hb; have BK4 := Aside0.mk hbox; have BK3 := Aside0.mk (blk_below BK3.out hb); have HB2 := Aside0.mk hb; clear hb hbox hg; obtain ⟨hc3_0, hc3_1, hc3_2, hc3_3, hc3_4, hc3_5, hc3_6, hf3_0, hf3_1, hf3_2, hf3_3, hf3_4, hf3_5, hf3_6⟩ := bx7_ BK3.out; obtain ⟨hc4_0, hc4_1, hc4_2, hc4_3, hf4_0, hf4_1, hf4_2, hf4_3⟩ := bx4_ BK4.out; have HM2 := Aside0.mk ((HM.out.grown HB1.out).grown HB2.out); have HG := Aside0.mk ((grown_of_below (row := some b) HB1.out).trans (grown_of_below HB2.out)); have HS2 := Aside0.mk ((HS.out.keep (below_cells HB1.out)).keep (below_cells HB2.out))) | (at_lookup; refine look_event rfl _ _ rfl b rfl i j q m rfl v0 false (HL.out _ ((HB2.out.block b (Nat.lt_of_lt_of_le HM.out.lt HB1.out.size)).trans (HB1.out.block b HM.out.lt))) ?_))
  obtain ⟨hx2, hx3, hx4, hx5, hx6, hx7⟩ := HX.out
  replace hx2 := below_cells HB2.out _ _ (below_cells HB1.out _ _ hx2)
  replace hx3 := below_cells HB2.out _ _ (below_cells HB1.out _ _ hx3)
  replace hx4 := below_cells HB2.out _ _ (below_cells HB1.out _ _ hx4)
  replace hx5 := below_cells HB2.out _ _ (below_cells HB1.out _ _ hx5)
  replace hx6 := below_cells HB2.out _ _ (below_cells HB1.out _ _ hx6)
  replace hx7 := below_cells HB2.out _ _ (below_cells HB1.out _ _ hx7)
  go_upto_region 5 with (fail)
  refine start_ (n := 8) (S := fun w' => w'.cell? ⟨g3, 0, none⟩ = some (.slice A0 n0 c0) ∧ w'.cell? ⟨g3, 1, none⟩ = some (.slice A1 n1 c1) ∧ w'.cell? ⟨g3, 2, none⟩ = some (.slice (some ad2) la.length c2) ∧ w'.cell? ⟨g3, 3, none⟩ = some (.slice (some ad3) lb.length c3) ∧ w'.cell? ⟨g3, 4, none⟩ = some (.slice (some ad4) del.length c4) ∧ w'.cell? ⟨g3, 5, none⟩ = some (.slice (some ad5) ins.length c5) ∧ w'.cell? ⟨g3, 6, none⟩ = some (.slice (some ad6) rel.length c6) ∧ w'.cell? ⟨g4, 0, none⟩ = some (.int .i64 i) ∧ w'.cell? ⟨g4, 1, none⟩ = some (.int .i64 j) ∧ w'.cell? ⟨g4, 2, none⟩ = some (.int .i64 q) ∧ w'.cell? ⟨g4, 3, none⟩ = some (.int .i64 m)) (ds := []) (fl_ 8 0) (by kernel_rfl) rfl (fl_zero _) ⟨hc3_0, hc3_1, hc3_2, hc3_3, hc3_4, hc3_5, hc3_6, hc4_0, hc4_1, hc4_2, hc4_3⟩ (fun hHeld => ?_)
  refine with_tabW impl_forest.tab5 impl_forest.bits5 (fun HT_ HW_ => ?_)
  refine zp_ HT_ rfl rfl (by kernel_rfl) (fun _ _ _ h => h) (by rfl) ?_
  refine zpg_ (i := 3) (ra_ [1, 2, 1, 4]) HT_ rfl rfl (by kernel_rfl) (fun _ _ _ h => h) (by rfl) ?_
  refine ztg_ (i := 1) (ra_ [2, 1, 1, 4]) HT_ HW_ rfl rfl (by kernel_rfl) (fun _ _ _ h => h) (by rfl) hHeld ?_ (by rintro w' ⟨s0, s1, s2, s3, s4, s5, s6, s7, s8, s9, s10⟩; go_simp; with_reducible rfl)
  refine zpg_ (i := 2) (fl_ 8 4) HT_ rfl rfl (by kernel_rfl) (fun _ _ _ h => h) (by rfl) ?_
  refine zpg_ (i := 6) (ra_ [4, 2, 1, 1]) HT_ rfl rfl (by kernel_rfl) (fun _ _ _ h => h) (by rfl) ?_
  refine ztg_ (i := 4) (ra_ [5, 1, 1, 1]) HT_ HW_ rfl rfl (by kernel_rfl) (fun _ _ _ h => h) (by rfl) hHeld ?_ (by rintro w' ⟨s0, s1, s2, s3, s4, s5, s6, s7, s8, s9, s10⟩; go_simp; with_reducible rfl)
  refine zpg_ (i := 5) (fl_ 8 7) HT_ rfl rfl (by kernel_rfl) (fun _ _ _ h => h) (by rfl) ?_
  refine zp_ HT_ rfl rfl (by kernel_rfl) (fun _ _ _ h => h) (by rfl) ?_
  refine done_ (done_of HT_.out (by kernel_rfl)) ?_
  try go_wp2
  go_upto_region 6 with (fail)
  refine start_ (n := 18) (S := fun w' => w'.cell? ⟨g3, 0, none⟩ = some (.slice A0 n0 c0) ∧ w'.cell? ⟨g3, 1, none⟩ = some (.slice A1 n1 c1) ∧ w'.cell? ⟨g3, 2, none⟩ = some (.slice (some ad2) la.length c2) ∧ w'.cell? ⟨g3, 3, none⟩ = some (.slice (some ad3) lb.length c3) ∧ w'.cell? ⟨g3, 4, none⟩ = some (.slice (some ad4) del.length c4) ∧ w'.cell? ⟨g3, 5, none⟩ = some (.slice (some ad5) ins.length c5) ∧ w'.cell? ⟨g3, 6, none⟩ = some (.slice (some ad6) rel.length c6) ∧ w'.cell? ⟨g4, 0, none⟩ = some (.int .i64 i) ∧ w'.cell? ⟨g4, 1, none⟩ = some (.int .i64 j) ∧ w'.cell? ⟨g4, 2, none⟩ = some (.int .i64 q) ∧ w'.cell? ⟨g4, 3, none⟩ = some (.int .i64 m) ∧ w'.cell? (ad2.add p.toNat) = some (.int .i64 (rd la p)) ∧ w'.cell? (ad3.add d.toNat) = some (.int .i64 (rd lb d))) (ds := []) (fl_ 18 0) (by kernel_rfl) rfl (fl_zero _) ⟨hc3_0, hc3_1, hc3_2, hc3_3, hc3_4, hc3_5, hc3_6, hc4_0, hc4_1, hc4_2, hc4_3, hx2, hx3⟩ (fun hHeld => ?_)
  refine with_tabW impl_forest.tab6 impl_forest.bits6 (fun HT_ HW_ => ?_)
  refine zp_ HT_ rfl rfl (by kernel_rfl) (fun _ _ _ h => h) (by rfl) ?_
  refine zpg_ (i := 2) (ra_ [1, 1, 1, 15]) HT_ rfl rfl (by kernel_rfl) (fun _ _ _ h => h) (by rfl) ?_
  refine zpg_ (i := 4) (ra_ [1, 1, 1, 1, 1, 13]) HT_ rfl rfl (by kernel_rfl) (fun _ _ _ h => h) (by rfl) ?_
  refine zpg_ (i := 8) (ra_ [1, 1, 1, 1, 1, 3, 1, 9]) HT_ rfl rfl (by kernel_rfl) (fun _ _ _ h => h) (by rfl) ?_
  refine zpg_ (i := 10) (ra_ [1, 1, 1, 1, 1, 3, 1, 1, 1, 7]) HT_ rfl rfl (by kernel_rfl) (fun _ _ _ h => h) (by rfl) ?_
  refine zpg_ (i := 12) (ra_ [1, 1, 1, 1, 1, 3, 1, 1, 1, 1, 1, 5]) HT_ rfl rfl (by kernel_rfl) (fun _ _ _ h => h) (by rfl) ?_
  refine ztg_ (i := 1) (ra_ [3, 1, 1, 3, 1, 1, 1, 1, 1, 5]) HT_ HW_ rfl rfl (by kernel_rfl) (fun _ _ _ h => h) (by rfl) hHeld ?_ z69_
  refine ztg_ (i := 3) (ra_ [5, 3, 1, 1, 1, 1, 1, 5]) HT_ HW_ rfl rfl (by kernel_rfl) (fun _ _ _ h => h) (by rfl) hHeld ?_ z69_
  refine zpg_ (i := 5) (ra_ [6, 2, 1, 1, 1, 1, 1, 5]) HT_ rfl rfl (by kernel_rfl) (fun _ _ _ h => h) (by rfl) ?_
  refine ztg_ (i := 6) (ra_ [7, 1, 1, 1, 1, 1, 1, 5]) HT_ HW_ rfl rfl (by kernel_rfl) (fun _ _ _ h => h) (by rfl) hHeld ?_ z69_
  refine zpg_ (i := 7) (ra_ [9, 1, 1, 1, 1, 5]) HT_ rfl rfl (by kernel_rfl) (fun _ _ _ h => h) (by rfl) ?_
  refine zpg_ (i := 16) (ra_ [9, 1, 1, 1, 1, 3, 1, 1]) HT_ rfl rfl (by kernel_rfl) (fun _ _ _ h => h) (by rfl) ?_
  refine ztg_ (i := 9) (ra_ [11, 1, 1, 3, 1, 1]) HT_ HW_ rfl rfl (by kernel_rfl) (fun _ _ _ h => h) (by rfl) hHeld ?_ z69_
  refine ztg_ (i := 11) (ra_ [13, 3, 1, 1]) HT_ HW_ rfl rfl (by kernel_rfl) (fun _ _ _ h => h) (by rfl) hHeld ?_ z69_
  refine zpg_ (i := 13) (ra_ [14, 2, 1, 1]) HT_ rfl rfl (by kernel_rfl) (fun _ _ _ h => h) (by rfl) ?_
  refine ztg_ (i := 14) (ra_ [15, 1, 1, 1]) HT_ HW_ rfl rfl (by kernel_rfl) (fun _ _ _ h => h) (by rfl) hHeld ?_ z69_
  refine zpg_ (i := 15) (fl_ 18 17) HT_ rfl rfl (by kernel_rfl) (fun _ _ _ h => h) (by rfl) ?_
  refine zp_ HT_ rfl rfl (by kernel_rfl) (fun _ _ _ h => h) (by rfl) ?_
  refine done_ (done_of HT_.out (by kernel_rfl)) ?_
  try go_wp2
  go_upto_region 7 with (fail)
  refine start_ (n := 64) (S := fun w' => w'.cell? ⟨g3, 0, none⟩ = some (.slice A0 n0 c0) ∧ w'.cell? ⟨g3, 1, none⟩ = some (.slice A1 n1 c1) ∧ w'.cell? ⟨g3, 2, none⟩ = some (.slice (some ad2) la.length c2) ∧ w'.cell? ⟨g3, 3, none⟩ = some (.slice (some ad3) lb.length c3) ∧ w'.cell? ⟨g3, 4, none⟩ = some (.slice (some ad4) del.length c4) ∧ w'.cell? ⟨g3, 5, none⟩ = some (.slice (some ad5) ins.length c5) ∧ w'.cell? ⟨g3, 6, none⟩ = some (.slice (some ad6) rel.length c6) ∧ w'.cell? ⟨g4, 0, none⟩ = some (.int .i64 i) ∧ w'.cell? ⟨g4, 1, none⟩ = some (.int .i64 j) ∧ w'.cell? ⟨g4, 2, none⟩ = some (.int .i64 q) ∧ w'.cell? ⟨g4, 3, none⟩ = some (.int .i64 m) ∧ w'.cell? (ad4.add p.toNat) = some (.int .i64 (rd del p)) ∧ w'.cell? (ad5.add d.toNat) = some (.int .i64 (rd ins d)) ∧ w'.cell? (ad6.add p.toNat) = some (.slice (some ad7) (row4 rel p).length c7) ∧ w'.cell? (ad7.add d.toNat) = some (.int .i64 (rd (row4 rel p) d))) (ds := []) (fl_ 64 0) (by kernel_rfl) rfl (fl_zero _) ⟨hc3_0, hc3_1, hc3_2, hc3_3, hc3_4, hc3_5, hc3_6, hc4_0, hc4_1, hc4_2, hc4_3, hx4, hx5, hx6, hx7⟩ (fun hHeld => ?_)
  refine with_tabW impl_forest.tab7 impl_forest.bits7 (fun HT_ HW_ => ?_)
  refine zpg_ (i := 1) (ra_ [0, 1, 1, 62]) HT_ rfl rfl (by kernel_rfl) (fun _ _ _ h => h) (by rfl) ?_
  refine zpg_ (i := 3) (ra_ [0, 1, 1, 1, 1, 60]) HT_ rfl rfl (by kernel_rfl) (fun _ _ _ h => h) (by rfl) ?_
  refine zpg_ (i := 4) (ra_ [0, 1, 1, 1, 2, 59]) HT_ rfl rfl (by kernel_rfl) (fun _ _ _ h => h) (by rfl) ?_
  refine zpg_ (i := 6) (ra_ [0, 1, 1, 1, 2, 1, 1, 57]) HT_ rfl rfl (by kernel_rfl) (fun _ _ _ h => h) (by rfl) ?_
  refine zpg_ (i := 9) (ra_ [0, 1, 1, 1, 2, 1, 1, 2, 1, 54]) HT_ rfl rfl (by kernel_rfl) (fun _ _ _ h => h) (by rfl) ?_
  refine zpg_ (i := 11) (ra_ [0, 1, 1, 1, 2, 1, 1, 2, 1, 1, 1, 52]) HT_ rfl rfl (by kernel_rfl) (fun _ _ _ h => h) (by rfl) ?_
  refine zpg_ (i := 13) (ra_ [0, 1, 1, 1, 2, 1, 1, 2, 1, 1, 1, 1, 1, 50]) HT_ rfl rfl (by kernel_rfl) (fun _ _ _ h => h) (by rfl) ?_
  refine zpg_ (i := 18) (ra_ [0, 1, 1, 1, 2, 1, 1, 2, 1, 1, 1, 1, 1, 4, 1, 45]) HT_ rfl rfl (by kernel_rfl) (fun _ _ _ h => h) (by rfl) ?_
  refine zpg_ (i := 20) (ra_ [0, 1, 1, 1, 2, 1, 1, 2, 1, 1, 1, 1, 1, 4, 1, 1, 1, 43]) HT_ rfl rfl (by kernel_rfl) (fun _ _ _ h => h) (by rfl) ?_
  refine zpg_ (i := 22) (ra_ [0, 1, 1, 1, 2, 1, 1, 2, 1, 1, 1, 1, 1, 4, 1, 1, 1, 1, 1, 41]) HT_ rfl rfl (by kernel_rfl) (fun _ _ _ h => h) (by rfl) ?_
  refine zpg_ (i := 24) (ra_ [0, 1, 1, 1, 2, 1, 1, 2, 1, 1, 1, 1, 1, 4, 1, 1, 1, 1, 1, 1, 1, 39]) HT_ rfl rfl (by kernel_rfl) (fun _ _ _ h => h) (by rfl) ?_
  refine zpg_ (i := 26) (ra_ [0, 1, 1, 1, 2, 1, 1, 2, 1, 1, 1, 1, 1, 4, 1, 1, 1, 1, 1, 1, 1, 1, 1, 37]) HT_ rfl rfl (by kernel_rfl) (fun _ _ _ h => h) (by rfl) ?_
  refine zpg_ (i := 28) (ra_ [0, 1, 1, 1, 2, 1, 1, 2, 1, 1, 1, 1, 1, 4, 1, 1, 1, 1, 1, 1, 1, 1, 1, 1, 1, 35]) HT_ rfl rfl (by kernel_rfl) (fun _ _ _ h => h) (by rfl) ?_
  refine zpg_ (i := 30) (ra_ [0, 1, 1, 1, 2, 1, 1, 2, 1, 1, 1, 1, 1, 4, 1, 1, 1, 1, 1, 1, 1, 1, 1, 1, 1, 1, 1, 33]) HT_ rfl rfl (by kernel_rfl) (fun _ _ _ h => h) (by rfl) ?_
  refine zpg_ (i := 35) (ra_ [0, 1, 1, 1, 2, 1, 1, 2, 1, 1, 1, 1, 1, 4, 1, 1, 1, 1, 1, 1, 1, 1, 1, 1, 1, 1, 1, 4, 1, 28]) HT_ rfl rfl (by kernel_rfl) (fun _ _ _ h => h) (by rfl) ?_
  refine zpg_ (i := 36) (ra_ [0, 1, 1, 1, 2, 1, 1, 2, 1, 1, 1, 1, 1, 4, 1, 1, 1, 1, 1, 1, 1, 1, 1, 1, 1, 1, 1, 4, 2, 27]) HT_ rfl rfl (by kernel_rfl) (fun _ _ _ h => h) (by rfl) ?_
  refine zpg_ (i := 37) (ra_ [0, 1, 1, 1, 2, 1, 1, 2, 1, 1, 1, 1, 1, 4, 1, 1, 1, 1, 1, 1, 1, 1, 1, 1, 1, 1, 1, 4, 3, 26]) HT_ rfl rfl (by kernel_rfl) (fun _ _ _ h => h) (by rfl) ?_
  refine zpg_ (i := 38) (ra_ [0, 1, 1, 1, 2, 1, 1, 2, 1, 1, 1, 1, 1, 4, 1, 1, 1, 1, 1, 1, 1, 1, 1, 1, 1, 1, 1, 4, 4, 25]) HT_ rfl rfl (by kernel_rfl) (fun _ _ _ h => h) (by rfl) ?_
  refine zpg_ (i := 39) (ra_ [0, 1, 1, 1, 2, 1, 1, 2, 1, 1, 1, 1, 1, 4, 1, 1, 1, 1, 1, 1, 1, 1, 1, 1, 1, 1, 1, 4, 5, 24]) HT_ rfl rfl (by kernel_rfl) (fun _ _ _ h => h) (by rfl) ?_
  refine zpg_ (i := 40) (ra_ [0, 1, 1, 1, 2, 1, 1, 2, 1, 1, 1, 1, 1, 4, 1, 1, 1, 1, 1, 1, 1, 1, 1, 1, 1, 1, 1, 4, 6, 23]) HT_ rfl rfl (by kernel_rfl) (fun _ _ _ h => h) (by rfl) ?_
  refine zpg_ (i := 43) (ra_ [0, 1, 1, 1, 2, 1, 1, 2, 1, 1, 1, 1, 1, 4, 1, 1, 1, 1, 1, 1, 1, 1, 1, 1, 1, 1, 1, 4, 6, 2, 1, 20]) HT_ rfl rfl (by kernel_rfl) (fun _ _ _ h => h) (by rfl) ?_
  refine zpg_ (i := 45) (ra_ [0, 1, 1, 1, 2, 1, 1, 2, 1, 1, 1, 1, 1, 4, 1, 1, 1, 1, 1, 1, 1, 1, 1, 1, 1, 1, 1, 4, 6, 2, 1, 1, 1, 18]) HT_ rfl rfl (by kernel_rfl) (fun _ _ _ h => h) (by rfl) ?_
  refine zpg_ (i := 46) (ra_ [0, 1, 1, 1, 2, 1, 1, 2, 1, 1, 1, 1, 1, 4, 1, 1, 1, 1, 1, 1, 1, 1, 1, 1, 1, 1, 1, 4, 6, 2, 1, 1, 2, 17]) HT_ rfl rfl (by kernel_rfl) (fun _ _ _ h => h) (by rfl) ?_
  refine zpg_ (i := 48) (ra_ [0, 1, 1, 1, 2, 1, 1, 2, 1, 1, 1, 1, 1, 4, 1, 1, 1, 1, 1, 1, 1, 1, 1, 1, 1, 1, 1, 4, 6, 2, 1, 1, 2, 1, 1, 15]) HT_ rfl rfl (by kernel_rfl) (fun _ _ _ h => h) (by rfl) ?_
  refine zpg_ (i := 50) (ra_ [0, 1, 1, 1, 2, 1, 1, 2, 1, 1, 1, 1, 1, 4, 1, 1, 1, 1, 1, 1, 1, 1, 1, 1, 1, 1, 1, 4, 6, 2, 1, 1, 2, 1, 1, 1, 1, 13]) HT_ rfl rfl (by kernel_rfl) (fun _ _ _ h => h) (by rfl) ?_
  refine zpg_ (i := 53) (ra_ [0, 1, 1, 1, 2, 1, 1, 2, 1, 1, 1, 1, 1, 4, 1, 1, 1, 1, 1, 1, 1, 1, 1, 1, 1, 1, 1, 4, 6, 2, 1, 1, 2, 1, 1, 1, 1, 2, 1, 10]) HT_ rfl rfl (by kernel_rfl) (fun _ _ _ h => h) (by rfl) ?_
  refine zpg_ (i := 55) (ra_ [0, 1, 1, 1, 2, 1, 1, 2, 1, 1, 1, 1, 1, 4, 1, 1, 1, 1, 1, 1, 1, 1, 1, 1, 1, 1, 1, 4, 6, 2, 1, 1, 2, 1, 1, 1, 1, 2, 1, 1, 1, 8]) HT_ rfl rfl (by kernel_rfl) (fun _ _ _ h => h) (by rfl) ?_
  refine zpg_ (i := 58) (ra_ [0, 1, 1, 1, 2, 1, 1, 2, 1, 1, 1, 1, 1, 4, 1, 1, 1, 1, 1, 1, 1, 1, 1, 1, 1, 1, 1, 4, 6, 2, 1, 1, 2, 1, 1, 1, 1, 2, 1, 1, 1, 2, 1, 5]) HT_ rfl rfl (by kernel_rfl) (fun _ _ _ h => h) (by rfl) ?_
  refine ztg_ (i := 0) (ra_ [2, 1, 2, 1, 1, 2, 1, 1, 1, 1, 1, 4, 1, 1, 1, 1, 1, 1, 1, 1, 1, 1, 1, 1, 1, 4, 6, 2, 1, 1, 2, 1, 1, 1, 1, 2, 1, 1, 1, 2, 1, 5]) HT_ HW_ rfl rfl (by kernel_rfl) (fun _ _ _ h => h) (by rfl) hHeld ?_ z50_
  refine ztg_ (i := 2) (ra_ [5, 1, 1, 2, 1, 1, 1, 1, 1, 4, 1, 1, 1, 1, 1, 1, 1, 1, 1, 1, 1, 1, 1, 4, 6, 2, 1, 1, 2, 1, 1, 1, 1, 2, 1, 1, 1, 2, 1, 5]) HT_ HW_ rfl rfl (by kernel_rfl) (fun _ _ _ h => h) (by rfl) hHeld ?_ z50_
  refine ztg_ (i := 5) (ra_ [7, 2, 1, 1, 1, 1, 1, 4, 1, 1, 1, 1, 1, 1, 1, 1, 1, 1, 1, 1, 1, 4, 6, 2, 1, 1, 2, 1, 1, 1, 1, 2, 1, 1, 1, 2, 1, 5]) HT_ HW_ rfl rfl (by kernel_rfl) (fun _ _ _ h => h) (by rfl) hHeld ?_ z50_
  refine ztg_ (i := 7) (ra_ [8, 1, 1, 1, 1, 1, 1, 4, 1, 1, 1, 1, 1, 1, 1, 1, 1, 1, 1, 1, 1, 4, 6, 2, 1, 1, 2, 1, 1, 1, 1, 2, 1, 1, 1, 2, 1, 5]) HT_ HW_ rfl rfl (by kernel_rfl) (fun _ _ _ h => h) (by rfl) hHeld ?_ z50_
  refine zpg_ (i := 8) (ra_ [10, 1, 1, 1, 1, 4, 1, 1, 1, 1, 1, 1, 1, 1, 1, 1, 1, 1, 1, 4, 6, 2, 1, 1, 2, 1, 1, 1, 1, 2, 1, 1, 1, 2, 1, 5]) HT_ rfl rfl (by kernel_rfl) (fun _ _ _ h => h) (by rfl) ?_
  refine ztg_ (i := 12) (ra_ [10, 1, 3, 4, 1, 1, 1, 1, 1, 1, 1, 1, 1, 1, 1, 1, 1, 4, 6, 2, 1, 1, 2, 1, 1, 1, 1, 2, 1, 1, 1, 2, 1, 5]) HT_ HW_ rfl rfl (by kernel_rfl) (fun _ _ _ h => h) (by rfl) hHeld ?_ z50_
  refine zpg_ (i := 14) (ra_ [10, 1, 4, 3, 1, 1, 1, 1, 1, 1, 1, 1, 1, 1, 1, 1, 1, 4, 6, 2, 1, 1, 2, 1, 1, 1, 1, 2, 1, 1, 1, 2, 1, 5]) HT_ rfl rfl (by kernel_rfl) (fun _ _ _ h => h) (by rfl) ?_
  refine ztg_ (i := 15) (ra_ [10, 1, 5, 2, 1, 1, 1, 1, 1, 1, 1, 1, 1, 1, 1, 1, 1, 4, 6, 2, 1, 1, 2, 1, 1, 1, 1, 2, 1, 1, 1, 2, 1, 5]) HT_ HW_ rfl rfl (by kernel_rfl) (fun _ _ _ h => h) (by rfl) hHeld ?_ z50_
  refine ztg_ (i := 17) (ra_ [10, 1, 5, 1, 2, 1, 1, 1, 1, 1, 1, 1, 1, 1, 1, 1, 1, 4, 6, 2, 1, 1, 2, 1, 1, 1, 1, 2, 1, 1, 1, 2, 1, 5]) HT_ HW_ rfl rfl (by kernel_rfl) (fun _ _ _ h => h) (by rfl) hHeld ?_ z50_
  refine ztg_ (i := 19) (ra_ [10, 1, 5, 1, 4, 1, 1, 1, 1, 1, 1, 1, 1, 1, 1, 4, 6, 2, 1, 1, 2, 1, 1, 1, 1, 2, 1, 1, 1, 2, 1, 5]) HT_ HW_ rfl rfl (by kernel_rfl) (fun _ _ _ h => h) (by rfl) hHeld ?_ z50_
  refine ztg_ (i := 21) (ra_ [10, 1, 5, 1, 6, 1, 1, 1, 1, 1, 1, 1, 1, 4, 6, 2, 1, 1, 2, 1, 1, 1, 1, 2, 1, 1, 1, 2, 1, 5]) HT_ HW_ rfl rfl (by kernel_rfl) (fun _ _ _ h => h) (by rfl) hHeld ?_ z50_
  refine ztg_ (i := 23) (ra_ [10, 1, 5, 1, 8, 1, 1, 1, 1, 1, 1, 4, 6, 2, 1, 1, 2, 1, 1, 1, 1, 2, 1, 1, 1, 2, 1, 5]) HT_ HW_ rfl rfl (by kernel_rfl) (fun _ _ _ h => h) (by rfl) hHeld ?_ z50_
  refine zpg_ (i := 25) (ra_ [10, 1, 5, 1, 10, 1, 1, 1, 1, 4, 6, 2, 1, 1, 2, 1, 1, 1, 1, 2, 1, 1, 1, 2, 1, 5]) HT_ rfl rfl (by kernel_rfl) (fun _ _ _ h => h) (by rfl) ?_
  refine ztg_ (i := 29) (ra_ [10, 1, 5, 1, 10, 1, 3, 4, 6, 2, 1, 1, 2, 1, 1, 1, 1, 2, 1, 1, 1, 2, 1, 5]) HT_ HW_ rfl rfl (by kernel_rfl) (fun _ _ _ h => h) (by rfl) hHeld ?_ z50_
  refine zpg_ (i := 31) (ra_ [10, 1, 5, 1, 10, 1, 4, 3, 6, 2, 1, 1, 2, 1, 1, 1, 1, 2, 1, 1, 1, 2, 1, 5]) HT_ rfl rfl (by kernel_rfl) (fun _ _ _ h => h) (by rfl) ?_
  refine ztg_ (i := 32) (ra_ [10, 1, 5, 1, 10, 1, 5, 2, 6, 2, 1, 1, 2, 1, 1, 1, 1, 2, 1, 1, 1, 2, 1, 5]) HT_ HW_ rfl rfl (by kernel_rfl) (fun _ _ _ h => h) (by rfl) hHeld ?_ z50_
  refine ztg_ (i := 34) (ra_ [10, 1, 5, 1, 10, 1, 5, 1, 7, 2, 1, 1, 2, 1, 1, 1, 1, 2, 1, 1, 1, 2, 1, 5]) HT_ HW_ rfl rfl (by kernel_rfl) (fun _ _ _ h => h) (by rfl) hHeld ?_ z50_
  refine ztg_ (i := 42) (ra_ [10, 1, 5, 1, 10, 1, 5, 1, 7, 1, 2, 1, 2, 1, 1, 1, 1, 2, 1, 1, 1, 2, 1, 5]) HT_ HW_ rfl rfl (by kernel_rfl) (fun _ _ _ h => h) (by rfl) hHeld ?_ z50_
  refine ztg_ (i := 44) (ra_ [10, 1, 5, 1, 10, 1, 5, 1, 7, 1, 5, 1, 1, 1, 1, 2, 1, 1, 1, 2, 1, 5]) HT_ HW_ rfl rfl (by kernel_rfl) (fun _ _ _ h => h) (by rfl) hHeld ?_ z50_
  refine ztg_ (i := 47) (ra_ [10, 1, 5, 1, 10, 1, 5, 1, 7, 1, 7, 1, 1, 2, 1, 1, 1, 2, 1, 5]) HT_ HW_ rfl rfl (by kernel_rfl) (fun _ _ _ h => h) (by rfl) hHeld ?_ z50_
  refine zpg_ (i := 49) (ra_ [10, 1, 5, 1, 10, 1, 5, 1, 7, 1, 9, 2, 1, 1, 1, 2, 1, 5]) HT_ rfl rfl (by kernel_rfl) (fun _ _ _ h => h) (by rfl) ?_
  refine ztg_ (i := 54) (ra_ [10, 1, 5, 1, 10, 1, 5, 1, 7, 1, 9, 2, 3, 2, 1, 5]) HT_ HW_ rfl rfl (by kernel_rfl) (fun _ _ _ h => h) (by rfl) hHeld ?_ z50_
  refine zpg_ (i := 56) (ra_ [10, 1, 5, 1, 10, 1, 5, 1, 7, 1, 9, 2, 4, 1, 1, 5]) HT_ rfl rfl (by kernel_rfl) (fun _ _ _ h => h) (by rfl) ?_
  refine ztg_ (i := 57) (ra_ [10, 1, 5, 1, 10, 1, 5, 1, 7, 1, 9, 2, 6, 5]) HT_ HW_ rfl rfl (by kernel_rfl) (fun _ _ _ h => h) (by rfl) hHeld ?_ z50_
  refine zpg_ (i := 59) (ra_ [10, 1, 5, 1, 10, 1, 5, 1, 7, 1, 9, 2, 7, 4]) HT_ rfl rfl (by kernel_rfl) (fun _ _ _ h => h) (by rfl) ?_
  refine ztg_ (i := 60) (ra_ [10, 1, 5, 1, 10, 1, 5, 1, 7, 1, 9, 2, 8, 3]) HT_ HW_ rfl rfl (by kernel_rfl) (fun _ _ _ h => h) (by rfl) hHeld ?_ z50_
  refine one_ (i := 10) (N := some 54) (ra_ [16, 1, 10, 1, 5, 1, 7, 1, 9, 2, 8, 3]) rfl rfl (one_of HT_.out (by kernel_rfl)) (by decide) (fun K hK => ?_)
  refine goes_ Try.func68 (by kernel_rfl) rfl #[.agg #[.slice A0 n0 c0, .slice A1 n1 c1, .slice (some ad2) la.length c2, .slice (some ad3) lb.length c3, .slice (some ad4) del.length c4, .slice (some ad5) ins.length c5, .slice (some ad6) rel.length c6], .agg #[.int .i64 i, .int .i64 p, .int .i64 q, .int .i64 m], .map (some b)] (by rfl) rfl rfl z185_ ?_
  with_reducible refine (ih (i) (p) (q) (m) t1 _ ?side1 ?side2 T1.out).mono ?_
  (case side1 => exact z240_)
  (case side2 => exact HM2.out)
  rintro e w3 ⟨rfl, hM_, hg_⟩
  refine ⟨_, rfl, ?_⟩
  have HM3 := Aside0.mk hM_
  have hgx_ : World.grownBy w2 w3 (some b) := by (refine World.grownBy.trans ?_ hg_; exact grown_eq rfl rfl rfl rfl)
  have HG3 := Aside0.mk (HG.out.trans hgx_)
  have hcl3 : ∀ p_ v_, World.cell? _ p_ = some v_ → w3.cell? p_ = some v_ := fun _ _ h_ => HM2.out.cell hgx_ h_
  have HS3 := Aside0.mk (HS2.out.keep hcl3)
  clear hM_ hg_ hgx_
  refine hK.out _ _ ⟨hcl3 _ _ (hHeld.1), hcl3 _ _ (hHeld.2.1), hcl3 _ _ (hHeld.2.2.1), hcl3 _ _ (hHeld.2.2.2.1), hcl3 _ _ (hHeld.2.2.2.2.1), hcl3 _ _ (hHeld.2.2.2.2.2.1), hcl3 _ _ (hHeld.2.2.2.2.2.2.1), hcl3 _ _ (hHeld.2.2.2.2.2.2.2.1), hcl3 _ _ (hHeld.2.2.2.2.2.2.2.2.1), hcl3 _ _ (hHeld.2.2.2.2.2.2.2.2.2.1), hcl3 _ _ (hHeld.2.2.2.2.2.2.2.2.2.2.1), hcl3 _ _ (hHeld.2.2.2.2.2.2.2.2.2.2.2.1), hcl3 _ _ (hHeld.2.2.2.2.2.2.2.2.2.2.2.2.1), hcl3 _ _ (hHeld.2.2.2.2.2.2.2.2.2.2.2.2.2.1), hcl3 _ _ (hHeld.2.2.2.2.2.2.2.2.2.2.2.2.2.2)⟩ (fun hHeld => ?_)
  clear hK K
  refine zn_ rfl ?_
  refine zpg_ (i := 16) (ra_ [27, 1, 5, 1, 7, 1, 9, 2, 8, 3]) HT_ rfl rfl (by kernel_rfl) (fun _ _ _ h => h) (by rfl) ?_
  refine one_ (i := 27) (N := some 71) (ra_ [33, 1, 7, 1, 9, 2, 8, 3]) rfl rfl (one_of HT_.out (by kernel_rfl)) (by decide) (fun K hK => ?_)
  refine goes_ Try.func68 (by kernel_rfl) rfl #[.agg #[.slice A0 n0 c0, .slice A1 n1 c1, .slice (some ad2) la.length c2, .slice (some ad3) lb.length c3, .slice (some ad4) del.length c4, .slice (some ad5) ins.length c5, .slice (some ad6) rel.length c6], .agg #[.int .i64 i, .int .i64 j, .int .i64 q, .int .i64 d], .map (some b)] (by rfl) rfl rfl z185_ ?_
  with_reducible refine (ih (i) (j) (q) (d) t2 _ ?side1 ?side2 T2.out).mono ?_
  (case side1 => (refine MeasAt.keep ?_ HS3.out; exact fun _ _ h_ => h_))
  (case side2 => exact HM3.out)
  rintro e w4 ⟨rfl, hM_, hg_⟩
  refine ⟨_, rfl, ?_⟩
  have HM4 := Aside0.mk hM_
  have hgx_ : World.grownBy w3 w4 (some b) := by (refine World.grownBy.trans ?_ hg_; exact grown_eq rfl rfl rfl rfl)
  have HG4 := Aside0.mk (HG3.out.trans hgx_)
  have hcl4 : ∀ p_ v_, World.cell? _ p_ = some v_ → w4.cell? p_ = some v_ := fun _ _ h_ => HM3.out.cell hgx_ h_
  have HS4 := Aside0.mk (HS3.out.keep hcl4)
  clear hM_ hg_ hgx_
  refine hK.out _ _ ⟨hcl4 _ _ (hHeld.1), hcl4 _ _ (hHeld.2.1), hcl4 _ _ (hHeld.2.2.1), hcl4 _ _ (hHeld.2.2.2.1), hcl4 _ _ (hHeld.2.2.2.2.1), hcl4 _ _ (hHeld.2.2.2.2.2.1), hcl4 _ _ (hHeld.2.2.2.2.2.2.1), hcl4 _ _ (hHeld.2.2.2.2.2.2.2.1), hcl4 _ _ (hHeld.2.2.2.2.2.2.2.2.1), hcl4 _ _ (hHeld.2.2.2.2.2.2.2.2.2.1), hcl4 _ _ (hHeld.2.2.2.2.2.2.2.2.2.2.1), hcl4 _ _ (hHeld.2.2.2.2.2.2.2.2.2.2.2.1), hcl4 _ _ (hHeld.2.2.2.2.2.2.2.2.2.2.2.2.1), hcl4 _ _ (hHeld.2.2.2.2.2.2.2.2.2.2.2.2.2.1), hcl4 _ _ (hHeld.2.2.2.2.2.2.2.2.2.2.2.2.2.2)⟩ (fun hHeld => ?_)
  clear hK K
  refine zn_ rfl ?_
  refine zpg_ (i := 33) (ra_ [41, 1, 9, 2, 8, 3]) HT_ rfl rfl (by kernel_rfl) (fun _ _ _ h => h) (by rfl) ?_
  refine one_ (i := 41) (N := some 85) (ra_ [51, 2, 8, 3]) rfl rfl (one_of HT_.out (by kernel_rfl)) (by decide) (fun K hK => ?_)
  refine goes_ Try.func68 (by kernel_rfl) rfl #[.agg #[.slice A0 n0 c0, .slice A1 n1 c1, .slice (some ad2) la.length c2, .slice (some ad3) lb.length c3, .slice (some ad4) del.length c4, .slice (some ad5) ins.length c5, .slice (some ad6) rel.length c6], .agg #[.int .i64 x, .int .i64 p, .int .i64 y, .int .i64 d], .map (some b)] (by rfl) rfl rfl z185_ ?_
  with_reducible refine (ih (x) (p) (y) (d) t3 _ ?side1 ?side2 T3.out).mono ?_
  (case side1 => (refine MeasAt.keep ?_ HS4.out; exact fun _ _ h_ => h_))
  (case side2 => exact HM4.out)
  rintro e w5 ⟨rfl, hM_, hg_⟩
  refine ⟨_, rfl, ?_⟩
  have HM5 := Aside0.mk hM_
  have hgx_ : World.grownBy w4 w5 (some b) := by (refine World.grownBy.trans ?_ hg_; exact grown_eq rfl rfl rfl rfl)
  have HG5 := Aside0.mk (HG4.out.trans hgx_)
  have hcl5 : ∀ p_ v_, World.cell? _ p_ = some v_ → w5.cell? p_ = some v_ := fun _ _ h_ => HM4.out.cell hgx_ h_
  have HS5 := Aside0.mk (HS4.out.keep hcl5)
  clear hM_ hg_ hgx_
  refine hK.out _ _ ⟨hcl5 _ _ (hHeld.1), hcl5 _ _ (hHeld.2.1), hcl5 _ _ (hHeld.2.2.1), hcl5 _ _ (hHeld.2.2.2.1), hcl5 _ _ (hHeld.2.2.2.2.1), hcl5 _ _ (hHeld.2.2.2.2.2.1), hcl5 _ _ (hHeld.2.2.2.2.2.2.1), hcl5 _ _ (hHeld.2.2.2.2.2.2.2.1), hcl5 _ _ (hHeld.2.2.2.2.2.2.2.2.1), hcl5 _ _ (hHeld.2.2.2.2.2.2.2.2.2.1), hcl5 _ _ (hHeld.2.2.2.2.2.2.2.2.2.2.1), hcl5 _ _ (hHeld.2.2.2.2.2.2.2.2.2.2.2.1), hcl5 _ _ (hHeld.2.2.2.2.2.2.2.2.2.2.2.2.1), hcl5 _ _ (hHeld.2.2.2.2.2.2.2.2.2.2.2.2.2.1), hcl5 _ _ (hHeld.2.2.2.2.2.2.2.2.2.2.2.2.2.2)⟩ (fun hHeld => ?_)
  clear hK K
  refine zn_ rfl ?_
  refine one_ (i := 51) (N := some 95) (ra_ [52, 1, 8, 3]) rfl rfl (one_of HT_.out (by kernel_rfl)) (by decide) (fun K hK => ?_)
  refine goes_ Try.func68 (by kernel_rfl) rfl #[.agg #[.slice A0 n0 c0, .slice A1 n1 c1, .slice (some ad2) la.length c2, .slice (some ad3) lb.length c3, .slice (some ad4) del.length c4, .slice (some ad5) ins.length c5, .slice (some ad6) rel.length c6], .agg #[.int .i64 i, .int .i64 x, .int .i64 q, .int .i64 y], .map (some b)] (by rfl) rfl rfl z185_ ?_
  with_reducible refine (ih (i) (x) (q) (y) t4 _ ?side1 ?side2 T4.out).mono ?_
  (case side1 => (refine MeasAt.keep ?_ HS5.out; exact fun _ _ h_ => h_))
  (case side2 => exact HM5.out)
  rintro e w6 ⟨rfl, hM_, hg_⟩
  refine ⟨_, rfl, ?_⟩
  have HM6 := Aside0.mk hM_
  have hgx_ : World.grownBy w5 w6 (some b) := by (refine World.grownBy.trans ?_ hg_; exact grown_eq rfl rfl rfl rfl)
  have HG6 := Aside0.mk (HG5.out.trans hgx_)
  have hcl6 : ∀ p_ v_, World.cell? _ p_ = some v_ → w6.cell? p_ = some v_ := fun _ _ h_ => HM5.out.cell hgx_ h_
  have HS6 := Aside0.mk (HS5.out.keep hcl6)
  clear hM_ hg_ hgx_
  refine hK.out _ _ ⟨hcl6 _ _ (hHeld.1), hcl6 _ _ (hHeld.2.1), hcl6 _ _ (hHeld.2.2.1), hcl6 _ _ (hHeld.2.2.2.1), hcl6 _ _ (hHeld.2.2.2.2.1), hcl6 _ _ (hHeld.2.2.2.2.2.1), hcl6 _ _ (hHeld.2.2.2.2.2.2.1), hcl6 _ _ (hHeld.2.2.2.2.2.2.2.1), hcl6 _ _ (hHeld.2.2.2.2.2.2.2.2.1), hcl6 _ _ (hHeld.2.2.2.2.2.2.2.2.2.1), hcl6 _ _ (hHeld.2.2.2.2.2.2.2.2.2.2.1), hcl6 _ _ (hHeld.2.2.2.2.2.2.2.2.2.2.2.1), hcl6 _ _ (hHeld.2.2.2.2.2.2.2.2.2.2.2.2.1), hcl6 _ _ (hHeld.2.2.2.2.2.2.2.2.2.2.2.2.2.1), hcl6 _ _ (hHeld.2.2.2.2.2.2.2.2.2.2.2.2.2.2)⟩ (fun hHeld => ?_)
  clear hK K
  refine zn_ rfl ?_
  refine zpg_ (i := 52) (fl_ 64 61) HT_ rfl rfl (by kernel_rfl) (fun _ _ _ h => h) (by rfl) ?_
  iterate 3 refine zp_ HT_ rfl rfl (by kernel_rfl) (fun _ _ _ h => h) (by rfl) ?_
  refine done_ (done_of HT_.out (by kernel_rfl)) ?_
  go_wp2_with ((at_mapUpdate; refine upd_event rfl _ _ _ rfl b rfl i j q m _ rfl rfl HM6.out HF.out ?_; intro w9 hM9 hg9))
  go_ret
  have hgx_ : World.grownBy w6 w9 (some b) := by (refine World.grownBy.trans ?_ hg9; exact grown_eq rfl rfl rfl rfl)
  exact ⟨rfl, hM9, HG6.out.trans hgx_⟩

theorem impl_forest.calls (la lb del ins : List Int) (rel : List (List Int)) (b : Nat) (A0 A1 A2 A3 A4 A5 A6 : Option Addr) (n0 n1 c0 c1 c2 c3 c4 c5 c6 : Nat) (k : Nat) : ForestAt la lb del ins rel b A0 A1 A2 A3 A4 A5 A6 n0 n1 c0 c1 c2 c3 c4 c5 c6 k := by
  induction k with
  | zero => intro i j q m r w hS hM h; exact absurd h (by simp [impl_forest.f])
  | succ k ih =>
  intro i j q m r w hS hM h
  have hF : forestF la lb del ins rel i j q m r := ⟨_, h⟩
  obtain ⟨v0, ok0, hv0, hlook⟩ := hM.look i j q m
  rcases ok0 with _ | _
  · rw [impl_forest.f] at h
    by_cases e1 : i = j
    · have b1 : (i == j) = true := by simpa using e1
      rw [if_pos e1] at h
      by_cases e2 : q = m
      · have b2 : (q == m) = true := by simpa using e2
        rw [if_pos e2] at h
        exact impl_forest.way0 _ _ _ _ _ _ _ _ _ _ _ _ _ _ _ _ _ _ _ _ _ _ k ih i j q m r w hS hM hF v0 hlook b1 b2 h
      · have b2 : (q == m) = false := by simpa using e2
        rw [if_neg e2] at h
        exact impl_forest.way10 _ _ _ _ _ _ _ _ _ _ _ _ _ _ _ _ _ _ _ _ _ _ k ih i j q m r w hS hM hF v0 hlook b1 b2 h
    · have b1 : (i == j) = false := by simpa using e1
      rw [if_neg e1] at h
      by_cases e2 : q = m
      · have b2 : (q == m) = true := by simpa using e2
        rw [if_pos e2] at h
        exact impl_forest.way12 _ _ _ _ _ _ _ _ _ _ _ _ _ _ _ _ _ _ _ _ _ _ k ih i j q m r w hS hM hF v0 hlook b1 b2 h
      · have b2 : (q == m) = false := by simpa using e2
        rw [if_neg e2] at h
        exact impl_forest.way7 _ _ _ _ _ _ _ _ _ _ _ _ _ _ _ _ _ _ _ _ _ _ k ih i j q m r w hS hM hF v0 hlook b1 b2 h
  · obtain ⟨k', hk'⟩ := hF
    exact impl_forest.wayHit _ _ _ _ _ _ _ _ _ _ _ _ _ _ _ _ _ _ _ _ _ _ k ih i j q m r w hS hM ⟨k', hk'⟩ v0 hlook ((hv0 rfl).one hk')
theorem impl_forest.goes (la lb del ins : List Int) (rel : List (List Int)) (b : Nat) (A0 A1 A2 A3 A4 A5 A6 : Option Addr) (n0 n1 c0 c1 c2 c3 c4 c5 c6 : Nat) (k : Nat) (i j q m r : Int) (w : World) (hS : MeasAt w A2 A3 A4 A5 A6 la lb del ins rel) (hM : Memo (forestF la lb del ins rel) w b) (h : impl_forest.f la lb del ins rel k i j q m = some r) :
  Calls Try.prog 68 #[.agg #[.slice A0 n0 c0, .slice A1 n1 c1, .slice A2 la.length c2, .slice A3 lb.length c3, .slice A4 del.length c4, .slice A5 ins.length c5, .slice A6 rel.length c6], .agg #[.int .i64 i, .int .i64 j, .int .i64 q, .int .i64 m], .map (some b)] w fun e w' => e = .returned (.int .i64 r) ∧ Memo (forestF la lb del ins rel) w' b ∧ w.grownBy w' (some b) := impl_forest.calls _ _ _ _ _ _ _ _ _ _ _ _ _ _ _ _ _ _ _ _ _ _ k i j q m r w hS hM h

/-! ### impl_ForestDist: function 48 -/
def impl_ForestDist.f (k : Nat) (l0 : List (S61)) (a1 : Int) (a2 : Int) (l3 : List (S61)) (a4 : Int) (a5 : Int) (l6_0 : List Int) (l6_1 : List Int) (l6_2 : List Int) : Option (Int) := (impl_measureOf.f k l0 l3 l6_0 l6_1 l6_2).bind fun bt202 => (if bt202.2.2.2.2.2.2.2 = true then (if a1 < 0 then (some (-1)) else (if a1 > a2 then (some (-1)) else (if a2 > (l0.length : Int) then (some (-1)) else (if a4 < 0 then (some (-1)) else (if a4 > a5 then (some (-1)) else (if a5 > (l3.length : Int) then (some (-1)) else (impl_forest.f (bt202.2.2.1) (bt202.2.2.2.1) (bt202.2.2.2.2.1) (bt202.2.2.2.2.2.1) (bt202.2.2.2.2.2.2.1) k a1 a2 a4 a5))))))) else (some (-1)))
set_option maxHeartbeats 8000000 in
set_option maxRecDepth 100000 in
theorem impl_ForestDist.calls (k : Nat) (A0 : Option Addr) (c0 : Nat) (l0 : List (S61)) (a1 : Int) (a2 : Int) (A3 : Option Addr) (c3 : Nat) (l3 : List (S61)) (a4 : Int) (a5 : Int) (A6_0 : Option Addr) (c6_0 : Nat) (l6_0 : List Int) (A6_1 : Option Addr) (c6_1 : Nat) (l6_1 : List Int) (A6_2 : Option Addr) (c6_2 : Nat) (l6_2 : List Int) (r : Int) (w : World) (hr0 : Kd.C k61 w A0 l0.length l0) (hc0 : l0.length ≤ c0) (hr3 : Kd.C k61 w A3 l3.length l3) (hc3 : l3.length ≤ c3) (hr6_0 : Kd.C (Kd.int .i64) w A6_0 l6_0.length l6_0) (hc6_0 : l6_0.length ≤ c6_0) (hr6_1 : Kd.C (Kd.int .i64) w A6_1 l6_1.length l6_1) (hc6_1 : l6_1.length ≤ c6_1) (hr6_2 : Kd.C (Kd.int .i64) w A6_2 l6_2.length l6_2) (hc6_2 : l6_2.length ≤ c6_2) (h : impl_ForestDist.f k l0 a1 a2 l3 a4 a5 l6_0 l6_1 l6_2 = some r) :
    Calls Try.prog 48 #[.slice A0 l0.length c0, .int .i64 a1, .int .i64 a2, .slice A3 l3.length c3, .int .i64 a4, .int .i64 a5, .agg #[.slice A6_0 l6_0.length c6_0, .slice A6_1 l6_1.length c6_1, .slice A6_2 l6_2.length c6_2]] w fun e w' => e = .returned (.int .i64 r) ∧ Below w.heap.size w w' := by
  have hu38 := Try.underlying38
  have hu91 := Try.underlying91
  have HR0 := Aside0.mk hr0
  have HC0 := Aside0.mk hc0
  clear hr0 hc0
  have HR3 := Aside0.mk hr3
  have HC3 := Aside0.mk hc3
  clear hr3 hc3
  have HR6_0 := Aside0.mk hr6_0
  have HC6_0 := Aside0.mk hc6_0
  clear hr6_0 hc6_0
  have HR6_1 := Aside0.mk hr6_1
  have HC6_1 := Aside0.mk hc6_1
  clear hr6_1 hc6_1
  have HR6_2 := Aside0.mk hr6_2
  have HC6_2 := Aside0.mk hc6_2
  clear hr6_2 hc6_2
  have HB := Aside0.mk (Below.refl w.heap.size w)
  have H : ((impl_measureOf.f k l0 l3 l6_0 l6_1 l6_2).bind fun bt202 => (if bt202.2.2.2.2.2.2.2 = true then (if a1 < 0 then (some (-1)) else (if a1 > a2 then (some (-1)) else (if a2 > (l0.length : Int) then (some (-1)) else (if a4 < 0 then (some (-1)) else (if a4 > a5 then (some (-1)) else (if a5 > (l3.length : Int) then (some (-1)) else (impl_forest.f (bt202.2.2.1) (bt202.2.2.2.1) (bt202.2.2.2.2.1) (bt202.2.2.2.2.2.1) (bt202.2.2.2.2.2.2.1) k a1 a2 a4 a5))))))) else (some (-1)))) = some r := h
  clear h
  replace H := Option.bind_eq_some_iff.mp H
  obtain ⟨⟨t202, t205, t208, t211, t214, t217, t220, t223⟩, A80, H⟩ := H
  try dsimp only at H
  have A8 := Aside0.mk A80
  clear A80
  by_cases c9 : t223 = true
  · subst c9
    replace H := ift_ H
    by_cases c10 : a1 < 0
    · rw [if_pos c10] at H
      have c10b0 := decide_eq_true c10
      clear c10
      obtain rfl := Option.some.inj H
      go_enter Try.func48, Try.ntmps48
      go_wp2_with (first | ((with_reducible refine gate_dst (N := 13) rfl ?_); (try (refine gate_guard (by rfl) ?_; dsimp only)); refine box_event ?hg (N := 13) ?hd (cs := #[.slice A6_0 l6_0.length c6_0, .slice A6_1 l6_1.length c6_1, .slice A6_2 l6_2.length c6_2]) (t := 38) ?hr ?_; (case hd => rfl); (case hg => rfl); (case hr => exact z19_); intro gb201 hg w11 hbox hb; have BK201 := Aside0.mk (hbox); have GW201 := Aside0.mk ((by rw [hg]; exact (below_size z0_) : w.heap.size ≤ gb201)); have GE201 := Aside0.mk ((by rw [hg]; exact (below_size z0_) : w.heap.size ≤ gb201)); replace HB := Aside0.mk (below_step z0_ hb); clear hb hbox hg; obtain ⟨hcz12_0, hcz12_1, hcz12_2, hfz12_0, hfz12_1, hfz12_2⟩ := bx3_ BK201.out) | ((with_reducible refine gate_callee (f := 67) rfl ?_); refine goesL_ (some 21) rfl rfl Try.func67 (by kernel_rfl) rfl #[.slice A0 l0.length c0, .slice A3 l3.length c3, .agg #[.slice A6_0 l6_0.length c6_0, .slice A6_1 l6_1.length c6_1, .slice A6_2 l6_2.length c6_2]] rfl z1_ ?_; (with_reducible refine (impl_measureOf.calls k _ _ l0 _ _ l3 _ _ l6_0 _ _ l6_1 _ _ l6_2 t202 t205 t208 t211 t214 t217 t220 true _ ?side1 ?side2 ?side3 ?side4 ?side5 ?side6 ?side7 ?side8 ?side9 ?side10 A8.out).mono ?_); (case side1 => exact z7_); (case side2 => exact HC0.out); (case side3 => exact z67_); (case side4 => exact HC3.out); (case side5 => exact z64_); (case side6 => exact HC6_0.out); (case side7 => exact z65_); (case side8 => exact HC6_1.out); (case side9 => exact z66_); (case side10 => exact HC6_2.out); rintro e w13 ⟨v203, v206, v209, v212, v215, v218, v221, rfl, ho0, ho1, ho2, ho3, ho4, ho5, ho6, hb⟩; refine ⟨_, rfl, ?_⟩; have HO204 := Aside0.mk (Kd.R_lower ho0 (below_size z5_)); have HO207 := Aside0.mk (Kd.R_lower ho1 (below_size z5_)); have HO210 := Aside0.mk (Kd.R_lower ho2 (below_size z5_)); have HO213 := Aside0.mk (Kd.R_lower ho3 (below_size z5_)); have HO216 := Aside0.mk (Kd.R_lower ho4 (below_size z5_)); have HO219 := Aside0.mk (Kd.R_lower ho5 (below_size z5_)); have HO222 := Aside0.mk (Kd.S_lower ho6 (below_size z5_)); replace BK201 := Aside0.mk (blk_below z24_ hb); replace HB := Aside0.mk (below_step z5_ hb); (try clear hb ho0 ho1 ho2 ho3 ho4 ho5 ho6)) | ((with_reducible refine gate_dst (N := 15) rfl ?_); (try (refine gate_guard (by rfl) ?_; dsimp only)); refine box_event ?hg (N := 15) ?hd (cs := #[.slice none 0 0, .slice none 0 0, .slice none 0 0, .slice none 0 0, .slice none 0 0, .slice none 0 0, .slice none 0 0]) (t := 91) ?hr ?_; (case hd => rfl); (case hg => rfl); (case hr => exact z19_); intro gb224 hg w14 hbox hb; replace HO204 := Aside0.mk (Kd.R_below z114_ hb); replace HO207 := Aside0.mk (Kd.R_below z115_ hb); replace HO210 := Aside0.mk (Kd.R_below z116_ hb); replace HO213 := Aside0.mk (Kd.R_below z117_ hb); replace HO216 := Aside0.mk (Kd.R_below z118_ hb); replace HO219 := Aside0.mk (Kd.R_below z119_ hb); replace HO222 := Aside0.mk (Kd.S_below z120_ hb); have BK224 := Aside0.mk (hbox); have GW224 := Aside0.mk ((by rw [hg]; exact (below_size z5_) : w.heap.size ≤ gb224)); have GE224 := Aside0.mk ((by rw [hg]; exact (below_size z5_) : w.heap.size ≤ gb224)); replace HB := Aside0.mk (below_step z5_ hb); have NB201_224 := Aside0.mk ((by rw [hg]; exact Nat.ne_of_lt (blk_lt (g := gb201) (o := .cells #[.slice A6_0 l6_0.length c6_0, .slice A6_1 l6_1.length c6_1, .slice A6_2 l6_2.length c6_2] 38 (0, 0)) z24_) : gb201 ≠ gb224)); have NB224_201 := Aside0.mk ((by rw [hg]; exact Nat.ne_of_gt (blk_lt (g := gb201) (o := .cells #[.slice A6_0 l6_0.length c6_0, .slice A6_1 l6_1.length c6_1, .slice A6_2 l6_2.length c6_2] 38 (0, 0)) z24_) : gb224 ≠ gb201)); replace BK201 := Aside0.mk (blk_below z24_ hb); clear hb hbox hg; obtain ⟨Ao15, co15, eo15⟩ := Kd.R_slice HO204.out; subst eo15; have hnb16 := NB224_201.out; have hnc16 := NB201_224.out; obtain ⟨hcz17_0, hcz17_1, hcz17_2, hcz17_3, hcz17_4, hcz17_5, hcz17_6, hfz17_0, hfz17_1, hfz17_2, hfz17_3, hfz17_4, hfz17_5, hfz17_6⟩ := bx7_ BK224.out; obtain ⟨Ao18, co18, eo18⟩ := Kd.R_slice HO207.out; subst eo18; obtain ⟨Ao19, co19, eo19⟩ := Kd.R_slice HO210.out; subst eo19; obtain ⟨Ao20, co20, eo20⟩ := Kd.R_slice HO213.out; subst eo20; obtain ⟨Ao21, co21, eo21⟩ := Kd.R_slice HO216.out; subst eo21; obtain ⟨Ao22, co22, eo22⟩ := Kd.R_slice HO219.out; subst eo22; obtain ⟨Ao23, co23, eo23⟩ := Kd.S_slice HO222.out; subst eo23))
      go_ret
      exact ⟨z6_, z68_⟩
    · rw [if_neg c10] at H
      have c10b0 := decide_eq_false c10
      clear c10
      by_cases c24 : a1 > a2
      · rw [if_pos c24] at H
        have c24b0 := decide_eq_true c24
        clear c24
        obtain rfl := Option.some.inj H
        go_enter Try.func48, Try.ntmps48
        go_wp2_with (first | ((with_reducible refine gate_dst (N := 13) rfl ?_); (try (refine gate_guard (by rfl) ?_; dsimp only)); refine box_event ?hg (N := 13) ?hd (cs := #[.slice A6_0 l6_0.length c6_0, .slice A6_1 l6_1.length c6_1, .slice A6_2 l6_2.length c6_2]) (t := 38) ?hr ?_; (case hd => rfl); (case hg => rfl); (case hr => exact z19_); intro gb201 hg w25 hbox hb; have BK201 := Aside0.mk (hbox); have GW201 := Aside0.mk ((by rw [hg]; exact (below_size z0_) : w.heap.size ≤ gb201)); have GE201 := Aside0.mk ((by rw [hg]; exact (below_size z0_) : w.heap.size ≤ gb201)); replace HB := Aside0.mk (below_step z0_ hb); clear hb hbox hg; obtain ⟨hcz26_0, hcz26_1, hcz26_2, hfz26_0, hfz26_1, hfz26_2⟩ := bx3_ BK201.out) | ((with_reducible refine gate_callee (f := 67) rfl ?_); refine goesL_ (some 21) rfl rfl Try.func67 (by kernel_rfl) rfl #[.slice A0 l0.length c0, .slice A3 l3.length c3, .agg #[.slice A6_0 l6_0.length c6_0, .slice A6_1 l6_1.length c6_1, .slice A6_2 l6_2.length c6_2]] rfl z1_ ?_; (with_reducible refine (impl_measureOf.calls k _ _ l0 _ _ l3 _ _ l6_0 _ _ l6_1 _ _ l6_2 t202 t205 t208 t211 t214 t217 t220 true _ ?side1 ?side2 ?side3 ?side4 ?side5 ?side6 ?side7 ?side8 ?side9 ?side10 A8.out).mono ?_); (case side1 => exact z7_); (case side2 => exact HC0.out); (case side3 => exact z67_); (case side4 => exact HC3.out); (case side5 => exact z64_); (case side6 => exact HC6_0.out); (case side7 => exact z65_); (case side8 => exact HC6_1.out); (case side9 => exact z66_); (case side10 => exact HC6_2.out); rintro e w27 ⟨v203, v206, v209, v212, v215, v218, v221, rfl, ho0, ho1, ho2, ho3, ho4, ho5, ho6, hb⟩; refine ⟨_, rfl, ?_⟩; have HO204 := Aside0.mk (Kd.R_lower ho0 (below_size z5_)); have HO207 := Aside0.mk (Kd.R_lower ho1 (below_size z5_)); have HO210 := Aside0.mk (Kd.R_lower ho2 (below_size z5_)); have HO213 := Aside0.mk (Kd.R_lower ho3 (below_size z5_)); have HO216 := Aside0.mk (Kd.R_lower ho4 (below_size z5_)); have HO219 := Aside0.mk (Kd.R_lower ho5 (below_size z5_)); have HO222 := Aside0.mk (Kd.S_lower ho6 (below_size z5_)); replace BK201 := Aside0.mk (blk_below z24_ hb); replace HB := Aside0.mk (below_step z5_ hb); (try clear hb ho0 ho1 ho2 ho3 ho4 ho5 ho6)) | ((with_reducible refine gate_dst (N := 15) rfl ?_); (try (refine gate_guard (by rfl) ?_; dsimp only)); refine box_event ?hg (N := 15) ?hd (cs := #[.slice none 0 0, .slice none 0 0, .slice none 0 0, .slice none 0 0, .slice none 0 0, .slice none 0 0, .slice none 0 0]) (t := 91) ?hr ?_; (case hd => rfl); (case hg => rfl); (case hr => exact z19_); intro gb224 hg w28 hbox hb; replace HO204 := Aside0.mk (Kd.R_below z114_ hb); replace HO207 := Aside0.mk (Kd.R_below z115_ hb); replace HO210 := Aside0.mk (Kd.R_below z116_ hb); replace HO213 := Aside0.mk (Kd.R_below z117_ hb); replace HO216 := Aside0.mk (Kd.R_below z118_ hb); replace HO219 := Aside0.mk (Kd.R_below z119_ hb); replace HO222 := Aside0.mk (Kd.S_below z120_ hb); have BK224 := Aside0.mk (hbox); have GW224 := Aside0.mk ((by rw [hg]; exact (below_size z5_) : w.heap.size ≤ gb224)); have GE224 := Aside0.mk ((by rw [hg]; exact (below_size z5_) : w.heap.size ≤ gb224)); replace HB := Aside0.mk (below_step z5_ hb); have NB201_224 := Aside0.mk ((by rw [hg]; exact Nat.ne_of_lt (blk_lt (g := gb201) (o := .cells #[.slice A6_0 l6_0.length c6_0, .slice A6_1 l6_1.length c6_1, .slice A6_2 l6_2.length c6_2] 38 (0, 0)) z24_) : gb201 ≠ gb224)); have NB224_201 := Aside0.mk ((by rw [hg]; exact Nat.ne_of_gt (blk_lt (g := gb201) (o := .cells #[.slice A6_0 l6_0.length c6_0, .slice A6_1 l6_1.length c6_1, .slice A6_2 l6_2.length c6_2] 38 (0, 0)) z24_) : gb224 ≠ gb201)); replace BK201 := Aside0.mk (blk_below z24_ hb); clear hb hbox hg; obtain ⟨Ao29, co29, eo29⟩ := Kd.R_slice HO204.out; subst eo29; have hnb30 := NB224_201.out; have hnc30 := NB201_224.out; obtain ⟨hcz31_0, hcz31_1, hcz31_2, hcz31_3, hcz31_4, hcz31_5, hcz31_6, hfz31_0, hfz31_1, hfz31_2, hfz31_3, hfz31_4, hfz31_5, hfz31_6⟩ := bx7_ BK224.out; obtain ⟨Ao32, co32, eo32⟩ := Kd.R_slice HO207.out; subst eo32; obtain ⟨Ao33, co33, eo33⟩ := Kd.R_slice HO210.out; subst eo33; obtain ⟨Ao34, co34, eo34⟩ := Kd.R_slice HO213.out; subst eo34; obtain ⟨Ao35, co35, eo35⟩ := Kd.R_slice HO216.out; subst eo35; obtain ⟨Ao36, co36, eo36⟩ := Kd.R_slice HO219.out; subst eo36; obtain ⟨Ao37, co37, eo37⟩ := Kd.S_slice HO222.out; subst eo37))
        go_ret
        exact ⟨z6_, z68_⟩
      · rw [if_neg c24] at H
        have c24b0 := decide_eq_false c24
        clear c24
        by_cases c38 : a2 > (l0.length : Int)
        · rw [if_pos c38] at H
          have c38b0 := decide_eq_true c38
          clear c38
          obtain rfl := Option.some.inj H
          go_enter Try.func48, Try.ntmps48
          go_wp2_with (first | ((with_reducible refine gate_dst (N := 13) rfl ?_); (try (refine gate_guard (by rfl) ?_; dsimp only)); refine box_event ?hg (N := 13) ?hd (cs := #[.slice A6_0 l6_0.length c6_0, .slice A6_1 l6_1.length c6_1, .slice A6_2 l6_2.length c6_2]) (t := 38) ?hr ?_; (case hd => rfl); (case hg => rfl); (case hr => exact z19_); intro gb201 hg w39 hbox hb; have BK201 := Aside0.mk (hbox); have GW201 := Aside0.mk ((by rw [hg]; exact (below_size z0_) : w.heap.size ≤ gb201)); have GE201 := Aside0.mk ((by rw [hg]; exact (below_size z0_) : w.heap.size ≤ gb201)); replace HB := Aside0.mk (below_step z0_ hb); clear hb hbox hg; obtain ⟨hcz40_0, hcz40_1, hcz40_2, hfz40_0, hfz40_1, hfz40_2⟩ := bx3_ BK201.out) | ((with_reducible refine gate_callee (f := 67) rfl ?_); refine goesL_ (some 21) rfl rfl Try.func67 (by kernel_rfl) rfl #[.slice A0 l0.length c0, .slice A3 l3.length c3, .agg #[.slice A6_0 l6_0.length c6_0, .slice A6_1 l6_1.length c6_1, .slice A6_2 l6_2.length c6_2]] rfl z1_ ?_; (with_reducible refine (impl_measureOf.calls k _ _ l0 _ _ l3 _ _ l6_0 _ _ l6_1 _ _ l6_2 t202 t205 t208 t211 t214 t217 t220 true _ ?side1 ?side2 ?side3 ?side4 ?side5 ?side6 ?side7 ?side8 ?side9 ?side10 A8.out).mono ?_); (case side1 => exact z7_); (case side2 => exact HC0.out); (case side3 => exact z67_); (case side4 => exact HC3.out); (case side5 => exact z64_); (case side6 => exact HC6_0.out); (case side7 => exact z65_); (case side8 => exact HC6_1.out); (case side9 => exact z66_); (case side10 => exact HC6_2.out); rintro e w41 ⟨v203, v206, v209, v212, v215, v218, v221, rfl, ho0, ho1, ho2, ho3, ho4, ho5, ho6, hb⟩; refine ⟨_, rfl, ?_⟩; have HO204 := Aside0.mk (Kd.R_lower ho0 (below_size z5_)); have HO207 := Aside0.mk (Kd.R_lower ho1 (below_size z5_)); have HO210 := Aside0.mk (Kd.R_lower ho2 (below_size z5_)); have HO213 := Aside0.mk (Kd.R_lower ho3 (below_size z5_)); have HO216 := Aside0.mk (Kd.R_lower ho4 (below_size z5_)); have HO219 := Aside0.mk (Kd.R_lower ho5 (below_size z5_)); have HO222 := Aside0.mk (Kd.S_lower ho6 (below_size z5_)); replace BK201 := Aside0.mk (blk_below z24_ hb); replace HB := Aside0.mk (below_step z5_ hb); (try clear hb ho0 ho1 ho2 ho3 ho4 ho5 ho6)) | ((with_reducible refine gate_dst (N := 15) rfl ?_); (try (refine gate_guard (by rfl) ?_; dsimp only)); refine box_event ?hg (N := 15) ?hd (cs := #[.slice none 0 0, .slice none 0 0, .slice none 0 0, .slice none 0 0, .slice none 0 0, .slice none 0 0, .slice none 0 0]) (t := 91) ?hr ?_; (case hd => rfl); (case hg => rfl); (case hr => exact z19_); intro gb224 hg w42 hbox hb; replace HO204 := Aside0.mk (Kd.R_below z114_ hb); replace HO207 := Aside0.mk (Kd.R_below z115_ hb); replace HO210 := Aside0.mk (Kd.R_below z116_ hb); replace HO213 := Aside0.mk (Kd.R_below z117_ hb); replace HO216 := Aside0.mk (Kd.R_below z118_ hb); replace HO219 := Aside0.mk (Kd.R_below z119_ hb); replace HO222 := Aside0.mk (Kd.S_below z120_ hb); have BK224 := Aside0.mk (hbox); have GW224 := Aside0.mk ((by rw [hg]; exact (below_size z5_) : w.heap.size ≤ gb224)); have GE224 := Aside0.mk ((by rw [hg]; exact (below_size z5_) : w.heap.size ≤ gb224)); replace HB := Aside0.mk (below_step z5_ hb); have NB201_224 := Aside0.mk ((by rw [hg]; exact Nat.ne_of_lt (blk_lt (g := gb201) (o := .cells #[.slice A6_0 l6_0.length c6_0, .slice A6_1 l6_1.length c6_1, .slice A6_2 l6_2.length c6_2] 38 (0, 0)) z24_) : gb201 ≠ gb224)); have NB224_201 := Aside0.mk ((by rw [hg]; exact Nat.ne_of_gt (blk_lt (g := gb201) (o := .cells #[.slice A6_0 l6_0.length c6_0, .slice A6_1 l6_1.length c6_1, .slice A6_2 l6_2.length c6_2] 38 (0, 0)) z24_) : gb224 ≠ gb201)); replace BK201 := Aside0.mk (blk_below z24_ hb); clear hb hbox hg; obtain ⟨Ao43, co43, eo43⟩ := Kd.R_slice HO204.out; subst eo43; have hnb44 := NB224_201.out; have hnc44 := NB201_224.out; obtain ⟨hcz45_0, hcz45_1, hcz45_2, hcz45_3, hcz45_4, hcz45_5, hcz45_6, hfz45_0, hfz45_1, hfz45_2, hfz45_3, hfz45_4, hfz45_5, hfz45_6⟩ := bx7_ BK224.out; obtain ⟨Ao46, co46, eo46⟩ := Kd.R_slice HO207.out; subst eo46; obtain ⟨Ao47, co47, eo47⟩ := Kd.R_slice HO210.out; subst eo47; obtain ⟨Ao48, co48, eo48⟩ := Kd.R_slice HO213.out; subst eo48; obtain ⟨Ao49, co49, eo49⟩ := Kd.R_slice HO216.out; subst eo49; obtain ⟨Ao50, co50, eo50⟩ := Kd.R_slice HO219.out; subst eo50; obtain ⟨Ao51, co51, eo51⟩ := Kd.S_slice HO222.out; subst eo51))
          go_ret
          exact ⟨z6_, z68_⟩
        · rw [if_neg c38] at H
          have c38b0 := decide_eq_false c38
          clear c38
          by_cases c52 : a4 < 0
          · rw [if_pos c52] at H
            have c52b0 := decide_eq_true c52
            clear c52
            obtain rfl := Option.some.inj H
            go_enter Try.func48, Try.ntmps48
            go_wp2_with (first | ((with_reducible refine gate_dst (N := 13) rfl ?_); (try (refine gate_guard (by rfl) ?_; dsimp only)); refine box_event ?hg (N := 13) ?hd (cs := #[.slice A6_0 l6_0.length c6_0, .slice A6_1 l6_1.length c6_1, .slice A6_2 l6_2.length c6_2]) (t := 38) ?hr ?_; (case hd => rfl); (case hg => rfl); (case hr => exact z19_); intro gb201 hg w53 hbox hb; have BK201 := Aside0.mk (hbox); have GW201 := Aside0.mk ((by rw [hg]; exact (below_size z0_) : w.heap.size ≤ gb201)); have GE201 := Aside0.mk ((by rw [hg]; exact (below_size z0_) : w.heap.size ≤ gb201)); replace HB := Aside0.mk (below_step z0_ hb); clear hb hbox hg; obtain ⟨hcz54_0, hcz54_1, hcz54_2, hfz54_0, hfz54_1, hfz54_2⟩ := bx3_ BK201.out) | ((with_reducible refine gate_callee (f := 67) rfl ?_); refine goesL_ (some 21) rfl rfl Try.func67 (by kernel_rfl) rfl #[.slice A0 l0.length c0, .slice A3 l3.length c3, .agg #[.slice A6_0 l6_0.length c6_0, .slice A6_1 l6_1.length c6_1, .slice A6_2 l6_2.length c6_2]] rfl z1_ ?_; (with_reducible refine (impl_measureOf.calls k _ _ l0 _ _ l3 _ _ l6_0 _ _ l6_1 _ _ l6_2 t202 t205 t208 t211 t214 t217 t220 true _ ?side1 ?side2 ?side3 ?side4 ?side5 ?side6 ?side7 ?side8 ?side9 ?side10 A8.out).mono ?_); (case side1 => exact z7_); (case side2 => exact HC0.out); (case side3 => exact z67_); (case side4 => exact HC3.out); (case side5 => exact z64_); (case side6 => exact HC6_0.out); (case side7 => exact z65_); (case side8 => exact HC6_1.out); (case side9 => exact z66_); (case side10 => exact HC6_2.out); rintro e w55 ⟨v203, v206, v209, v212, v215, v218, v221, rfl, ho0, ho1, ho2, ho3, ho4, ho5, ho6, hb⟩; refine ⟨_, rfl, ?_⟩; have HO204 := Aside0.mk (Kd.R_lower ho0 (below_size z5_)); have HO207 := Aside0.mk (Kd.R_lower ho1 (below_size z5_)); have HO210 := Aside0.mk (Kd.R_lower ho2 (below_size z5_)); have HO213 := Aside0.mk (Kd.R_lower ho3 (below_size z5_)); have HO216 := Aside0.mk (Kd.R_lower ho4 (below_size z5_)); have HO219 := Aside0.mk (Kd.R_lower ho5 (below_size z5_)); have HO222 := Aside0.mk (Kd.S_lower ho6 (below_size z5_)); replace BK201 := Aside0.mk (blk_below z24_ hb); replace HB := Aside0.mk (below_step z5_ hb); (try clear hb ho0 ho1 ho2 ho3 ho4 ho5 ho6)) | ((with_reducible refine gate_dst (N := 15) rfl ?_); (try (refine gate_guard (by rfl) ?_; dsimp only)); refine box_event ?hg (N := 15) ?hd (cs := #[.slice none 0 0, .slice none 0 0, .slice none 0 0, .slice none 0 0, .slice none 0 0, .slice none 0 0, .slice none 0 0]) (t := 91) ?hr ?_; (case hd => rfl); (case hg => rfl); (case hr => exact z19_); intro gb224 hg w56 hbox hb; replace HO204 := Aside0.mk (Kd.R_below z114_ hb); replace HO207 := Aside0.mk (Kd.R_below z115_ hb); replace HO210 := Aside0.mk (Kd.R_below z116_ hb); replace HO213 := Aside0.mk (Kd.R_below z117_ hb); replace HO216 := Aside0.mk (Kd.R_below z118_ hb); replace HO219 := Aside0.mk (Kd.R_below z119_ hb); replace HO222 := Aside0.mk (Kd.S_below z120_ hb); have BK224 := Aside0.mk (hbox); have GW224 := Aside0.mk ((by rw [hg]; exact (below_size z5_) : w.heap.size ≤ gb224)); have GE224 := Aside0.mk ((by rw [hg]; exact (below_size z5_) : w.heap.size ≤ gb224)); replace HB := Aside0.mk (below_step z5_ hb); have NB201_224 := Aside0.mk ((by rw [hg]; exact Nat.ne_of_lt (blk_lt (g := gb201) (o := .cells #[.slice A6_0 l6_0.length c6_0, .slice A6_1 l6_1.length c6_1, .slice A6_2 l6_2.length c6_2] 38 (0, 0)) z24_) : gb201 ≠ gb224)); have NB224_201 := Aside0.mk ((by rw [hg]; exact Nat.ne_of_gt (blk_lt (g := gb201) (o := .cells #[.slice A6_0 l6_0.length c6_0, .slice A6_1 l6_1.length c6_1, .slice A6_2 l6_2.length c6_2] 38 (0, 0)) z24_) : gb224 ≠ gb201)); replace BK201 := Aside0.mk (blk_below z24_ hb); clear hb hbox hg; obtain ⟨Ao57, co57, eo57⟩ := Kd.R_slice HO204.out; subst eo57; have hnb58 := NB224_201.out; have hnc58 := NB201_224.out; obtain ⟨hcz59_0, hcz59_1, hcz59_2, hcz59_3, hcz59_4, hcz59_5, hcz59_6, hfz59_0, hfz59_1, hfz59_2, hfz59_3, hfz59_4, hfz59_5, hfz59_6⟩ := bx7_ BK224.out; obtain ⟨Ao60, co60, eo60⟩ := Kd.R_slice HO207.out; subst eo60; obtain ⟨Ao61, co61, eo61⟩ := Kd.R_slice HO210.out; subst eo61; obtain ⟨Ao62, co62, eo62⟩ := Kd.R_slice HO213.out; subst eo62; obtain ⟨Ao63, co63, eo63⟩ := Kd.R_slice HO216.out; subst eo63; obtain ⟨Ao64, co64, eo64⟩ := Kd.R_slice HO219.out; subst eo64; obtain ⟨Ao65, co65, eo65⟩ := Kd.S_slice HO222.out; subst eo65))
            go_ret
            exact ⟨z6_, z68_⟩
          · rw [if_neg c52] at H
            have c52b0 := decide_eq_false c52
            clear c52
            by_cases c66 : a4 > a5
            · rw [if_pos c66] at H
              have c66b0 := decide_eq_true c66
              clear c66
              obtain rfl := Option.some.inj H
              go_enter Try.func48, Try.ntmps48
              go_wp2_with (first | ((with_reducible refine gate_dst (N := 13) rfl ?_); (try (refine gate_guard (by rfl) ?_; dsimp only)); refine box_event ?hg (N := 13) ?hd (cs := #[.slice A6_0 l6_0.length c6_0, .slice A6_1 l6_1.length c6_1, .slice A6_2 l6_2.length c6_2]) (t := 38) ?hr ?_; (case hd => rfl); (case hg => rfl); (case hr => exact z19_); intro gb201 hg w67 hbox hb; have BK201 := Aside0.mk (hbox); have GW201 := Aside0.mk ((by rw [hg]; exact (below_size z0_) : w.heap.size ≤ gb201)); have GE201 := Aside0.mk ((by rw [hg]; exact (below_size z0_) : w.heap.size ≤ gb201)); replace HB := Aside0.mk (below_step z0_ hb); clear hb hbox hg; obtain ⟨hcz68_0, hcz68_1, hcz68_2, hfz68_0, hfz68_1, hfz68_2⟩ := bx3_ BK201.out) | ((with_reducible refine gate_callee (f := 67) rfl ?_); refine goesL_ (some 21) rfl rfl Try.func67 (by kernel_rfl) rfl #[.slice A0 l0.length c0, .slice A3 l3.length c3, .agg #[.slice A6_0 l6_0.length c6_0, .slice A6_1 l6_1.length c6_1, .slice A6_2 l6_2.length c6_2]] rfl z1_ ?_; (with_reducible refine (impl_measureOf.calls k _ _ l0 _ _ l3 _ _ l6_0 _ _ l6_1 _ _ l6_2 t202 t205 t208 t211 t214 t217 t220 true _ ?side1 ?side2 ?side3 ?side4 ?side5 ?side6 ?side7 ?side8 ?side9 ?side10 A8.out).mono ?_); (case side1 => exact z7_); (case side2 => exact HC0.out); (case side3 => exact z67_); (case side4 => exact HC3.out); (case side5 => exact z64_); (case side6 => exact HC6_0.out); (case side7 => exact z65_); (case side8 => exact HC6_1.out); (case side9 => exact z66_); (case side10 => exact HC6_2.out); rintro e w69 ⟨v203, v206, v209, v212, v215, v218, v221, rfl, ho0, ho1, ho2, ho3, ho4, ho5, ho6, hb⟩; refine ⟨_, rfl, ?_⟩; have HO204 := Aside0.mk (Kd.R_lower ho0 (below_size z5_)); have HO207 := Aside0.mk (Kd.R_lower ho1 (below_size z5_)); have HO210 := Aside0.mk (Kd.R_lower ho2 (below_size z5_)); have HO213 := Aside0.mk (Kd.R_lower ho3 (below_size z5_)); have HO216 := Aside0.mk (Kd.R_lower ho4 (below_size z5_)); have HO219 := Aside0.mk (Kd.R_lower ho5 (below_size z5_)); have HO222 := Aside0.mk (Kd.S_lower ho6 (below_size z5_)); replace BK201 := Aside0.mk (blk_below z24_ hb); replace HB := Aside0.mk (below_step z5_ hb); (try clear hb ho0 ho1 ho2 ho3 ho4 ho5 ho6)) | ((with_reducible refine gate_dst (N := 15) rfl ?_); (try (refine gate_guard (by rfl) ?_; dsimp only)); refine box_event ?hg (N := 15) ?hd (cs := #[.slice none 0 0, .slice none 0 0, .slice none 0 0, .slice none 0 0, .slice none 0 0, .slice none 0 0, .slice none 0 0]) (t := 91) ?hr ?_; (case hd => rfl); (case hg => rfl); (case hr => exact z19_); intro gb224 hg w70 hbox hb; replace HO204 := Aside0.mk (Kd.R_below z114_ hb); replace HO207 := Aside0.mk (Kd.R_below z115_ hb); replace HO210 := Aside0.mk (Kd.R_below z116_ hb); replace HO213 := Aside0.mk (Kd.R_below z117_ hb); replace HO216 := Aside0.mk (Kd.R_below z118_ hb); replace HO219 := Aside0.mk (Kd.R_below z119_ hb); replace HO222 := Aside0.mk (Kd.S_below z120_ hb); have BK224 := Aside0.mk (hbox); have GW224 := Aside0.mk ((by rw [hg]; exact (below_size z5_) : w.heap.size ≤ gb224)); have GE224 := Aside0.mk ((by rw [hg]; exact (below_size z5_) : w.heap.size ≤ gb224)); replace HB := Aside0.mk (below_step z5_ hb); have NB201_224 := Aside0.mk ((by rw [hg]; exact Nat.ne_of_lt (blk_lt (g := gb201) (o := .cells #[.slice A6_0 l6_0.length c6_0, .slice A6_1 l6_1.length c6_1, .slice A6_2 l6_2.length c6_2] 38 (0, 0)) z24_) : gb201 ≠ gb224)); have NB224_201 := Aside0.mk ((by rw [hg]; exact Nat.ne_of_gt (blk_lt (g := gb201) (o := .cells #[.slice A6_0 l6_0.length c6_0, .slice A6_1 l6_1.length c6_1, .slice A6_2 l6_2.length c6_2] 38 (0, 0)) z24_) : gb224 ≠ gb201)); replace BK201 := Aside0.mk (blk_below z24_ hb); clear hb hbox hg; obtain ⟨Ao71, co71, eo71⟩ := Kd.R_slice HO204.out; subst eo71; have hnb72 := NB224_201.out; have hnc72 := NB201_224.out; obtain ⟨hcz73_0, hcz73_1, hcz73_2, hcz73_3, hcz73_4, hcz73_5, hcz73_6, hfz73_0, hfz73_1, hfz73_2, hfz73_3, hfz73_4, hfz73_5, hfz73_6⟩ := bx7_ BK224.out; obtain ⟨Ao74, co74, eo74⟩ := Kd.R_slice HO207.out; subst eo74; obtain ⟨Ao75, co75, eo75⟩ := Kd.R_slice HO210.out; subst eo75; obtain ⟨Ao76, co76, eo76⟩ := Kd.R_slice HO213.out; subst eo76; obtain ⟨Ao77, co77, eo77⟩ := Kd.R_slice HO216.out; subst eo77; obtain ⟨Ao78, co78, eo78⟩ := Kd.R_slice HO219.out; subst eo78; obtain ⟨Ao79, co79, eo79⟩ := Kd.S_slice HO222.out; subst eo79))
              go_ret
              exact ⟨z6_, z68_⟩
            · rw [if_neg c66] at H
              have c66b0 := decide_eq_false c66
              clear c66
              by_cases c80 : a5 > (l3.length : Int)
              · rw [if_pos c80] at H
                have c80b0 := decide_eq_true c80
                clear c80
                obtain rfl := Option.some.inj H
                go_enter Try.func48, Try.ntmps48
                go_wp2_with (first | ((with_reducible refine gate_dst (N := 13) rfl ?_); (try (refine gate_guard (by rfl) ?_; dsimp only)); refine box_event ?hg (N := 13) ?hd (cs := #[.slice A6_0 l6_0.length c6_0, .slice A6_1 l6_1.length c6_1, .slice A6_2 l6_2.length c6_2]) (t := 38) ?hr ?_; (case hd => rfl); (case hg => rfl); (case hr => exact z19_); intro gb201 hg w81 hbox hb; have BK201 := Aside0.mk (hbox); have GW201 := Aside0.mk ((by rw [hg]; exact (below_size z0_) : w.heap.size ≤ gb201)); have GE201 := Aside0.mk ((by rw [hg]; exact (below_size z0_) : w.heap.size ≤ gb201)); replace HB := Aside0.mk (below_step z0_ hb); clear hb hbox hg; obtain ⟨hcz82_0, hcz82_1, hcz82_2, hfz82_0, hfz82_1, hfz82_2⟩ := bx3_ BK201.out) | ((with_reducible refine gate_callee (f := 67) rfl ?_); refine goesL_ (some 21) rfl rfl Try.func67 (by kernel_rfl) rfl #[.slice A0 l0.length c0, .slice A3 l3.length c3, .agg #[.slice A6_0 l6_0.length c6_0, .slice A6_1 l6_1.length c6_1, .slice A6_2 l6_2.length c6_2]] rfl z1_ ?_; (with_reducible refine (impl_measureOf.calls k _ _ l0 _ _ l3 _ _ l6_0 _ _ l6_1 _ _ l6_2 t202 t205 t208 t211 t214 t217 t220 true _ ?side1 ?side2 ?side3 ?side4 ?side5 ?side6 ?side7 ?side8 ?side9 ?side10 A8.out).mono ?_); (case side1 => exact z7_); (case side2 => exact HC0.out); (case side3 => exact z67_); (case side4 => exact HC3.out); (case side5 => exact z64_); (case side6 => exact HC6_0.out); (case side7 => exact z65_); (case side8 => exact HC6_1.out); (case side9 => exact z66_); (case side10 => exact HC6_2.out); rintro e w83 ⟨v203, v206, v209, v212, v215, v218, v221, rfl, ho0, ho1, ho2, ho3, ho4, ho5, ho6, hb⟩; refine ⟨_, rfl, ?_⟩; have HO204 := Aside0.mk (Kd.R_lower ho0 (below_size z5_)); have HO207 := Aside0.mk (Kd.R_lower ho1 (below_size z5_)); have HO210 := Aside0.mk (Kd.R_lower ho2 (below_size z5_)); have HO213 := Aside0.mk (Kd.R_lower ho3 (below_size z5_)); have HO216 := Aside0.mk (Kd.R_lower ho4 (below_size z5_)); have HO219 := Aside0.mk (Kd.R_lower ho5 (below_size z5_)); have HO222 := Aside0.mk (Kd.S_lower ho6 (below_size z5_)); replace BK201 := Aside0.mk (blk_below z24_ hb); replace HB := Aside0.mk (below_step z5_ hb); (try clear hb ho0 ho1 ho2 ho3 ho4 ho5 ho6)) | ((with_reducible refine gate_dst (N := 15) rfl ?_); (try (refine gate_guard (by rfl) ?_; dsimp only)); refine box_event ?hg (N := 15) ?hd (cs := #[.slice none 0 0, .slice none 0 0, .slice none 0 0, .slice none 0 0, .slice none 0 0, .slice none 0 0, .slice none 0 0]) (t := 91) ?hr ?_; (case hd => rfl); (case hg => rfl); (case hr => exact z19_); intro gb224 hg w84 hbox hb; replace HO204 := Aside0.mk (Kd.R_below z114_ hb); replace HO207 := Aside0.mk (Kd.R_below z115_ hb); replace HO210 := Aside0.mk (Kd.R_below z116_ hb); replace HO213 := Aside0.mk (Kd.R_below z117_ hb); replace HO216 := Aside0.mk (Kd.R_below z118_ hb); replace HO219 := Aside0.mk (Kd.R_below z119_ hb); replace HO222 := Aside0.mk (Kd.S_below z120_ hb); have BK224 := Aside0.mk (hbox); have GW224 := Aside0.mk ((by rw [hg]; exact (below_size z5_) : w.heap.size ≤ gb224)); have GE224 := Aside0.mk ((by rw [hg]; exact (below_size z5_) : w.heap.size ≤ gb224)); replace HB := Aside0.mk (below_step z5_ hb); have NB201_224 := Aside0.mk ((by rw [hg]; exact Nat.ne_of_lt (blk_lt (g := gb201) (o := .cells #[.slice A6_0 l6_0.length c6_0, .slice A6_1 l6_1.length c6_1, .slice A6_2 l6_2.length c6_2] 38 (0, 0)) z24_) : gb201 ≠ gb224)); have NB224_201 := Aside0.mk ((by rw [hg]; exact Nat.ne_of_gt (blk_lt (g := gb201) (o := .cells #[.slice A6_0 l6_0.length c6_0, .slice A6_1 l6_1.length c6_1, .slice A6_2 l6_2.length c6_2] 38 (0, 0)) z24_) : gb224 ≠ gb201)); replace BK201 := Aside0.mk (blk_below z24_ hb); clear hb hbox hg; obtain ⟨Ao85, co85, eo85⟩ := Kd.R_slice HO204.out; subst eo85; have hnb86 := NB224_201.out; have hnc86 := NB201_224.out; obtain ⟨hcz87_0, hcz87_1, hcz87_2, hcz87_3, hcz87_4, hcz87_5, hcz87_6, hfz87_0, hfz87_1, hfz87_2, hfz87_3, hfz87_4, hfz87_5, hfz87_6⟩ := bx7_ BK224.out; obtain ⟨Ao88, co88, eo88⟩ := Kd.R_slice HO207.out; subst eo88; obtain ⟨Ao89, co89, eo89⟩ := Kd.R_slice HO210.out; subst eo89; obtain ⟨Ao90, co90, eo90⟩ := Kd.R_slice HO213.out; subst eo90; obtain ⟨Ao91, co91, eo91⟩ := Kd.R_slice HO216.out; subst eo91; obtain ⟨Ao92, co92, eo92⟩ := Kd.R_slice HO219.out; subst eo92; obtain ⟨Ao93, co93, eo93⟩ := Kd.S_slice HO222.out; subst eo93))
                go_ret
                exact ⟨z6_, z68_⟩
              · rw [if_neg c80] at H
                have c80b0 := decide_eq_false c80
                clear c80
                have HF := Aside0.mk H
                clear H
                go_enter Try.func48, Try.ntmps48
                go_upto_region 4 with (first | ((with_reducible refine gate_dst (N := 13) rfl ?_); (try (refine gate_guard (by rfl) ?_; dsimp only)); refine box_event ?hg (N := 13) ?hd (cs := #[.slice A6_0 l6_0.length c6_0, .slice A6_1 l6_1.length c6_1, .slice A6_2 l6_2.length c6_2]) (t := 38) ?hr ?_; (case hd => rfl); (case hg => rfl); (case hr => exact z19_); intro gb201 hg w94 hbox hb; have BK201 := Aside0.mk (hbox); have GW201 := Aside0.mk ((by rw [hg]; exact (below_size z0_) : w.heap.size ≤ gb201)); have GE201 := Aside0.mk ((by rw [hg]; exact (below_size z0_) : w.heap.size ≤ gb201)); replace HB := Aside0.mk (below_step z0_ hb); clear hb hbox hg; obtain ⟨hcz95_0, hcz95_1, hcz95_2, hfz95_0, hfz95_1, hfz95_2⟩ := bx3_ BK201.out) | ((with_reducible refine gate_callee (f := 67) rfl ?_); refine goesL_ (some 21) rfl rfl Try.func67 (by kernel_rfl) rfl #[.slice A0 l0.length c0, .slice A3 l3.length c3, .agg #[.slice A6_0 l6_0.length c6_0, .slice A6_1 l6_1.length c6_1, .slice A6_2 l6_2.length c6_2]] rfl z1_ ?_; (with_reducible refine (impl_measureOf.calls k _ _ l0 _ _ l3 _ _ l6_0 _ _ l6_1 _ _ l6_2 t202 t205 t208 t211 t214 t217 t220 true _ ?side1 ?side2 ?side3 ?side4 ?side5 ?side6 ?side7 ?side8 ?side9 ?side10 A8.out).mono ?_); (case side1 => exact z7_); (case side2 => exact HC0.out); (case side3 => exact z67_); (case side4 => exact HC3.out); (case side5 => exact z64_); (case side6 => exact HC6_0.out); (case side7 => exact z65_); (case side8 => exact HC6_1.out); (case side9 => exact z66_); (case side10 => exact HC6_2.out); rintro e w96 ⟨v203, v206, v209, v212, v215, v218, v221, rfl, ho0, ho1, ho2, ho3, ho4, ho5, ho6, hb⟩; obtain ⟨Aq0, cq0, eq0⟩ := Kd.R_slice ho0; subst eq0; obtain ⟨Aq1, cq1, eq1⟩ := Kd.R_slice ho1; subst eq1; obtain ⟨Aq2, cq2, eq2⟩ := Kd.R_slice ho2; subst eq2; obtain ⟨Aq3, cq3, eq3⟩ := Kd.R_slice ho3; subst eq3; obtain ⟨Aq4, cq4, eq4⟩ := Kd.R_slice ho4; subst eq4; obtain ⟨Aq5, cq5, eq5⟩ := Kd.R_slice ho5; subst eq5; obtain ⟨Aq6, cq6, eq6⟩ := Kd.S_slice ho6; subst eq6; have HMs : Aside0 (MeasAt w96 Aq2 Aq3 Aq4 Aq5 Aq6 t208 t211 t214 t217 t220) := ⟨⟨(fun i_ h0_ h1_ => Kd.at_int (Kd.R_reads' ho2).2.2 i_ h0_ h1_), (fun i_ h0_ h1_ => Kd.at_int (Kd.R_reads' ho3).2.2 i_ h0_ h1_), (fun i_ h0_ h1_ => Kd.at_int (Kd.R_reads' ho4).2.2 i_ h0_ h1_), (fun i_ h0_ h1_ => Kd.at_int (Kd.R_reads' ho5).2.2 i_ h0_ h1_), (fun i_ h0_ h1_ => rows_at (Kd.R_reads' (Kd.S_R ho6)).2.2 i_ h0_ h1_)⟩⟩; have HB2 := Aside0.mk (below_step HB.out hb); have HBx := Aside0.mk hb; clear hb ho0 ho1 ho2 ho3 ho4 ho5 ho6; refine ⟨_, rfl, ?_⟩) | ((with_reducible refine gate_dst (N := 15) rfl ?_); (try (refine gate_guard (by rfl) ?_; dsimp only)); refine box_event ?hg (N := 15) ?hd (cs := #[.slice none 0 0, .slice none 0 0, .slice none 0 0, .slice none 0 0, .slice none 0 0, .slice none 0 0, .slice none 0 0]) (t := 91) ?hr ?_; (case hd => rfl); (case hg => rfl); (case hr => exact z19_); intro gb224 hg w97 hbox hb; have HG15 := Aside0.mk (Nat.le_of_eq hg.symm : w96.heap.size ≤ gb224); have HB3 := Aside0.mk hb; have BK15 := Aside0.mk hbox; clear hb hbox hg; have hcy_0 : w97.cell? ⟨gb224, 0, none⟩ = some (.slice none 0 0) := (blk_cell BK15.out 0).trans rfl; have hfy_0 := blk_frozen BK15.out 0; have hcy_1 : w97.cell? ⟨gb224, 1, none⟩ = some (.slice none 0 0) := (blk_cell BK15.out 1).trans rfl; have hfy_1 := blk_frozen BK15.out 1; have hcy_2 : w97.cell? ⟨gb224, 2, none⟩ = some (.slice none 0 0) := (blk_cell BK15.out 2).trans rfl; have hfy_2 := blk_frozen BK15.out 2; have hcy_3 : w97.cell? ⟨gb224, 3, none⟩ = some (.slice none 0 0) := (blk_cell BK15.out 3).trans rfl; have hfy_3 := blk_frozen BK15.out 3; have hcy_4 : w97.cell? ⟨gb224, 4, none⟩ = some (.slice none 0 0) := (blk_cell BK15.out 4).trans rfl; have hfy_4 := blk_frozen BK15.out 4; have hcy_5 : w97.cell? ⟨gb224, 5, none⟩ = some (.slice none 0 0) := (blk_cell BK15.out 5).trans rfl; have hfy_5 := blk_frozen BK15.out 5; have hcy_6 : w97.cell? ⟨gb224, 6, none⟩ = some (.slice none 0 0) := (blk_cell BK15.out 6).trans rfl; have hfy_6 := blk_frozen BK15.out 6))
                have BK15s : Aside0 ((((((((w97.setCell ⟨gb224, 0, none⟩ (.slice Aq0 t202.length cq0)).setCell ⟨gb224, 1, none⟩ (.slice Aq1 t205.length cq1)).setCell ⟨gb224, 2, none⟩ (.slice Aq2 t208.length cq2)).setCell ⟨gb224, 3, none⟩ (.slice Aq3 t211.length cq3)).setCell ⟨gb224, 4, none⟩ (.slice Aq4 t214.length cq4)).setCell ⟨gb224, 5, none⟩ (.slice Aq5 t217.length cq5)).setCell ⟨gb224, 6, none⟩ (.slice Aq6 t220.length cq6)).heap[gb224]? = some (.cells #[.slice Aq0 t202.length cq0, .slice Aq1 t205.length cq1, .slice Aq2 t208.length cq2, .slice Aq3 t211.length cq3, .slice Aq4 t214.length cq4, .slice Aq5 t217.length cq5, .slice Aq6 t220.length cq6] 91 (0, 0))) := ⟨(blk_put (blk_put (blk_put (blk_put (blk_put (blk_put (blk_put BK15.out 0 (.slice Aq0 t202.length cq0) rfl) 1 (.slice Aq1 t205.length cq1) rfl) 2 (.slice Aq2 t208.length cq2) rfl) 3 (.slice Aq3 t211.length cq3) rfl) 4 (.slice Aq4 t214.length cq4) rfl) 5 (.slice Aq5 t217.length cq5) rfl) 6 (.slice Aq6 t220.length cq6) rfl)⟩
                have HBs : Aside0 (Below w96.heap.size w96 (((((((w97.setCell ⟨gb224, 0, none⟩ (.slice Aq0 t202.length cq0)).setCell ⟨gb224, 1, none⟩ (.slice Aq1 t205.length cq1)).setCell ⟨gb224, 2, none⟩ (.slice Aq2 t208.length cq2)).setCell ⟨gb224, 3, none⟩ (.slice Aq3 t211.length cq3)).setCell ⟨gb224, 4, none⟩ (.slice Aq4 t214.length cq4)).setCell ⟨gb224, 5, none⟩ (.slice Aq5 t217.length cq5)).setCell ⟨gb224, 6, none⟩ (.slice Aq6 t220.length cq6))) := ⟨(below_set (below_set (below_set (below_set (below_set (below_set (below_set HB3.out HG15.out) HG15.out) HG15.out) HG15.out) HG15.out) HG15.out) HG15.out)⟩
                clear hcy_0 hfy_0 hcy_1 hfy_1 hcy_2 hfy_2 hcy_3 hfy_3 hcy_4 hfy_4 hcy_5 hfy_5 hcy_6 hfy_6
                obtain ⟨ws, hws⟩ : ∃ ws_, ws_ = (((((((w97.setCell ⟨gb224, 0, none⟩ (.slice Aq0 t202.length cq0)).setCell ⟨gb224, 1, none⟩ (.slice Aq1 t205.length cq1)).setCell ⟨gb224, 2, none⟩ (.slice Aq2 t208.length cq2)).setCell ⟨gb224, 3, none⟩ (.slice Aq3 t211.length cq3)).setCell ⟨gb224, 4, none⟩ (.slice Aq4 t214.length cq4)).setCell ⟨gb224, 5, none⟩ (.slice Aq5 t217.length cq5)).setCell ⟨gb224, 6, none⟩ (.slice Aq6 t220.length cq6)) := ⟨_, rfl⟩
                rw [← hws] at BK15s HBs
                (rw [← hws])
                clear hws
                have hcs_0 : ws.cell? ⟨gb224, 0, none⟩ = some (.slice Aq0 t202.length cq0) := (blk_cell BK15s.out 0).trans rfl
                have hcs_1 : ws.cell? ⟨gb224, 1, none⟩ = some (.slice Aq1 t205.length cq1) := (blk_cell BK15s.out 1).trans rfl
                have hcs_2 : ws.cell? ⟨gb224, 2, none⟩ = some (.slice Aq2 t208.length cq2) := (blk_cell BK15s.out 2).trans rfl
                have hcs_3 : ws.cell? ⟨gb224, 3, none⟩ = some (.slice Aq3 t211.length cq3) := (blk_cell BK15s.out 3).trans rfl
                have hcs_4 : ws.cell? ⟨gb224, 4, none⟩ = some (.slice Aq4 t214.length cq4) := (blk_cell BK15s.out 4).trans rfl
                have hcs_5 : ws.cell? ⟨gb224, 5, none⟩ = some (.slice Aq5 t217.length cq5) := (blk_cell BK15s.out 5).trans rfl
                have hcs_6 : ws.cell? ⟨gb224, 6, none⟩ = some (.slice Aq6 t220.length cq6) := (blk_cell BK15s.out 6).trans rfl
                go_wp2_with (first | ((with_reducible refine gate_dst (N := 62) rfl ?_); refine make_event rfl rfl ?_; intro bm wm hbe hbm hbl; have HMm := Aside0.mk (Memo.new (F := forestF t208 t211 t214 t217 t220) hbm); have HBm := Aside0.mk hbl; have HGm := Aside0.mk (Nat.le_of_eq hbe.symm : ws.heap.size ≤ bm); clear hbe hbm hbl) | ((with_reducible refine gate_callee (f := 68) rfl ?_); refine goesL_ (some 63) rfl rfl Try.func68 (by kernel_rfl) rfl #[.agg #[.slice Aq0 t202.length cq0, .slice Aq1 t205.length cq1, .slice Aq2 t208.length cq2, .slice Aq3 t211.length cq3, .slice Aq4 t214.length cq4, .slice Aq5 t217.length cq5, .slice Aq6 t220.length cq6], .agg #[.int .i64 a1, .int .i64 a2, .int .i64 a4, .int .i64 a5], .map (some bm)] rfl (by (try simp only [List.map_toArray, List.map_cons, List.map_nil]); rfl) ?_; (with_reducible refine (impl_forest.goes _ _ _ _ _ bm _ _ _ _ _ _ _ _ _ _ _ _ _ _ _ _ k a1 a2 a4 a5 r _ ?side1 ?side2 HF.out).mono ?_); (case side1 => exact (HMs.out.keep (below_cells HBs.out)).keep (below_cells HBm.out)); (case side2 => exact HMm.out); rintro e w5 ⟨rfl, hM5, hg5⟩; refine ⟨_, rfl, ?_⟩; have HG5 := Aside0.mk hg5; clear hM5 hg5))
                go_ret
                have hbw := below_step HB2.out HBs.out
                have hbw2 := below_step hbw HBm.out
                exact ⟨rfl, hbw2.grown HG5.out (below_size hbw2) (fun k_ hk_ => by injection hk_ with e_; have h1_ := below_size hbw; have h2_ := HGm.out; omega)⟩
  · replace c9 := Bool.eq_false_iff.mpr c9
    subst c9
    replace H := iff_ H
    obtain rfl := Option.some.inj H
    go_enter Try.func48, Try.ntmps48
    go_wp2_with (first | ((with_reducible refine gate_dst (N := 13) rfl ?_); (try (refine gate_guard (by rfl) ?_; dsimp only)); refine box_event ?hg (N := 13) ?hd (cs := #[.slice A6_0 l6_0.length c6_0, .slice A6_1 l6_1.length c6_1, .slice A6_2 l6_2.length c6_2]) (t := 38) ?hr ?_; (case hd => rfl); (case hg => rfl); (case hr => exact z19_); intro gb201 hg w107 hbox hb; have BK201 := Aside0.mk (hbox); have GW201 := Aside0.mk ((by rw [hg]; exact (below_size z0_) : w.heap.size ≤ gb201)); have GE201 := Aside0.mk ((by rw [hg]; exact (below_size z0_) : w.heap.size ≤ gb201)); replace HB := Aside0.mk (below_step z0_ hb); clear hb hbox hg; obtain ⟨hcz108_0, hcz108_1, hcz108_2, hfz108_0, hfz108_1, hfz108_2⟩ := bx3_ BK201.out) | ((with_reducible refine gate_callee (f := 67) rfl ?_); refine goesL_ (some 21) rfl rfl Try.func67 (by kernel_rfl) rfl #[.slice A0 l0.length c0, .slice A3 l3.length c3, .agg #[.slice A6_0 l6_0.length c6_0, .slice A6_1 l6_1.length c6_1, .slice A6_2 l6_2.length c6_2]] rfl z1_ ?_; (with_reducible refine (impl_measureOf.calls k _ _ l0 _ _ l3 _ _ l6_0 _ _ l6_1 _ _ l6_2 t202 t205 t208 t211 t214 t217 t220 false _ ?side1 ?side2 ?side3 ?side4 ?side5 ?side6 ?side7 ?side8 ?side9 ?side10 A8.out).mono ?_); (case side1 => exact z7_); (case side2 => exact HC0.out); (case side3 => exact z67_); (case side4 => exact HC3.out); (case side5 => exact z64_); (case side6 => exact HC6_0.out); (case side7 => exact z65_); (case side8 => exact HC6_1.out); (case side9 => exact z66_); (case side10 => exact HC6_2.out); rintro e w109 ⟨v203, v206, v209, v212, v215, v218, v221, rfl, ho0, ho1, ho2, ho3, ho4, ho5, ho6, hb⟩; refine ⟨_, rfl, ?_⟩; have HO204 := Aside0.mk (Kd.R_lower ho0 (below_size z5_)); have HO207 := Aside0.mk (Kd.R_lower ho1 (below_size z5_)); have HO210 := Aside0.mk (Kd.R_lower ho2 (below_size z5_)); have HO213 := Aside0.mk (Kd.R_lower ho3 (below_size z5_)); have HO216 := Aside0.mk (Kd.R_lower ho4 (below_size z5_)); have HO219 := Aside0.mk (Kd.R_lower ho5 (below_size z5_)); have HO222 := Aside0.mk (Kd.S_lower ho6 (below_size z5_)); replace BK201 := Aside0.mk (blk_below z24_ hb); replace HB := Aside0.mk (below_step z5_ hb); (try clear hb ho0 ho1 ho2 ho3 ho4 ho5 ho6)) | ((with_reducible refine gate_dst (N := 15) rfl ?_); (try (refine gate_guard (by rfl) ?_; dsimp only)); refine box_event ?hg (N := 15) ?hd (cs := #[.slice none 0 0, .slice none 0 0, .slice none 0 0, .slice none 0 0, .slice none 0 0, .slice none 0 0, .slice none 0 0]) (t := 91) ?hr ?_; (case hd => rfl); (case hg => rfl); (case hr => exact z19_); intro gb224 hg w110 hbox hb; replace HO204 := Aside0.mk (Kd.R_below z114_ hb); replace HO207 := Aside0.mk (Kd.R_below z115_ hb); replace HO210 := Aside0.mk (Kd.R_below z116_ hb); replace HO213 := Aside0.mk (Kd.R_below z117_ hb); replace HO216 := Aside0.mk (Kd.R_below z118_ hb); replace HO219 := Aside0.mk (Kd.R_below z119_ hb); replace HO222 := Aside0.mk (Kd.S_below z120_ hb); have BK224 := Aside0.mk (hbox); have GW224 := Aside0.mk ((by rw [hg]; exact (below_size z5_) : w.heap.size ≤ gb224)); have GE224 := Aside0.mk ((by rw [hg]; exact (below_size z5_) : w.heap.size ≤ gb224)); replace HB := Aside0.mk (below_step z5_ hb); have NB201_224 := Aside0.mk ((by rw [hg]; exact Nat.ne_of_lt (blk_lt (g := gb201) (o := .cells #[.slice A6_0 l6_0.length c6_0, .slice A6_1 l6_1.length c6_1, .slice A6_2 l6_2.length c6_2] 38 (0, 0)) z24_) : gb201 ≠ gb224)); have NB224_201 := Aside0.mk ((by rw [hg]; exact Nat.ne_of_gt (blk_lt (g := gb201) (o := .cells #[.slice A6_0 l6_0.length c6_0, .slice A6_1 l6_1.length c6_1, .slice A6_2 l6_2.length c6_2] 38 (0, 0)) z24_) : gb224 ≠ gb201)); replace BK201 := Aside0.mk (blk_below z24_ hb); clear hb hbox hg; obtain ⟨Ao111, co111, eo111⟩ := Kd.R_slice HO204.out; subst eo111; have hnb112 := NB224_201.out; have hnc112 := NB201_224.out; obtain ⟨hcz113_0, hcz113_1, hcz113_2, hcz113_3, hcz113_4, hcz113_5, hcz113_6, hfz113_0, hfz113_1, hfz113_2, hfz113_3, hfz113_4, hfz113_5, hfz113_6⟩ := bx7_ BK224.out; obtain ⟨Ao114, co114, eo114⟩ := Kd.R_slice HO207.out; subst eo114; obtain ⟨Ao115, co115, eo115⟩ := Kd.R_slice HO210.out; subst eo115; obtain ⟨Ao116, co116, eo116⟩ := Kd.R_slice HO213.out; subst eo116; obtain ⟨Ao117, co117, eo117⟩ := Kd.R_slice HO216.out; subst eo117; obtain ⟨Ao118, co118, eo118⟩ := Kd.R_slice HO219.out; subst eo118; obtain ⟨Ao119, co119, eo119⟩ := Kd.S_slice HO222.out; subst eo119))
    go_ret
    exact ⟨z6_, z68_⟩

/-! ### impl_RelCost: function 49 -/
def impl_RelCost.f (k : Nat) (l0_0 : List Int) (l0_1 : List Int) (l0_2 : List Int) (a1 : Int) (a2 : Int) : Option (Int) := (impl_CostOk.f k l0_0 l0_1 l0_2).bind fun t226 => (if t226 = true then ((impl_LabelOk.f a1).bind fun t227 => (if t227 = true then ((impl_LabelOk.f a2).bind fun t228 => (if t228 = true then (if 0 ≤ (wrap64 ((wrap64 (a1 * 6)) + a2)) then (if (wrap64 ((wrap64 (a1 * 6)) + a2)) < (l0_2.length : Int) then (some (rd l0_2 (wrap64 ((wrap64 (a1 * 6)) + a2)))) else (none)) else (none)) else (some 0))) else (some 0))) else (some 0))
set_option maxHeartbeats 8000000 in
set_option maxRecDepth 100000 in
theorem impl_RelCost.calls (k : Nat) (A0_0 : Option Addr) (c0_0 : Nat) (l0_0 : List Int) (A0_1 : Option Addr) (c0_1 : Nat) (l0_1 : List Int) (A0_2 : Option Addr) (c0_2 : Nat) (l0_2 : List Int) (a1 : Int) (a2 : Int) (r : Int) (w : World) (hr0_0 : Kd.C (Kd.int .i64) w A0_0 l0_0.length l0_0) (hc0_0 : l0_0.length ≤ c0_0) (hr0_1 : Kd.C (Kd.int .i64) w A0_1 l0_1.length l0_1) (hc0_1 : l0_1.length ≤ c0_1) (hr0_2 : Kd.C (Kd.int .i64) w A0_2 l0_2.length l0_2) (hc0_2 : l0_2.length ≤ c0_2) (h : impl_RelCost.f k l0_0 l0_1 l0_2 a1 a2 = some r) :
    Calls Try.prog 49 #[.agg #[.slice A0_0 l0_0.length c0_0, .slice A0_1 l0_1.length c0_1, .slice A0_2 l0_2.length c0_2], .int .i64 a1, .int .i64 a2] w fun e w' => e = .returned (.int .i64 r) ∧ Below w.heap.size w w' := by
  have hu38 := Try.underlying38
  have HR0_0 := Aside0.mk hr0_0
  have HC0_0 := Aside0.mk hc0_0
  clear hr0_0 hc0_0
  have HR0_1 := Aside0.mk hr0_1
  have HC0_1 := Aside0.mk hc0_1
  clear hr0_1 hc0_1
  have HR0_2 := Aside0.mk hr0_2
  have HC0_2 := Aside0.mk hc0_2
  clear hr0_2 hc0_2
  have HB := Aside0.mk (Below.refl w.heap.size w)
  have H : ((impl_CostOk.f k l0_0 l0_1 l0_2).bind fun t226 => (if t226 = true then ((impl_LabelOk.f a1).bind fun t227 => (if t227 = true then ((impl_LabelOk.f a2).bind fun t228 => (if t228 = true then (if 0 ≤ (wrap64 ((wrap64 (a1 * 6)) + a2)) then (if (wrap64 ((wrap64 (a1 * 6)) + a2)) < (l0_2.length : Int) then (some (rd l0_2 (wrap64 ((wrap64 (a1 * 6)) + a2)))) else (none)) else (none)) else (some 0))) else (some 0))) else (some 0))) = some r := h
  clear h
  obtain ⟨t226, A4, H⟩ := bnd_ H
  by_cases c5 : t226 = true
  · subst c5
    replace H := ift_ H
    obtain ⟨t227, A6, H⟩ := bnd_ H
    by_cases c7 : t227 = true
    · subst c7
      replace H := ift_ H
      obtain ⟨t228, A8, H⟩ := bnd_ H
      by_cases c9 : t228 = true
      · subst c9
        replace H := ift_ H
        obtain ⟨ji10, hji10⟩ : ∃ j_ : Int, (wrap64 ((wrap64 (a1 * 6)) + a2)) = j_ := ⟨_, rfl⟩
        rw [hji10] at H
        have hji10w : (IntKind.i64.wrap ((wrap64 (a1 * 6)) + a2)) = ji10 := (i64_w _).trans hji10
        obtain ⟨c11b0, H⟩ := ifd_ H
        obtain ⟨c12b0, H⟩ := ifd_ H
        obtain rfl := Option.some.inj H
        go_enter Try.func49, Try.ntmps49
        go_wp2_with (first | ((with_reducible refine gate_dst (N := 3) rfl ?_); refine box_event ?hg (N := 3) ?hd (cs := #[.slice A0_0 l0_0.length c0_0, .slice A0_1 l0_1.length c0_1, .slice A0_2 l0_2.length c0_2]) (t := 38) ?hr ?_; (case hd => rfl); (case hg => rfl); (case hr => exact z19_); intro gb225 hg w13 hbox hb; have BK225 := Aside0.mk (hbox); have GW225 := Aside0.mk ((by rw [hg]; exact (below_size z0_) : w.heap.size ≤ gb225)); have GE225 := Aside0.mk ((by rw [hg]; exact (below_size z0_) : w.heap.size ≤ gb225)); replace HB := Aside0.mk (below_step z0_ hb); clear hb hbox hg; obtain ⟨hcz14_0, hcz14_1, hcz14_2, hfz14_0, hfz14_1, hfz14_2⟩ := bx3_ BK225.out) | ((with_reducible refine gate_callee (f := 69) rfl ?_); refine goesL_ (some 8) rfl rfl Try.func69 (by kernel_rfl) rfl #[.agg #[.slice A0_0 l0_0.length c0_0, .slice A0_1 l0_1.length c0_1, .slice A0_2 l0_2.length c0_2]] rfl z1_ ?_; (with_reducible refine (impl_CostOk.calls k _ _ l0_0 _ _ l0_1 _ _ l0_2 true _ ?side1 ?side2 ?side3 ?side4 ?side5 ?side6 A4.out).mono ?_); (case side1 => exact z77_); (case side2 => exact HC0_0.out); (case side3 => exact z127_); (case side4 => exact HC0_1.out); (case side5 => exact z128_); (case side6 => exact HC0_2.out); rintro e w15 ⟨rfl, hb⟩; refine ⟨_, rfl, ?_⟩; replace BK225 := Aside0.mk (blk_below z171_ hb); replace HB := Aside0.mk (below_step z70_ hb); (try clear hb)) | (go_at_call 70; (with_reducible refine (impl_LabelOk.calls a1 true _ A6.out).mono ?_); rintro e w' ⟨rfl, ⟨nd, rfl⟩⟩) | (go_at_call 70; (with_reducible refine (impl_LabelOk.calls a2 true _ A8.out).mono ?_); rintro e w' ⟨rfl, ⟨nd, rfl⟩⟩; obtain ⟨hcz16_0, hcz16_1, hcz16_2, hfz16_0, hfz16_1, hfz16_2⟩ := bx3_ BK225.out; have p229 : 0 ≤ ((ji10) : Int) := odt_; have q229 : (ji10) < (l0_2.length : Int) := odt_; obtain ⟨ad229, e229, hx229_0⟩ := Kd.at_int HR0_2.out (ji10) p229 q229; cases e229; replace hx229_0 := (HB.out.cell (World.block_lt_of_cell? w _ hx229_0)).trans hx229_0; replace p229 := eq_true p229; replace q229 := eq_true q229))
        go_ret
        exact ⟨by rfl, z70_⟩
      · replace c9 := Bool.eq_false_iff.mpr c9
        subst c9
        replace H := iff_ H
        obtain rfl := Option.some.inj H
        go_enter Try.func49, Try.ntmps49
        go_wp2_with (first | ((with_reducible refine gate_dst (N := 3) rfl ?_); refine box_event ?hg (N := 3) ?hd (cs := #[.slice A0_0 l0_0.length c0_0, .slice A0_1 l0_1.length c0_1, .slice A0_2 l0_2.length c0_2]) (t := 38) ?hr ?_; (case hd => rfl); (case hg => rfl); (case hr => exact z19_); intro gb225 hg w17 hbox hb; have BK225 := Aside0.mk (hbox); have GW225 := Aside0.mk ((by rw [hg]; exact (below_size z0_) : w.heap.size ≤ gb225)); have GE225 := Aside0.mk ((by rw [hg]; exact (below_size z0_) : w.heap.size ≤ gb225)); replace HB := Aside0.mk (below_step z0_ hb); clear hb hbox hg; obtain ⟨hcz18_0, hcz18_1, hcz18_2, hfz18_0, hfz18_1, hfz18_2⟩ := bx3_ BK225.out) | ((with_reducible refine gate_callee (f := 69) rfl ?_); refine goesL_ (some 8) rfl rfl Try.func69 (by kernel_rfl) rfl #[.agg #[.slice A0_0 l0_0.length c0_0, .slice A0_1 l0_1.length c0_1, .slice A0_2 l0_2.length c0_2]] rfl z1_ ?_; (with_reducible refine (impl_CostOk.calls k _ _ l0_0 _ _ l0_1 _ _ l0_2 true _ ?side1 ?side2 ?side3 ?side4 ?side5 ?side6 A4.out).mono ?_); (case side1 => exact z77_); (case side2 => exact HC0_0.out); (case side3 => exact z127_); (case side4 => exact HC0_1.out); (case side5 => exact z128_); (case side6 => exact HC0_2.out); rintro e w19 ⟨rfl, hb⟩; refine ⟨_, rfl, ?_⟩; replace BK225 := Aside0.mk (blk_below z171_ hb); replace HB := Aside0.mk (below_step z70_ hb); (try clear hb)) | (go_at_call 70; (with_reducible refine (impl_LabelOk.calls a1 true _ A6.out).mono ?_); rintro e w' ⟨rfl, ⟨nd, rfl⟩⟩) | (go_at_call 70; (with_reducible refine (impl_LabelOk.calls a2 false _ A8.out).mono ?_); rintro e w' ⟨rfl, ⟨nd, rfl⟩⟩))
        go_ret
        exact ⟨z6_, z70_⟩
    · replace c7 := Bool.eq_false_iff.mpr c7
      subst c7
      replace H := iff_ H
      obtain rfl := Option.some.inj H
      go_enter Try.func49, Try.ntmps49
      go_wp2_with (first | ((with_reducible refine gate_dst (N := 3) rfl ?_); refine box_event ?hg (N := 3) ?hd (cs := #[.slice A0_0 l0_0.length c0_0, .slice A0_1 l0_1.length c0_1, .slice A0_2 l0_2.length c0_2]) (t := 38) ?hr ?_; (case hd => rfl); (case hg => rfl); (case hr => exact z19_); intro gb225 hg w20 hbox hb; have BK225 := Aside0.mk (hbox); have GW225 := Aside0.mk ((by rw [hg]; exact (below_size z0_) : w.heap.size ≤ gb225)); have GE225 := Aside0.mk ((by rw [hg]; exact (below_size z0_) : w.heap.size ≤ gb225)); replace HB := Aside0.mk (below_step z0_ hb); clear hb hbox hg; obtain ⟨hcz21_0, hcz21_1, hcz21_2, hfz21_0, hfz21_1, hfz21_2⟩ := bx3_ BK225.out) | ((with_reducible refine gate_callee (f := 69) rfl ?_); refine goesL_ (some 8) rfl rfl Try.func69 (by kernel_rfl) rfl #[.agg #[.slice A0_0 l0_0.length c0_0, .slice A0_1 l0_1.length c0_1, .slice A0_2 l0_2.length c0_2]] rfl z1_ ?_; (with_reducible refine (impl_CostOk.calls k _ _ l0_0 _ _ l0_1 _ _ l0_2 true _ ?side1 ?side2 ?side3 ?side4 ?side5 ?side6 A4.out).mono ?_); (case side1 => exact z77_); (case side2 => exact HC0_0.out); (case side3 => exact z127_); (case side4 => exact HC0_1.out); (case side5 => exact z128_); (case side6 => exact HC0_2.out); rintro e w22 ⟨rfl, hb⟩; refine ⟨_, rfl, ?_⟩; replace BK225 := Aside0.mk (blk_below z171_ hb); replace HB := Aside0.mk (below_step z70_ hb); (try clear hb)) | (go_at_call 70; (with_reducible refine (impl_LabelOk.calls a1 false _ A6.out).mono ?_); rintro e w' ⟨rfl, ⟨nd, rfl⟩⟩))
      go_ret
      exact ⟨z6_, z70_⟩
  · replace c5 := Bool.eq_false_iff.mpr c5
    subst c5
    replace H := iff_ H
    obtain rfl := Option.some.inj H
    go_enter Try.func49, Try.ntmps49
    go_wp2_with (first | ((with_reducible refine gate_dst (N := 3) rfl ?_); refine box_event ?hg (N := 3) ?hd (cs := #[.slice A0_0 l0_0.length c0_0, .slice A0_1 l0_1.length c0_1, .slice A0_2 l0_2.length c0_2]) (t := 38) ?hr ?_; (case hd => rfl); (case hg => rfl); (case hr => exact z19_); intro gb225 hg w23 hbox hb; have BK225 := Aside0.mk (hbox); have GW225 := Aside0.mk ((by rw [hg]; exact (below_size z0_) : w.heap.size ≤ gb225)); have GE225 := Aside0.mk ((by rw [hg]; exact (below_size z0_) : w.heap.size ≤ gb225)); replace HB := Aside0.mk (below_step z0_ hb); clear hb hbox hg; obtain ⟨hcz24_0, hcz24_1, hcz24_2, hfz24_0, hfz24_1, hfz24_2⟩ := bx3_ BK225.out) | ((with_reducible refine gate_callee (f := 69) rfl ?_); refine goesL_ (some 8) rfl rfl Try.func69 (by kernel_rfl) rfl #[.agg #[.slice A0_0 l0_0.length c0_0, .slice A0_1 l0_1.length c0_1, .slice A0_2 l0_2.length c0_2]] rfl z1_ ?_; (with_reducible refine (impl_CostOk.calls k _ _ l0_0 _ _ l0_1 _ _ l0_2 false _ ?side1 ?side2 ?side3 ?side4 ?side5 ?side6 A4.out).mono ?_); (case side1 => exact z77_); (case side2 => exact HC0_0.out); (case side3 => exact z127_); (case side4 => exact HC0_1.out); (case side5 => exact z128_); (case side6 => exact HC0_2.out); rintro e w25 ⟨rfl, hb⟩; refine ⟨_, rfl, ?_⟩; replace BK225 := Aside0.mk (blk_below z171_ hb); replace HB := Aside0.mk (below_step z70_ hb); (try clear hb)))
    go_ret
    exact ⟨z6_, z70_⟩

/-! ### impl_RootDist: function 26 -/
def impl_RootDist.f (k : Nat) (l0 : List (S61)) (l1 : List (S61)) (l2_0 : List Int) (l2_1 : List Int) (l2_2 : List Int) : Option (Int) := (impl_ForestDist.f k l0 0 (wrap64 ((l0.length : Int) - 1)) l1 0 (wrap64 ((l1.length : Int) - 1)) l2_0 l2_1 l2_2).bind fun t231 => (if t231 < 0 then (some (-1)) else (if 0 < (l0.length : Int) then (if 0 < (l1.length : Int) then ((impl_RelCost.f k l2_0 l2_1 l2_2 ((rd_T61 l0 0).f0) ((rd_T61 l1 0).f0)).bind fun t234 => (some (wrap64 (t231 + t234)))) else (none)) else (none)))
def impl_RootDist.T4 : Bool × List (List Nat × List Nat) := (true, [([], []), ([], []), ([], []), ([2], [2]), ([3], [3]), ([4], [4]), ([], []), ([6], [6]), ([7], [7]), ([8], [8]), ([1, 5, 9], [1, 5, 9]), ([0, 10], [0, 10]), ([11, 10, 0, 1, 2, 3, 4, 5, 6, 7, 8, 9, 10, 11], [11])])
def impl_RootDist.B4 : List Nat := [0, 0, 0, 4, 12, 28, 0, 64, 192, 448, 1022, 2047, 4095]
theorem impl_RootDist.tab4 : rtab .any (opsOf Try.f26 4) = impl_RootDist.T4 := by kernel_rfl
theorem impl_RootDist.bits4 : waitsOk impl_RootDist.T4.2 impl_RootDist.B4 = true := by kernel_rfl
set_option maxHeartbeats 8000000 in
set_option maxRecDepth 100000 in
theorem impl_RootDist.calls (k : Nat) (A0 : Option Addr) (c0 : Nat) (l0 : List (S61)) (A1 : Option Addr) (c1 : Nat) (l1 : List (S61)) (A2_0 : Option Addr) (c2_0 : Nat) (l2_0 : List Int) (A2_1 : Option Addr) (c2_1 : Nat) (l2_1 : List Int) (A2_2 : Option Addr) (c2_2 : Nat) (l2_2 : List Int) (r : Int) (w : World) (hr0 : Kd.C k61 w A0 l0.length l0) (hc0 : l0.length ≤ c0) (hr1 : Kd.C k61 w A1 l1.length l1) (hc1 : l1.length ≤ c1) (hr2_0 : Kd.C (Kd.int .i64) w A2_0 l2_0.length l2_0) (hc2_0 : l2_0.length ≤ c2_0) (hr2_1 : Kd.C (Kd.int .i64) w A2_1 l2_1.length l2_1) (hc2_1 : l2_1.length ≤ c2_1) (hr2_2 : Kd.C (Kd.int .i64) w A2_2 l2_2.length l2_2) (hc2_2 : l2_2.length ≤ c2_2) (h : impl_RootDist.f k l0 l1 l2_0 l2_1 l2_2 = some r) :
    Calls Try.prog 26 #[.slice A0 l0.length c0, .slice A1 l1.length c1, .agg #[.slice A2_0 l2_0.length c2_0, .slice A2_1 l2_1.length c2_1, .slice A2_2 l2_2.length c2_2]] w fun e w' => e = .returned (.int .i64 r) ∧ Below w.heap.size w w' := by
  have hu38 := Try.underlying38
  have HR0 := Aside0.mk hr0
  have HC0 := Aside0.mk hc0
  clear hr0 hc0
  have HR1 := Aside0.mk hr1
  have HC1 := Aside0.mk hc1
  clear hr1 hc1
  have HR2_0 := Aside0.mk hr2_0
  have HC2_0 := Aside0.mk hc2_0
  clear hr2_0 hc2_0
  have HR2_1 := Aside0.mk hr2_1
  have HC2_1 := Aside0.mk hc2_1
  clear hr2_1 hc2_1
  have HR2_2 := Aside0.mk hr2_2
  have HC2_2 := Aside0.mk hc2_2
  clear hr2_2 hc2_2
  have HB := Aside0.mk (Below.refl w.heap.size w)
  have H : ((impl_ForestDist.f k l0 0 (wrap64 ((l0.length : Int) - 1)) l1 0 (wrap64 ((l1.length : Int) - 1)) l2_0 l2_1 l2_2).bind fun t231 => (if t231 < 0 then (some (-1)) else (if 0 < (l0.length : Int) then (if 0 < (l1.length : Int) then ((impl_RelCost.f k l2_0 l2_1 l2_2 ((rd_T61 l0 0).f0) ((rd_T61 l1 0).f0)).bind fun t234 => (some (wrap64 (t231 + t234)))) else (none)) else (none)))) = some r := h
  clear h
  obtain ⟨t231, A4, H⟩ := bnd_ H
  by_cases c5 : t231 < 0
  · rw [if_pos c5] at H
    have c5b0 := decide_eq_true c5
    clear c5
    obtain rfl := Option.some.inj H
    go_enter Try.func26, Try.ntmps26
    go_wp2_with (first | ((with_reducible refine gate_dst (N := 5) rfl ?_); refine box_event ?hg (N := 5) ?hd (cs := #[.slice A2_0 l2_0.length c2_0, .slice A2_1 l2_1.length c2_1, .slice A2_2 l2_2.length c2_2]) (t := 38) ?hr ?_; (case hd => rfl); (case hg => rfl); (case hr => exact z19_); intro gb230 hg w6 hbox hb; have BK230 := Aside0.mk (hbox); have GW230 := Aside0.mk ((by rw [hg]; exact (below_size z0_) : w.heap.size ≤ gb230)); have GE230 := Aside0.mk ((by rw [hg]; exact (below_size z0_) : w.heap.size ≤ gb230)); replace HB := Aside0.mk (below_step z0_ hb); clear hb hbox hg; obtain ⟨hcz7_0, hcz7_1, hcz7_2, hfz7_0, hfz7_1, hfz7_2⟩ := bx3_ BK230.out) | ((with_reducible refine gate_callee (f := 48) rfl ?_); refine goesL_ (some 17) rfl rfl Try.func48 (by kernel_rfl) rfl #[.slice A0 l0.length c0, .int .i64 0, .int .i64 (wrap64 ((l0.length : Int) - 1)), .slice A1 l1.length c1, .int .i64 0, .int .i64 (wrap64 ((l1.length : Int) - 1)), .agg #[.slice A2_0 l2_0.length c2_0, .slice A2_1 l2_1.length c2_1, .slice A2_2 l2_2.length c2_2]] rfl z1_ ?_; (with_reducible refine (impl_ForestDist.calls k _ _ l0 0 (wrap64 ((l0.length : Int) - 1)) _ _ l1 0 (wrap64 ((l1.length : Int) - 1)) _ _ l2_0 _ _ l2_1 _ _ l2_2 t231 _ ?side1 ?side2 ?side3 ?side4 ?side5 ?side6 ?side7 ?side8 ?side9 ?side10 A4.out).mono ?_); (case side1 => exact z7_); (case side2 => exact HC0.out); (case side3 => exact z80_); (case side4 => exact HC1.out); (case side5 => exact z124_); (case side6 => exact HC2_0.out); (case side7 => exact z125_); (case side8 => exact HC2_1.out); (case side9 => exact z126_); (case side10 => exact HC2_2.out); rintro e w8 ⟨rfl, hb⟩; refine ⟨_, rfl, ?_⟩; replace BK230 := Aside0.mk (blk_below z190_ hb); replace HB := Aside0.mk (below_step z102_ hb); (try clear hb)))
    go_ret
    exact ⟨z6_, z102_⟩
  · rw [if_neg c5] at H
    have c5b0 := decide_eq_false c5
    clear c5
    obtain ⟨c9, H⟩ := ifs_ H
    have c9b0 := decide_eq_true c9
    have c9b1 : decide (0 < l0.length) = true := decide_eq_true (by omega)
    clear c9
    obtain ⟨c10, H⟩ := ifs_ H
    have c10b0 := decide_eq_true c10
    have c10b1 : decide (0 < l1.length) = true := decide_eq_true (by omega)
    clear c10
    obtain ⟨t234, A11, H⟩ := bnd_ H
    obtain rfl := Option.some.inj H
    go_enter Try.func26, Try.ntmps26
    try go_wp2_with (first | ((with_reducible refine gate_dst (N := 5) rfl ?_); refine box_event ?hg (N := 5) ?hd (cs := #[.slice A2_0 l2_0.length c2_0, .slice A2_1 l2_1.length c2_1, .slice A2_2 l2_2.length c2_2]) (t := 38) ?hr ?_; (case hd => rfl); (case hg => rfl); (case hr => exact z19_); intro gb230 hg w12 hbox hb; have BK230 := Aside0.mk (hbox); have GW230 := Aside0.mk ((by rw [hg]; exact (below_size z0_) : w.heap.size ≤ gb230)); have GE230 := Aside0.mk ((by rw [hg]; exact (below_size z0_) : w.heap.size ≤ gb230)); replace HB := Aside0.mk (below_step z0_ hb); clear hb hbox hg; obtain ⟨hcz13_0, hcz13_1, hcz13_2, hfz13_0, hfz13_1, hfz13_2⟩ := bx3_ BK230.out) | ((with_reducible refine gate_callee (f := 48) rfl ?_); refine goesL_ (some 17) rfl rfl Try.func48 (by kernel_rfl) rfl #[.slice A0 l0.length c0, .int .i64 0, .int .i64 (wrap64 ((l0.length : Int) - 1)), .slice A1 l1.length c1, .int .i64 0, .int .i64 (wrap64 ((l1.length : Int) - 1)), .agg #[.slice A2_0 l2_0.length c2_0, .slice A2_1 l2_1.length c2_1, .slice A2_2 l2_2.length c2_2]] rfl z1_ ?_; (with_reducible refine (impl_ForestDist.calls k _ _ l0 0 (wrap64 ((l0.length : Int) - 1)) _ _ l1 0 (wrap64 ((l1.length : Int) - 1)) _ _ l2_0 _ _ l2_1 _ _ l2_2 t231 _ ?side1 ?side2 ?side3 ?side4 ?side5 ?side6 ?side7 ?side8 ?side9 ?side10 A4.out).mono ?_); (case side1 => exact z7_); (case side2 => exact HC0.out); (case side3 => exact z80_); (case side4 => exact HC1.out); (case side5 => exact z124_); (case side6 => exact HC2_0.out); (case side7 => exact z125_); (case side8 => exact HC2_1.out); (case side9 => exact z126_); (case side10 => exact HC2_2.out); rintro e w14 ⟨rfl, hb⟩; refine ⟨_, rfl, ?_⟩; replace BK230 := Aside0.mk (blk_below z190_ hb); replace HB := Aside0.mk (below_step z102_ hb); (try clear hb)))
    have n0_ := Aside0.mk (blk_drew BK230.out)
    have n1_ := Aside0.mk (below_drew1 HB.out)
    clear BK230
    clear HB
    have BK230 := n0_
    have HB := n1_
    clear n0_ n1_
    have p232 : 0 ≤ (0 : Int) := (by omega)
    have q232 : 0 < (l0.length : Int) := odt_
    obtain ⟨ad232, e232, hx232_0, hx232_1⟩ := at_T61 HR0.out 0 p232 q232
    have hw232_1 := hx232_1
    (try rw [show ((0 : Int)).toNat = 0 from rfl] at hw232_1)
    (try rw [show 0 * 2 = 0 from rfl] at hw232_1)
    (try rw [Addr.add_zero'] at hw232_1)
    have hw232_0 := hx232_0
    (try rw [show ((0 : Int)).toNat = 0 from rfl] at hw232_0)
    (try rw [show 0 * 2 = 0 from rfl] at hw232_0)
    (try rw [Addr.add_zero'] at hw232_0)
    cases e232
    have qi232 : (0 < l0.length) = True := eq_true (by omega)
    (try rw [show ((0 : Int)).toNat = 0 from rfl] at hx232_0)
    (try rw [show 0 * 2 = 0 from rfl] at hx232_0)
    (try rw [Addr.add_zero'] at hx232_0)
    (try rw [show ((0 : Int)).toNat = 0 from rfl] at hx232_1)
    (try rw [show 0 * 2 = 0 from rfl] at hx232_1)
    (try rw [Addr.add_zero'] at hx232_1)
    replace hx232_0 := (HB.out.cell (World.block_lt_of_cell? w _ hx232_0)).trans hx232_0
    replace hx232_1 := (HB.out.cell (World.block_lt_of_cell? w _ hx232_1)).trans hx232_1
    replace p232 := eq_true p232
    replace q232 := eq_true q232
    have p233 : 0 ≤ (0 : Int) := (by omega)
    have q233 : 0 < (l1.length : Int) := odt_
    obtain ⟨ad233, e233, hx233_0, hx233_1⟩ := at_T61 HR1.out 0 p233 q233
    have hw233_1 := hx233_1
    (try rw [show ((0 : Int)).toNat = 0 from rfl] at hw233_1)
    (try rw [show 0 * 2 = 0 from rfl] at hw233_1)
    (try rw [Addr.add_zero'] at hw233_1)
    have hw233_0 := hx233_0
    (try rw [show ((0 : Int)).toNat = 0 from rfl] at hw233_0)
    (try rw [show 0 * 2 = 0 from rfl] at hw233_0)
    (try rw [Addr.add_zero'] at hw233_0)
    cases e233
    have qi233 : (0 < l1.length) = True := eq_true (by omega)
    (try rw [show ((0 : Int)).toNat = 0 from rfl] at hx233_0)
    (try rw [show 0 * 2 = 0 from rfl] at hx233_0)
    (try rw [Addr.add_zero'] at hx233_0)
    (try rw [show ((0 : Int)).toNat = 0 from rfl] at hx233_1)
    (try rw [show 0 * 2 = 0 from rfl] at hx233_1)
    (try rw [Addr.add_zero'] at hx233_1)
    replace hx233_0 := (HB.out.cell (World.block_lt_of_cell? w _ hx233_0)).trans hx233_0
    replace hx233_1 := (HB.out.cell (World.block_lt_of_cell? w _ hx233_1)).trans hx233_1
    replace p233 := eq_true p233
    replace q233 := eq_true q233
    refine start_ (n := 13) (S := fun w' => w'.cell? ⟨gb230, 0, none⟩ = some (.slice A2_0 l2_0.length c2_0) ∧ w'.cell? ⟨gb230, 1, none⟩ = some (.slice A2_1 l2_1.length c2_1) ∧ w'.cell? ⟨gb230, 2, none⟩ = some (.slice A2_2 l2_2.length c2_2) ∧ w'.cell? ad232 = some (.int .i64 ((rd_T61 l0 0).f0)) ∧ w'.cell? ⟨ad232.block, ad232.off + 1, none⟩ = some (.int .i64 ((rd_T61 l0 0).f1)) ∧ w'.cell? ad233 = some (.int .i64 ((rd_T61 l1 0).f0)) ∧ w'.cell? ⟨ad233.block, ad233.off + 1, none⟩ = some (.int .i64 ((rd_T61 l1 0).f1))) (ds := []) (fl_ 13 0) (by kernel_rfl) rfl (fl_zero _) ⟨(blk_cell BK230.out 0).trans rfl, (blk_cell BK230.out 1).trans rfl, (blk_cell BK230.out 2).trans rfl, ((HB.out.cell (World.block_lt_of_cell? w _ hw232_0)).trans hw232_0), ((HB.out.cell (World.block_lt_of_cell? w _ hw232_1)).trans hw232_1), ((HB.out.cell (World.block_lt_of_cell? w _ hw233_0)).trans hw233_0), ((HB.out.cell (World.block_lt_of_cell? w _ hw233_1)).trans hw233_1)⟩ (fun hHeld => ?_); refine with_tabW impl_RootDist.tab4 impl_RootDist.bits4 (fun HT_ HW_ => ?_)
    generalize w14.drew = w15 at BK230 HB hx232_0 hx232_1 hx233_0 hx233_1 hHeld ⊢
    refine zp_ HT_ rfl rfl (by kernel_rfl) (fun _ _ _ h => h) (by rfl) ?_
    refine zpg_ (i := 2) (ra_ [1, 1, 1, 10]) HT_ rfl rfl (by kernel_rfl) (fun _ _ _ h => h) (by rfl) ?_
    refine zpg_ (i := 3) (ra_ [1, 1, 2, 9]) HT_ rfl rfl (by kernel_rfl) (fun _ _ _ h => h) (by rfl) ?_
    refine zpg_ (i := 4) (ra_ [1, 1, 3, 8]) HT_ rfl rfl (by kernel_rfl) (fun _ _ _ h => h) (by rfl) ?_
    refine zpg_ (i := 6) (ra_ [1, 1, 3, 1, 1, 6]) HT_ rfl rfl (by kernel_rfl) (fun _ _ _ h => h) (by rfl) ?_
    refine zpg_ (i := 7) (ra_ [1, 1, 3, 1, 2, 5]) HT_ rfl rfl (by kernel_rfl) (fun _ _ _ h => h) (by rfl) ?_
    refine zpg_ (i := 8) (ra_ [1, 1, 3, 1, 3, 4]) HT_ rfl rfl (by kernel_rfl) (fun _ _ _ h => h) (by rfl) ?_
    refine ztg_ (i := 1) (ra_ [5, 1, 3, 4]) HT_ HW_ rfl rfl (by kernel_rfl) (fun _ _ _ h => h) (by rfl) hHeld ?_ z235_
    refine ztg_ (i := 5) (fl_ 13 9) HT_ HW_ rfl rfl (by kernel_rfl) (fun _ _ _ h => h) (by rfl) hHeld ?_ z235_
    refine zt_ HT_ HW_ rfl rfl (by kernel_rfl) (fun _ _ _ h => h) (by rfl) hHeld ?_ z235_
    refine one_ (i := 10) (N := some 30) (fl_ 13 11) rfl rfl (one_of HT_.out (by kernel_rfl)) (by decide) (fun K hK => ?_)
    refine goes_ Try.func49 (by kernel_rfl) rfl #[.agg #[.slice A2_0 l2_0.length c2_0, .slice A2_1 l2_1.length c2_1, .slice A2_2 l2_2.length c2_2], .int .i64 ((rd_T61 l0 0).f0), .int .i64 ((rd_T61 l1 0).f0)] (by rfl) rfl rfl z1_ ?_
    with_reducible refine (impl_RelCost.calls k _ _ l2_0 _ _ l2_1 _ _ l2_2 ((rd_T61 l0 0).f0) ((rd_T61 l1 0).f0) t234 _ ?side1 ?side2 ?side3 ?side4 ?side5 ?side6 A11.out).mono ?_
    (case side1 => exact z124_)
    (case side2 => exact HC2_0.out)
    (case side3 => exact z125_)
    (case side4 => exact HC2_1.out)
    (case side5 => exact z126_)
    (case side6 => exact HC2_2.out)
    rintro e w16 ⟨rfl, hb⟩
    refine ⟨_, rfl, ?_⟩
    have n0_ := Aside0.mk (blk_below z190_ hb)
    have n1_ := Aside0.mk (below_step z102_ hb)
    clear BK230
    clear HB
    have BK230 := n0_
    have HB := n1_
    clear n0_ n1_
    (try clear hb)
    refine hK.out _ _ ⟨(blk_cell BK230.out 0).trans rfl, (blk_cell BK230.out 1).trans rfl, (blk_cell BK230.out 2).trans rfl, ((HB.out.cell (World.block_lt_of_cell? w _ hw232_0)).trans hw232_0), ((HB.out.cell (World.block_lt_of_cell? w _ hw232_1)).trans hw232_1), ((HB.out.cell (World.block_lt_of_cell? w _ hw233_0)).trans hw233_0), ((HB.out.cell (World.block_lt_of_cell? w _ hw233_1)).trans hw233_1)⟩ (fun hHeld => ?_)
    clear hK K
    refine zn_ rfl ?_
    iterate 2 refine zp_ HT_ rfl rfl (by kernel_rfl) (fun _ _ _ h => h) (by rfl) ?_
    refine done_ (done_of HT_.out (by kernel_rfl)) ?_
    try go_wp2
    go_ret
    exact ⟨z6_, z102_⟩

/-! ### spec_l1In: function 55 -/
def spec_l1In.f (a0 : Int) (a1 : Int) (a2 : Int) : Option (Bool) := if a0 ≥ a1 then (some (decide (a0 ≤ a2))) else (some false)
set_option maxHeartbeats 8000000 in
set_option maxRecDepth 100000 in
theorem spec_l1In.calls (a0 : Int) (a1 : Int) (a2 : Int) (r : Bool) (w : World) (h : spec_l1In.f a0 a1 a2 = some r) :
    Calls Try.prog 55 #[.int .i64 a0, .int .i64 a1, .int .i64 a2] w fun e w' => e = .returned (.bool r) ∧ Drawn0 w w' := by
  have H : (if a0 ≥ a1 then (some (decide (a0 ≤ a2))) else (some false)) = some r := h
  clear h
  by_cases c4 : a0 ≥ a1
  · rw [if_pos c4] at H
    have c4b0 := decide_eq_true c4
    clear c4
    obtain rfl := Option.some.inj H
    go_enter Try.func55, Try.ntmps55
    go_wp2
    go_ret
    exact ⟨z10_, z51_⟩
  · rw [if_neg c4] at H
    have c4b0 := decide_eq_false c4
    clear c4
    obtain rfl := Option.some.inj H
    go_enter Try.func55, Try.ntmps55
    go_wp2
    go_ret
    exact ⟨z10_, z51_⟩

/-! ### spec_LabelOk: function 54 -/
def spec_LabelOk.f (a0 : Int) : Option (Bool) := (spec_l1In.f a0 0 5).bind fun t235 => (some t235)
set_option maxHeartbeats 8000000 in
set_option maxRecDepth 100000 in
theorem spec_LabelOk.calls (a0 : Int) (r : Bool) (w : World) (h : spec_LabelOk.f a0 = some r) :
    Calls Try.prog 54 #[.int .i64 a0] w fun e w' => e = .returned (.bool r) ∧ Drawn0 w w' := by
  have H : ((spec_l1In.f a0 0 5).bind fun t235 => (some t235)) = some r := h
  clear h
  obtain ⟨t235, A2, H⟩ := bnd_ H
  obtain rfl := Option.some.inj H
  go_enter Try.func54, Try.ntmps54
  go_wp2_with (((with_reducible refine gate_callee (f := 55) rfl ?_); refine goesL_ (some 4) rfl rfl Try.func55 (by kernel_rfl) rfl #[.int .i64 a0, .int .i64 0, .int .i64 5] rfl z1_ ?_; (with_reducible refine (spec_l1In.calls a0 0 5 t235 _ A2.out).mono ?_); rintro e w' ⟨rfl, ⟨nd, rfl⟩⟩; refine ⟨_, rfl, ?_⟩))
  go_ret
  exact ⟨z10_, z51_⟩

end Go.Proofs.Ytbmkobanpakohaa.PFnMirrored
