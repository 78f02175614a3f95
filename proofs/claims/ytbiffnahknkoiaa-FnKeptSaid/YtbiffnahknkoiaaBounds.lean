/- The begins of a node's kids and its end, by number and by place; what an insertion and a deletion do to the depths; plain numbers, each fact under the bounds that it names. -/
import Derived.Test.YtbiffnahknkoiaaPaths
namespace Go.Proofs.Ytbiffnahknkoiaa.Tree
set_option linter.unusedVariables false

theorem getD_left {α : Type} {l m : List α} {d : α} {j : Nat} (h : j < l.length) : (l ++ m).getD j d = l.getD j d := by
  rw [List.getD_eq_getElem?_getD, List.getD_eq_getElem?_getD, List.getElem?_append_left h]
theorem getD_right {α : Type} {l m : List α} {d : α} {j : Nat} (h : l.length ≤ j) : (l ++ m).getD j d = m.getD (j - l.length) d := by
  rw [List.getD_eq_getElem?_getD, List.getD_eq_getElem?_getD, List.getElem?_append_right h]

/-- how many places from a up to b have the depth d -/
def cnt (D : Nat → Int) (d : Int) (a b : Nat) : Nat := ((List.range' a (b - a)).filter fun k => decide (D k = d)).length

theorem cnt_self (D : Nat → Int) (d : Int) (a : Nat) : cnt D d a a = 0 := by simp [cnt]
theorem cnt_split (D : Nat → Int) (d : Int) {a b c : Nat} (h1 : a ≤ b) (h2 : b ≤ c) : cnt D d a c = cnt D d a b + cnt D d b c := by
  unfold cnt
  have e : c - a = (b - a) + (c - b) := by omega
  have e2 : a + (b - a) = b := by omega
  rw [e, ← List.range'_append_1, List.filter_append, List.length_append, e2]
theorem cnt_congr {D D' : Nat → Int} {d : Int} {a b : Nat} (h : ∀ k, a ≤ k → k < b → D k = D' k) : cnt D d a b = cnt D' d a b := by
  unfold cnt
  congr 1
  apply List.filter_congr
  intro k hk
  rw [List.mem_range'_1] at hk
  rw [h k hk.1 (by omega)]
/-- shifted by a place, and by so much -/
theorem cnt_shift {D D' : Nat → Int} {d d' : Int} (s : Nat) {a b : Nat} (h : ∀ k, a ≤ k → k < b → (D k = d ↔ D' (k + s) = d')) : cnt D d a b = cnt D' d' (a + s) (b + s) := by
  unfold cnt
  have e : b + s - (a + s) = b - a := by omega
  rw [e]
  have key : ∀ m a, (∀ k, a ≤ k → k < a + m → (D k = d ↔ D' (k + s) = d')) → ((List.range' a m).filter fun k => decide (D k = d)).length = ((List.range' (a + s) m).filter fun k => decide (D' k = d')).length := by
    intro m
    induction m with
    | zero => intro a _; rfl
    | succ m ih =>
      intro a ha
      have i := ih (a + 1) (fun k h1 h2 => ha k (by omega) (by omega))
      have e3 : a + 1 + s = a + s + 1 := by omega
      rw [e3] at i
      rw [List.range'_succ, List.range'_succ, List.filter_cons, List.filter_cons]
      have h0 := ha a (Nat.le_refl _) (by omega)
      by_cases hd : D a = d
      · rw [if_pos (by simpa using hd), if_pos (by simpa using h0.1 hd), List.length_cons, List.length_cons, i]
      · rw [if_neg (by simpa using hd), if_neg (by simpa using fun h => hd (h0.2 h)), i]
  refine key (b - a) a (fun k h1 h2 => h k h1 (by omega))
theorem cnt_none {D : Nat → Int} {d : Int} {a b : Nat} (h : ∀ k, a ≤ k → k < b → D k ≠ d) : cnt D d a b = 0 := by
  unfold cnt
  rw [List.length_eq_zero_iff, List.filter_eq_nil_iff]
  intro k hk
  rw [List.mem_range'_1] at hk
  simpa using h k hk.1 (by omega)
theorem cnt_one {D : Nat → Int} {d : Int} {a : Nat} (h : D a = d) : cnt D d a (a + 1) = 1 := by
  unfold cnt
  have e : a + 1 - a = 1 := by omega
  rw [e]
  simp [h]

/-- the begins of the kids, and the end -/
def bounds (n : Nat) (D : Nat → Int) (i : Nat) : List Nat := kids n D i ++ [eo n D i]

theorem kids_length_cnt (n : Nat) (D : Nat → Int) (i : Nat) : (kids n D i).length = cnt D (D i + 1) (i + 1) (eo n D i) := rfl

/-- the place x is the begin of a kid of i, or its end -/
def IsB (n : Nat) (D : Nat → Int) (i x : Nat) : Prop := i < x ∧ (x = eo n D i ∨ (x < eo n D i ∧ D x = D i + 1))

theorem bounds_at {n : Nat} {D : Nat → Int} {i x : Nat} (h : IsB n D i x) : (bounds n D i).getD (cnt D (D i + 1) (i + 1) x) 0 = x ∧ cnt D (D i + 1) (i + 1) x ≤ (kids n D i).length := by
  obtain ⟨h1, h2⟩ := h
  have hx : x ≤ eo n D i := by omega
  have hs := cnt_split D (D i + 1) (a := i + 1) (b := x) (c := eo n D i) (by omega) hx
  have hk : kids n D i = (List.range' (i + 1) (x - (i + 1))).filter (fun k => decide (D k = D i + 1)) ++ (List.range' x (eo n D i - x)).filter (fun k => decide (D k = D i + 1)) := by
    unfold kids
    have e : eo n D i - (i + 1) = (x - (i + 1)) + (eo n D i - x) := by omega
    have e2 : i + 1 + (x - (i + 1)) = x := by omega
    rw [e, ← List.range'_append_1, List.filter_append, e2]
  refine ⟨?_, by rw [kids_length_cnt]; omega⟩
  unfold bounds
  rw [hk, List.append_assoc, getD_right (j := cnt D (D i + 1) (i + 1) x) (by simp [cnt])]
  have e0 : cnt D (D i + 1) (i + 1) x - ((List.range' (i + 1) (x - (i + 1))).filter (fun k => decide (D k = D i + 1))).length = 0 := by simp [cnt]
  rw [e0]
  rcases h2 with h2 | ⟨h2, h3⟩
  · subst h2; simp
  · have e : eo n D i - x = (eo n D i - (x + 1)) + 1 := by omega
    rw [e, List.range'_succ, List.filter_cons, if_pos (by simpa using h3)]
    simp

/-- the other way: what stands at a number -/
theorem bounds_is {n : Nat} {D : Nat → Int} {i r : Nat} (h : r ≤ (kids n D i).length) : IsB n D i ((bounds n D i).getD r 0) ∧ cnt D (D i + 1) (i + 1) ((bounds n D i).getD r 0) = r := by
  have key : IsB n D i ((bounds n D i).getD r 0) := by
    unfold bounds
    rcases Nat.lt_or_ge r (kids n D i).length with h1 | h1
    · rw [getD_left h1, List.getD_eq_getElem?_getD, List.getElem?_eq_getElem h1]
      have := mem_kids.1 (List.getElem_mem h1)
      exact ⟨this.1, .inr this.2⟩
    · have e : r = (kids n D i).length := by omega
      rw [e, getD_right (Nat.le_refl _), Nat.sub_self]
      exact ⟨eo_gt, .inl rfl⟩
  refine ⟨key, ?_⟩
  have hb := bounds_at key
  have hn : (bounds n D i).Nodup := by
    unfold bounds
    rw [List.nodup_append]
    refine ⟨kids_nodup, by simp, ?_⟩
    intro a ha b hb2 e
    simp only [List.mem_singleton] at hb2
    have := (mem_kids.1 ha).2.1
    omega
  have hl : (bounds n D i).length = (kids n D i).length + 1 := by simp [bounds]
  have h1 := idxOf_getD hn (j := r) (d := 0) (by omega)
  have h2 := idxOf_getD hn (j := cnt D (D i + 1) (i + 1) ((bounds n D i).getD r 0)) (d := 0) (by omega)
  rw [hb.1] at h2
  omega

theorem bounds_mono {n : Nat} {D : Nat → Int} {i r s : Nat} (h : r ≤ s) (hs : s ≤ (kids n D i).length) : (bounds n D i).getD r 0 ≤ (bounds n D i).getD s 0 := by
  have a := bounds_is (n := n) (D := D) (i := i) (r := r) (by omega)
  have b := bounds_is (n := n) (D := D) (i := i) (r := s) hs
  rcases Nat.lt_or_ge ((bounds n D i).getD s 0) ((bounds n D i).getD r 0) with h1 | h1
  · have hb := b.1
    have ha := a.1
    have hs2 := cnt_split D (D i + 1) (a := i + 1) (b := (bounds n D i).getD s 0) (c := (bounds n D i).getD r 0) (by have := hb.1; omega) (by omega)
    have hlt : (bounds n D i).getD s 0 < eo n D i := by rcases ha.2 with e | e <;> omega
    have hd : D ((bounds n D i).getD s 0) = D i + 1 := by rcases hb.2 with e | e <;> omega
    have h2 := cnt_split D (D i + 1) (a := (bounds n D i).getD s 0) (b := (bounds n D i).getD s 0 + 1) (c := (bounds n D i).getD r 0) (by omega) (by omega)
    have h3 := cnt_one hd
    omega
  · exact h1

/-- which kid a node is: how many of its depth stand between its parent and it -/
theorem rank_cnt {n : Nat} {D : Nat → Int} {p i : Nat} (hk : i ∈ kids n D p) : (kids n D p).idxOf i = cnt D (D p + 1) (p + 1) i := by
  obtain ⟨h1, h2, h3⟩ := mem_kids.1 hk
  have hb := bounds_at (n := n) (D := D) (i := p) (x := i) ⟨h1, .inr ⟨h2, h3⟩⟩
  have hlt : cnt D (D p + 1) (p + 1) i < (kids n D p).length := by
    have hs := cnt_split D (D p + 1) (a := p + 1) (b := i) (c := eo n D p) (by omega) (by omega)
    have hs2 := cnt_split D (D p + 1) (a := i) (b := i + 1) (c := eo n D p) (by omega) (by omega)
    have := cnt_one h3
    rw [kids_length_cnt]
    omega
  have e : (kids n D p).getD (cnt D (D p + 1) (p + 1) i) 0 = i := by
    have := hb.1
    unfold bounds at this
    rwa [getD_left hlt] at this
  have := idxOf_getD kids_nodup (l := kids n D p) (d := 0) hlt
  rw [e] at this
  exact this

theorem upFrom_congr {D D' : Nat → Int} {d : Int} : ∀ {j : Nat}, (∀ t, t < j → D t = D' t) → upFrom D d j = upFrom D' d j := by
  intro j
  induction j with
  | zero => intro _; rfl
  | succ j ih =>
    intro h
    rw [upFrom, upFrom, h j (by omega), ih (fun t ht => h t (by omega))]

/-- a path hangs on what stands up to its node alone -/
theorem pathTo_congr {n n' : Nat} {D D' : Nat → Int} (hv : Vd n D) (hv' : Vd n' D') : ∀ i, i < n → i < n' → (∀ t, t ≤ i → D t = D' t) → pathTo n D i = pathTo n' D' i := by
  intro i
  induction i using Nat.strongRecOn with
  | _ i ih =>
    intro hi hi' h
    by_cases h0 : i = 0
    · subst h0; rfl
    · obtain ⟨p, e, a, b, c, d, m⟩ := par_spec hv (by omega) hi
      obtain ⟨p', e', a', b', c', d', m'⟩ := par_spec hv' (by omega) hi'
      have hp : par D i = par D' i := by unfold par; rw [h i (Nat.le_refl _)]; exact upFrom_congr (fun t ht => h t (by omega))
      have hpp : p = p' := by rw [e, e'] at hp; omega
      subst hpp
      rw [pathTo_eq hv (by omega) hi, pathTo_eq hv' (by omega) hi', ← hp, e]
      simp only [Int.toNat_natCast]
      rw [ih p a (by omega) (by omega) (fun t ht => h t (by omega))]
      congr 3
      unfold rank
      rw [← hp, e]
      simp only [Int.toNat_natCast]
      rw [rank_cnt m, rank_cnt m', h p (by omega)]
      exact cnt_congr (fun k h1 h2 => h k (by omega))

end Go.Proofs.Ytbiffnahknkoiaa.Tree
