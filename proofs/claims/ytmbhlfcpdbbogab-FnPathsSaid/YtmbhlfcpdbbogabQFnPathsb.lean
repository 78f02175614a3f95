/- What the printed functions of the law FnPaths come to, function by function, from some number of rounds on; each under the bounds that it names. -/
import Derived.Test.YtmbhlfcpdbbogabQFnPathsa
namespace Go.Proofs.Ytmbhlfcpdbbogab.QFnPaths
open Go.RowKit Go.Proofs.Ytmbhlfcpdbbogab.PFnPaths Go.Proofs.YtmbhlfcpdbbogabW.PrintWords Go.Proofs.YtmbhlfcpdbbogabW.PrintLast Go.Proofs.YtmbhlfcpdbbogabW.PrintMore Go.Proofs.Ytmbhlfcpdbbogab.EvAid Go.Proofs.Ytmbhlfcpdbbogab
set_option linter.unusedVariables false
set_option linter.unusedSimpArgs false

/-! #### spec_KidsOf -/
theorem spec_KidsOf_l0 (l : List S55) (i : Nat) (hh : hasB l (i : Int) = true) (hi : i < l.length) (hm : l.length ≤ 24) (ht : treeOk l = true) : ∀ (d j : Nat), j + d = Tree.eo l.length (dpA l) i → i < j →
    Ev (fun k => spec_KidsOf.l0 k l (i : Int) (kidsTo l i j) (j : Int)) (kidsTo l i (Tree.eo l.length (dpA l) i)) := by
  have he := Tree.eo_le (D := dpA l) hi
  have hE : endI l (i : Int) = (Tree.eo l.length (dpA l) i : Int) := by unfold endI; rw [if_pos hh]; rfl
  intro d
  induction d with
  | zero =>
    intro j h hj
    refine ev_succ ?_
    simp only [spec_KidsOf.l0]
    refine ev_bind (l3At_ev l i (by omega)) (ev_pos hh (ev_bind (spec_EndOf_ev l i (by omega)) (ev_succ ?_)))
    simp only [spec_KidsOf.j1]
    rw [hE]
    refine ev_neg (by simp; omega) (ev_some ?_)
    have : j = Tree.eo l.length (dpA l) i := by omega
    rw [this]
  | succ d ih =>
    intro j h hj
    refine ev_succ ?_
    simp only [spec_KidsOf.l0]
    have d2 := dp_range ht hi
    have hk := kidsTo_length l i j
    refine ev_bind (l3At_ev l i (by omega)) (ev_pos hh (ev_bind (spec_EndOf_ev l i (by omega)) (ev_succ ?_)))
    simp only [spec_KidsOf.j1]
    simp only [rd_f1]
    rw [hE]
    refine ev_pos (by simp; omega) (ev_pos (by omega) (ev_pos (by omega) (ev_pos (by omega) (ev_pos (by omega) ?_))))
    rw [w64 (x := dpA l i + 1) (by omega) (by omega), w64 (x := (j : Int) + 1) (by omega) (by omega)]
    have := ih (j + 1) (by omega) (by omega)
    rw [kidsTo_step l i j hj] at this
    by_cases hd : dpA l j = dpA l i + 1
    · rw [if_pos hd] at this
      exact ev_pos hd (ev_pos (by omega) this)
    · rw [if_neg hd, List.append_nil] at this
      exact ev_neg hd this
theorem spec_KidsOf_ev (l : List S55) (i : Int) (hm : (l.length : Int) ≤ 9223372036854775806) : Ev (fun k => spec_KidsOf.f k l i) (kidsI l i) := by
  simp only [spec_KidsOf.f]
  by_cases h : hasB l i = true
  · obtain ⟨j, rfl, hj, h1, h2, hv⟩ := hasB_nat h
    have g := @Tree.eo_gt l.length (dpA l) j
    rw [w64 (by omega) (by omega), kidsI_nat h]
    have := spec_KidsOf_l0 l j h hj h2 h1 (Tree.eo l.length (dpA l) j - (j + 1)) (j + 1) (by omega) (by omega)
    have e : kidsTo l j (j + 1) = [] := by unfold kidsTo; rw [Nat.sub_self]; rfl
    rw [e] at this
    exact this
  · refine ev_succ ?_
    simp only [spec_KidsOf.l0]
    refine ev_bind (l3At_ev l i hm) (ev_neg h (ev_succ ?_))
    simp only [spec_KidsOf.j1]
    refine ev_neg (by decide) (ev_some ?_)
    unfold kidsI
    rw [if_neg h]

/-! #### spec_KidRank -/
theorem spec_KidRank_l0 (l : List Int) (x : Int) (hm : (l.length : Int) ≤ 9223372036854775806) : ∀ (d i : Nat), i + d = l.length → (∀ j, j < i → (hj : j < l.length) → l[j] ≠ x) → Ev (fun k => spec_KidRank.l0 k x l (i : Int)) (idxJ l x) := by
  intro d
  induction d with
  | zero =>
    intro i h hn
    refine ev_succ ?_
    simp only [spec_KidRank.l0]
    refine ev_neg (by omega) (ev_some ?_)
    unfold idxJ
    rw [if_neg]
    intro hm2
    obtain ⟨j, hj, e⟩ := List.getElem_of_mem hm2
    exact hn j (by omega) hj e
  | succ d ih =>
    intro i h hn
    refine ev_succ ?_
    simp only [spec_KidRank.l0]
    have hi : i < l.length := by omega
    have e : rd l (i : Int) = l[i] := by simp [rd, hi]
    refine ev_pos (by omega) (ev_pos (by omega) ?_)
    rw [e]
    by_cases hx : l[i] = x
    · refine ev_pos hx (ev_some ?_)
      unfold idxJ
      have hmem : x ∈ l := by rw [← hx]; exact List.getElem_mem hi
      rw [if_pos hmem]
      have hlt := List.idxOf_lt_length_of_mem hmem
      have hge := List.getElem_idxOf hlt
      have h1 : ¬ l.idxOf x < i := fun hlt2 => hn _ hlt2 hlt hge
      have h2 : ¬ i < l.idxOf x := by
        intro hlt2
        have := List.not_of_lt_findIdx (p := (· == x)) (xs := l) (i := i) hlt2
        simp at this
        exact this hx
      omega
    · refine ev_neg hx ?_
      rw [w64 (by omega) (by omega)]
      refine ih (i + 1) (by omega) (fun j hj hjl => ?_)
      by_cases ej : j = i
      · subst ej; exact hx
      · exact hn j (by omega) hjl
theorem spec_KidRank_ev (l : List S55) (i : Int) (hm : (l.length : Int) ≤ 9223372036854775806) : Ev (fun k => spec_KidRank.f k l i) (rankI l i) := by
  simp only [spec_KidRank.f]
  refine ev_bind (spec_ParentOf_ev l i hm) ?_
  unfold rankI
  have hk := kidsI_length l (parI l i)
  by_cases h : parI l i < 0
  · refine ev_pos h ?_
    rw [if_pos h]
    exact Ev.now _
  · refine ev_neg h (ev_bind (spec_KidsOf_ev l _ hm) ?_)
    rw [if_neg h]
    exact spec_KidRank_l0 _ _ (by omega) (kidsI l (parI l i)).length 0 (by omega) (fun j h => absurd h (Nat.not_lt_zero _))

/-! #### spec_PathOf -/
theorem parI_lt {l : List S55} {i : Int} (h : ¬ parI l i < 0) : parI l i < i ∧ 0 ≤ i := by
  unfold parI at h ⊢
  by_cases hh : hasB l i = true
  · rw [if_pos hh] at h ⊢
    obtain ⟨j, rfl, hj, _⟩ := hasB_nat hh
    rw [Int.toNat_natCast] at h ⊢
    unfold Tree.par at h ⊢
    rcases Tree.upFrom_spec (dpA l) (dpA l j) j with ⟨e, _⟩ | ⟨p, e, a, _⟩
    · rw [e] at h; omega
    · rw [e]; omega
  · rw [if_neg hh] at h; omega
theorem rankI_par {l : List S55} {i : Int} (h : rankI l i ≥ 0) : ¬ parI l i < 0 := by
  intro hp
  unfold rankI at h
  rw [if_pos hp] at h
  omega
/-- the path of a node, its numbers put ahead of what is there -/
def pathUp (l : List S55) : Nat → Int → List Int → List Int
  | 0, _, acc => acc
  | n + 1, i, acc => if rankI l i ≥ 0 then pathUp l n (parI l i) (rankI l i :: acc) else acc
/-- the path of a node -/
def pathI (l : List S55) (i : Int) : List Int := pathUp l (i + 1).toNat i []
theorem pathUp_length (l : List S55) : ∀ (n : Nat) (i : Int) (acc : List Int), (pathUp l n i acc).length ≤ acc.length + n := by
  intro n
  induction n with
  | zero => intro i acc; exact Nat.le_refl _
  | succ n ih =>
    intro i acc
    rw [pathUp]
    split
    · have := ih (parI l i) (rankI l i :: acc)
      simp only [List.length_cons] at this
      omega
    · omega
theorem spec_PathOf_l0 (l : List S55) (hm : (l.length : Int) ≤ 1099511627776) : ∀ (n : Nat) (i : Int) (acc : List Int), i < (n : Int) → acc.length + n ≤ 1099511627776 → Ev (fun k => spec_PathOf.l0 k l acc i) (pathUp l n i acc) := by
  intro n
  induction n with
  | zero =>
    intro i acc hi ha
    refine ev_succ ?_
    simp only [spec_PathOf.l0]
    have hr : ¬ rankI l i ≥ 0 := fun h => by have := (parI_lt (rankI_par h)).2; omega
    exact ev_bind (spec_KidRank_ev l i (by omega)) (ev_neg hr (Ev.now _))
  | succ n ih =>
    intro i acc hi ha
    refine ev_succ ?_
    simp only [spec_PathOf.l0]
    rw [pathUp]
    refine ev_bind (spec_KidRank_ev l i (by omega)) ?_
    by_cases hr : rankI l i ≥ 0
    · rw [if_pos hr]
      have hp := parI_lt (rankI_par hr)
      refine ev_pos hr (ev_bind (spec_KidRank_ev l i (by omega)) (ev_bindc rfl (ev_pos (by simp only [List.length_singleton]; omega) (ev_bind (spec_ParentOf_ev l i (by omega)) ?_))))
      exact ih (parI l i) (rankI l i :: acc) (by omega) (by simp only [List.length_cons]; omega)
    · rw [if_neg hr]
      exact ev_neg hr (Ev.now _)
theorem pathUp_more (l : List S55) : ∀ (n m : Nat) (i : Int) (acc : List Int), i < (n : Int) → i < (m : Int) → pathUp l n i acc = pathUp l m i acc := by
  intro n
  induction n with
  | zero =>
    intro m i acc h1 h2
    have hr : ¬ rankI l i ≥ 0 := fun h => by have := (parI_lt (rankI_par h)).2; omega
    cases m with
    | zero => rfl
    | succ m => rw [pathUp, pathUp, if_neg hr]
  | succ n ih =>
    intro m i acc h1 h2
    by_cases hr : rankI l i ≥ 0
    · have hp := parI_lt (rankI_par hr)
      cases m with
      | zero => omega
      | succ m => rw [pathUp, pathUp, if_pos hr, if_pos hr]; exact ih m _ _ (by omega) (by omega)
    · cases m with
      | zero => rw [pathUp, pathUp, if_neg hr]
      | succ m => rw [pathUp, pathUp, if_neg hr, if_neg hr]
theorem spec_PathOf_ev (l : List S55) (i : Int) (hm : (l.length : Int) ≤ 1099511627775) : Ev (fun k => spec_PathOf.f k l i) (pathI l i) := by
  simp only [spec_PathOf.f]
  unfold pathI
  by_cases hi : i < (l.length : Int)
  · have := spec_PathOf_l0 l (by omega) (l.length + 1) i [] (by omega) (by simp only [List.length_nil]; omega)
    rw [pathUp_more l (l.length + 1) (i + 1).toNat i [] (by omega) (by omega)] at this
    exact this
  · have hr : ¬ rankI l i ≥ 0 := by
      intro h
      have h2 := rankI_par h
      unfold parI at h2
      have : ¬ hasB l i = true := fun hh => by have := (hasB_iff.1 hh).2.2; omega
      rw [if_neg this] at h2
      omega
    have e : pathUp l (i + 1).toNat i [] = [] := by
      cases (i + 1).toNat with
      | zero => rfl
      | succ m => rw [pathUp, if_neg hr]
    rw [e]
    refine ev_succ ?_
    simp only [spec_PathOf.l0]
    exact ev_bind (spec_KidRank_ev l i (by omega)) (ev_neg hr (Ev.now _))
theorem pathI_length (l : List S55) (i : Int) : (pathI l i).length ≤ l.length + 1 := by
  unfold pathI
  by_cases hi : i < (l.length : Int)
  · have := pathUp_length l (i + 1).toNat i []
    simp only [List.length_nil] at this
    omega
  · have hr : ¬ rankI l i ≥ 0 := by
      intro h
      have h2 := rankI_par h
      unfold parI at h2
      have : ¬ hasB l i = true := fun hh => by have := (hasB_iff.1 hh).2.2; omega
      rw [if_neg this] at h2
      omega
    cases (i + 1).toNat with
    | zero => simp [pathUp]
    | succ m => rw [pathUp, if_neg hr]; simp

/-! #### spec_DrawNodeAt -/
theorem DrawNodeAt_ok (l : List Int) (hl : (l.length : Int) ≤ 4611686018427387904) : ∃ a q, Ev (fun k => spec_DrawNodeAt.f k l) (a, q) ∧ a.length ≤ 1000 ∧ q.length ≤ 1001 := by
  obtain ⟨h, hn⟩ := l1New_ev l hl
  obtain ⟨t, j, i1, h1, b1, ht, hc1⟩ := l3Where_ok l 0 h ⟨⟨by omega, by omega⟩, hl⟩
  have hpl := pathI_length t j
  have hp := spec_PathOf_ev t j (by omega)
  by_cases hz : ((pathI t j).length : Int) > 0
  · obtain ⟨o, i2, h2, b2, hc2⟩ := l1Once_ok l i1 h1 3 hc1
    by_cases ho : o = true
    · obtain ⟨x, i3, h3, b3, x0, x1, _, hc3⟩ := l1Below_ok l i2 h2 ((pathI t j).length : Int) hc2
      obtain ⟨y, i4, h4, b4, _, _, _, hc4⟩ := l1Below_ok l i3 h3 4 hc3
      refine ⟨t, (pathI t j).set (x : Int).toNat (wrap64 (y - 1)), ?_, ht, by rw [List.length_set]; omega⟩
      simp only [spec_DrawNodeAt.f]
      refine ev_bind hn (ev_bind b1 (ev_bind hp (ev_pos hz (ev_bindc b2 (ev_succ ?_)))))
      simp only [spec_DrawNodeAt.j0]
      exact ev_pos ho (ev_bindc b3 (ev_bindc b4 (ev_pos x0 (ev_pos (x1 hz) (Ev.now _)))))
    · refine ⟨t, pathI t j, ?_, ht, by omega⟩
      simp only [spec_DrawNodeAt.f]
      refine ev_bind hn (ev_bind b1 (ev_bind hp (ev_pos hz (ev_bindc b2 (ev_succ ?_)))))
      simp only [spec_DrawNodeAt.j0]
      exact ev_neg ho (Ev.now _)
  · refine ⟨t, pathI t j, ?_, ht, by omega⟩
    simp only [spec_DrawNodeAt.f]
    refine ev_bind hn (ev_bind b1 (ev_bind hp (ev_neg hz (ev_succ ?_))))
    simp only [spec_DrawNodeAt.j0]
    exact ev_neg (by decide) (Ev.now _)

/-! #### impl_NodeAt -/
theorem impl_NodeAt_l0 (l : List S55) (p : List Int) (ht : treeOk l = true) (hp : (p.length : Int) ≤ 9223372036854775806) : ∀ (d j i : Nat), j + d = p.length → i < l.length → Ev (fun k => impl_NodeAt.l0 k l (i : Int) p (p.length : Int) (j : Int)) (optI (Tree.goDown l.length (dpA l) i (p.drop j))) := by
  have h24 := (treeOk_iff.1 ht).1
  intro d
  induction d with
  | zero =>
    intro j i h hi
    refine ev_succ ?_
    simp only [impl_NodeAt.l0]
    rw [List.drop_eq_nil_of_le (by omega)]
    exact ev_neg (by omega) (Ev.now _)
  | succ d ih =>
    intro j i h hi
    refine ev_succ ?_
    simp only [impl_NodeAt.l0]
    have hkl := kidsI_length l (i : Int)
    refine ev_pos (by omega) (ev_pos (by omega) (ev_pos (by omega) (ev_bind (impl_KidsOf_ev l _ (by omega)) (ev_bindc (within_eq _ _ _) ?_))))
    rw [w64 (by omega) (by omega), kidsI_ok ht hi, List.length_map, drop_rd p j (by omega), Tree.goDown]
    by_cases hk : 0 ≤ rd p (j : Int) ∧ rd p (j : Int) < ((Tree.kids l.length (dpA l) i).length : Int)
    · rw [if_pos hk]
      refine ev_pos (decide_eq_true (by omega)) (ev_pos hk.1 (ev_pos hk.2 ?_))
      rw [rd_nat _ _ hk.1 hk.2, w64 (x := (j : Int) + 1) (by omega) (by omega)]
      refine ih (j + 1) _ (by omega) (Tree.kids_lt (D := dpA l) hi ?_)
      rw [List.getD_eq_getElem?_getD, List.getElem?_eq_getElem (by omega)]
      exact List.getElem_mem _
    · rw [if_neg hk]
      exact ev_neg (by simp only [decide_eq_true_eq]; omega) (Ev.now _)
theorem impl_NodeAt_ev (l : List S55) (p : List Int) (hp : (p.length : Int) ≤ 9223372036854775806) : Ev (fun k => impl_NodeAt.f k l p) (nodeI l p) := by
  simp only [impl_NodeAt.f]
  refine ev_bind (impl_TreeOk_ev l) ?_
  unfold nodeI
  by_cases h : treeOk l = true
  · rw [if_pos h]
    exact ev_pos h (impl_NodeAt_l0 l p h hp p.length 0 0 (by omega) (by have := (treeOk_iff.1 h).1; omega))
  · rw [if_neg h]
    exact ev_neg h (Ev.now _)

/-! #### spec_NodeAt -/
theorem spec_NodeAt_l0 (l : List S55) (p : List Int) (ht : treeOk l = true) (hp : (p.length : Int) ≤ 9223372036854775806) : ∀ (d j i : Nat), j + d = p.length → i < l.length → Ev (fun k => spec_NodeAt.l0 k l p (i : Int) (j : Int)) (optI (Tree.goDown l.length (dpA l) i (p.drop j))) := by
  have h24 := (treeOk_iff.1 ht).1
  intro d
  induction d with
  | zero =>
    intro j i h hi
    refine ev_succ ?_
    simp only [spec_NodeAt.l0]
    rw [List.drop_eq_nil_of_le (by omega)]
    exact ev_neg (by omega) (Ev.now _)
  | succ d ih =>
    intro j i h hi
    refine ev_succ ?_
    simp only [spec_NodeAt.l0]
    have hkl := kidsI_length l (i : Int)
    refine ev_pos (by omega) (ev_bind (spec_KidsOf_ev l _ (by omega)) (ev_pos (by omega) (ev_bindc (l1In_eq _ _ _) ?_)))
    rw [w64 (by omega) (by omega), kidsI_ok ht hi, List.length_map, drop_rd p j (by omega), Tree.goDown]
    by_cases hk : 0 ≤ rd p (j : Int) ∧ rd p (j : Int) < ((Tree.kids l.length (dpA l) i).length : Int)
    · rw [if_pos hk]
      refine ev_pos (decide_eq_true (by omega)) (ev_pos hk.1 (ev_pos hk.2 ?_))
      rw [rd_nat _ _ hk.1 hk.2, w64 (x := (j : Int) + 1) (by omega) (by omega)]
      refine ih (j + 1) _ (by omega) (Tree.kids_lt (D := dpA l) hi ?_)
      rw [List.getD_eq_getElem?_getD, List.getElem?_eq_getElem (by omega)]
      exact List.getElem_mem _
    · rw [if_neg hk]
      exact ev_neg (by simp only [decide_eq_true_eq]; omega) (Ev.now _)
theorem spec_NodeAt_ev (l : List S55) (p : List Int) (hm : (l.length : Int) ≤ 9223372036854775806) (hp : (p.length : Int) ≤ 9223372036854775806) : Ev (fun k => spec_NodeAt.f k l p) (nodeI l p) := by
  simp only [spec_NodeAt.f]
  refine ev_bind (spec_TreeOk_ev l hm) ?_
  unfold nodeI
  by_cases h : treeOk l = true
  · rw [if_pos h]
    exact ev_pos h (spec_NodeAt_l0 l p h hp p.length 0 0 (by omega) (by have := (treeOk_iff.1 h).1; omega))
  · rw [if_neg h]
    exact ev_neg h (Ev.now _)

/-! #### laws_sameInts -/
theorem sameInts_l0 (a : List Int) (hm : (a.length : Int) ≤ 9223372036854775806) : ∀ (d i : Nat), i + d = a.length → Ev (fun k => laws_sameInts.l0 k a a i) true := by
  intro d
  induction d with
  | zero =>
    intro i h
    refine ev_succ ?_
    simp only [laws_sameInts.l0]
    exact ev_neg (by omega) (Ev.now _)
  | succ d ih =>
    intro i h
    refine ev_succ ?_
    simp only [laws_sameInts.l0]
    refine ev_pos (by omega) (ev_pos (by omega) (ev_pos (by omega) (ev_pos trivial ?_)))
    rw [w64 (by omega) (by omega)]
    exact ih (i + 1) (by omega)
theorem sameInts_self (a : List Int) (hm : (a.length : Int) ≤ 9223372036854775806) : Ev (fun k => laws_sameInts.f k a a) true := by
  simp only [laws_sameInts.f]
  exact ev_pos trivial (sameInts_l0 a hm a.length 0 (by omega))

/-! #### slices_Contains_int_int -/
theorem containsI_ev (l : List Int) (x : Int) (hm : (l.length : Int) ≤ 9223372036854775806) : Ev (fun k => slices_Contains_int_int.f k l x) (decide (x ∈ l)) := by
  simp only [slices_Contains_int_int.f]
  refine ev_bind (idxI_ev l x hm) (ev_some ?_)
  congr 1
  unfold idxJ
  by_cases h : x ∈ l
  · rw [if_pos h]
    simp only [ge_iff_le, h, eq_iff_iff, iff_true]
    omega
  · rw [if_neg h]
    simp [h]

/-! #### _visit -/
/-- the begins of a node's kids and its end, one behind the other -/
theorem bounds_zero {n : Nat} {D : Nat → Int} {i : Nat} (hv : Tree.Vd n D) (hi : i < n) : (Tree.bounds n D i).getD 0 0 = i + 1 := by
  have g := @Tree.eo_gt n D i
  have hb : Tree.IsB n D i (i + 1) := by
    refine ⟨by omega, ?_⟩
    by_cases h : i + 1 < Tree.eo n D i
    · exact .inr ⟨h, Tree.first_kid hv hi h⟩
    · exact .inl (by omega)
  have := (Tree.bounds_at hb).1
  rwa [Tree.cnt_self] at this
theorem bounds_kid {n : Nat} {D : Nat → Int} {i r : Nat} (h : r < (Tree.kids n D i).length) : (Tree.bounds n D i).getD r 0 = (Tree.kids n D i).getD r 0 := by
  unfold Tree.bounds
  exact Tree.getD_left h
theorem bounds_last {n : Nat} {D : Nat → Int} {i : Nat} : (Tree.bounds n D i).getD (Tree.kids n D i).length 0 = Tree.eo n D i := by
  unfold Tree.bounds
  rw [Tree.getD_right (Nat.le_refl _), Nat.sub_self]
  rfl
theorem kid_mem {n : Nat} {D : Nat → Int} {i r : Nat} (h : r < (Tree.kids n D i).length) : (Tree.kids n D i).getD r 0 ∈ Tree.kids n D i := by
  rw [List.getD_eq_getElem?_getD, List.getElem?_eq_getElem h]
  exact List.getElem_mem h
theorem bounds_succ {n : Nat} {D : Nat → Int} {i r : Nat} (hv : Tree.Vd n D) (hi : i < n) (h : r < (Tree.kids n D i).length) : (Tree.bounds n D i).getD (r + 1) 0 = Tree.eo n D ((Tree.kids n D i).getD r 0) := by
  have hm := kid_mem h
  have hr := Tree.idxOf_getD Tree.kids_nodup (l := Tree.kids n D i) (d := 0) h
  rw [Tree.rank_cnt hm] at hr
  generalize hk : (Tree.kids n D i).getD r 0 = k at *
  obtain ⟨k1, k2, k3⟩ := Tree.mem_kids.1 hm
  have g := @Tree.eo_gt n D k
  have ne := Tree.eo_nest hi k1 k2
  have hb : Tree.IsB n D i (Tree.eo n D k) := by
    refine ⟨by omega, ?_⟩
    by_cases h2 : Tree.eo n D k < Tree.eo n D i
    · exact .inr ⟨h2, Tree.next_kid hv k1 k2 hi k3 h2⟩
    · exact .inl (by omega)
  have h1 := (Tree.bounds_at hb).1
  have c1 := Tree.cnt_split D (D i + 1) (a := i + 1) (b := k) (c := Tree.eo n D k) (by omega) (by omega)
  have c2 := Tree.cnt_split D (D i + 1) (a := k) (b := k + 1) (c := Tree.eo n D k) (by omega) (by omega)
  have c3 := Tree.cnt_one k3
  have c4 : Tree.cnt D (D i + 1) (k + 1) (Tree.eo n D k) = 0 := Tree.cnt_none (fun t t1 t2 => by have := Tree.eo_in (n := n) (D := D) (i := k) (t := t) (by omega) t2; omega)
  rw [c1, hr, c2, c3, c4] at h1
  exact h1
theorem eo_root {n : Nat} {D : Nat → Int} (hv : Tree.Vd n D) : Tree.eo n D 0 = n := by
  obtain ⟨v1, v2, v3⟩ := hv
  exact Tree.eo_eq (by omega) (Nat.le_refl _) (fun t h1 h2 => by have := (v3 t h1 h2).1; omega) (fun h => absurd h (Nat.lt_irrefl _))
/-- the first m places, as numbers -/
def upTo (m : Nat) : List Int := (List.range m).map Int.ofNat
theorem upTo_length (m : Nat) : (upTo m).length = m := by simp [upTo]
theorem upTo_succ (m : Nat) : upTo m ++ [(m : Int)] = upTo (m + 1) := by unfold upTo; rw [List.range_succ, List.map_append]; rfl
theorem mem_upTo {m : Nat} {x : Int} : x ∈ upTo m ↔ 0 ≤ x ∧ x < (m : Int) := by
  unfold upTo
  rw [List.mem_map]
  constructor
  · rintro ⟨a, ha, rfl⟩
    have := List.mem_range.1 ha
    exact ⟨Int.natCast_nonneg a, by show ((a : Nat) : Int) < _; omega⟩
  · rintro ⟨h1, h2⟩
    exact ⟨x.toNat, List.mem_range.2 (by omega), by show ((x.toNat : Nat) : Int) = x; omega⟩
theorem upTo_rd {m i : Nat} (h : i < m) : rd (upTo m) (i : Int) = (i : Int) := by
  unfold rd upTo
  rw [Int.toNat_natCast, List.getD_eq_getElem?_getD, List.getElem?_map, List.getElem?_range h]
  rfl
/-- what stands at a place of the linked tree of a tree -/
theorem domT_at {l : List S55} {i : Nat} (ht : treeOk l = true) (hi : i < l.length) : rd_T90 (domT l) (i : Int) = nodeD l i := by
  unfold domT
  rw [if_pos ht]
  show ((List.range l.length).map (nodeD l)).getD i _ = _
  rw [List.getD_eq_getElem?_getD, List.getElem?_map, List.getElem?_range hi]
  rfl
theorem domT_len {l : List S55} (ht : treeOk l = true) : (domT l).length = l.length := by
  unfold domT
  rw [if_pos ht]
  simp
section
variable {l : List S55} {i : Nat} (ht : treeOk l = true) (hi : i < l.length)
include ht hi
theorem kids_len : (kidsI l (i : Int)).length = (Tree.kids l.length (dpA l) i).length := by rw [kidsI_ok ht hi, List.length_map]
theorem kids_rd {r : Nat} (h : r < (Tree.kids l.length (dpA l) i).length) : rd (kidsI l (i : Int)) (r : Int) = (((Tree.kids l.length (dpA l) i).getD r 0 : Nat) : Int) := by
  rw [kidsI_ok ht hi, rd_nat _ _ (by omega) (by omega), Int.toNat_natCast]
/-- the kid at place r, -1 behind the last -/
def kidV (l : List S55) (i r : Nat) : Int := if r < (Tree.kids l.length (dpA l) i).length then (((Tree.kids l.length (dpA l) i).getD r 0 : Nat) : Int) else -1
/-- the kid ahead of place r, -1 ahead of the first -/
def lastV (l : List S55) (i r : Nat) : Int := if r = 0 then -1 else (((Tree.kids l.length (dpA l) i).getD (r - 1) 0 : Nat) : Int)
theorem first_is : firstI (kidsI l (i : Int)) = kidV l i 0 := by
  unfold firstI kidV
  rw [kids_len ht hi]
  by_cases h : 0 < (Tree.kids l.length (dpA l) i).length
  · rw [if_pos (by omega), if_pos h]
    exact kids_rd ht hi h
  · rw [if_neg (by omega), if_neg h]
theorem last_is : lastI (kidsI l (i : Int)) = lastV l i (Tree.kids l.length (dpA l) i).length := by
  unfold lastI lastV
  rw [kids_len ht hi]
  by_cases h : 0 < (Tree.kids l.length (dpA l) i).length
  · rw [if_pos (by omega), if_neg (by omega)]
    have e : (((Tree.kids l.length (dpA l) i).length : Nat) : Int) - 1 = (((Tree.kids l.length (dpA l) i).length - 1 : Nat) : Int) := by omega
    rw [e]
    exact kids_rd ht hi (by omega)
  · rw [if_neg (by omega), if_pos (by omega)]
theorem kid_node {r : Nat} (h : r < (Tree.kids l.length (dpA l) i).length) : ∃ k : Nat, (Tree.kids l.length (dpA l) i).getD r 0 = k ∧ i < k ∧ k < l.length ∧ dpA l k = dpA l i + 1 ∧ (nodeD l k).f2 = (i : Int) ∧ (nodeD l k).f5 = lastV l i r ∧ (nodeD l k).f6 = kidV l i (r + 1) := by
  have hm := kid_mem h
  have hr := Tree.idxOf_getD Tree.kids_nodup (l := Tree.kids l.length (dpA l) i) (d := 0) h
  refine ⟨_, rfl, ?_⟩
  generalize hk : (Tree.kids l.length (dpA l) i).getD r 0 = k at *
  obtain ⟨k1, k2, k3⟩ := Tree.mem_kids.1 hm
  have kl := Tree.kids_lt hi hm
  have hp : parI l (k : Int) = (i : Int) := by rw [parI_nat ht kl]; exact Tree.par_of_kid hm
  have hrk : rankI l (k : Int) = (r : Int) := by
    rw [rankI_nat ht kl (by omega)]
    unfold Tree.rank
    rw [← parI_nat ht kl, hp, Int.toNat_natCast, hr]
  refine ⟨k1, kl, k3, hp, ?_, ?_⟩
  · show (if parI l (k : Int) ≥ 0 then prevI (kidsI l (parI l (k : Int))) (rankI l (k : Int)) else -1) = _
    rw [hp, if_pos (by omega), hrk]
    unfold prevI lastV
    by_cases h0 : r = 0
    · rw [if_neg (by omega), if_pos h0]
    · rw [if_pos (by omega), if_neg h0]
      have e : (r : Int) - 1 = ((r - 1 : Nat) : Int) := by omega
      rw [e]
      exact kids_rd ht hi (by omega)
  · show (if parI l (k : Int) ≥ 0 then nextI (kidsI l (parI l (k : Int))) (rankI l (k : Int)) else -1) = _
    rw [hp, if_pos (by omega), hrk]
    unfold nextI kidV
    rw [kids_len ht hi]
    by_cases h1 : r + 1 < (Tree.kids l.length (dpA l) i).length
    · rw [if_pos (by omega), if_pos h1]
      have e : (r : Int) + 1 = ((r + 1 : Nat) : Int) := by omega
      rw [e]
      exact kids_rd ht hi h1
    · rw [if_neg (by omega), if_neg h1]
end

/-! #### impl_Dom_visit -/
theorem visit_ok {l : List S55} (ht : treeOk l = true) : ∀ (d i : Nat), i + d = l.length → i < l.length → Ev (fun q => impl_Dom_visit.f q (domT l) (i : Int) (dpA l i) (l.take i) (upTo i)) (l.take (Tree.eo l.length (dpA l) i), upTo (Tree.eo l.length (dpA l) i), true) := by
  have h24 := (treeOk_iff.1 ht).1
  have hv := treeOk_vd ht
  have hlen := domT_len ht
  intro d
  induction d using Nat.strongRecOn with
  | _ d ih =>
    intro i hid hi
    have di := dp_range ht hi
    have li := lb_range ht hi
    have el := Tree.eo_le (D := dpA l) hi
    refine ev_succ ?_
    simp only [impl_Dom_visit.f]
    rw [domT_at ht hi]
    refine ev_pos (by omega) (ev_pos (by omega) (ev_pos rfl (ev_bindc (LabelOk_eq _) (ev_pos (decide_eq_true li) ?_))))
    rw [decide_eq_false (by omega)]
    refine ev_succ ?_
    simp only [impl_Dom_visit.j0]
    refine ev_neg (by decide) (ev_pos (by rw [List.length_take]; omega) (ev_pos (by rw [upTo_length]; omega) ?_))
    have e1 : l.take i ++ [(⟨lbA l i, dpA l i⟩ : S55)] = l.take (i + 1) := by rw [List.take_succ_eq_append_getElem hi, getD_node l i hi]
    have key : ∀ (m r : Nat), r + m = (Tree.kids l.length (dpA l) i).length → Ev (fun q => impl_Dom_visit.l0 q (i : Int) (dpA l i) (l.take ((Tree.bounds l.length (dpA l) i).getD r 0)) (upTo ((Tree.bounds l.length (dpA l) i).getD r 0)) (lastV l i r) (kidV l i r) (domT l) (nodeD l i).f0 (nodeD l i).f1 (nodeD l i).f2 (nodeD l i).f3 (nodeD l i).f4 (nodeD l i).f5 (nodeD l i).f6) (l.take (Tree.eo l.length (dpA l) i), upTo (Tree.eo l.length (dpA l) i), true) := by
      intro m
      induction m with
      | zero =>
        intro r hr
        have e : r = (Tree.kids l.length (dpA l) i).length := by omega
        subst e
        refine ev_succ ?_
        simp only [impl_Dom_visit.l0]
        refine ev_pos (by unfold kidV; rw [if_neg (Nat.lt_irrefl _)]) (ev_some ?_)
        rw [bounds_last]
        have : (nodeD l i).f4 = lastV l i (Tree.kids l.length (dpA l) i).length := last_is ht hi
        rw [this]
        simp
      | succ m ihm =>
        intro r hr
        have hrl : r < (Tree.kids l.length (dpA l) i).length := by omega
        obtain ⟨k, hk, k1, k2, k3, k4, k5, k6⟩ := kid_node ht hi hrl
        have hkv : kidV l i r = (k : Int) := by unfold kidV; rw [if_pos hrl, hk]
        have hb : (Tree.bounds l.length (dpA l) i).getD r 0 = k := by rw [bounds_kid hrl, hk]
        have hb2 : (Tree.bounds l.length (dpA l) i).getD (r + 1) 0 = Tree.eo l.length (dpA l) k := by rw [bounds_succ hv hi hrl, hk]
        have ihk := ih (l.length - k) (by omega) k (by omega) k2
        have ihr := ihm (r + 1) (by omega)
        rw [hb2] at ihr
        refine ev_succ ?_
        simp only [impl_Dom_visit.l0]
        rw [hkv, hb, hlen]
        refine ev_neg (by omega) (ev_bindc (within_eq _ _ _) (ev_pos ?_ (ev_bind (containsI_ev _ _ (by rw [upTo_length]; omega)) (ev_neg ?_ (ev_pos (by omega) (ev_pos (by omega) ?_))))))
        · rw [w64 (by omega) (by omega)]
          exact decide_eq_true (by omega)
        · simp only [decide_eq_true_eq, mem_upTo]
          omega
        · rw [domT_at ht k2]
          refine ev_pos k4 ?_
          rw [k5]
          have e5 : (lastV l i r != lastV l i r) = false := by simp
          rw [e5]
          refine ev_succ ?_
          simp only [impl_Dom_visit.j2]
          rw [w64 (x := dpA l i + 1) (by omega) (by omega), ← k3, domT_at ht k2, hlen]
          refine ev_neg (by decide) (ev_bind ihk (ev_pos rfl (ev_pos (by omega) (ev_pos (by omega) ?_))))
          rw [k6]
          have e7 : lastV l i (r + 1) = (k : Int) := by unfold lastV; rw [if_neg (by omega), Nat.add_sub_cancel, hk]
          rw [e7] at ihr
          exact ihr
    have k0 := key (Tree.kids l.length (dpA l) i).length 0 (by omega)
    rw [bounds_zero hv hi, ← e1, ← upTo_succ] at k0
    have e3 : (nodeD l i).f3 = kidV l i 0 := first_is ht hi
    have e2 : lastV l i 0 = -1 := rfl
    rw [e2, ← e3] at k0
    exact k0

/-! #### impl_Dom_walked -/
theorem walked_ok {l : List S55} (ht : treeOk l = true) : Ev (fun q => impl_Dom_walked.f q (domT l)) (l, upTo l.length, true) := by
  have h24 := (treeOk_iff.1 ht).1
  have hv := treeOk_vd ht
  have hlen := domT_len ht
  have hroot : parI l ((0 : Nat) : Int) = -1 := by rw [parI_nat ht (by omega)]; exact Tree.par_root
  have key : ∀ (d i : Nat), i + d = l.length → Ev (fun q => impl_Dom_walked.l0 q l (upTo l.length) true (domT l) (l.length : Int) (i : Int)) (l, upTo l.length, true) := by
    intro d
    induction d with
    | zero =>
      intro i h
      refine ev_succ ?_
      simp only [impl_Dom_walked.l0]
      exact ev_neg (by omega) (Ev.now _)
    | succ d ih =>
      intro i h
      refine ev_succ ?_
      simp only [impl_Dom_walked.l0]
      refine ev_pos (by omega) (ev_pos (by omega) (ev_pos (by omega) (ev_pos trivial (ev_bind (containsI_ev _ _ (by rw [upTo_length]; omega)) (ev_pos ?_ ?_)))))
      · simp only [decide_eq_true_eq, mem_upTo]
        omega
      · rw [w64 (x := (i : Int) + 1) (by omega) (by omega)]
        exact ih (i + 1) (by omega)
  simp only [impl_Dom_walked.f]
  have e0 : rd_T90 (domT l) 0 = nodeD l 0 := domT_at ht (i := 0) (by omega)
  rw [hlen, e0]
  have f2 : (nodeD l 0).f2 = -1 := hroot
  have f5 : (nodeD l 0).f5 = -1 := by show (if parI l ((0 : Nat) : Int) ≥ 0 then _ else (-1 : Int)) = -1; rw [hroot]; rfl
  have f6 : (nodeD l 0).f6 = -1 := by show (if parI l ((0 : Nat) : Int) ≥ 0 then _ else (-1 : Int)) = -1; rw [hroot]; rfl
  refine ev_bindc (within_eq _ _ _) (ev_pos (decide_eq_true (by omega)) (ev_pos (by omega) (ev_pos f2 (ev_pos f5 (ev_succ ?_)))))
  simp only [impl_Dom_walked.j0]
  have hvis := visit_ok ht l.length 0 (by omega) (by omega)
  rw [eo_root hv, List.take_length] at hvis
  have d0 : dpA l 0 = 0 := hv.2.1
  rw [d0] at hvis
  rw [f6, hlen]
  exact ev_neg (by decide) (ev_bind hvis (key l.length 0 (by omega)))

/-! #### impl_DomFind -/
theorem DomFind_ok {l : List S55} (ht : treeOk l = true) (p : List Int) (hp : (p.length : Int) ≤ 9223372036854775806) (h : 0 ≤ nodeI l p) : Ev (fun q => impl_DomFind.f q (domT l) p) (nodeI l p) := by
  simp only [impl_DomFind.f]
  obtain ⟨k, e, hk, _, _⟩ := nodeI_nat h
  refine ev_bind (walked_ok ht) (ev_bind (impl_NodeAt_ev l p hp) (ev_pos rfl (ev_neg (by omega) (ev_pos h (ev_pos ?_ (ev_some ?_))))))
  · rw [upTo_length]; omega
  · rw [e]; exact upTo_rd hk

end Go.Proofs.Ytmbhlfcpdbbogab.QFnPaths
