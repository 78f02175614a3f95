/- What the printed functions of the law FnGrafts come to, function by function, from some number of rounds on; each under the bounds that it names. -/
import Derived.Test.YtbogpdgfghpkeacQFnGraftsa
namespace Go.Proofs.Ytbogpdgfghpkeac.QFnGrafts
open Go.RowKit Go.Proofs.Ytbogpdgfghpkeac.PFnGrafts Go.Proofs.YtbogpdgfghpkeacW.PrintWords Go.Proofs.YtbogpdgfghpkeacW.PrintLast Go.Proofs.YtbogpdgfghpkeacW.PrintMore Go.Proofs.Ytbogpdgfghpkeac.EvAid Go.Proofs.Ytbogpdgfghpkeac
set_option linter.unusedVariables false
set_option linter.unusedSimpArgs false

/-! #### impl_SubTree -/
theorem rd_cut (l : List S47) (a e j : Nat) (h : a + j < e) (he : e ≤ l.length) : rd_T47 ((l.take e).drop a) (j : Int) = ⟨lbA l (a + j), dpA l (a + j)⟩ := by
  have h1 : j < ((l.take e).drop a).length := by rw [List.length_drop, List.length_take]; omega
  have h2 : a + j < l.length := by omega
  show ((l.take e).drop a).getD ((j : Int)).toNat z47 = _
  rw [Int.toNat_natCast, List.getD_eq_getElem?_getD, List.getElem?_eq_getElem h1, Option.getD_some, List.getElem_drop, List.getElem_take, getD_node l _ h2]
theorem impl_SubTree_l0 (l : List S47) (i : Nat) (hh : hasB l (i : Int) = true) (hi : i < l.length) (hm : l.length ≤ 24) (ht : treeOk l = true) : ∀ (d j : Nat), i + j + d = Tree.eo l.length (dpA l) i →
    Ev (fun k => impl_SubTree.l0 k l (i : Int) ((List.range' i j).map (fun (j : Nat) => (⟨lbA l j, dpA l j - dpA l i⟩ : S47))) ((l.take (Tree.eo l.length (dpA l) i)).drop i) ((Tree.eo l.length (dpA l) i - i : Nat) : Int) (j : Int)) (subT l (i : Int)) := by
  have he := Tree.eo_le (D := dpA l) hi
  have g := @Tree.eo_gt l.length (dpA l) i
  have hlen : ((l.take (Tree.eo l.length (dpA l) i)).drop i).length = Tree.eo l.length (dpA l) i - i := by rw [List.length_drop, List.length_take]; omega
  intro d
  induction d with
  | zero =>
    intro j h
    refine ev_succ ?_
    simp only [impl_SubTree.l0]
    refine ev_neg (by omega) (ev_some ?_)
    unfold subT
    rw [if_pos hh]
    have : j = Tree.eo l.length (dpA l) i - i := by omega
    rw [this]
    rfl
  | succ d ih =>
    intro j h
    refine ev_succ ?_
    simp only [impl_SubTree.l0]
    have d1 := dp_range ht (j := i + j) (by omega)
    have d2 := dp_range ht hi
    refine ev_pos (by omega) (ev_pos (by omega) (ev_pos (by omega) (ev_pos (by omega) (ev_pos (by omega) (ev_pos (by simp only [List.length_map, List.length_range']; omega) ?_)))))
    rw [rd_cut l i _ j (by omega) he]
    simp only [rd_f1]
    rw [w64 (x := dpA l (i + j) - dpA l i) (by omega) (by omega), w64 (x := (j : Int) + 1) (by omega) (by omega)]
    have := ih (j + 1) (by omega)
    rw [List.range'_concat, List.map_append, Nat.one_mul] at this
    exact this
theorem impl_SubTree_ev (l : List S47) (i : Int) (hm : (l.length : Int) ≤ 9223372036854775806) : Ev (fun k => impl_SubTree.f k l i) (subT l i) := by
  simp only [impl_SubTree.f, Option.bind_some]
  refine ev_bind (hasNode_ev l i hm) ?_
  by_cases h : hasB l i = true
  · refine ev_pos h ?_
    obtain ⟨j, rfl, hj, h1, h2, hv⟩ := hasB_nat h
    have g := @Tree.eo_gt l.length (dpA l) j
    have he := Tree.eo_le (D := dpA l) hj
    refine ev_bind (endOf_ev l j hj h2) (ev_pos (by omega) (ev_pos (by omega) (ev_pos (by omega) ?_)))
    simp only [Int.toNat_natCast]
    have hlen : ((l.take (Tree.eo l.length (dpA l) j)).drop j).length = Tree.eo l.length (dpA l) j - j := by rw [List.length_drop, List.length_take]; omega
    rw [hlen]
    exact impl_SubTree_l0 l j h hj h2 h1 (Tree.eo l.length (dpA l) j - j) 0 (by omega)
  · refine ev_neg h (ev_some ?_)
    unfold subT
    rw [if_neg h]

/-! #### _findAll -/
/-- the places from i on below which there is just t -/
noncomputable def findF (l t : List S47) : Nat → Nat → List Int
  | 0, _ => []
  | d + 1, i => if sameT (subT l (i : Int)) t = true then (i : Int) :: findF l t d (i + 1) else findF l t d (i + 1)
/-- all such places -/
noncomputable def findAll (l t : List S47) : List Int := if treeOk t = true then findF l t l.length 0 else []
theorem findF_length (l t : List S47) : ∀ d i, (findF l t d i).length ≤ d := by
  intro d
  induction d with
  | zero => intro i; simp [findF]
  | succ d ih =>
    intro i
    rw [findF]
    have := ih (i + 1)
    split <;> simp <;> omega
theorem findF_none {l t : List S47} (hl : treeOk l = false) (ht : treeOk t = true) : ∀ d i, findF l t d i = [] := by
  intro d
  induction d with
  | zero => intro i; rfl
  | succ d ih =>
    intro i
    rw [findF, if_neg, ih]
    intro h
    have e := sameT_iff.1 h
    have h1 : subT l (i : Int) = [] := by
      unfold subT
      rw [if_neg]
      intro hh
      rw [(hasB_iff.1 hh).1] at hl
      cases hl
    rw [h1] at e
    subst e
    have := (treeOk_iff.1 ht).1.1
    simp at this

/-! #### impl_FindAll -/
theorem impl_FindAll_l0 (l t : List S47) (hm : l.length ≤ 17592186044416) : ∀ (d i : Nat) (out : List Int), i + d = l.length → out.length ≤ i → Ev (fun k => impl_FindAll.l0 k l t out (l.length : Int) (i : Int)) (out ++ findF l t d i) := by
  intro d
  induction d with
  | zero =>
    intro i out h ho
    refine ev_succ ?_
    simp only [impl_FindAll.l0]
    exact ev_neg (by omega) (ev_some (by simp [findF]))
  | succ d ih =>
    intro i out h ho
    refine ev_succ ?_
    simp only [impl_FindAll.l0]
    have hs := subT_length l (i : Int)
    refine ev_pos (by omega) (ev_bind (impl_SubTree_ev l i (by omega)) (ev_bind (SameTree_ev _ _ (by omega)) ?_))
    rw [w64 (by omega) (by omega), findF]
    by_cases hc : sameT (subT l (i : Int)) t = true
    · refine ev_pos hc (ev_pos (by omega) ?_)
      rw [if_pos hc]
      have := ih (i + 1) (out ++ [(i : Int)]) (by omega) (by simp; omega)
      rw [List.append_assoc] at this
      exact this
    · refine ev_neg hc ?_
      rw [if_neg hc]
      exact ih (i + 1) out (by omega) (by omega)
theorem FindAll_ev (l t : List S47) (hm : l.length ≤ 17592186044416) : Ev (fun k => impl_FindAll.f k l t) (findAll l t) := by
  simp only [impl_FindAll.f, Option.bind_some]
  refine ev_bind (impl_TreeOk_ev t) ?_
  unfold findAll
  by_cases h : treeOk t = true
  · refine ev_pos h ?_
    rw [if_pos h]
    exact impl_FindAll_l0 l t hm l.length 0 [] (by omega) (Nat.le_refl _)
  · refine ev_neg h (ev_some ?_)
    rw [if_neg h]

/-! #### _at -/
theorem at_append (a b : List S47) (j : Nat) : (a ++ b).getD j z47 = if j < a.length then a.getD j z47 else b.getD (j - a.length) z47 := by
  simp only [List.getD_eq_getElem?_getD]
  split
  · rename_i h; rw [List.getElem?_append_left h]
  · rename_i h; rw [List.getElem?_append_right (by omega)]
theorem at_take (l : List S47) (e j : Nat) (h : j < e) : (l.take e).getD j z47 = l.getD j z47 := by
  simp only [List.getD_eq_getElem?_getD]
  rw [List.getElem?_take, if_pos h]
theorem at_drop (l : List S47) (e j : Nat) : (l.drop e).getD j z47 = l.getD (e + j) z47 := by
  simp only [List.getD_eq_getElem?_getD]
  rw [List.getElem?_drop]
theorem at_up (b : Int) (t : List S47) (j : Nat) (h : j < t.length) : (t.map (upN b)).getD j z47 = upN b (t.getD j z47) := by
  simp only [List.getD_eq_getElem?_getD]
  rw [List.getElem?_map, List.getElem?_eq_getElem h]
  rfl

/-! #### _graftLaw -/
theorem graft_at1 (l t : List S47) (i k : Nat) (hi : i < l.length) (h : k < Tree.eo l.length (dpA l) i) : (graftG l i t).getD k z47 = l.getD k z47 := by
  have he := Tree.eo_le (D := dpA l) hi
  unfold graftG
  rw [at_append, if_pos (by simp only [List.length_append, List.length_take, List.length_map]; omega), at_append, if_pos (by simp only [List.length_take]; omega), at_take _ _ _ h]
theorem graft_at2 (l t : List S47) (i k : Nat) (hi : i < l.length) (h1 : Tree.eo l.length (dpA l) i ≤ k) (h2 : k < Tree.eo l.length (dpA l) i + t.length) : (graftG l i t).getD k z47 = upN (dpA l i + 1) (t.getD (k - Tree.eo l.length (dpA l) i) z47) := by
  have he := Tree.eo_le (D := dpA l) hi
  have hl : (l.take (Tree.eo l.length (dpA l) i)).length = Tree.eo l.length (dpA l) i := by rw [List.length_take]; omega
  unfold graftG
  rw [at_append, if_pos (by simp only [List.length_append, List.length_take, List.length_map]; omega), at_append, if_neg (by omega), hl, at_up _ _ _ (by omega)]
theorem graft_at3 (l t : List S47) (i k : Nat) (hi : i < l.length) (h1 : Tree.eo l.length (dpA l) i + t.length ≤ k) : (graftG l i t).getD k z47 = l.getD (k - t.length) z47 := by
  have he := Tree.eo_le (D := dpA l) hi
  have hl : (l.take (Tree.eo l.length (dpA l) i) ++ t.map (upN (dpA l i + 1))).length = Tree.eo l.length (dpA l) i + t.length := by simp only [List.length_append, List.length_take, List.length_map]; omega
  unfold graftG
  rw [at_append, if_neg (by omega), hl, at_drop]
  congr 1
  omega
theorem graft_dp {l t : List S47} {i : Nat} (hi : i < l.length) (ht : treeOk t = true) (k : Nat) : dpA (graftG l i t) k = if k < Tree.eo l.length (dpA l) i then dpA l k else if k < Tree.eo l.length (dpA l) i + t.length then dpA t (k - Tree.eo l.length (dpA l) i) + (dpA l i + 1) else dpA l (k - t.length) := by
  by_cases h1 : k < Tree.eo l.length (dpA l) i
  · rw [if_pos h1]; exact congrArg S47.f1 (graft_at1 l t i k hi h1)
  · rw [if_neg h1]
    by_cases h2 : k < Tree.eo l.length (dpA l) i + t.length
    · rw [if_pos h2]; exact congrArg S47.f1 (graft_at2 l t i k hi (by omega) h2)
    · rw [if_neg h2]; exact congrArg S47.f1 (graft_at3 l t i k hi (by omega))
theorem graft_deep {l t : List S47} {i : Nat} (hi : i < l.length) (ht : treeOk t = true) {q : Nat} (h0 : 0 < q) (h : q < t.length) : 1 ≤ dpA t q := by
  have := ((treeOk_iff.1 ht).2 q h).2.2
  rw [if_neg (by omega)] at this
  exact this.1
theorem graft_root {l t : List S47} {i : Nat} (hi : i < l.length) (ht : treeOk t = true) : dpA t 0 = 0 := by
  have h24 := (treeOk_iff.1 ht).1
  have := ((treeOk_iff.1 ht).2 0 (by omega)).2.2
  rw [if_pos rfl] at this
  exact this
theorem graft_eo {l t : List S47} {i : Nat} (hi : i < l.length) (ht : treeOk t = true) : Tree.eo (graftG l i t).length (dpA (graftG l i t)) (Tree.eo l.length (dpA l) i) = Tree.eo l.length (dpA l) i + t.length := by
  have h24 := (treeOk_iff.1 ht).1
  have he := Tree.eo_le (D := dpA l) hi
  have hr := graft_root hi ht
  apply Tree.eo_eq (by omega)
  · rw [graftG_length l i t hi]; omega
  · intro s h1 h2
    rw [graft_dp hi ht, graft_dp hi ht, if_neg (by omega), if_pos (by omega), if_neg (by omega), if_pos h2, Nat.sub_self, hr]
    have := graft_deep hi ht (q := s - Tree.eo l.length (dpA l) i) (by omega) (by omega)
    omega
  · intro h
    rw [graftG_length l i t hi] at h
    rw [graft_dp hi ht, graft_dp hi ht, if_neg (by omega), if_neg (by omega), if_neg (by omega), if_pos (by omega), Nat.sub_self, hr, Nat.add_sub_cancel]
    have := Tree.eo_end (D := dpA l) (i := i) (n := l.length) (by omega)
    omega
theorem graft_eo_up {l t : List S47} {i : Nat} (hi : i < l.length) (ht : treeOk t = true) : Tree.eo (graftG l i t).length (dpA (graftG l i t)) i = Tree.eo l.length (dpA l) i + t.length := by
  have h24 := (treeOk_iff.1 ht).1
  have he := Tree.eo_le (D := dpA l) hi
  have hg := @Tree.eo_gt l.length (dpA l) i
  have hr := graft_root hi ht
  apply Tree.eo_eq (by omega)
  · rw [graftG_length l i t hi]; omega
  · intro s h1 h2
    rw [graft_dp hi ht, graft_dp hi ht, if_pos (by omega)]
    by_cases h3 : s < Tree.eo l.length (dpA l) i
    · rw [if_pos h3]; exact Tree.eo_in h1 h3
    · rw [if_neg h3, if_pos h2]
      by_cases h4 : s = Tree.eo l.length (dpA l) i
      · rw [h4, Nat.sub_self, hr]; omega
      · have := graft_deep hi ht (q := s - Tree.eo l.length (dpA l) i) (by omega) (by omega)
        omega
  · intro h
    rw [graftG_length l i t hi] at h
    rw [graft_dp hi ht, graft_dp hi ht, if_neg (by omega), if_neg (by omega), if_pos (by omega), Nat.add_sub_cancel]
    exact Tree.eo_end (by omega)
theorem graft_has {l t : List S47} {i : Nat} (hi : i < l.length) (ht : treeOk t = true) (hg : treeOk (graftG l i t) = true) : hasB (graftG l i t) ((Tree.eo l.length (dpA l) i : Nat) : Int) = true := by
  have h24 := (treeOk_iff.1 ht).1
  have he := Tree.eo_le (D := dpA l) hi
  have := graftG_length l i t hi
  exact hasB_iff.2 ⟨hg, by omega, by omega⟩
theorem graft_sub {l t : List S47} {i : Nat} (hi : i < l.length) (ht : treeOk t = true) (hg : treeOk (graftG l i t) = true) : subT (graftG l i t) ((Tree.eo l.length (dpA l) i : Nat) : Int) = t := by
  have h24 := (treeOk_iff.1 ht).1
  have hr := graft_root hi ht
  unfold subT
  rw [if_pos (graft_has hi ht hg), Int.toNat_natCast, graft_eo hi ht, Nat.add_sub_cancel_left]
  apply List.ext_getElem
  · simp
  · intro q h1 h2
    rw [List.getElem_map, List.getElem_range', Nat.one_mul, getD_node t q h2]
    have e1 := graft_at2 l t i (Tree.eo l.length (dpA l) i + q) hi (by omega) (by omega)
    rw [Nat.add_sub_cancel_left] at e1
    have e2 : lbA (graftG l i t) (Tree.eo l.length (dpA l) i + q) = lbA t q := (congrArg S47.f0 e1).trans rfl
    have e3 : dpA (graftG l i t) (Tree.eo l.length (dpA l) i + q) = dpA t q + (dpA l i + 1) := (congrArg S47.f1 e1).trans rfl
    rw [e2, e3, graft_dp hi ht, if_neg (by omega), if_pos (by omega), Nat.sub_self, hr]
    congr 1
    omega
theorem graft_kids {l t : List S47} {i : Nat} (hi : i < l.length) (ht : treeOk t = true) (hg : treeOk (graftG l i t) = true) : ∃ ks, kidsI (graftG l i t) (i : Int) = ks ++ [((Tree.eo l.length (dpA l) i : Nat) : Int)] := by
  have h24 := (treeOk_iff.1 ht).1
  have he := Tree.eo_le (D := dpA l) hi
  have hgt := @Tree.eo_gt l.length (dpA l) i
  have hr := graft_root hi ht
  have hlen := graftG_length l i t hi
  have hb : hasB (graftG l i t) (i : Int) = true := hasB_iff.2 ⟨hg, by omega, by omega⟩
  unfold kidsI
  rw [if_pos hb, Int.toNat_natCast]
  unfold Tree.kids
  rw [graft_eo_up hi ht]
  have e1 : Tree.eo l.length (dpA l) i + t.length - (i + 1) = (Tree.eo l.length (dpA l) i - (i + 1)) + (1 + (t.length - 1)) := by omega
  rw [e1, ← List.range'_append, ← List.range'_append, List.filter_append, List.filter_append]
  have e2 : i + 1 + 1 * (Tree.eo l.length (dpA l) i - (i + 1)) = Tree.eo l.length (dpA l) i := by omega
  rw [e2]
  have di : dpA (graftG l i t) i = dpA l i := by rw [graft_dp hi ht, if_pos (by omega)]
  have e3 : (List.range' (Tree.eo l.length (dpA l) i) 1).filter (fun k => decide (dpA (graftG l i t) k = dpA (graftG l i t) i + 1)) = [Tree.eo l.length (dpA l) i] := by
    rw [List.range'_one, List.filter_cons_of_pos]
    · rfl
    · rw [di, graft_dp hi ht, if_neg (by omega), if_pos (by omega), Nat.sub_self, hr]
      exact decide_eq_true (by omega)
  have e4 : (List.range' (Tree.eo l.length (dpA l) i + 1 * 1) (t.length - 1)).filter (fun k => decide (dpA (graftG l i t) k = dpA (graftG l i t) i + 1)) = [] := by
    rw [List.filter_eq_nil_iff]
    intro s hs
    rw [List.mem_range'_1] at hs
    rw [di, graft_dp hi ht, if_neg (by omega), if_pos (by omega)]
    have := graft_deep hi ht (q := s - Tree.eo l.length (dpA l) i) (by omega) (by omega)
    simp only [decide_eq_true_eq]
    omega
  rw [e3, e4, List.append_nil, List.map_append]
  exact ⟨_, rfl⟩
theorem graft_prune {l t : List S47} {i : Nat} (hi : i < l.length) (ht : treeOk t = true) (hg : treeOk (graftG l i t) = true) : pruneT (graftG l i t) ((Tree.eo l.length (dpA l) i : Nat) : Int) = (l, true) := by
  have h24 := (treeOk_iff.1 ht).1
  have he := Tree.eo_le (D := dpA l) hi
  have hgt := @Tree.eo_gt l.length (dpA l) i
  unfold pruneT
  rw [if_pos ⟨graft_has hi ht hg, by omega⟩, Int.toNat_natCast, graft_eo hi ht]
  have hA : (l.take (Tree.eo l.length (dpA l) i)).length = Tree.eo l.length (dpA l) i := by rw [List.length_take]; omega
  have hB : (l.take (Tree.eo l.length (dpA l) i) ++ t.map (upN (dpA l i + 1))).length = Tree.eo l.length (dpA l) i + t.length := by rw [List.length_append, hA, List.length_map]
  have e1 : (graftG l i t).take (Tree.eo l.length (dpA l) i) = l.take (Tree.eo l.length (dpA l) i) := by
    unfold graftG
    rw [List.append_assoc, List.take_append_of_le_length (by omega), List.take_of_length_le (by omega)]
  have e2 : (graftG l i t).drop (Tree.eo l.length (dpA l) i + t.length) = l.drop (Tree.eo l.length (dpA l) i) := by
    unfold graftG
    rw [← hB, List.drop_left]
  rw [e1, e2, List.take_append_drop]
/-- what is left behind a cut is a tree -/
theorem prune_ok {l : List S47} {k : Nat} (h : hasB l (k : Int) = true) (h0 : k ≠ 0) : treeOk (pruneT l (k : Int)).1 = true ∧ (pruneT l (k : Int)).1.length + (subT l (k : Int)).length = l.length := by
  obtain ⟨ht, h1, h2⟩ := hasB_iff.1 h
  have hk : k < l.length := by omega
  have h24 := (treeOk_iff.1 ht).1
  have he := Tree.eo_le (D := dpA l) hk
  have hgt := @Tree.eo_gt l.length (dpA l) k
  have e : (pruneT l (k : Int)).1 = l.take k ++ l.drop (Tree.eo l.length (dpA l) k) := by
    unfold pruneT
    rw [if_pos ⟨h, by omega⟩, Int.toNat_natCast]
  have hlk : (l.take k).length = k := by rw [List.length_take]; omega
  have hlen : (l.take k ++ l.drop (Tree.eo l.length (dpA l) k)).length = l.length - (Tree.eo l.length (dpA l) k - k) := by rw [List.length_append, hlk, List.length_drop]; omega
  have g1 : ∀ j, j < k → (l.take k ++ l.drop (Tree.eo l.length (dpA l) k)).getD j z47 = l.getD j z47 := by
    intro j hj
    rw [at_append, if_pos (by omega), at_take _ _ _ hj]
  have g2 : ∀ j, k ≤ j → (l.take k ++ l.drop (Tree.eo l.length (dpA l) k)).getD j z47 = l.getD (Tree.eo l.length (dpA l) k + (j - k)) z47 := by
    intro j hj
    rw [at_append, if_neg (by omega), hlk, at_drop]
  rw [e]
  refine ⟨treeOk_iff.2 ⟨by omega, fun j hj => ?_⟩, ?_⟩
  · rcases Nat.lt_or_ge j k with hjk | hjk
    · have o := (treeOk_iff.1 ht).2 j (by omega)
      have a0 : lbA (l.take k ++ l.drop (Tree.eo l.length (dpA l) k)) j = lbA l j := congrArg S47.f0 (g1 j hjk)
      have a1 : dpA (l.take k ++ l.drop (Tree.eo l.length (dpA l) k)) j = dpA l j := congrArg S47.f1 (g1 j hjk)
      unfold okAt at o ⊢
      rw [a0, a1]
      by_cases hz : j = 0
      · rw [if_pos hz] at o ⊢; exact o
      · rw [if_neg hz] at o ⊢
        have a2 : dpA (l.take k ++ l.drop (Tree.eo l.length (dpA l) k)) (j - 1) = dpA l (j - 1) := congrArg S47.f1 (g1 (j - 1) (by omega))
        rw [a2]
        exact o
    · rw [hlen] at hj
      have o := (treeOk_iff.1 ht).2 (Tree.eo l.length (dpA l) k + (j - k)) (by omega)
      unfold okAt at o ⊢
      have a0 : lbA (l.take k ++ l.drop (Tree.eo l.length (dpA l) k)) j = lbA l (Tree.eo l.length (dpA l) k + (j - k)) := congrArg S47.f0 (g2 j hjk)
      have a1 : dpA (l.take k ++ l.drop (Tree.eo l.length (dpA l) k)) j = dpA l (Tree.eo l.length (dpA l) k + (j - k)) := congrArg S47.f1 (g2 j hjk)
      rw [if_neg (by omega)] at o ⊢
      rw [a0, a1]
      refine ⟨o.1, o.2.1, o.2.2.1, ?_⟩
      by_cases hz : j = k
      · have a2 : dpA (l.take k ++ l.drop (Tree.eo l.length (dpA l) k)) (j - 1) = dpA l (j - 1) := congrArg S47.f1 (g1 (j - 1) (by omega))
        rw [a2, hz, Nat.sub_self, Nat.add_zero]
        have hend := Tree.eo_end (D := dpA l) (i := k) (n := l.length) (by omega)
        have ok := ((treeOk_iff.1 ht).2 k hk).2.2
        rw [if_neg h0] at ok
        omega
      · have a2 : dpA (l.take k ++ l.drop (Tree.eo l.length (dpA l) k)) (j - 1) = dpA l (Tree.eo l.length (dpA l) k + (j - 1 - k)) := congrArg S47.f1 (g2 (j - 1) (by omega))
        rw [a2, show Tree.eo l.length (dpA l) k + (j - 1 - k) = Tree.eo l.length (dpA l) k + (j - k) - 1 by omega]
        exact o.2.2.2
  · rw [hlen]
    unfold subT
    rw [if_pos h, List.length_map, List.length_range', Int.toNat_natCast]
    omega

/-! #### _findMem -/
theorem mem_findF (l t : List S47) : ∀ (d i j : Nat), i ≤ j → j < i + d → (((j : Int) ∈ findF l t d i) ↔ sameT (subT l (j : Int)) t = true) := by
  intro d
  induction d with
  | zero => intro i j h1 h2; omega
  | succ d ih =>
    intro i j h1 h2
    have key : ∀ (d i : Nat) (x : Int), x ∈ findF l t d i → (i : Int) ≤ x := by
      intro d
      induction d with
      | zero => intro i x h; simp [findF] at h
      | succ d ih =>
        intro i x h
        rw [findF] at h
        split at h
        · rcases List.mem_cons.1 h with e | e
          · omega
          · have := ih (i + 1) x e; omega
        · have := ih (i + 1) x h; omega
    rw [findF]
    by_cases e : j = i
    · subst e
      by_cases hs : sameT (subT l (j : Int)) t = true
      · rw [if_pos hs]; simp [hs]
      · rw [if_neg hs]
        constructor
        · intro h; have := key d (j + 1) _ h; omega
        · intro h; exact absurd h hs
    · have i2 := ih (i + 1) j (by omega) (by omega)
      split
      · rw [List.mem_cons, i2]
        constructor
        · rintro (h | h)
          · omega
          · exact h
        · intro h; exact .inr h
      · exact i2

end Go.Proofs.Ytbogpdgfghpkeac.QFnGrafts
