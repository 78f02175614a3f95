/- What the printed functions of the law FnExactDropIdle come to, function by function, from some number of rounds on; each under the bounds that it names. -/
import Derived.Test.YtdapeboajjidmaaQFnExactDropIdlea
namespace Go.Proofs.Ytdapeboajjidmaa.QFnExactDropIdle
open Go.RowKit Go.Proofs.Ytdapeboajjidmaa.PFnExactDropIdle Go.Proofs.YtdapeboajjidmaaW.PrintWords Go.Proofs.YtdapeboajjidmaaW.PrintLast Go.Proofs.YtdapeboajjidmaaW.PrintMore Go.Proofs.Ytdapeboajjidmaa.EvAid Go.Proofs.Ytdapeboajjidmaa
set_option linter.unusedVariables false
set_option linter.unusedSimpArgs false

/-! #### laws_toIntS -/
theorem toIntS_l0 (a : List Int) (hm : (a.length : Int) ≤ 9223372036854775806) : ∀ (d i : Nat) (out : List Int), i + d = a.length → out.length = a.length → out.take i = a.take i → Ev (fun k => laws_toIntS.l0 k a out i) a := by
  intro d
  induction d with
  | zero =>
    intro i out h hl ht
    refine ev_succ ?_
    simp only [laws_toIntS.l0]
    refine ev_neg (by omega) (ev_some ?_)
    rw [List.take_of_length_le (by omega), List.take_of_length_le (by omega)] at ht
    exact ht
  | succ d ih =>
    intro i out h hl ht
    refine ev_succ ?_
    simp only [laws_toIntS.l0]
    refine ev_pos (by omega) (ev_pos (by omega) (ev_pos (by omega) ?_))
    rw [w64 (by omega) (by omega)]
    refine ih (i + 1) _ (by omega) (by rw [List.length_set]; exact hl) ?_
    have e : ((i : Int)).toNat = i := Int.toNat_natCast i
    rw [e]
    have hi : i < a.length := by omega
    have hr : rd a i = a[i] := by simp [rd, hi]
    rw [List.take_succ_eq_append_getElem (by rw [List.length_set]; omega), List.take_succ_eq_append_getElem hi, List.getElem_set_self, List.take_set_of_le (Nat.le_refl _), ht, hr]

theorem toIntS_ev (a : List Int) (hm : a.length ≤ 35184372088832) : Ev (fun k => laws_toIntS.f k a) a := by
  simp only [laws_toIntS.f]
  refine ev_pos (by omega) (ev_pos (by omega) ?_)
  exact toIntS_l0 a (by omega) a.length 0 _ (by omega) (by rw [List.length_replicate]; omega) rfl

/-! #### laws_toOp -/
theorem toOp_ev (a0 : Int) (p : List Int) (a2 a3 a4 : Int) (h : p.length ≤ 1099511627776) : Ev (fun k => laws_toOp.f k a0 p a2 a3 a4) (a0, p, a2, a3, a4) := by
  simp only [laws_toOp.f]
  exact ev_bind (toIntS_ev p (by omega)) (Ev.now _)

/-! #### laws_toOpS -/
/-- an operation of the law's as one of the program's -/
def cvO (x : S73) : S78 := ⟨x.f0, x.f1, x.f2, x.f3, x.f4⟩
theorem toOpS_l0 (a : List S73) (hm : a.length ≤ 1099511627776) (hp : ∀ o ∈ a, o.f1.length ≤ 1099511627776) : ∀ (d i : Nat) (out : List S78), i + d = a.length → out.length = a.length → out.take i = (a.map cvO).take i → Ev (fun k => laws_toOpS.l0 k a out i) (a.map cvO) := by
  intro d
  induction d with
  | zero =>
    intro i out h hl ht
    refine ev_succ ?_
    simp only [laws_toOpS.l0]
    refine ev_neg (by omega) (ev_some ?_)
    rw [List.take_of_length_le (by omega), List.take_of_length_le (by rw [List.length_map]; omega)] at ht
    exact ht
  | succ d ih =>
    intro i out h hl ht
    have hi : i < a.length := by omega
    have hr : rd_T73 a i = a[i] := by simp [rd_T73, hi]
    refine ev_succ ?_
    simp only [laws_toOpS.l0]
    refine ev_pos (by omega) (ev_pos (by omega) ?_)
    rw [hr]
    refine ev_bind (toOp_ev _ _ _ _ _ (hp _ (List.getElem_mem hi))) (ev_pos (by omega) ?_)
    rw [w64 (by omega) (by omega)]
    refine ih (i + 1) _ (by omega) (by rw [List.length_set]; exact hl) ?_
    have e : ((i : Int)).toNat = i := Int.toNat_natCast i
    rw [e]
    rw [List.take_succ_eq_append_getElem (by rw [List.length_set]; omega), List.take_succ_eq_append_getElem (by rw [List.length_map]; omega), List.getElem_set_self, List.take_set_of_le (Nat.le_refl _), ht, List.getElem_map]
    rfl
theorem toOpS_ev (a : List S73) (hm : a.length ≤ 1099511627776) (hp : ∀ o ∈ a, o.f1.length ≤ 1099511627776) : Ev (fun k => laws_toOpS.f k a) (a.map cvO) := by
  simp only [laws_toOpS.f]
  refine ev_pos (by omega) (ev_pos (by omega) ?_)
  exact toOpS_l0 a hm hp a.length 0 _ (by omega) (by rw [List.length_replicate]; omega) rfl

/-! #### impl_within -/
theorem within_eq (a b c : Int) : impl_within.f a b c = some (decide (b ≤ a ∧ a ≤ c)) := by
  unfold impl_within.f
  by_cases h : b ≤ a
  · rw [if_pos h]; simp [h]
  · rw [if_neg h]; simp [h]

/-! #### impl_LabelOk -/
theorem LabelOk_eq (a : Int) : impl_LabelOk.f a = some (decide (0 ≤ a ∧ a ≤ 5)) := by
  unfold impl_LabelOk.f; rw [within_eq]; rfl

/-! #### impl_TreeOk -/
theorem depthOk_eq (l : List S80) (i : Nat) (hi : i < l.length) (hl : l.length ≤ 24) (hp : 0 < i → 0 ≤ dpA l (i - 1) ∧ dpA l (i - 1) ≤ 12) : impl_depthOk.f l (i : Int) = some (decide (if i = 0 then dpA l i = 0 else 1 ≤ dpA l i ∧ dpA l i ≤ dpA l (i - 1) + 1)) := by
  unfold impl_depthOk.f
  by_cases h0 : i = 0
  · subst h0
    conv => lhs; rw [if_pos (show ((0 : Nat) : Int) = 0 from rfl), if_pos (by omega)]
    congr 1
  · have e1 : (i : Int) - 1 = ((i - 1 : Nat) : Int) := by omega
    have hb := hp (by omega)
    conv => lhs; rw [if_neg (by omega), if_pos (by omega), if_pos (by omega), w64 (x := (i : Int) - 1) (by omega) (by omega), e1, if_pos (by omega), if_pos (by omega), rd_f1, rd_f1, w64 (x := dpA l (i - 1) + 1) (by omega) (by omega), within_eq]
    simp only [h0, if_false, Option.bind_some]
theorem impl_TreeOk_l0 (l : List S80) (hl : l.length ≤ 24) : ∀ (d i : Nat), i + d = l.length → (0 < i → okAt l (i - 1)) → Ev (fun k => impl_TreeOk.l0 k l l (l.length : Int) (i : Int)) (okFrom l i) := by
  intro d
  induction d with
  | zero =>
    intro i h hp
    refine ev_succ ?_
    simp only [impl_TreeOk.l0]
    refine ev_neg (by omega) (ev_some ?_)
    rw [okFrom_end (by omega)]
  | succ d ih =>
    intro i h hp
    refine ev_succ ?_
    simp only [impl_TreeOk.l0]
    simp only [rd_f0, rd_f1]
    rw [okFrom_step (by omega)]
    refine ev_pos (by omega) (ev_pos (by omega) (ev_pos (by omega) (ev_bindc (LabelOk_eq _) ?_)))
    simp only [decide_eq_true_eq]
    by_cases h1 : 0 ≤ lbA l i ∧ lbA l i ≤ 5
    · refine ev_pos h1 (ev_bindc (within_eq _ _ _) ?_)
      simp only [decide_eq_true_eq]
      by_cases h2 : 0 ≤ dpA l i ∧ dpA l i ≤ 12
      · refine ev_pos h2 (ev_bindc (depthOk_eq l i (by omega) hl (fun h0 => (hp h0).2.1)) ?_)
        simp only [decide_eq_true_eq]
        by_cases h3 : (if i = 0 then dpA l i = 0 else 1 ≤ dpA l i ∧ dpA l i ≤ dpA l (i - 1) + 1)
        · refine ev_pos h3 ?_
          have ok : okAt l i := ⟨h1, h2, h3⟩
          rw [w64 (x := (i : Int) + 1) (by omega) (by omega), decide_eq_true ok, Bool.true_and]
          exact ih (i + 1) (by omega) (fun _ => ok)
        · refine ev_neg h3 (ev_some ?_)
          have ok : ¬ okAt l i := fun h => h3 h.2.2
          rw [decide_eq_false ok, Bool.false_and]
      · refine ev_neg h2 (ev_some ?_)
        have ok : ¬ okAt l i := fun h => h2 h.2.1
        rw [decide_eq_false ok, Bool.false_and]
    · refine ev_neg h1 (ev_some ?_)
      have ok : ¬ okAt l i := fun h => h1 h.1
      rw [decide_eq_false ok, Bool.false_and]
theorem impl_TreeOk_ev (l : List S80) : Ev (fun k => impl_TreeOk.f k l) (treeOk l) := by
  simp only [impl_TreeOk.f]
  refine ev_bindc (within_eq _ _ _) ?_
  simp only [decide_eq_true_eq]
  rw [okFrom_zero]
  by_cases h : 1 ≤ l.length ∧ l.length ≤ 24
  · refine ev_pos (by omega) ?_
    rw [decide_eq_true h, Bool.true_and]
    exact impl_TreeOk_l0 l h.2 l.length 0 (by omega) (fun h => absurd h (Nat.lt_irrefl 0))
  · refine ev_neg (by omega) (ev_some ?_)
    rw [decide_eq_false h, Bool.false_and]

/-! #### slices_Clone_Node -/
theorem clone_eq (l : List S80) (h : l.length < 8796093022208) : slices_Clone_Node.f l = some l := by
  unfold slices_Clone_Node.f
  simp only [Option.bind_some, List.nil_append, List.length_nil]
  rw [if_pos (by omega)]

/-! #### impl_endOf -/
theorem endOf_l0 (l : List S80) (i : Nat) (hi : i < l.length) (hm : l.length ≤ 24) : ∀ (f j : Nat), l.length ≤ j + f → i < j → Ev (fun k => impl_endOf.l0 k l (i : Int) (j : Int)) (Tree.eoFrom l.length (dpA l) (dpA l i) f j : Int) := by
  intro f
  induction f with
  | zero =>
    intro j h h1
    refine ev_succ ?_
    simp only [impl_endOf.l0]
    exact ev_neg (by omega) (Ev.now _)
  | succ f ih =>
    intro j h h1
    refine ev_succ ?_
    simp only [impl_endOf.l0]
    simp only [rd_f1]
    rw [Tree.eoFrom]
    by_cases h2 : j < l.length
    · refine ev_pos (by omega) (ev_pos (by omega) (ev_pos (by omega) (ev_pos (by omega) ?_)))
      by_cases h3 : dpA l j > dpA l i
      · refine ev_pos h3 ?_
        rw [if_pos ⟨h2, h3⟩, w64 (by omega) (by omega)]
        exact ih (j + 1) (by omega) (by omega)
      · refine ev_neg h3 (ev_some ?_)
        rw [if_neg (by omega)]
    · refine ev_neg (by omega) (ev_some ?_)
      rw [if_neg (by omega)]
theorem endOf_ev (l : List S80) (i : Nat) (hi : i < l.length) (hm : l.length ≤ 24) : Ev (fun k => impl_endOf.f k l (i : Int)) (Tree.eo l.length (dpA l) i : Int) := by
  simp only [impl_endOf.f]
  rw [w64 (by omega) (by omega)]
  exact endOf_l0 l i hi hm (l.length - (i + 1)) (i + 1) (by omega) (by omega)

/-! #### impl_hasNode -/
theorem hasNode_ev (l : List S80) (i : Int) (hm : (l.length : Int) ≤ 9223372036854775806) : Ev (fun k => impl_hasNode.f k l i) (hasB l i) := by
  simp only [impl_hasNode.f]
  refine ev_bind (impl_TreeOk_ev l) ?_
  unfold hasB
  by_cases h : treeOk l = true
  · refine ev_pos h ?_
    rw [h, w64 (x := (l.length : Int) - 1) (by omega) (by omega)]
    refine ev_bindc (within_eq _ _ _) (ev_some ?_)
    rw [Bool.true_and]
    congr 1
    simp only [eq_iff_iff]
    omega
  · refine ev_neg h (ev_some ?_)
    have : treeOk l = false := by simpa using h
    rw [this, Bool.false_and]

/-! #### impl_KidsOf -/
theorem impl_KidsOf_l0 (l : List S80) (i : Nat) (hi : i < l.length) (hm : l.length ≤ 24) (ht : treeOk l = true) : ∀ (d j : Nat), j + d = Tree.eo l.length (dpA l) i → i < j →
    Ev (fun k => impl_KidsOf.l0 k l (i : Int) (kidsTo l i j) (j : Int)) (kidsTo l i (Tree.eo l.length (dpA l) i)) := by
  have he := Tree.eo_le (D := dpA l) hi
  intro d
  induction d with
  | zero =>
    intro j h hj
    refine ev_succ ?_
    simp only [impl_KidsOf.l0]
    refine ev_bind (endOf_ev l i hi hm) (ev_neg (by omega) (ev_some ?_))
    have : j = Tree.eo l.length (dpA l) i := by omega
    rw [this]
  | succ d ih =>
    intro j h hj
    refine ev_succ ?_
    simp only [impl_KidsOf.l0]
    simp only [rd_f1]
    have d2 := dp_range ht hi
    have hk := kidsTo_length l i j
    refine ev_bind (endOf_ev l i hi hm) (ev_pos (by omega) (ev_pos (by omega) (ev_pos (by omega) (ev_pos (by omega) (ev_pos (by omega) ?_)))))
    rw [w64 (x := dpA l i + 1) (by omega) (by omega), w64 (x := (j : Int) + 1) (by omega) (by omega)]
    have := ih (j + 1) (by omega) (by omega)
    rw [kidsTo_step l i j hj] at this
    by_cases hd : dpA l j = dpA l i + 1
    · rw [if_pos hd] at this
      exact ev_pos hd (ev_pos (by omega) this)
    · rw [if_neg hd, List.append_nil] at this
      exact ev_neg hd this
theorem impl_KidsOf_ev (l : List S80) (i : Int) (hm : (l.length : Int) ≤ 9223372036854775806) : Ev (fun k => impl_KidsOf.f k l i) (kidsI l i) := by
  simp only [impl_KidsOf.f, Option.bind_some]
  refine ev_bind (hasNode_ev l i hm) ?_
  by_cases h : hasB l i = true
  · refine ev_pos h ?_
    obtain ⟨j, rfl, hj, h1, h2, hv⟩ := hasB_nat h
    have g := @Tree.eo_gt l.length (dpA l) j
    rw [w64 (by omega) (by omega), kidsI_nat h]
    have := impl_KidsOf_l0 l j hj h2 h1 (Tree.eo l.length (dpA l) j - (j + 1)) (j + 1) (by omega) (by omega)
    have e : kidsTo l j (j + 1) = [] := by unfold kidsTo; rw [Nat.sub_self]; rfl
    rw [e] at this
    exact this
  · refine ev_neg h (ev_some ?_)
    unfold kidsI
    rw [if_neg h]

/-! #### impl_NodeAt -/
theorem impl_NodeAt_l0 (l : List S80) (p : List Int) (ht : treeOk l = true) (hp : (p.length : Int) ≤ 9223372036854775806) : ∀ (d j i : Nat), j + d = p.length → i < l.length → Ev (fun k => impl_NodeAt.l0 k l (i : Int) p (p.length : Int) (j : Int)) (optI (Tree.goDown l.length (dpA l) i (p.drop j))) := by
  have h24 := (treeOk_iff.1 ht).1
  intro d
  induction d with
  | zero =>
    intro j i h hi
    refine ev_succ ?_
    simp only [impl_NodeAt.l0]
    rw [List.drop_eq_nil_of_le (by omega)]
    exact ev_neg (by omega) (Ev.now _)
  | succ d ih =>
    intro j i h hi
    refine ev_succ ?_
    simp only [impl_NodeAt.l0]
    have hkl := kidsI_length l (i : Int)
    refine ev_pos (by omega) (ev_pos (by omega) (ev_pos (by omega) (ev_bind (impl_KidsOf_ev l _ (by omega)) (ev_bindc (within_eq _ _ _) ?_))))
    rw [w64 (by omega) (by omega), kidsI_ok ht hi, List.length_map, drop_rd p j (by omega), Tree.goDown]
    by_cases hk : 0 ≤ rd p (j : Int) ∧ rd p (j : Int) < ((Tree.kids l.length (dpA l) i).length : Int)
    · rw [if_pos hk]
      refine ev_pos (decide_eq_true (by omega)) (ev_pos hk.1 (ev_pos hk.2 ?_))
      rw [rd_nat _ _ hk.1 hk.2, w64 (x := (j : Int) + 1) (by omega) (by omega)]
      refine ih (j + 1) _ (by omega) (Tree.kids_lt (D := dpA l) hi ?_)
      rw [List.getD_eq_getElem?_getD, List.getElem?_eq_getElem (by omega)]
      exact List.getElem_mem _
    · rw [if_neg hk]
      exact ev_neg (by simp only [decide_eq_true_eq]; omega) (Ev.now _)
theorem impl_NodeAt_ev (l : List S80) (p : List Int) (hp : (p.length : Int) ≤ 9223372036854775806) : Ev (fun k => impl_NodeAt.f k l p) (nodeI l p) := by
  simp only [impl_NodeAt.f]
  refine ev_bind (impl_TreeOk_ev l) ?_
  unfold nodeI
  by_cases h : treeOk l = true
  · rw [if_pos h]
    exact ev_pos h (impl_NodeAt_l0 l p h hp p.length 0 0 (by omega) (by have := (treeOk_iff.1 h).1; omega))
  · rw [if_neg h]
    exact ev_neg h (Ev.now _)

/-! #### impl_opCode -/
theorem opCode_l0 (l : List S80) (f t : Nat) (ht : treeOk l = true) (hft : f ≤ t) (htl : t ≤ l.length) : ∀ (d j : Nat) (a : Int), f + j + d = t → Ev (fun k => impl_opCode.l0 k l (f : Int) (t : Int) a ((l.take t).drop f) (((l.take t).drop f).length : Int) (j : Int)) (if (l.length : Int) = 24 then (6, 0, 0) else if deepF l d (f + j) a > 12 then (7, 0, 0) else (0, (f : Int), (t : Int))) := by
  have hlen : ((l.take t).drop f).length = t - f := by rw [List.length_drop, List.length_take]; omega
  have h24 := (treeOk_iff.1 ht).1
  intro d
  induction d with
  | zero =>
    intro j a h
    refine ev_succ ?_
    simp only [impl_opCode.l0]
    refine ev_neg (by omega) ?_
    refine ev_ite (fun c => by rw [if_pos c]; exact Ev.now _) (fun c => ?_)
    rw [if_neg c]
    show Ev _ (if a > 12 then _ else _)
    exact ev_ite (fun c => by rw [if_pos c]; exact Ev.now _) (fun c => by rw [if_neg c]; exact Ev.now _)
  | succ d ih =>
    intro j a h
    refine ev_succ ?_
    simp only [impl_opCode.l0]
    have dj := dp_range ht (j := f + j) (by omega)
    have ed : dpA ((l.take t).drop f) j = dpA l (f + j) := by unfold dpA; rw [at_drop, at_take _ _ _ (by omega)]
    refine ev_pos (by omega) (ev_pos (by omega) (ev_pos (by omega) ?_))
    rw [rd_f1, ed, w64 (x := dpA l (f + j) + 1) (by omega) (by omega), w64 (x := (j : Int) + 1) (by omega) (by omega)]
    exact ih (j + 1) _ (by omega)
theorem opCode_j1 (l : List S80) (i : Nat) (kind lab fr ct : Int) (p : List Int) (ht : treeOk l = true) (hi : i < l.length) (b : Bool) (hb : b = decide (kind = 2 ∧ (i : Int) = 0)) (hk : 1 ≤ kind ∧ kind ≤ 3) (hl : ¬ (kind ≠ 2 ∧ ¬ (0 ≤ lab ∧ lab ≤ 5))) : Ev (fun k => impl_opCode.j1 k l (i : Int) b kind p lab fr ct) (codeT l kind lab fr ct (i : Int)) := by
  have h24 := (treeOk_iff.1 ht).1
  have he := Tree.eo_le (D := dpA l) hi
  have di := dp_range ht hi
  have hkl := kidsI_length l (i : Int)
  have hkn : (kidsI l (i : Int)).length = (Tree.kids l.length (dpA l) i).length := by rw [kidsI_ok ht hi, List.length_map]
  unfold codeT
  rw [if_pos hk, if_neg (by omega), if_neg hl, Int.toNat_natCast]
  refine ev_succ ?_
  simp only [impl_opCode.j1]
  by_cases h1 : kind = 2 ∧ (i : Int) = 0
  · rw [if_pos h1]
    exact ev_pos (by rw [hb]; exact decide_eq_true h1) (Ev.now _)
  · rw [if_neg h1]
    refine ev_neg (by rw [hb]; simpa using h1) ?_
    by_cases h3 : kind = 3
    · rw [if_pos h3]
      refine ev_pos h3 (ev_bind (impl_KidsOf_ev l _ (by omega)) (ev_bindc (within_eq _ _ _) ?_))
      have bad : ¬ (0 ≤ fr ∧ fr ≤ ((Tree.kids l.length (dpA l) i).length : Int) ∧ 0 ≤ ct ∧ ct ≤ ((Tree.kids l.length (dpA l) i).length : Int) - fr) → Ev (fun k => impl_opCode.j2 k l (i : Int) (kidsI l (i : Int)) true kind p lab fr ct) (if 0 ≤ fr ∧ fr ≤ ((Tree.kids l.length (dpA l) i).length : Int) ∧ 0 ≤ ct ∧ ct ≤ ((Tree.kids l.length (dpA l) i).length : Int) - fr then tailT l i ((Tree.bounds l.length (dpA l) i).getD fr.toNat 0) ((Tree.bounds l.length (dpA l) i).getD (fr + ct).toNat 0) else (5, 0, 0)) := by
        intro c
        rw [if_neg c]
        refine ev_succ ?_
        simp only [impl_opCode.j2]
        exact ev_pos trivial (Ev.now _)
      by_cases h4 : 0 ≤ fr ∧ fr ≤ ((kidsI l (i : Int)).length : Int)
      · refine ev_pos (decide_eq_true h4) (ev_bindc (within_eq _ _ _) ?_)
        rw [w64 (by omega) (by omega)]
        by_cases h5 : 0 ≤ ct ∧ ct ≤ ((kidsI l (i : Int)).length : Int) - fr
        · have hall : 0 ≤ fr ∧ fr ≤ ((Tree.kids l.length (dpA l) i).length : Int) ∧ 0 ≤ ct ∧ ct ≤ ((Tree.kids l.length (dpA l) i).length : Int) - fr := by omega
          obtain ⟨f1, f2, f3, f4⟩ := bounds_facts hi hall
          rw [decide_eq_true h5, if_pos hall]
          refine ev_succ ?_
          simp only [impl_opCode.j2]
          have hbl := bounds_length l.length (dpA l) i
          refine ev_neg (by decide) (ev_bind (endOf_ev l i hi (by omega)) (ev_pos (by omega) (ev_bindc rfl ?_)))
          rw [bounds_int ht hi, List.length_map, w64 (x := fr + ct) (by omega) (by omega)]
          refine ev_pos (by omega) (ev_pos (by omega) (ev_pos (by omega) (ev_pos (by omega) ?_)))
          rw [rd_nat _ _ (by omega) (by omega), rd_nat _ _ (by omega) (by omega)]
          refine ev_pos (by omega) (ev_pos (by omega) (ev_pos (by omega) (ev_pos (by omega) (ev_pos (by omega) (ev_bindc rfl ?_)))))
          rw [rd_f1, w64 (x := dpA l i + 1) (by omega) (by omega)]
          simp only [Int.toNat_natCast]
          unfold tailT
          have := opCode_l0 l ((Tree.bounds l.length (dpA l) i).getD fr.toNat 0) ((Tree.bounds l.length (dpA l) i).getD (fr + ct).toNat 0) ht f2 (by omega) ((Tree.bounds l.length (dpA l) i).getD (fr + ct).toNat 0 - (Tree.bounds l.length (dpA l) i).getD fr.toNat 0) 0 (dpA l i + 1) (by omega)
          exact this
        · rw [decide_eq_false h5]
          exact bad (by omega)
      · exact ev_neg (by simpa using h4) (bad (by omega))
    · rw [if_neg h3]
      exact ev_neg h3 (Ev.now _)
theorem opCode_ev (l : List S80) (kind lab fr ct i : Int) (p : List Int) (hi : i < 0 ∨ ∃ n : Nat, i = (n : Int) ∧ n < l.length ∧ treeOk l = true) : Ev (fun k => impl_opCode.f k l kind p lab fr ct i) (codeT l kind lab fr ct i) := by
  simp only [impl_opCode.f]
  refine ev_bindc (within_eq _ _ _) ?_
  by_cases hk : 1 ≤ kind ∧ kind ≤ 3
  · refine ev_pos (decide_eq_true hk) ?_
    rcases hi with hi | ⟨n, rfl, hn, ht⟩
    · unfold codeT
      rw [if_pos hk, if_pos hi]
      exact ev_pos hi (Ev.now _)
    · refine ev_neg (by omega) ?_
      by_cases h2 : kind = 2
      · refine ev_pos h2 (ev_succ ?_)
        simp only [impl_opCode.j0]
        refine ev_neg (by decide) (ev_pos h2 (opCode_j1 l n kind lab fr ct p ht hn _ ?_ hk (by omega)))
        rw [Bool.eq_iff_iff]; simp [h2]
      · refine ev_neg h2 (ev_bindc (LabelOk_eq _) (ev_succ ?_))
        simp only [impl_opCode.j0]
        by_cases hl : 0 ≤ lab ∧ lab ≤ 5
        · refine ev_neg (by simp [hl]) (ev_neg h2 (opCode_j1 l n kind lab fr ct p ht hn _ ?_ hk (by omega)))
          simp [h2]
        · refine ev_pos (by rw [decide_eq_false hl]; rfl) ?_
          unfold codeT
          rw [if_pos hk, if_neg (by omega), if_pos ⟨h2, hl⟩]
          exact Ev.now _
  · refine ev_neg (by simpa using hk) ?_
    unfold codeT
    rw [if_neg hk]
    exact Ev.now _

/-! #### slices_Delete_Node -/
theorem delete_eq (l : List S80) (i j : Nat) (hij : i ≤ j) (hj : j ≤ l.length) : slices_Delete_Node.f l (i : Int) (j : Int) = some (l.take i ++ l.drop j) := by
  unfold slices_Delete_Node.f
  rw [if_pos (by omega)]
  simp only [Int.toNat_natCast]

/-! #### slices_Insert_Node -/
theorem insert_eq (l : List S80) (i : Nat) (v : List S80) (hi : i ≤ l.length) (hv : 0 < v.length) (hl : l.length + v.length < 8796093022208) : slices_Insert_Node.f l (i : Int) v = some (l.take i ++ v ++ l.drop i) := by
  unfold slices_Insert_Node.f
  rw [if_pos (by omega)]
  simp only [Int.toNat_natCast]

/-! #### impl_ApplyOp -/
theorem impl_ApplyOp_l0 (l : List S80) (i : Nat) (ht : treeOk l = true) (hi : i < l.length) : ∀ (d j : Nat), j + d = Tree.eo l.length (dpA l) i → i < j → Ev (fun k => impl_ApplyOp.l0 k l (midN (-1) (i + 1) l j) (i : Int) (j : Int)) (l.take i ++ ((l.take (Tree.eo l.length (dpA l) i)).drop (i + 1)).map (upN (-1)) ++ l.drop (Tree.eo l.length (dpA l) i), 0) := by
  have h24 := (treeOk_iff.1 ht).1
  have el := Tree.eo_le (D := dpA l) hi
  intro d
  induction d with
  | zero =>
    intro j h hj
    refine ev_succ ?_
    simp only [impl_ApplyOp.l0]
    have ew : wrap64 ((i : Int) + 1) = ((i + 1 : Nat) : Int) := by rw [w64 (by omega) (by omega)]; omega
    have hml := midN_length (-1) (i + 1) l j (by omega) (by omega)
    refine ev_bind (endOf_ev l i hi (by omega)) (ev_neg (by omega) ?_)
    rw [ew]
    refine ev_bindc (delete_eq _ i (i + 1) (by omega) (by omega)) (ev_some ?_)
    have e : j = Tree.eo l.length (dpA l) i := by omega
    rw [midN_drop _ _ _ _ (by omega), ← e]
    have e2 : (midN (-1) (i + 1) l j).take i = l.take i := by
      have := congrArg (List.take i) (midN_take (-1) (i + 1) l j (by omega))
      rw [List.take_take, List.take_take, Nat.min_eq_left (by omega)] at this
      exact this
    rw [e2, List.append_assoc]
  | succ d ih =>
    intro j h hj
    refine ev_succ ?_
    simp only [impl_ApplyOp.l0]
    have dj := dp_range ht (j := j) (by omega)
    have hml := midN_length (-1) (i + 1) l j (by omega) (by omega)
    refine ev_bind (endOf_ev l i hi (by omega)) (ev_pos (by omega) (ev_pos (by omega) (ev_pos (by omega) ?_)))
    rw [midN_rd _ _ _ _ (by omega) (by omega), Int.sub_eq_add_neg, upN_eq (t := l) (i := j) (b := -1) (by omega) (by omega), Int.toNat_natCast, midN_set _ _ _ _ (by omega) (by omega), w64 (x := (j : Int) + 1) (by omega) (by omega)]
    exact ih (j + 1) (by omega) (by omega)
theorem impl_ApplyOp_l1 (l : List S80) (i f t : Nat) (kind : Int) (p : List Int) (lab fr ct : Int) (ht : treeOk l = true) (hi : i < l.length) (hft : f ≤ t) (htl : t ≤ l.length) : ∀ (d j : Nat), j + d = t → f ≤ j → Ev (fun k => impl_ApplyOp.l1 k l (midN 1 f l j) (i : Int) (f : Int) (t : Int) (j : Int) kind p lab fr ct) (l.take f ++ [(⟨lab, dpA l i + 1⟩ : S80)] ++ ((l.take t).drop f).map (upN 1) ++ l.drop t, 0) := by
  have h24 := (treeOk_iff.1 ht).1
  have di := dp_range ht hi
  intro d
  induction d with
  | zero =>
    intro j h hj
    refine ev_succ ?_
    simp only [impl_ApplyOp.l1]
    have hml := midN_length 1 f l j (by omega) (by omega)
    have e : j = t := by omega
    subst e
    refine ev_neg (by omega) (ev_pos (by omega) (ev_pos (by omega) ?_))
    refine ev_bindc (insert_eq _ f _ (by omega) (by simp) (by simp only [List.length_singleton]; omega)) (ev_some ?_)
    rw [midN_take _ _ _ _ (by omega), midN_drop _ _ _ _ (by omega), rd_f1, w64 (x := dpA l i + 1) (by omega) (by omega)]
    simp only [List.append_assoc]
  | succ d ih =>
    intro j h hj
    refine ev_succ ?_
    simp only [impl_ApplyOp.l1]
    have dj := dp_range ht (j := j) (by omega)
    have hml := midN_length 1 f l j (by omega) (by omega)
    refine ev_pos (by omega) (ev_pos (by omega) (ev_pos (by omega) ?_))
    rw [midN_rd _ _ _ _ (by omega) (by omega), upN_eq (t := l) (i := j) (b := 1) (by omega) (by omega), Int.toNat_natCast, midN_set _ _ _ _ (by omega) (by omega), w64 (x := (j : Int) + 1) (by omega) (by omega)]
    exact ih (j + 1) (by omega) (by omega)
theorem impl_ApplyOp_ev (l : List S80) (kind : Int) (p : List Int) (lab fr ct : Int) (hp : (p.length : Int) ≤ 9223372036854775806) : Ev (fun k => impl_ApplyOp.f k l kind p lab fr ct) (applyT l kind p lab fr ct) := by
  simp only [impl_ApplyOp.f]
  refine ev_bind (impl_TreeOk_ev l) ?_
  unfold applyT
  by_cases ht : treeOk l = true
  · rw [if_pos ht]
    have h24 := (treeOk_iff.1 ht).1
    refine ev_pos ht (ev_bindc (clone_eq l (by omega)) (ev_bind (impl_NodeAt_ev l p hp) (ev_bind (opCode_ev l kind lab fr ct _ p (nodeI_cases l p)) ?_)))
    by_cases hc : (codeT l kind lab fr ct (nodeI l p)).1 = 0
    · rw [if_pos hc]
      refine ev_pos hc ?_
      obtain ⟨hk, hi0, hl, hr, h3', h3⟩ := codeT_ok hc
      obtain ⟨i, hi, hin, _, _⟩ := nodeI_nat hi0
      rw [hi] at hc hr h3' h3 ⊢
      have di := dp_range ht hin
      have el := Tree.eo_le (D := dpA l) hin
      have eg := @Tree.eo_gt l.length (dpA l) i
      by_cases k1 : kind = 1
      · refine ev_pos k1 (ev_pos (by omega) (ev_pos (by omega) (ev_some ?_)))
        unfold doneT
        rw [if_pos k1]
        rfl
      · refine ev_neg k1 ?_
        by_cases k2 : kind = 2
        · have ew : wrap64 ((i : Int) + 1) = ((i + 1 : Nat) : Int) := by rw [w64 (by omega) (by omega)]; omega
          refine ev_pos k2 ?_
          unfold doneT
          rw [if_neg k1, if_pos k2, ew, Int.toNat_natCast]
          have := impl_ApplyOp_l0 l i ht hin (Tree.eo l.length (dpA l) i - (i + 1)) (i + 1) (by omega) (by omega)
          rw [midN_self] at this
          exact this
        · refine ev_neg k2 ?_
          obtain ⟨hb, hcode, h24', _⟩ := h3 (by omega)
          rw [hcode]
          rw [Int.toNat_natCast] at hb ⊢
          obtain ⟨f1, f2, f3, f4⟩ := bounds_facts hin hb
          generalize (Tree.bounds l.length (dpA l) i).getD fr.toNat 0 = f at *
          generalize (Tree.bounds l.length (dpA l) i).getD (fr + ct).toNat 0 = t at *
          unfold doneT
          rw [if_neg k1, if_neg k2]
          simp only [Int.toNat_natCast]
          have := impl_ApplyOp_l1 l i f t kind p lab fr ct ht hin f2 (by omega) (t - f) f (by omega) (Nat.le_refl _)
          rw [midN_self] at this
          exact this
    · rw [if_neg hc]
      exact ev_neg hc (Ev.now _)
  · rw [if_neg ht]
    exact ev_neg ht (Ev.now _)

/-! #### impl_Node -/
theorem eqlN_l0 (a b : List S80) (hl : a.length = b.length) (hm : (a.length : Int) ≤ 9223372036854775806) : ∀ (d i : Nat), i + d = a.length → Ev (fun k => impl_Node.l0 k a b (a.length : Int) (i : Int)) (sameFrom a b i) := by
  intro d
  induction d with
  | zero =>
    intro i h
    refine ev_succ ?_
    simp only [impl_Node.l0]
    exact ev_neg (by omega) (ev_some (sameFrom_end (by omega)).symm)
  | succ d ih =>
    intro i h
    refine ev_succ ?_
    simp only [impl_Node.l0]
    simp only [rd_f0, rd_f1, same_cond]
    refine ev_pos (by omega) (ev_pos (by omega) (ev_pos (by omega) (ev_pos (by omega) ?_)))
    rw [sameFrom_step (by omega), w64 (by omega) (by omega)]
    by_cases hc : lbA a i = lbA b i ∧ dpA a i = dpA b i
    · refine ev_neg (by simpa using hc) ?_
      rw [decide_eq_true hc, Bool.true_and]
      exact ih (i + 1) (by omega)
    · refine ev_pos hc (ev_some ?_)
      rw [decide_eq_false hc, Bool.false_and]
theorem eqlN_ev (a b : List S80) (hm : (a.length : Int) ≤ 9223372036854775806) : Ev (fun k => impl_Node.f k a b) (sameT a b) := by
  simp only [impl_Node.f]
  by_cases h : a.length = b.length
  · refine ev_pos (by omega) ?_
    rw [← sameFrom_zero h]
    exact eqlN_l0 a b h hm a.length 0 (by omega)
  · refine ev_neg (by omega) (ev_some ?_)
    symm
    exact cdec_false (fun e => h (by rw [e]))

/-! #### impl_SameTree -/
theorem SameTree_ev (a b : List S80) (hm : (a.length : Int) ≤ 9223372036854775806) : Ev (fun k => impl_SameTree.f k a b) (sameT a b) := by
  simp only [impl_SameTree.f]
  exact ev_bind (eqlN_ev a b hm) (Ev.now _)

/-! #### slices_Clone_int -/
theorem cloneI_eq (l : List Int) (h : l.length < 17592186044416) : slices_Clone_int.f l = some l := by
  unfold slices_Clone_int.f
  simp only [Option.bind_some, List.length_nil, Nat.zero_add, List.nil_append]
  rw [if_pos h]

/-! #### impl_opCopy -/
theorem opCopy_eq (a0 : Int) (p : List Int) (a2 a3 a4 : Int) (h : p.length < 17592186044416) : impl_opCopy.f a0 p a2 a3 a4 = some (a0, p, a2, a3, a4) := by
  unfold impl_opCopy.f
  rw [cloneI_eq p h]
  rfl

/-! #### impl_DropIdle -/
theorem impl_DropIdle_l0 (ops : List S78) (hb : OpsB ops) : ∀ (d j : Nat) (l : List S80) (acc : List S78), j + d = ops.length → acc.length ≤ j → l.length ≤ 1099511627776 → Ev (fun k => impl_DropIdle.l0 k acc l ops (ops.length : Int) (j : Int)) (idleR acc (idleF l (ops.drop j))) := by
  have hl := hb.1
  intro d
  induction d with
  | zero =>
    intro j l acc h ha hm
    refine ev_succ ?_
    simp only [impl_DropIdle.l0]
    rw [List.drop_eq_nil_of_le (by omega)]
    refine ev_neg (by omega) (ev_some ?_)
    simp [idleF, idleR]
  | succ d ih =>
    intro j l acc h ha hm
    refine ev_succ ?_
    simp only [impl_DropIdle.l0]
    have hp := hb.at (j := j) (by omega)
    have hal := appO_length l (rd_T78 ops (j : Int)) 1099511627776 (by omega) hm
    refine ev_pos (by omega) (ev_pos (by omega) (ev_pos (by omega) (ev_bind (impl_ApplyOp_ev l _ _ _ _ _ (by omega)) ?_)))
    rw [drop_op ops j (by omega), idleF]
    by_cases hc : (appO l (rd_T78 ops (j : Int))).2 = 0
    · rw [if_pos hc]
      refine ev_pos hc (ev_bind (SameTree_ev l _ (by omega)) ?_)
      rw [w64 (x := (j : Int) + 1) (by omega) (by omega)]
      by_cases hs : sameT l (appO l (rd_T78 ops (j : Int))).1 = true
      · refine ev_pos hs ?_
        have := ih (j + 1) (appO l (rd_T78 ops (j : Int))).1 acc (by omega) (by omega) hal
        refine ev_eq this ?_
        cases idleF (appO l (rd_T78 ops (j : Int))).1 (ops.drop (j + 1)) with
        | none => rfl
        | some q => simp only [idleR, Option.map_some, if_pos hs]
      · refine ev_neg hs (ev_bindc (opCopy_eq _ _ _ _ _ (by omega)) (ev_pos (by omega) ?_))
        have := ih (j + 1) (appO l (rd_T78 ops (j : Int))).1 (acc ++ [rd_T78 ops (j : Int)]) (by omega) (by simp only [List.length_append, List.length_singleton]; omega) hal
        refine ev_eq this ?_
        cases idleF (appO l (rd_T78 ops (j : Int))).1 (ops.drop (j + 1)) with
        | none => rfl
        | some q => simp only [idleR, Option.map_some, if_neg hs, List.append_assoc, List.singleton_append]
    · rw [if_neg hc]
      exact ev_neg hc (Ev.now _)
theorem impl_DropIdle_ev (l : List S80) (ops : List S78) (hb : OpsB ops) (hm : l.length ≤ 1099511627776) : Ev (fun k => impl_DropIdle.f k l ops) (idleT l ops) := by
  simp only [impl_DropIdle.f, Option.bind_some]
  refine ev_bind (impl_TreeOk_ev l) ?_
  unfold idleT
  by_cases ht : treeOk l = true
  · rw [if_pos ht]
    exact ev_pos ht (impl_DropIdle_l0 ops hb ops.length 0 l [] (by omega) (by simp) hm)
  · rw [if_neg ht]
    exact ev_neg ht (Ev.now _)

/-! #### laws_eqIntS -/
theorem eqIntS_l0 (a : List Int) (hm : (a.length : Int) ≤ 9223372036854775806) : ∀ (d i : Nat), i + d = a.length → Ev (fun k => laws_eqIntS.l0 k a a i) true := by
  intro d
  induction d with
  | zero =>
    intro i h
    refine ev_succ ?_
    simp only [laws_eqIntS.l0]
    exact ev_neg (by omega) (Ev.now _)
  | succ d ih =>
    intro i h
    refine ev_succ ?_
    simp only [laws_eqIntS.l0]
    refine ev_pos (by omega) (ev_pos (by omega) (ev_pos (by omega) (ev_pos trivial ?_)))
    rw [w64 (by omega) (by omega)]
    exact ih (i + 1) (by omega)

theorem eqIntS_ev (a : List Int) (hm : (a.length : Int) ≤ 9223372036854775806) : Ev (fun k => laws_eqIntS.f k a a) true := by
  simp only [laws_eqIntS.f]
  exact ev_pos trivial (eqIntS_l0 a hm a.length 0 (by omega))

/-! #### laws_eqOp -/
theorem eqOp_self (a0 : Int) (p : List Int) (a2 a3 a4 : Int) (hp : (p.length : Int) ≤ 1099511627776) : Ev (fun k => laws_eqOp.f k a0 p a2 a3 a4 a0 p a2 a3 a4) true := by
  simp only [laws_eqOp.f]
  exact ev_pos trivial (ev_bind (eqIntS_ev p (by omega)) (ev_pos rfl (ev_pos trivial (ev_pos trivial (ev_pos trivial (Ev.now _))))))

/-! #### laws_eqOpS -/
theorem eqOpS_ev (ops : List S78) (hb : OpsB ops) : Ev (fun k => laws_eqOpS.f k ops ops) true := by
  have hl := hb.1
  have key : ∀ (d j : Nat), j + d = ops.length → Ev (fun k => laws_eqOpS.l0 k ops ops (j : Int)) true := by
    intro d
    induction d with
    | zero =>
      intro j h
      refine ev_succ ?_
      simp only [laws_eqOpS.l0]
      exact ev_neg (by omega) (Ev.now _)
    | succ d ih =>
      intro j h
      refine ev_succ ?_
      simp only [laws_eqOpS.l0]
      have hp := hb.at (j := j) (by omega)
      refine ev_pos (by omega) (ev_pos (by omega) (ev_pos (by omega) (ev_bind (eqOp_self _ _ _ _ _ hp) (ev_pos rfl ?_))))
      rw [w64 (x := (j : Int) + 1) (by omega) (by omega)]
      exact ih (j + 1) (by omega)
  simp only [laws_eqOpS.f]
  exact ev_pos trivial (key ops.length 0 (by omega))

/-! #### laws_eqNodeS -/
theorem eqNode_self (a b : Int) : laws_eqNode.f a b a b = some true := by unfold laws_eqNode.f; rw [if_pos rfl, if_pos rfl]
theorem eqNodeS_l0 (a : List S80) (hm : (a.length : Int) ≤ 9223372036854775806) : ∀ (d i : Nat), i + d = a.length → Ev (fun k => laws_eqNodeS.l0 k a a i) true := by
  intro d
  induction d with
  | zero =>
    intro i h
    refine ev_succ ?_
    simp only [laws_eqNodeS.l0]
    exact ev_neg (by omega) (Ev.now _)
  | succ d ih =>
    intro i h
    refine ev_succ ?_
    simp only [laws_eqNodeS.l0]
    refine ev_pos (by omega) (ev_pos (by omega) (ev_pos (by omega) (ev_bindc (eqNode_self _ _) (ev_pos rfl ?_))))
    rw [w64 (by omega) (by omega)]
    exact ih (i + 1) (by omega)
theorem eqNodeS_ev (a : List S80) (hm : (a.length : Int) ≤ 9223372036854775806) : Ev (fun k => laws_eqNodeS.f k a a) true := by
  simp only [laws_eqNodeS.f]
  exact ev_pos trivial (eqNodeS_l0 a hm a.length 0 (by omega))

/-! #### laws_markNodeS -/
/-- the marks of n nodes -/
def seqN (a : Int) (n : Nat) : List S80 := (List.range n).map fun (j : Nat) => ⟨a + 2 * (j : Int), a + 2 * (j : Int) + 1⟩
theorem seqN_length (a : Int) (n : Nat) : (seqN a n).length = n := by simp [seqN]
theorem seqN_succ (a : Int) (n : Nat) : seqN a (n + 1) = seqN a n ++ [⟨a + 2 * (n : Int), a + 2 * (n : Int) + 1⟩] := by simp [seqN, List.range_succ]
theorem seqN_rd (a : Int) (n i : Nat) (h : i < n) : rd_T80 (seqN a n) i = ⟨a + 2 * (i : Int), a + 2 * (i : Int) + 1⟩ := by simp [rd_T80, seqN, h]
theorem markNodeS_l0 (l : List S80) (a : Int) (h0 : 0 ≤ a) (hm : a + 2 * l.length ≤ 9223372036854775805) : ∀ (d i : Nat), i + d = l.length → Ev (fun k => laws_markNodeS.l0 k (seqN a i ++ l.drop i) (a + 2 * i) i) (a + 2 * l.length, seqN a l.length) := by
  intro d
  induction d with
  | zero =>
    intro i h
    refine ev_succ ?_
    simp only [laws_markNodeS.l0]
    have e : i = l.length := by omega
    subst e
    refine ev_neg (by rw [List.length_append, seqN_length, List.length_drop]; omega) (ev_some ?_)
    rw [List.drop_length, List.append_nil]
  | succ d ih =>
    intro i h
    refine ev_succ ?_
    simp only [laws_markNodeS.l0]
    refine ev_pos (by rw [List.length_append, seqN_length, List.length_drop]; omega) (ev_pos (by omega) ?_)
    simp only [Option.bind_some]
    rw [w64 (x := a + 2 * (i : Int) + 1) (by omega) (by omega), w64 (x := a + 2 * (i : Int) + 1 + 1) (by omega) (by omega), w64 (x := (i : Int) + 1) (by omega) (by omega)]
    have hi : i < l.length := by omega
    have e1 : ∀ x : S80, (seqN a i ++ l.drop i).set ((i : Int)).toNat x = seqN a i ++ x :: l.drop (i + 1) := by
      intro x
      rw [Int.toNat_natCast, List.set_append_right _ _ (by rw [seqN_length]; omega), seqN_length, Nat.sub_self, List.drop_eq_getElem_cons hi, List.set_cons_zero]
    have e2 : ∀ (x y : S80), (seqN a i ++ x :: l.drop (i + 1)).set ((i : Int)).toNat y = seqN a i ++ y :: l.drop (i + 1) := by
      intro x y
      rw [Int.toNat_natCast, List.set_append_right _ _ (by rw [seqN_length]; omega), seqN_length, Nat.sub_self, List.set_cons_zero]
    have e3 : ∀ (x : S80), rd_T80 (seqN a i ++ x :: l.drop (i + 1)) (i : Int) = x := by
      intro x; simp [rd_T80, seqN_length]
    rw [e1, e2, e3]
    have := ih (i + 1) (by omega)
    rw [seqN_succ, List.append_assoc] at this
    have e4 : a + 2 * ((i + 1 : Nat) : Int) = a + 2 * (i : Int) + 1 + 1 := by omega
    rw [e4] at this
    exact this
theorem markNodeS_ev (l : List S80) (a : Int) (h0 : 0 ≤ a) (hm : a + 2 * l.length ≤ 9223372036854775805) : Ev (fun k => laws_markNodeS.f k l a) (a + 2 * l.length, seqN a l.length) := by
  simp only [laws_markNodeS.f]
  have := markNodeS_l0 l a h0 hm l.length 0 (by omega)
  simpa [seqN] using this

/-! #### laws_markIntS -/
/-- a, a + 1, ..: n of them -/
def seqI (a : Int) (n : Nat) : List Int := (List.range n).map fun (j : Nat) => a + (j : Int)
theorem seqI_length (a : Int) (n : Nat) : (seqI a n).length = n := by simp [seqI]
theorem seqI_succ (a : Int) (n : Nat) : seqI a (n + 1) = seqI a n ++ [a + (n : Int)] := by simp [seqI, List.range_succ]
theorem seqI_rd (a : Int) (n i : Nat) (h : i < n) : rd (seqI a n) i = a + (i : Int) := by simp [rd, seqI, h]

theorem markIntS_l0 (l : List Int) (a : Int) (h0 : 0 ≤ a) (hm : a + l.length ≤ 9223372036854775806) : ∀ (d i : Nat), i + d = l.length → Ev (fun k => laws_markIntS.l0 k (seqI a i ++ l.drop i) (a + i) i) (a + l.length, seqI a l.length) := by
  intro d
  induction d with
  | zero =>
    intro i h
    refine ev_succ ?_
    simp only [laws_markIntS.l0]
    have e : i = l.length := by omega
    subst e
    refine ev_neg (by rw [List.length_append, seqI_length, List.length_drop]; omega) (ev_some ?_)
    rw [List.drop_length, List.append_nil]
  | succ d ih =>
    intro i h
    refine ev_succ ?_
    simp only [laws_markIntS.l0]
    refine ev_pos (by rw [List.length_append, seqI_length, List.length_drop]; omega) (ev_pos (by omega) ?_)
    rw [w64 (by omega) (by omega), w64 (by omega) (by omega)]
    have hi : i < l.length := by omega
    have e1 : (seqI a i ++ l.drop i).set ((i : Int)).toNat (a + i) = seqI a (i + 1) ++ l.drop (i + 1) := by
      rw [Int.toNat_natCast, List.set_append_right _ _ (by rw [seqI_length]; omega), seqI_length, Nat.sub_self, List.drop_eq_getElem_cons hi, List.set_cons_zero, seqI_succ, List.append_assoc]
      rfl
    rw [e1]
    have e2 : a + (i : Int) + 1 = a + ((i + 1 : Nat) : Int) := by omega
    rw [e2]
    exact ih (i + 1) (by omega)

theorem markIntS_ev (l : List Int) (a : Int) (h0 : 0 ≤ a) (hm : a + l.length ≤ 9223372036854775806) : Ev (fun k => laws_markIntS.f k l a) (a + l.length, seqI a l.length) := by
  simp only [laws_markIntS.f]
  have := markIntS_l0 l a h0 hm l.length 0 (by omega)
  simpa [seqI] using this

/-! #### laws_markOpS -/
/-- how many marks operations take -/
def opSz : List S78 → Nat
  | [] => 0
  | o :: r => o.f1.length + 4 + opSz r
/-- operations with the marks a, a + 1, .. -/
def mkO : Int → List S78 → List S78
  | _, [] => []
  | a, o :: r => ⟨a, seqI (a + 1) o.f1.length, a + 1 + o.f1.length, a + 1 + o.f1.length + 1, a + 1 + o.f1.length + 2⟩ :: mkO (a + 4 + o.f1.length) r
theorem mkO_length : ∀ (l : List S78) (a : Int), (mkO a l).length = l.length := by
  intro l
  induction l with
  | nil => intro a; rfl
  | cons o r ih => intro a; rw [mkO, List.length_cons, List.length_cons, ih]
theorem opSz_le (M : Nat) : ∀ (l : List S78), (∀ o ∈ l, o.f1.length ≤ M) → opSz l ≤ l.length * (M + 4) := by
  intro l
  induction l with
  | nil => intro _; simp [opSz]
  | cons o r ih =>
    intro h
    have h1 := ih (fun x hx => h x (List.mem_cons_of_mem _ hx))
    have h2 := h o List.mem_cons_self
    rw [opSz, List.length_cons, Nat.succ_mul]
    omega
theorem opSz_length : ∀ (l : List S78), l.length ≤ opSz l := by
  intro l
  induction l with
  | nil => exact Nat.zero_le _
  | cons o r ih => rw [opSz, List.length_cons]; omega
theorem rd_mid (P R : List S78) (o : S78) : rd_T78 (P ++ o :: R) (P.length : Int) = o := by
  show (P ++ o :: R).getD ((P.length : Int)).toNat _ = o
  rw [Int.toNat_natCast]
  simp
theorem set_mid (P R : List S78) (o x : S78) : (P ++ o :: R).set ((P.length : Int)).toNat x = P ++ x :: R := by
  rw [Int.toNat_natCast]
  simp
theorem markOpS_l0 : ∀ (R P : List S78) (a : Int), 0 ≤ a → a + opSz R ≤ 9223372036854775000 → (P.length + R.length : Int) ≤ 9223372036854775000 → Ev (fun k => laws_markOpS.l0 k (P ++ R) a (P.length : Int)) (a + opSz R, P ++ mkO a R) := by
  intro R
  induction R with
  | nil =>
    intro P a h0 h1 h2
    refine ev_succ ?_
    simp only [laws_markOpS.l0]
    refine ev_neg (by simp) (ev_some ?_)
    simp [opSz, mkO]
  | cons o r ih =>
    intro P a h0 h1 h2
    rw [opSz] at h1
    rw [List.length_cons] at h2
    refine ev_succ ?_
    simp only [laws_markOpS.l0]
    refine ev_pos (by rw [List.length_append, List.length_cons]; omega) (ev_pos (by omega) ?_)
    rw [rd_mid, w64 (x := a + 1) (by omega) (by omega)]
    refine ev_bind (markIntS_ev o.f1 (a + 1) (by omega) (by omega)) ?_
    dsimp only
    rw [w64 (x := a + 1 + (o.f1.length : Int) + 1) (by omega) (by omega), w64 (x := a + 1 + (o.f1.length : Int) + 1 + 1) (by omega) (by omega), w64 (x := a + 1 + (o.f1.length : Int) + 1 + 1 + 1) (by omega) (by omega), w64 (x := (P.length : Int) + 1) (by omega) (by omega), set_mid]
    have := ih (P ++ [⟨a, seqI (a + 1) o.f1.length, a + 1 + o.f1.length, a + 1 + o.f1.length + 1, a + 1 + o.f1.length + 2⟩]) (a + 4 + o.f1.length) (by omega) (by omega) (by rw [List.length_append, List.length_singleton]; omega)
    rw [List.length_append, List.length_singleton, List.append_assoc, List.append_assoc, List.singleton_append, List.singleton_append] at this
    have e1 : a + 4 + (o.f1.length : Int) = a + 1 + (o.f1.length : Int) + 1 + 1 + 1 := by omega
    have e2 : ((P.length + 1 : Nat) : Int) = (P.length : Int) + 1 := by omega
    have e3 : a + 1 + (o.f1.length : Int) + 1 + 1 = a + 1 + (o.f1.length : Int) + 2 := by omega
    rw [e2] at this
    rw [← e1, e3]
    refine ev_eq this ?_
    rw [mkO, opSz]
    congr 1
    omega
theorem markOpS_ev (l : List S78) (a : Int) (h0 : 0 ≤ a) (h1 : a + opSz l ≤ 9223372036854775000) : Ev (fun k => laws_markOpS.f k l a) (a + opSz l, mkO a l) := by
  simp only [laws_markOpS.f]
  have := markOpS_l0 l [] a h0 h1 (by have := opSz_length l; simp only [List.length_nil]; omega)
  simpa using this

/-! #### laws_heldIntS -/
theorem heldIntS_l0 (a : Int) (n : Nat) (h0 : 0 ≤ a) (hm : a + n ≤ 9223372036854775806) : ∀ (d i : Nat), i + d = n → Ev (fun k => laws_heldIntS.l0 k (seqI a n) (a + i) i) (a + n) := by
  intro d
  induction d with
  | zero =>
    intro i h
    refine ev_succ ?_
    simp only [laws_heldIntS.l0]
    refine ev_neg (by rw [seqI_length]; omega) (ev_some (by omega))
  | succ d ih =>
    intro i h
    refine ev_succ ?_
    simp only [laws_heldIntS.l0]
    refine ev_pos (by rw [seqI_length]; omega) (ev_pos (by omega) (ev_pos (seqI_rd a n i (by omega)) ?_))
    rw [w64 (by omega) (by omega), w64 (by omega) (by omega)]
    have e2 : a + (i : Int) + 1 = a + ((i + 1 : Nat) : Int) := by omega
    rw [e2]
    exact ih (i + 1) (by omega)

theorem heldIntS_ev (a : Int) (n : Nat) (h0 : 0 ≤ a) (hm : a + n ≤ 9223372036854775806) : Ev (fun k => laws_heldIntS.f k (seqI a n) a) (a + n) := by
  simp only [laws_heldIntS.f]
  have := heldIntS_l0 a n h0 hm n 0 (by omega)
  simpa using this

/-! #### laws_heldOpS -/
theorem heldOpS_l0 : ∀ (R P : List S78) (a : Int), 0 ≤ a → a + opSz R ≤ 9223372036854775000 → (P.length + R.length : Int) ≤ 9223372036854775000 → Ev (fun k => laws_heldOpS.l0 k (P ++ mkO a R) a (P.length : Int)) (a + opSz R) := by
  intro R
  induction R with
  | nil =>
    intro P a h0 h1 h2
    refine ev_succ ?_
    simp only [laws_heldOpS.l0]
    refine ev_neg (by simp [mkO]) (ev_some ?_)
    simp [opSz]
  | cons o r ih =>
    intro P a h0 h1 h2
    rw [opSz] at h1
    rw [List.length_cons] at h2
    refine ev_succ ?_
    simp only [laws_heldOpS.l0]
    rw [mkO]
    refine ev_pos (by rw [List.length_append, List.length_cons]; omega) (ev_pos (by omega) ?_)
    rw [rd_mid]
    dsimp only
    rw [w64 (x := a + 1) (by omega) (by omega)]
    refine ev_pos rfl (ev_bind (heldIntS_ev (a + 1) o.f1.length (by omega) (by omega)) (ev_neg (by omega) (ev_pos rfl ?_)))
    rw [w64 (x := a + 1 + (o.f1.length : Int) + 1) (by omega) (by omega), w64 (x := a + 1 + (o.f1.length : Int) + 1 + 1) (by omega) (by omega), w64 (x := a + 1 + (o.f1.length : Int) + 1 + 1 + 1) (by omega) (by omega), w64 (x := (P.length : Int) + 1) (by omega) (by omega)]
    refine ev_pos rfl (ev_pos (by omega) ?_)
    have := ih (P ++ [⟨a, seqI (a + 1) o.f1.length, a + 1 + o.f1.length, a + 1 + o.f1.length + 1, a + 1 + o.f1.length + 2⟩]) (a + 4 + o.f1.length) (by omega) (by omega) (by rw [List.length_append, List.length_singleton]; omega)
    rw [List.length_append, List.length_singleton, List.append_assoc, List.singleton_append] at this
    have e1 : a + 4 + (o.f1.length : Int) = a + 1 + (o.f1.length : Int) + 1 + 1 + 1 := by omega
    have e2 : ((P.length + 1 : Nat) : Int) = (P.length : Int) + 1 := by omega
    rw [e2] at this
    rw [← e1]
    refine ev_eq this ?_
    rw [opSz]
    omega
theorem heldOpS_ev (l : List S78) (a : Int) (h0 : 0 ≤ a) (h1 : a + opSz l ≤ 9223372036854775000) : Ev (fun k => laws_heldOpS.f k (mkO a l) a) (a + opSz l) := by
  simp only [laws_heldOpS.f]
  have := heldOpS_l0 l [] a h0 h1 (by have := opSz_length l; simp only [List.length_nil]; omega)
  simpa using this

end Go.Proofs.Ytdapeboajjidmaa.QFnExactDropIdle
