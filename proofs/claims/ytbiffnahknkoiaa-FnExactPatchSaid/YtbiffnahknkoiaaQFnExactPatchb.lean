/- What the printed functions of the law FnExactPatch come to, function by function, from some number of rounds on; each under the bounds that it names. -/
import Derived.Test.YtbiffnahknkoiaaQFnExactPatcha
namespace Go.Proofs.Ytbiffnahknkoiaa.QFnExactPatch
open Go.RowKit Go.Proofs.Ytbiffnahknkoiaa.PFnExactPatch Go.Proofs.YtbiffnahknkoiaaW.PrintWords Go.Proofs.YtbiffnahknkoiaaW.PrintLast Go.Proofs.YtbiffnahknkoiaaW.PrintMore Go.Proofs.Ytbiffnahknkoiaa.EvAid Go.Proofs.Ytbiffnahknkoiaa
set_option linter.unusedVariables false
set_option linter.unusedSimpArgs false

/-! #### impl_opCode -/
theorem opCode_l0 (l : List S45) (f t : Nat) (ht : treeOk l = true) (hft : f ≤ t) (htl : t ≤ l.length) : ∀ (d j : Nat) (a : Int), f + j + d = t → Ev (fun k => impl_opCode.l0 k l (f : Int) (t : Int) a ((l.take t).drop f) (((l.take t).drop f).length : Int) (j : Int)) (if (l.length : Int) = 24 then (6, 0, 0) else if deepF l d (f + j) a > 12 then (7, 0, 0) else (0, (f : Int), (t : Int))) := by
  have hlen : ((l.take t).drop f).length = t - f := by rw [List.length_drop, List.length_take]; omega
  have h24 := (treeOk_iff.1 ht).1
  intro d
  induction d with
  | zero =>
    intro j a h
    refine ev_succ ?_
    simp only [impl_opCode.l0]
    refine ev_neg (by omega) ?_
    refine ev_ite (fun c => by rw [if_pos c]; exact Ev.now _) (fun c => ?_)
    rw [if_neg c]
    show Ev _ (if a > 12 then _ else _)
    exact ev_ite (fun c => by rw [if_pos c]; exact Ev.now _) (fun c => by rw [if_neg c]; exact Ev.now _)
  | succ d ih =>
    intro j a h
    refine ev_succ ?_
    simp only [impl_opCode.l0]
    have dj := dp_range ht (j := f + j) (by omega)
    have ed : dpA ((l.take t).drop f) j = dpA l (f + j) := by unfold dpA; rw [at_drop, at_take _ _ _ (by omega)]
    refine ev_pos (by omega) (ev_pos (by omega) (ev_pos (by omega) ?_))
    rw [rd_f1, ed, w64 (x := dpA l (f + j) + 1) (by omega) (by omega), w64 (x := (j : Int) + 1) (by omega) (by omega)]
    exact ih (j + 1) _ (by omega)
theorem opCode_j1 (l : List S45) (i : Nat) (kind lab fr ct : Int) (p : List Int) (ht : treeOk l = true) (hi : i < l.length) (b : Bool) (hb : b = decide (kind = 2 ∧ (i : Int) = 0)) (hk : 1 ≤ kind ∧ kind ≤ 3) (hl : ¬ (kind ≠ 2 ∧ ¬ (0 ≤ lab ∧ lab ≤ 5))) : Ev (fun k => impl_opCode.j1 k l (i : Int) b kind p lab fr ct) (codeT l kind lab fr ct (i : Int)) := by
  have h24 := (treeOk_iff.1 ht).1
  have he := Tree.eo_le (D := dpA l) hi
  have di := dp_range ht hi
  have hkl := kidsI_length l (i : Int)
  have hkn : (kidsI l (i : Int)).length = (Tree.kids l.length (dpA l) i).length := by rw [kidsI_ok ht hi, List.length_map]
  unfold codeT
  rw [if_pos hk, if_neg (by omega), if_neg hl, Int.toNat_natCast]
  refine ev_succ ?_
  simp only [impl_opCode.j1]
  by_cases h1 : kind = 2 ∧ (i : Int) = 0
  · rw [if_pos h1]
    exact ev_pos (by rw [hb]; exact decide_eq_true h1) (Ev.now _)
  · rw [if_neg h1]
    refine ev_neg (by rw [hb]; simpa using h1) ?_
    by_cases h3 : kind = 3
    · rw [if_pos h3]
      refine ev_pos h3 (ev_bind (impl_KidsOf_ev l _ (by omega)) (ev_bindc (within_eq _ _ _) ?_))
      have bad : ¬ (0 ≤ fr ∧ fr ≤ ((Tree.kids l.length (dpA l) i).length : Int) ∧ 0 ≤ ct ∧ ct ≤ ((Tree.kids l.length (dpA l) i).length : Int) - fr) → Ev (fun k => impl_opCode.j2 k l (i : Int) (kidsI l (i : Int)) true kind p lab fr ct) (if 0 ≤ fr ∧ fr ≤ ((Tree.kids l.length (dpA l) i).length : Int) ∧ 0 ≤ ct ∧ ct ≤ ((Tree.kids l.length (dpA l) i).length : Int) - fr then tailT l i ((Tree.bounds l.length (dpA l) i).getD fr.toNat 0) ((Tree.bounds l.length (dpA l) i).getD (fr + ct).toNat 0) else (5, 0, 0)) := by
        intro c
        rw [if_neg c]
        refine ev_succ ?_
        simp only [impl_opCode.j2]
        exact ev_pos trivial (Ev.now _)
      by_cases h4 : 0 ≤ fr ∧ fr ≤ ((kidsI l (i : Int)).length : Int)
      · refine ev_pos (decide_eq_true h4) (ev_bindc (within_eq _ _ _) ?_)
        rw [w64 (by omega) (by omega)]
        by_cases h5 : 0 ≤ ct ∧ ct ≤ ((kidsI l (i : Int)).length : Int) - fr
        · have hall : 0 ≤ fr ∧ fr ≤ ((Tree.kids l.length (dpA l) i).length : Int) ∧ 0 ≤ ct ∧ ct ≤ ((Tree.kids l.length (dpA l) i).length : Int) - fr := by omega
          obtain ⟨f1, f2, f3, f4⟩ := bounds_facts hi hall
          rw [decide_eq_true h5, if_pos hall]
          refine ev_succ ?_
          simp only [impl_opCode.j2]
          have hbl := bounds_length l.length (dpA l) i
          refine ev_neg (by decide) (ev_bind (endOf_ev l i hi (by omega)) (ev_pos (by omega) (ev_bindc rfl ?_)))
          rw [bounds_int ht hi, List.length_map, w64 (x := fr + ct) (by omega) (by omega)]
          refine ev_pos (by omega) (ev_pos (by omega) (ev_pos (by omega) (ev_pos (by omega) ?_)))
          rw [rd_nat _ _ (by omega) (by omega), rd_nat _ _ (by omega) (by omega)]
          refine ev_pos (by omega) (ev_pos (by omega) (ev_pos (by omega) (ev_pos (by omega) (ev_pos (by omega) (ev_bindc rfl ?_)))))
          rw [rd_f1, w64 (x := dpA l i + 1) (by omega) (by omega)]
          simp only [Int.toNat_natCast]
          unfold tailT
          have := opCode_l0 l ((Tree.bounds l.length (dpA l) i).getD fr.toNat 0) ((Tree.bounds l.length (dpA l) i).getD (fr + ct).toNat 0) ht f2 (by omega) ((Tree.bounds l.length (dpA l) i).getD (fr + ct).toNat 0 - (Tree.bounds l.length (dpA l) i).getD fr.toNat 0) 0 (dpA l i + 1) (by omega)
          exact this
        · rw [decide_eq_false h5]
          exact bad (by omega)
      · exact ev_neg (by simpa using h4) (bad (by omega))
    · rw [if_neg h3]
      exact ev_neg h3 (Ev.now _)
theorem opCode_ev (l : List S45) (kind lab fr ct i : Int) (p : List Int) (hi : i < 0 ∨ ∃ n : Nat, i = (n : Int) ∧ n < l.length ∧ treeOk l = true) : Ev (fun k => impl_opCode.f k l kind p lab fr ct i) (codeT l kind lab fr ct i) := by
  simp only [impl_opCode.f]
  refine ev_bindc (within_eq _ _ _) ?_
  by_cases hk : 1 ≤ kind ∧ kind ≤ 3
  · refine ev_pos (decide_eq_true hk) ?_
    rcases hi with hi | ⟨n, rfl, hn, ht⟩
    · unfold codeT
      rw [if_pos hk, if_pos hi]
      exact ev_pos hi (Ev.now _)
    · refine ev_neg (by omega) ?_
      by_cases h2 : kind = 2
      · refine ev_pos h2 (ev_succ ?_)
        simp only [impl_opCode.j0]
        refine ev_neg (by decide) (ev_pos h2 (opCode_j1 l n kind lab fr ct p ht hn _ ?_ hk (by omega)))
        rw [Bool.eq_iff_iff]; simp [h2]
      · refine ev_neg h2 (ev_bindc (LabelOk_eq _) (ev_succ ?_))
        simp only [impl_opCode.j0]
        by_cases hl : 0 ≤ lab ∧ lab ≤ 5
        · refine ev_neg (by simp [hl]) (ev_neg h2 (opCode_j1 l n kind lab fr ct p ht hn _ ?_ hk (by omega)))
          simp [h2]
        · refine ev_pos (by rw [decide_eq_false hl]; rfl) ?_
          unfold codeT
          rw [if_pos hk, if_neg (by omega), if_pos ⟨h2, hl⟩]
          exact Ev.now _
  · refine ev_neg (by simpa using hk) ?_
    unfold codeT
    rw [if_neg hk]
    exact Ev.now _

/-! #### slices_Delete_Node -/
theorem delete_eq (l : List S45) (i j : Nat) (hij : i ≤ j) (hj : j ≤ l.length) : slices_Delete_Node.f l (i : Int) (j : Int) = some (l.take i ++ l.drop j) := by
  unfold slices_Delete_Node.f
  rw [if_pos (by omega)]
  simp only [Int.toNat_natCast]

/-! #### slices_Insert_Node -/
theorem insert_eq (l : List S45) (i : Nat) (v : List S45) (hi : i ≤ l.length) (hv : 0 < v.length) (hl : l.length + v.length < 8796093022208) : slices_Insert_Node.f l (i : Int) v = some (l.take i ++ v ++ l.drop i) := by
  unfold slices_Insert_Node.f
  rw [if_pos (by omega)]
  simp only [Int.toNat_natCast]

/-! #### impl_ApplyOp -/
theorem impl_ApplyOp_l0 (l : List S45) (i : Nat) (ht : treeOk l = true) (hi : i < l.length) : ∀ (d j : Nat), j + d = Tree.eo l.length (dpA l) i → i < j → Ev (fun k => impl_ApplyOp.l0 k l (midN (-1) (i + 1) l j) (i : Int) (j : Int)) (l.take i ++ ((l.take (Tree.eo l.length (dpA l) i)).drop (i + 1)).map (upN (-1)) ++ l.drop (Tree.eo l.length (dpA l) i), 0) := by
  have h24 := (treeOk_iff.1 ht).1
  have el := Tree.eo_le (D := dpA l) hi
  intro d
  induction d with
  | zero =>
    intro j h hj
    refine ev_succ ?_
    simp only [impl_ApplyOp.l0]
    have ew : wrap64 ((i : Int) + 1) = ((i + 1 : Nat) : Int) := by rw [w64 (by omega) (by omega)]; omega
    have hml := midN_length (-1) (i + 1) l j (by omega) (by omega)
    refine ev_bind (endOf_ev l i hi (by omega)) (ev_neg (by omega) ?_)
    rw [ew]
    refine ev_bindc (delete_eq _ i (i + 1) (by omega) (by omega)) (ev_some ?_)
    have e : j = Tree.eo l.length (dpA l) i := by omega
    rw [midN_drop _ _ _ _ (by omega), ← e]
    have e2 : (midN (-1) (i + 1) l j).take i = l.take i := by
      have := congrArg (List.take i) (midN_take (-1) (i + 1) l j (by omega))
      rw [List.take_take, List.take_take, Nat.min_eq_left (by omega)] at this
      exact this
    rw [e2, List.append_assoc]
  | succ d ih =>
    intro j h hj
    refine ev_succ ?_
    simp only [impl_ApplyOp.l0]
    have dj := dp_range ht (j := j) (by omega)
    have hml := midN_length (-1) (i + 1) l j (by omega) (by omega)
    refine ev_bind (endOf_ev l i hi (by omega)) (ev_pos (by omega) (ev_pos (by omega) (ev_pos (by omega) ?_)))
    rw [midN_rd _ _ _ _ (by omega) (by omega), Int.sub_eq_add_neg, upN_eq (t := l) (i := j) (b := -1) (by omega) (by omega), Int.toNat_natCast, midN_set _ _ _ _ (by omega) (by omega), w64 (x := (j : Int) + 1) (by omega) (by omega)]
    exact ih (j + 1) (by omega) (by omega)
theorem impl_ApplyOp_l1 (l : List S45) (i f t : Nat) (kind : Int) (p : List Int) (lab fr ct : Int) (ht : treeOk l = true) (hi : i < l.length) (hft : f ≤ t) (htl : t ≤ l.length) : ∀ (d j : Nat), j + d = t → f ≤ j → Ev (fun k => impl_ApplyOp.l1 k l (midN 1 f l j) (i : Int) (f : Int) (t : Int) (j : Int) kind p lab fr ct) (l.take f ++ [(⟨lab, dpA l i + 1⟩ : S45)] ++ ((l.take t).drop f).map (upN 1) ++ l.drop t, 0) := by
  have h24 := (treeOk_iff.1 ht).1
  have di := dp_range ht hi
  intro d
  induction d with
  | zero =>
    intro j h hj
    refine ev_succ ?_
    simp only [impl_ApplyOp.l1]
    have hml := midN_length 1 f l j (by omega) (by omega)
    have e : j = t := by omega
    subst e
    refine ev_neg (by omega) (ev_pos (by omega) (ev_pos (by omega) ?_))
    refine ev_bindc (insert_eq _ f _ (by omega) (by simp) (by simp only [List.length_singleton]; omega)) (ev_some ?_)
    rw [midN_take _ _ _ _ (by omega), midN_drop _ _ _ _ (by omega), rd_f1, w64 (x := dpA l i + 1) (by omega) (by omega)]
    simp only [List.append_assoc]
  | succ d ih =>
    intro j h hj
    refine ev_succ ?_
    simp only [impl_ApplyOp.l1]
    have dj := dp_range ht (j := j) (by omega)
    have hml := midN_length 1 f l j (by omega) (by omega)
    refine ev_pos (by omega) (ev_pos (by omega) (ev_pos (by omega) ?_))
    rw [midN_rd _ _ _ _ (by omega) (by omega), upN_eq (t := l) (i := j) (b := 1) (by omega) (by omega), Int.toNat_natCast, midN_set _ _ _ _ (by omega) (by omega), w64 (x := (j : Int) + 1) (by omega) (by omega)]
    exact ih (j + 1) (by omega) (by omega)
theorem impl_ApplyOp_ev (l : List S45) (kind : Int) (p : List Int) (lab fr ct : Int) (hp : (p.length : Int) ≤ 9223372036854775806) : Ev (fun k => impl_ApplyOp.f k l kind p lab fr ct) (applyT l kind p lab fr ct) := by
  simp only [impl_ApplyOp.f]
  refine ev_bind (impl_TreeOk_ev l) ?_
  unfold applyT
  by_cases ht : treeOk l = true
  · rw [if_pos ht]
    have h24 := (treeOk_iff.1 ht).1
    refine ev_pos ht (ev_bindc (clone_eq l (by omega)) (ev_bind (impl_NodeAt_ev l p hp) (ev_bind (opCode_ev l kind lab fr ct _ p (nodeI_cases l p)) ?_)))
    by_cases hc : (codeT l kind lab fr ct (nodeI l p)).1 = 0
    · rw [if_pos hc]
      refine ev_pos hc ?_
      obtain ⟨hk, hi0, hl, hr, h3', h3⟩ := codeT_ok hc
      obtain ⟨i, hi, hin, _, _⟩ := nodeI_nat hi0
      rw [hi] at hc hr h3' h3 ⊢
      have di := dp_range ht hin
      have el := Tree.eo_le (D := dpA l) hin
      have eg := @Tree.eo_gt l.length (dpA l) i
      by_cases k1 : kind = 1
      · refine ev_pos k1 (ev_pos (by omega) (ev_pos (by omega) (ev_some ?_)))
        unfold doneT
        rw [if_pos k1]
        rfl
      · refine ev_neg k1 ?_
        by_cases k2 : kind = 2
        · have ew : wrap64 ((i : Int) + 1) = ((i + 1 : Nat) : Int) := by rw [w64 (by omega) (by omega)]; omega
          refine ev_pos k2 ?_
          unfold doneT
          rw [if_neg k1, if_pos k2, ew, Int.toNat_natCast]
          have := impl_ApplyOp_l0 l i ht hin (Tree.eo l.length (dpA l) i - (i + 1)) (i + 1) (by omega) (by omega)
          rw [midN_self] at this
          exact this
        · refine ev_neg k2 ?_
          obtain ⟨hb, hcode, h24', _⟩ := h3 (by omega)
          rw [hcode]
          rw [Int.toNat_natCast] at hb ⊢
          obtain ⟨f1, f2, f3, f4⟩ := bounds_facts hin hb
          generalize (Tree.bounds l.length (dpA l) i).getD fr.toNat 0 = f at *
          generalize (Tree.bounds l.length (dpA l) i).getD (fr + ct).toNat 0 = t at *
          unfold doneT
          rw [if_neg k1, if_neg k2]
          simp only [Int.toNat_natCast]
          have := impl_ApplyOp_l1 l i f t kind p lab fr ct ht hin f2 (by omega) (t - f) f (by omega) (Nat.le_refl _)
          rw [midN_self] at this
          exact this
    · rw [if_neg hc]
      exact ev_neg hc (Ev.now _)
  · rw [if_neg ht]
    exact ev_neg ht (Ev.now _)

/-! #### impl_ApplyAll -/
theorem impl_ApplyAll_l0 (ops : List S100) (hb : OpsB ops) : ∀ (d j : Nat) (l : List S45), j + d = ops.length → Ev (fun k => impl_ApplyAll.l0 k ops l ops (ops.length : Int) (j : Int)) (allF l (j : Int) (ops.drop j)) := by
  have hl := hb.1
  intro d
  induction d with
  | zero =>
    intro j l h
    refine ev_succ ?_
    simp only [impl_ApplyAll.l0]
    rw [List.drop_eq_nil_of_le (by omega)]
    refine ev_neg (by omega) (ev_some ?_)
    have e : j = ops.length := by omega
    rw [allF, e]
  | succ d ih =>
    intro j l h
    refine ev_succ ?_
    simp only [impl_ApplyAll.l0]
    have hp := hb.at (j := j) (by omega)
    refine ev_pos (by omega) (ev_pos (by omega) (ev_pos (by omega) (ev_bind (impl_ApplyOp_ev l _ _ _ _ _ (by omega)) ?_)))
    rw [drop_op ops j (by omega), allF]
    by_cases hc : (appO l (rd_T100 ops (j : Int))).2 = 0
    · rw [if_pos hc]
      refine ev_pos hc ?_
      rw [w64 (x := (j : Int) + 1) (by omega) (by omega)]
      exact ih (j + 1) _ (by omega)
    · rw [if_neg hc]
      exact ev_neg hc (Ev.now _)
theorem impl_ApplyAll_ev (l : List S45) (ops : List S100) (hb : OpsB ops) (hm : l.length ≤ 1099511627776) : Ev (fun k => impl_ApplyAll.f k l ops) (allT l ops) := by
  simp only [impl_ApplyAll.f]
  refine ev_bind (impl_TreeOk_ev l) ?_
  unfold allT
  by_cases ht : treeOk l = true
  · rw [if_pos ht]
    exact ev_pos ht (ev_bindc (clone_eq l (by omega)) (impl_ApplyAll_l0 ops hb ops.length 0 l (by omega)))
  · rw [if_neg ht]
    exact ev_neg ht (Ev.now _)

/-! #### _bytes -/
open Go.Proofs.Ytbiffnahknkoiaa.Cut Go.Proofs.Ytbiffnahknkoiaa.VarN
theorem bt_get (s : ByteArray) (i : Nat) (h : i < s.data.toList.length) : bt s (i : Int) = (s.data.toList[i].toNat : Int) := by
  have h1 : (i : Int).toNat < s.size := by rw [Int.toNat_natCast, Lib.size_eq]; exact h
  unfold bt
  rw [dif_pos h1]
  rfl
theorem bt_at (s : ByteArray) (i : Nat) (h : i < s.data.toList.length) : bt s (i : Int) = (at' s.data.toList i : Int) := by rw [bt_get s i h, byte_get _ i h]
theorem ext_mk (s : ByteArray) (a b : Nat) : s.extract a b = mkB ((s.data.toList.drop a).take (b - a)) := by
  rw [← Lib.extract_data, mkB_of]
theorem ext_to (s : ByteArray) (a : Nat) : s.extract a s.size = mkB (s.data.toList.drop a) := by
  rw [← Lib.extract_to_end, mkB_of]
theorem list_eq {a b : ByteArray} : a.toList = b.toList ↔ a = b := by
  rw [Lib.toList_data, Lib.toList_data]
  exact ⟨fun h => ByteArray.ext (Array.toList_inj.mp h), fun h => by rw [h]⟩
theorem nums_mk (xs : List Int) (l : List UInt8) (h : xs.map (fun n => UInt8.ofNat n.toNat) = l) : strOfNums xs = mkB l := by subst h; rfl

/-! #### _var -/
open Go.Proofs.Ytbiffnahknkoiaa.Cut Go.Proofs.Ytbiffnahknkoiaa.VarN
theorem nums_app (a : List Int) (b : List UInt8) : (a ++ b.map (fun x => (x.toNat : Int))).map (fun n => UInt8.ofNat n.toNat) = a.map (fun n => UInt8.ofNat n.toNat) ++ b := by
  rw [List.map_append, List.map_map]
  congr 1
  refine (List.map_congr_left (g := id) (fun x _ => ?_)).trans (List.map_id _)
  simp
theorem num_byte (n m : Nat) (h : (n : Int) = (m : Int) % 256) (h2 : m < 256) : UInt8.ofNat (n : Int).toNat = UInt8.ofNat m := by
  have : n = m := by omega
  rw [this]
  rfl
theorem specVar_l0 : ∀ (f n : Nat), n < 128 ^ (f + 1) → n ≤ 562949953421311 → ∀ acc : List Int, acc.length + f ≤ 1000 → Ev (fun k => spec_Var.l0 k (n : Int) acc) (mkB (acc.map (fun n => UInt8.ofNat n.toNat) ++ encV n)) := by
  intro f
  induction f with
  | zero =>
    intro n h hn acc ha
    refine ev_succ ?_
    simp only [spec_Var.l0]
    have h' : n < 128 := by simpa using h
    rw [encV, if_pos h']
    refine ev_neg (by omega) (ev_pos (by omega) (ev_some (nums_mk _ _ ?_)))
    rw [List.map_append, List.map_cons, List.map_nil]
    have e : (n : Int) % 256 = (n : Int) := by omega
    rw [e, Int.toNat_natCast]
  | succ f ih =>
    intro n h hn acc ha
    refine ev_succ ?_
    simp only [spec_Var.l0]
    rw [encV]
    by_cases h' : n < 128
    · rw [if_pos h']
      refine ev_neg (by omega) (ev_pos (by omega) (ev_some (nums_mk _ _ ?_)))
      rw [List.map_append, List.map_cons, List.map_nil]
      have e : (n : Int) % 256 = (n : Int) := by omega
      rw [e, Int.toNat_natCast]
    · rw [if_neg h']
      have e1 : Int.tdiv (n : Int) 128 = ((n / 128 : Nat) : Int) := by rw [Int.tdiv_eq_ediv_of_nonneg (by omega)]; omega
      have e2 : Int.tmod (n : Int) 128 = ((n % 128 : Nat) : Int) := by rw [Int.tmod_eq_emod_of_nonneg (by omega)]; omega
      have e3 : (128 + ((n % 128 : Nat) : Int)) % 256 = ((128 + n % 128 : Nat) : Int) := by omega
      have h4 : n / 128 < 128 ^ (f + 1) := Nat.div_lt_of_lt_mul (by rw [Nat.mul_comm, ← Nat.pow_succ]; exact h)
      rw [e1, e2, w64 (x := ((n / 128 : Nat) : Int)) (by omega) (by omega), w64 (x := 128 + ((n % 128 : Nat) : Int)) (by omega) (by omega), e3]
      refine ev_pos (by omega) (ev_pos (by omega) (ev_eq (ih (n / 128) h4 (by omega) _ (by rw [List.length_append, List.length_singleton]; omega)) ?_))
      rw [List.map_append, List.map_cons, List.map_nil, List.append_assoc, Int.toNat_natCast]
      rfl
theorem implVar_l0 : ∀ (f n : Nat), n < 128 ^ (f + 1) → n ≤ 562949953421311 → ∀ acc : List Int, acc.length + f ≤ 1000 → Ev (fun k => impl_Var.l0 k (n : Int) acc) (mkB (acc.map (fun n => UInt8.ofNat n.toNat) ++ encV n)) := by
  intro f
  induction f with
  | zero =>
    intro n h hn acc ha
    refine ev_succ ?_
    simp only [impl_Var.l0]
    have h' : n < 128 := by simpa using h
    rw [encV, if_pos h']
    refine ev_neg (by omega) (ev_pos (by omega) (ev_some (nums_mk _ _ ?_)))
    rw [List.map_append, List.map_cons, List.map_nil]
    have e : (n : Int) % 256 = (n : Int) := by omega
    rw [e, Int.toNat_natCast]
  | succ f ih =>
    intro n h hn acc ha
    refine ev_succ ?_
    simp only [impl_Var.l0]
    rw [encV]
    by_cases h' : n < 128
    · rw [if_pos h']
      refine ev_neg (by omega) (ev_pos (by omega) (ev_some (nums_mk _ _ ?_)))
      rw [List.map_append, List.map_cons, List.map_nil]
      have e : (n : Int) % 256 = (n : Int) := by omega
      rw [e, Int.toNat_natCast]
    · rw [if_neg h']
      have e1 : (n : Int) / 128 = ((n / 128 : Nat) : Int) := by omega
      have e2 : Go.bits .and .i64 (n : Int) 127 = (n : Int) % 128 := and127_i64 _ (by omega) (by omega)
      have e4 : (n : Int) % 128 % 256 = (n : Int) % 128 := by omega
      have e5 : Go.bits .or .u8 ((n : Int) % 128) 128 = 128 + (n : Int) % 128 := or128_u8 _ (by omega) (by omega)
      have e3 : 128 + (n : Int) % 128 = ((128 + n % 128 : Nat) : Int) := by omega
      have h4 : n / 128 < 128 ^ (f + 1) := Nat.div_lt_of_lt_mul (by rw [Nat.mul_comm, ← Nat.pow_succ]; exact h)
      rw [e1, e2, e4, e5, e3]
      refine ev_pos (by omega) (ev_pos (by omega) (ev_eq (ih (n / 128) h4 (by omega) _ (by rw [List.length_append, List.length_singleton]; omega)) ?_))
      rw [List.map_append, List.map_cons, List.map_nil, List.append_assoc, Int.toNat_natCast]
      rfl
theorem pow7 : (128 : Nat) ^ 7 = 562949953421312 := by decide
theorem specVar_ev (n : Nat) (h : n ≤ 562949953421311) : Ev (fun k => spec_Var.f k (n : Int)) (mkB (encV n)) := by
  simp only [spec_Var.f, spec_l1In.f]
  rw [if_pos (show (n : Int) ≥ 0 by omega)]
  refine ev_bindc rfl (ev_pos (decide_eq_true (by omega)) ?_)
  have := specVar_l0 6 n (by rw [pow7]; omega) h [] (by simp)
  simpa using this
theorem implVar_ev (n : Nat) (h : n ≤ 562949953421311) : Ev (fun k => impl_Var.f k (n : Int)) (mkB (encV n)) := by
  simp only [impl_Var.f, impl_within.f]
  rw [if_pos (show (0 : Int) ≤ n by omega)]
  refine ev_bindc rfl (ev_pos (decide_eq_true (by omega)) ?_)
  have := implVar_l0 6 n (by rw [pow7]; omega) h [] (by simp)
  simpa using this
/-- the value of so many bytes, from the last one back -/
theorem specRead_l1 (s : ByteArray) (k0 : Nat) (hk0 : 1 ≤ k0 ∧ k0 ≤ 7) (hks : k0 ≤ s.data.toList.length) (hs : s.data.toList.length ≤ 4294967296) (r : Int × Int)
    (hend : Ev (fun k => ((spec_Var.f k ((decV (s.data.toList.take k0) : Nat) : Int)).bind fun t112 => (if 0 ≤ (k0 : Int) then (if (k0 : Int) ≤ (s.size : Int) then (if t112.toList = (s.extract 0 (k0 : Int).toNat).toList then (some (((decV (s.data.toList.take k0) : Nat) : Int), (k0 : Int))) else (spec_ReadVar.l0 k s (wrap64 ((k0 : Int) + 1)))) else (none)) else (none)))) r) :
    ∀ (i : Nat), i ≤ k0 → Ev (fun k => spec_ReadVar.l1 k s (k0 : Int) ((decV ((s.data.toList.take k0).drop i) : Nat) : Int) ((i : Int) - 1)) r := by
  have hz : s.size = s.data.toList.length := Lib.size_eq s
  have hp7 := pow7
  intro i
  induction i with
  | zero =>
    intro _
    refine ev_succ ?_
    simp only [spec_ReadVar.l1]
    refine ev_neg (by omega) ?_
    rw [List.drop_zero]
    exact hend
  | succ i ih =>
    intro hi
    refine ev_succ ?_
    simp only [spec_ReadVar.l1]
    have e0 : ((i + 1 : Nat) : Int) - 1 = (i : Int) := by omega
    rw [e0, bt_at s i (by omega)]
    have hlt := byte_lt s.data.toList i
    have hd := decV_drop (s.data.toList.take k0) i (by rw [List.length_take]; omega)
    rw [byte_take _ _ _ (by omega)] at hd
    have hb : decV ((s.data.toList.take k0).drop i) < 128 ^ 7 := Nat.lt_of_lt_of_le (decV_lt _) (Nat.pow_le_pow_right (by decide) (by rw [List.length_drop, List.length_take]; omega))
    generalize decV ((s.data.toList.take k0).drop (i + 1)) = d at *
    generalize at' s.data.toList i = b at *
    have e1 : Int.tmod (b : Int) 128 = ((b % 128 : Nat) : Int) := by rw [Int.tmod_eq_emod_of_nonneg (by omega)]; omega
    rw [w64 (x := (b : Int)) (by omega) (by omega), e1, w64 (x := (d : Int) * 128) (by omega) (by omega), w64 (x := (i : Int) - 1) (by omega) (by omega), w64 (x := (d : Int) * 128 + ((b % 128 : Nat) : Int)) (by omega) (by omega)]
    have e2 : (d : Int) * 128 + ((b % 128 : Nat) : Int) = ((decV ((s.data.toList.take k0).drop i) : Nat) : Int) := by omega
    rw [e2]
    exact ev_pos (by omega) (ev_pos (by omega) (ev_pos (by omega) (ih (by omega))))
/-- one length tried: it is the number's, or the next one is -/
theorem specRead_try (s : ByteArray) (hs : s.data.toList.length ≤ 4294967296) (k0 : Nat) (hk0 : 1 ≤ k0 ∧ k0 ≤ 7) (hks : k0 ≤ s.data.toList.length) (r : Int × Int)
    (h1 : gV (s.data.toList.take k0) → r = (((decV (s.data.toList.take k0) : Nat) : Int), (k0 : Int)))
    (h2 : ¬ gV (s.data.toList.take k0) → Ev (fun k => spec_ReadVar.l0 k s ((k0 : Int) + 1)) r) : Ev (fun k => spec_ReadVar.l0 k s (k0 : Int)) r := by
  have hz : s.size = s.data.toList.length := Lib.size_eq s
  refine ev_succ ?_
  simp only [spec_ReadVar.l0]
  refine ev_pos (by omega) ?_
  rw [decide_eq_true (show (k0 : Int) ≤ (s.size : Int) by omega)]
  refine ev_succ ?_
  simp only [spec_ReadVar.j1]
  refine ev_pos (by first | trivial | rfl) ?_
  rw [w64 (x := (k0 : Int) - 1) (by omega) (by omega)]
  have hb : decV (s.data.toList.take k0) < 128 ^ 7 := Nat.lt_of_lt_of_le (decV_lt _) (Nat.pow_le_pow_right (by decide) (by rw [List.length_take]; omega))
  have hp7 := pow7
  have := specRead_l1 s k0 hk0 hks hs r ?_ k0 (Nat.le_refl _)
  · rw [List.drop_eq_nil_of_le (by rw [List.length_take]; omega)] at this
    exact this
  · refine ev_bind (specVar_ev _ (by omega)) (ev_pos (by omega) (ev_pos (by omega) ?_))
    rw [w64 (x := (k0 : Int) + 1) (by omega) (by omega), Int.toNat_natCast]
    have e : (mkB (encV (decV (s.data.toList.take k0)))).toList = (s.extract 0 k0).toList ↔ gV (s.data.toList.take k0) := by
      rw [list_eq, ext_mk, List.drop_zero, Nat.sub_zero, ← encV_iff]
      exact ⟨fun h => mkB_inj h, fun h => by rw [h]⟩
    by_cases hg : gV (s.data.toList.take k0)
    · rw [h1 hg]
      exact ev_pos (e.2 hg) (Ev.now _)
    · exact ev_neg (fun h => hg (e.1 h)) (h2 hg)
theorem specRead_out (s : ByteArray) (k0 : Nat) (h : 7 < k0 ∨ s.data.toList.length < k0) (hk : k0 ≤ 8) : Ev (fun k => spec_ReadVar.l0 k s (k0 : Int)) (0, 0) := by
  have hz : s.size = s.data.toList.length := Lib.size_eq s
  have hj : Ev (fun k => spec_ReadVar.j1 k s (k0 : Int) false) (0, 0) := by
    refine ev_succ ?_
    simp only [spec_ReadVar.j1]
    exact ev_neg (by decide) (Ev.now _)
  refine ev_succ ?_
  simp only [spec_ReadVar.l0]
  by_cases h7 : (k0 : Int) ≤ 7
  · refine ev_pos h7 ?_
    rw [decide_eq_false (by omega)]
    exact hj
  · exact ev_neg h7 hj
/-- the program's own walk over the bytes -/
theorem implRead_step (s : ByteArray) (i : Nat) (hi : i < 7) (hl : i < s.data.toList.length) (hs : s.data.toList.length ≤ 4294967296) (r : Int × Int)
    (h1 : at' s.data.toList i < 128 → (i = 0 ∨ at' s.data.toList i ≠ 0) → r = (((decV (s.data.toList.take (i + 1)) : Nat) : Int), ((i + 1 : Nat) : Int)))
    (h2 : at' s.data.toList i < 128 → ¬ (i = 0 ∨ at' s.data.toList i ≠ 0) → r = (0, 0))
    (h3 : ¬ at' s.data.toList i < 128 → Ev (fun k => impl_ReadVar.l0 k s ((decV (s.data.toList.take (i + 1)) : Nat) : Int) (mn (s.size : Int) 7) ((i + 1 : Nat) : Int)) r) :
    Ev (fun k => impl_ReadVar.l0 k s ((decV (s.data.toList.take i) : Nat) : Int) (mn (s.size : Int) 7) (i : Int)) r := by
  have hz : s.size = s.data.toList.length := Lib.size_eq s
  have hm : (i : Int) < mn (s.size : Int) 7 := by unfold mn; split <;> omega
  have hlt := byte_lt s.data.toList i
  have hst := decV_step s.data.toList i hl
  have hx : decV (s.data.toList.take i) < 128 ^ i := by
    have := decV_lt (s.data.toList.take i)
    rw [List.length_take, Nat.min_eq_left (by omega)] at this
    exact this
  have hb7 : decV (s.data.toList.take (i + 1)) < 128 ^ 7 := Nat.lt_of_lt_of_le (decV_lt _) (Nat.pow_le_pow_right (by decide) (by rw [List.length_take]; omega))
  have hp7 := pow7
  have hor := or_i64 (decV (s.data.toList.take i)) (at' s.data.toList i % 128) i (by omega) hx (Nat.mod_lt _ (by decide))
  rw [← hst] at hor
  refine ev_succ ?_
  simp only [impl_ReadVar.l0]
  rw [bt_at s i hl, w64 (x := (i : Int) + 1) (by omega) (by omega), w64 (x := 7 * (i : Int)) (by omega) (by omega)]
  have e1 : Go.bits .and .u8 ((at' s.data.toList i : Nat) : Int) 127 = ((at' s.data.toList i % 128 : Nat) : Int) := by rw [and127_u8 _ (by omega) (by omega)]; omega
  have e2 : shl .i64 (wrap64 ((at' s.data.toList i % 128 : Nat) : Int)) (7 * (i : Int)) = (((at' s.data.toList i % 128) * 128 ^ i : Nat) : Int) := by
    rw [w64 (x := ((at' s.data.toList i % 128 : Nat) : Int)) (by omega) (by omega)]
    unfold shl
    have e3 : min (7 * (i : Int)).toNat IntKind.i64.bits = 7 * i := by
      have h6 : IntKind.i64.bits = 64 := rfl
      rw [h6]; omega
    have e4 : (2 : Int) ^ (7 * i) = ((128 ^ i : Nat) : Int) := by
      rw [Int.natCast_pow, Int.pow_mul]
      rfl
    rw [e3, e4]
    have hm2 : (at' s.data.toList i % 128) * 128 ^ i ≤ 127 * 128 ^ i := Nat.mul_le_mul_right _ (by omega)
    have hp6 : 128 ^ i ≤ 128 ^ 6 := Nat.pow_le_pow_right (by decide) (by omega)
    have hc : (128 : Nat) ^ 6 = 4398046511104 := by decide
    have e5 : ((at' s.data.toList i % 128 : Nat) : Int) * ((128 ^ i : Nat) : Int) = (((at' s.data.toList i % 128) * 128 ^ i : Nat) : Int) := by push_cast; rfl
    rw [e5]
    exact wraps_i64 _ (by omega) (by omega)
  rw [e1, e2, hor]
  refine ev_pos hm (ev_pos (by omega) (ev_pos (by omega) (ev_pos (by omega) ?_)))
  have e6 : (i : Int) + 1 = ((i + 1 : Nat) : Int) := by omega
  rw [e6]
  by_cases c : at' s.data.toList i < 128
  · refine ev_pos (by omega) ?_
    by_cases c0 : i = 0
    · rw [h1 c (.inl c0)]
      exact ev_neg (by omega) (ev_neg (by omega) (Ev.now _))
    · refine ev_pos (by omega) ?_
      by_cases cz : at' s.data.toList i = 0
      · rw [h2 c (fun h => by rcases h with h | h; exact c0 h; exact h cz)]
        exact ev_pos (by omega) (Ev.now _)
      · rw [h1 c (.inr cz)]
        exact ev_neg (by omega) (ev_neg (by omega) (Ev.now _))
  · exact ev_neg (by omega) (h3 c)
theorem implRead_out (s : ByteArray) (i : Nat) (x : Int) (h : i = 7 ∨ i = s.data.toList.length) (h2 : i ≤ 7) (h3 : i ≤ s.data.toList.length) : Ev (fun k => impl_ReadVar.l0 k s x (mn (s.size : Int) 7) (i : Int)) (0, 0) := by
  have hz : s.size = s.data.toList.length := Lib.size_eq s
  have hm : ¬ (i : Int) < mn (s.size : Int) 7 := by unfold mn; split <;> omega
  refine ev_succ ?_
  simp only [impl_ReadVar.l0]
  exact ev_neg hm (Ev.now _)
theorem ReadVar_both (s : ByteArray) (hs : s.size ≤ 4294967296) : ∃ n k : Nat, (k = 0 ∧ n = 0 ∨ 1 ≤ k ∧ k ≤ 7 ∧ k ≤ s.size ∧ n ≤ 562949953421311) ∧ Ev (fun t => spec_ReadVar.f t s) ((n : Int), (k : Int)) ∧ Ev (fun t => impl_ReadVar.f t s) ((n : Int), (k : Int)) := by
  have hz : s.size = s.data.toList.length := Lib.size_eq s
  rw [hz] at hs
  have hp7 := pow7
  simp only [spec_ReadVar.f, impl_ReadVar.f]
  by_cases h : ∃ k, 1 ≤ k ∧ k ≤ 7 ∧ k ≤ s.data.toList.length ∧ gV (s.data.toList.take k)
  · obtain ⟨k, h1, h7, hl, hg⟩ := h
    have hb : decV (s.data.toList.take k) < 128 ^ 7 := Nat.lt_of_lt_of_le (decV_lt _) (Nat.pow_le_pow_right (by decide) (by rw [List.length_take]; omega))
    have hg' := (gV_take _ k hl).1 hg
    refine ⟨decV (s.data.toList.take k), k, .inr ⟨h1, h7, by omega, by omega⟩, ?_, ?_⟩
    · have key : ∀ d j : Nat, j + d = k → 1 ≤ j → Ev (fun t => spec_ReadVar.l0 t s (j : Int)) (((decV (s.data.toList.take k) : Nat) : Int), (k : Int)) := by
        intro d
        induction d with
        | zero =>
          intro j hj _
          obtain rfl : j = k := by omega
          exact specRead_try s hs j ⟨by omega, by omega⟩ (by omega) _ (fun _ => rfl) (fun hn => absurd hg hn)
        | succ d ih =>
          intro j hj h0
          refine specRead_try s hs j ⟨by omega, by omega⟩ (by omega) _ (fun hj2 => ?_) (fun _ => ?_)
          · have := gV_one _ j k (by omega) hl hj2 hg
            omega
          · have := ih (j + 1) (by omega) (by omega)
            exact this
      exact key (k - 1) 1 (by omega) (Nat.le_refl _)
    · have key : ∀ d i : Nat, i + d + 1 = k → Ev (fun t => impl_ReadVar.l0 t s ((decV (s.data.toList.take i) : Nat) : Int) (mn (s.size : Int) 7) (i : Int)) (((decV (s.data.toList.take k) : Nat) : Int), (k : Int)) := by
        intro d
        induction d with
        | zero =>
          intro i hi
          obtain rfl : k = i + 1 := by omega
          rw [Nat.add_sub_cancel] at hg'
          refine implRead_step s i (by omega) (by omega) hs _ (fun _ _ => rfl) (fun _ hn => absurd ?_ hn) (fun hn => absurd hg'.2.2.1 hn)
          rcases hg'.2.2.2 with e | e
          · exact .inl (by omega)
          · exact .inr e
        | succ d ih =>
          intro i hi
          have := hg'.2.1 i (by omega)
          exact implRead_step s i (by omega) (by omega) hs _ (fun c _ => by omega) (fun c _ => by omega) (fun _ => ih (i + 1) (by omega))
      have := key (k - 1) 0 (by omega)
      simpa [decV] using this
  · refine ⟨0, 0, .inl ⟨rfl, rfl⟩, ?_, ?_⟩
    · have key : ∀ d j : Nat, j + d = 8 → 1 ≤ j → Ev (fun t => spec_ReadVar.l0 t s (j : Int)) ((0 : Int), (0 : Int)) := by
        intro d
        induction d with
        | zero => intro j hj _; exact specRead_out s j (.inl (by omega)) (by omega)
        | succ d ih =>
          intro j hj h0
          by_cases hl : j ≤ s.data.toList.length
          · exact specRead_try s hs j ⟨h0, by omega⟩ hl _ (fun hg => absurd ⟨j, h0, by omega, hl, hg⟩ h) (fun _ => ih (j + 1) (by omega) (by omega))
          · exact specRead_out s j (.inr (by omega)) (by omega)
      exact key 7 1 rfl (Nat.le_refl _)
    · have key : ∀ d i : Nat, i + d = 7 → i ≤ s.data.toList.length → (∀ j, j < i → 128 ≤ at' s.data.toList j) → Ev (fun t => impl_ReadVar.l0 t s ((decV (s.data.toList.take i) : Nat) : Int) (mn (s.size : Int) 7) (i : Int)) ((0 : Int), (0 : Int)) := by
        intro d
        induction d with
        | zero => intro i hi hl _; exact implRead_out s i _ (.inl (by omega)) (by omega) hl
        | succ d ih =>
          intro i hi hl hall
          by_cases he : i = s.data.toList.length
          · exact implRead_out s i _ (.inr he) (by omega) hl
          · refine implRead_step s i (by omega) (by omega) hs _ (fun c hc => absurd ⟨i + 1, by omega, by omega, by omega, (gV_take _ (i + 1) (by omega)).2 ⟨by omega, fun j hj => hall j (by omega), by rw [Nat.add_sub_cancel]; exact c, ?_⟩⟩ h) (fun _ _ => rfl) (fun c => ih (i + 1) (by omega) (by omega) (fun j hj => ?_))
            · rw [Nat.add_sub_cancel]
              rcases hc with e | e
              · exact .inl (by omega)
              · exact .inr e
            · rcases Nat.lt_or_ge j i with h' | h'
              · exact hall j h'
              · obtain rfl : j = i := by omega
                omega
      have := key 7 0 rfl (Nat.zero_le _) (fun j hj => by omega)
      simpa [decV] using this

/-! #### _getTree -/
open Go.Proofs.Ytbiffnahknkoiaa.Cut Go.Proofs.Ytbiffnahknkoiaa.VarN
theorem ReadVar_all (s : ByteArray) : ∃ p : Nat × Nat, s.size ≤ 4294967296 → (p.2 = 0 ∧ p.1 = 0 ∨ 1 ≤ p.2 ∧ p.2 ≤ 7 ∧ p.2 ≤ s.size ∧ p.1 ≤ 562949953421311) ∧ Ev (fun t => spec_ReadVar.f t s) ((p.1 : Int), (p.2 : Int)) ∧ Ev (fun t => impl_ReadVar.f t s) ((p.1 : Int), (p.2 : Int)) := by
  by_cases h : s.size ≤ 4294967296
  · obtain ⟨n, k, h1, h2, h3⟩ := ReadVar_both s h
    exact ⟨(n, k), fun _ => ⟨h1, h2, h3⟩⟩
  · exact ⟨(0, 0), fun h' => absurd h' h⟩
/-- the number at a text's begin, and how many bytes it takes; none where there is none -/
noncomputable def rv (s : ByteArray) : Nat × Nat := Classical.choose (ReadVar_all s)
theorem rv_ok (s : ByteArray) (h : s.size ≤ 4294967296) : ((rv s).2 = 0 ∧ (rv s).1 = 0 ∨ 1 ≤ (rv s).2 ∧ (rv s).2 ≤ 7 ∧ (rv s).2 ≤ s.size ∧ (rv s).1 ≤ 562949953421311) ∧ Ev (fun t => spec_ReadVar.f t s) (((rv s).1 : Int), ((rv s).2 : Int)) ∧ Ev (fun t => impl_ReadVar.f t s) (((rv s).1 : Int), ((rv s).2 : Int)) := Classical.choose_spec (ReadVar_all s) h
/-- the rest of a text, from there on -/
def tl (s : ByteArray) (a : Nat) : ByteArray := s.extract a s.size
theorem tl_zero (s : ByteArray) : tl s 0 = s := by unfold tl; rw [ext_to, List.drop_zero, mkB_of]
theorem tl_size (s : ByteArray) (a : Nat) : (tl s a).size = s.size - a := by unfold tl; simp
theorem tl_next (s : ByteArray) (a k : Nat) : (tl s a).extract k (tl s a).size = tl s (a + k) := by
  rw [ext_to]
  unfold tl
  rw [ext_to, ext_to, mkB_list, List.drop_drop]
theorem tl_next' (s : ByteArray) (a k : Nat) : (tl s a).extract ((k : Nat) : Int).toNat (tl s a).size = tl s (a + k) := by rw [Int.toNat_natCast]; exact tl_next s a k
/-- the number at a place of the text -/
theorem rvt (s : ByteArray) (hs : s.size ≤ 1048576) (a : Nat) (ha : a ≤ s.size) : ((rv (tl s a)).2 = 0 ∧ (rv (tl s a)).1 = 0 ∨ 1 ≤ (rv (tl s a)).2 ∧ a + (rv (tl s a)).2 ≤ s.size ∧ (rv (tl s a)).1 ≤ 562949953421311) ∧ Ev (fun t => spec_ReadVar.f t (tl s a)) (((rv (tl s a)).1 : Int), ((rv (tl s a)).2 : Int)) ∧ Ev (fun t => impl_ReadVar.f t (tl s a)) (((rv (tl s a)).1 : Int), ((rv (tl s a)).2 : Int)) := by
  have hz := tl_size s a
  obtain ⟨h1, h2, h3⟩ := rv_ok (tl s a) (by omega)
  exact ⟨h1.imp id (fun h => ⟨h.1, by omega, h.2.2.2⟩), h2, h3⟩
theorem l4Num_ev (s : ByteArray) (hs : s.size ≤ 1048576) (a : Nat) (ha : a ≤ s.size) : Ev (fun k => spec_l4Num.f k s (a : Int)) (if (rv (tl s a)).2 = 0 then (0, -1) else (((rv (tl s a)).1 : Int), ((a + (rv (tl s a)).2 : Nat) : Int))) := by
  obtain ⟨h1, h2, _⟩ := rvt s hs a ha
  simp only [spec_l4Num.f]
  refine ev_pos (by omega) (ev_pos (by omega) (ev_bind (a := (((rv (tl s a)).1 : Int), ((rv (tl s a)).2 : Int))) (by rw [Int.toNat_natCast]; exact h2) ?_))
  by_cases h : (rv (tl s a)).2 = 0
  · rw [if_pos h]
    exact ev_pos (by dsimp only; omega) (Ev.now _)
  · rw [if_neg h]
    refine ev_neg (by dsimp only; omega) ?_
    dsimp only
    rw [w64 (x := (a : Int) + ((rv (tl s a)).2 : Int)) (by omega) (by omega)]
    exact ev_some (by push_cast; rfl)
theorem rd_last (x : List S45) (p : S45) : rd_T45 (x ++ [p]) (x.length : Int) = p := by
  show (x ++ [p]).getD (x.length : Int).toNat _ = p
  rw [Int.toNat_natCast]
  simp
theorem rd_ahead (x : List S45) (p : S45) (j : Nat) (h : j < x.length) : rd_T45 (x ++ [p]) (j : Int) = rd_T45 x (j : Int) := by
  show (x ++ [p]).getD (j : Int).toNat _ = x.getD (j : Int).toNat _
  rw [Int.toNat_natCast, List.getD_eq_getElem?_getD, List.getD_eq_getElem?_getD, List.getElem?_append_left h]
theorem specLabel (n : Nat) : spec_LabelOk.f (n : Int) = some (decide (n ≤ 5)) := by
  unfold spec_LabelOk.f spec_l1In.f
  rw [if_pos (by omega), Option.bind_some]
  congr 1
  exact decide_eq_decide.2 (by omega)
theorem implLabel (n : Nat) : impl_LabelOk.f (n : Int) = some (decide (n ≤ 5)) := by
  unfold impl_LabelOk.f impl_within.f
  rw [if_pos (by omega), Option.bind_some]
  congr 1
  exact decide_eq_decide.2 (by omega)
/-- a node read behind others, by both -/
theorem node_step (s : ByteArray) (hs : s.size ≤ 1048576) (n : Int) (x : List S45) (a : Nat) (ha : a ≤ s.size) (hx : (x.length : Int) < n) (hn : n ≤ 24) (hd : ∀ j, j < x.length → 0 ≤ dpA x j ∧ dpA x j ≤ 12) :
    (∃ c : Int, c ≠ 0 ∧ (∃ y r, Ev (fun k => impl_getNode.f k x (tl s a)) (y, r, c)) ∧ Ev (fun k => spec_GetTree.l0 k s x n (a : Int) (x.length : Int)) ([], c)) ∨
    (∃ (p : S45) (b : Nat), b ≤ s.size ∧ (0 ≤ p.f1 ∧ p.f1 ≤ 12) ∧ Ev (fun k => impl_getNode.f k x (tl s a)) (x ++ [p], tl s b, 0) ∧
      ∀ Q, Ev (fun k => spec_GetTree.l0 k s (x ++ [p]) n (b : Int) ((x.length + 1 : Nat) : Int)) Q → Ev (fun k => spec_GetTree.l0 k s x n (a : Int) (x.length : Int)) Q) := by
  obtain ⟨r1, _, i1⟩ := rvt s hs a ha
  have l1 := l4Num_ev s hs a ha
  by_cases h1 : (rv (tl s a)).2 = 0
  · rw [if_pos h1] at l1
    refine .inl ⟨1, by decide, ⟨x, tl s a, by simp only [impl_getNode.f]; exact ev_bind i1 (ev_pos (by dsimp only; omega) (Ev.now _))⟩, ev_succ ?_⟩
    simp only [spec_GetTree.l0]
    exact ev_pos hx (ev_bind l1 (ev_pos (by decide) (Ev.now _)))
  rw [if_neg h1] at l1
  have r1' : 1 ≤ (rv (tl s a)).2 ∧ a + (rv (tl s a)).2 ≤ s.size ∧ (rv (tl s a)).1 ≤ 562949953421311 := by rcases r1 with r | r; omega; exact r
  have e1 := tl_next' s a (rv (tl s a)).2
  generalize (rv (tl s a)).2 = k1 at *
  generalize (rv (tl s a)).1 = lab at *
  clear r1 h1
  have hq : PLift ((k1 : Int) ≤ ((tl s a).size : Int)) := ⟨by rw [tl_size s a]; omega⟩
  by_cases h2 : lab ≤ 5
  · obtain ⟨r2, _, i2⟩ := rvt s hs (a + k1) r1'.2.1
    have l2 := l4Num_ev s hs (a + k1) r1'.2.1
    have lab1 : spec_LabelOk.f (lab : Int) = some true := by rw [specLabel, decide_eq_true h2]
    have lab2 : impl_LabelOk.f (lab : Int) = some true := by rw [implLabel, decide_eq_true h2]
    by_cases h3 : (rv (tl s (a + k1))).2 = 0
    · rw [if_pos h3] at l2
      refine .inl ⟨1, by decide, ⟨x ++ [⟨(lab : Int), ((rv (tl s (a + k1))).1 : Int)⟩], tl s (a + k1), ?_⟩, ev_succ ?_⟩
      · simp only [impl_getNode.f]
        refine ev_bind i1 (ev_neg (by dsimp only; omega) (ev_bindc lab2 (ev_pos rfl (ev_pos (by dsimp only; omega) (ev_pos hq.down ?_)))))
        dsimp only
        rw [e1]
        exact ev_bind i2 (ev_pos (by omega) (ev_bindc rfl (ev_pos (by dsimp only; omega) (Ev.now _))))
      · simp only [spec_GetTree.l0]
        exact ev_pos hx (ev_bind l1 (ev_neg (by dsimp only; omega) (ev_bindc lab1 (ev_pos rfl (ev_bind l2 (ev_pos (by decide) (Ev.now _)))))))
    rw [if_neg h3] at l2
    have r2' : 1 ≤ (rv (tl s (a + k1))).2 ∧ a + k1 + (rv (tl s (a + k1))).2 ≤ s.size ∧ (rv (tl s (a + k1))).1 ≤ 562949953421311 := by rcases r2 with r | r; omega; exact r
    have e2 := tl_next' s (a + k1) (rv (tl s (a + k1))).2
    generalize (rv (tl s (a + k1))).2 = k2 at *
    generalize (rv (tl s (a + k1))).1 = dep at *
    clear r2
    have hsz : PLift ((k2 : Int) ≤ ((tl s (a + k1)).size : Int)) := ⟨by rw [tl_size s (a + k1)]; omega⟩
    clear h3
    -- what both do up to the depth's tests
    have hI : ∀ Q, Ev (fun k => if (dep : Int) > 12 then some (x ++ [(⟨(lab : Int), (dep : Int)⟩ : S45)], tl s (a + k1), 4) else ((impl_depthOk.f (x ++ [(⟨(lab : Int), (dep : Int)⟩ : S45)]) (x.length : Int)).bind fun t374 => (if t374 = true then some (x ++ [(⟨(lab : Int), (dep : Int)⟩ : S45)], tl s (a + k1 + k2), 0) else some (x ++ [(⟨(lab : Int), (dep : Int)⟩ : S45)], tl s (a + k1), 5)))) Q →
        Ev (fun k => impl_getNode.f k x (tl s a)) Q := by
      intro Q hQ
      simp only [impl_getNode.f]
      refine ev_bind i1 (ev_neg (by dsimp only; omega) (ev_bindc lab2 (ev_pos rfl (ev_pos (by dsimp only; omega) (ev_pos hq.down ?_)))))
      dsimp only
      rw [e1]
      refine ev_bind i2 (ev_pos (by omega) (ev_bindc rfl (ev_neg (by dsimp only; omega) ?_)))
      dsimp only
      have el : wrap64 (((x ++ [(⟨(lab : Int), (dep : Int)⟩ : S45)]).length : Int) - 1) = (x.length : Int) := by
        rw [List.length_append, List.length_singleton, w64 (by omega) (by omega)]; omega
      rw [el, e2]
      have hk0 : (0 : Int) ≤ (k2 : Int) := by omega
      simp only [if_pos hsz.down, if_pos hk0]
      exact hQ
    have hS : ∀ Q, Ev (fun k => if (dep : Int) > 12 then (some ((([] : List S45)), 4)) else (if (((dep : Int) == 0) != ((x.length : Int) == 0)) = true then (some ((([] : List S45)), 5)) else (if (x.length : Int) > 0 then (if 0 ≤ (wrap64 ((x.length : Int) - 1)) then (if (wrap64 ((x.length : Int) - 1)) < (x.length : Int) then (if (dep : Int) > (wrap64 (((rd_T45 x (wrap64 ((x.length : Int) - 1))).f1) + 1)) then (some ((([] : List S45)), 5)) else (if x.length < 8796093022208 then (spec_GetTree.l0 k s (x ++ [(⟨(lab : Int), (dep : Int)⟩ : S45)]) n ((a + k1 + k2 : Nat) : Int) (wrap64 ((x.length : Int) + 1))) else (none))) else (none)) else (none)) else (if x.length < 8796093022208 then (spec_GetTree.l0 k s (x ++ [(⟨(lab : Int), (dep : Int)⟩ : S45)]) n ((a + k1 + k2 : Nat) : Int) (wrap64 ((x.length : Int) + 1))) else (none))))) Q →
        Ev (fun k => spec_GetTree.l0 k s x n (a : Int) (x.length : Int)) Q := by
      intro Q hQ
      refine ev_succ ?_
      simp only [spec_GetTree.l0]
      exact ev_pos hx (ev_bind l1 (ev_neg (by dsimp only; omega) (ev_bindc lab1 (ev_pos rfl (ev_bind l2 (ev_neg (by dsimp only; omega) hQ))))))
    have ew : wrap64 ((x.length : Int) + 1) = ((x.length + 1 : Nat) : Int) := by rw [w64 (by omega) (by omega)]; omega
    have hxl : x.length < 24 := by omega
    have hb : a + k1 + k2 ≤ s.size := r2'.2.1
    clear hx hn r1' r2' hq hsz l1 l2 i1 i2 e1 e2 ha hs h2 lab1 lab2
    by_cases h4 : dep ≤ 12
    · have hlast : (rd_T45 (x ++ [(⟨(lab : Int), (dep : Int)⟩ : S45)]) (x.length : Int)).f1 = (dep : Int) := by rw [rd_last]
      by_cases h0 : x.length = 0
      · have hx0 : x = [] := List.length_eq_zero_iff.1 h0
        have ed : impl_depthOk.f (x ++ [(⟨(lab : Int), (dep : Int)⟩ : S45)]) (x.length : Int) = some ((dep : Int) == 0) := by
          subst hx0
          rfl
        by_cases h5 : dep = 0
        · refine .inr ⟨⟨(lab : Int), (dep : Int)⟩, a + k1 + k2, hb, ⟨by dsimp only; omega, by dsimp only; omega⟩, hI _ ?_, fun Q hQ => hS Q ?_⟩
          · rw [ed]
            exact ev_neg (by omega) (ev_bindc rfl (ev_pos (by rw [h5]; rfl) (Ev.now _)))
          · rw [ew]
            refine ev_neg (by omega) (ev_neg (by rw [h5, h0]; decide) (ev_neg (by omega) (ev_pos (by omega) hQ)))
        · refine .inl ⟨5, by decide, ⟨x ++ [⟨(lab : Int), (dep : Int)⟩], tl s (a + k1), hI _ (ev_neg (by omega) ?_)⟩, hS _ (ev_neg (by omega) ?_)⟩
          · rw [ed]
            exact ev_bindc rfl (ev_neg (by simp; omega) (Ev.now _))
          · refine ev_pos ?_ (Ev.now _)
            have e3 : ((dep : Int) == 0) = false := beq_eq_false_iff_ne.mpr (by omega)
            rw [e3, h0]
            rfl
      · have hp := hd (x.length - 1) (by omega)
        have ej : (x.length : Int) - 1 = ((x.length - 1 : Nat) : Int) := by omega
        have ep : wrap64 ((rd_T45 x ((x.length - 1 : Nat) : Int)).f1 + 1) = dpA x (x.length - 1) + 1 := by rw [rd_f1, w64 (by omega) (by omega)]
        have ed : impl_depthOk.f (x ++ [(⟨(lab : Int), (dep : Int)⟩ : S45)]) (x.length : Int) = some (decide (1 ≤ (dep : Int) ∧ (dep : Int) ≤ dpA x (x.length - 1) + 1)) := by
          unfold impl_depthOk.f
          rw [if_neg (by omega), if_pos (by omega), if_pos (by rw [List.length_append, List.length_singleton]; omega), ej, w64 (x := ((x.length - 1 : Nat) : Int)) (by omega) (by omega), if_pos (by omega), if_pos (by rw [List.length_append, List.length_singleton]; omega), hlast, rd_ahead x _ _ (by omega), ep]
          unfold impl_within.f
          by_cases h7 : 1 ≤ (dep : Int)
          · rw [if_pos h7, Option.bind_some]
            congr 1
            exact decide_eq_decide.2 ⟨fun h => ⟨h7, h⟩, fun h => h.2⟩
          · rw [if_neg h7, Option.bind_some]
            congr 1
            exact (decide_eq_false (fun h => h7 h.1)).symm
        have en : ((x.length : Int) == 0) = false := beq_eq_false_iff_ne.mpr (by omega)
        by_cases h5 : 1 ≤ (dep : Int) ∧ (dep : Int) ≤ dpA x (x.length - 1) + 1
        · refine .inr ⟨⟨(lab : Int), (dep : Int)⟩, a + k1 + k2, hb, ⟨by dsimp only; omega, by dsimp only; omega⟩, hI _ ?_, fun Q hQ => hS Q ?_⟩
          · rw [ed]
            exact ev_neg (by omega) (ev_bindc rfl (ev_pos (decide_eq_true h5) (Ev.now _)))
          · have e3 : ((dep : Int) == 0) = false := beq_eq_false_iff_ne.mpr (by omega)
            rw [ew, e3, en, ej, w64 (x := ((x.length - 1 : Nat) : Int)) (by omega) (by omega), ep]
            exact ev_neg (by omega) (ev_neg (by decide) (ev_pos (by omega) (ev_pos (by omega) (ev_pos (by omega) (ev_neg (by omega) (ev_pos (by omega) hQ))))))
        · refine .inl ⟨5, by decide, ⟨x ++ [⟨(lab : Int), (dep : Int)⟩], tl s (a + k1), hI _ (ev_neg (by omega) ?_)⟩, hS _ (ev_neg (by omega) ?_)⟩
          · rw [ed]
            exact ev_bindc rfl (ev_neg (by simpa using h5) (Ev.now _))
          · by_cases h6 : dep = 0
            · refine ev_pos ?_ (Ev.now _)
              rw [h6, en]
              rfl
            · have e3 : ((dep : Int) == 0) = false := beq_eq_false_iff_ne.mpr (by omega)
              rw [e3, en, ej, w64 (x := ((x.length - 1 : Nat) : Int)) (by omega) (by omega), ep]
              exact ev_neg (by decide) (ev_pos (by omega) (ev_pos (by omega) (ev_pos (by omega) (ev_pos (by omega) (Ev.now _)))))
    · exact .inl ⟨4, by decide, ⟨x ++ [⟨(lab : Int), (dep : Int)⟩], tl s (a + k1), hI _ (ev_pos (by omega) (Ev.now _))⟩, hS _ (ev_pos (by omega) (Ev.now _))⟩
  · have lab1 : spec_LabelOk.f (lab : Int) = some false := by rw [specLabel, decide_eq_false h2]
    have lab2 : impl_LabelOk.f (lab : Int) = some false := by rw [implLabel, decide_eq_false h2]
    refine .inl ⟨3, by decide, ⟨x, tl s a, by simp only [impl_getNode.f]; exact ev_bind i1 (ev_neg (by dsimp only; omega) (ev_bindc lab2 (ev_neg (by decide) (Ev.now _))))⟩, ev_succ ?_⟩
    simp only [spec_GetTree.l0]
    exact ev_pos hx (ev_bind l1 (ev_neg (by dsimp only; omega) (ev_bindc lab1 (ev_neg (by decide) (Ev.now _)))))
theorem dp_snoc (x : List S45) (p : S45) (h : ∀ j, j < x.length → 0 ≤ dpA x j ∧ dpA x j ≤ 12) (hp : 0 ≤ p.f1 ∧ p.f1 ≤ 12) : ∀ j, j < (x ++ [p]).length → 0 ≤ dpA (x ++ [p]) j ∧ dpA (x ++ [p]) j ≤ 12 := by
  intro j hj
  rw [List.length_append, List.length_singleton] at hj
  rw [← rd_f1]
  by_cases hl : j < x.length
  · rw [rd_ahead x p j hl, rd_f1]; exact h j hl
  · obtain rfl : j = x.length := by omega
    rw [rd_last]; exact hp
theorem GetTree_l0 (s : ByteArray) (hs : s.size ≤ 1048576) (n : Int) (hn : n ≤ 24) : ∀ (d : Nat) (x : List S45) (a : Nat), (x.length : Int) + d = n → a ≤ s.size → (∀ j, j < x.length → 0 ≤ dpA x j ∧ dpA x j ≤ 12) →
    ∃ R : List S45 × Int, R.1.length ≤ 24 ∧ Ev (fun k => spec_GetTree.l0 k s x n (a : Int) (x.length : Int)) R ∧ Ev (fun k => impl_GetTree.l0 k x (tl s a) n (x.length : Int)) R := by
  intro d
  induction d with
  | zero =>
    intro x a hx ha hd
    by_cases he : a = s.size
    · refine ⟨(x, 0), by dsimp only; omega, ev_succ ?_, ev_succ ?_⟩
      · simp only [spec_GetTree.l0]
        exact ev_neg (by omega) (ev_pos (by omega) (Ev.now _))
      · simp only [impl_GetTree.l0]
        refine ev_neg (by omega) (ev_pos ?_ (Ev.now _))
        rw [Lib.toList_data]
        apply List.length_eq_zero_iff.1
        rw [← Lib.size_eq, tl_size s a]
        omega
    · refine ⟨([], 6), by simp, ev_succ ?_, ev_succ ?_⟩
      · simp only [spec_GetTree.l0]
        exact ev_neg (by omega) (ev_neg (by omega) (Ev.now _))
      · simp only [impl_GetTree.l0]
        refine ev_neg (by omega) (ev_neg ?_ (Ev.now _))
        intro h
        rw [Lib.toList_data] at h
        have := congrArg List.length h
        rw [← Lib.size_eq, tl_size s a] at this
        simp at this
        omega
  | succ d ih =>
    intro x a hx ha hd
    rcases node_step s hs n x a ha (by omega) hn hd with ⟨c, hc, ⟨y, r, hi⟩, hsp⟩ | ⟨p, b, hb, hp, hi, hsp⟩
    · refine ⟨([], c), by simp, hsp, ev_succ ?_⟩
      simp only [impl_GetTree.l0]
      exact ev_pos (by omega) (ev_bind hi (ev_neg hc (Ev.now _)))
    · obtain ⟨R, h1, h2, h3⟩ := ih (x ++ [p]) b (by rw [List.length_append, List.length_singleton]; omega) hb (dp_snoc x p hd hp)
      rw [List.length_append, List.length_singleton] at h2 h3
      refine ⟨R, h1, hsp R h2, ev_succ ?_⟩
      simp only [impl_GetTree.l0]
      refine ev_pos (by omega) (ev_bind hi (ev_pos rfl ?_))
      dsimp only
      rw [w64 (x := (x.length : Int) + 1) (by omega) (by omega)]
      have e : (x.length : Int) + 1 = ((x.length + 1 : Nat) : Int) := by omega
      rw [e]
      exact h3
theorem GetTree_both (s : ByteArray) (hs : s.size ≤ 1048576) : ∃ R : List S45 × Int, R.1.length ≤ 24 ∧ Ev (fun k => spec_GetTree.f k s) R ∧ Ev (fun k => impl_GetTree.f k s) R := by
  obtain ⟨r1, _, i1⟩ := rvt s hs 0 (Nat.zero_le _)
  have l1 := l4Num_ev s hs 0 (Nat.zero_le _)
  have e1 := tl_next' s 0 (rv (tl s 0)).2
  rw [tl_zero] at *
  simp only [spec_GetTree.f, impl_GetTree.f]
  by_cases h1 : (rv s).2 = 0
  · rw [if_pos h1] at l1
    exact ⟨([], 1), by simp, ev_bindc rfl (ev_bind l1 (ev_pos (by decide) (Ev.now _))), ev_bind i1 (ev_pos (by dsimp only; omega) (Ev.now _))⟩
  rw [if_neg h1] at l1
  have r1' : 1 ≤ (rv s).2 ∧ 0 + (rv s).2 ≤ s.size ∧ (rv s).1 ≤ 562949953421311 := by rcases r1 with r | r; omega; exact r
  generalize (rv s).2 = k1 at *
  generalize (rv s).1 = n at *
  have hw1 : spec_l1In.f (n : Int) 1 24 = some (decide (1 ≤ (n : Int) ∧ (n : Int) ≤ 24)) := by
    unfold spec_l1In.f
    by_cases h : (n : Int) ≥ 1
    · rw [if_pos h]; congr 1; exact decide_eq_decide.2 ⟨fun h2 => ⟨h, h2⟩, fun h2 => h2.2⟩
    · rw [if_neg h]; congr 1; exact (decide_eq_false (fun h2 => h h2.1)).symm
  have hw2 : impl_within.f (n : Int) 1 24 = some (decide (1 ≤ (n : Int) ∧ (n : Int) ≤ 24)) := by
    unfold impl_within.f
    by_cases h : 1 ≤ (n : Int)
    · rw [if_pos h]; congr 1; exact decide_eq_decide.2 ⟨fun h2 => ⟨h, h2⟩, fun h2 => h2.2⟩
    · rw [if_neg h]; congr 1; exact (decide_eq_false (fun h2 => h h2.1)).symm
  by_cases h2 : 1 ≤ (n : Int) ∧ (n : Int) ≤ 24
  · obtain ⟨R, g1, g2, g3⟩ := GetTree_l0 s hs n h2.2 n [] (0 + k1) (by simp) r1'.2.1 (fun j hj => by simp at hj)
    refine ⟨R, g1, ?_, ?_⟩
    · exact ev_bindc rfl (ev_bind l1 (ev_neg (by dsimp only; omega) (ev_bindc hw1 (ev_pos (decide_eq_true h2) g2))))
    · refine ev_bind i1 (ev_neg (by dsimp only; omega) (ev_bindc hw2 (ev_pos (decide_eq_true h2) (ev_pos (by dsimp only; omega) (ev_pos (by dsimp only; omega) ?_)))))
      dsimp only
      rw [e1]
      exact g3
  · refine ⟨([], 2), by simp, ?_, ?_⟩
    · exact ev_bindc rfl (ev_bind l1 (ev_neg (by dsimp only; omega) (ev_bindc hw1 (ev_neg (by simpa using h2) (Ev.now _)))))
    · exact ev_bind i1 (ev_neg (by dsimp only; omega) (ev_bindc hw2 (ev_neg (by simpa using h2) (Ev.now _))))

/-! #### _opOk -/
/-- the numbers of a path are in range -/
def inPath (x : Int) : Bool := decide (0 ≤ x ∧ x ≤ 24)
def pathB (p : List Int) : Bool := p.all inPath && decide ((p.length : Int) ≤ 12)
/-- an operation is one, whatever tree it is for -/
def restB (kind lab fr ct : Int) : Bool :=
  if kind = 1 then decide (0 ≤ lab ∧ lab ≤ 5) && (fr == 0 && ct == 0)
  else if kind = 2 then lab == 0 && (fr == 0 && ct == 0)
  else if kind = 3 then decide (0 ≤ lab ∧ lab ≤ 5) && (decide (0 ≤ fr ∧ fr ≤ 24) && decide (0 ≤ ct ∧ ct ≤ 24))
  else false
def opB (o : S100) : Bool := pathB o.f1 && restB o.f0 o.f2 o.f3 o.f4
def scriptB (ops : List S100) : Bool := ops.all opB && decide ((ops.length : Int) ≤ 60)
theorem all_drop {α : Type} (l : List α) (f : α → Bool) (i : Nat) (h : i < l.length) : (l.drop i).all f = (f l[i] && (l.drop (i + 1)).all f) := by
  rw [List.drop_eq_getElem_cons h, List.all_cons]

end Go.Proofs.Ytbiffnahknkoiaa.QFnExactPatch
