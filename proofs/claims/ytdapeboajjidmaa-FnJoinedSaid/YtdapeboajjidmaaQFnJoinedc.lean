/- What the printed functions of the law FnJoined come to, function by function, from some number of rounds on; each under the bounds that it names. -/
import Derived.Test.YtdapeboajjidmaaQFnJoinedb
namespace Go.Proofs.Ytdapeboajjidmaa.QFnJoined
open Go.RowKit Go.Proofs.Ytdapeboajjidmaa.PFnJoined Go.Proofs.YtdapeboajjidmaaW.PrintWords Go.Proofs.YtdapeboajjidmaaW.PrintLast Go.Proofs.YtdapeboajjidmaaW.PrintMore Go.Proofs.Ytdapeboajjidmaa.EvAid Go.Proofs.Ytdapeboajjidmaa
set_option linter.unusedVariables false
set_option linter.unusedSimpArgs false

/-! #### spec_SameTree -/
theorem spec_SameTree_l0 (a b : List S80) (hl : a.length = b.length) (hm : (a.length : Int) ≤ 9223372036854775806) : ∀ (d i : Nat), i + d = a.length → Ev (fun k => spec_SameTree.l0 k a b (i : Int)) (sameFrom a b i) := by
  intro d
  induction d with
  | zero =>
    intro i h
    refine ev_succ ?_
    simp only [spec_SameTree.l0]
    exact ev_neg (by omega) (ev_some (sameFrom_end (by omega)).symm)
  | succ d ih =>
    intro i h
    refine ev_succ ?_
    simp only [spec_SameTree.l0]
    simp only [rd_f0, rd_f1, same_cond]
    refine ev_pos (by omega) (ev_pos (by omega) (ev_pos (by omega) ?_))
    rw [sameFrom_step (by omega), w64 (by omega) (by omega)]
    by_cases hc : lbA a i = lbA b i ∧ dpA a i = dpA b i
    · refine ev_neg (by simpa using hc) ?_
      rw [decide_eq_true hc, Bool.true_and]
      exact ih (i + 1) (by omega)
    · refine ev_pos hc (ev_some ?_)
      rw [decide_eq_false hc, Bool.false_and]
theorem spec_SameTree_ev (a b : List S80) (hm : (a.length : Int) ≤ 9223372036854775806) : Ev (fun k => spec_SameTree.f k a b) (sameT a b) := by
  simp only [spec_SameTree.f]
  by_cases h : a.length = b.length
  · refine ev_pos (by omega) ?_
    rw [← sameFrom_zero h]
    exact spec_SameTree_l0 a b h hm a.length 0 (by omega)
  · refine ev_neg (by omega) (ev_some ?_)
    symm
    exact cdec_false (fun e => h (by rw [e]))

/-! #### _opOk -/
/-- the numbers of a path are in range -/
def inPath (x : Int) : Bool := decide (0 ≤ x ∧ x ≤ 24)
def pathB (p : List Int) : Bool := p.all inPath && decide ((p.length : Int) ≤ 12)
/-- an operation is one, whatever tree it is for -/
def restB (kind lab fr ct : Int) : Bool :=
  if kind = 1 then decide (0 ≤ lab ∧ lab ≤ 5) && (fr == 0 && ct == 0)
  else if kind = 2 then lab == 0 && (fr == 0 && ct == 0)
  else if kind = 3 then decide (0 ≤ lab ∧ lab ≤ 5) && (decide (0 ≤ fr ∧ fr ≤ 24) && decide (0 ≤ ct ∧ ct ≤ 24))
  else false
def opB (o : S78) : Bool := pathB o.f1 && restB o.f0 o.f2 o.f3 o.f4
def scriptB (ops : List S78) : Bool := ops.all opB && decide ((ops.length : Int) ≤ 60)
theorem all_drop {α : Type} (l : List α) (f : α → Bool) (i : Nat) (h : i < l.length) : (l.drop i).all f = (f l[i] && (l.drop (i + 1)).all f) := by
  rw [List.drop_eq_getElem_cons h, List.all_cons]

/-! #### _pricesIdx -/
/-- a price is in range -/
def inPrice (x : Int) : Bool := decide (0 ≤ x ∧ x ≤ 1000)
theorem priceLit_eq (x : Int) : impl_pricesOk_lit1.f x = some (!inPrice x) := by
  unfold impl_pricesOk_lit1.f
  rw [within_eq]
  rfl
theorem idxPrice_l0 (p : List Int) (hp : (p.length : Int) ≤ 1099511627776) : ∀ (d i : Nat), i + d = p.length → ∃ r : Int, Ev (fun k => slices_IndexFunc_int_int.l0 k p (p.length : Int) (i : Int)) r ∧ decide (r ≥ 0) = !(p.drop i).all inPrice := by
  intro d
  induction d with
  | zero =>
    intro i h
    refine ⟨-1, ev_succ ?_, ?_⟩
    · simp only [slices_IndexFunc_int_int.l0]
      exact ev_neg (by omega) (Ev.now _)
    · rw [List.drop_eq_nil_of_le (by omega)]; rfl
  | succ d ih =>
    intro i h
    have hi : i < p.length := by omega
    have e : rd p (i : Int) = p[i] := by simp [rd, hi]
    rw [all_drop p inPrice i hi]
    by_cases c : inPrice p[i] = true
    · obtain ⟨r, hr, hd⟩ := ih (i + 1) (by omega)
      refine ⟨r, ev_succ ?_, by rw [c, Bool.true_and]; exact hd⟩
      simp only [slices_IndexFunc_int_int.l0]
      refine ev_pos (by omega) (ev_pos (by omega) (ev_pos (by omega) (ev_bindc (priceLit_eq _) ?_)))
      rw [e, c, w64 (x := (i : Int) + 1) (by omega) (by omega)]
      exact ev_neg (by decide) hr
    · have c' : inPrice p[i] = false := by simpa using c
      refine ⟨(i : Int), ev_succ ?_, by rw [c', Bool.false_and]; simp⟩
      simp only [slices_IndexFunc_int_int.l0]
      refine ev_pos (by omega) (ev_pos (by omega) (ev_pos (by omega) (ev_bindc (priceLit_eq _) ?_)))
      rw [e, c']
      exact ev_pos rfl (Ev.now _)
theorem containsPrice_ev (p : List Int) (hp : (p.length : Int) ≤ 1099511627776) : Ev (fun k => slices_ContainsFunc_int_int.f k p) (!p.all inPrice) := by
  obtain ⟨r, hr, hd⟩ := idxPrice_l0 p hp p.length 0 (by omega)
  rw [List.drop_zero] at hd
  simp only [slices_ContainsFunc_int_int.f, slices_IndexFunc_int_int.f]
  exact ev_bind hr (ev_some hd)

/-! #### impl_pricesOk -/
theorem pricesOk_ev (p : List Int) (hp : (p.length : Int) ≤ 1099511627776) (n : Int) : Ev (fun k => impl_pricesOk.f k p n) (decide ((p.length : Int) = n) && p.all inPrice) := by
  simp only [impl_pricesOk.f]
  by_cases h : (p.length : Int) = n
  · refine ev_pos h (ev_bind (containsPrice_ev p hp) (ev_some ?_))
    rw [decide_eq_true h, Bool.not_not, Bool.true_and]
  · refine ev_neg h (ev_some ?_)
    rw [decide_eq_false h, Bool.false_and]

/-! #### _unit -/
/-- the costs where each change costs 1 -/
def unitD : List Int := [1, 1, 1, 1, 1, 1]
def unitR : List Int := [0, 1, 1, 1, 1, 1, 1, 0, 1, 1, 1, 1, 1, 1, 0, 1, 1, 1, 1, 1, 1, 0, 1, 1, 1, 1, 1, 1, 0, 1, 1, 1, 1, 1, 1, 0]
theorem unitD_at (a : Int) (h0 : 0 ≤ a) (h1 : a ≤ 5) : rd unitD a = 1 := by
  have key : ∀ n : Fin 6, rd unitD ((n.1 : Nat) : Int) = 1 := by decide
  have := key ⟨a.toNat, by omega⟩
  rwa [Int.toNat_of_nonneg h0] at this
theorem unitR_at (a b : Int) (h0 : 0 ≤ a) (h1 : a ≤ 5) (g0 : 0 ≤ b) (g1 : b ≤ 5) : rd unitR (a * 6 + b) = if a = b then 0 else 1 := by
  have key : ∀ n m : Fin 6, rd unitR (((n.1 * 6 + m.1 : Nat)) : Int) = if n.1 = m.1 then 0 else 1 := by decide
  obtain ⟨n, rfl⟩ : ∃ n : Nat, a = (n : Int) := ⟨a.toNat, by omega⟩
  obtain ⟨m, rfl⟩ : ∃ m : Nat, b = (m : Int) := ⟨b.toNat, by omega⟩
  have := key ⟨n, by omega⟩ ⟨m, by omega⟩
  dsimp only at this
  rw [show ((n * 6 + m : Nat) : Int) = (n : Int) * 6 + (m : Int) by omega] at this
  rw [this]
  by_cases h : n = m
  · rw [if_pos h, if_pos (by rw [h])]
  · rw [if_neg h, if_neg (by omega)]

/-! #### impl_CostOk -/
theorem CostOk_l0 : ∀ (d i : Nat), i + d = 6 → Ev (fun k => impl_CostOk.l0 k (i : Int) unitD unitD unitR) true := by
  intro d
  induction d with
  | zero =>
    intro i h
    refine ev_succ ?_
    simp only [impl_CostOk.l0]
    exact ev_neg (by omega) (Ev.now _)
  | succ d ih =>
    intro i h
    refine ev_succ ?_
    simp only [impl_CostOk.l0]
    have e := unitR_at (i : Int) (i : Int) (by omega) (by omega) (by omega) (by omega)
    rw [if_pos rfl] at e
    have hl : (unitR.length : Int) = 36 := rfl
    rw [w64 (x := (i : Int) * 6) (by omega) (by omega), w64 (x := (i : Int) * 6 + (i : Int)) (by omega) (by omega), w64 (x := (i : Int) + 1) (by omega) (by omega)]
    exact ev_pos (by omega) (ev_pos (by omega) (ev_pos (by omega) (ev_pos e (ih (i + 1) (by omega)))))
theorem CostOk_unit : Ev (fun k => impl_CostOk.f k unitD unitD unitR) true := by
  simp only [impl_CostOk.f]
  have a := pricesOk_ev unitD (by decide) 6
  have b := pricesOk_ev unitR (by decide) 36
  rw [show (decide ((unitD.length : Int) = 6) && unitD.all inPrice) = true by decide] at a
  rw [show (decide ((unitR.length : Int) = 36) && unitR.all inPrice) = true by decide] at b
  refine ev_bind a (ev_pos rfl (ev_bind a (ev_pos rfl (ev_bind b (ev_succ ?_)))))
  simp only [impl_CostOk.j0]
  exact ev_neg (by decide) (CostOk_l0 6 0 (by omega))

/-! #### impl_RelCost -/
theorem RelCost_unit (a b : Int) (h0 : 0 ≤ a ∧ a ≤ 5) (h1 : 0 ≤ b ∧ b ≤ 5) : Ev (fun k => impl_RelCost.f k unitD unitD unitR a b) (if a = b then 0 else 1) := by
  simp only [impl_RelCost.f]
  have hl : (unitR.length : Int) = 36 := rfl
  have e := unitR_at a b h0.1 h0.2 h1.1 h1.2
  rw [w64 (x := a * 6) (by omega) (by omega), w64 (x := a * 6 + b) (by omega) (by omega)]
  exact ev_bind CostOk_unit (ev_pos rfl (ev_bindc (LabelOk_eq a) (ev_pos (decide_eq_true h0) (ev_bindc (LabelOk_eq b) (ev_pos (decide_eq_true h1) (ev_pos (by omega) (ev_pos (by omega) (ev_some e))))))))

/-! #### impl_DelCost -/
theorem DelCost_unit (a : Int) (h0 : 0 ≤ a ∧ a ≤ 5) : Ev (fun k => impl_DelCost.f k unitD unitD unitR a) 1 := by
  simp only [impl_DelCost.f]
  have hl : (unitD.length : Int) = 6 := rfl
  exact ev_bind CostOk_unit (ev_pos rfl (ev_bindc (LabelOk_eq a) (ev_pos (decide_eq_true h0) (ev_pos (by omega) (ev_pos (by omega) (ev_some (unitD_at a h0.1 h0.2)))))))

/-! #### impl_InsCost -/
theorem InsCost_unit (a : Int) (h0 : 0 ≤ a ∧ a ≤ 5) : Ev (fun k => impl_InsCost.f k unitD unitD unitR a) 1 := by
  simp only [impl_InsCost.f]
  have hl : (unitD.length : Int) = 6 := rfl
  exact ev_bind CostOk_unit (ev_pos rfl (ev_bindc (LabelOk_eq a) (ev_pos (decide_eq_true h0) (ev_pos (by omega) (ev_pos (by omega) (ev_some (unitD_at a h0.1 h0.2)))))))

/-! #### _applyOk -/
/-- what stands where behind a deletion -/
theorem del_getD (l : List S80) (i e j : Nat) (hi : i < e) (he : e ≤ l.length) : (l.take i ++ ((l.take e).drop (i + 1)).map (upN (-1)) ++ l.drop e).getD j z80 = if j < i then l.getD j z80 else if j + 1 < e then upN (-1) (l.getD (j + 1) z80) else l.getD (j + 1) z80 := by
  have h1 : (l.take i).length = i := by rw [List.length_take]; omega
  have h2 : (((l.take e).drop (i + 1)).map (upN (-1))).length = e - (i + 1) := by rw [List.length_map, List.length_drop, List.length_take]; omega
  rw [List.append_assoc, at_append, h1]
  by_cases a : j < i
  · rw [if_pos a, if_pos a, at_take _ _ _ a]
  · rw [if_neg a, if_neg a, at_append, h2]
    by_cases b : j + 1 < e
    · rw [if_pos (by omega), if_pos b, at_up _ _ _ (by rw [List.length_drop, List.length_take]; omega), at_drop, at_take _ _ _ (by omega), show i + 1 + (j - i) = j + 1 by omega]
    · rw [if_neg (by omega), if_neg b, at_drop, show e + (j - i - (e - (i + 1))) = j + 1 by omega]
/-- what stands where behind an insertion -/
theorem ins_getD (l : List S80) (x : S80) (f t j : Nat) (hft : f ≤ t) (ht : t ≤ l.length) : (l.take f ++ [x] ++ ((l.take t).drop f).map (upN 1) ++ l.drop t).getD j z80 = if j < f then l.getD j z80 else if j = f then x else if j - 1 < t then upN 1 (l.getD (j - 1) z80) else l.getD (j - 1) z80 := by
  have h1 : (l.take f).length = f := by rw [List.length_take]; omega
  have h2 : (((l.take t).drop f).map (upN 1)).length = t - f := by rw [List.length_map, List.length_drop, List.length_take]; omega
  rw [List.append_assoc, List.append_assoc, at_append, h1]
  by_cases a : j < f
  · rw [if_pos a, if_pos a, at_take _ _ _ a]
  · rw [if_neg a, if_neg a]
    by_cases b : j = f
    · rw [if_pos b, b, Nat.sub_self]; rfl
    · rw [if_neg b, show j - f = (j - 1 - f) + 1 by omega]
      show (((l.take t).drop f).map (upN 1) ++ l.drop t).getD (j - 1 - f) z80 = _
      rw [at_append, h2]
      by_cases c : j - 1 < t
      · rw [if_pos (by omega), if_pos c, at_up _ _ _ (by rw [List.length_drop, List.length_take]; omega), at_drop, at_take _ _ _ (by omega), show f + (j - 1 - f) = j - 1 by omega]
      · rw [if_neg (by omega), if_neg c, at_drop, show t + (j - 1 - f - (t - f)) = j - 1 by omega]
theorem deepF_ge (l : List S80) : ∀ (k f : Nat) (d : Int), d ≤ deepF l k f d ∧ ∀ j, f ≤ j → j < f + k → dpA l j + 1 ≤ deepF l k f d := by
  intro k
  induction k with
  | zero => intro f d; exact ⟨Int.le_refl _, fun j h1 h2 => by omega⟩
  | succ k ih =>
    intro f d
    obtain ⟨a, b⟩ := ih (f + 1) (mx d (dpA l f + 1))
    rw [deepF]
    have m1 : d ≤ mx d (dpA l f + 1) ∧ dpA l f + 1 ≤ mx d (dpA l f + 1) := by unfold mx; omega
    refine ⟨by omega, fun j h1 h2 => ?_⟩
    rcases Nat.eq_or_lt_of_le h1 with h | h
    · subst h; omega
    · exact b j h (by omega)
theorem Vd_congr {n : Nat} {D D' : Nat → Int} (h : ∀ j, j < n → D j = D' j) (hv : Tree.Vd n D) : Tree.Vd n D' := by
  obtain ⟨a, b, c⟩ := hv
  refine ⟨a, by rw [← h 0 (by omega)]; exact b, fun j h1 h2 => ?_⟩
  rw [← h j h2, ← h (j - 1) (by omega)]
  exact c j h1 h2
theorem treeOk_of {l : List S80} (h1 : 1 ≤ l.length ∧ l.length ≤ 24) (hl : ∀ j, j < l.length → 0 ≤ lbA l j ∧ lbA l j ≤ 5) (hd : ∀ j, j < l.length → dpA l j ≤ 12) (hv : Tree.Vd l.length (dpA l)) : treeOk l = true := by
  refine treeOk_iff.2 ⟨h1, fun j hj => ⟨hl j hj, ⟨?_, hd j hj⟩, ?_⟩⟩
  · by_cases h0 : j = 0
    · subst h0; rw [hv.2.1]; omega
    · have := (hv.2.2 j (by omega) hj).1; omega
  · by_cases h0 : j = 0
    · subst h0; rw [if_pos rfl]; exact hv.2.1
    · rw [if_neg h0]; exact hv.2.2 j (by omega) hj
/-- a deletion, told by labels and depths -/
theorem del_facts {l : List S80} {i : Nat} (ht : treeOk l = true) (h0 : 0 < i) (hi : i < l.length) {X : List S80} (hX : X = l.take i ++ ((l.take (Tree.eo l.length (dpA l) i)).drop (i + 1)).map (upN (-1)) ++ l.drop (Tree.eo l.length (dpA l) i)) :
    X.length = l.length - 1 ∧ (∀ j, lbA X j = if j < i then lbA l j else lbA l (j + 1)) ∧ (∀ j, dpA X j = Tree.delD (dpA l) i (Tree.eo l.length (dpA l) i) j) ∧ treeOk X = true := by
  have g := @Tree.eo_gt l.length (dpA l) i
  have le := Tree.eo_le (D := dpA l) hi
  have hlen : X.length = l.length - 1 := by
    rw [hX]
    simp only [List.length_append, List.length_map, List.length_drop, List.length_take]
    omega
  have hat := del_getD l i (Tree.eo l.length (dpA l) i) (he := le) (hi := g)
  have hlb : ∀ j, lbA X j = if j < i then lbA l j else lbA l (j + 1) := by
    intro j
    unfold lbA
    rw [hX, hat j]
    split
    · rfl
    · split <;> rfl
  have hdp : ∀ j, dpA X j = Tree.delD (dpA l) i (Tree.eo l.length (dpA l) i) j := by
    intro j
    show (X.getD j z80).f1 = _
    rw [hX, hat j]
    unfold Tree.delD
    by_cases a : j < i
    · rw [if_pos a, if_pos a]; rfl
    · rw [if_neg a, if_neg a]
      by_cases b : j + 1 < Tree.eo l.length (dpA l) i
      · rw [if_pos b, if_pos b]
        show (l.getD (j + 1) z80).f1 + -1 = (l.getD (j + 1) z80).f1 - 1
        omega
      · rw [if_neg b, if_neg b]; rfl
  obtain ⟨h1, h2⟩ := treeOk_iff.1 ht
  refine ⟨hlen, hlb, hdp, treeOk_of ⟨by omega, by omega⟩ (fun j hj => ?_) (fun j hj => ?_) ?_⟩
  · rw [hlb j]
    split
    · exact (h2 j (by omega)).1
    · exact (h2 (j + 1) (by omega)).1
  · rw [hdp j]
    unfold Tree.delD
    split
    · exact (h2 j (by omega)).2.1.2
    · have := (h2 (j + 1) (by omega)).2.1.2
      split <;> omega
  · rw [hlen]
    exact Vd_congr (fun j hj => (hdp j).symm) (Tree.del_valid (treeOk_vd ht) h0 hi)
/-- an insertion, told by labels and depths -/
theorem ins_facts {l : List S80} {i f t : Nat} {lab : Int} (ht : treeOk l = true) (hi : i < l.length) (hf : Tree.IsB l.length (dpA l) i f) (hb : Tree.IsB l.length (dpA l) i t) (hft : f ≤ t) (hlab : 0 ≤ lab ∧ lab ≤ 5) (h24 : (l.length : Int) ≠ 24) (hdeep : ¬ deepF l (t - f) f (dpA l i + 1) > 12)
    {X : List S80} (hX : X = l.take f ++ [(⟨lab, dpA l i + 1⟩ : S80)] ++ ((l.take t).drop f).map (upN 1) ++ l.drop t) :
    X.length = l.length + 1 ∧ (∀ j, lbA X j = if j < f then lbA l j else if j = f then lab else lbA l (j - 1)) ∧ (∀ j, dpA X j = Tree.insD (dpA l) i f t j) ∧ treeOk X = true := by
  have le := Tree.eo_le (D := dpA l) hi
  have lf := Tree.IsB_le hf
  have lt := Tree.IsB_le hb
  have hlen : X.length = l.length + 1 := by
    rw [hX]
    simp only [List.length_append, List.length_map, List.length_drop, List.length_take, List.length_singleton]
    omega
  have hat := ins_getD l (⟨lab, dpA l i + 1⟩ : S80) f t (hft := hft) (ht := by omega)
  have hlb : ∀ j, lbA X j = if j < f then lbA l j else if j = f then lab else lbA l (j - 1) := by
    intro j
    unfold lbA
    rw [hX, hat j]
    split
    · rfl
    · split
      · rfl
      · split <;> rfl
  have hdp : ∀ j, dpA X j = Tree.insD (dpA l) i f t j := by
    intro j
    unfold Tree.insD
    show (X.getD j _).f1 = _
    rw [hX, hat j]
    split
    · rfl
    · split
      · rfl
      · split <;> rfl
  obtain ⟨h1, h2⟩ := treeOk_iff.1 ht
  have dg := deepF_ge l (t - f) f (dpA l i + 1)
  refine ⟨hlen, hlb, hdp, treeOk_of ⟨by omega, by omega⟩ (fun j hj => ?_) (fun j hj => ?_) ?_⟩
  · rw [hlb j]
    split
    · exact (h2 j (by omega)).1
    · split
      · exact hlab
      · exact (h2 (j - 1) (by omega)).1
  · rw [hdp j]
    unfold Tree.insD
    split
    · exact (h2 j (by omega)).2.1.2
    · split
      · have := dg.1; omega
      · split
        · have := dg.2 (j - 1) (by omega) (by omega); omega
        · exact (h2 (j - 1) (by omega)).2.1.2
  · rw [hlen]
    exact Vd_congr (fun j hj => (hdp j).symm) (Tree.ins_valid (treeOk_vd ht) hi hf hb hft)
/-- a new label, told by labels and depths -/
theorem rel_facts {l : List S80} {i : Nat} {lab : Int} (ht : treeOk l = true) (hi : i < l.length) (hlab : 0 ≤ lab ∧ lab ≤ 5) {X : List S80} (hX : X = l.set i ⟨lab, dpA l i⟩) :
    X.length = l.length ∧ (∀ j, lbA X j = if j = i then lab else lbA l j) ∧ (∀ j, dpA X j = dpA l j) ∧ treeOk X = true := by
  have hlen : X.length = l.length := by rw [hX, List.length_set]
  have hat : ∀ j, X.getD j z80 = if j = i then ⟨lab, dpA l i⟩ else l.getD j z80 := by
    intro j
    rw [hX, List.getD_eq_getElem?_getD, List.getElem?_set]
    by_cases h : i = j
    · subst h
      rw [if_pos rfl, if_pos hi, if_pos rfl]; rfl
    · rw [if_neg h, if_neg (Ne.symm h), List.getD_eq_getElem?_getD]
  have hlb : ∀ j, lbA X j = if j = i then lab else lbA l j := by
    intro j
    unfold lbA
    rw [hat j]
    split <;> rfl
  have hdp : ∀ j, dpA X j = dpA l j := by
    intro j
    show (X.getD j _).f1 = _
    rw [hat j]
    split
    · next h => subst h; rfl
    · rfl
  obtain ⟨h1, h2⟩ := treeOk_iff.1 ht
  refine ⟨hlen, hlb, hdp, treeOk_of ⟨by omega, by omega⟩ (fun j hj => ?_) (fun j hj => ?_) ?_⟩
  · rw [hlb j]
    split
    · exact hlab
    · exact (h2 j (by omega)).1
  · rw [hdp j]; exact (h2 j (by omega)).2.1.2
  · rw [hlen]
    exact Vd_congr (fun j hj => (hdp j).symm) (treeOk_vd ht)
/-- what an operation that can be done rests on, and what it makes: one of three -/
theorem appO_cases {l : List S80} {o : S78} (h : (appO l o).2 = 0) : treeOk l = true ∧ ∃ i : Nat, i < l.length ∧ nodeI l o.f1 = (i : Int) ∧ Tree.goDown l.length (dpA l) 0 o.f1 = some i ∧
    ((o.f0 = 1 ∧ (0 ≤ o.f2 ∧ o.f2 ≤ 5) ∧ (appO l o).1 = l.set i ⟨o.f2, dpA l i⟩) ∨
     (o.f0 = 2 ∧ 0 < i ∧ (appO l o).1 = l.take i ++ ((l.take (Tree.eo l.length (dpA l) i)).drop (i + 1)).map (upN (-1)) ++ l.drop (Tree.eo l.length (dpA l) i)) ∨
     (o.f0 = 3 ∧ (0 ≤ o.f2 ∧ o.f2 ≤ 5) ∧ (0 ≤ o.f3 ∧ o.f3 ≤ ((Tree.kids l.length (dpA l) i).length : Int) ∧ 0 ≤ o.f4 ∧ o.f4 ≤ ((Tree.kids l.length (dpA l) i).length : Int) - o.f3) ∧ ∃ f t : Nat, f = (Tree.bounds l.length (dpA l) i).getD o.f3.toNat 0 ∧ t = (Tree.bounds l.length (dpA l) i).getD (o.f3 + o.f4).toNat 0 ∧
        f ≤ t ∧ (l.length : Int) ≠ 24 ∧ ¬ deepF l (t - f) f (dpA l i + 1) > 12 ∧ (appO l o).1 = l.take f ++ [(⟨o.f2, dpA l i + 1⟩ : S80)] ++ ((l.take t).drop f).map (upN 1) ++ l.drop t)) := by
  unfold appO applyT at h ⊢
  by_cases ht : treeOk l = true
  · rw [if_pos ht] at h ⊢
    by_cases hc : (codeT l o.f0 o.f2 o.f3 o.f4 (nodeI l o.f1)).1 = 0
    · rw [if_pos hc] at h ⊢
      obtain ⟨hk, hi0, hl, hr, h3', h3⟩ := codeT_ok hc
      obtain ⟨i, hi, hin, _, hgo⟩ := nodeI_nat hi0
      refine ⟨ht, i, hin, hi, hgo, ?_⟩
      rw [hi] at hr h3' h3 ⊢
      rw [Int.toNat_natCast] at h3 ⊢
      show _ ∨ _ ∨ _
      unfold doneT
      by_cases k1 : o.f0 = 1
      · rw [if_pos k1]
        exact .inl ⟨k1, by omega, rfl⟩
      · rw [if_neg k1]
        by_cases k2 : o.f0 = 2
        · rw [if_pos k2]
          exact .inr (.inl ⟨k2, by omega, rfl⟩)
        · rw [if_neg k2]
          obtain ⟨hb, hcode, h24, hdeep⟩ := h3 (by omega)
          have f := bounds_facts hin hb
          refine .inr (.inr ⟨by omega, by omega, hb, _, _, rfl, rfl, f.2.1, h24, hdeep, ?_⟩)
          rw [hcode]
          simp only [Int.toNat_natCast]
    · rw [if_neg hc] at h
      exact absurd h hc
  · rw [if_neg ht] at h
    simp at h
theorem appO_ok {l : List S80} {o : S78} (h : (appO l o).2 = 0) : treeOk (appO l o).1 = true := by
  obtain ⟨ht, i, hin, hi, hgo, hc⟩ := appO_cases h
  rcases hc with ⟨k, hl, e⟩ | ⟨k, h0, e⟩ | ⟨k, hl, hb, f, t, hf, htt, hft, h24, hdeep, e⟩
  · exact (rel_facts ht hin hl e).2.2.2
  · exact (del_facts ht h0 hin e).2.2.2
  · have b1 := (Tree.bounds_is (n := l.length) (D := dpA l) (i := i) (r := o.f3.toNat) (by omega)).1
    have b2 := (Tree.bounds_is (n := l.length) (D := dpA l) (i := i) (r := (o.f3 + o.f4).toNat) (by omega)).1
    rw [← hf] at b1
    rw [← htt] at b2
    exact (ins_facts ht hin b1 b2 hft hl h24 hdeep e).2.2.2
theorem allF_ok : ∀ (ops : List S78) (l : List S80) (c : Int), treeOk l = true → treeOk (allF l c ops).1 = true := by
  intro ops
  induction ops with
  | nil => intro l c h; exact h
  | cons o r ih =>
    intro l c h
    rw [allF]
    by_cases hc : (appO l o).2 = 0
    · rw [if_pos hc]; exact ih _ _ (appO_ok hc)
    · rw [if_neg hc]; exact h
/-- one script behind the other -/
theorem allF_append (b : List S78) : ∀ (a : List S78) (l : List S80) (c : Int), allF l c (a ++ b) = if (allF l c a).2.2 = 0 then allF (allF l c a).1 (allF l c a).2.1 b else allF l c a := by
  intro a
  induction a with
  | nil => intro l c; rw [List.nil_append, allF, if_pos rfl]
  | cons o r ih =>
    intro l c
    rw [List.cons_append, allF, allF]
    by_cases hc : (appO l o).2 = 0
    · rw [if_pos hc, if_pos hc]; exact ih _ _
    · rw [if_neg hc, if_neg hc, if_neg hc]
theorem allF_count : ∀ (ops : List S78) (l : List S80) (c : Int), c ≤ (allF l c ops).2.1 ∧ (allF l c ops).2.1 ≤ c + (ops.length : Int) := by
  intro ops
  induction ops with
  | nil => intro l c; simp [allF]
  | cons o r ih =>
    intro l c
    rw [allF, List.length_cons]
    split
    · have := ih (appO l o).1 (c + 1); omega
    · dsimp only; omega

/-! #### impl_ScriptCost -/
/-- what an operation costs where each change costs 1 -/
noncomputable def opC (l : List S80) (o : S78) : Int := if o.f0 = 1 then (if lbA l (nodeI l o.f1).toNat = o.f2 then 0 else 1) else 1
noncomputable def costF : List S80 → List S78 → Int
  | _, [] => 0
  | l, o :: r => opC l o + costF (appO l o).1 r
theorem opC_le (l : List S80) (o : S78) : 0 ≤ opC l o ∧ opC l o ≤ 1 := by
  unfold opC
  split
  · split <;> omega
  · omega
theorem costF_le : ∀ (ops : List S78) (l : List S80), 0 ≤ costF l ops ∧ costF l ops ≤ (ops.length : Int) := by
  intro ops
  induction ops with
  | nil => intro l; simp [costF]
  | cons o r ih =>
    intro l
    have a := ih (appO l o).1
    have b := opC_le l o
    rw [costF, List.length_cons]
    omega
theorem ScriptCost_l0 (ops : List S78) (hb : OpsB ops) : ∀ (d j : Nat) (s : Int) (l : List S80) (c : Int), j + d = ops.length → 0 ≤ s → s ≤ (j : Int) → l.length ≤ 1099511627776 → (allF l c (ops.drop j)).2.2 = 0 → Ev (fun k => impl_ScriptCost.l0 k s l ops (ops.length : Int) (j : Int) unitD unitD unitR) (s + costF l (ops.drop j)) := by
  have hl := hb.1
  intro d
  induction d with
  | zero =>
    intro j s l c h s0 s1 hm hok
    refine ev_succ ?_
    simp only [impl_ScriptCost.l0]
    rw [List.drop_eq_nil_of_le (by omega)]
    refine ev_neg (by omega) (ev_some ?_)
    rw [costF, Int.add_zero]
  | succ d ih =>
    intro j s l c h s0 s1 hm hok
    refine ev_succ ?_
    simp only [impl_ScriptCost.l0]
    have hp := hb.at (j := j) (by omega)
    rw [drop_op ops j (by omega), allF] at hok
    by_cases hc : (appO l (rd_T78 ops (j : Int))).2 = 0
    · rw [if_pos hc] at hok
      have hal := appO_length l (rd_T78 ops (j : Int)) 1099511627776 (by omega) hm
      refine ev_pos (by omega) (ev_pos (by omega) (ev_pos (by omega) (ev_bind (impl_NodeAt_ev l _ (by omega)) (ev_bind (impl_ApplyOp_ev l _ _ _ _ _ (by omega)) ?_))))
      refine ev_pos hc ?_
      rw [drop_op ops j (by omega), costF, ← Int.add_assoc]
      obtain ⟨ht, i, hin, hn, hgo, hcase⟩ := appO_cases hc
      have hok2 := (treeOk_iff.1 ht).2 i hin
      have hC := opC_le l (rd_T78 ops (j : Int))
      have ihn := ih (j + 1) (s + opC l (rd_T78 ops (j : Int))) _ (c + 1) (by omega) (by omega) (by omega) hal hok
      have e2 : ((j + 1 : Nat) : Int) = (j : Int) + 1 := by omega
      rw [e2] at ihn
      rw [w64 (x := (j : Int) + 1) (by omega) (by omega)]
      have hlb : (rd_T80 l (nodeI l (rd_T78 ops (j : Int)).f1)).f0 = lbA l i := by rw [hn]; rfl
      have hoc : opC l (rd_T78 ops (j : Int)) = if (rd_T78 ops (j : Int)).f0 = 1 then (if lbA l i = (rd_T78 ops (j : Int)).f2 then 0 else 1) else 1 := by unfold opC; rw [hn, Int.toNat_natCast]
      rcases hcase with ⟨k1, hlab, _⟩ | ⟨k2, _, _⟩ | ⟨k3, hlab, _⟩
      · rw [if_pos k1] at hoc
        rw [hoc] at ihn hC ⊢
        refine ev_pos k1 (ev_pos (by omega) (ev_pos (by omega) ?_))
        rw [hlb]
        refine ev_bind (RelCost_unit _ _ hok2.1 hlab) ?_
        rw [w64 (x := s + if lbA l i = (rd_T78 ops (j : Int)).f2 then 0 else 1) (by omega) (by omega)]
        exact ihn
      · rw [if_neg (by omega)] at hoc
        rw [hoc] at ihn hC ⊢
        refine ev_neg (by omega) (ev_pos k2 (ev_pos (by omega) (ev_pos (by omega) ?_)))
        rw [hlb]
        refine ev_bind (DelCost_unit _ hok2.1) ?_
        rw [w64 (x := s + 1) (by omega) (by omega)]
        exact ihn
      · rw [if_neg (by omega)] at hoc
        rw [hoc] at ihn hC ⊢
        refine ev_neg (by omega) (ev_neg (by omega) (ev_bind (InsCost_unit _ hlab) ?_))
        rw [w64 (x := s + 1) (by omega) (by omega)]
        exact ihn
    · rw [if_neg hc] at hok
      exact absurd hok hc
theorem ScriptCost_ev (l : List S80) (ops : List S78) (hb : OpsB ops) (hm : l.length ≤ 1099511627776) (ht : treeOk l = true) (hok : (allF l 0 ops).2.2 = 0) : Ev (fun k => impl_ScriptCost.f k l ops unitD unitD unitR) (costF l ops) := by
  simp only [impl_ScriptCost.f]
  have h1 := impl_TreeOk_ev l
  rw [ht] at h1
  refine ev_bind h1 (ev_pos rfl (ev_bind CostOk_unit (ev_succ ?_)))
  simp only [impl_ScriptCost.j0]
  have := ScriptCost_l0 ops hb ops.length 0 0 l 0 (by omega) (by omega) (by omega) hm hok
  rw [Int.zero_add, List.drop_zero] at this
  exact ev_neg (by decide) (ev_bindc (clone_eq l (by omega)) this)

/-! #### spec_UnitCost -/
theorem UnitCost_l1 {r : List Int × List Int × List Int} (i i' : Int) (hi : wrap64 (i + 1) = i') (a b : List Int) : ∀ (d j : Nat) (c : List Int), j + d = 6 → c.length + d ≤ 100 → Ev (fun k => spec_UnitCost.l0 k i' a b (c ++ (List.range' j d).map (fun x : Nat => if i = (x : Int) then (0 : Int) else 1))) r → Ev (fun k => spec_UnitCost.l1 k i (j : Int) a b c) r := by
  intro d
  induction d with
  | zero =>
    intro j c h hc hr
    refine ev_succ ?_
    simp only [spec_UnitCost.l1]
    rw [hi]
    refine ev_neg (by omega) ?_
    simpa using hr
  | succ d ih =>
    intro j c h hc hr
    refine ev_succ ?_
    simp only [spec_UnitCost.l1]
    rw [List.range'_succ, List.map_cons] at hr
    rw [w64 (x := (j : Int) + 1) (by omega) (by omega)]
    refine ev_pos (by omega) ?_
    by_cases he : i = (j : Int)
    · rw [if_pos he] at hr
      refine ev_pos he (ev_pos (by omega) (ih (j + 1) _ (by omega) ?_ ?_))
      · rw [List.length_append, List.length_singleton]; omega
      · rw [List.append_assoc, List.singleton_append]; exact hr
    · rw [if_neg he] at hr
      refine ev_neg he (ev_pos (by omega) (ih (j + 1) _ (by omega) ?_ ?_))
      · rw [List.length_append, List.length_singleton]; omega
      · rw [List.append_assoc, List.singleton_append]; exact hr
theorem UnitCost_ev : Ev (fun k => spec_UnitCost.f k) (unitD, unitD, unitR) := by
  simp only [spec_UnitCost.f]
  refine ev_succ ?_
  simp only [spec_UnitCost.l0]
  refine ev_pos (by decide) (ev_pos (by decide) (ev_pos (by decide) (UnitCost_l1 0 1 (by unfold wrap64; omega) _ _ 6 0 _ (by decide) (by decide) ?_)))
  refine ev_succ ?_
  simp only [spec_UnitCost.l0]
  refine ev_pos (by decide) (ev_pos (by decide) (ev_pos (by decide) (UnitCost_l1 1 2 (by unfold wrap64; omega) _ _ 6 0 _ (by decide) (by decide) ?_)))
  refine ev_succ ?_
  simp only [spec_UnitCost.l0]
  refine ev_pos (by decide) (ev_pos (by decide) (ev_pos (by decide) (UnitCost_l1 2 3 (by unfold wrap64; omega) _ _ 6 0 _ (by decide) (by decide) ?_)))
  refine ev_succ ?_
  simp only [spec_UnitCost.l0]
  refine ev_pos (by decide) (ev_pos (by decide) (ev_pos (by decide) (UnitCost_l1 3 4 (by unfold wrap64; omega) _ _ 6 0 _ (by decide) (by decide) ?_)))
  refine ev_succ ?_
  simp only [spec_UnitCost.l0]
  refine ev_pos (by decide) (ev_pos (by decide) (ev_pos (by decide) (UnitCost_l1 4 5 (by unfold wrap64; omega) _ _ 6 0 _ (by decide) (by decide) ?_)))
  refine ev_succ ?_
  simp only [spec_UnitCost.l0]
  refine ev_pos (by decide) (ev_pos (by decide) (ev_pos (by decide) (UnitCost_l1 5 6 (by unfold wrap64; omega) _ _ 6 0 _ (by decide) (by decide) ?_)))
  refine ev_succ ?_
  simp only [spec_UnitCost.l0]
  exact ev_neg (by decide) (ev_some rfl)

end Go.Proofs.Ytdapeboajjidmaa.QFnJoined
