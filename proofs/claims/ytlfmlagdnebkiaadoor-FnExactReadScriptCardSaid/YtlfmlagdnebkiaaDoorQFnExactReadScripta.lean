/- What the printed functions of the law FnExactReadScript come to, function by function, from some number of rounds on; each under the bounds that it names. -/
import Derived.Test.YtlfmlagdnebkiaaDoorMFnExactReadScriptx
import Derived.Test.YtlfmlagdnebkiaaDoorMFnExactReadScriptEvAid
import Derived.Test.YtlfmlagdnebkiaaDoorCut
namespace Go.Proofs.YtlfmlagdnebkiaaDoor.QFnExactReadScript
open Go.RowKit Go.Proofs.YtlfmlagdnebkiaaDoor.PFnExactReadScript Go.Proofs.YtlfmlagdnebkiaaDoorW.PrintWords Go.Proofs.YtlfmlagdnebkiaaDoorW.PrintLast Go.Proofs.YtlfmlagdnebkiaaDoorW.PrintMore Go.Proofs.YtlfmlagdnebkiaaDoor.EvAid Go.Proofs.YtlfmlagdnebkiaaDoor
set_option linter.unusedVariables false
set_option linter.unusedSimpArgs false

/-! #### spec_Dec -/
def dD (u : Nat) : ByteArray := ⟨(Lib.decDigits u).toArray⟩
theorem dD_small {u : Nat} (h : u < 10) : dD u = ⟨#[UInt8.ofNat (48 + u)]⟩ := by unfold dD; rw [Lib.decDigits, dif_pos h]
theorem dD_big {u : Nat} (h : ¬ u < 10) : dD u = dD (u / 10) ++ ⟨#[UInt8.ofNat (48 + u % 10)]⟩ := by
  unfold dD
  rw [Lib.decDigits, dif_neg h]
  apply ByteArray.ext
  simp
theorem one_digit (d : Nat) (h : d < 10) : strOfNums [((48 + (d : Int)) % 256 : Int)] = ⟨#[UInt8.ofNat (48 + d)]⟩ := by
  unfold strOfNums
  have e : ((48 + (d : Int)) % 256).toNat = 48 + d := by omega
  simp [e]
theorem dD_step (u : Nat) (hu : u ≠ 0) (acc : ByteArray) : (if u / 10 = 0 then (⟨#[UInt8.ofNat (48 + u % 10)]⟩ ++ acc : ByteArray) else dD (u / 10) ++ (⟨#[UInt8.ofNat (48 + u % 10)]⟩ ++ acc)) = dD u ++ acc := by
  by_cases h : u < 10
  · rw [if_pos (by omega), dD_small h, Nat.mod_eq_of_lt h]
  · rw [if_neg (by omega), dD_big h, ByteArray.append_assoc]
theorem spec_Dec_l0 (neg : Bool) : ∀ (u : Nat) (acc : ByteArray), acc.size ≤ 64 → u * 2 ^ acc.size ≤ 2 ^ 63 → Ev (fun k => spec_Dec.l0 k (if neg = true then -(u : Int) else (u : Int)) acc neg) (if u = 0 then (if neg = true then ⟨#[45]⟩ ++ acc else acc) else (if neg = true then ⟨#[45]⟩ ++ (dD u ++ acc) else dD u ++ acc)) := by
  intro u
  induction u using Nat.strongRecOn with
  | _ u ih =>
    intro acc h1 h2
    refine ev_succ ?_
    simp only [spec_Dec.l0]
    by_cases hu : u = 0
    · subst hu
      rw [if_pos rfl]
      cases neg with
      | false => exact ev_pos rfl (ev_neg (by simp) (Ev.now _))
      | true => exact ev_pos rfl (ev_pos rfl (ev_pos (by omega) (Ev.now _)))
    · rw [if_neg hu]
      have ha : acc.size ≤ 63 := by
        have h3 : 1 * 2 ^ acc.size ≤ 2 ^ 63 := Nat.le_trans (Nat.mul_le_mul_right _ (by omega)) h2
        rw [Nat.one_mul] at h3
        exact (Nat.pow_le_pow_iff_right (by decide)).1 h3
      have hub : u ≤ 2 ^ 63 := Nat.le_trans (by have := Nat.pos_of_ne_zero (Nat.pos_iff_ne_zero.1 (Nat.two_pow_pos acc.size)); exact Nat.le_mul_of_pos_right u this) h2
      have hd : u % 10 < 10 := Nat.mod_lt _ (by decide)
      have hs : ((⟨#[UInt8.ofNat (48 + u % 10)]⟩ : ByteArray) ++ acc).size = acc.size + 1 := by rw [ByteArray.size_append]; show 1 + acc.size = _; omega
      have hst : (u / 10) * 2 ^ (acc.size + 1) ≤ 2 ^ 63 := by
        refine Nat.le_trans ?_ h2
        rw [Nat.pow_succ, ← Nat.mul_assoc, Nat.mul_right_comm]
        exact Nat.mul_le_mul_right _ (by omega)
      have hih := ih (u / 10) (by omega) (⟨#[UInt8.ofNat (48 + u % 10)]⟩ ++ acc) (by omega) (by rw [hs]; exact hst)
      have e1 : Int.tmod (u : Int) 10 = ((u % 10 : Nat) : Int) := by rw [Int.tmod_eq_emod_of_nonneg (by omega)]; omega
      have e2 : Int.tdiv (u : Int) 10 = ((u / 10 : Nat) : Int) := by rw [Int.tdiv_eq_ediv_of_nonneg (by omega)]; omega
      have e3 : (2 : Nat) ^ 63 = 9223372036854775808 := by decide
      rw [e3] at hub
      cases neg with
      | false =>
        simp only [if_neg Bool.false_ne_true] at hih ⊢
        refine ev_neg (by omega) ?_
        rw [e1, e2]
        refine ev_neg (by omega) (ev_bindc rfl ?_)
        rw [w64 (x := 48 + ((u % 10 : Nat) : Int)) (by omega) (by omega), one_digit _ hd, w64 (x := ((u / 10 : Nat) : Int)) (by omega) (by omega)]
        refine ev_pos (by show 1 + acc.size ≤ _; omega) (ev_eq hih ?_)
        exact dD_step u hu acc
      | true =>
        simp only [if_pos] at hih ⊢
        refine ev_neg (by omega) ?_
        rw [Int.neg_tmod, Int.neg_tdiv, e1, e2]
        rw [w64 (x := -((u / 10 : Nat) : Int)) (by omega) (by omega)]
        have fin : (if u / 10 = 0 then (⟨#[45]⟩ ++ (⟨#[UInt8.ofNat (48 + u % 10)]⟩ ++ acc) : ByteArray) else ⟨#[45]⟩ ++ (dD (u / 10) ++ (⟨#[UInt8.ofNat (48 + u % 10)]⟩ ++ acc))) = ⟨#[45]⟩ ++ (dD u ++ acc) := by
          rw [← dD_step u hu acc]
          split <;> rfl
        by_cases hz : u % 10 = 0
        · rw [hz] at hih fin hs
          rw [hz]
          refine ev_neg (by simp) (ev_bindc rfl ?_)
          rw [w64 (x := 48 + -((0 : Nat) : Int)) (by omega) (by omega), show (48 + -((0 : Nat) : Int)) = 48 + ((0 : Nat) : Int) by omega, one_digit 0 (by decide)]
          exact ev_pos (by show 1 + acc.size ≤ _; omega) (ev_eq hih fin)
        · refine ev_pos (by omega) (ev_bindc rfl ?_)
          rw [Int.neg_neg, w64 (x := ((u % 10 : Nat) : Int)) (by omega) (by omega), w64 (x := 48 + ((u % 10 : Nat) : Int)) (by omega) (by omega), one_digit _ hd]
          exact ev_pos (by show 1 + acc.size ≤ _; omega) (ev_eq hih fin)
theorem spec_Dec_ev (n : Int) (h0 : -9223372036854775808 ≤ n) (h1 : n ≤ 9223372036854775807) : Ev (fun k => spec_Dec.f k n) ⟨(Lib.itoa n).toArray⟩ := by
  simp only [spec_Dec.f]
  by_cases hz : n = 0
  · subst hz
    refine ev_pos rfl (ev_some ?_)
    unfold Lib.itoa
    rw [if_neg (by omega)]
    show _ = ByteArray.mk (Lib.decDigits 0).toArray
    rw [Lib.decDigits, dif_pos (by omega)]
    rfl
  · refine ev_neg hz ?_
    have h3 : n.natAbs * 2 ^ 0 ≤ 2 ^ 63 := by rw [Nat.pow_zero, Nat.mul_one]; show n.natAbs ≤ 9223372036854775808; omega
    have T := fun b => spec_Dec_l0 b n.natAbs ⟨#[]⟩ (by show 0 ≤ 64; omega) h3
    by_cases hn : n < 0
    · have T1 := T true
      rw [if_neg (show ¬ n.natAbs = 0 by omega)] at T1
      simp only [if_pos] at T1
      rw [show -((n.natAbs : Nat) : Int) = n by omega] at T1
      rw [decide_eq_true hn]
      refine ev_eq T1 ?_
      unfold Lib.itoa
      rw [if_pos hn]
      apply ByteArray.ext
      simp [dD]
    · have T1 := T false
      rw [if_neg (show ¬ n.natAbs = 0 by omega)] at T1
      simp only [if_neg Bool.false_ne_true] at T1
      rw [show ((n.natAbs : Nat) : Int) = n by omega] at T1
      rw [decide_eq_false hn]
      refine ev_eq T1 ?_
      unfold Lib.itoa
      rw [if_neg hn, show n.natAbs = n.toNat by omega]
      apply ByteArray.ext
      simp [dD]

/-! #### spec_l1In -/
theorem l1In_eq (a b c : Int) : spec_l1In.f a b c = some (decide (b ≤ a ∧ a ≤ c)) := by
  unfold spec_l1In.f
  by_cases h : a ≥ b
  · rw [if_pos h]; have h' : b ≤ a := h; simp [h']
  · rw [if_neg h]; have h' : ¬ b ≤ a := h; simp [h']

/-! #### spec_LabelOk -/
theorem spec_LabelOk_eq (a : Int) : spec_LabelOk.f a = some (decide (0 ≤ a ∧ a ≤ 5)) := by
  unfold spec_LabelOk.f; rw [l1In_eq]; rfl

/-! #### _opOk -/
/-- the numbers of a path are in range -/
def inPath (x : Int) : Bool := decide (0 ≤ x ∧ x ≤ 24)
def pathB (p : List Int) : Bool := p.all inPath && decide ((p.length : Int) ≤ 12)
/-- an operation is one, whatever tree it is for -/
def restB (kind lab fr ct : Int) : Bool :=
  if kind = 1 then decide (0 ≤ lab ∧ lab ≤ 5) && (fr == 0 && ct == 0)
  else if kind = 2 then lab == 0 && (fr == 0 && ct == 0)
  else if kind = 3 then decide (0 ≤ lab ∧ lab ≤ 5) && (decide (0 ≤ fr ∧ fr ≤ 24) && decide (0 ≤ ct ∧ ct ≤ 24))
  else false
def opB (o : S24) : Bool := pathB o.f1 && restB o.f0 o.f2 o.f3 o.f4
def scriptB (ops : List S24) : Bool := ops.all opB && decide ((ops.length : Int) ≤ 60)
theorem all_drop {α : Type} (l : List α) (f : α → Bool) (i : Nat) (h : i < l.length) : (l.drop i).all f = (f l[i] && (l.drop (i + 1)).all f) := by
  rw [List.drop_eq_getElem_cons h, List.all_cons]

/-! #### spec_l15Path -/
theorem l15Path_ev (p : List Int) (hp : (p.length : Int) ≤ 1099511627776) : Ev (fun k => spec_l15Path.f k p) (pathB p) := by
  have key : ∀ (d i : Nat), i + d = p.length → Ev (fun k => spec_l15Path.l0 k p (i : Int)) ((p.drop i).all inPath && decide ((p.length : Int) ≤ 12)) := by
    intro d
    induction d with
    | zero =>
      intro i h
      refine ev_succ ?_
      simp only [spec_l15Path.l0]
      rw [List.drop_eq_nil_of_le (by omega)]
      exact ev_neg (by omega) (ev_some (by simp))
    | succ d ih =>
      intro i h
      have hi : i < p.length := by omega
      have e : rd p (i : Int) = p[i] := by simp [rd, hi]
      refine ev_succ ?_
      simp only [spec_l15Path.l0]
      rw [all_drop p inPath i hi, e]
      refine ev_pos (by omega) (ev_pos (by omega) (ev_bindc (l1In_eq _ _ _) ?_))
      by_cases c : 0 ≤ p[i] ∧ p[i] ≤ 24
      · rw [w64 (x := (i : Int) + 1) (by omega) (by omega)]
        have : inPath p[i] = true := decide_eq_true c
        rw [this, Bool.true_and]
        exact ev_pos (decide_eq_true c) (ih (i + 1) (by omega))
      · have : inPath p[i] = false := decide_eq_false c
        rw [this, Bool.false_and, Bool.false_and]
        exact ev_neg (by simpa using c) (Ev.now _)
  simp only [spec_l15Path.f]
  have := key p.length 0 (by omega)
  rwa [List.drop_zero] at this

/-! #### spec_OpOk -/
theorem spec_OpOk_ev (o : S24) (hp : (o.f1.length : Int) ≤ 1099511627776) : Ev (fun k => spec_OpOk.f k o.f0 o.f1 o.f2 o.f3 o.f4) (opB o) := by
  simp only [spec_OpOk.f]
  refine ev_bind (l15Path_ev o.f1 hp) ?_
  unfold opB
  by_cases h : pathB o.f1 = true
  · refine ev_pos h ?_
    rw [h, Bool.true_and]
    unfold restB
    by_cases k1 : o.f0 = 1
    · refine ev_pos k1 ?_
      rw [if_pos k1]
      refine ev_bindc (spec_LabelOk_eq _) ?_
      by_cases l : 0 ≤ o.f2 ∧ o.f2 ≤ 5
      · rw [decide_eq_true l]
        refine ev_pos rfl ?_
        by_cases f : o.f3 = 0
        · exact ev_pos f (ev_some (by simp [f]))
        · exact ev_neg f (ev_some (by simp [f]))
      · rw [decide_eq_false l]
        exact ev_neg (by decide) (ev_some (by simp))
    · refine ev_neg k1 ?_
      rw [if_neg k1]
      by_cases k2 : o.f0 = 2
      · refine ev_pos k2 ?_
        rw [if_pos k2]
        by_cases l : o.f2 = 0
        · refine ev_pos l ?_
          by_cases f : o.f3 = 0
          · exact ev_pos f (ev_some (by simp [f, l]))
          · exact ev_neg f (ev_some (by simp [f]))
        · exact ev_neg l (ev_some (by simp [l]))
      · refine ev_neg k2 ?_
        rw [if_neg k2]
        by_cases k3 : o.f0 = 3
        · refine ev_pos k3 ?_
          rw [if_pos k3]
          refine ev_bindc (spec_LabelOk_eq _) ?_
          by_cases l : 0 ≤ o.f2 ∧ o.f2 ≤ 5
          · rw [decide_eq_true l]
            refine ev_pos rfl (ev_bindc (l1In_eq _ _ _) ?_)
            by_cases f : 0 ≤ o.f3 ∧ o.f3 ≤ 24
            · rw [decide_eq_true f]
              exact ev_pos rfl (ev_bindc (l1In_eq _ _ _) (ev_some (by simp)))
            · rw [decide_eq_false f]
              exact ev_neg (by decide) (ev_some (by simp))
          · rw [decide_eq_false l]
            exact ev_neg (by decide) (ev_some (by simp))
        · refine ev_neg k3 ?_
          rw [if_neg k3]
          exact Ev.now _
  · refine ev_neg h (ev_some ?_)
    have : pathB o.f1 = false := by simpa using h
    rw [this, Bool.false_and]

/-! #### _opsB -/
/-- the operations' paths are short enough to be counted -/
def OpsB (ops : List S24) : Prop := (ops.length : Int) ≤ 1099511627776 ∧ ∀ o ∈ ops, (o.f1.length : Int) ≤ 1099511627776
theorem OpsB.at {ops : List S24} (h : OpsB ops) {j : Nat} (hj : j < ops.length) : ((rd_T24 ops (j : Int)).f1.length : Int) ≤ 1099511627776 := by
  have e : rd_T24 ops (j : Int) = ops[j] := by show ops.getD j _ = _; simp [hj]
  rw [e]
  exact h.2 _ (List.getElem_mem hj)
theorem drop_op (ops : List S24) (j : Nat) (h : j < ops.length) : ops.drop j = rd_T24 ops (j : Int) :: ops.drop (j + 1) := by
  rw [List.drop_eq_getElem_cons h]
  congr 1
  show _ = ops.getD j _
  simp [h]

/-! #### spec_ScriptOk -/
theorem spec_ScriptOk_ev (ops : List S24) (hb : OpsB ops) : Ev (fun k => spec_ScriptOk.f k ops) (scriptB ops) := by
  have hl := hb.1
  have key : ∀ (d i : Nat), i + d = ops.length → Ev (fun k => spec_ScriptOk.l0 k ops (i : Int)) ((ops.drop i).all opB && decide ((ops.length : Int) ≤ 60)) := by
    intro d
    induction d with
    | zero =>
      intro i h
      refine ev_succ ?_
      simp only [spec_ScriptOk.l0]
      rw [List.drop_eq_nil_of_le (by omega)]
      exact ev_neg (by omega) (ev_some (by simp))
    | succ d ih =>
      intro i h
      have hi : i < ops.length := by omega
      have e : rd_T24 ops (i : Int) = ops[i] := by show ops.getD i _ = _; simp [hi]
      have hp := hb.2 _ (List.getElem_mem hi)
      refine ev_succ ?_
      simp only [spec_ScriptOk.l0]
      rw [all_drop ops opB i hi, e]
      refine ev_pos (by omega) (ev_pos (by omega) (ev_bind (spec_OpOk_ev ops[i] hp) ?_))
      by_cases c : opB ops[i] = true
      · rw [w64 (x := (i : Int) + 1) (by omega) (by omega), c, Bool.true_and]
        exact ev_pos rfl (ih (i + 1) (by omega))
      · have : opB ops[i] = false := by simpa using c
        rw [this, Bool.false_and, Bool.false_and]
        exact ev_neg (by decide) (Ev.now _)
  simp only [spec_ScriptOk.f]
  have := key ops.length 0 (by omega)
  rwa [List.drop_zero] at this

/-! #### impl_within -/
theorem within_eq (a b c : Int) : impl_within.f a b c = some (decide (b ≤ a ∧ a ≤ c)) := by
  unfold impl_within.f
  by_cases h : b ≤ a
  · rw [if_pos h]; simp [h]
  · rw [if_neg h]; simp [h]

/-! #### impl_LabelOk -/
theorem LabelOk_eq (a : Int) : impl_LabelOk.f a = some (decide (0 ≤ a ∧ a ≤ 5)) := by
  unfold impl_LabelOk.f; rw [within_eq]; rfl

/-! #### slices_ContainsFunc_int_int -/
theorem opLit_eq (x : Int) : impl_OpOk_lit1.f x = some (!inPath x) := by
  unfold impl_OpOk_lit1.f
  rw [within_eq]
  rfl
theorem idxBad_l0 (p : List Int) (hp : (p.length : Int) ≤ 1099511627776) : ∀ (d i : Nat), i + d = p.length → ∃ r : Int, Ev (fun k => slices_IndexFunc_int_int.l0 k p (p.length : Int) (i : Int)) r ∧ decide (r ≥ 0) = !(p.drop i).all inPath := by
  intro d
  induction d with
  | zero =>
    intro i h
    refine ⟨-1, ev_succ ?_, ?_⟩
    · simp only [slices_IndexFunc_int_int.l0]
      exact ev_neg (by omega) (Ev.now _)
    · rw [List.drop_eq_nil_of_le (by omega)]; rfl
  | succ d ih =>
    intro i h
    have hi : i < p.length := by omega
    have e : rd p (i : Int) = p[i] := by simp [rd, hi]
    rw [all_drop p inPath i hi]
    by_cases c : inPath p[i] = true
    · obtain ⟨r, hr, hd⟩ := ih (i + 1) (by omega)
      refine ⟨r, ev_succ ?_, by rw [c, Bool.true_and]; exact hd⟩
      simp only [slices_IndexFunc_int_int.l0]
      refine ev_pos (by omega) (ev_pos (by omega) (ev_pos (by omega) (ev_bindc (opLit_eq _) ?_)))
      rw [e, c, w64 (x := (i : Int) + 1) (by omega) (by omega)]
      exact ev_neg (by decide) hr
    · have c' : inPath p[i] = false := by simpa using c
      refine ⟨(i : Int), ev_succ ?_, by rw [c', Bool.false_and]; simp⟩
      simp only [slices_IndexFunc_int_int.l0]
      refine ev_pos (by omega) (ev_pos (by omega) (ev_pos (by omega) (ev_bindc (opLit_eq _) ?_)))
      rw [e, c']
      exact ev_pos rfl (Ev.now _)
theorem containsBad_ev (p : List Int) (hp : (p.length : Int) ≤ 1099511627776) : Ev (fun k => slices_ContainsFunc_int_int.f k p) (!p.all inPath) := by
  obtain ⟨r, hr, hd⟩ := idxBad_l0 p hp p.length 0 (by omega)
  rw [List.drop_zero] at hd
  simp only [slices_ContainsFunc_int_int.f, slices_IndexFunc_int_int.f]
  exact ev_bind hr (ev_some hd)

/-! #### impl_OpOk -/
theorem impl_OpOk_j0 (b : Bool) (o : S24) : Ev (fun k => impl_OpOk.j0 k b o.f0 o.f1 o.f2 o.f3 o.f4) (!b && restB o.f0 o.f2 o.f3 o.f4) := by
  refine ev_succ ?_
  simp only [impl_OpOk.j0]
  cases b with
  | true => exact ev_pos rfl (Ev.now _)
  | false =>
    refine ev_neg (by decide) ?_
    rw [Bool.not_false, Bool.true_and]
    unfold restB
    by_cases k1 : o.f0 = 1
    · refine ev_pos k1 ?_
      rw [if_pos k1]
      refine ev_bindc (LabelOk_eq _) ?_
      by_cases l : 0 ≤ o.f2 ∧ o.f2 ≤ 5
      · rw [decide_eq_true l]
        refine ev_pos rfl ?_
        by_cases f : o.f3 = 0
        · exact ev_pos f (ev_some (by simp [f]))
        · exact ev_neg f (ev_some (by simp [f]))
      · rw [decide_eq_false l]
        exact ev_neg (by decide) (ev_some (by simp))
    · refine ev_neg k1 ?_
      rw [if_neg k1]
      by_cases k2 : o.f0 = 2
      · refine ev_pos k2 ?_
        rw [if_pos k2]
        by_cases l : o.f2 = 0
        · refine ev_pos l ?_
          by_cases f : o.f3 = 0
          · exact ev_pos f (ev_some (by simp [f, l]))
          · exact ev_neg f (ev_some (by simp [f]))
        · exact ev_neg l (ev_some (by simp [l]))
      · refine ev_neg k2 ?_
        rw [if_neg k2]
        by_cases k3 : o.f0 = 3
        · refine ev_pos k3 ?_
          rw [if_pos k3]
          refine ev_bindc (LabelOk_eq _) ?_
          by_cases l : 0 ≤ o.f2 ∧ o.f2 ≤ 5
          · rw [decide_eq_true l]
            refine ev_pos rfl (ev_bindc (within_eq _ _ _) ?_)
            by_cases f : 0 ≤ o.f3 ∧ o.f3 ≤ 24
            · rw [decide_eq_true f]
              exact ev_pos rfl (ev_bindc (within_eq _ _ _) (ev_some (by simp)))
            · rw [decide_eq_false f]
              exact ev_neg (by decide) (ev_some (by simp))
          · rw [decide_eq_false l]
            exact ev_neg (by decide) (ev_some (by simp))
        · refine ev_neg k3 ?_
          rw [if_neg k3]
          exact Ev.now _
theorem impl_OpOk_ev (o : S24) (hp : (o.f1.length : Int) ≤ 1099511627776) : Ev (fun k => impl_OpOk.f k o.f0 o.f1 o.f2 o.f3 o.f4) (opB o) := by
  simp only [impl_OpOk.f]
  unfold opB pathB
  by_cases h : (o.f1.length : Int) > 12
  · refine ev_pos h (ev_eq (impl_OpOk_j0 true o) ?_)
    rw [decide_eq_false (by omega), Bool.and_false, Bool.false_and]
    rfl
  · refine ev_neg h (ev_bind (containsBad_ev o.f1 hp) (ev_eq (impl_OpOk_j0 _ o) ?_))
    rw [decide_eq_true (by omega), Bool.and_true, Bool.not_not]

/-! #### impl_ScriptOk -/
theorem scriptLit_ev (o : S24) (hp : (o.f1.length : Int) ≤ 1099511627776) : Ev (fun k => impl_ScriptOk_lit1.f k o.f0 o.f1 o.f2 o.f3 o.f4) (!opB o) := by
  simp only [impl_ScriptOk_lit1.f]
  exact ev_bind (impl_OpOk_ev o hp) (Ev.now _)
theorem idxOps_l0 (ops : List S24) (hb : OpsB ops) : ∀ (d i : Nat), i + d = ops.length → ∃ r : Int, Ev (fun k => slices_IndexFunc_Op.l0 k ops (ops.length : Int) (i : Int)) r ∧ decide (r ≥ 0) = !(ops.drop i).all opB := by
  have hl := hb.1
  intro d
  induction d with
  | zero =>
    intro i h
    refine ⟨-1, ev_succ ?_, ?_⟩
    · simp only [slices_IndexFunc_Op.l0]
      exact ev_neg (by omega) (Ev.now _)
    · rw [List.drop_eq_nil_of_le (by omega)]; rfl
  | succ d ih =>
    intro i h
    have hi : i < ops.length := by omega
    have e : rd_T24 ops (i : Int) = ops[i] := by show ops.getD i _ = _; simp [hi]
    have hp := hb.2 _ (List.getElem_mem hi)
    rw [all_drop ops opB i hi]
    by_cases c : opB ops[i] = true
    · obtain ⟨r, hr, hd⟩ := ih (i + 1) (by omega)
      refine ⟨r, ev_succ ?_, by rw [c, Bool.true_and]; exact hd⟩
      simp only [slices_IndexFunc_Op.l0]
      rw [e]
      refine ev_pos (by omega) (ev_pos (by omega) (ev_pos (by omega) (ev_bind (scriptLit_ev _ hp) ?_)))
      rw [c, w64 (x := (i : Int) + 1) (by omega) (by omega)]
      exact ev_neg (by decide) hr
    · have c' : opB ops[i] = false := by simpa using c
      refine ⟨(i : Int), ev_succ ?_, by rw [c', Bool.false_and]; simp⟩
      simp only [slices_IndexFunc_Op.l0]
      rw [e]
      refine ev_pos (by omega) (ev_pos (by omega) (ev_pos (by omega) (ev_bind (scriptLit_ev _ hp) ?_)))
      rw [c']
      exact ev_pos rfl (Ev.now _)
theorem impl_ScriptOk_ev (ops : List S24) (hb : OpsB ops) : Ev (fun k => impl_ScriptOk.f k ops) (scriptB ops) := by
  obtain ⟨r, hr, hd⟩ := idxOps_l0 ops hb ops.length 0 (by omega)
  rw [List.drop_zero] at hd
  simp only [impl_ScriptOk.f, slices_ContainsFunc_Op.f, slices_IndexFunc_Op.f]
  unfold scriptB
  by_cases h : (ops.length : Int) ≤ 60
  · refine ev_pos h (ev_bind (ev_bind hr (Ev.now _)) (ev_some ?_))
    rw [hd, Bool.not_not, decide_eq_true h, Bool.and_true]
  · refine ev_neg h (ev_some ?_)
    rw [decide_eq_false h, Bool.and_false]

/-! #### laws_eqIntS -/
theorem eqIntS_l0 (a : List Int) (hm : (a.length : Int) ≤ 9223372036854775806) : ∀ (d i : Nat), i + d = a.length → Ev (fun k => laws_eqIntS.l0 k a a i) true := by
  intro d
  induction d with
  | zero =>
    intro i h
    refine ev_succ ?_
    simp only [laws_eqIntS.l0]
    exact ev_neg (by omega) (Ev.now _)
  | succ d ih =>
    intro i h
    refine ev_succ ?_
    simp only [laws_eqIntS.l0]
    refine ev_pos (by omega) (ev_pos (by omega) (ev_pos (by omega) (ev_pos trivial ?_)))
    rw [w64 (by omega) (by omega)]
    exact ih (i + 1) (by omega)

theorem eqIntS_ev (a : List Int) (hm : (a.length : Int) ≤ 9223372036854775806) : Ev (fun k => laws_eqIntS.f k a a) true := by
  simp only [laws_eqIntS.f]
  exact ev_pos trivial (eqIntS_l0 a hm a.length 0 (by omega))

/-! #### laws_eqOp -/
theorem eqOp_self (a0 : Int) (p : List Int) (a2 a3 a4 : Int) (hp : (p.length : Int) ≤ 1099511627776) : Ev (fun k => laws_eqOp.f k a0 p a2 a3 a4 a0 p a2 a3 a4) true := by
  simp only [laws_eqOp.f]
  exact ev_pos trivial (ev_bind (eqIntS_ev p (by omega)) (ev_pos rfl (ev_pos trivial (ev_pos trivial (ev_pos trivial (Ev.now _))))))

/-! #### laws_eqOpS -/
theorem eqOpS_ev (ops : List S24) (hb : OpsB ops) : Ev (fun k => laws_eqOpS.f k ops ops) true := by
  have hl := hb.1
  have key : ∀ (d j : Nat), j + d = ops.length → Ev (fun k => laws_eqOpS.l0 k ops ops (j : Int)) true := by
    intro d
    induction d with
    | zero =>
      intro j h
      refine ev_succ ?_
      simp only [laws_eqOpS.l0]
      exact ev_neg (by omega) (Ev.now _)
    | succ d ih =>
      intro j h
      refine ev_succ ?_
      simp only [laws_eqOpS.l0]
      have hp := hb.at (j := j) (by omega)
      refine ev_pos (by omega) (ev_pos (by omega) (ev_pos (by omega) (ev_bind (eqOp_self _ _ _ _ _ hp) (ev_pos rfl ?_))))
      rw [w64 (x := (j : Int) + 1) (by omega) (by omega)]
      exact ih (j + 1) (by omega)
  simp only [laws_eqOpS.f]
  exact ev_pos trivial (key ops.length 0 (by omega))

/-! #### laws_markIntS -/
/-- a, a + 1, ..: n of them -/
def seqI (a : Int) (n : Nat) : List Int := (List.range n).map fun (j : Nat) => a + (j : Int)
theorem seqI_length (a : Int) (n : Nat) : (seqI a n).length = n := by simp [seqI]
theorem seqI_succ (a : Int) (n : Nat) : seqI a (n + 1) = seqI a n ++ [a + (n : Int)] := by simp [seqI, List.range_succ]
theorem seqI_rd (a : Int) (n i : Nat) (h : i < n) : rd (seqI a n) i = a + (i : Int) := by simp [rd, seqI, h]

theorem markIntS_l0 (l : List Int) (a : Int) (h0 : 0 ≤ a) (hm : a + l.length ≤ 9223372036854775806) : ∀ (d i : Nat), i + d = l.length → Ev (fun k => laws_markIntS.l0 k (seqI a i ++ l.drop i) (a + i) i) (a + l.length, seqI a l.length) := by
  intro d
  induction d with
  | zero =>
    intro i h
    refine ev_succ ?_
    simp only [laws_markIntS.l0]
    have e : i = l.length := by omega
    subst e
    refine ev_neg (by rw [List.length_append, seqI_length, List.length_drop]; omega) (ev_some ?_)
    rw [List.drop_length, List.append_nil]
  | succ d ih =>
    intro i h
    refine ev_succ ?_
    simp only [laws_markIntS.l0]
    refine ev_pos (by rw [List.length_append, seqI_length, List.length_drop]; omega) (ev_pos (by omega) ?_)
    rw [w64 (by omega) (by omega), w64 (by omega) (by omega)]
    have hi : i < l.length := by omega
    have e1 : (seqI a i ++ l.drop i).set ((i : Int)).toNat (a + i) = seqI a (i + 1) ++ l.drop (i + 1) := by
      rw [Int.toNat_natCast, List.set_append_right _ _ (by rw [seqI_length]; omega), seqI_length, Nat.sub_self, List.drop_eq_getElem_cons hi, List.set_cons_zero, seqI_succ, List.append_assoc]
      rfl
    rw [e1]
    have e2 : a + (i : Int) + 1 = a + ((i + 1 : Nat) : Int) := by omega
    rw [e2]
    exact ih (i + 1) (by omega)

theorem markIntS_ev (l : List Int) (a : Int) (h0 : 0 ≤ a) (hm : a + l.length ≤ 9223372036854775806) : Ev (fun k => laws_markIntS.f k l a) (a + l.length, seqI a l.length) := by
  simp only [laws_markIntS.f]
  have := markIntS_l0 l a h0 hm l.length 0 (by omega)
  simpa [seqI] using this

/-! #### laws_markOpS -/
/-- how many marks operations take -/
def opSz : List S24 → Nat
  | [] => 0
  | o :: r => o.f1.length + 4 + opSz r
/-- operations with the marks a, a + 1, .. -/
def mkO : Int → List S24 → List S24
  | _, [] => []
  | a, o :: r => ⟨a, seqI (a + 1) o.f1.length, a + 1 + o.f1.length, a + 1 + o.f1.length + 1, a + 1 + o.f1.length + 2⟩ :: mkO (a + 4 + o.f1.length) r
theorem mkO_length : ∀ (l : List S24) (a : Int), (mkO a l).length = l.length := by
  intro l
  induction l with
  | nil => intro a; rfl
  | cons o r ih => intro a; rw [mkO, List.length_cons, List.length_cons, ih]
theorem opSz_le (M : Nat) : ∀ (l : List S24), (∀ o ∈ l, o.f1.length ≤ M) → opSz l ≤ l.length * (M + 4) := by
  intro l
  induction l with
  | nil => intro _; simp [opSz]
  | cons o r ih =>
    intro h
    have h1 := ih (fun x hx => h x (List.mem_cons_of_mem _ hx))
    have h2 := h o List.mem_cons_self
    rw [opSz, List.length_cons, Nat.succ_mul]
    omega
theorem opSz_length : ∀ (l : List S24), l.length ≤ opSz l := by
  intro l
  induction l with
  | nil => exact Nat.zero_le _
  | cons o r ih => rw [opSz, List.length_cons]; omega
theorem rd_mid (P R : List S24) (o : S24) : rd_T24 (P ++ o :: R) (P.length : Int) = o := by
  show (P ++ o :: R).getD ((P.length : Int)).toNat _ = o
  rw [Int.toNat_natCast]
  simp
theorem set_mid (P R : List S24) (o x : S24) : (P ++ o :: R).set ((P.length : Int)).toNat x = P ++ x :: R := by
  rw [Int.toNat_natCast]
  simp
theorem markOpS_l0 : ∀ (R P : List S24) (a : Int), 0 ≤ a → a + opSz R ≤ 9223372036854775000 → (P.length + R.length : Int) ≤ 9223372036854775000 → Ev (fun k => laws_markOpS.l0 k (P ++ R) a (P.length : Int)) (a + opSz R, P ++ mkO a R) := by
  intro R
  induction R with
  | nil =>
    intro P a h0 h1 h2
    refine ev_succ ?_
    simp only [laws_markOpS.l0]
    refine ev_neg (by simp) (ev_some ?_)
    simp [opSz, mkO]
  | cons o r ih =>
    intro P a h0 h1 h2
    rw [opSz] at h1
    rw [List.length_cons] at h2
    refine ev_succ ?_
    simp only [laws_markOpS.l0]
    refine ev_pos (by rw [List.length_append, List.length_cons]; omega) (ev_pos (by omega) ?_)
    rw [rd_mid, w64 (x := a + 1) (by omega) (by omega)]
    refine ev_bind (markIntS_ev o.f1 (a + 1) (by omega) (by omega)) ?_
    dsimp only
    rw [w64 (x := a + 1 + (o.f1.length : Int) + 1) (by omega) (by omega), w64 (x := a + 1 + (o.f1.length : Int) + 1 + 1) (by omega) (by omega), w64 (x := a + 1 + (o.f1.length : Int) + 1 + 1 + 1) (by omega) (by omega), w64 (x := (P.length : Int) + 1) (by omega) (by omega), set_mid]
    have := ih (P ++ [⟨a, seqI (a + 1) o.f1.length, a + 1 + o.f1.length, a + 1 + o.f1.length + 1, a + 1 + o.f1.length + 2⟩]) (a + 4 + o.f1.length) (by omega) (by omega) (by rw [List.length_append, List.length_singleton]; omega)
    rw [List.length_append, List.length_singleton, List.append_assoc, List.append_assoc, List.singleton_append, List.singleton_append] at this
    have e1 : a + 4 + (o.f1.length : Int) = a + 1 + (o.f1.length : Int) + 1 + 1 + 1 := by omega
    have e2 : ((P.length + 1 : Nat) : Int) = (P.length : Int) + 1 := by omega
    have e3 : a + 1 + (o.f1.length : Int) + 1 + 1 = a + 1 + (o.f1.length : Int) + 2 := by omega
    rw [e2] at this
    rw [← e1, e3]
    refine ev_eq this ?_
    rw [mkO, opSz]
    congr 1
    omega
theorem markOpS_ev (l : List S24) (a : Int) (h0 : 0 ≤ a) (h1 : a + opSz l ≤ 9223372036854775000) : Ev (fun k => laws_markOpS.f k l a) (a + opSz l, mkO a l) := by
  simp only [laws_markOpS.f]
  have := markOpS_l0 l [] a h0 h1 (by have := opSz_length l; simp only [List.length_nil]; omega)
  simpa using this

/-! #### laws_heldIntS -/
theorem heldIntS_l0 (a : Int) (n : Nat) (h0 : 0 ≤ a) (hm : a + n ≤ 9223372036854775806) : ∀ (d i : Nat), i + d = n → Ev (fun k => laws_heldIntS.l0 k (seqI a n) (a + i) i) (a + n) := by
  intro d
  induction d with
  | zero =>
    intro i h
    refine ev_succ ?_
    simp only [laws_heldIntS.l0]
    refine ev_neg (by rw [seqI_length]; omega) (ev_some (by omega))
  | succ d ih =>
    intro i h
    refine ev_succ ?_
    simp only [laws_heldIntS.l0]
    refine ev_pos (by rw [seqI_length]; omega) (ev_pos (by omega) (ev_pos (seqI_rd a n i (by omega)) ?_))
    rw [w64 (by omega) (by omega), w64 (by omega) (by omega)]
    have e2 : a + (i : Int) + 1 = a + ((i + 1 : Nat) : Int) := by omega
    rw [e2]
    exact ih (i + 1) (by omega)

theorem heldIntS_ev (a : Int) (n : Nat) (h0 : 0 ≤ a) (hm : a + n ≤ 9223372036854775806) : Ev (fun k => laws_heldIntS.f k (seqI a n) a) (a + n) := by
  simp only [laws_heldIntS.f]
  have := heldIntS_l0 a n h0 hm n 0 (by omega)
  simpa using this

/-! #### laws_heldOpS -/
theorem heldOpS_l0 : ∀ (R P : List S24) (a : Int), 0 ≤ a → a + opSz R ≤ 9223372036854775000 → (P.length + R.length : Int) ≤ 9223372036854775000 → Ev (fun k => laws_heldOpS.l0 k (P ++ mkO a R) a (P.length : Int)) (a + opSz R) := by
  intro R
  induction R with
  | nil =>
    intro P a h0 h1 h2
    refine ev_succ ?_
    simp only [laws_heldOpS.l0]
    refine ev_neg (by simp [mkO]) (ev_some ?_)
    simp [opSz]
  | cons o r ih =>
    intro P a h0 h1 h2
    rw [opSz] at h1
    rw [List.length_cons] at h2
    refine ev_succ ?_
    simp only [laws_heldOpS.l0]
    rw [mkO]
    refine ev_pos (by rw [List.length_append, List.length_cons]; omega) (ev_pos (by omega) ?_)
    rw [rd_mid]
    dsimp only
    rw [w64 (x := a + 1) (by omega) (by omega)]
    refine ev_pos rfl (ev_bind (heldIntS_ev (a + 1) o.f1.length (by omega) (by omega)) (ev_neg (by omega) (ev_pos rfl ?_)))
    rw [w64 (x := a + 1 + (o.f1.length : Int) + 1) (by omega) (by omega), w64 (x := a + 1 + (o.f1.length : Int) + 1 + 1) (by omega) (by omega), w64 (x := a + 1 + (o.f1.length : Int) + 1 + 1 + 1) (by omega) (by omega), w64 (x := (P.length : Int) + 1) (by omega) (by omega)]
    refine ev_pos rfl (ev_pos (by omega) ?_)
    have := ih (P ++ [⟨a, seqI (a + 1) o.f1.length, a + 1 + o.f1.length, a + 1 + o.f1.length + 1, a + 1 + o.f1.length + 2⟩]) (a + 4 + o.f1.length) (by omega) (by omega) (by rw [List.length_append, List.length_singleton]; omega)
    rw [List.length_append, List.length_singleton, List.append_assoc, List.singleton_append] at this
    have e1 : a + 4 + (o.f1.length : Int) = a + 1 + (o.f1.length : Int) + 1 + 1 + 1 := by omega
    have e2 : ((P.length + 1 : Nat) : Int) = (P.length : Int) + 1 := by omega
    rw [e2] at this
    rw [← e1]
    refine ev_eq this ?_
    rw [opSz]
    omega
theorem heldOpS_ev (l : List S24) (a : Int) (h0 : 0 ≤ a) (h1 : a + opSz l ≤ 9223372036854775000) : Ev (fun k => laws_heldOpS.f k (mkO a l) a) (a + opSz l) := by
  simp only [laws_heldOpS.f]
  have := heldOpS_l0 l [] a h0 h1 (by have := opSz_length l; simp only [List.length_nil]; omega)
  simpa using this

/-! #### _opText -/
theorem sz_mk (a : Array UInt8) : (⟨a⟩ : ByteArray).size = a.size := rfl
theorem digits_le2 : ∀ (k u : Nat), u < 10 ^ (k + 1) → (Lib.decDigits u).length ≤ k + 1 := by
  intro k
  induction k with
  | zero => intro u h; rw [Lib.decDigits, dif_pos (by simpa using h)]; simp
  | succ k ih =>
    intro u h
    by_cases h1 : u < 10
    · rw [Lib.decDigits, dif_pos h1]; simp
    · rw [Lib.decDigits, dif_neg h1, List.length_append, List.length_singleton]
      have := ih (u / 10) (by rw [Nat.pow_succ] at h; omega)
      omega
/-- a number's text -/
def decT (n : Int) : ByteArray := ⟨(Lib.decDigits n.toNat).toArray⟩
theorem decT_le (n : Int) (h : n < 100) : (decT n).size ≤ 2 := by
  show (Lib.decDigits n.toNat).toArray.size ≤ 2
  rw [List.size_toArray]
  exact digits_le2 1 _ (by omega)
theorem spec_decT (n : Int) (h0 : 0 ≤ n) (h1 : n < 100) : Ev (fun k => spec_Dec.f k n) (decT n) := by
  have h := spec_Dec_ev n (by omega) (by omega)
  have e : Lib.itoa n = Lib.decDigits n.toNat := by unfold Lib.itoa; rw [if_neg (by omega)]
  rw [e] at h
  exact h
theorem impl_decT (k : Nat) (n : Int) (h0 : 0 ≤ n) (h1 : n < 100) : impl_Dec.f k n = some (decT n) := by
  unfold impl_Dec.f
  first
    | (rw [if_pos h0, if_pos h1]; rfl)
    | (rw [if_pos (by omega), if_pos (by omega)]; unfold Lib.itoa; rw [if_neg (by omega)]; rfl)
/-- texts with points between them -/
def jT (ls : List ByteArray) : ByteArray := ⟨(Lib.join (ls.map (·.data.toList)) [46]).toArray⟩
theorem jT_one (x : ByteArray) : jT [x] = x := by
  unfold jT
  rw [List.map_cons, List.map_nil, Lib.join_one]
theorem jT_snoc (ls : List ByteArray) (x : ByteArray) (h : ls ≠ []) : jT (ls ++ [x]) = (jT ls ++ ⟨#[46]⟩) ++ x := by
  cases ls with
  | nil => exact absurd rfl h
  | cons a r =>
    apply ByteArray.ext
    simp [jT, Lib.join_cons, Lib.joinTail]
theorem tail_le : ∀ (r : List ByteArray), (∀ x ∈ r, x.size ≤ 2) → (Lib.joinTail [46] (r.map (·.data.toList))).length ≤ 3 * r.length := by
  intro r
  induction r with
  | nil => intro _; exact Nat.le_refl _
  | cons a r ih =>
    intro h
    have h1 := ih (fun x hx => h x (List.mem_cons_of_mem _ hx))
    have h2 : a.data.toList.length ≤ 2 := by have := h a List.mem_cons_self; rw [Array.length_toList]; exact this
    simp only [Lib.joinTail, List.map_cons, List.flatten_cons, List.length_append, List.length_cons, List.length_nil] at h1 ⊢
    omega
theorem jT_le (ls : List ByteArray) (h : ∀ x ∈ ls, x.size ≤ 2) : (jT ls).size ≤ 3 * ls.length := by
  show (Lib.join _ _).toArray.size ≤ _
  rw [List.size_toArray]
  cases ls with
  | nil => exact Nat.le_refl _
  | cons a r =>
    rw [List.map_cons, Lib.join_cons, List.length_append, List.length_cons]
    have h1 := tail_le r (fun x hx => h x (List.mem_cons_of_mem _ hx))
    have h2 : a.data.toList.length ≤ 2 := by have := h a List.mem_cons_self; rw [Array.length_toList]; exact this
    omega
theorem join_jT (ls : List ByteArray) (h : ∀ x ∈ ls, x.size ≤ 2) (hl : ls.length ≤ 100) : strings_Join.f ls (⟨#[46]⟩ : ByteArray) = some (jT ls) := by
  have h1 := jT_le ls h
  have h2 : (Lib.join (ls.map (·.data.toList)) [46]).length ≤ 3 * ls.length := by
    have e : (jT ls).size = (Lib.join (ls.map (·.data.toList)) [46]).length := by show (Lib.join _ _).toArray.size = _; rw [List.size_toArray]
    omega
  unfold strings_Join.f
  rw [if_pos (show (Lib.join (ls.map (·.data.toList)) [46]).length ≤ 1000000 by omega), if_pos (by omega)]
  rfl
/-- a label's text -/
def labT (n : Int) : ByteArray := (spec_LabelName.f n).getD ⟨#[]⟩
theorem labT_ok (n : Int) (h : 0 ≤ n ∧ n ≤ 5) : spec_LabelName.f n = some (labT n) ∧ impl_LabelName.f n = some (labT n) ∧ (labT n).size ≤ 10 := by
  have h2 : n = 0 ∨ n = 1 ∨ n = 2 ∨ n = 3 ∨ n = 4 ∨ n = 5 := by omega
  rcases h2 with rfl | rfl | rfl | rfl | rfl | rfl <;> exact ⟨rfl, rfl, by decide⟩
theorem rd_get (p : List Int) (i : Nat) (hi : i < p.length) : rd p (i : Int) = p[i] := by
  unfold rd
  rw [Int.toNat_natCast, List.getD_eq_getElem?_getD, List.getElem?_eq_getElem hi]
  rfl
theorem take_dec (p : List Int) (i : Nat) (hi : i < p.length) : (p.take (i + 1)).map decT = (p.take i).map decT ++ [decT p[i]] := by
  rw [List.take_add_one, List.getElem?_eq_getElem hi, List.map_append]
  rfl
theorem dec_small (p : List Int) (hp : ∀ x ∈ p, 0 ≤ x ∧ x < 100) (i : Nat) : ∀ x ∈ (p.take i).map decT, x.size ≤ 2 := by
  intro x hx
  obtain ⟨y, hy, rfl⟩ := List.mem_map.1 hx
  exact decT_le y (hp y (List.mem_of_mem_take hy)).2
theorem l23Path_l0 (p : List Int) (hp : ∀ x ∈ p, 0 ≤ x ∧ x < 100) (hl : p.length ≤ 12) : ∀ (d i : Nat), i + d = p.length → Ev (fun k => spec_l23Path.l0 k p (⟨#[46]⟩ ++ jT ((p.take i).map decT)) (i : Int)) (⟨#[46]⟩ ++ jT (p.map decT)) := by
  intro d
  induction d with
  | zero =>
    intro i h
    refine ev_succ ?_
    simp only [spec_l23Path.l0]
    refine ev_neg (by omega) (ev_some ?_)
    rw [List.take_of_length_le (by omega)]
  | succ d ih =>
    intro i h
    have hi : i < p.length := by omega
    have hx := hp p[i] (List.getElem_mem hi)
    have hs := jT_le _ (dec_small p hp i)
    rw [List.length_map, List.length_take] at hs
    have hd := decT_le p[i] hx.2
    have hih := ih (i + 1) (by omega)
    refine ev_succ ?_
    simp only [spec_l23Path.l0]
    rw [rd_get p i hi, w64 (x := (i : Int) + 1) (by omega) (by omega)]
    refine ev_pos (by omega) ?_
    by_cases h0 : i = 0
    · subst h0
      refine ev_neg (by omega) (ev_pos (by omega) (ev_bind (spec_decT _ hx.1 hx.2) (ev_pos ?_ ?_)))
      · simp only [ByteArray.size_append, sz_mk, List.size_toArray, List.length_cons, List.length_nil]; omega
      · rw [take_dec p 0 hi] at hih
        have e : (⟨#[46]⟩ ++ jT ((p.take 0).map decT)) ++ decT p[0] = ⟨#[46]⟩ ++ jT ((p.take 0).map decT ++ [decT p[0]]) := by
          show (⟨#[46]⟩ ++ jT []) ++ decT p[0] = ⟨#[46]⟩ ++ jT [decT p[0]]
          rw [jT_one]
          rfl
        rw [e]
        exact hih
    · refine ev_pos (by omega) (ev_pos ?_ (ev_pos (by omega) (ev_bind (spec_decT _ hx.1 hx.2) (ev_pos ?_ ?_))))
      · simp only [ByteArray.size_append, sz_mk, List.size_toArray, List.length_cons, List.length_nil]; omega
      · simp only [ByteArray.size_append, sz_mk, List.size_toArray, List.length_cons, List.length_nil]; omega
      · have hne : (p.take i).map decT ≠ [] := by
          intro e
          have := congrArg List.length e
          rw [List.length_map, List.length_take, List.length_nil] at this
          omega
        rw [take_dec p i hi, jT_snoc _ _ hne] at hih
        simp only [ByteArray.append_assoc] at hih ⊢
        exact hih
theorem l23Path_ev (p : List Int) (hp : ∀ x ∈ p, 0 ≤ x ∧ x < 100) (hl : p.length ≤ 12) : Ev (fun k => spec_l23Path.f k p) (⟨#[46]⟩ ++ jT (p.map decT)) := by
  simp only [spec_l23Path.f]
  exact l23Path_l0 p hp hl p.length 0 (by omega)
theorem implOpText_l0 (p : List Int) (hp : ∀ x ∈ p, 0 ≤ x ∧ x < 100) (hl : p.length ≤ 12) (a b c e : Int) (q : List Int) (r : ByteArray) (hr : Ev (fun k => impl_OpText.l0 k (p.map decT) p (p.length : Int) (p.length : Int) a q b c e) r) : ∀ (d i : Nat), i + d = p.length → Ev (fun k => impl_OpText.l0 k ((p.take i).map decT) p (p.length : Int) (i : Int) a q b c e) r := by
  intro d
  induction d with
  | zero =>
    intro i h
    rw [List.take_of_length_le (by omega), show i = p.length by omega]
    exact hr
  | succ d ih =>
    intro i h
    have hi : i < p.length := by omega
    have hx := hp p[i] (List.getElem_mem hi)
    have hih := ih (i + 1) (by omega)
    rw [take_dec p i hi] at hih
    refine ev_succ ?_
    simp only [impl_OpText.l0]
    rw [rd_get p i hi, w64 (x := (i : Int) + 1) (by omega) (by omega)]
    refine ev_pos (by omega) (ev_pos (by omega) (ev_pos (by omega) (ev_bind ⟨0, fun k _ => impl_decT k _ hx.1 hx.2⟩ (ev_pos ?_ hih))))
    rw [List.length_map, List.length_take]; omega
theorem point_in (a J : ByteArray) : (a ++ ⟨#[32]⟩) ++ (⟨#[46]⟩ ++ J) = a ++ (⟨#[32, 46]⟩ ++ J) := by
  rw [ByteArray.append_assoc]
  congr 1
/-- the text of an operation that is one -/
def opForm (a : Int) (p : List Int) (b c d : Int) : ByteArray :=
  if a = 1 then ((⟨#[114, 101, 108, 97, 98, 101, 108]⟩ ++ (⟨#[32, 46]⟩ ++ jT (p.map decT))) ++ ⟨#[32]⟩) ++ labT b
  else if a = 2 then ⟨#[100, 101, 108, 101, 116, 101]⟩ ++ (⟨#[32, 46]⟩ ++ jT (p.map decT))
  else ((((((⟨#[105, 110, 115, 101, 114, 116]⟩ ++ (⟨#[32, 46]⟩ ++ jT (p.map decT))) ++ ⟨#[32]⟩) ++ labT b) ++ ⟨#[32]⟩) ++ decT c) ++ ⟨#[32]⟩) ++ decT d
def opT (o : S24) : ByteArray := if opB o = true then opForm o.f0 o.f1 o.f2 o.f3 o.f4 else ⟨#[]⟩
theorem OpText_form (o : S24) (hp : (o.f1.length : Int) ≤ 1099511627776) : (opT o).size ≤ 200 ∧ Ev (fun k => spec_OpText.f k o.f0 o.f1 o.f2 o.f3 o.f4) (opT o) ∧ Ev (fun k => impl_OpText.f k o.f0 o.f1 o.f2 o.f3 o.f4) (opT o) := by
  have h1 := spec_OpOk_ev o hp
  have h2 := impl_OpOk_ev o hp
  by_cases hb : opB o = true
  · obtain ⟨x0, p, x2, x3, x4⟩ := o
    simp only at h1 h2 hp ⊢
    rw [hb] at h1 h2
    have hb' := hb
    simp only [opB, Bool.and_eq_true, pathB, decide_eq_true_eq] at hb'
    obtain ⟨⟨ha, hl⟩, hR⟩ := hb'
    have hq : ∀ x ∈ p, 0 ≤ x ∧ x < 100 := by
      intro x hx
      have := of_decide_eq_true (List.all_eq_true.1 ha x hx)
      omega
    have hP := l23Path_ev p hq (by omega)
    have hJ := join_jT _ (dec_small p hq p.length) (by simp; omega)
    have hs := jT_le _ (dec_small p hq p.length)
    rw [List.take_of_length_le (Nat.le_refl _)] at hJ hs
    rw [List.length_map] at hs
    obtain ⟨J, eJ⟩ : ∃ J, jT (p.map decT) = J := ⟨_, rfl⟩
    rw [eJ] at hP hJ hs
    have eT : opT ⟨x0, p, x2, x3, x4⟩ = opForm x0 p x2 x3 x4 := by unfold opT; rw [if_pos hb]
    rw [eT]
    clear eT
    have start : ∀ r, Ev (fun k => impl_OpText.l0 k (p.map decT) p (p.length : Int) (p.length : Int) x0 p x2 x3 x4) r → Ev (fun k => impl_OpText.f k x0 p x2 x3 x4) r := by
      intro r hr
      simp only [impl_OpText.f]
      exact ev_bind h2 (ev_pos rfl (implOpText_l0 p hq (by omega) x0 x2 x3 x4 p r hr p.length 0 (by omega)))
    by_cases k1 : x0 = 1
    · subst k1
      unfold restB at hR
      rw [if_pos rfl] at hR
      simp only [Bool.and_eq_true, decide_eq_true_eq] at hR
      obtain ⟨e1, e2, e3⟩ := labT_ok x2 hR.1
      obtain ⟨t, et⟩ : ∃ t, labT x2 = t := ⟨_, rfl⟩
      rw [et] at e1 e2 e3
      rw [show opForm 1 p x2 x3 x4 = ((⟨#[114, 101, 108, 97, 98, 101, 108]⟩ ++ (⟨#[32, 46]⟩ ++ J)) ++ ⟨#[32]⟩) ++ t by unfold opForm; rw [if_pos rfl, eJ, et]]
      refine ⟨?_, ?_, start _ ?_⟩
      · simp only [ByteArray.size_append, sz_mk, List.size_toArray, List.length_cons, List.length_nil]; omega
      · simp only [spec_OpText.f]
        refine ev_bind h1 (ev_pos rfl (ev_bindc rfl (ev_pos (by omega) (ev_pos (by decide) (ev_pos (by decide) (ev_bind hP (ev_pos ?_ (ev_neg (by omega) (ev_pos ?_ (ev_bindc e1 (ev_pos ?_ (ev_succ ?_))))))))))))
        · show ((⟨#[114, 101, 108, 97, 98, 101, 108]⟩ : ByteArray) ++ ⟨#[32]⟩).size + _ ≤ _
          simp only [ByteArray.size_append, sz_mk, List.size_toArray, List.length_cons, List.length_nil]; omega
        · show (((⟨#[114, 101, 108, 97, 98, 101, 108]⟩ : ByteArray) ++ ⟨#[32]⟩) ++ _).size + 1 ≤ _
          simp only [ByteArray.size_append, sz_mk, List.size_toArray, List.length_cons, List.length_nil]; omega
        · show ((((⟨#[114, 101, 108, 97, 98, 101, 108]⟩ : ByteArray) ++ ⟨#[32]⟩) ++ _) ++ _).size + _ ≤ _
          simp only [ByteArray.size_append, sz_mk, List.size_toArray, List.length_cons, List.length_nil]; omega
        · simp only [spec_OpText.j0]
          refine ev_neg (by omega) (ev_some ?_)
          show ((((⟨#[114, 101, 108, 97, 98, 101, 108]⟩ : ByteArray) ++ ⟨#[32]⟩) ++ (⟨#[46]⟩ ++ J)) ++ ⟨#[32]⟩) ++ t = _
          rw [point_in]
      · refine ev_succ ?_
        simp only [impl_OpText.l0]
        refine ev_neg (by omega) (ev_bindc hJ (ev_pos ?_ (ev_pos (by simp) (ev_pos ?_ (ev_pos ?_ (ev_bindc e2 (ev_pos ?_ (ev_some rfl))))))))
        all_goals (try simp only [ByteArray.size_append, sz_mk, List.size_toArray, List.length_cons, List.length_nil]); omega
    · by_cases k2 : x0 = 2
      · subst k2
        rw [show opForm 2 p x2 x3 x4 = ⟨#[100, 101, 108, 101, 116, 101]⟩ ++ (⟨#[32, 46]⟩ ++ J) by unfold opForm; rw [if_neg (by omega), if_pos rfl, eJ]]
        refine ⟨?_, ?_, start _ ?_⟩
        · simp only [ByteArray.size_append, sz_mk, List.size_toArray, List.length_cons, List.length_nil]; omega
        · simp only [spec_OpText.f]
          refine ev_bind h1 (ev_pos rfl (ev_bindc rfl (ev_pos (by omega) (ev_pos (by decide) (ev_pos (by decide) (ev_bind hP (ev_pos ?_ (ev_pos (by simp) (ev_succ ?_)))))))))
          · show ((⟨#[100, 101, 108, 101, 116, 101]⟩ : ByteArray) ++ ⟨#[32]⟩).size + _ ≤ _
            simp only [ByteArray.size_append, sz_mk, List.size_toArray, List.length_cons, List.length_nil]; omega
          · simp only [spec_OpText.j0]
            refine ev_neg (by omega) (ev_some ?_)
            show ((⟨#[100, 101, 108, 101, 116, 101]⟩ : ByteArray) ++ ⟨#[32]⟩) ++ (⟨#[46]⟩ ++ J) = _
            rw [point_in]
        · refine ev_succ ?_
          simp only [impl_OpText.l0]
          refine ev_neg (by omega) (ev_bindc hJ (ev_pos ?_ (ev_neg (by omega) (ev_pos (by simp) (ev_pos ?_ (ev_some rfl))))))
          all_goals (try simp only [ByteArray.size_append, sz_mk, List.size_toArray, List.length_cons, List.length_nil]); omega
      · by_cases k3 : x0 = 3
        · subst k3
          unfold restB at hR
          rw [if_neg (by omega), if_neg (by omega), if_pos rfl] at hR
          simp only [Bool.and_eq_true, decide_eq_true_eq] at hR
          obtain ⟨e1, e2, e3⟩ := labT_ok x2 hR.1
          have d3 := decT_le x3 (by omega)
          have d4 := decT_le x4 (by omega)
          have s3 := spec_decT x3 (by omega) (by omega)
          have s4 := spec_decT x4 (by omega) (by omega)
          have i3 : Ev (fun k => impl_Dec.f k x3) (decT x3) := ⟨0, fun k _ => impl_decT k x3 (by omega) (by omega)⟩
          have i4 : Ev (fun k => impl_Dec.f k x4) (decT x4) := ⟨0, fun k _ => impl_decT k x4 (by omega) (by omega)⟩
          obtain ⟨t, et⟩ : ∃ t, labT x2 = t := ⟨_, rfl⟩
          obtain ⟨u3, eu3⟩ : ∃ t, decT x3 = t := ⟨_, rfl⟩
          obtain ⟨u4, eu4⟩ : ∃ t, decT x4 = t := ⟨_, rfl⟩
          rw [et] at e1 e2 e3
          rw [eu3] at d3 s3 i3
          rw [eu4] at d4 s4 i4
          rw [show opForm 3 p x2 x3 x4 = ((((((⟨#[105, 110, 115, 101, 114, 116]⟩ ++ (⟨#[32, 46]⟩ ++ J)) ++ ⟨#[32]⟩) ++ t) ++ ⟨#[32]⟩) ++ u3) ++ ⟨#[32]⟩) ++ u4 by unfold opForm; rw [if_neg (by omega), if_neg (by omega), eJ, et, eu3, eu4]]
          refine ⟨?_, ?_, start _ ?_⟩
          · simp only [ByteArray.size_append, sz_mk, List.size_toArray, List.length_cons, List.length_nil]; omega
          · simp only [spec_OpText.f]
            refine ev_bind h1 (ev_pos rfl (ev_bindc rfl (ev_pos (by omega) (ev_pos (by decide) (ev_pos (by decide) (ev_bind hP (ev_pos ?_ (ev_neg (by omega) (ev_pos ?_ (ev_bindc e1 (ev_pos ?_ (ev_succ ?_))))))))))))
            · show ((⟨#[105, 110, 115, 101, 114, 116]⟩ : ByteArray) ++ ⟨#[32]⟩).size + _ ≤ _
              simp only [ByteArray.size_append, sz_mk, List.size_toArray, List.length_cons, List.length_nil]; omega
            · show (((⟨#[105, 110, 115, 101, 114, 116]⟩ : ByteArray) ++ ⟨#[32]⟩) ++ _).size + 1 ≤ _
              simp only [ByteArray.size_append, sz_mk, List.size_toArray, List.length_cons, List.length_nil]; omega
            · show ((((⟨#[105, 110, 115, 101, 114, 116]⟩ : ByteArray) ++ ⟨#[32]⟩) ++ _) ++ _).size + _ ≤ _
              simp only [ByteArray.size_append, sz_mk, List.size_toArray, List.length_cons, List.length_nil]; omega
            · have e : ((((rdOf ByteArray.empty [(⟨#[]⟩ : ByteArray), (⟨#[114, 101, 108, 97, 98, 101, 108]⟩ : ByteArray), (⟨#[100, 101, 108, 101, 116, 101]⟩ : ByteArray), (⟨#[105, 110, 115, 101, 114, 116]⟩ : ByteArray)] 3) ++ (⟨#[32]⟩ : ByteArray)) ++ ((⟨#[46]⟩ : ByteArray) ++ J)) ++ ⟨#[32]⟩) ++ t = ((⟨#[105, 110, 115, 101, 114, 116]⟩ ++ (⟨#[32, 46]⟩ ++ J)) ++ ⟨#[32]⟩) ++ t := by
                rw [point_in]
                rfl
              rw [e]
              simp only [spec_OpText.j0]
              refine ev_pos (by simp) (ev_pos ?_ (ev_bind s3 (ev_pos ?_ (ev_pos ?_ (ev_bind s4 (ev_pos ?_ (ev_some rfl)))))))
              all_goals (try simp only [ByteArray.size_append, sz_mk, List.size_toArray, List.length_cons, List.length_nil]); omega
          · refine ev_succ ?_
            simp only [impl_OpText.l0]
            refine ev_neg (by omega) (ev_bindc hJ (ev_pos ?_ (ev_neg (by omega) (ev_neg (by omega) (ev_pos ?_ (ev_pos ?_ (ev_bindc e2 (ev_pos ?_ (ev_pos ?_ (ev_bind i3 (ev_pos ?_ (ev_pos ?_ (ev_bind i4 (ev_pos ?_ (ev_some rfl)))))))))))))))
            all_goals (try simp only [ByteArray.size_append, sz_mk, List.size_toArray, List.length_cons, List.length_nil]); omega
        · simp only [restB, if_neg k1, if_neg k2, if_neg k3] at hR
          cases hR
  · rw [show opT o = ⟨#[]⟩ by unfold opT; rw [if_neg hb]]
    refine ⟨by decide, ?_, ?_⟩
    · simp only [spec_OpText.f]
      exact ev_bind h1 (ev_neg hb (Ev.now _))
    · simp only [impl_OpText.f]
      exact ev_bind h2 (ev_neg hb (Ev.now _))
theorem OpText_both (o : S24) (hp : (o.f1.length : Int) ≤ 1099511627776) : ∃ r, r.size ≤ 200 ∧ Ev (fun k => spec_OpText.f k o.f0 o.f1 o.f2 o.f3 o.f4) r ∧ Ev (fun k => impl_OpText.f k o.f0 o.f1 o.f2 o.f3 o.f4) r := ⟨_, OpText_form o hp⟩

/-! #### _readCut -/
open Go.Proofs.YtlfmlagdnebkiaaDoor.Cut
theorem bt_get (s : ByteArray) (i : Nat) (h : i < s.data.toList.length) : bt s (i : Int) = (s.data.toList[i].toNat : Int) := by
  have h1 : (i : Int).toNat < s.size := by rw [Int.toNat_natCast, Lib.size_eq]; exact h
  unfold bt
  rw [dif_pos h1]
  rfl
theorem ext_mk (s : ByteArray) (a b : Nat) : s.extract a b = mkB ((s.data.toList.drop a).take (b - a)) := by
  rw [← Lib.extract_data, mkB_of]
theorem ext_to (s : ByteArray) (a : Nat) : s.extract a s.size = mkB (s.data.toList.drop a) := by
  rw [← Lib.extract_to_end, mkB_of]
theorem toNat_eq {a b : UInt8} (h : (a.toNat : Int) = (b.toNat : Int)) : a = b := UInt8.toNat_inj.1 (by omega)
theorem l23Cut_l0 (s : ByteArray) (c : UInt8) (hs : s.size ≤ 4398046511104) : ∀ (d i fr : Nat) (out : List ByteArray), i + d = s.size → fr ≤ i → c ∉ (s.data.toList.drop fr).take (i - fr) → out.length ≤ fr → Ev (fun k => spec_l23Cut.l0 k s (c.toNat : Int) out (fr : Int) (i : Int)) (out ++ (cutL c (s.data.toList.drop fr)).map mkB) := by
  intro d
  have hL := Lib.size_eq s
  induction d with
  | zero =>
    intro i fr out h1 h2 h3 h4
    refine ev_succ ?_
    simp only [spec_l23Cut.l0]
    refine ev_neg (by omega) (ev_pos (by omega) (ev_pos (by omega) (ev_pos (by omega) (ev_some ?_))))
    rw [List.take_of_length_le (by rw [List.length_drop]; omega)] at h3
    rw [cutL_free c _ h3, Int.toNat_natCast, ext_to]
    rfl
  | succ d ih =>
    intro i fr out h1 h2 h3 h4
    have hi : i < s.data.toList.length := by omega
    refine ev_succ ?_
    simp only [spec_l23Cut.l0]
    rw [bt_get s i hi, w64 (x := (i : Int) + 1) (by omega) (by omega)]
    refine ev_pos (by omega) (ev_pos (by omega) ?_)
    have hd : s.data.toList.drop fr = (s.data.toList.drop fr).take (i - fr) ++ s.data.toList[i] :: s.data.toList.drop (i + 1) := by
      have e1 : (s.data.toList.drop fr).drop (i - fr) = s.data.toList[i] :: s.data.toList.drop (i + 1) := by
        rw [List.drop_drop, show fr + (i - fr) = i by omega, List.drop_eq_getElem_cons hi]
      rw [← e1, List.take_append_drop]
    by_cases hc : s.data.toList[i] = c
    · have hh := ih (i + 1) (i + 1) (out ++ [s.extract fr i]) (by omega) (Nat.le_refl _) (by simp) (by simp; omega)
      refine ev_pos (by rw [hc]) (ev_pos (by omega) (ev_pos (by omega) (ev_pos (by omega) (ev_pos (by omega) ?_))))
      rw [Int.toNat_natCast, Int.toNat_natCast]
      refine ev_eq hh ?_
      rw [hc] at hd
      rw [hd, cutL_app c _ _ h3, ext_mk]
      simp
    · have hh := ih (i + 1) fr out (by omega) (by omega) (by
        rw [show i + 1 - fr = (i - fr) + 1 by omega, List.take_add_one, List.getElem?_drop, show fr + (i - fr) = i by omega, List.getElem?_eq_getElem hi]
        intro hm
        rcases List.mem_append.1 hm with hm | hm
        · exact h3 hm
        · simp at hm
          exact hc hm.symm) h4
      exact ev_neg (fun e => hc (toNat_eq e)) hh
theorem l23Cut_ev (s : ByteArray) (c : UInt8) (hs : s.size ≤ 4398046511104) : Ev (fun k => spec_l23Cut.f k s (c.toNat : Int)) ((cutL c s.data.toList).map mkB) := by
  simp only [spec_l23Cut.f]
  exact ev_eq (l23Cut_l0 s c hs s.size 0 0 [] (by omega) (Nat.le_refl _) (by simp) (Nat.le_refl _)) (by simp)
theorem split_eq (k : Nat) (s : ByteArray) (c : UInt8) (hs : s.size ≤ 4294967000) : strings_Split.f k s ⟨#[c]⟩ = some ((cutL c s.data.toList).map mkB) := by
  unfold strings_Split.f
  rw [if_pos (by omega), if_pos (show 1 ≤ (⟨#[c]⟩ : ByteArray).size from Nat.le_refl 1), splitB_cut]
theorem labT_inj (i j : Int) (hi : 0 ≤ i ∧ i ≤ 5) (hj : 0 ≤ j ∧ j ≤ 5) (h : labT i = labT j) : i = j := by
  have h1 : i = 0 ∨ i = 1 ∨ i = 2 ∨ i = 3 ∨ i = 4 ∨ i = 5 := by omega
  have h2 : j = 0 ∨ j = 1 ∨ j = 2 ∨ j = 3 ∨ j = 4 ∨ j = 5 := by omega
  rcases h1 with rfl | rfl | rfl | rfl | rfl | rfl <;> rcases h2 with rfl | rfl | rfl | rfl | rfl | rfl <;> first | rfl | exact absurd h (by decide)
theorem list_eq {a b : ByteArray} : a.toList = b.toList ↔ a = b := by
  rw [Lib.toList_data, Lib.toList_data]
  exact ⟨fun h => ByteArray.ext (Array.toList_inj.mp h), fun h => by rw [h]⟩
theorem specLabelOf (s : ByteArray) : ∃ v, Ev (fun k => spec_LabelOf.f k s) v ∧ ∀ n, 0 ≤ n ∧ n ≤ 5 → s = labT n → v = n := by
  have key : ∀ (d i : Nat), i + d = 6 → (∀ n : Int, 0 ≤ n → n < (i : Int) → labT n ≠ s) → ∃ v, Ev (fun k => spec_LabelOf.l0 k s (i : Int)) v ∧ ∀ n, 0 ≤ n ∧ n ≤ 5 → s = labT n → v = n := by
    intro d
    induction d with
    | zero =>
      intro i h1 h2
      refine ⟨-1, ev_succ ?_, fun n hn e => absurd e.symm (h2 n hn.1 (by omega))⟩
      simp only [spec_LabelOf.l0]
      exact ev_neg (by omega) (Ev.now _)
    | succ d ih =>
      intro i h1 h2
      have hl := labT_ok (i : Int) (by omega)
      by_cases he : labT (i : Int) = s
      · refine ⟨(i : Int), ev_succ ?_, fun n hn e => labT_inj _ _ (by omega) hn (he.trans e)⟩
        simp only [spec_LabelOf.l0]
        exact ev_pos (by omega) (ev_bindc hl.1 (ev_pos (list_eq.2 he) (Ev.now _)))
      · obtain ⟨v, hv, hp⟩ := ih (i + 1) (by omega) (fun n hn hn2 => by
          by_cases e : n = (i : Int)
          · rw [e]; exact he
          · exact h2 n hn (by omega))
        refine ⟨v, ev_succ ?_, hp⟩
        simp only [spec_LabelOf.l0]
        rw [w64 (x := (i : Int) + 1) (by omega) (by omega)]
        exact ev_pos (by omega) (ev_bindc hl.1 (ev_neg (fun e => he (list_eq.1 e)) hv))
  exact key 6 0 rfl (fun n h1 h2 => by omega)
theorem implLabelOf (s : ByteArray) : ∃ v, Ev (fun k => impl_LabelOf.f k s) v ∧ ∀ n, 0 ≤ n ∧ n ≤ 5 → s = labT n → v = n := by
  have key : ∀ (d i : Nat), i + d = 6 → (∀ n : Int, 0 ≤ n → n < (i : Int) → labT n ≠ s) → ∃ v, Ev (fun k => impl_LabelOf.l0 k s (i : Int)) v ∧ ∀ n, 0 ≤ n ∧ n ≤ 5 → s = labT n → v = n := by
    intro d
    induction d with
    | zero =>
      intro i h1 h2
      refine ⟨-1, ev_succ ?_, fun n hn e => absurd e.symm (h2 n hn.1 (by omega))⟩
      simp only [impl_LabelOf.l0]
      exact ev_neg (by omega) (Ev.now _)
    | succ d ih =>
      intro i h1 h2
      have hl := labT_ok (i : Int) (by omega)
      by_cases he : labT (i : Int) = s
      · refine ⟨(i : Int), ev_succ ?_, fun n hn e => labT_inj _ _ (by omega) hn (he.trans e)⟩
        simp only [impl_LabelOf.l0]
        exact ev_pos (by omega) (ev_bindc hl.2.1 (ev_pos (list_eq.2 he) (Ev.now _)))
      · obtain ⟨v, hv, hp⟩ := ih (i + 1) (by omega) (fun n hn hn2 => by
          by_cases e : n = (i : Int)
          · rw [e]; exact he
          · exact h2 n hn (by omega))
        refine ⟨v, ev_succ ?_, hp⟩
        simp only [impl_LabelOf.l0]
        rw [w64 (x := (i : Int) + 1) (by omega) (by omega)]
        exact ev_pos (by omega) (ev_bindc hl.2.1 (ev_neg (fun e => he (list_eq.1 e)) hv))
  exact key 6 0 rfl (fun n h1 h2 => by omega)

end Go.Proofs.YtlfmlagdnebkiaaDoor.QFnExactReadScript
