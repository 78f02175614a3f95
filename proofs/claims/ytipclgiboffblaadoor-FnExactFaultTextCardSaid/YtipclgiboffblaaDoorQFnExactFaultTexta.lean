/- What the printed functions of the law FnExactFaultText come to, function by function, from some number of rounds on; each under the bounds that it names. -/
import Derived.Test.YtipclgiboffblaaDoorMFnExactFaultTextx
import Derived.Test.YtipclgiboffblaaDoorMFnExactFaultTextEvAid
import Derived.Test.YtipclgiboffblaaDoorMFnExactFaultTextOpens
namespace Go.Proofs.YtipclgiboffblaaDoor.QFnExactFaultText
open Go.RowKit Go.Proofs.YtipclgiboffblaaDoor.PFnExactFaultText Go.Proofs.YtipclgiboffblaaDoorW.PrintWords Go.Proofs.YtipclgiboffblaaDoorW.PrintLast Go.Proofs.YtipclgiboffblaaDoorW.PrintMore Go.Proofs.YtipclgiboffblaaDoor.EvAid Go.Proofs.YtipclgiboffblaaDoor
set_option linter.unusedVariables false
set_option linter.unusedSimpArgs false

/-! #### spec_l1In -/
theorem l1In_eq (a b c : Int) : spec_l1In.f a b c = some (decide (b ≤ a ∧ a ≤ c)) := by
  unfold spec_l1In.f
  by_cases h : a ≥ b
  · rw [if_pos h]; have h' : b ≤ a := h; simp [h']
  · rw [if_neg h]; have h' : ¬ b ≤ a := h; simp [h']

/-! #### spec_Dec -/
def dD (u : Nat) : ByteArray := ⟨(Lib.decDigits u).toArray⟩
theorem dD_small {u : Nat} (h : u < 10) : dD u = ⟨#[UInt8.ofNat (48 + u)]⟩ := by unfold dD; rw [Lib.decDigits, dif_pos h]
theorem dD_big {u : Nat} (h : ¬ u < 10) : dD u = dD (u / 10) ++ ⟨#[UInt8.ofNat (48 + u % 10)]⟩ := by
  unfold dD
  rw [Lib.decDigits, dif_neg h]
  apply ByteArray.ext
  simp
theorem one_digit (d : Nat) (h : d < 10) : strOfNums [((48 + (d : Int)) % 256 : Int)] = ⟨#[UInt8.ofNat (48 + d)]⟩ := by
  unfold strOfNums
  have e : ((48 + (d : Int)) % 256).toNat = 48 + d := by omega
  simp [e]
theorem dD_step (u : Nat) (hu : u ≠ 0) (acc : ByteArray) : (if u / 10 = 0 then (⟨#[UInt8.ofNat (48 + u % 10)]⟩ ++ acc : ByteArray) else dD (u / 10) ++ (⟨#[UInt8.ofNat (48 + u % 10)]⟩ ++ acc)) = dD u ++ acc := by
  by_cases h : u < 10
  · rw [if_pos (by omega), dD_small h, Nat.mod_eq_of_lt h]
  · rw [if_neg (by omega), dD_big h, ByteArray.append_assoc]
theorem spec_Dec_l0 (neg : Bool) : ∀ (u : Nat) (acc : ByteArray), acc.size ≤ 64 → u * 2 ^ acc.size ≤ 2 ^ 63 → Ev (fun k => spec_Dec.l0 k (if neg = true then -(u : Int) else (u : Int)) acc neg) (if u = 0 then (if neg = true then ⟨#[45]⟩ ++ acc else acc) else (if neg = true then ⟨#[45]⟩ ++ (dD u ++ acc) else dD u ++ acc)) := by
  intro u
  induction u using Nat.strongRecOn with
  | _ u ih =>
    intro acc h1 h2
    refine ev_succ ?_
    simp only [spec_Dec.l0]
    by_cases hu : u = 0
    · subst hu
      rw [if_pos rfl]
      cases neg with
      | false => exact ev_pos rfl (ev_neg (by simp) (Ev.now _))
      | true => exact ev_pos rfl (ev_pos rfl (ev_pos (by omega) (Ev.now _)))
    · rw [if_neg hu]
      have ha : acc.size ≤ 63 := by
        have h3 : 1 * 2 ^ acc.size ≤ 2 ^ 63 := Nat.le_trans (Nat.mul_le_mul_right _ (by omega)) h2
        rw [Nat.one_mul] at h3
        exact (Nat.pow_le_pow_iff_right (by decide)).1 h3
      have hub : u ≤ 2 ^ 63 := Nat.le_trans (by have := Nat.pos_of_ne_zero (Nat.pos_iff_ne_zero.1 (Nat.two_pow_pos acc.size)); exact Nat.le_mul_of_pos_right u this) h2
      have hd : u % 10 < 10 := Nat.mod_lt _ (by decide)
      have hs : ((⟨#[UInt8.ofNat (48 + u % 10)]⟩ : ByteArray) ++ acc).size = acc.size + 1 := by rw [ByteArray.size_append]; show 1 + acc.size = _; omega
      have hst : (u / 10) * 2 ^ (acc.size + 1) ≤ 2 ^ 63 := by
        refine Nat.le_trans ?_ h2
        rw [Nat.pow_succ, ← Nat.mul_assoc, Nat.mul_right_comm]
        exact Nat.mul_le_mul_right _ (by omega)
      have hih := ih (u / 10) (by omega) (⟨#[UInt8.ofNat (48 + u % 10)]⟩ ++ acc) (by omega) (by rw [hs]; exact hst)
      have e1 : Int.tmod (u : Int) 10 = ((u % 10 : Nat) : Int) := by rw [Int.tmod_eq_emod_of_nonneg (by omega)]; omega
      have e2 : Int.tdiv (u : Int) 10 = ((u / 10 : Nat) : Int) := by rw [Int.tdiv_eq_ediv_of_nonneg (by omega)]; omega
      have e3 : (2 : Nat) ^ 63 = 9223372036854775808 := by decide
      rw [e3] at hub
      cases neg with
      | false =>
        simp only [if_neg Bool.false_ne_true] at hih ⊢
        refine ev_neg (by omega) ?_
        rw [e1, e2]
        refine ev_neg (by omega) (ev_bindc rfl ?_)
        rw [w64 (x := 48 + ((u % 10 : Nat) : Int)) (by omega) (by omega), one_digit _ hd, w64 (x := ((u / 10 : Nat) : Int)) (by omega) (by omega)]
        refine ev_pos (by show 1 + acc.size ≤ _; omega) (ev_eq hih ?_)
        exact dD_step u hu acc
      | true =>
        simp only [if_pos] at hih ⊢
        refine ev_neg (by omega) ?_
        rw [Int.neg_tmod, Int.neg_tdiv, e1, e2]
        rw [w64 (x := -((u / 10 : Nat) : Int)) (by omega) (by omega)]
        have fin : (if u / 10 = 0 then (⟨#[45]⟩ ++ (⟨#[UInt8.ofNat (48 + u % 10)]⟩ ++ acc) : ByteArray) else ⟨#[45]⟩ ++ (dD (u / 10) ++ (⟨#[UInt8.ofNat (48 + u % 10)]⟩ ++ acc))) = ⟨#[45]⟩ ++ (dD u ++ acc) := by
          rw [← dD_step u hu acc]
          split <;> rfl
        by_cases hz : u % 10 = 0
        · rw [hz] at hih fin hs
          rw [hz]
          refine ev_neg (by simp) (ev_bindc rfl ?_)
          rw [w64 (x := 48 + -((0 : Nat) : Int)) (by omega) (by omega), show (48 + -((0 : Nat) : Int)) = 48 + ((0 : Nat) : Int) by omega, one_digit 0 (by decide)]
          exact ev_pos (by show 1 + acc.size ≤ _; omega) (ev_eq hih fin)
        · refine ev_pos (by omega) (ev_bindc rfl ?_)
          rw [Int.neg_neg, w64 (x := ((u % 10 : Nat) : Int)) (by omega) (by omega), w64 (x := 48 + ((u % 10 : Nat) : Int)) (by omega) (by omega), one_digit _ hd]
          exact ev_pos (by show 1 + acc.size ≤ _; omega) (ev_eq hih fin)
theorem spec_Dec_ev (n : Int) (h0 : -9223372036854775808 ≤ n) (h1 : n ≤ 9223372036854775807) : Ev (fun k => spec_Dec.f k n) ⟨(Lib.itoa n).toArray⟩ := by
  simp only [spec_Dec.f]
  by_cases hz : n = 0
  · subst hz
    refine ev_pos rfl (ev_some ?_)
    unfold Lib.itoa
    rw [if_neg (by omega)]
    show _ = ByteArray.mk (Lib.decDigits 0).toArray
    rw [Lib.decDigits, dif_pos (by omega)]
    rfl
  · refine ev_neg hz ?_
    have h3 : n.natAbs * 2 ^ 0 ≤ 2 ^ 63 := by rw [Nat.pow_zero, Nat.mul_one]; show n.natAbs ≤ 9223372036854775808; omega
    have T := fun b => spec_Dec_l0 b n.natAbs ⟨#[]⟩ (by show 0 ≤ 64; omega) h3
    by_cases hn : n < 0
    · have T1 := T true
      rw [if_neg (show ¬ n.natAbs = 0 by omega)] at T1
      simp only [if_pos] at T1
      rw [show -((n.natAbs : Nat) : Int) = n by omega] at T1
      rw [decide_eq_true hn]
      refine ev_eq T1 ?_
      unfold Lib.itoa
      rw [if_pos hn]
      apply ByteArray.ext
      simp [dD]
    · have T1 := T false
      rw [if_neg (show ¬ n.natAbs = 0 by omega)] at T1
      simp only [if_neg Bool.false_ne_true] at T1
      rw [show ((n.natAbs : Nat) : Int) = n by omega] at T1
      rw [decide_eq_false hn]
      refine ev_eq T1 ?_
      unfold Lib.itoa
      rw [if_neg hn, show n.natAbs = n.toNat by omega]
      apply ByteArray.ext
      simp [dD]

/-! #### spec_FaultText -/
theorem tree_tot (a : Int) : ∃ t, spec_TreeCode.f a = some t ∧ t.size ≤ 100 := by
  by_cases h : 0 ≤ a ∧ a ≤ 6
  · have h2 : a = 0 ∨ a = 1 ∨ a = 2 ∨ a = 3 ∨ a = 4 ∨ a = 5 ∨ a = 6 := by omega
    rcases h2 with rfl | rfl | rfl | rfl | rfl | rfl | rfl <;> exact ⟨_, rfl, by decide⟩
  · refine ⟨⟨#[]⟩, ?_, by decide⟩
    unfold spec_TreeCode.f spec_l1In.f
    by_cases h1 : a ≥ 0
    · rw [if_pos h1]; simp [show ¬ a ≤ 6 by omega]
    · rw [if_neg h1]; simp
theorem script_tot (a : Int) : ∃ t, spec_ScriptCode.f a = some t ∧ t.size ≤ 100 := by
  by_cases h : 0 ≤ a ∧ a ≤ 7
  · have h2 : a = 0 ∨ a = 1 ∨ a = 2 ∨ a = 3 ∨ a = 4 ∨ a = 5 ∨ a = 6 ∨ a = 7 := by omega
    rcases h2 with rfl | rfl | rfl | rfl | rfl | rfl | rfl | rfl <;> exact ⟨_, rfl, by decide⟩
  · refine ⟨⟨#[]⟩, ?_, by decide⟩
    unfold spec_ScriptCode.f spec_l1In.f
    by_cases h1 : a ≥ 0
    · rw [if_pos h1]; simp [show ¬ a ≤ 7 by omega]
    · rw [if_neg h1]; simp
theorem code_tot (a : Int) : ∃ t, spec_CodeName.f a = some t ∧ t.size ≤ 100 := by
  by_cases h : 0 ≤ a ∧ a ≤ 7
  · have h2 : a = 0 ∨ a = 1 ∨ a = 2 ∨ a = 3 ∨ a = 4 ∨ a = 5 ∨ a = 6 ∨ a = 7 := by omega
    rcases h2 with rfl | rfl | rfl | rfl | rfl | rfl | rfl | rfl <;> exact ⟨_, rfl, by decide⟩
  · refine ⟨⟨#[]⟩, ?_, by decide⟩
    unfold spec_CodeName.f spec_l1In.f
    by_cases h1 : a ≥ 0
    · rw [if_pos h1]; simp [show ¬ a ≤ 7 by omega]
    · rw [if_neg h1]; simp
theorem digits_le : ∀ (k u : Nat), u < 10 ^ (k + 1) → (Lib.decDigits u).length ≤ k + 1 := by
  intro k
  induction k with
  | zero => intro u h; rw [Lib.decDigits, dif_pos (by simpa using h)]; simp
  | succ k ih =>
    intro u h
    by_cases h1 : u < 10
    · rw [Lib.decDigits, dif_pos h1]; simp
    · rw [Lib.decDigits, dif_neg h1, List.length_append, List.length_singleton]
      have := ih (u / 10) (by rw [Nat.pow_succ] at h; omega)
      omega
theorem itoa_le (n : Int) (h0 : -9223372036854775808 ≤ n) (h1 : n ≤ 9223372036854775807) : (⟨(Lib.itoa n).toArray⟩ : ByteArray).size ≤ 100 := by
  show (Lib.itoa n).toArray.size ≤ 100
  rw [List.size_toArray]
  unfold Lib.itoa
  have e : (10 : Nat) ^ (19 + 1) = 100000000000000000000 := by decide
  split
  · rw [List.length_cons]
    have := digits_le 19 n.natAbs (by rw [e]; omega)
    omega
  · have := digits_le 19 n.toNat (by rw [e]; omega)
    omega
theorem FaultText_both (a0 a1 a2 : Int) (h0 : -9223372036854775808 ≤ a2) (h1 : a2 ≤ 9223372036854775807) : ∃ r, Ev (fun k => spec_FaultText.f k a0 a1 a2) r ∧ Ev (fun k => impl_FaultText.f k a0 a1 a2) r := by
  obtain ⟨t1, e1, s1⟩ := tree_tot a1
  obtain ⟨t2, e2, s2⟩ := script_tot a1
  obtain ⟨t3, e3, s3⟩ := code_tot a1
  have e1' : impl_TreeCode.f a1 = some t1 := e1
  have e2' : impl_ScriptCode.f a1 = some t2 := e2
  have e3' : impl_CodeName.f a1 = some t3 := e3
  have hd := spec_Dec_ev a2 h0 h1
  have hs := itoa_le a2 h0 h1
  have hi : Ev (fun k => impl_Dec.f k a2) ⟨(Lib.itoa a2).toArray⟩ := Ev.now _
  simp only [spec_FaultText.f, impl_FaultText.f, e1, e2, e3, e1', e2', e3', Option.bind_some]
  generalize (⟨(Lib.itoa a2).toArray⟩ : ByteArray) = D at *
  by_cases c0 : a0 = 0
  · exact ⟨_, ev_pos c0 (Ev.now _), ev_pos c0 (Ev.now _)⟩
  by_cases c1 : a0 = 1
  · exact ⟨_, ev_neg c0 (ev_pos c1 (ev_pos (by omega) (Ev.now _))), ev_neg c0 (ev_pos c1 (ev_pos (by omega) (Ev.now _)))⟩
  by_cases c2 : a0 = 2
  · exact ⟨_, ev_neg c0 (ev_neg c1 (ev_pos c2 (ev_pos (by omega) (Ev.now _)))), ev_neg c0 (ev_neg c1 (ev_pos c2 (ev_pos (by omega) (Ev.now _))))⟩
  by_cases c3 : a0 = 3
  · exact ⟨_, ev_neg c0 (ev_neg c1 (ev_neg c2 (ev_pos c3 (Ev.now _)))), ev_neg c0 (ev_neg c1 (ev_neg c2 (ev_pos c3 (Ev.now _))))⟩
  by_cases c4 : a0 = 4
  · exact ⟨_, ev_neg c0 (ev_neg c1 (ev_neg c2 (ev_neg c3 (ev_pos c4 (ev_pos (by omega) (Ev.now _)))))), ev_neg c0 (ev_neg c1 (ev_neg c2 (ev_neg c3 (ev_pos c4 (ev_pos (by omega) (Ev.now _))))))⟩
  by_cases c5 : a0 = 5
  · have z1 : ((⟨#[111, 112, 32]⟩ : ByteArray) ++ D).size = 3 + D.size := by rw [ByteArray.size_append]; rfl
    have z2 : (((⟨#[111, 112, 32]⟩ : ByteArray) ++ D) ++ (⟨#[32]⟩ : ByteArray)).size = 3 + D.size + 1 := by rw [ByteArray.size_append, z1]; rfl
    exact ⟨_, ev_neg c0 (ev_neg c1 (ev_neg c2 (ev_neg c3 (ev_neg c4 (ev_pos c5 (ev_bind hd (ev_pos (by omega) (ev_pos (by rw [z1]; omega) (ev_pos (by rw [z2]; omega) (Ev.now _)))))))))), ev_neg c0 (ev_neg c1 (ev_neg c2 (ev_neg c3 (ev_neg c4 (ev_pos c5 (ev_bind hi (ev_pos (by omega) (ev_pos (by rw [z1]; omega) (ev_pos (by rw [z2]; omega) (Ev.now _))))))))))⟩
  · exact ⟨_, ev_neg c0 (ev_neg c1 (ev_neg c2 (ev_neg c3 (ev_neg c4 (ev_neg c5 (Ev.now _)))))), ev_neg c0 (ev_neg c1 (ev_neg c2 (ev_neg c3 (ev_neg c4 (ev_neg c5 (Ev.now _))))))⟩
theorem FaultText_law (a0 a1 a2 : Int) (h0 : -9223372036854775808 ≤ a2) (h1 : a2 ≤ 9223372036854775807) : ∃ k, laws_FnExactFaultText.f k a0 a1 a2 = some true := by
  obtain ⟨r, hs, hi⟩ := FaultText_both a0 a1 a2 h0 h1
  refine Ev.rounds ?_
  simp only [laws_FnExactFaultText.f, laws_toFault.f, Option.bind_some]
  exact ev_bind hs (ev_bind hi (ev_pos rfl (Ev.now _)))

end Go.Proofs.YtipclgiboffblaaDoor.QFnExactFaultText
