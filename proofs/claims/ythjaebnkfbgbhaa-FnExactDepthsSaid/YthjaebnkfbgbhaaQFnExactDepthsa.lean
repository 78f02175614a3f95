/- What the printed functions of the law FnExactDepths come to, function by function, from some number of rounds on; each under the bounds that it names. -/
import Derived.Test.YthjaebnkfbgbhaaPFnExactDepthsx
import Derived.Test.YthjaebnkfbgbhaaEvAid
import Derived.Test.YthjaebnkfbgbhaaOpens
namespace Go.Proofs.Ythjaebnkfbgbhaa.QFnExactDepths
open Go.RowKit Go.Proofs.Ythjaebnkfbgbhaa.PFnExactDepths Go.Proofs.YthjaebnkfbgbhaaW.PrintWords Go.Proofs.YthjaebnkfbgbhaaW.PrintLast Go.Proofs.YthjaebnkfbgbhaaW.PrintMore Go.Proofs.Ythjaebnkfbgbhaa.EvAid Go.Proofs.Ythjaebnkfbgbhaa
set_option linter.unusedVariables false
set_option linter.unusedSimpArgs false

/-! #### laws_eqIntS -/
theorem eqIntS_l0 (a : List Int) (hm : (a.length : Int) ≤ 9223372036854775806) : ∀ (d i : Nat), i + d = a.length → Ev (fun k => laws_eqIntS.l0 k a a i) true := by
  intro d
  induction d with
  | zero =>
    intro i h
    refine ev_succ ?_
    simp only [laws_eqIntS.l0]
    exact ev_neg (by omega) (Ev.now _)
  | succ d ih =>
    intro i h
    refine ev_succ ?_
    simp only [laws_eqIntS.l0]
    refine ev_pos (by omega) (ev_pos (by omega) (ev_pos (by omega) (ev_pos trivial ?_)))
    rw [w64 (by omega) (by omega)]
    exact ih (i + 1) (by omega)

theorem eqIntS_ev (a : List Int) (hm : (a.length : Int) ≤ 9223372036854775806) : Ev (fun k => laws_eqIntS.f k a a) true := by
  simp only [laws_eqIntS.f]
  exact ev_pos trivial (eqIntS_l0 a hm a.length 0 (by omega))

/-! #### laws_szNodeS -/
theorem szNodeS_eq (l : List S48) (a : Int) (h0 : 0 ≤ a) (h1 : a ≤ 1048576) (hl : l.length ≤ maxLen) : laws_szNodeS.f l a = some (if a < l.length then -1 else a - l.length) := by
  unfold maxLen at hl
  unfold laws_szNodeS.f
  rw [w64 (x := a - (l.length : Int)) (by omega) (by omega)]
  by_cases h : a < l.length
  · rw [if_pos (by omega), if_pos h]
  · rw [if_neg (by omega), if_neg h]

/-! #### spec_Depths -/
theorem spec_Depths_l0 (l : List S46) (hm : l.length ≤ 17592186044416) : ∀ (d i : Nat), i + d = l.length → Ev (fun k => spec_Depths.l0 k l ((l.map (·.f1)).take i) (i : Int)) (l.map (·.f1)) := by
  intro d
  induction d with
  | zero =>
    intro i h
    refine ev_succ ?_
    simp only [spec_Depths.l0]
    refine ev_neg (by omega) (ev_some ?_)
    rw [List.take_of_length_le (by rw [List.length_map]; omega)]
  | succ d ih =>
    intro i h
    refine ev_succ ?_
    simp only [spec_Depths.l0]
    refine ev_pos (by omega) (ev_pos (by omega) (ev_pos (by rw [List.length_take, List.length_map]; omega) ?_))
    rw [w64 (by omega) (by omega)]
    have := ih (i + 1) (by omega)
    have hi : i < l.length := by omega
    rw [List.take_succ_eq_append_getElem (by rw [List.length_map]; omega), List.getElem_map] at this
    have e : (rd_T46 l (i : Int)).f1 = l[i].f1 := by simp [rd_T46, hi]
    rw [e]
    exact this
theorem spec_Depths_ev (l : List S46) (hm : l.length ≤ 17592186044416) : Ev (fun k => spec_Depths.f k l) (l.map (·.f1)) := by
  simp only [spec_Depths.f]
  have := spec_Depths_l0 l hm l.length 0 (by omega)
  simpa using this

/-! #### laws_toNodeS -/
/-- a node of the law's as one of the program's -/
def cvN (x : S48) : S46 := ⟨x.f0, x.f1⟩
theorem toNodeS_l0 (a : List S48) (hm : (a.length : Int) ≤ 9223372036854775806) : ∀ (d i : Nat) (out : List S46), i + d = a.length → out.length = a.length → out.take i = (a.map cvN).take i → Ev (fun k => laws_toNodeS.l0 k a out i) (a.map cvN) := by
  intro d
  induction d with
  | zero =>
    intro i out h hl ht
    refine ev_succ ?_
    simp only [laws_toNodeS.l0]
    refine ev_neg (by omega) (ev_some ?_)
    rw [List.take_of_length_le (by omega), List.take_of_length_le (by rw [List.length_map]; omega)] at ht
    exact ht
  | succ d ih =>
    intro i out h hl ht
    refine ev_succ ?_
    simp only [laws_toNodeS.l0]
    refine ev_pos (by omega) (ev_pos (by omega) (ev_bindc rfl (ev_pos (by omega) ?_)))
    rw [w64 (by omega) (by omega)]
    refine ih (i + 1) _ (by omega) (by rw [List.length_set]; exact hl) ?_
    have e : ((i : Int)).toNat = i := Int.toNat_natCast i
    rw [e]
    have hi : i < a.length := by omega
    have hr : rd_T48 a i = a[i] := by simp [rd_T48, hi]
    rw [List.take_succ_eq_append_getElem (by rw [List.length_set]; omega), List.take_succ_eq_append_getElem (by rw [List.length_map]; omega), List.getElem_set_self, List.take_set_of_le (Nat.le_refl _), ht, List.getElem_map, hr]
    rfl
theorem toNodeS_ev (a : List S48) (hm : a.length ≤ 17592186044416) : Ev (fun k => laws_toNodeS.f k a) (a.map cvN) := by
  simp only [laws_toNodeS.f]
  refine ev_pos (by omega) (ev_pos (by omega) ?_)
  exact toNodeS_l0 a (by omega) a.length 0 _ (by omega) (by rw [List.length_replicate]; omega) rfl

/-! #### impl_Depths -/
theorem impl_Depths_l0 (l : List S46) (hm : l.length ≤ 17592186044416) : ∀ (d i : Nat), i + d = l.length → Ev (fun k => impl_Depths.l0 k ((l.map (·.f1)).take i) l (l.length : Int) (i : Int)) (l.map (·.f1)) := by
  intro d
  induction d with
  | zero =>
    intro i h
    refine ev_succ ?_
    simp only [impl_Depths.l0]
    refine ev_neg (by omega) (ev_some ?_)
    rw [List.take_of_length_le (by rw [List.length_map]; omega)]
  | succ d ih =>
    intro i h
    refine ev_succ ?_
    simp only [impl_Depths.l0]
    refine ev_pos (by omega) (ev_pos (by omega) (ev_pos (by omega) (ev_pos (by rw [List.length_take, List.length_map]; omega) ?_)))
    rw [w64 (by omega) (by omega)]
    have := ih (i + 1) (by omega)
    have hi : i < l.length := by omega
    rw [List.take_succ_eq_append_getElem (by rw [List.length_map]; omega), List.getElem_map] at this
    have e : (rd_T46 l (i : Int)).f1 = l[i].f1 := by simp [rd_T46, hi]
    rw [e]
    exact this
theorem impl_Depths_ev (l : List S46) (hm : l.length ≤ 17592186044416) : Ev (fun k => impl_Depths.f k l) (l.map (·.f1)) := by
  simp only [impl_Depths.f]
  have := impl_Depths_l0 l hm l.length 0 (by omega)
  simpa using this

/-! #### laws_eqNodeS -/
theorem eqNode_self (a b : Int) : laws_eqNode.f a b a b = some true := by unfold laws_eqNode.f; rw [if_pos rfl, if_pos rfl]
theorem eqNodeS_l0 (a : List S46) (hm : (a.length : Int) ≤ 9223372036854775806) : ∀ (d i : Nat), i + d = a.length → Ev (fun k => laws_eqNodeS.l0 k a a i) true := by
  intro d
  induction d with
  | zero =>
    intro i h
    refine ev_succ ?_
    simp only [laws_eqNodeS.l0]
    exact ev_neg (by omega) (Ev.now _)
  | succ d ih =>
    intro i h
    refine ev_succ ?_
    simp only [laws_eqNodeS.l0]
    refine ev_pos (by omega) (ev_pos (by omega) (ev_pos (by omega) (ev_bindc (eqNode_self _ _) (ev_pos rfl ?_))))
    rw [w64 (by omega) (by omega)]
    exact ih (i + 1) (by omega)
theorem eqNodeS_ev (a : List S46) (hm : (a.length : Int) ≤ 9223372036854775806) : Ev (fun k => laws_eqNodeS.f k a a) true := by
  simp only [laws_eqNodeS.f]
  exact ev_pos trivial (eqNodeS_l0 a hm a.length 0 (by omega))

/-! #### laws_markNodeS -/
/-- the marks of n nodes -/
def seqN (a : Int) (n : Nat) : List S46 := (List.range n).map fun (j : Nat) => ⟨a + 2 * (j : Int), a + 2 * (j : Int) + 1⟩
theorem seqN_length (a : Int) (n : Nat) : (seqN a n).length = n := by simp [seqN]
theorem seqN_succ (a : Int) (n : Nat) : seqN a (n + 1) = seqN a n ++ [⟨a + 2 * (n : Int), a + 2 * (n : Int) + 1⟩] := by simp [seqN, List.range_succ]
theorem seqN_rd (a : Int) (n i : Nat) (h : i < n) : rd_T46 (seqN a n) i = ⟨a + 2 * (i : Int), a + 2 * (i : Int) + 1⟩ := by simp [rd_T46, seqN, h]
theorem markNodeS_l0 (l : List S46) (a : Int) (h0 : 0 ≤ a) (hm : a + 2 * l.length ≤ 9223372036854775805) : ∀ (d i : Nat), i + d = l.length → Ev (fun k => laws_markNodeS.l0 k (seqN a i ++ l.drop i) (a + 2 * i) i) (a + 2 * l.length, seqN a l.length) := by
  intro d
  induction d with
  | zero =>
    intro i h
    refine ev_succ ?_
    simp only [laws_markNodeS.l0]
    have e : i = l.length := by omega
    subst e
    refine ev_neg (by rw [List.length_append, seqN_length, List.length_drop]; omega) (ev_some ?_)
    rw [List.drop_length, List.append_nil]
  | succ d ih =>
    intro i h
    refine ev_succ ?_
    simp only [laws_markNodeS.l0]
    refine ev_pos (by rw [List.length_append, seqN_length, List.length_drop]; omega) (ev_pos (by omega) ?_)
    simp only [Option.bind_some]
    rw [w64 (x := a + 2 * (i : Int) + 1) (by omega) (by omega), w64 (x := a + 2 * (i : Int) + 1 + 1) (by omega) (by omega), w64 (x := (i : Int) + 1) (by omega) (by omega)]
    have hi : i < l.length := by omega
    have e1 : ∀ x : S46, (seqN a i ++ l.drop i).set ((i : Int)).toNat x = seqN a i ++ x :: l.drop (i + 1) := by
      intro x
      rw [Int.toNat_natCast, List.set_append_right _ _ (by rw [seqN_length]; omega), seqN_length, Nat.sub_self, List.drop_eq_getElem_cons hi, List.set_cons_zero]
    have e2 : ∀ (x y : S46), (seqN a i ++ x :: l.drop (i + 1)).set ((i : Int)).toNat y = seqN a i ++ y :: l.drop (i + 1) := by
      intro x y
      rw [Int.toNat_natCast, List.set_append_right _ _ (by rw [seqN_length]; omega), seqN_length, Nat.sub_self, List.set_cons_zero]
    have e3 : ∀ (x : S46), rd_T46 (seqN a i ++ x :: l.drop (i + 1)) (i : Int) = x := by
      intro x; simp [rd_T46, seqN_length]
    rw [e1, e2, e3]
    have := ih (i + 1) (by omega)
    rw [seqN_succ, List.append_assoc] at this
    have e4 : a + 2 * ((i + 1 : Nat) : Int) = a + 2 * (i : Int) + 1 + 1 := by omega
    rw [e4] at this
    exact this
theorem markNodeS_ev (l : List S46) (a : Int) (h0 : 0 ≤ a) (hm : a + 2 * l.length ≤ 9223372036854775805) : Ev (fun k => laws_markNodeS.f k l a) (a + 2 * l.length, seqN a l.length) := by
  simp only [laws_markNodeS.f]
  have := markNodeS_l0 l a h0 hm l.length 0 (by omega)
  simpa [seqN] using this

/-! #### laws_markIntS -/
/-- a, a + 1, ..: n of them -/
def seqI (a : Int) (n : Nat) : List Int := (List.range n).map fun (j : Nat) => a + (j : Int)
theorem seqI_length (a : Int) (n : Nat) : (seqI a n).length = n := by simp [seqI]
theorem seqI_succ (a : Int) (n : Nat) : seqI a (n + 1) = seqI a n ++ [a + (n : Int)] := by simp [seqI, List.range_succ]
theorem seqI_rd (a : Int) (n i : Nat) (h : i < n) : rd (seqI a n) i = a + (i : Int) := by simp [rd, seqI, h]

theorem markIntS_l0 (l : List Int) (a : Int) (h0 : 0 ≤ a) (hm : a + l.length ≤ 9223372036854775806) : ∀ (d i : Nat), i + d = l.length → Ev (fun k => laws_markIntS.l0 k (seqI a i ++ l.drop i) (a + i) i) (a + l.length, seqI a l.length) := by
  intro d
  induction d with
  | zero =>
    intro i h
    refine ev_succ ?_
    simp only [laws_markIntS.l0]
    have e : i = l.length := by omega
    subst e
    refine ev_neg (by rw [List.length_append, seqI_length, List.length_drop]; omega) (ev_some ?_)
    rw [List.drop_length, List.append_nil]
  | succ d ih =>
    intro i h
    refine ev_succ ?_
    simp only [laws_markIntS.l0]
    refine ev_pos (by rw [List.length_append, seqI_length, List.length_drop]; omega) (ev_pos (by omega) ?_)
    rw [w64 (by omega) (by omega), w64 (by omega) (by omega)]
    have hi : i < l.length := by omega
    have e1 : (seqI a i ++ l.drop i).set ((i : Int)).toNat (a + i) = seqI a (i + 1) ++ l.drop (i + 1) := by
      rw [Int.toNat_natCast, List.set_append_right _ _ (by rw [seqI_length]; omega), seqI_length, Nat.sub_self, List.drop_eq_getElem_cons hi, List.set_cons_zero, seqI_succ, List.append_assoc]
      rfl
    rw [e1]
    have e2 : a + (i : Int) + 1 = a + ((i + 1 : Nat) : Int) := by omega
    rw [e2]
    exact ih (i + 1) (by omega)

theorem markIntS_ev (l : List Int) (a : Int) (h0 : 0 ≤ a) (hm : a + l.length ≤ 9223372036854775806) : Ev (fun k => laws_markIntS.f k l a) (a + l.length, seqI a l.length) := by
  simp only [laws_markIntS.f]
  have := markIntS_l0 l a h0 hm l.length 0 (by omega)
  simpa [seqI] using this

/-! #### laws_heldIntS -/
theorem heldIntS_l0 (a : Int) (n : Nat) (h0 : 0 ≤ a) (hm : a + n ≤ 9223372036854775806) : ∀ (d i : Nat), i + d = n → Ev (fun k => laws_heldIntS.l0 k (seqI a n) (a + i) i) (a + n) := by
  intro d
  induction d with
  | zero =>
    intro i h
    refine ev_succ ?_
    simp only [laws_heldIntS.l0]
    refine ev_neg (by rw [seqI_length]; omega) (ev_some (by omega))
  | succ d ih =>
    intro i h
    refine ev_succ ?_
    simp only [laws_heldIntS.l0]
    refine ev_pos (by rw [seqI_length]; omega) (ev_pos (by omega) (ev_pos (seqI_rd a n i (by omega)) ?_))
    rw [w64 (by omega) (by omega), w64 (by omega) (by omega)]
    have e2 : a + (i : Int) + 1 = a + ((i + 1 : Nat) : Int) := by omega
    rw [e2]
    exact ih (i + 1) (by omega)

theorem heldIntS_ev (a : Int) (n : Nat) (h0 : 0 ≤ a) (hm : a + n ≤ 9223372036854775806) : Ev (fun k => laws_heldIntS.f k (seqI a n) a) (a + n) := by
  simp only [laws_heldIntS.f]
  have := heldIntS_l0 a n h0 hm n 0 (by omega)
  simpa using this

end Go.Proofs.Ythjaebnkfbgbhaa.QFnExactDepths
