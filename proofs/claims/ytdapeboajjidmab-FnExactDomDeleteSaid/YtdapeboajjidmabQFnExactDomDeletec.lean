/- What the printed functions of the law FnExactDomDelete come to, function by function, from some number of rounds on; each under the bounds that it names. -/
import Derived.Test.YtdapeboajjidmabQFnExactDomDeleteb
namespace Go.Proofs.Ytdapeboajjidmab.QFnExactDomDelete
open Go.RowKit Go.Proofs.Ytdapeboajjidmab.PFnExactDomDelete Go.Proofs.YtdapeboajjidmabW.PrintWords Go.Proofs.YtdapeboajjidmabW.PrintLast Go.Proofs.YtdapeboajjidmabW.PrintMore Go.Proofs.Ytdapeboajjidmab.EvAid Go.Proofs.Ytdapeboajjidmab
set_option linter.unusedVariables false
set_option linter.unusedSimpArgs false

/-! #### laws_markDomNodeS -/
/-- the marks of one linked node, from a on -/
def mkD (a : Int) : S72 := ⟨(Int.tmod a 3 == 0), a + 1, a + 1 + 1, a + 1 + 1 + 1, a + 1 + 1 + 1 + 1, a + 1 + 1 + 1 + 1 + 1, a + 1 + 1 + 1 + 1 + 1 + 1⟩
theorem mkD_f0 (a : Int) : (mkD a).f0 = (Int.tmod a 3 == 0) := by simp only [mkD]
theorem mkD_f1 (a : Int) : (mkD a).f1 = a + 1 := by simp only [mkD]
theorem mkD_f2 (a : Int) : (mkD a).f2 = a + 1 + 1 := by simp only [mkD]
theorem mkD_f3 (a : Int) : (mkD a).f3 = a + 1 + 1 + 1 := by simp only [mkD]
theorem mkD_f4 (a : Int) : (mkD a).f4 = a + 1 + 1 + 1 + 1 := by simp only [mkD]
theorem mkD_f5 (a : Int) : (mkD a).f5 = a + 1 + 1 + 1 + 1 + 1 := by simp only [mkD]
theorem mkD_f6 (a : Int) : (mkD a).f6 = a + 1 + 1 + 1 + 1 + 1 + 1 := by simp only [mkD]
/-- the marks of n linked nodes -/
def seqD (a : Int) (n : Nat) : List S72 := (List.range n).map fun (j : Nat) => mkD (a + 7 * (j : Int))
theorem seqD_length (a : Int) (n : Nat) : (seqD a n).length = n := by simp [seqD]
theorem seqD_succ (a : Int) (n : Nat) : seqD a (n + 1) = seqD a n ++ [mkD (a + 7 * (n : Int))] := by simp [seqD, List.range_succ]
theorem seqD_rd (a : Int) (n i : Nat) (h : i < n) : rd_T72 (seqD a n) i = mkD (a + 7 * (i : Int)) := by simp [rd_T72, seqD, h]
theorem markDomNodeS_l0 (l : List S72) (a : Int) (h0 : 0 ≤ a) (hm : a + 7 * l.length ≤ 9223372036854775805) : ∀ (d i : Nat), i + d = l.length → Ev (fun k => laws_markDomNodeS.l0 k (seqD a i ++ l.drop i) (a + 7 * i) i) (a + 7 * l.length, seqD a l.length) := by
  intro d
  induction d with
  | zero =>
    intro i h
    refine ev_succ ?_
    simp only [laws_markDomNodeS.l0]
    have e : i = l.length := by omega
    subst e
    refine ev_neg (by rw [List.length_append, seqD_length, List.length_drop]; omega) (ev_some ?_)
    rw [List.drop_length, List.append_nil]
  | succ d ih =>
    intro i h
    refine ev_succ ?_
    simp only [laws_markDomNodeS.l0]
    refine ev_pos (by rw [List.length_append, seqD_length, List.length_drop]; omega) (ev_pos (by omega) ?_)
    simp only [Option.bind_some]
    have hi : i < l.length := by omega
    have e1 : ∀ x : S72, (seqD a i ++ l.drop i).set ((i : Int)).toNat x = seqD a i ++ x :: l.drop (i + 1) := by
      intro x
      rw [Int.toNat_natCast, List.set_append_right _ _ (by rw [seqD_length]; omega), seqD_length, Nat.sub_self, List.drop_eq_getElem_cons hi, List.set_cons_zero]
    have e2 : ∀ (x y : S72), (seqD a i ++ x :: l.drop (i + 1)).set ((i : Int)).toNat y = seqD a i ++ y :: l.drop (i + 1) := by
      intro x y
      rw [Int.toNat_natCast, List.set_append_right _ _ (by rw [seqD_length]; omega), seqD_length, Nat.sub_self, List.set_cons_zero]
    have e3 : ∀ (x : S72), rd_T72 (seqD a i ++ x :: l.drop (i + 1)) (i : Int) = x := by
      intro x; simp [rd_T72, seqD_length]
    have w1 : wrap64 (a + 7 * (i : Int) + 1) = a + 7 * (i : Int) + 1 := w64 (by omega) (by omega)
    have w2 : wrap64 (a + 7 * (i : Int) + 1 + 1) = a + 7 * (i : Int) + 1 + 1 := w64 (by omega) (by omega)
    have w3 : wrap64 (a + 7 * (i : Int) + 1 + 1 + 1) = a + 7 * (i : Int) + 1 + 1 + 1 := w64 (by omega) (by omega)
    have w4 : wrap64 (a + 7 * (i : Int) + 1 + 1 + 1 + 1) = a + 7 * (i : Int) + 1 + 1 + 1 + 1 := w64 (by omega) (by omega)
    have w5 : wrap64 (a + 7 * (i : Int) + 1 + 1 + 1 + 1 + 1) = a + 7 * (i : Int) + 1 + 1 + 1 + 1 + 1 := w64 (by omega) (by omega)
    have w6 : wrap64 (a + 7 * (i : Int) + 1 + 1 + 1 + 1 + 1 + 1) = a + 7 * (i : Int) + 1 + 1 + 1 + 1 + 1 + 1 := w64 (by omega) (by omega)
    have w7 : wrap64 (a + 7 * (i : Int) + 1 + 1 + 1 + 1 + 1 + 1 + 1) = a + 7 * (i : Int) + 1 + 1 + 1 + 1 + 1 + 1 + 1 := w64 (by omega) (by omega)
    have w8 : wrap64 ((i : Int) + 1) = (i : Int) + 1 := w64 (by omega) (by omega)
    simp only [w1, w2, w3, w4, w5, w6, w7, w8, e1, e2, e3]
    clear w1 w2 w3 w4 w5 w6 w7 w8 e1 e2 e3
    have := ih (i + 1) (by omega)
    rw [seqD_succ, List.append_assoc] at this
    have e4 : a + 7 * ((i + 1 : Nat) : Int) = a + 7 * (i : Int) + 1 + 1 + 1 + 1 + 1 + 1 + 1 := by omega
    rw [e4] at this
    exact this
theorem markDomNodeS_ev (l : List S72) (a : Int) (h0 : 0 ≤ a) (hm : a + 7 * l.length ≤ 9223372036854775805) : Ev (fun k => laws_markDomNodeS.f k l a) (a + 7 * l.length, seqD a l.length) := by
  simp only [laws_markDomNodeS.f]
  have := markDomNodeS_l0 l a h0 hm l.length 0 (by omega)
  simpa [seqD] using this

/-! #### laws_markDom -/
theorem markDom_ev (l : List S72) (a : Int) (h0 : 0 ≤ a) (hm : a + 7 * l.length ≤ 9223372036854775805) : Ev (fun k => laws_markDom.f k l a) (a + 7 * l.length, seqD a l.length) := by
  simp only [laws_markDom.f]
  exact ev_bind (markDomNodeS_ev l a h0 hm) (Ev.now _)

/-! #### laws_heldDomNodeS -/
theorem heldDomNodeS_ev (a : Int) (n : Nat) (h0 : 0 ≤ a) (hm : a + 7 * n ≤ 9223372036854775805) : Ev (fun k => laws_heldDomNodeS.f k (seqD a n) a) (a + 7 * n) := by
  have key : ∀ (d i : Nat), i + d = n → Ev (fun k => laws_heldDomNodeS.l0 k (seqD a n) (a + 7 * i) i) (a + 7 * n) := by
    intro d
    induction d with
    | zero =>
      intro i h
      refine ev_succ ?_
      simp only [laws_heldDomNodeS.l0]
      refine ev_neg (by rw [seqD_length]; omega) (ev_some (by omega))
    | succ d ih =>
      intro i h
      refine ev_succ ?_
      simp only [laws_heldDomNodeS.l0]
      have w1 : wrap64 (a + 7 * (i : Int) + 1) = a + 7 * (i : Int) + 1 := w64 (by omega) (by omega)
      have w2 : wrap64 (a + 7 * (i : Int) + 1 + 1) = a + 7 * (i : Int) + 1 + 1 := w64 (by omega) (by omega)
      have w3 : wrap64 (a + 7 * (i : Int) + 1 + 1 + 1) = a + 7 * (i : Int) + 1 + 1 + 1 := w64 (by omega) (by omega)
      have w4 : wrap64 (a + 7 * (i : Int) + 1 + 1 + 1 + 1) = a + 7 * (i : Int) + 1 + 1 + 1 + 1 := w64 (by omega) (by omega)
      have w5 : wrap64 (a + 7 * (i : Int) + 1 + 1 + 1 + 1 + 1) = a + 7 * (i : Int) + 1 + 1 + 1 + 1 + 1 := w64 (by omega) (by omega)
      have w6 : wrap64 (a + 7 * (i : Int) + 1 + 1 + 1 + 1 + 1 + 1) = a + 7 * (i : Int) + 1 + 1 + 1 + 1 + 1 + 1 := w64 (by omega) (by omega)
      have w7 : wrap64 (a + 7 * (i : Int) + 1 + 1 + 1 + 1 + 1 + 1 + 1) = a + 7 * (i : Int) + 1 + 1 + 1 + 1 + 1 + 1 + 1 := w64 (by omega) (by omega)
      have w8 : wrap64 ((i : Int) + 1) = (i : Int) + 1 := w64 (by omega) (by omega)
      simp only [w1, w2, w3, w4, w5, w6, w7, w8, seqD_rd a n i (by omega)]
      clear w1 w2 w3 w4 w5 w6 w7 w8
      refine ev_pos (by rw [seqD_length]; omega) ?_
      refine ev_pos (by omega) ?_
      rw [mkD_f0]
      refine ev_neg (fun h => bne_iff_ne.1 h rfl) ?_
      refine ev_pos (mkD_f1 _) ?_
      refine ev_pos (mkD_f2 _) ?_
      refine ev_pos (mkD_f3 _) ?_
      refine ev_pos (mkD_f4 _) ?_
      refine ev_pos (mkD_f5 _) ?_
      refine ev_pos (mkD_f6 _) ?_
      have e4 : a + 7 * (i : Int) + 1 + 1 + 1 + 1 + 1 + 1 + 1 = a + 7 * ((i + 1 : Nat) : Int) := by omega
      rw [e4]
      exact ih (i + 1) (by omega)
  simp only [laws_heldDomNodeS.f]
  have := key n 0 (by omega)
  simpa using this

/-! #### laws_heldDom -/
theorem heldDom_ev (a : Int) (n : Nat) (h0 : 0 ≤ a) (hm : a + 7 * n ≤ 9223372036854775805) : Ev (fun k => laws_heldDom.f k (seqD a n) a) (a + 7 * n) := by
  simp only [laws_heldDom.f]
  exact ev_bind (heldDomNodeS_ev a n h0 hm) (ev_neg (by omega) (Ev.now _))

end Go.Proofs.Ytdapeboajjidmab.QFnExactDomDelete
