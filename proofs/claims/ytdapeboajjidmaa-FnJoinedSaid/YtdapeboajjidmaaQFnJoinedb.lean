/- What the printed functions of the law FnJoined come to, function by function, from some number of rounds on; each under the bounds that it names. -/
import Derived.Test.YtdapeboajjidmaaQFnJoineda
namespace Go.Proofs.Ytdapeboajjidmaa.QFnJoined
open Go.RowKit Go.Proofs.Ytdapeboajjidmaa.PFnJoined Go.Proofs.YtdapeboajjidmaaW.PrintWords Go.Proofs.YtdapeboajjidmaaW.PrintLast Go.Proofs.YtdapeboajjidmaaW.PrintMore Go.Proofs.Ytdapeboajjidmaa.EvAid Go.Proofs.Ytdapeboajjidmaa
set_option linter.unusedVariables false
set_option linter.unusedSimpArgs false

/-! #### _apply -/
theorem upN_zero (x : S80) : upN 0 x = x := node_ext rfl (Int.add_zero _)
theorem map_up0 (l : List S80) : l.map (upN 0) = l := by
  have e : (upN 0 : S80 → S80) = id := funext upN_zero
  rw [e, List.map_id]
/-- the tree behind an operation that can be done at node i, where what it adopts lies from f up to t -/
def doneT (l : List S80) (kind lab : Int) (i f t : Nat) : List S80 :=
  if kind = 1 then l.set i ⟨lab, dpA l i⟩
  else if kind = 2 then l.take i ++ ((l.take (Tree.eo l.length (dpA l) i)).drop (i + 1)).map (upN (-1)) ++ l.drop (Tree.eo l.length (dpA l) i)
  else l.take f ++ [(⟨lab, dpA l i + 1⟩ : S80)] ++ ((l.take t).drop f).map (upN 1) ++ l.drop t
/-- the tree behind an operation, and what is wrong with it -/
def applyT (l : List S80) (kind : Int) (p : List Int) (lab fr ct : Int) : List S80 × Int :=
  if treeOk l = true then
    if (codeT l kind lab fr ct (nodeI l p)).1 = 0 then (doneT l kind lab (nodeI l p).toNat (codeT l kind lab fr ct (nodeI l p)).2.1.toNat (codeT l kind lab fr ct (nodeI l p)).2.2.toNat, 0)
    else (l, (codeT l kind lab fr ct (nodeI l p)).1)
  else ([], 2)
/-- an operation that can be done: what follows of its parts -/
theorem codeT_ok {l : List S80} {kind lab fr ct i : Int} (h : (codeT l kind lab fr ct i).1 = 0) :
    (1 ≤ kind ∧ kind ≤ 3) ∧ 0 ≤ i ∧ ¬ (kind ≠ 2 ∧ ¬ (0 ≤ lab ∧ lab ≤ 5)) ∧ ¬ (kind = 2 ∧ i = 0) ∧ (kind ≠ 3 → codeT l kind lab fr ct i = (0, 0, 0)) ∧
    (kind = 3 → (0 ≤ fr ∧ fr ≤ ((Tree.kids l.length (dpA l) i.toNat).length : Int) ∧ 0 ≤ ct ∧ ct ≤ ((Tree.kids l.length (dpA l) i.toNat).length : Int) - fr) ∧
      codeT l kind lab fr ct i = (0, (((Tree.bounds l.length (dpA l) i.toNat).getD fr.toNat 0 : Nat) : Int), (((Tree.bounds l.length (dpA l) i.toNat).getD (fr + ct).toNat 0 : Nat) : Int)) ∧ (l.length : Int) ≠ 24 ∧
      ¬ deepF l ((Tree.bounds l.length (dpA l) i.toNat).getD (fr + ct).toNat 0 - (Tree.bounds l.length (dpA l) i.toNat).getD fr.toNat 0) ((Tree.bounds l.length (dpA l) i.toNat).getD fr.toNat 0) (dpA l i.toNat + 1) > 12) := by
  unfold codeT at h ⊢
  by_cases h1 : 1 ≤ kind ∧ kind ≤ 3
  · rw [if_pos h1] at h ⊢
    by_cases h2 : i < 0
    · rw [if_pos h2] at h; simp at h
    · rw [if_neg h2] at h ⊢
      by_cases h3 : kind ≠ 2 ∧ ¬ (0 ≤ lab ∧ lab ≤ 5)
      · rw [if_pos h3] at h; simp at h
      · rw [if_neg h3] at h ⊢
        by_cases h4 : kind = 2 ∧ i = 0
        · rw [if_pos h4] at h; simp at h
        · rw [if_neg h4] at h ⊢
          by_cases h5 : kind = 3
          · rw [if_pos h5] at h ⊢
            by_cases h6 : 0 ≤ fr ∧ fr ≤ ((Tree.kids l.length (dpA l) i.toNat).length : Int) ∧ 0 ≤ ct ∧ ct ≤ ((Tree.kids l.length (dpA l) i.toNat).length : Int) - fr
            · rw [if_pos h6] at h ⊢
              unfold tailT at h ⊢
              by_cases h7 : (l.length : Int) = 24
              · rw [if_pos h7] at h; simp at h
              · rw [if_neg h7] at h ⊢
                by_cases h8 : deepF l ((Tree.bounds l.length (dpA l) i.toNat).getD (fr + ct).toNat 0 - (Tree.bounds l.length (dpA l) i.toNat).getD fr.toNat 0) ((Tree.bounds l.length (dpA l) i.toNat).getD fr.toNat 0) (dpA l i.toNat + 1) > 12
                · rw [if_pos h8] at h; simp at h
                · rw [if_neg h8]
                  exact ⟨h1, by omega, h3, h4, fun h => absurd h5 h, fun _ => ⟨h6, rfl, h7, h8⟩⟩
            · rw [if_neg h6] at h; simp at h
          · rw [if_neg h5]
            exact ⟨h1, by omega, h3, h4, fun _ => rfl, fun h => absurd h h5⟩
  · rw [if_neg h1] at h; simp at h
theorem nodeI_cases (l : List S80) (p : List Int) : nodeI l p < 0 ∨ ∃ n : Nat, nodeI l p = (n : Int) ∧ n < l.length ∧ treeOk l = true := by
  rcases Int.lt_or_le (nodeI l p) 0 with h | h
  · exact .inl h
  · obtain ⟨k, a, b, c, _⟩ := nodeI_nat h
    exact .inr ⟨k, a, b, c⟩
theorem endI_nat {l : List S80} {i : Nat} (ht : treeOk l = true) (hi : i < l.length) : endI l (i : Int) = ((Tree.eo l.length (dpA l) i : Nat) : Int) := by
  unfold endI
  rw [if_pos (hasB_iff.2 ⟨ht, by omega, by omega⟩)]
  rfl
theorem bounds_facts {l : List S80} {i : Nat} {fr ct : Int} (hi : i < l.length) (h : 0 ≤ fr ∧ fr ≤ ((Tree.kids l.length (dpA l) i).length : Int) ∧ 0 ≤ ct ∧ ct ≤ ((Tree.kids l.length (dpA l) i).length : Int) - fr) :
    i < (Tree.bounds l.length (dpA l) i).getD fr.toNat 0 ∧ (Tree.bounds l.length (dpA l) i).getD fr.toNat 0 ≤ (Tree.bounds l.length (dpA l) i).getD (fr + ct).toNat 0 ∧ (Tree.bounds l.length (dpA l) i).getD (fr + ct).toNat 0 ≤ Tree.eo l.length (dpA l) i ∧ Tree.eo l.length (dpA l) i ≤ l.length := by
  have m1 := Tree.bounds_mono (n := l.length) (D := dpA l) (i := i) (r := fr.toNat) (s := (fr + ct).toNat) (by omega) (by omega)
  have m2 := bound_le (n := l.length) (D := dpA l) (i := i) (r := (fr + ct).toNat) hi (by omega)
  have m3 := bound_le (n := l.length) (D := dpA l) (i := i) (r := fr.toNat) hi (by omega)
  exact ⟨m3.1, m1, m2.2, Tree.eo_le hi⟩
theorem midN_take (b : Int) (a : Nat) (t : List S80) (i : Nat) (h : a ≤ t.length) : (midN b a t i).take a = t.take a := by
  unfold midN
  rw [List.append_assoc, List.take_append_of_le_length (by rw [List.length_take]; omega), List.take_take, Nat.min_self]
theorem midN_drop (b : Int) (a : Nat) (t : List S80) (i : Nat) (h : a ≤ t.length) : (midN b a t i).drop a = ((t.take i).drop a).map (upN b) ++ t.drop i := by
  unfold midN
  have hl : (t.take a).length = a := by rw [List.length_take]; omega
  rw [List.append_assoc, List.drop_append, hl, Nat.sub_self, List.drop_zero, List.drop_eq_nil_of_le (by omega), List.nil_append]
theorem applyT_length (l : List S80) (kind : Int) (p : List Int) (lab fr ct : Int) (n : Nat) (hn : 25 ≤ n) (h : l.length ≤ n) : (applyT l kind p lab fr ct).1.length ≤ n := by
  unfold applyT
  by_cases ht : treeOk l = true
  · rw [if_pos ht]
    have h24 := (treeOk_iff.1 ht).1
    by_cases hc : (codeT l kind lab fr ct (nodeI l p)).1 = 0
    · rw [if_pos hc]
      obtain ⟨hk, hi0, hl, hr, h3', h3⟩ := codeT_ok hc
      obtain ⟨i, hi, hin, _, _⟩ := nodeI_nat hi0
      show (doneT l kind lab _ _ _).length ≤ n
      unfold doneT
      by_cases k1 : kind = 1
      · rw [if_pos k1, List.length_set]; exact h
      · rw [if_neg k1]
        by_cases k2 : kind = 2
        · rw [if_pos k2]
          simp only [List.length_append, List.length_map, List.length_drop, List.length_take]
          rw [hi, Int.toNat_natCast]
          have a := Tree.eo_le (D := dpA l) hin
          have b := @Tree.eo_gt l.length (dpA l) i
          omega
        · rw [if_neg k2]
          obtain ⟨hb, hcode, _⟩ := h3 (by omega)
          rw [hcode]
          rw [hi, Int.toNat_natCast] at hb ⊢
          have f := bounds_facts hin hb
          simp only [List.length_append, List.length_map, List.length_drop, List.length_take, List.length_singleton, Int.toNat_natCast]
          omega
    · rw [if_neg hc]; exact h
  · rw [if_neg ht]; simp

/-! #### spec_ApplyOp -/
theorem spec_ApplyOp_ev (l : List S80) (kind : Int) (p : List Int) (lab fr ct : Int) (hm : (l.length : Int) ≤ 9223372036854775806) (hp : (p.length : Int) ≤ 9223372036854775806) : Ev (fun k => spec_ApplyOp.f k l kind p lab fr ct) (applyT l kind p lab fr ct) := by
  simp only [spec_ApplyOp.f]
  refine ev_bind (spec_TreeOk_ev l hm) ?_
  unfold applyT
  by_cases ht : treeOk l = true
  · rw [if_pos ht]
    have h24 := (treeOk_iff.1 ht).1
    have hdp := fun (b : Int) (hb : -1 ≤ b ∧ b ≤ 1) (j : Nat) (hj : j < l.length) => (show -4611686018427387904 ≤ dpA l j + b ∧ dpA l j + b ≤ 4611686018427387904 by have := dp_range ht hj; omega)
    refine ev_pos ht (ev_bind (spec_NodeAt_ev l p hm hp) (ev_bindc (l3Copy_eq l (by omega)) (ev_bind (l13Code_ev l kind lab fr ct _ p (nodeI_cases l p)) ?_)))
    by_cases hc : (codeT l kind lab fr ct (nodeI l p)).1 = 0
    · rw [if_pos hc]
      refine ev_pos hc ?_
      obtain ⟨hk, hi0, hl, hr, h3', h3⟩ := codeT_ok hc
      obtain ⟨i, hi, hin, _, _⟩ := nodeI_nat hi0
      rw [hi] at hc hr h3' h3 ⊢
      have di := dp_range ht hin
      have el := Tree.eo_le (D := dpA l) hin
      have eg := @Tree.eo_gt l.length (dpA l) i
      by_cases k1 : kind = 1
      · refine ev_pos k1 (ev_pos (by omega) (ev_pos (by omega) (ev_some ?_)))
        rw [hc]
        unfold doneT
        rw [if_pos k1]
        rfl
      · refine ev_neg k1 ?_
        by_cases k2 : kind = 2
        · have s1 := l13Shift_ev l 0 i 0 (by omega) (by omega) (by omega) (hdp 0 (by omega))
          have s2 := l13Shift_ev l (i + 1) (Tree.eo l.length (dpA l) i) (-1) (by omega) el (by omega) (hdp (-1) (by omega))
          have s3 := l13Shift_ev l (Tree.eo l.length (dpA l) i) l.length 0 el (by omega) (by omega) (hdp 0 (by omega))
          have ew : wrap64 ((i : Int) + 1) = ((i + 1 : Nat) : Int) := by rw [w64 (by omega) (by omega)]; omega
          refine ev_pos k2 (ev_bind (spec_EndOf_ev l _ hm) (ev_bind s1 ?_))
          rw [endI_nat ht hin, ew]
          refine ev_bind s2 (ev_pos (by simp only [List.length_map, List.length_drop, List.length_take]; omega) (ev_bindc rfl (ev_bind s3 (ev_pos (by simp only [List.length_append, List.length_map, List.length_drop, List.length_take]; omega) (ev_some ?_)))))
          rw [hc]
          unfold doneT
          rw [if_neg k1, if_pos k2, map_up0, map_up0, List.drop_zero, List.take_length, Int.toNat_natCast]
        · refine ev_neg k2 ?_
          obtain ⟨hb, hcode, h24', _⟩ := h3 (by omega)
          rw [hcode]
          rw [Int.toNat_natCast] at hb ⊢
          obtain ⟨f1, f2, f3, f4⟩ := bounds_facts hin hb
          generalize (Tree.bounds l.length (dpA l) i).getD fr.toNat 0 = f at *
          generalize (Tree.bounds l.length (dpA l) i).getD (fr + ct).toNat 0 = t at *
          have s1 := l13Shift_ev l 0 f 0 (by omega) (by omega) (by omega) (hdp 0 (by omega))
          have s2 := l13Shift_ev l f t 1 (by omega) (by omega) (by omega) (hdp 1 (by omega))
          have s3 := l13Shift_ev l t l.length 0 (by omega) (by omega) (by omega) (hdp 0 (by omega))
          refine ev_bind s1 (ev_pos (by omega) (ev_pos (by omega) (ev_bindc rfl (ev_pos (by simp only [List.length_map, List.length_drop, List.length_take, List.length_singleton]; omega) (ev_bindc rfl (ev_bind s2 (ev_pos (by simp only [List.length_append, List.length_map, List.length_drop, List.length_take, List.length_singleton]; omega) (ev_bindc rfl (ev_bind s3 (ev_pos (by simp only [List.length_append, List.length_map, List.length_drop, List.length_take, List.length_singleton]; omega) (ev_some ?_)))))))))))
          unfold doneT
          rw [if_neg k1, if_neg k2, map_up0, map_up0, List.drop_zero, List.take_length, rd_f1, w64 (x := dpA l i + 1) (by omega) (by omega)]
          simp only [Int.toNat_natCast]
    · rw [if_neg hc]
      exact ev_neg hc (Ev.now _)
  · rw [if_neg ht]
    exact ev_neg ht (Ev.now _)

/-! #### spec_ParentOf -/
theorem spec_ParentOf_l0 (l : List S80) (i : Nat) (hi : i < l.length) (hm : l.length ≤ 24) : ∀ (j : Nat), j ≤ i → Ev (fun k => spec_ParentOf.l0 k l (i : Int) ((j : Int) - 1)) (Tree.upFrom (dpA l) (dpA l i) j) := by
  intro j
  induction j with
  | zero =>
    intro _
    refine ev_succ ?_
    simp only [spec_ParentOf.l0]
    exact ev_neg (by omega) (ev_some (by rw [Tree.upFrom]; omega))
  | succ j ih =>
    intro hj
    refine ev_succ ?_
    simp only [spec_ParentOf.l0]
    have e : ((j + 1 : Nat) : Int) - 1 = (j : Int) := by omega
    rw [e, Tree.upFrom]
    simp only [rd_f1]
    refine ev_pos (by omega) (ev_pos (by omega) (ev_pos (by omega) (ev_pos (by omega) (ev_pos (by omega) ?_))))
    by_cases h : dpA l j ≥ dpA l i
    · refine ev_pos h ?_
      rw [if_neg (by omega), w64 (by omega) (by omega)]
      exact ih (by omega)
    · refine ev_neg h (ev_some ?_)
      rw [if_pos (by omega)]
theorem spec_ParentOf_ev (l : List S80) (i : Int) (hm : (l.length : Int) ≤ 9223372036854775806) : Ev (fun k => spec_ParentOf.f k l i) (parI l i) := by
  simp only [spec_ParentOf.f]
  refine ev_bind (l3At_ev l i hm) ?_
  unfold parI
  by_cases h : hasB l i = true
  · obtain ⟨j, rfl, hj, h1, h2, hv⟩ := hasB_nat h
    refine ev_pos h ?_
    rw [if_pos h, w64 (by omega) (by omega)]
    exact spec_ParentOf_l0 l j hj h2 j (Nat.le_refl _)
  · refine ev_neg h ?_
    rw [if_neg h]
    exact Ev.now _

/-! #### _rankI -/
/-- where x stands first in l -/
def idxJ (l : List Int) (x : Int) : Int := if x ∈ l then (l.idxOf x : Int) else -1
/-- which kid of its parent a node is -/
def rankI (l : List S80) (i : Int) : Int := if parI l i < 0 then -1 else idxJ (kidsI l (parI l i)) i

/-! #### spec_KidRank -/
theorem spec_KidRank_l0 (l : List Int) (x : Int) (hm : (l.length : Int) ≤ 9223372036854775806) : ∀ (d i : Nat), i + d = l.length → (∀ j, j < i → (hj : j < l.length) → l[j] ≠ x) → Ev (fun k => spec_KidRank.l0 k x l (i : Int)) (idxJ l x) := by
  intro d
  induction d with
  | zero =>
    intro i h hn
    refine ev_succ ?_
    simp only [spec_KidRank.l0]
    refine ev_neg (by omega) (ev_some ?_)
    unfold idxJ
    rw [if_neg]
    intro hm2
    obtain ⟨j, hj, e⟩ := List.getElem_of_mem hm2
    exact hn j (by omega) hj e
  | succ d ih =>
    intro i h hn
    refine ev_succ ?_
    simp only [spec_KidRank.l0]
    have hi : i < l.length := by omega
    have e : rd l (i : Int) = l[i] := by simp [rd, hi]
    refine ev_pos (by omega) (ev_pos (by omega) ?_)
    rw [e]
    by_cases hx : l[i] = x
    · refine ev_pos hx (ev_some ?_)
      unfold idxJ
      have hmem : x ∈ l := by rw [← hx]; exact List.getElem_mem hi
      rw [if_pos hmem]
      have hlt := List.idxOf_lt_length_of_mem hmem
      have hge := List.getElem_idxOf hlt
      have h1 : ¬ l.idxOf x < i := fun hlt2 => hn _ hlt2 hlt hge
      have h2 : ¬ i < l.idxOf x := by
        intro hlt2
        have := List.not_of_lt_findIdx (p := (· == x)) (xs := l) (i := i) hlt2
        simp at this
        exact this hx
      omega
    · refine ev_neg hx ?_
      rw [w64 (by omega) (by omega)]
      refine ih (i + 1) (by omega) (fun j hj hjl => ?_)
      by_cases ej : j = i
      · subst ej; exact hx
      · exact hn j (by omega) hjl
theorem spec_KidRank_ev (l : List S80) (i : Int) (hm : (l.length : Int) ≤ 9223372036854775806) : Ev (fun k => spec_KidRank.f k l i) (rankI l i) := by
  simp only [spec_KidRank.f]
  refine ev_bind (spec_ParentOf_ev l i hm) ?_
  unfold rankI
  have hk := kidsI_length l (parI l i)
  by_cases h : parI l i < 0
  · refine ev_pos h ?_
    rw [if_pos h]
    exact Ev.now _
  · refine ev_neg h (ev_bind (spec_KidsOf_ev l _ hm) ?_)
    rw [if_neg h]
    exact spec_KidRank_l0 _ _ (by omega) (kidsI l (parI l i)).length 0 (by omega) (fun j h => absurd h (Nat.not_lt_zero _))

/-! #### spec_PathOf -/
theorem parI_lt {l : List S80} {i : Int} (h : ¬ parI l i < 0) : parI l i < i ∧ 0 ≤ i := by
  unfold parI at h ⊢
  by_cases hh : hasB l i = true
  · rw [if_pos hh] at h ⊢
    obtain ⟨j, rfl, hj, _⟩ := hasB_nat hh
    rw [Int.toNat_natCast] at h ⊢
    unfold Tree.par at h ⊢
    rcases Tree.upFrom_spec (dpA l) (dpA l j) j with ⟨e, _⟩ | ⟨p, e, a, _⟩
    · rw [e] at h; omega
    · rw [e]; omega
  · rw [if_neg hh] at h; omega
theorem rankI_par {l : List S80} {i : Int} (h : rankI l i ≥ 0) : ¬ parI l i < 0 := by
  intro hp
  unfold rankI at h
  rw [if_pos hp] at h
  omega
/-- the path of a node, its numbers put ahead of what is there -/
def pathUp (l : List S80) : Nat → Int → List Int → List Int
  | 0, _, acc => acc
  | n + 1, i, acc => if rankI l i ≥ 0 then pathUp l n (parI l i) (rankI l i :: acc) else acc
/-- the path of a node -/
def pathI (l : List S80) (i : Int) : List Int := pathUp l (i + 1).toNat i []
theorem pathUp_length (l : List S80) : ∀ (n : Nat) (i : Int) (acc : List Int), (pathUp l n i acc).length ≤ acc.length + n := by
  intro n
  induction n with
  | zero => intro i acc; exact Nat.le_refl _
  | succ n ih =>
    intro i acc
    rw [pathUp]
    split
    · have := ih (parI l i) (rankI l i :: acc)
      simp only [List.length_cons] at this
      omega
    · omega
theorem spec_PathOf_l0 (l : List S80) (hm : (l.length : Int) ≤ 1099511627776) : ∀ (n : Nat) (i : Int) (acc : List Int), i < (n : Int) → acc.length + n ≤ 1099511627776 → Ev (fun k => spec_PathOf.l0 k l acc i) (pathUp l n i acc) := by
  intro n
  induction n with
  | zero =>
    intro i acc hi ha
    refine ev_succ ?_
    simp only [spec_PathOf.l0]
    have hr : ¬ rankI l i ≥ 0 := fun h => by have := (parI_lt (rankI_par h)).2; omega
    exact ev_bind (spec_KidRank_ev l i (by omega)) (ev_neg hr (Ev.now _))
  | succ n ih =>
    intro i acc hi ha
    refine ev_succ ?_
    simp only [spec_PathOf.l0]
    rw [pathUp]
    refine ev_bind (spec_KidRank_ev l i (by omega)) ?_
    by_cases hr : rankI l i ≥ 0
    · rw [if_pos hr]
      have hp := parI_lt (rankI_par hr)
      refine ev_pos hr (ev_bind (spec_KidRank_ev l i (by omega)) (ev_bindc rfl (ev_pos (by simp only [List.length_singleton]; omega) (ev_bind (spec_ParentOf_ev l i (by omega)) ?_))))
      exact ih (parI l i) (rankI l i :: acc) (by omega) (by simp only [List.length_cons]; omega)
    · rw [if_neg hr]
      exact ev_neg hr (Ev.now _)
theorem pathUp_more (l : List S80) : ∀ (n m : Nat) (i : Int) (acc : List Int), i < (n : Int) → i < (m : Int) → pathUp l n i acc = pathUp l m i acc := by
  intro n
  induction n with
  | zero =>
    intro m i acc h1 h2
    have hr : ¬ rankI l i ≥ 0 := fun h => by have := (parI_lt (rankI_par h)).2; omega
    cases m with
    | zero => rfl
    | succ m => rw [pathUp, pathUp, if_neg hr]
  | succ n ih =>
    intro m i acc h1 h2
    by_cases hr : rankI l i ≥ 0
    · have hp := parI_lt (rankI_par hr)
      cases m with
      | zero => omega
      | succ m => rw [pathUp, pathUp, if_pos hr, if_pos hr]; exact ih m _ _ (by omega) (by omega)
    · cases m with
      | zero => rw [pathUp, pathUp, if_neg hr]
      | succ m => rw [pathUp, pathUp, if_neg hr, if_neg hr]
theorem spec_PathOf_ev (l : List S80) (i : Int) (hm : (l.length : Int) ≤ 1099511627775) : Ev (fun k => spec_PathOf.f k l i) (pathI l i) := by
  simp only [spec_PathOf.f]
  unfold pathI
  by_cases hi : i < (l.length : Int)
  · have := spec_PathOf_l0 l (by omega) (l.length + 1) i [] (by omega) (by simp only [List.length_nil]; omega)
    rw [pathUp_more l (l.length + 1) (i + 1).toNat i [] (by omega) (by omega)] at this
    exact this
  · have hr : ¬ rankI l i ≥ 0 := by
      intro h
      have h2 := rankI_par h
      unfold parI at h2
      have : ¬ hasB l i = true := fun hh => by have := (hasB_iff.1 hh).2.2; omega
      rw [if_neg this] at h2
      omega
    have e : pathUp l (i + 1).toNat i [] = [] := by
      cases (i + 1).toNat with
      | zero => rfl
      | succ m => rw [pathUp, if_neg hr]
    rw [e]
    refine ev_succ ?_
    simp only [spec_PathOf.l0]
    exact ev_bind (spec_KidRank_ev l i (by omega)) (ev_neg hr (Ev.now _))
theorem pathI_length (l : List S80) (i : Int) : (pathI l i).length ≤ l.length + 1 := by
  unfold pathI
  by_cases hi : i < (l.length : Int)
  · have := pathUp_length l (i + 1).toNat i []
    simp only [List.length_nil] at this
    omega
  · have hr : ¬ rankI l i ≥ 0 := by
      intro h
      have h2 := rankI_par h
      unfold parI at h2
      have : ¬ hasB l i = true := fun hh => by have := (hasB_iff.1 hh).2.2; omega
      rw [if_neg this] at h2
      omega
    cases (i + 1).toNat with
    | zero => simp [pathUp]
    | succ m => rw [pathUp, if_neg hr]; simp

/-! #### spec_l13Op -/
theorem l13Op_j1 (s : List Int) (i h0 a0 : Int) (p : List Int) (a2 a3 a4 : Int) (hp : p.length ≤ 2000) (hc : Cur s i) : ∃ k0 q k2 k3 k4 i' h, Ev (fun k => spec_l13Op.j1 k s i h0 a0 p a2 a3 a4) (k0, q, k2, k3, k4, i', h) ∧ q.length ≤ 2001 ∧ Cur s i' := by
  obtain ⟨x, i1, h1, b1, _, _, _, hc1⟩ := l1Below_ok s i h0 14 hc
  by_cases x0 : x = 0
  · obtain ⟨y, i2, h2, b2, _, _, _, hc2⟩ := l1Below_ok s i1 h1 5 hc1
    refine ⟨y, p, a2, a3, a4, i2, h2, ev_succ ?_, by omega, hc2⟩
    simp only [spec_l13Op.j1]
    exact ev_bindc b1 (ev_pos x0 (ev_bindc b2 (Ev.now _)))
  · by_cases x1 : x = 1
    · obtain ⟨y, i2, h2, b2, _, _, _, hc2⟩ := l1Below_ok s i1 h1 3 hc1
      refine ⟨a0, p ++ [wrap64 (y - 1)], a2, a3, a4, i2, h2, ev_succ ?_, by simp only [List.length_append, List.length_singleton]; omega, hc2⟩
      simp only [spec_l13Op.j1]
      exact ev_bindc b1 (ev_neg x0 (ev_pos x1 (ev_bindc b2 (ev_pos (by omega) (Ev.now _)))))
    · by_cases x2 : x = 2
      · obtain ⟨y, i2, h2, b2, hc2⟩ := l2Any_ok s i1 h1 hc1
        refine ⟨a0, p, y, a3, a4, i2, h2, ev_succ ?_, by omega, hc2⟩
        simp only [spec_l13Op.j1]
        exact ev_bindc b1 (ev_neg x0 (ev_neg x1 (ev_pos x2 (ev_bindc b2 (Ev.now _)))))
      · by_cases x3 : x = 3
        · obtain ⟨j, i2, h2, b2, _, hc2⟩ := l1PickInt_ok s i1 h1 [(-1), 1, 9, 9223372036854775807] (by simp) hc1
          refine ⟨a0, p, a2, rd [(-1), 1, 9, 9223372036854775807] (j : Int), a4, i2, h2, ev_succ ?_, by omega, hc2⟩
          simp only [spec_l13Op.j1]
          exact ev_bindc b1 (ev_neg x0 (ev_neg x1 (ev_neg x2 (ev_pos x3 (ev_bindc b2 (Ev.now _))))))
        · by_cases x4 : x = 4
          · obtain ⟨j, i2, h2, b2, _, hc2⟩ := l1PickInt_ok s i1 h1 [(-1), 1, 9, 9223372036854775807] (by simp) hc1
            refine ⟨a0, p, a2, a3, rd [(-1), 1, 9, 9223372036854775807] (j : Int), i2, h2, ev_succ ?_, by omega, hc2⟩
            simp only [spec_l13Op.j1]
            exact ev_bindc b1 (ev_neg x0 (ev_neg x1 (ev_neg x2 (ev_neg x3 (ev_pos x4 (ev_bindc b2 (Ev.now _)))))))
          · refine ⟨a0, p, a2, a3, a4, i1, h1, ev_succ ?_, by omega, hc1⟩
            simp only [spec_l13Op.j1]
            exact ev_bindc b1 (ev_neg x0 (ev_neg x1 (ev_neg x2 (ev_neg x3 (ev_neg x4 (Ev.now _))))))
theorem l13Op_j0 (l : List S80) (s : List Int) (i h0 a0 : Int) (p : List Int) (a2 a3 a4 : Int) (hl : l.length ≤ 1000) (hp : p.length ≤ 2000) (hc : Cur s i) : ∃ k0 q k2 k3 k4 i' h, Ev (fun k => spec_l13Op.j0 k l s i h0 a0 p a2 a3 a4) (k0, q, k2, k3, k4, i', h) ∧ q.length ≤ 2001 ∧ Cur s i' := by
  by_cases h3 : a0 = 3
  · obtain ⟨x, i1, h1, b1, _, _, _, hc1⟩ := l1Below_ok s i h0 (wrap64 (((kidsI l (nodeI l p)).length : Int) + 1)) hc
    obtain ⟨y, i2, h2, b2, _, _, _, hc2⟩ := l1Below_ok s i1 h1 (wrap64 ((wrap64 (((kidsI l (nodeI l p)).length : Int) - x)) + 1)) hc1
    obtain ⟨k0, q, k2, k3, k4, i', h, he, hq, hc'⟩ := l13Op_j1 s i2 h2 a0 p a2 x y hp hc2
    refine ⟨k0, q, k2, k3, k4, i', h, ev_succ ?_, hq, hc'⟩
    simp only [spec_l13Op.j0]
    exact ev_pos h3 (ev_bind (spec_NodeAt_ev l p (by omega) (by omega)) (ev_bind (spec_KidsOf_ev l _ (by omega)) (ev_bindc b1 (ev_bindc b2 he))))
  · obtain ⟨k0, q, k2, k3, k4, i', h, he, hq, hc'⟩ := l13Op_j1 s i h0 a0 p a2 a3 a4 hp hc
    refine ⟨k0, q, k2, k3, k4, i', h, ev_succ ?_, hq, hc'⟩
    simp only [spec_l13Op.j0]
    exact ev_neg h3 he
theorem l13Op_ok (s : List Int) (i h0 : Int) (l : List S80) (hl : l.length ≤ 1000) (hc : Cur s i) : ∃ k0 q k2 k3 k4 i' h, Ev (fun k => spec_l13Op.f k s i h0 l) (k0, q, k2, k3, k4, i', h) ∧ q.length ≤ 2001 ∧ Cur s i' := by
  obtain ⟨x, i1, h1, b1, _, _, _, hc1⟩ := l1Below_ok s i h0 3 hc
  obtain ⟨y, i2, h2, b2, _, _, _, hc2⟩ := l1Below_ok s i1 h1 (mx 1 (l.length : Int)) hc1
  have hpl := pathI_length l y
  by_cases h : wrap64 (1 + x) = 2
  · obtain ⟨k0, q, k2, k3, k4, i', h', he, hq, hc'⟩ := l13Op_j0 l s i2 h2 (wrap64 (1 + x)) (pathI l y) 0 0 0 hl (by omega) hc2
    refine ⟨k0, q, k2, k3, k4, i', h', ?_, hq, hc'⟩
    simp only [spec_l13Op.f]
    exact ev_bindc b1 (ev_bindc b2 (ev_bind (spec_PathOf_ev l y (by omega)) (ev_pos h he)))
  · obtain ⟨z, i3, h3, b3, _, hc3⟩ := l2Label_ok s i2 h2 hc2
    obtain ⟨k0, q, k2, k3, k4, i', h', he, hq, hc'⟩ := l13Op_j0 l s i3 h3 (wrap64 (1 + x)) (pathI l y) z 0 0 hl (by omega) hc3
    refine ⟨k0, q, k2, k3, k4, i', h', ?_, hq, hc'⟩
    simp only [spec_l13Op.f]
    exact ev_bindc b1 (ev_bindc b2 (ev_bind (spec_PathOf_ev l y (by omega)) (ev_neg h (ev_bindc b3 he))))

/-! #### _all -/
/-- one operation, told as a structure -/
def appO (l : List S80) (o : S78) : List S80 × Int := applyT l o.f0 o.f1 o.f2 o.f3 o.f4
/-- one behind the other, up to the first that cannot be done; how many were, and why -/
def allF : List S80 → Int → List S78 → List S80 × Int × Int
  | l, n, [] => (l, n, 0)
  | l, n, o :: r => if (appO l o).2 = 0 then allF (appO l o).1 (n + 1) r else (l, n, (appO l o).2)
def allT (l : List S80) (ops : List S78) : List S80 × Int × Int := if treeOk l = true then allF l 0 ops else ([], 0, 2)
theorem appO_length (l : List S80) (o : S78) (n : Nat) (hn : 25 ≤ n) (h : l.length ≤ n) : (appO l o).1.length ≤ n := applyT_length l _ _ _ _ _ n hn h
theorem allF_length (n : Nat) (hn : 25 ≤ n) : ∀ (ops : List S78) (l : List S80) (c : Int), l.length ≤ n → (allF l c ops).1.length ≤ n := by
  intro ops
  induction ops with
  | nil => intro l c h; exact h
  | cons o r ih =>
    intro l c h
    rw [allF]
    split
    · exact ih _ _ (appO_length l o n hn h)
    · exact h
theorem allT_length (l : List S80) (ops : List S78) (n : Nat) (hn : 25 ≤ n) (h : l.length ≤ n) : (allT l ops).1.length ≤ n := by
  unfold allT
  split
  · exact allF_length n hn ops l 0 h
  · simp
theorem allF_from (ops : List S78) : ∀ (l : List S80) (c : Int), allF l c ops = ((allF l 0 ops).1, c + (allF l 0 ops).2.1, (allF l 0 ops).2.2) := by
  induction ops with
  | nil => intro l c; simp [allF]
  | cons o r ih =>
    intro l c
    rw [allF, allF]
    split
    · rw [ih _ (c + 1), ih _ (0 + 1)]
      simp only [Prod.mk.injEq, true_and, and_true]
      omega
    · simp

/-! #### spec_l13Script -/
/-- drawn operations: at most so many, their paths short -/
def OpsD (ops : List S78) (n : Nat) : Prop := ops.length ≤ n ∧ ∀ o ∈ ops, o.f1.length ≤ 2001
theorem OpsD.snoc {ops : List S78} {n : Nat} (h : OpsD ops n) {o : S78} (ho : o.f1.length ≤ 2001) : OpsD (ops ++ [o]) (n + 1) := by
  refine ⟨by have := h.1; simp only [List.length_append, List.length_singleton]; omega, fun x hx => ?_⟩
  rcases List.mem_append.1 hx with hx | hx
  · exact h.2 x hx
  · rw [List.mem_singleton.1 hx]; exact ho
theorem OpsD.cons {ops : List S78} {n : Nat} (h : OpsD ops n) {o : S78} (ho : o.f1.length ≤ 2001) : OpsD (o :: ops) (n + 1) := by
  refine ⟨by have := h.1; simp only [List.length_cons]; omega, fun x hx => ?_⟩
  rcases List.mem_cons.1 hx with rfl | hx
  · exact ho
  · exact h.2 x hx
theorem OpsD.le {ops : List S78} {n m : Nat} (h : OpsD ops n) (hm : n ≤ m) : OpsD ops m := ⟨Nat.le_trans h.1 hm, h.2⟩
theorem OpsD.b {ops : List S78} {n : Nat} (h : OpsD ops n) (hn : n ≤ 1000000) : OpsB ops := ⟨by have := h.1; omega, fun o ho => by have := h.2 o ho; omega⟩
theorem l13Script_l0 (s : List Int) : ∀ (d : Nat) (ops : List S78) (l : List S80) (i h0 : Int) (m : Nat), OpsD ops m → m + d ≤ 100000 → l.length ≤ 1000 → Cur s i →
    ∃ r i' h, Ev (fun k => spec_l13Script.l0 k ops l (d : Int) s i h0) (r, i', h) ∧ OpsD r (m + d) ∧ Cur s i' := by
  intro d
  induction d with
  | zero =>
    intro ops l i h0 m ho hm hl hc
    refine ⟨ops, i, h0, ev_succ ?_, ho, hc⟩
    simp only [spec_l13Script.l0]
    exact ev_neg (by omega) (Ev.now _)
  | succ d ih =>
    intro ops l i h0 m ho hm hl hc
    obtain ⟨k0, q, k2, k3, k4, i1, h1, he, hq, hc1⟩ := l13Op_ok s i h0 l hl hc
    have hap := spec_ApplyOp_ev l k0 q k2 k3 k4 (by omega) (by omega)
    have hal := applyT_length l k0 q k2 k3 k4 1000 (by omega) hl
    have hed : wrap64 (((d + 1 : Nat) : Int) - 1) = (d : Int) := by rw [w64 (by omega) (by omega)]; omega
    have hol := ho.1
    have em : m + 1 + d = m + (d + 1) := by omega
    by_cases hz : (applyT l k0 q k2 k3 k4).2 = 0
    · obtain ⟨r, i', h, hr, hor, hcr⟩ := ih (ops ++ [⟨k0, q, k2, k3, k4⟩]) _ i1 h1 (m + 1) (ho.snoc hq) (by omega) hal hc1
      refine ⟨r, i', h, ev_succ ?_, by rw [← em]; exact hor, hcr⟩
      simp only [spec_l13Script.l0]
      refine ev_pos (by omega) (ev_bind he (ev_bind hap (ev_pos hz (ev_succ ?_))))
      simp only [spec_l13Script.j1, hed]
      exact ev_pos trivial (ev_pos (by omega) (ev_bindc rfl (ev_pos hz hr)))
    · obtain ⟨o, i2, h2, b2, hc2⟩ := l1Once_ok s i1 h1 3 hc1
      by_cases hoo : o = true
      · obtain ⟨r, i', h, hr, hor, hcr⟩ := ih (ops ++ [⟨k0, q, k2, k3, k4⟩]) l i2 h2 (m + 1) (ho.snoc hq) (by omega) hl hc2
        refine ⟨r, i', h, ev_succ ?_, by rw [← em]; exact hor, hcr⟩
        simp only [spec_l13Script.l0]
        refine ev_pos (by omega) (ev_bind he (ev_bind hap (ev_neg hz (ev_bindc b2 (ev_succ ?_)))))
        simp only [spec_l13Script.j1, hed]
        exact ev_pos hoo (ev_pos (by omega) (ev_bindc rfl (ev_neg hz hr)))
      · obtain ⟨r, i', h, hr, hor, hcr⟩ := ih ops l i2 h2 m ho (by omega) hl hc2
        refine ⟨r, i', h, ev_succ ?_, hor.le (by omega), hcr⟩
        simp only [spec_l13Script.l0]
        refine ev_pos (by omega) (ev_bind he (ev_bind hap (ev_neg hz (ev_bindc b2 (ev_succ ?_)))))
        simp only [spec_l13Script.j1, hed]
        exact ev_neg hoo (ev_neg hz hr)
theorem l13Script_ok (s : List Int) (i h0 : Int) (l : List S80) (most : Int) (h1 : 0 < most) (h2 : most ≤ 90000) (hl : l.length ≤ 1000) (hc : Cur s i) : ∃ r i' h, Ev (fun k => spec_l13Script.f k s i h0 l most) (r, i', h) ∧ OpsD r most.toNat ∧ Cur s i' := by
  obtain ⟨x, i1, h1', b1, hx0, hx1, _, hc1⟩ := l1Below_ok s i h0 most hc
  have hx := hx1 h1
  obtain ⟨n, rfl⟩ : ∃ n : Nat, x = (n : Int) := ⟨x.toNat, by omega⟩
  obtain ⟨r, i', h, hr, hor, hcr⟩ := l13Script_l0 s n [] l i1 h1' 0 ⟨Nat.le_refl _, fun o ho => absurd ho List.not_mem_nil⟩ (by omega) hl hc1
  refine ⟨r, i', h, ?_, hor.le (by omega), hcr⟩
  simp only [spec_l13Script.f]
  exact ev_bindc (l3Copy_eq l (by omega)) (ev_bindc b1 hr)

/-! #### spec_DrawApplyAll -/
theorem DrawApplyAll_ok (l : List Int) (hl : (l.length : Int) ≤ 4611686018427387904) : ∃ a ops, Ev (fun k => spec_DrawApplyAll.f k l) (a, ops) ∧ a.length ≤ 1000 ∧ OpsD ops 7 := by
  obtain ⟨h, hn⟩ := l1New_ev l hl
  obtain ⟨t, i1, h1, b1, ht, hc1⟩ := l3Any_ok l 0 h 8 (by omega) ⟨⟨by omega, by omega⟩, hl⟩
  obtain ⟨r, i2, h2, b2, hr, hc2⟩ := l13Script_ok l i1 h1 t 7 (by omega) (by omega) ht hc1
  refine ⟨t, r, ?_, ht, hr⟩
  simp only [spec_DrawApplyAll.f]
  exact ev_bind hn (ev_bind b1 (ev_bind b2 (Ev.now _)))

/-! #### spec_l15Script -/
theorem l15Script_l0 (s : List Int) : ∀ (d : Nat) (ops : List S78) (i h0 : Int) (m : Nat), OpsD ops m → m ≤ 61 → ops.length + d = 62 → Cur s i → ∃ r i' h, Ev (fun k => spec_l15Script.l0 k ops s i h0) (r, i', h) ∧ OpsD r 61 ∧ Cur s i' := by
  intro d
  induction d with
  | zero =>
    intro ops i h0 m ho hm hl hc
    have := ho.1
    omega
  | succ d ih =>
    intro ops i h0 m ho hm hl hc
    have hol := ho.1
    obtain ⟨x, i1, h1, b1, hx0, hx1, _, hc1⟩ := l1Below_ok s i h0 2 hc
    have hx := hx1 (by omega)
    by_cases hlt : (ops.length : Int) < 60 + x
    · obtain ⟨r, i2, h2, e2, hr2, hc2⟩ := ih (ops ++ [⟨1, [], 0, 0, 0⟩]) i1 h1 (ops.length + 1) (OpsD.snoc ⟨Nat.le_refl _, ho.2⟩ (by simp)) (by omega) (by rw [List.length_append, List.length_singleton]; omega) hc1
      refine ⟨r, i2, h2, ev_succ ?_, hr2, hc2⟩
      simp only [spec_l15Script.l0]
      refine ev_bindc b1 ?_
      rw [w64 (x := 60 + x) (by omega) (by omega)]
      exact ev_pos hlt (ev_pos (by omega) e2)
    · refine ⟨ops, i1, h1, ev_succ ?_, ho.le hm, hc1⟩
      simp only [spec_l15Script.l0]
      refine ev_bindc b1 ?_
      rw [w64 (x := 60 + x) (by omega) (by omega)]
      exact ev_neg hlt (Ev.now _)
theorem l15Script_ok (s : List Int) (i h0 : Int) (hc : Cur s i) : ∃ r i' h, Ev (fun k => spec_l15Script.f k s i h0) (r, i', h) ∧ OpsD r 61 ∧ Cur s i' := by
  obtain ⟨t, i1, h1, b1, ht, hc1⟩ := l3Tree_ok s i h0 8 (by omega) hc
  obtain ⟨r, i2, h2, b2, hr, hc2⟩ := l13Script_ok s i1 h1 t 7 (by omega) (by omega) (by have := ht.2.1; omega) hc1
  obtain ⟨o, i3, h3, b3, hc3⟩ := l1Once_ok s i2 h2 14 hc2
  by_cases ho : o = true
  · obtain ⟨r', i4, h4, b4, hr4, hc4⟩ := l15Script_l0 s (62 - r.length) r i3 h3 7 hr (by omega) (by have := hr.1; omega) hc3
    refine ⟨r', i4, h4, ?_, hr4, hc4⟩
    simp only [spec_l15Script.f]
    exact ev_bind b1 (ev_bind b2 (ev_bindc b3 (ev_pos ho b4)))
  · refine ⟨r, i3, h3, ?_, hr.le (by omega), hc3⟩
    simp only [spec_l15Script.f]
    exact ev_bind b1 (ev_bind b2 (ev_bindc b3 (ev_neg ho (Ev.now _))))

/-! #### spec_DrawJoined -/
theorem DrawJoined_ok (l : List Int) (hl : (l.length : Int) ≤ 4611686018427387904) : ∃ a b, Ev (fun k => spec_DrawJoined.f k l) (a, b) ∧ OpsD a 61 ∧ OpsD b 61 := by
  obtain ⟨h, hn⟩ := l1New_ev l hl
  obtain ⟨a, i1, h1, b1, ha, hc1⟩ := l15Script_ok l 0 h ⟨⟨by omega, by omega⟩, hl⟩
  obtain ⟨b, i2, h2, b2, hb, hc2⟩ := l15Script_ok l i1 h1 hc1
  refine ⟨a, b, ?_, ha, hb⟩
  simp only [spec_DrawJoined.f]
  exact ev_bind hn (ev_bind b1 (ev_bind b2 (Ev.now _)))

/-! #### spec_l7Same -/
theorem l7Same_self (p : List Int) (hp : (p.length : Int) ≤ 1099511627776) : Ev (fun k => spec_l7Same.f k p p) true := by
  have key : ∀ (d j : Nat), j + d = p.length → Ev (fun k => spec_l7Same.l0 k p p (j : Int)) true := by
    intro d
    induction d with
    | zero =>
      intro j h
      refine ev_succ ?_
      simp only [spec_l7Same.l0]
      exact ev_neg (by omega) (Ev.now _)
    | succ d ih =>
      intro j h
      refine ev_succ ?_
      simp only [spec_l7Same.l0]
      refine ev_pos (by omega) (ev_pos (by omega) (ev_pos (by omega) (ev_pos trivial ?_)))
      rw [w64 (x := (j : Int) + 1) (by omega) (by omega)]
      exact ih (j + 1) (by omega)
  simp only [spec_l7Same.f]
  exact ev_pos trivial (key p.length 0 (by omega))

/-! #### spec_l15Same -/
theorem l15Same_self (a0 : Int) (p : List Int) (a2 a3 a4 : Int) (hp : (p.length : Int) ≤ 1099511627776) : Ev (fun k => spec_l15Same.f k a0 p a2 a3 a4 a0 p a2 a3 a4) true := by
  simp only [spec_l15Same.f]
  refine ev_pos trivial (ev_bind (l7Same_self p hp) (ev_pos rfl (ev_pos trivial (ev_pos trivial (ev_some ?_)))))
  simp

/-! #### spec_SameOps -/
theorem SameOps_self (ops : List S78) (hb : OpsB ops) : Ev (fun k => spec_SameOps.f k ops ops) true := by
  have hl := hb.1
  have key : ∀ (d j : Nat), j + d = ops.length → Ev (fun k => spec_SameOps.l0 k ops ops (j : Int)) true := by
    intro d
    induction d with
    | zero =>
      intro j h
      refine ev_succ ?_
      simp only [spec_SameOps.l0]
      exact ev_neg (by omega) (Ev.now _)
    | succ d ih =>
      intro j h
      refine ev_succ ?_
      simp only [spec_SameOps.l0]
      have hp := hb.at (j := j) (by omega)
      refine ev_pos (by omega) (ev_pos (by omega) (ev_pos (by omega) (ev_bind (l15Same_self _ _ _ _ _ hp) (ev_pos rfl ?_))))
      rw [w64 (x := (j : Int) + 1) (by omega) (by omega)]
      exact ih (j + 1) (by omega)
  simp only [spec_SameOps.f]
  exact ev_pos trivial (key ops.length 0 (by omega))

/-! #### impl_within -/
theorem within_eq (a b c : Int) : impl_within.f a b c = some (decide (b ≤ a ∧ a ≤ c)) := by
  unfold impl_within.f
  by_cases h : b ≤ a
  · rw [if_pos h]; simp [h]
  · rw [if_neg h]; simp [h]

/-! #### impl_LabelOk -/
theorem LabelOk_eq (a : Int) : impl_LabelOk.f a = some (decide (0 ≤ a ∧ a ≤ 5)) := by
  unfold impl_LabelOk.f; rw [within_eq]; rfl

/-! #### impl_TreeOk -/
theorem depthOk_eq (l : List S80) (i : Nat) (hi : i < l.length) (hl : l.length ≤ 24) (hp : 0 < i → 0 ≤ dpA l (i - 1) ∧ dpA l (i - 1) ≤ 12) : impl_depthOk.f l (i : Int) = some (decide (if i = 0 then dpA l i = 0 else 1 ≤ dpA l i ∧ dpA l i ≤ dpA l (i - 1) + 1)) := by
  unfold impl_depthOk.f
  by_cases h0 : i = 0
  · subst h0
    conv => lhs; rw [if_pos (show ((0 : Nat) : Int) = 0 from rfl), if_pos (by omega)]
    congr 1
  · have e1 : (i : Int) - 1 = ((i - 1 : Nat) : Int) := by omega
    have hb := hp (by omega)
    conv => lhs; rw [if_neg (by omega), if_pos (by omega), if_pos (by omega), w64 (x := (i : Int) - 1) (by omega) (by omega), e1, if_pos (by omega), if_pos (by omega), rd_f1, rd_f1, w64 (x := dpA l (i - 1) + 1) (by omega) (by omega), within_eq]
    simp only [h0, if_false, Option.bind_some]
theorem impl_TreeOk_l0 (l : List S80) (hl : l.length ≤ 24) : ∀ (d i : Nat), i + d = l.length → (0 < i → okAt l (i - 1)) → Ev (fun k => impl_TreeOk.l0 k l l (l.length : Int) (i : Int)) (okFrom l i) := by
  intro d
  induction d with
  | zero =>
    intro i h hp
    refine ev_succ ?_
    simp only [impl_TreeOk.l0]
    refine ev_neg (by omega) (ev_some ?_)
    rw [okFrom_end (by omega)]
  | succ d ih =>
    intro i h hp
    refine ev_succ ?_
    simp only [impl_TreeOk.l0]
    simp only [rd_f0, rd_f1]
    rw [okFrom_step (by omega)]
    refine ev_pos (by omega) (ev_pos (by omega) (ev_pos (by omega) (ev_bindc (LabelOk_eq _) ?_)))
    simp only [decide_eq_true_eq]
    by_cases h1 : 0 ≤ lbA l i ∧ lbA l i ≤ 5
    · refine ev_pos h1 (ev_bindc (within_eq _ _ _) ?_)
      simp only [decide_eq_true_eq]
      by_cases h2 : 0 ≤ dpA l i ∧ dpA l i ≤ 12
      · refine ev_pos h2 (ev_bindc (depthOk_eq l i (by omega) hl (fun h0 => (hp h0).2.1)) ?_)
        simp only [decide_eq_true_eq]
        by_cases h3 : (if i = 0 then dpA l i = 0 else 1 ≤ dpA l i ∧ dpA l i ≤ dpA l (i - 1) + 1)
        · refine ev_pos h3 ?_
          have ok : okAt l i := ⟨h1, h2, h3⟩
          rw [w64 (x := (i : Int) + 1) (by omega) (by omega), decide_eq_true ok, Bool.true_and]
          exact ih (i + 1) (by omega) (fun _ => ok)
        · refine ev_neg h3 (ev_some ?_)
          have ok : ¬ okAt l i := fun h => h3 h.2.2
          rw [decide_eq_false ok, Bool.false_and]
      · refine ev_neg h2 (ev_some ?_)
        have ok : ¬ okAt l i := fun h => h2 h.2.1
        rw [decide_eq_false ok, Bool.false_and]
    · refine ev_neg h1 (ev_some ?_)
      have ok : ¬ okAt l i := fun h => h1 h.1
      rw [decide_eq_false ok, Bool.false_and]
theorem impl_TreeOk_ev (l : List S80) : Ev (fun k => impl_TreeOk.f k l) (treeOk l) := by
  simp only [impl_TreeOk.f]
  refine ev_bindc (within_eq _ _ _) ?_
  simp only [decide_eq_true_eq]
  rw [okFrom_zero]
  by_cases h : 1 ≤ l.length ∧ l.length ≤ 24
  · refine ev_pos (by omega) ?_
    rw [decide_eq_true h, Bool.true_and]
    exact impl_TreeOk_l0 l h.2 l.length 0 (by omega) (fun h => absurd h (Nat.lt_irrefl 0))
  · refine ev_neg (by omega) (ev_some ?_)
    rw [decide_eq_false h, Bool.false_and]

/-! #### slices_Clone_Node -/
theorem clone_eq (l : List S80) (h : l.length < 8796093022208) : slices_Clone_Node.f l = some l := by
  unfold slices_Clone_Node.f
  simp only [Option.bind_some, List.nil_append, List.length_nil]
  rw [if_pos (by omega)]

/-! #### impl_endOf -/
theorem endOf_l0 (l : List S80) (i : Nat) (hi : i < l.length) (hm : l.length ≤ 24) : ∀ (f j : Nat), l.length ≤ j + f → i < j → Ev (fun k => impl_endOf.l0 k l (i : Int) (j : Int)) (Tree.eoFrom l.length (dpA l) (dpA l i) f j : Int) := by
  intro f
  induction f with
  | zero =>
    intro j h h1
    refine ev_succ ?_
    simp only [impl_endOf.l0]
    exact ev_neg (by omega) (Ev.now _)
  | succ f ih =>
    intro j h h1
    refine ev_succ ?_
    simp only [impl_endOf.l0]
    simp only [rd_f1]
    rw [Tree.eoFrom]
    by_cases h2 : j < l.length
    · refine ev_pos (by omega) (ev_pos (by omega) (ev_pos (by omega) (ev_pos (by omega) ?_)))
      by_cases h3 : dpA l j > dpA l i
      · refine ev_pos h3 ?_
        rw [if_pos ⟨h2, h3⟩, w64 (by omega) (by omega)]
        exact ih (j + 1) (by omega) (by omega)
      · refine ev_neg h3 (ev_some ?_)
        rw [if_neg (by omega)]
    · refine ev_neg (by omega) (ev_some ?_)
      rw [if_neg (by omega)]
theorem endOf_ev (l : List S80) (i : Nat) (hi : i < l.length) (hm : l.length ≤ 24) : Ev (fun k => impl_endOf.f k l (i : Int)) (Tree.eo l.length (dpA l) i : Int) := by
  simp only [impl_endOf.f]
  rw [w64 (by omega) (by omega)]
  exact endOf_l0 l i hi hm (l.length - (i + 1)) (i + 1) (by omega) (by omega)

/-! #### impl_hasNode -/
theorem hasNode_ev (l : List S80) (i : Int) (hm : (l.length : Int) ≤ 9223372036854775806) : Ev (fun k => impl_hasNode.f k l i) (hasB l i) := by
  simp only [impl_hasNode.f]
  refine ev_bind (impl_TreeOk_ev l) ?_
  unfold hasB
  by_cases h : treeOk l = true
  · refine ev_pos h ?_
    rw [h, w64 (x := (l.length : Int) - 1) (by omega) (by omega)]
    refine ev_bindc (within_eq _ _ _) (ev_some ?_)
    rw [Bool.true_and]
    congr 1
    simp only [eq_iff_iff]
    omega
  · refine ev_neg h (ev_some ?_)
    have : treeOk l = false := by simpa using h
    rw [this, Bool.false_and]

/-! #### impl_KidsOf -/
theorem impl_KidsOf_l0 (l : List S80) (i : Nat) (hi : i < l.length) (hm : l.length ≤ 24) (ht : treeOk l = true) : ∀ (d j : Nat), j + d = Tree.eo l.length (dpA l) i → i < j →
    Ev (fun k => impl_KidsOf.l0 k l (i : Int) (kidsTo l i j) (j : Int)) (kidsTo l i (Tree.eo l.length (dpA l) i)) := by
  have he := Tree.eo_le (D := dpA l) hi
  intro d
  induction d with
  | zero =>
    intro j h hj
    refine ev_succ ?_
    simp only [impl_KidsOf.l0]
    refine ev_bind (endOf_ev l i hi hm) (ev_neg (by omega) (ev_some ?_))
    have : j = Tree.eo l.length (dpA l) i := by omega
    rw [this]
  | succ d ih =>
    intro j h hj
    refine ev_succ ?_
    simp only [impl_KidsOf.l0]
    simp only [rd_f1]
    have d2 := dp_range ht hi
    have hk := kidsTo_length l i j
    refine ev_bind (endOf_ev l i hi hm) (ev_pos (by omega) (ev_pos (by omega) (ev_pos (by omega) (ev_pos (by omega) (ev_pos (by omega) ?_)))))
    rw [w64 (x := dpA l i + 1) (by omega) (by omega), w64 (x := (j : Int) + 1) (by omega) (by omega)]
    have := ih (j + 1) (by omega) (by omega)
    rw [kidsTo_step l i j hj] at this
    by_cases hd : dpA l j = dpA l i + 1
    · rw [if_pos hd] at this
      exact ev_pos hd (ev_pos (by omega) this)
    · rw [if_neg hd, List.append_nil] at this
      exact ev_neg hd this
theorem impl_KidsOf_ev (l : List S80) (i : Int) (hm : (l.length : Int) ≤ 9223372036854775806) : Ev (fun k => impl_KidsOf.f k l i) (kidsI l i) := by
  simp only [impl_KidsOf.f, Option.bind_some]
  refine ev_bind (hasNode_ev l i hm) ?_
  by_cases h : hasB l i = true
  · refine ev_pos h ?_
    obtain ⟨j, rfl, hj, h1, h2, hv⟩ := hasB_nat h
    have g := @Tree.eo_gt l.length (dpA l) j
    rw [w64 (by omega) (by omega), kidsI_nat h]
    have := impl_KidsOf_l0 l j hj h2 h1 (Tree.eo l.length (dpA l) j - (j + 1)) (j + 1) (by omega) (by omega)
    have e : kidsTo l j (j + 1) = [] := by unfold kidsTo; rw [Nat.sub_self]; rfl
    rw [e] at this
    exact this
  · refine ev_neg h (ev_some ?_)
    unfold kidsI
    rw [if_neg h]

/-! #### impl_NodeAt -/
theorem impl_NodeAt_l0 (l : List S80) (p : List Int) (ht : treeOk l = true) (hp : (p.length : Int) ≤ 9223372036854775806) : ∀ (d j i : Nat), j + d = p.length → i < l.length → Ev (fun k => impl_NodeAt.l0 k l (i : Int) p (p.length : Int) (j : Int)) (optI (Tree.goDown l.length (dpA l) i (p.drop j))) := by
  have h24 := (treeOk_iff.1 ht).1
  intro d
  induction d with
  | zero =>
    intro j i h hi
    refine ev_succ ?_
    simp only [impl_NodeAt.l0]
    rw [List.drop_eq_nil_of_le (by omega)]
    exact ev_neg (by omega) (Ev.now _)
  | succ d ih =>
    intro j i h hi
    refine ev_succ ?_
    simp only [impl_NodeAt.l0]
    have hkl := kidsI_length l (i : Int)
    refine ev_pos (by omega) (ev_pos (by omega) (ev_pos (by omega) (ev_bind (impl_KidsOf_ev l _ (by omega)) (ev_bindc (within_eq _ _ _) ?_))))
    rw [w64 (by omega) (by omega), kidsI_ok ht hi, List.length_map, drop_rd p j (by omega), Tree.goDown]
    by_cases hk : 0 ≤ rd p (j : Int) ∧ rd p (j : Int) < ((Tree.kids l.length (dpA l) i).length : Int)
    · rw [if_pos hk]
      refine ev_pos (decide_eq_true (by omega)) (ev_pos hk.1 (ev_pos hk.2 ?_))
      rw [rd_nat _ _ hk.1 hk.2, w64 (x := (j : Int) + 1) (by omega) (by omega)]
      refine ih (j + 1) _ (by omega) (Tree.kids_lt (D := dpA l) hi ?_)
      rw [List.getD_eq_getElem?_getD, List.getElem?_eq_getElem (by omega)]
      exact List.getElem_mem _
    · rw [if_neg hk]
      exact ev_neg (by simp only [decide_eq_true_eq]; omega) (Ev.now _)
theorem impl_NodeAt_ev (l : List S80) (p : List Int) (hp : (p.length : Int) ≤ 9223372036854775806) : Ev (fun k => impl_NodeAt.f k l p) (nodeI l p) := by
  simp only [impl_NodeAt.f]
  refine ev_bind (impl_TreeOk_ev l) ?_
  unfold nodeI
  by_cases h : treeOk l = true
  · rw [if_pos h]
    exact ev_pos h (impl_NodeAt_l0 l p h hp p.length 0 0 (by omega) (by have := (treeOk_iff.1 h).1; omega))
  · rw [if_neg h]
    exact ev_neg h (Ev.now _)

/-! #### impl_opCode -/
theorem opCode_l0 (l : List S80) (f t : Nat) (ht : treeOk l = true) (hft : f ≤ t) (htl : t ≤ l.length) : ∀ (d j : Nat) (a : Int), f + j + d = t → Ev (fun k => impl_opCode.l0 k l (f : Int) (t : Int) a ((l.take t).drop f) (((l.take t).drop f).length : Int) (j : Int)) (if (l.length : Int) = 24 then (6, 0, 0) else if deepF l d (f + j) a > 12 then (7, 0, 0) else (0, (f : Int), (t : Int))) := by
  have hlen : ((l.take t).drop f).length = t - f := by rw [List.length_drop, List.length_take]; omega
  have h24 := (treeOk_iff.1 ht).1
  intro d
  induction d with
  | zero =>
    intro j a h
    refine ev_succ ?_
    simp only [impl_opCode.l0]
    refine ev_neg (by omega) ?_
    refine ev_ite (fun c => by rw [if_pos c]; exact Ev.now _) (fun c => ?_)
    rw [if_neg c]
    show Ev _ (if a > 12 then _ else _)
    exact ev_ite (fun c => by rw [if_pos c]; exact Ev.now _) (fun c => by rw [if_neg c]; exact Ev.now _)
  | succ d ih =>
    intro j a h
    refine ev_succ ?_
    simp only [impl_opCode.l0]
    have dj := dp_range ht (j := f + j) (by omega)
    have ed : dpA ((l.take t).drop f) j = dpA l (f + j) := by unfold dpA; rw [at_drop, at_take _ _ _ (by omega)]
    refine ev_pos (by omega) (ev_pos (by omega) (ev_pos (by omega) ?_))
    rw [rd_f1, ed, w64 (x := dpA l (f + j) + 1) (by omega) (by omega), w64 (x := (j : Int) + 1) (by omega) (by omega)]
    exact ih (j + 1) _ (by omega)
theorem opCode_j1 (l : List S80) (i : Nat) (kind lab fr ct : Int) (p : List Int) (ht : treeOk l = true) (hi : i < l.length) (b : Bool) (hb : b = decide (kind = 2 ∧ (i : Int) = 0)) (hk : 1 ≤ kind ∧ kind ≤ 3) (hl : ¬ (kind ≠ 2 ∧ ¬ (0 ≤ lab ∧ lab ≤ 5))) : Ev (fun k => impl_opCode.j1 k l (i : Int) b kind p lab fr ct) (codeT l kind lab fr ct (i : Int)) := by
  have h24 := (treeOk_iff.1 ht).1
  have he := Tree.eo_le (D := dpA l) hi
  have di := dp_range ht hi
  have hkl := kidsI_length l (i : Int)
  have hkn : (kidsI l (i : Int)).length = (Tree.kids l.length (dpA l) i).length := by rw [kidsI_ok ht hi, List.length_map]
  unfold codeT
  rw [if_pos hk, if_neg (by omega), if_neg hl, Int.toNat_natCast]
  refine ev_succ ?_
  simp only [impl_opCode.j1]
  by_cases h1 : kind = 2 ∧ (i : Int) = 0
  · rw [if_pos h1]
    exact ev_pos (by rw [hb]; exact decide_eq_true h1) (Ev.now _)
  · rw [if_neg h1]
    refine ev_neg (by rw [hb]; simpa using h1) ?_
    by_cases h3 : kind = 3
    · rw [if_pos h3]
      refine ev_pos h3 (ev_bind (impl_KidsOf_ev l _ (by omega)) (ev_bindc (within_eq _ _ _) ?_))
      have bad : ¬ (0 ≤ fr ∧ fr ≤ ((Tree.kids l.length (dpA l) i).length : Int) ∧ 0 ≤ ct ∧ ct ≤ ((Tree.kids l.length (dpA l) i).length : Int) - fr) → Ev (fun k => impl_opCode.j2 k l (i : Int) (kidsI l (i : Int)) true kind p lab fr ct) (if 0 ≤ fr ∧ fr ≤ ((Tree.kids l.length (dpA l) i).length : Int) ∧ 0 ≤ ct ∧ ct ≤ ((Tree.kids l.length (dpA l) i).length : Int) - fr then tailT l i ((Tree.bounds l.length (dpA l) i).getD fr.toNat 0) ((Tree.bounds l.length (dpA l) i).getD (fr + ct).toNat 0) else (5, 0, 0)) := by
        intro c
        rw [if_neg c]
        refine ev_succ ?_
        simp only [impl_opCode.j2]
        exact ev_pos trivial (Ev.now _)
      by_cases h4 : 0 ≤ fr ∧ fr ≤ ((kidsI l (i : Int)).length : Int)
      · refine ev_pos (decide_eq_true h4) (ev_bindc (within_eq _ _ _) ?_)
        rw [w64 (by omega) (by omega)]
        by_cases h5 : 0 ≤ ct ∧ ct ≤ ((kidsI l (i : Int)).length : Int) - fr
        · have hall : 0 ≤ fr ∧ fr ≤ ((Tree.kids l.length (dpA l) i).length : Int) ∧ 0 ≤ ct ∧ ct ≤ ((Tree.kids l.length (dpA l) i).length : Int) - fr := by omega
          obtain ⟨f1, f2, f3, f4⟩ := bounds_facts hi hall
          rw [decide_eq_true h5, if_pos hall]
          refine ev_succ ?_
          simp only [impl_opCode.j2]
          have hbl := bounds_length l.length (dpA l) i
          refine ev_neg (by decide) (ev_bind (endOf_ev l i hi (by omega)) (ev_pos (by omega) (ev_bindc rfl ?_)))
          rw [bounds_int ht hi, List.length_map, w64 (x := fr + ct) (by omega) (by omega)]
          refine ev_pos (by omega) (ev_pos (by omega) (ev_pos (by omega) (ev_pos (by omega) ?_)))
          rw [rd_nat _ _ (by omega) (by omega), rd_nat _ _ (by omega) (by omega)]
          refine ev_pos (by omega) (ev_pos (by omega) (ev_pos (by omega) (ev_pos (by omega) (ev_pos (by omega) (ev_bindc rfl ?_)))))
          rw [rd_f1, w64 (x := dpA l i + 1) (by omega) (by omega)]
          simp only [Int.toNat_natCast]
          unfold tailT
          have := opCode_l0 l ((Tree.bounds l.length (dpA l) i).getD fr.toNat 0) ((Tree.bounds l.length (dpA l) i).getD (fr + ct).toNat 0) ht f2 (by omega) ((Tree.bounds l.length (dpA l) i).getD (fr + ct).toNat 0 - (Tree.bounds l.length (dpA l) i).getD fr.toNat 0) 0 (dpA l i + 1) (by omega)
          exact this
        · rw [decide_eq_false h5]
          exact bad (by omega)
      · exact ev_neg (by simpa using h4) (bad (by omega))
    · rw [if_neg h3]
      exact ev_neg h3 (Ev.now _)
theorem opCode_ev (l : List S80) (kind lab fr ct i : Int) (p : List Int) (hi : i < 0 ∨ ∃ n : Nat, i = (n : Int) ∧ n < l.length ∧ treeOk l = true) : Ev (fun k => impl_opCode.f k l kind p lab fr ct i) (codeT l kind lab fr ct i) := by
  simp only [impl_opCode.f]
  refine ev_bindc (within_eq _ _ _) ?_
  by_cases hk : 1 ≤ kind ∧ kind ≤ 3
  · refine ev_pos (decide_eq_true hk) ?_
    rcases hi with hi | ⟨n, rfl, hn, ht⟩
    · unfold codeT
      rw [if_pos hk, if_pos hi]
      exact ev_pos hi (Ev.now _)
    · refine ev_neg (by omega) ?_
      by_cases h2 : kind = 2
      · refine ev_pos h2 (ev_succ ?_)
        simp only [impl_opCode.j0]
        refine ev_neg (by decide) (ev_pos h2 (opCode_j1 l n kind lab fr ct p ht hn _ ?_ hk (by omega)))
        rw [Bool.eq_iff_iff]; simp [h2]
      · refine ev_neg h2 (ev_bindc (LabelOk_eq _) (ev_succ ?_))
        simp only [impl_opCode.j0]
        by_cases hl : 0 ≤ lab ∧ lab ≤ 5
        · refine ev_neg (by simp [hl]) (ev_neg h2 (opCode_j1 l n kind lab fr ct p ht hn _ ?_ hk (by omega)))
          simp [h2]
        · refine ev_pos (by rw [decide_eq_false hl]; rfl) ?_
          unfold codeT
          rw [if_pos hk, if_neg (by omega), if_pos ⟨h2, hl⟩]
          exact Ev.now _
  · refine ev_neg (by simpa using hk) ?_
    unfold codeT
    rw [if_neg hk]
    exact Ev.now _

/-! #### slices_Delete_Node -/
theorem delete_eq (l : List S80) (i j : Nat) (hij : i ≤ j) (hj : j ≤ l.length) : slices_Delete_Node.f l (i : Int) (j : Int) = some (l.take i ++ l.drop j) := by
  unfold slices_Delete_Node.f
  rw [if_pos (by omega)]
  simp only [Int.toNat_natCast]

/-! #### slices_Insert_Node -/
theorem insert_eq (l : List S80) (i : Nat) (v : List S80) (hi : i ≤ l.length) (hv : 0 < v.length) (hl : l.length + v.length < 8796093022208) : slices_Insert_Node.f l (i : Int) v = some (l.take i ++ v ++ l.drop i) := by
  unfold slices_Insert_Node.f
  rw [if_pos (by omega)]
  simp only [Int.toNat_natCast]

/-! #### impl_ApplyOp -/
theorem impl_ApplyOp_l0 (l : List S80) (i : Nat) (ht : treeOk l = true) (hi : i < l.length) : ∀ (d j : Nat), j + d = Tree.eo l.length (dpA l) i → i < j → Ev (fun k => impl_ApplyOp.l0 k l (midN (-1) (i + 1) l j) (i : Int) (j : Int)) (l.take i ++ ((l.take (Tree.eo l.length (dpA l) i)).drop (i + 1)).map (upN (-1)) ++ l.drop (Tree.eo l.length (dpA l) i), 0) := by
  have h24 := (treeOk_iff.1 ht).1
  have el := Tree.eo_le (D := dpA l) hi
  intro d
  induction d with
  | zero =>
    intro j h hj
    refine ev_succ ?_
    simp only [impl_ApplyOp.l0]
    have ew : wrap64 ((i : Int) + 1) = ((i + 1 : Nat) : Int) := by rw [w64 (by omega) (by omega)]; omega
    have hml := midN_length (-1) (i + 1) l j (by omega) (by omega)
    refine ev_bind (endOf_ev l i hi (by omega)) (ev_neg (by omega) ?_)
    rw [ew]
    refine ev_bindc (delete_eq _ i (i + 1) (by omega) (by omega)) (ev_some ?_)
    have e : j = Tree.eo l.length (dpA l) i := by omega
    rw [midN_drop _ _ _ _ (by omega), ← e]
    have e2 : (midN (-1) (i + 1) l j).take i = l.take i := by
      have := congrArg (List.take i) (midN_take (-1) (i + 1) l j (by omega))
      rw [List.take_take, List.take_take, Nat.min_eq_left (by omega)] at this
      exact this
    rw [e2, List.append_assoc]
  | succ d ih =>
    intro j h hj
    refine ev_succ ?_
    simp only [impl_ApplyOp.l0]
    have dj := dp_range ht (j := j) (by omega)
    have hml := midN_length (-1) (i + 1) l j (by omega) (by omega)
    refine ev_bind (endOf_ev l i hi (by omega)) (ev_pos (by omega) (ev_pos (by omega) (ev_pos (by omega) ?_)))
    rw [midN_rd _ _ _ _ (by omega) (by omega), Int.sub_eq_add_neg, upN_eq (t := l) (i := j) (b := -1) (by omega) (by omega), Int.toNat_natCast, midN_set _ _ _ _ (by omega) (by omega), w64 (x := (j : Int) + 1) (by omega) (by omega)]
    exact ih (j + 1) (by omega) (by omega)
theorem impl_ApplyOp_l1 (l : List S80) (i f t : Nat) (kind : Int) (p : List Int) (lab fr ct : Int) (ht : treeOk l = true) (hi : i < l.length) (hft : f ≤ t) (htl : t ≤ l.length) : ∀ (d j : Nat), j + d = t → f ≤ j → Ev (fun k => impl_ApplyOp.l1 k l (midN 1 f l j) (i : Int) (f : Int) (t : Int) (j : Int) kind p lab fr ct) (l.take f ++ [(⟨lab, dpA l i + 1⟩ : S80)] ++ ((l.take t).drop f).map (upN 1) ++ l.drop t, 0) := by
  have h24 := (treeOk_iff.1 ht).1
  have di := dp_range ht hi
  intro d
  induction d with
  | zero =>
    intro j h hj
    refine ev_succ ?_
    simp only [impl_ApplyOp.l1]
    have hml := midN_length 1 f l j (by omega) (by omega)
    have e : j = t := by omega
    subst e
    refine ev_neg (by omega) (ev_pos (by omega) (ev_pos (by omega) ?_))
    refine ev_bindc (insert_eq _ f _ (by omega) (by simp) (by simp only [List.length_singleton]; omega)) (ev_some ?_)
    rw [midN_take _ _ _ _ (by omega), midN_drop _ _ _ _ (by omega), rd_f1, w64 (x := dpA l i + 1) (by omega) (by omega)]
    simp only [List.append_assoc]
  | succ d ih =>
    intro j h hj
    refine ev_succ ?_
    simp only [impl_ApplyOp.l1]
    have dj := dp_range ht (j := j) (by omega)
    have hml := midN_length 1 f l j (by omega) (by omega)
    refine ev_pos (by omega) (ev_pos (by omega) (ev_pos (by omega) ?_))
    rw [midN_rd _ _ _ _ (by omega) (by omega), upN_eq (t := l) (i := j) (b := 1) (by omega) (by omega), Int.toNat_natCast, midN_set _ _ _ _ (by omega) (by omega), w64 (x := (j : Int) + 1) (by omega) (by omega)]
    exact ih (j + 1) (by omega) (by omega)
theorem impl_ApplyOp_ev (l : List S80) (kind : Int) (p : List Int) (lab fr ct : Int) (hp : (p.length : Int) ≤ 9223372036854775806) : Ev (fun k => impl_ApplyOp.f k l kind p lab fr ct) (applyT l kind p lab fr ct) := by
  simp only [impl_ApplyOp.f]
  refine ev_bind (impl_TreeOk_ev l) ?_
  unfold applyT
  by_cases ht : treeOk l = true
  · rw [if_pos ht]
    have h24 := (treeOk_iff.1 ht).1
    refine ev_pos ht (ev_bindc (clone_eq l (by omega)) (ev_bind (impl_NodeAt_ev l p hp) (ev_bind (opCode_ev l kind lab fr ct _ p (nodeI_cases l p)) ?_)))
    by_cases hc : (codeT l kind lab fr ct (nodeI l p)).1 = 0
    · rw [if_pos hc]
      refine ev_pos hc ?_
      obtain ⟨hk, hi0, hl, hr, h3', h3⟩ := codeT_ok hc
      obtain ⟨i, hi, hin, _, _⟩ := nodeI_nat hi0
      rw [hi] at hc hr h3' h3 ⊢
      have di := dp_range ht hin
      have el := Tree.eo_le (D := dpA l) hin
      have eg := @Tree.eo_gt l.length (dpA l) i
      by_cases k1 : kind = 1
      · refine ev_pos k1 (ev_pos (by omega) (ev_pos (by omega) (ev_some ?_)))
        unfold doneT
        rw [if_pos k1]
        rfl
      · refine ev_neg k1 ?_
        by_cases k2 : kind = 2
        · have ew : wrap64 ((i : Int) + 1) = ((i + 1 : Nat) : Int) := by rw [w64 (by omega) (by omega)]; omega
          refine ev_pos k2 ?_
          unfold doneT
          rw [if_neg k1, if_pos k2, ew, Int.toNat_natCast]
          have := impl_ApplyOp_l0 l i ht hin (Tree.eo l.length (dpA l) i - (i + 1)) (i + 1) (by omega) (by omega)
          rw [midN_self] at this
          exact this
        · refine ev_neg k2 ?_
          obtain ⟨hb, hcode, h24', _⟩ := h3 (by omega)
          rw [hcode]
          rw [Int.toNat_natCast] at hb ⊢
          obtain ⟨f1, f2, f3, f4⟩ := bounds_facts hin hb
          generalize (Tree.bounds l.length (dpA l) i).getD fr.toNat 0 = f at *
          generalize (Tree.bounds l.length (dpA l) i).getD (fr + ct).toNat 0 = t at *
          unfold doneT
          rw [if_neg k1, if_neg k2]
          simp only [Int.toNat_natCast]
          have := impl_ApplyOp_l1 l i f t kind p lab fr ct ht hin f2 (by omega) (t - f) f (by omega) (Nat.le_refl _)
          rw [midN_self] at this
          exact this
    · rw [if_neg hc]
      exact ev_neg hc (Ev.now _)
  · rw [if_neg ht]
    exact ev_neg ht (Ev.now _)

/-! #### impl_ApplyAll -/
theorem impl_ApplyAll_l0 (ops : List S78) (hb : OpsB ops) : ∀ (d j : Nat) (l : List S80), j + d = ops.length → Ev (fun k => impl_ApplyAll.l0 k ops l ops (ops.length : Int) (j : Int)) (allF l (j : Int) (ops.drop j)) := by
  have hl := hb.1
  intro d
  induction d with
  | zero =>
    intro j l h
    refine ev_succ ?_
    simp only [impl_ApplyAll.l0]
    rw [List.drop_eq_nil_of_le (by omega)]
    refine ev_neg (by omega) (ev_some ?_)
    have e : j = ops.length := by omega
    rw [allF, e]
  | succ d ih =>
    intro j l h
    refine ev_succ ?_
    simp only [impl_ApplyAll.l0]
    have hp := hb.at (j := j) (by omega)
    refine ev_pos (by omega) (ev_pos (by omega) (ev_pos (by omega) (ev_bind (impl_ApplyOp_ev l _ _ _ _ _ (by omega)) ?_)))
    rw [drop_op ops j (by omega), allF]
    by_cases hc : (appO l (rd_T78 ops (j : Int))).2 = 0
    · rw [if_pos hc]
      refine ev_pos hc ?_
      rw [w64 (x := (j : Int) + 1) (by omega) (by omega)]
      exact ih (j + 1) _ (by omega)
    · rw [if_neg hc]
      exact ev_neg hc (Ev.now _)
theorem impl_ApplyAll_ev (l : List S80) (ops : List S78) (hb : OpsB ops) (hm : l.length ≤ 1099511627776) : Ev (fun k => impl_ApplyAll.f k l ops) (allT l ops) := by
  simp only [impl_ApplyAll.f]
  refine ev_bind (impl_TreeOk_ev l) ?_
  unfold allT
  by_cases ht : treeOk l = true
  · rw [if_pos ht]
    exact ev_pos ht (ev_bindc (clone_eq l (by omega)) (impl_ApplyAll_l0 ops hb ops.length 0 l (by omega)))
  · rw [if_neg ht]
    exact ev_neg ht (Ev.now _)

/-! #### spec_ApplyAll -/
theorem spec_ApplyAll_l0 (ops : List S78) (hb : OpsB ops) : ∀ (d j : Nat) (l : List S80), j + d = ops.length → l.length ≤ 1099511627776 → Ev (fun k => spec_ApplyAll.l0 k ops l (j : Int)) (allF l (j : Int) (ops.drop j)) := by
  have hl := hb.1
  intro d
  induction d with
  | zero =>
    intro j l h hm
    refine ev_succ ?_
    simp only [spec_ApplyAll.l0]
    rw [List.drop_eq_nil_of_le (by omega)]
    refine ev_neg (by omega) (ev_some ?_)
    have e : j = ops.length := by omega
    rw [allF, e]
  | succ d ih =>
    intro j l h hm
    refine ev_succ ?_
    simp only [spec_ApplyAll.l0]
    have hp := hb.at (j := j) (by omega)
    refine ev_pos (by omega) (ev_pos (by omega) (ev_bind (spec_ApplyOp_ev l _ _ _ _ _ (by omega) (by omega)) ?_))
    rw [drop_op ops j (by omega), allF]
    by_cases hc : (appO l (rd_T78 ops (j : Int))).2 = 0
    · rw [if_pos hc]
      refine ev_pos hc ?_
      rw [w64 (x := (j : Int) + 1) (by omega) (by omega)]
      exact ih (j + 1) _ (by omega) (appO_length l _ _ (by omega) hm)
    · rw [if_neg hc]
      exact ev_neg hc (Ev.now _)
theorem spec_ApplyAll_ev (l : List S80) (ops : List S78) (hb : OpsB ops) (hm : l.length ≤ 1099511627776) : Ev (fun k => spec_ApplyAll.f k l ops) (allT l ops) := by
  simp only [spec_ApplyAll.f]
  refine ev_bind (spec_TreeOk_ev l (by omega)) ?_
  unfold allT
  by_cases ht : treeOk l = true
  · rw [if_pos ht]
    exact ev_pos ht (ev_bindc (l3Copy_eq l (by omega)) (spec_ApplyAll_l0 ops hb ops.length 0 l (by omega) hm))
  · rw [if_neg ht]
    exact ev_neg ht (Ev.now _)

end Go.Proofs.Ytdapeboajjidmaa.QFnJoined
