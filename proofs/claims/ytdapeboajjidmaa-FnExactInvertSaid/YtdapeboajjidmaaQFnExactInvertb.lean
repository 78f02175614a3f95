/- What the printed functions of the law FnExactInvert come to, function by function, from some number of rounds on; each under the bounds that it names. -/
import Derived.Test.YtdapeboajjidmaaQFnExactInverta
namespace Go.Proofs.Ytdapeboajjidmaa.QFnExactInvert
open Go.RowKit Go.Proofs.Ytdapeboajjidmaa.PFnExactInvert Go.Proofs.YtdapeboajjidmaaW.PrintWords Go.Proofs.YtdapeboajjidmaaW.PrintLast Go.Proofs.YtdapeboajjidmaaW.PrintMore Go.Proofs.Ytdapeboajjidmaa.EvAid Go.Proofs.Ytdapeboajjidmaa
set_option linter.unusedVariables false
set_option linter.unusedSimpArgs false

/-! #### _apply -/
theorem upN_zero (x : S80) : upN 0 x = x := node_ext rfl (Int.add_zero _)
theorem map_up0 (l : List S80) : l.map (upN 0) = l := by
  have e : (upN 0 : S80 → S80) = id := funext upN_zero
  rw [e, List.map_id]
/-- the tree behind an operation that can be done at node i, where what it adopts lies from f up to t -/
def doneT (l : List S80) (kind lab : Int) (i f t : Nat) : List S80 :=
  if kind = 1 then l.set i ⟨lab, dpA l i⟩
  else if kind = 2 then l.take i ++ ((l.take (Tree.eo l.length (dpA l) i)).drop (i + 1)).map (upN (-1)) ++ l.drop (Tree.eo l.length (dpA l) i)
  else l.take f ++ [(⟨lab, dpA l i + 1⟩ : S80)] ++ ((l.take t).drop f).map (upN 1) ++ l.drop t
/-- the tree behind an operation, and what is wrong with it -/
def applyT (l : List S80) (kind : Int) (p : List Int) (lab fr ct : Int) : List S80 × Int :=
  if treeOk l = true then
    if (codeT l kind lab fr ct (nodeI l p)).1 = 0 then (doneT l kind lab (nodeI l p).toNat (codeT l kind lab fr ct (nodeI l p)).2.1.toNat (codeT l kind lab fr ct (nodeI l p)).2.2.toNat, 0)
    else (l, (codeT l kind lab fr ct (nodeI l p)).1)
  else ([], 2)
/-- an operation that can be done: what follows of its parts -/
theorem codeT_ok {l : List S80} {kind lab fr ct i : Int} (h : (codeT l kind lab fr ct i).1 = 0) :
    (1 ≤ kind ∧ kind ≤ 3) ∧ 0 ≤ i ∧ ¬ (kind ≠ 2 ∧ ¬ (0 ≤ lab ∧ lab ≤ 5)) ∧ ¬ (kind = 2 ∧ i = 0) ∧ (kind ≠ 3 → codeT l kind lab fr ct i = (0, 0, 0)) ∧
    (kind = 3 → (0 ≤ fr ∧ fr ≤ ((Tree.kids l.length (dpA l) i.toNat).length : Int) ∧ 0 ≤ ct ∧ ct ≤ ((Tree.kids l.length (dpA l) i.toNat).length : Int) - fr) ∧
      codeT l kind lab fr ct i = (0, (((Tree.bounds l.length (dpA l) i.toNat).getD fr.toNat 0 : Nat) : Int), (((Tree.bounds l.length (dpA l) i.toNat).getD (fr + ct).toNat 0 : Nat) : Int)) ∧ (l.length : Int) ≠ 24 ∧
      ¬ deepF l ((Tree.bounds l.length (dpA l) i.toNat).getD (fr + ct).toNat 0 - (Tree.bounds l.length (dpA l) i.toNat).getD fr.toNat 0) ((Tree.bounds l.length (dpA l) i.toNat).getD fr.toNat 0) (dpA l i.toNat + 1) > 12) := by
  unfold codeT at h ⊢
  by_cases h1 : 1 ≤ kind ∧ kind ≤ 3
  · rw [if_pos h1] at h ⊢
    by_cases h2 : i < 0
    · rw [if_pos h2] at h; simp at h
    · rw [if_neg h2] at h ⊢
      by_cases h3 : kind ≠ 2 ∧ ¬ (0 ≤ lab ∧ lab ≤ 5)
      · rw [if_pos h3] at h; simp at h
      · rw [if_neg h3] at h ⊢
        by_cases h4 : kind = 2 ∧ i = 0
        · rw [if_pos h4] at h; simp at h
        · rw [if_neg h4] at h ⊢
          by_cases h5 : kind = 3
          · rw [if_pos h5] at h ⊢
            by_cases h6 : 0 ≤ fr ∧ fr ≤ ((Tree.kids l.length (dpA l) i.toNat).length : Int) ∧ 0 ≤ ct ∧ ct ≤ ((Tree.kids l.length (dpA l) i.toNat).length : Int) - fr
            · rw [if_pos h6] at h ⊢
              unfold tailT at h ⊢
              by_cases h7 : (l.length : Int) = 24
              · rw [if_pos h7] at h; simp at h
              · rw [if_neg h7] at h ⊢
                by_cases h8 : deepF l ((Tree.bounds l.length (dpA l) i.toNat).getD (fr + ct).toNat 0 - (Tree.bounds l.length (dpA l) i.toNat).getD fr.toNat 0) ((Tree.bounds l.length (dpA l) i.toNat).getD fr.toNat 0) (dpA l i.toNat + 1) > 12
                · rw [if_pos h8] at h; simp at h
                · rw [if_neg h8]
                  exact ⟨h1, by omega, h3, h4, fun h => absurd h5 h, fun _ => ⟨h6, rfl, h7, h8⟩⟩
            · rw [if_neg h6] at h; simp at h
          · rw [if_neg h5]
            exact ⟨h1, by omega, h3, h4, fun _ => rfl, fun h => absurd h h5⟩
  · rw [if_neg h1] at h; simp at h
theorem nodeI_cases (l : List S80) (p : List Int) : nodeI l p < 0 ∨ ∃ n : Nat, nodeI l p = (n : Int) ∧ n < l.length ∧ treeOk l = true := by
  rcases Int.lt_or_le (nodeI l p) 0 with h | h
  · exact .inl h
  · obtain ⟨k, a, b, c, _⟩ := nodeI_nat h
    exact .inr ⟨k, a, b, c⟩
theorem endI_nat {l : List S80} {i : Nat} (ht : treeOk l = true) (hi : i < l.length) : endI l (i : Int) = ((Tree.eo l.length (dpA l) i : Nat) : Int) := by
  unfold endI
  rw [if_pos (hasB_iff.2 ⟨ht, by omega, by omega⟩)]
  rfl
theorem bounds_facts {l : List S80} {i : Nat} {fr ct : Int} (hi : i < l.length) (h : 0 ≤ fr ∧ fr ≤ ((Tree.kids l.length (dpA l) i).length : Int) ∧ 0 ≤ ct ∧ ct ≤ ((Tree.kids l.length (dpA l) i).length : Int) - fr) :
    i < (Tree.bounds l.length (dpA l) i).getD fr.toNat 0 ∧ (Tree.bounds l.length (dpA l) i).getD fr.toNat 0 ≤ (Tree.bounds l.length (dpA l) i).getD (fr + ct).toNat 0 ∧ (Tree.bounds l.length (dpA l) i).getD (fr + ct).toNat 0 ≤ Tree.eo l.length (dpA l) i ∧ Tree.eo l.length (dpA l) i ≤ l.length := by
  have m1 := Tree.bounds_mono (n := l.length) (D := dpA l) (i := i) (r := fr.toNat) (s := (fr + ct).toNat) (by omega) (by omega)
  have m2 := bound_le (n := l.length) (D := dpA l) (i := i) (r := (fr + ct).toNat) hi (by omega)
  have m3 := bound_le (n := l.length) (D := dpA l) (i := i) (r := fr.toNat) hi (by omega)
  exact ⟨m3.1, m1, m2.2, Tree.eo_le hi⟩
theorem midN_take (b : Int) (a : Nat) (t : List S80) (i : Nat) (h : a ≤ t.length) : (midN b a t i).take a = t.take a := by
  unfold midN
  rw [List.append_assoc, List.take_append_of_le_length (by rw [List.length_take]; omega), List.take_take, Nat.min_self]
theorem midN_drop (b : Int) (a : Nat) (t : List S80) (i : Nat) (h : a ≤ t.length) : (midN b a t i).drop a = ((t.take i).drop a).map (upN b) ++ t.drop i := by
  unfold midN
  have hl : (t.take a).length = a := by rw [List.length_take]; omega
  rw [List.append_assoc, List.drop_append, hl, Nat.sub_self, List.drop_zero, List.drop_eq_nil_of_le (by omega), List.nil_append]
theorem applyT_length (l : List S80) (kind : Int) (p : List Int) (lab fr ct : Int) (n : Nat) (hn : 25 ≤ n) (h : l.length ≤ n) : (applyT l kind p lab fr ct).1.length ≤ n := by
  unfold applyT
  by_cases ht : treeOk l = true
  · rw [if_pos ht]
    have h24 := (treeOk_iff.1 ht).1
    by_cases hc : (codeT l kind lab fr ct (nodeI l p)).1 = 0
    · rw [if_pos hc]
      obtain ⟨hk, hi0, hl, hr, h3', h3⟩ := codeT_ok hc
      obtain ⟨i, hi, hin, _, _⟩ := nodeI_nat hi0
      show (doneT l kind lab _ _ _).length ≤ n
      unfold doneT
      by_cases k1 : kind = 1
      · rw [if_pos k1, List.length_set]; exact h
      · rw [if_neg k1]
        by_cases k2 : kind = 2
        · rw [if_pos k2]
          simp only [List.length_append, List.length_map, List.length_drop, List.length_take]
          rw [hi, Int.toNat_natCast]
          have a := Tree.eo_le (D := dpA l) hin
          have b := @Tree.eo_gt l.length (dpA l) i
          omega
        · rw [if_neg k2]
          obtain ⟨hb, hcode, _⟩ := h3 (by omega)
          rw [hcode]
          rw [hi, Int.toNat_natCast] at hb ⊢
          have f := bounds_facts hin hb
          simp only [List.length_append, List.length_map, List.length_drop, List.length_take, List.length_singleton, Int.toNat_natCast]
          omega
    · rw [if_neg hc]; exact h
  · rw [if_neg ht]; simp

/-! #### spec_ApplyOp -/
theorem spec_ApplyOp_ev (l : List S80) (kind : Int) (p : List Int) (lab fr ct : Int) (hm : (l.length : Int) ≤ 9223372036854775806) (hp : (p.length : Int) ≤ 9223372036854775806) : Ev (fun k => spec_ApplyOp.f k l kind p lab fr ct) (applyT l kind p lab fr ct) := by
  simp only [spec_ApplyOp.f]
  refine ev_bind (spec_TreeOk_ev l hm) ?_
  unfold applyT
  by_cases ht : treeOk l = true
  · rw [if_pos ht]
    have h24 := (treeOk_iff.1 ht).1
    have hdp := fun (b : Int) (hb : -1 ≤ b ∧ b ≤ 1) (j : Nat) (hj : j < l.length) => (show -4611686018427387904 ≤ dpA l j + b ∧ dpA l j + b ≤ 4611686018427387904 by have := dp_range ht hj; omega)
    refine ev_pos ht (ev_bind (spec_NodeAt_ev l p hm hp) (ev_bindc (l3Copy_eq l (by omega)) (ev_bind (l13Code_ev l kind lab fr ct _ p (nodeI_cases l p)) ?_)))
    by_cases hc : (codeT l kind lab fr ct (nodeI l p)).1 = 0
    · rw [if_pos hc]
      refine ev_pos hc ?_
      obtain ⟨hk, hi0, hl, hr, h3', h3⟩ := codeT_ok hc
      obtain ⟨i, hi, hin, _, _⟩ := nodeI_nat hi0
      rw [hi] at hc hr h3' h3 ⊢
      have di := dp_range ht hin
      have el := Tree.eo_le (D := dpA l) hin
      have eg := @Tree.eo_gt l.length (dpA l) i
      by_cases k1 : kind = 1
      · refine ev_pos k1 (ev_pos (by omega) (ev_pos (by omega) (ev_some ?_)))
        rw [hc]
        unfold doneT
        rw [if_pos k1]
        rfl
      · refine ev_neg k1 ?_
        by_cases k2 : kind = 2
        · have s1 := l13Shift_ev l 0 i 0 (by omega) (by omega) (by omega) (hdp 0 (by omega))
          have s2 := l13Shift_ev l (i + 1) (Tree.eo l.length (dpA l) i) (-1) (by omega) el (by omega) (hdp (-1) (by omega))
          have s3 := l13Shift_ev l (Tree.eo l.length (dpA l) i) l.length 0 el (by omega) (by omega) (hdp 0 (by omega))
          have ew : wrap64 ((i : Int) + 1) = ((i + 1 : Nat) : Int) := by rw [w64 (by omega) (by omega)]; omega
          refine ev_pos k2 (ev_bind (spec_EndOf_ev l _ hm) (ev_bind s1 ?_))
          rw [endI_nat ht hin, ew]
          refine ev_bind s2 (ev_pos (by simp only [List.length_map, List.length_drop, List.length_take]; omega) (ev_bindc rfl (ev_bind s3 (ev_pos (by simp only [List.length_append, List.length_map, List.length_drop, List.length_take]; omega) (ev_some ?_)))))
          rw [hc]
          unfold doneT
          rw [if_neg k1, if_pos k2, map_up0, map_up0, List.drop_zero, List.take_length, Int.toNat_natCast]
        · refine ev_neg k2 ?_
          obtain ⟨hb, hcode, h24', _⟩ := h3 (by omega)
          rw [hcode]
          rw [Int.toNat_natCast] at hb ⊢
          obtain ⟨f1, f2, f3, f4⟩ := bounds_facts hin hb
          generalize (Tree.bounds l.length (dpA l) i).getD fr.toNat 0 = f at *
          generalize (Tree.bounds l.length (dpA l) i).getD (fr + ct).toNat 0 = t at *
          have s1 := l13Shift_ev l 0 f 0 (by omega) (by omega) (by omega) (hdp 0 (by omega))
          have s2 := l13Shift_ev l f t 1 (by omega) (by omega) (by omega) (hdp 1 (by omega))
          have s3 := l13Shift_ev l t l.length 0 (by omega) (by omega) (by omega) (hdp 0 (by omega))
          refine ev_bind s1 (ev_pos (by omega) (ev_pos (by omega) (ev_bindc rfl (ev_pos (by simp only [List.length_map, List.length_drop, List.length_take, List.length_singleton]; omega) (ev_bindc rfl (ev_bind s2 (ev_pos (by simp only [List.length_append, List.length_map, List.length_drop, List.length_take, List.length_singleton]; omega) (ev_bindc rfl (ev_bind s3 (ev_pos (by simp only [List.length_append, List.length_map, List.length_drop, List.length_take, List.length_singleton]; omega) (ev_some ?_)))))))))))
          unfold doneT
          rw [if_neg k1, if_neg k2, map_up0, map_up0, List.drop_zero, List.take_length, rd_f1, w64 (x := dpA l i + 1) (by omega) (by omega)]
          simp only [Int.toNat_natCast]
    · rw [if_neg hc]
      exact ev_neg hc (Ev.now _)
  · rw [if_neg ht]
    exact ev_neg ht (Ev.now _)

/-! #### _all -/
/-- one operation, told as a structure -/
def appO (l : List S80) (o : S78) : List S80 × Int := applyT l o.f0 o.f1 o.f2 o.f3 o.f4
/-- one behind the other, up to the first that cannot be done; how many were, and why -/
def allF : List S80 → Int → List S78 → List S80 × Int × Int
  | l, n, [] => (l, n, 0)
  | l, n, o :: r => if (appO l o).2 = 0 then allF (appO l o).1 (n + 1) r else (l, n, (appO l o).2)
def allT (l : List S80) (ops : List S78) : List S80 × Int × Int := if treeOk l = true then allF l 0 ops else ([], 0, 2)
theorem appO_length (l : List S80) (o : S78) (n : Nat) (hn : 25 ≤ n) (h : l.length ≤ n) : (appO l o).1.length ≤ n := applyT_length l _ _ _ _ _ n hn h
theorem allF_length (n : Nat) (hn : 25 ≤ n) : ∀ (ops : List S78) (l : List S80) (c : Int), l.length ≤ n → (allF l c ops).1.length ≤ n := by
  intro ops
  induction ops with
  | nil => intro l c h; exact h
  | cons o r ih =>
    intro l c h
    rw [allF]
    split
    · exact ih _ _ (appO_length l o n hn h)
    · exact h
theorem allT_length (l : List S80) (ops : List S78) (n : Nat) (hn : 25 ≤ n) (h : l.length ≤ n) : (allT l ops).1.length ≤ n := by
  unfold allT
  split
  · exact allF_length n hn ops l 0 h
  · simp
theorem allF_from (ops : List S78) : ∀ (l : List S80) (c : Int), allF l c ops = ((allF l 0 ops).1, c + (allF l 0 ops).2.1, (allF l 0 ops).2.2) := by
  induction ops with
  | nil => intro l c; simp [allF]
  | cons o r ih =>
    intro l c
    rw [allF, allF]
    split
    · rw [ih _ (c + 1), ih _ (0 + 1)]
      simp only [Prod.mk.injEq, true_and, and_true]
      omega
    · simp

/-! #### _applyOk -/
/-- what stands where behind a deletion -/
theorem del_getD (l : List S80) (i e j : Nat) (hi : i < e) (he : e ≤ l.length) : (l.take i ++ ((l.take e).drop (i + 1)).map (upN (-1)) ++ l.drop e).getD j z80 = if j < i then l.getD j z80 else if j + 1 < e then upN (-1) (l.getD (j + 1) z80) else l.getD (j + 1) z80 := by
  have h1 : (l.take i).length = i := by rw [List.length_take]; omega
  have h2 : (((l.take e).drop (i + 1)).map (upN (-1))).length = e - (i + 1) := by rw [List.length_map, List.length_drop, List.length_take]; omega
  rw [List.append_assoc, at_append, h1]
  by_cases a : j < i
  · rw [if_pos a, if_pos a, at_take _ _ _ a]
  · rw [if_neg a, if_neg a, at_append, h2]
    by_cases b : j + 1 < e
    · rw [if_pos (by omega), if_pos b, at_up _ _ _ (by rw [List.length_drop, List.length_take]; omega), at_drop, at_take _ _ _ (by omega), show i + 1 + (j - i) = j + 1 by omega]
    · rw [if_neg (by omega), if_neg b, at_drop, show e + (j - i - (e - (i + 1))) = j + 1 by omega]
/-- what stands where behind an insertion -/
theorem ins_getD (l : List S80) (x : S80) (f t j : Nat) (hft : f ≤ t) (ht : t ≤ l.length) : (l.take f ++ [x] ++ ((l.take t).drop f).map (upN 1) ++ l.drop t).getD j z80 = if j < f then l.getD j z80 else if j = f then x else if j - 1 < t then upN 1 (l.getD (j - 1) z80) else l.getD (j - 1) z80 := by
  have h1 : (l.take f).length = f := by rw [List.length_take]; omega
  have h2 : (((l.take t).drop f).map (upN 1)).length = t - f := by rw [List.length_map, List.length_drop, List.length_take]; omega
  rw [List.append_assoc, List.append_assoc, at_append, h1]
  by_cases a : j < f
  · rw [if_pos a, if_pos a, at_take _ _ _ a]
  · rw [if_neg a, if_neg a]
    by_cases b : j = f
    · rw [if_pos b, b, Nat.sub_self]; rfl
    · rw [if_neg b, show j - f = (j - 1 - f) + 1 by omega]
      show (((l.take t).drop f).map (upN 1) ++ l.drop t).getD (j - 1 - f) z80 = _
      rw [at_append, h2]
      by_cases c : j - 1 < t
      · rw [if_pos (by omega), if_pos c, at_up _ _ _ (by rw [List.length_drop, List.length_take]; omega), at_drop, at_take _ _ _ (by omega), show f + (j - 1 - f) = j - 1 by omega]
      · rw [if_neg (by omega), if_neg c, at_drop, show t + (j - 1 - f - (t - f)) = j - 1 by omega]
theorem deepF_ge (l : List S80) : ∀ (k f : Nat) (d : Int), d ≤ deepF l k f d ∧ ∀ j, f ≤ j → j < f + k → dpA l j + 1 ≤ deepF l k f d := by
  intro k
  induction k with
  | zero => intro f d; exact ⟨Int.le_refl _, fun j h1 h2 => by omega⟩
  | succ k ih =>
    intro f d
    obtain ⟨a, b⟩ := ih (f + 1) (mx d (dpA l f + 1))
    rw [deepF]
    have m1 : d ≤ mx d (dpA l f + 1) ∧ dpA l f + 1 ≤ mx d (dpA l f + 1) := by unfold mx; omega
    refine ⟨by omega, fun j h1 h2 => ?_⟩
    rcases Nat.eq_or_lt_of_le h1 with h | h
    · subst h; omega
    · exact b j h (by omega)
theorem Vd_congr {n : Nat} {D D' : Nat → Int} (h : ∀ j, j < n → D j = D' j) (hv : Tree.Vd n D) : Tree.Vd n D' := by
  obtain ⟨a, b, c⟩ := hv
  refine ⟨a, by rw [← h 0 (by omega)]; exact b, fun j h1 h2 => ?_⟩
  rw [← h j h2, ← h (j - 1) (by omega)]
  exact c j h1 h2
theorem treeOk_of {l : List S80} (h1 : 1 ≤ l.length ∧ l.length ≤ 24) (hl : ∀ j, j < l.length → 0 ≤ lbA l j ∧ lbA l j ≤ 5) (hd : ∀ j, j < l.length → dpA l j ≤ 12) (hv : Tree.Vd l.length (dpA l)) : treeOk l = true := by
  refine treeOk_iff.2 ⟨h1, fun j hj => ⟨hl j hj, ⟨?_, hd j hj⟩, ?_⟩⟩
  · by_cases h0 : j = 0
    · subst h0; rw [hv.2.1]; omega
    · have := (hv.2.2 j (by omega) hj).1; omega
  · by_cases h0 : j = 0
    · subst h0; rw [if_pos rfl]; exact hv.2.1
    · rw [if_neg h0]; exact hv.2.2 j (by omega) hj
/-- a deletion, told by labels and depths -/
theorem del_facts {l : List S80} {i : Nat} (ht : treeOk l = true) (h0 : 0 < i) (hi : i < l.length) {X : List S80} (hX : X = l.take i ++ ((l.take (Tree.eo l.length (dpA l) i)).drop (i + 1)).map (upN (-1)) ++ l.drop (Tree.eo l.length (dpA l) i)) :
    X.length = l.length - 1 ∧ (∀ j, lbA X j = if j < i then lbA l j else lbA l (j + 1)) ∧ (∀ j, dpA X j = Tree.delD (dpA l) i (Tree.eo l.length (dpA l) i) j) ∧ treeOk X = true := by
  have g := @Tree.eo_gt l.length (dpA l) i
  have le := Tree.eo_le (D := dpA l) hi
  have hlen : X.length = l.length - 1 := by
    rw [hX]
    simp only [List.length_append, List.length_map, List.length_drop, List.length_take]
    omega
  have hat := del_getD l i (Tree.eo l.length (dpA l) i) (he := le) (hi := g)
  have hlb : ∀ j, lbA X j = if j < i then lbA l j else lbA l (j + 1) := by
    intro j
    unfold lbA
    rw [hX, hat j]
    split
    · rfl
    · split <;> rfl
  have hdp : ∀ j, dpA X j = Tree.delD (dpA l) i (Tree.eo l.length (dpA l) i) j := by
    intro j
    show (X.getD j z80).f1 = _
    rw [hX, hat j]
    unfold Tree.delD
    by_cases a : j < i
    · rw [if_pos a, if_pos a]; rfl
    · rw [if_neg a, if_neg a]
      by_cases b : j + 1 < Tree.eo l.length (dpA l) i
      · rw [if_pos b, if_pos b]
        show (l.getD (j + 1) z80).f1 + -1 = (l.getD (j + 1) z80).f1 - 1
        omega
      · rw [if_neg b, if_neg b]; rfl
  obtain ⟨h1, h2⟩ := treeOk_iff.1 ht
  refine ⟨hlen, hlb, hdp, treeOk_of ⟨by omega, by omega⟩ (fun j hj => ?_) (fun j hj => ?_) ?_⟩
  · rw [hlb j]
    split
    · exact (h2 j (by omega)).1
    · exact (h2 (j + 1) (by omega)).1
  · rw [hdp j]
    unfold Tree.delD
    split
    · exact (h2 j (by omega)).2.1.2
    · have := (h2 (j + 1) (by omega)).2.1.2
      split <;> omega
  · rw [hlen]
    exact Vd_congr (fun j hj => (hdp j).symm) (Tree.del_valid (treeOk_vd ht) h0 hi)
/-- an insertion, told by labels and depths -/
theorem ins_facts {l : List S80} {i f t : Nat} {lab : Int} (ht : treeOk l = true) (hi : i < l.length) (hf : Tree.IsB l.length (dpA l) i f) (hb : Tree.IsB l.length (dpA l) i t) (hft : f ≤ t) (hlab : 0 ≤ lab ∧ lab ≤ 5) (h24 : (l.length : Int) ≠ 24) (hdeep : ¬ deepF l (t - f) f (dpA l i + 1) > 12)
    {X : List S80} (hX : X = l.take f ++ [(⟨lab, dpA l i + 1⟩ : S80)] ++ ((l.take t).drop f).map (upN 1) ++ l.drop t) :
    X.length = l.length + 1 ∧ (∀ j, lbA X j = if j < f then lbA l j else if j = f then lab else lbA l (j - 1)) ∧ (∀ j, dpA X j = Tree.insD (dpA l) i f t j) ∧ treeOk X = true := by
  have le := Tree.eo_le (D := dpA l) hi
  have lf := Tree.IsB_le hf
  have lt := Tree.IsB_le hb
  have hlen : X.length = l.length + 1 := by
    rw [hX]
    simp only [List.length_append, List.length_map, List.length_drop, List.length_take, List.length_singleton]
    omega
  have hat := ins_getD l (⟨lab, dpA l i + 1⟩ : S80) f t (hft := hft) (ht := by omega)
  have hlb : ∀ j, lbA X j = if j < f then lbA l j else if j = f then lab else lbA l (j - 1) := by
    intro j
    unfold lbA
    rw [hX, hat j]
    split
    · rfl
    · split
      · rfl
      · split <;> rfl
  have hdp : ∀ j, dpA X j = Tree.insD (dpA l) i f t j := by
    intro j
    unfold Tree.insD
    show (X.getD j _).f1 = _
    rw [hX, hat j]
    split
    · rfl
    · split
      · rfl
      · split <;> rfl
  obtain ⟨h1, h2⟩ := treeOk_iff.1 ht
  have dg := deepF_ge l (t - f) f (dpA l i + 1)
  refine ⟨hlen, hlb, hdp, treeOk_of ⟨by omega, by omega⟩ (fun j hj => ?_) (fun j hj => ?_) ?_⟩
  · rw [hlb j]
    split
    · exact (h2 j (by omega)).1
    · split
      · exact hlab
      · exact (h2 (j - 1) (by omega)).1
  · rw [hdp j]
    unfold Tree.insD
    split
    · exact (h2 j (by omega)).2.1.2
    · split
      · have := dg.1; omega
      · split
        · have := dg.2 (j - 1) (by omega) (by omega); omega
        · exact (h2 (j - 1) (by omega)).2.1.2
  · rw [hlen]
    exact Vd_congr (fun j hj => (hdp j).symm) (Tree.ins_valid (treeOk_vd ht) hi hf hb hft)
/-- a new label, told by labels and depths -/
theorem rel_facts {l : List S80} {i : Nat} {lab : Int} (ht : treeOk l = true) (hi : i < l.length) (hlab : 0 ≤ lab ∧ lab ≤ 5) {X : List S80} (hX : X = l.set i ⟨lab, dpA l i⟩) :
    X.length = l.length ∧ (∀ j, lbA X j = if j = i then lab else lbA l j) ∧ (∀ j, dpA X j = dpA l j) ∧ treeOk X = true := by
  have hlen : X.length = l.length := by rw [hX, List.length_set]
  have hat : ∀ j, X.getD j z80 = if j = i then ⟨lab, dpA l i⟩ else l.getD j z80 := by
    intro j
    rw [hX, List.getD_eq_getElem?_getD, List.getElem?_set]
    by_cases h : i = j
    · subst h
      rw [if_pos rfl, if_pos hi, if_pos rfl]; rfl
    · rw [if_neg h, if_neg (Ne.symm h), List.getD_eq_getElem?_getD]
  have hlb : ∀ j, lbA X j = if j = i then lab else lbA l j := by
    intro j
    unfold lbA
    rw [hat j]
    split <;> rfl
  have hdp : ∀ j, dpA X j = dpA l j := by
    intro j
    show (X.getD j _).f1 = _
    rw [hat j]
    split
    · next h => subst h; rfl
    · rfl
  obtain ⟨h1, h2⟩ := treeOk_iff.1 ht
  refine ⟨hlen, hlb, hdp, treeOk_of ⟨by omega, by omega⟩ (fun j hj => ?_) (fun j hj => ?_) ?_⟩
  · rw [hlb j]
    split
    · exact hlab
    · exact (h2 j (by omega)).1
  · rw [hdp j]; exact (h2 j (by omega)).2.1.2
  · rw [hlen]
    exact Vd_congr (fun j hj => (hdp j).symm) (treeOk_vd ht)
/-- what an operation that can be done rests on, and what it makes: one of three -/
theorem appO_cases {l : List S80} {o : S78} (h : (appO l o).2 = 0) : treeOk l = true ∧ ∃ i : Nat, i < l.length ∧ nodeI l o.f1 = (i : Int) ∧ Tree.goDown l.length (dpA l) 0 o.f1 = some i ∧
    ((o.f0 = 1 ∧ (0 ≤ o.f2 ∧ o.f2 ≤ 5) ∧ (appO l o).1 = l.set i ⟨o.f2, dpA l i⟩) ∨
     (o.f0 = 2 ∧ 0 < i ∧ (appO l o).1 = l.take i ++ ((l.take (Tree.eo l.length (dpA l) i)).drop (i + 1)).map (upN (-1)) ++ l.drop (Tree.eo l.length (dpA l) i)) ∨
     (o.f0 = 3 ∧ (0 ≤ o.f2 ∧ o.f2 ≤ 5) ∧ (0 ≤ o.f3 ∧ o.f3 ≤ ((Tree.kids l.length (dpA l) i).length : Int) ∧ 0 ≤ o.f4 ∧ o.f4 ≤ ((Tree.kids l.length (dpA l) i).length : Int) - o.f3) ∧ ∃ f t : Nat, f = (Tree.bounds l.length (dpA l) i).getD o.f3.toNat 0 ∧ t = (Tree.bounds l.length (dpA l) i).getD (o.f3 + o.f4).toNat 0 ∧
        f ≤ t ∧ (l.length : Int) ≠ 24 ∧ ¬ deepF l (t - f) f (dpA l i + 1) > 12 ∧ (appO l o).1 = l.take f ++ [(⟨o.f2, dpA l i + 1⟩ : S80)] ++ ((l.take t).drop f).map (upN 1) ++ l.drop t)) := by
  unfold appO applyT at h ⊢
  by_cases ht : treeOk l = true
  · rw [if_pos ht] at h ⊢
    by_cases hc : (codeT l o.f0 o.f2 o.f3 o.f4 (nodeI l o.f1)).1 = 0
    · rw [if_pos hc] at h ⊢
      obtain ⟨hk, hi0, hl, hr, h3', h3⟩ := codeT_ok hc
      obtain ⟨i, hi, hin, _, hgo⟩ := nodeI_nat hi0
      refine ⟨ht, i, hin, hi, hgo, ?_⟩
      rw [hi] at hr h3' h3 ⊢
      rw [Int.toNat_natCast] at h3 ⊢
      show _ ∨ _ ∨ _
      unfold doneT
      by_cases k1 : o.f0 = 1
      · rw [if_pos k1]
        exact .inl ⟨k1, by omega, rfl⟩
      · rw [if_neg k1]
        by_cases k2 : o.f0 = 2
        · rw [if_pos k2]
          exact .inr (.inl ⟨k2, by omega, rfl⟩)
        · rw [if_neg k2]
          obtain ⟨hb, hcode, h24, hdeep⟩ := h3 (by omega)
          have f := bounds_facts hin hb
          refine .inr (.inr ⟨by omega, by omega, hb, _, _, rfl, rfl, f.2.1, h24, hdeep, ?_⟩)
          rw [hcode]
          simp only [Int.toNat_natCast]
    · rw [if_neg hc] at h
      exact absurd h hc
  · rw [if_neg ht] at h
    simp at h
theorem appO_ok {l : List S80} {o : S78} (h : (appO l o).2 = 0) : treeOk (appO l o).1 = true := by
  obtain ⟨ht, i, hin, hi, hgo, hc⟩ := appO_cases h
  rcases hc with ⟨k, hl, e⟩ | ⟨k, h0, e⟩ | ⟨k, hl, hb, f, t, hf, htt, hft, h24, hdeep, e⟩
  · exact (rel_facts ht hin hl e).2.2.2
  · exact (del_facts ht h0 hin e).2.2.2
  · have b1 := (Tree.bounds_is (n := l.length) (D := dpA l) (i := i) (r := o.f3.toNat) (by omega)).1
    have b2 := (Tree.bounds_is (n := l.length) (D := dpA l) (i := i) (r := (o.f3 + o.f4).toNat) (by omega)).1
    rw [← hf] at b1
    rw [← htt] at b2
    exact (ins_facts ht hin b1 b2 hft hl h24 hdeep e).2.2.2
theorem allF_ok : ∀ (ops : List S78) (l : List S80) (c : Int), treeOk l = true → treeOk (allF l c ops).1 = true := by
  intro ops
  induction ops with
  | nil => intro l c h; exact h
  | cons o r ih =>
    intro l c h
    rw [allF]
    by_cases hc : (appO l o).2 = 0
    · rw [if_pos hc]; exact ih _ _ (appO_ok hc)
    · rw [if_neg hc]; exact h
/-- one script behind the other -/
theorem allF_append (b : List S78) : ∀ (a : List S78) (l : List S80) (c : Int), allF l c (a ++ b) = if (allF l c a).2.2 = 0 then allF (allF l c a).1 (allF l c a).2.1 b else allF l c a := by
  intro a
  induction a with
  | nil => intro l c; rw [List.nil_append, allF, if_pos rfl]
  | cons o r ih =>
    intro l c
    rw [List.cons_append, allF, allF]
    by_cases hc : (appO l o).2 = 0
    · rw [if_pos hc, if_pos hc]; exact ih _ _
    · rw [if_neg hc, if_neg hc, if_neg hc]
theorem allF_count : ∀ (ops : List S78) (l : List S80) (c : Int), c ≤ (allF l c ops).2.1 ∧ (allF l c ops).2.1 ≤ c + (ops.length : Int) := by
  intro ops
  induction ops with
  | nil => intro l c; simp [allF]
  | cons o r ih =>
    intro l c
    rw [allF, List.length_cons]
    split
    · have := ih (appO l o).1 (c + 1); omega
    · dsimp only; omega

/-! #### _undoO -/
/-- the operation that undoes one that can be done -/
def undoO (l : List S80) (o : S78) : S78 :=
  if o.f0 = 1 then ⟨1, o.f1, lbA l (nodeI l o.f1).toNat, 0, 0⟩
  else if o.f0 = 2 then ⟨3, o.f1.take (o.f1.length - 1), lbA l (nodeI l o.f1).toNat, rd o.f1 ((o.f1.length : Int) - 1), ((Tree.kids l.length (dpA l) (nodeI l o.f1).toNat).length : Int)⟩
  else ⟨2, o.f1 ++ [o.f3], 0, 0, 0⟩
/-- the operations that undo a script, one by one in its own order; none where one cannot be done -/
def invF : List S80 → List S78 → Option (List S78)
  | _, [] => some []
  | l, o :: r => if (appO l o).2 = 0 then (invF (appO l o).1 r).map (undoO l o :: ·) else none
def invR (acc : List S78) : Option (List S78) → List S78 × Bool
  | some q => ((acc ++ q).reverse, true)
  | none => ([], false)
noncomputable def invT (l : List S80) (ops : List S78) : List S78 × Bool := if treeOk l = true then invR [] (invF l ops) else ([], false)
theorem undoO_path (l : List S80) (o : S78) : (undoO l o).f1.length ≤ o.f1.length + 1 := by
  unfold undoO
  split
  · dsimp only; omega
  · split
    · dsimp only; rw [List.length_take]; omega
    · dsimp only; rw [List.length_append, List.length_singleton]; omega
theorem invF_few : ∀ (ops q : List S78) (l : List S80), invF l ops = some q → q.length = ops.length ∧ ∀ m : Nat, (∀ o ∈ ops, o.f1.length ≤ m) → ∀ u ∈ q, u.f1.length ≤ m + 1 := by
  intro ops
  induction ops with
  | nil =>
    intro q l h
    simp only [invF, Option.some.injEq] at h
    subst h
    exact ⟨rfl, fun m _ u hu => by simp at hu⟩
  | cons o r ih =>
    intro q l h
    rw [invF] at h
    by_cases hc : (appO l o).2 = 0
    · rw [if_pos hc, Option.map_eq_some_iff] at h
      obtain ⟨q', hq, rfl⟩ := h
      obtain ⟨h1, h2⟩ := ih q' _ hq
      refine ⟨by simp [h1], fun m hm u hu => ?_⟩
      rcases List.mem_cons.1 hu with rfl | hu
      · have := undoO_path l o
        have := hm o List.mem_cons_self
        omega
      · exact h2 m (fun x hx => hm x (List.mem_cons_of_mem _ hx)) u hu
    · rw [if_neg hc] at h
      cases h
theorem invT_few (l : List S80) (ops : List S78) : (invT l ops).1.length ≤ ops.length ∧ ∀ m : Nat, (∀ o ∈ ops, o.f1.length ≤ m) → ∀ u ∈ (invT l ops).1, u.f1.length ≤ m + 1 := by
  unfold invT
  split
  · cases h : invF l ops with
    | none => exact ⟨by simp [invR], fun m _ o ho => by simp [invR] at ho⟩
    | some q =>
      obtain ⟨h1, h2⟩ := invF_few ops q l h
      simp only [invR, List.nil_append, List.length_reverse, List.mem_reverse]
      exact ⟨by omega, h2⟩
  · exact ⟨by simp, fun m _ o ho => by simp at ho⟩

/-! #### spec_l19Back -/
theorem l19Back_ev {l : List S80} {o : S78} (h : (appO l o).2 = 0) (hp : (o.f1.length : Int) ≤ 1099511627776) : Ev (fun k => spec_l19Back.f k l o.f0 o.f1 o.f2 o.f3 o.f4) ((undoO l o).f0, (undoO l o).f1, (undoO l o).f2, (undoO l o).f3, (undoO l o).f4) := by
  obtain ⟨ht, i, hin, hi, hgo, hc⟩ := appO_cases h
  have hlb : (rd_T80 l (i : Int)).f0 = lbA l i := rfl
  have h24 := (treeOk_iff.1 ht).1
  simp only [spec_l19Back.f]
  refine ev_bind (spec_NodeAt_ev l _ (by omega) (by omega)) ?_
  rw [hi]
  refine ev_bindc rfl (ev_pos (by rw [List.length_nil]; omega) (ev_bindc rfl ?_))
  rw [List.nil_append]
  have hu : undoO l o = if o.f0 = 1 then ⟨1, o.f1, lbA l i, 0, 0⟩ else if o.f0 = 2 then ⟨3, o.f1.take (o.f1.length - 1), lbA l i, rd o.f1 ((o.f1.length : Int) - 1), ((Tree.kids l.length (dpA l) i).length : Int)⟩ else ⟨2, o.f1 ++ [o.f3], 0, 0, 0⟩ := by unfold undoO; rw [hi, Int.toNat_natCast]
  rcases hc with ⟨k, _⟩ | ⟨k, h0, _⟩ | ⟨k, _⟩
  · rw [if_pos k] at hu
    rw [hu]
    exact ev_pos k (ev_pos (by omega) (ev_pos (by omega) (ev_some (by rw [hlb]))))
  · rw [if_neg (by omega), if_pos k] at hu
    rw [hu]
    have hv := treeOk_vd ht
    have hpath := Tree.pathTo_goDown hv o.f1 i hgo
    have hl := Tree.pathTo_length hv i hin
    rw [hpath] at hl
    have hd := (hv.2.2 i h0 hin).1
    rw [w64 (x := (o.f1.length : Int) - 1) (by omega) (by omega)]
    have e1 : ((o.f1.length : Int) - 1).toNat = o.f1.length - 1 := by omega
    have hk := spec_KidsOf_ev l (i : Int) (by omega)
    rw [kidsI_ok ht hin] at hk
    refine ev_neg (by omega) (ev_pos k (ev_pos (by omega) (ev_pos (by omega) (ev_pos (by omega) (ev_pos (by omega) (ev_bind hk (ev_some ?_)))))))
    rw [e1, hlb, List.length_map]
  · rw [if_neg (by omega), if_neg (by omega)] at hu
    rw [hu]
    exact ev_neg (by omega) (ev_neg (by omega) (ev_pos (by omega) (Ev.now _)))

/-! #### spec_Invert -/
def invS (acc : List S78) : Option (List S78) → List S78 × Bool
  | some q => (q.reverse ++ acc, true)
  | none => ([], false)
theorem invS_nil (q : Option (List S78)) : invS [] q = invR [] q := by cases q <;> simp [invS, invR]
theorem spec_Invert_l0 (ops : List S78) (hb : OpsB ops) : ∀ (d j : Nat) (l : List S80) (acc : List S78), j + d = ops.length → acc.length ≤ j → l.length ≤ 1099511627776 → Ev (fun k => spec_Invert.l0 k ops acc l (j : Int)) (invS acc (invF l (ops.drop j))) := by
  have hl := hb.1
  intro d
  induction d with
  | zero =>
    intro j l acc h ha hm
    refine ev_succ ?_
    simp only [spec_Invert.l0]
    rw [List.drop_eq_nil_of_le (by omega)]
    refine ev_neg (by omega) (ev_some ?_)
    simp [invF, invS]
  | succ d ih =>
    intro j l acc h ha hm
    refine ev_succ ?_
    simp only [spec_Invert.l0]
    have hp := hb.at (j := j) (by omega)
    have hal := appO_length l (rd_T78 ops (j : Int)) 1099511627776 (by omega) hm
    refine ev_pos (by omega) (ev_pos (by omega) (ev_bind (spec_ApplyOp_ev l _ _ _ _ _ (by omega) (by omega)) ?_))
    rw [drop_op ops j (by omega), invF]
    by_cases hc : (appO l (rd_T78 ops (j : Int))).2 = 0
    · rw [if_pos hc]
      refine ev_pos hc (ev_bind (l19Back_ev hc hp) (ev_bindc rfl (ev_pos (by rw [List.length_singleton]; omega) ?_)))
      rw [w64 (x := (j : Int) + 1) (by omega) (by omega)]
      have := ih (j + 1) (appO l (rd_T78 ops (j : Int))).1 (undoO l (rd_T78 ops (j : Int)) :: acc) (by omega) (by simp only [List.length_cons]; omega) hal
      refine ev_eq this ?_
      cases invF (appO l (rd_T78 ops (j : Int))).1 (ops.drop (j + 1)) with
      | none => rfl
      | some q => simp only [invS, Option.map_some, List.reverse_cons, List.append_assoc, List.singleton_append]
    · rw [if_neg hc]
      exact ev_neg hc (Ev.now _)
theorem spec_Invert_ev (l : List S80) (ops : List S78) (hb : OpsB ops) (hm : l.length ≤ 1099511627776) : Ev (fun k => spec_Invert.f k l ops) (invT l ops) := by
  simp only [spec_Invert.f]
  refine ev_bindc rfl (ev_bind (spec_TreeOk_ev l (by omega)) ?_)
  unfold invT
  by_cases ht : treeOk l = true
  · rw [if_pos ht, ← invS_nil]
    exact ev_pos ht (ev_bindc (l3Copy_eq l (by omega)) (spec_Invert_l0 ops hb ops.length 0 l [] (by omega) (by simp) hm))
  · rw [if_neg ht]
    exact ev_neg ht (Ev.now _)

/-! #### impl_within -/
theorem within_eq (a b c : Int) : impl_within.f a b c = some (decide (b ≤ a ∧ a ≤ c)) := by
  unfold impl_within.f
  by_cases h : b ≤ a
  · rw [if_pos h]; simp [h]
  · rw [if_neg h]; simp [h]

/-! #### impl_LabelOk -/
theorem LabelOk_eq (a : Int) : impl_LabelOk.f a = some (decide (0 ≤ a ∧ a ≤ 5)) := by
  unfold impl_LabelOk.f; rw [within_eq]; rfl

/-! #### impl_TreeOk -/
theorem depthOk_eq (l : List S80) (i : Nat) (hi : i < l.length) (hl : l.length ≤ 24) (hp : 0 < i → 0 ≤ dpA l (i - 1) ∧ dpA l (i - 1) ≤ 12) : impl_depthOk.f l (i : Int) = some (decide (if i = 0 then dpA l i = 0 else 1 ≤ dpA l i ∧ dpA l i ≤ dpA l (i - 1) + 1)) := by
  unfold impl_depthOk.f
  by_cases h0 : i = 0
  · subst h0
    conv => lhs; rw [if_pos (show ((0 : Nat) : Int) = 0 from rfl), if_pos (by omega)]
    congr 1
  · have e1 : (i : Int) - 1 = ((i - 1 : Nat) : Int) := by omega
    have hb := hp (by omega)
    conv => lhs; rw [if_neg (by omega), if_pos (by omega), if_pos (by omega), w64 (x := (i : Int) - 1) (by omega) (by omega), e1, if_pos (by omega), if_pos (by omega), rd_f1, rd_f1, w64 (x := dpA l (i - 1) + 1) (by omega) (by omega), within_eq]
    simp only [h0, if_false, Option.bind_some]
theorem impl_TreeOk_l0 (l : List S80) (hl : l.length ≤ 24) : ∀ (d i : Nat), i + d = l.length → (0 < i → okAt l (i - 1)) → Ev (fun k => impl_TreeOk.l0 k l l (l.length : Int) (i : Int)) (okFrom l i) := by
  intro d
  induction d with
  | zero =>
    intro i h hp
    refine ev_succ ?_
    simp only [impl_TreeOk.l0]
    refine ev_neg (by omega) (ev_some ?_)
    rw [okFrom_end (by omega)]
  | succ d ih =>
    intro i h hp
    refine ev_succ ?_
    simp only [impl_TreeOk.l0]
    simp only [rd_f0, rd_f1]
    rw [okFrom_step (by omega)]
    refine ev_pos (by omega) (ev_pos (by omega) (ev_pos (by omega) (ev_bindc (LabelOk_eq _) ?_)))
    simp only [decide_eq_true_eq]
    by_cases h1 : 0 ≤ lbA l i ∧ lbA l i ≤ 5
    · refine ev_pos h1 (ev_bindc (within_eq _ _ _) ?_)
      simp only [decide_eq_true_eq]
      by_cases h2 : 0 ≤ dpA l i ∧ dpA l i ≤ 12
      · refine ev_pos h2 (ev_bindc (depthOk_eq l i (by omega) hl (fun h0 => (hp h0).2.1)) ?_)
        simp only [decide_eq_true_eq]
        by_cases h3 : (if i = 0 then dpA l i = 0 else 1 ≤ dpA l i ∧ dpA l i ≤ dpA l (i - 1) + 1)
        · refine ev_pos h3 ?_
          have ok : okAt l i := ⟨h1, h2, h3⟩
          rw [w64 (x := (i : Int) + 1) (by omega) (by omega), decide_eq_true ok, Bool.true_and]
          exact ih (i + 1) (by omega) (fun _ => ok)
        · refine ev_neg h3 (ev_some ?_)
          have ok : ¬ okAt l i := fun h => h3 h.2.2
          rw [decide_eq_false ok, Bool.false_and]
      · refine ev_neg h2 (ev_some ?_)
        have ok : ¬ okAt l i := fun h => h2 h.2.1
        rw [decide_eq_false ok, Bool.false_and]
    · refine ev_neg h1 (ev_some ?_)
      have ok : ¬ okAt l i := fun h => h1 h.1
      rw [decide_eq_false ok, Bool.false_and]
theorem impl_TreeOk_ev (l : List S80) : Ev (fun k => impl_TreeOk.f k l) (treeOk l) := by
  simp only [impl_TreeOk.f]
  refine ev_bindc (within_eq _ _ _) ?_
  simp only [decide_eq_true_eq]
  rw [okFrom_zero]
  by_cases h : 1 ≤ l.length ∧ l.length ≤ 24
  · refine ev_pos (by omega) ?_
    rw [decide_eq_true h, Bool.true_and]
    exact impl_TreeOk_l0 l h.2 l.length 0 (by omega) (fun h => absurd h (Nat.lt_irrefl 0))
  · refine ev_neg (by omega) (ev_some ?_)
    rw [decide_eq_false h, Bool.false_and]

/-! #### slices_Clone_Node -/
theorem clone_eq (l : List S80) (h : l.length < 8796093022208) : slices_Clone_Node.f l = some l := by
  unfold slices_Clone_Node.f
  simp only [Option.bind_some, List.nil_append, List.length_nil]
  rw [if_pos (by omega)]

/-! #### impl_endOf -/
theorem endOf_l0 (l : List S80) (i : Nat) (hi : i < l.length) (hm : l.length ≤ 24) : ∀ (f j : Nat), l.length ≤ j + f → i < j → Ev (fun k => impl_endOf.l0 k l (i : Int) (j : Int)) (Tree.eoFrom l.length (dpA l) (dpA l i) f j : Int) := by
  intro f
  induction f with
  | zero =>
    intro j h h1
    refine ev_succ ?_
    simp only [impl_endOf.l0]
    exact ev_neg (by omega) (Ev.now _)
  | succ f ih =>
    intro j h h1
    refine ev_succ ?_
    simp only [impl_endOf.l0]
    simp only [rd_f1]
    rw [Tree.eoFrom]
    by_cases h2 : j < l.length
    · refine ev_pos (by omega) (ev_pos (by omega) (ev_pos (by omega) (ev_pos (by omega) ?_)))
      by_cases h3 : dpA l j > dpA l i
      · refine ev_pos h3 ?_
        rw [if_pos ⟨h2, h3⟩, w64 (by omega) (by omega)]
        exact ih (j + 1) (by omega) (by omega)
      · refine ev_neg h3 (ev_some ?_)
        rw [if_neg (by omega)]
    · refine ev_neg (by omega) (ev_some ?_)
      rw [if_neg (by omega)]
theorem endOf_ev (l : List S80) (i : Nat) (hi : i < l.length) (hm : l.length ≤ 24) : Ev (fun k => impl_endOf.f k l (i : Int)) (Tree.eo l.length (dpA l) i : Int) := by
  simp only [impl_endOf.f]
  rw [w64 (by omega) (by omega)]
  exact endOf_l0 l i hi hm (l.length - (i + 1)) (i + 1) (by omega) (by omega)

/-! #### impl_hasNode -/
theorem hasNode_ev (l : List S80) (i : Int) (hm : (l.length : Int) ≤ 9223372036854775806) : Ev (fun k => impl_hasNode.f k l i) (hasB l i) := by
  simp only [impl_hasNode.f]
  refine ev_bind (impl_TreeOk_ev l) ?_
  unfold hasB
  by_cases h : treeOk l = true
  · refine ev_pos h ?_
    rw [h, w64 (x := (l.length : Int) - 1) (by omega) (by omega)]
    refine ev_bindc (within_eq _ _ _) (ev_some ?_)
    rw [Bool.true_and]
    congr 1
    simp only [eq_iff_iff]
    omega
  · refine ev_neg h (ev_some ?_)
    have : treeOk l = false := by simpa using h
    rw [this, Bool.false_and]

/-! #### impl_KidsOf -/
theorem impl_KidsOf_l0 (l : List S80) (i : Nat) (hi : i < l.length) (hm : l.length ≤ 24) (ht : treeOk l = true) : ∀ (d j : Nat), j + d = Tree.eo l.length (dpA l) i → i < j →
    Ev (fun k => impl_KidsOf.l0 k l (i : Int) (kidsTo l i j) (j : Int)) (kidsTo l i (Tree.eo l.length (dpA l) i)) := by
  have he := Tree.eo_le (D := dpA l) hi
  intro d
  induction d with
  | zero =>
    intro j h hj
    refine ev_succ ?_
    simp only [impl_KidsOf.l0]
    refine ev_bind (endOf_ev l i hi hm) (ev_neg (by omega) (ev_some ?_))
    have : j = Tree.eo l.length (dpA l) i := by omega
    rw [this]
  | succ d ih =>
    intro j h hj
    refine ev_succ ?_
    simp only [impl_KidsOf.l0]
    simp only [rd_f1]
    have d2 := dp_range ht hi
    have hk := kidsTo_length l i j
    refine ev_bind (endOf_ev l i hi hm) (ev_pos (by omega) (ev_pos (by omega) (ev_pos (by omega) (ev_pos (by omega) (ev_pos (by omega) ?_)))))
    rw [w64 (x := dpA l i + 1) (by omega) (by omega), w64 (x := (j : Int) + 1) (by omega) (by omega)]
    have := ih (j + 1) (by omega) (by omega)
    rw [kidsTo_step l i j hj] at this
    by_cases hd : dpA l j = dpA l i + 1
    · rw [if_pos hd] at this
      exact ev_pos hd (ev_pos (by omega) this)
    · rw [if_neg hd, List.append_nil] at this
      exact ev_neg hd this
theorem impl_KidsOf_ev (l : List S80) (i : Int) (hm : (l.length : Int) ≤ 9223372036854775806) : Ev (fun k => impl_KidsOf.f k l i) (kidsI l i) := by
  simp only [impl_KidsOf.f, Option.bind_some]
  refine ev_bind (hasNode_ev l i hm) ?_
  by_cases h : hasB l i = true
  · refine ev_pos h ?_
    obtain ⟨j, rfl, hj, h1, h2, hv⟩ := hasB_nat h
    have g := @Tree.eo_gt l.length (dpA l) j
    rw [w64 (by omega) (by omega), kidsI_nat h]
    have := impl_KidsOf_l0 l j hj h2 h1 (Tree.eo l.length (dpA l) j - (j + 1)) (j + 1) (by omega) (by omega)
    have e : kidsTo l j (j + 1) = [] := by unfold kidsTo; rw [Nat.sub_self]; rfl
    rw [e] at this
    exact this
  · refine ev_neg h (ev_some ?_)
    unfold kidsI
    rw [if_neg h]

/-! #### impl_NodeAt -/
theorem impl_NodeAt_l0 (l : List S80) (p : List Int) (ht : treeOk l = true) (hp : (p.length : Int) ≤ 9223372036854775806) : ∀ (d j i : Nat), j + d = p.length → i < l.length → Ev (fun k => impl_NodeAt.l0 k l (i : Int) p (p.length : Int) (j : Int)) (optI (Tree.goDown l.length (dpA l) i (p.drop j))) := by
  have h24 := (treeOk_iff.1 ht).1
  intro d
  induction d with
  | zero =>
    intro j i h hi
    refine ev_succ ?_
    simp only [impl_NodeAt.l0]
    rw [List.drop_eq_nil_of_le (by omega)]
    exact ev_neg (by omega) (Ev.now _)
  | succ d ih =>
    intro j i h hi
    refine ev_succ ?_
    simp only [impl_NodeAt.l0]
    have hkl := kidsI_length l (i : Int)
    refine ev_pos (by omega) (ev_pos (by omega) (ev_pos (by omega) (ev_bind (impl_KidsOf_ev l _ (by omega)) (ev_bindc (within_eq _ _ _) ?_))))
    rw [w64 (by omega) (by omega), kidsI_ok ht hi, List.length_map, drop_rd p j (by omega), Tree.goDown]
    by_cases hk : 0 ≤ rd p (j : Int) ∧ rd p (j : Int) < ((Tree.kids l.length (dpA l) i).length : Int)
    · rw [if_pos hk]
      refine ev_pos (decide_eq_true (by omega)) (ev_pos hk.1 (ev_pos hk.2 ?_))
      rw [rd_nat _ _ hk.1 hk.2, w64 (x := (j : Int) + 1) (by omega) (by omega)]
      refine ih (j + 1) _ (by omega) (Tree.kids_lt (D := dpA l) hi ?_)
      rw [List.getD_eq_getElem?_getD, List.getElem?_eq_getElem (by omega)]
      exact List.getElem_mem _
    · rw [if_neg hk]
      exact ev_neg (by simp only [decide_eq_true_eq]; omega) (Ev.now _)
theorem impl_NodeAt_ev (l : List S80) (p : List Int) (hp : (p.length : Int) ≤ 9223372036854775806) : Ev (fun k => impl_NodeAt.f k l p) (nodeI l p) := by
  simp only [impl_NodeAt.f]
  refine ev_bind (impl_TreeOk_ev l) ?_
  unfold nodeI
  by_cases h : treeOk l = true
  · rw [if_pos h]
    exact ev_pos h (impl_NodeAt_l0 l p h hp p.length 0 0 (by omega) (by have := (treeOk_iff.1 h).1; omega))
  · rw [if_neg h]
    exact ev_neg h (Ev.now _)

/-! #### impl_opCode -/
theorem opCode_l0 (l : List S80) (f t : Nat) (ht : treeOk l = true) (hft : f ≤ t) (htl : t ≤ l.length) : ∀ (d j : Nat) (a : Int), f + j + d = t → Ev (fun k => impl_opCode.l0 k l (f : Int) (t : Int) a ((l.take t).drop f) (((l.take t).drop f).length : Int) (j : Int)) (if (l.length : Int) = 24 then (6, 0, 0) else if deepF l d (f + j) a > 12 then (7, 0, 0) else (0, (f : Int), (t : Int))) := by
  have hlen : ((l.take t).drop f).length = t - f := by rw [List.length_drop, List.length_take]; omega
  have h24 := (treeOk_iff.1 ht).1
  intro d
  induction d with
  | zero =>
    intro j a h
    refine ev_succ ?_
    simp only [impl_opCode.l0]
    refine ev_neg (by omega) ?_
    refine ev_ite (fun c => by rw [if_pos c]; exact Ev.now _) (fun c => ?_)
    rw [if_neg c]
    show Ev _ (if a > 12 then _ else _)
    exact ev_ite (fun c => by rw [if_pos c]; exact Ev.now _) (fun c => by rw [if_neg c]; exact Ev.now _)
  | succ d ih =>
    intro j a h
    refine ev_succ ?_
    simp only [impl_opCode.l0]
    have dj := dp_range ht (j := f + j) (by omega)
    have ed : dpA ((l.take t).drop f) j = dpA l (f + j) := by unfold dpA; rw [at_drop, at_take _ _ _ (by omega)]
    refine ev_pos (by omega) (ev_pos (by omega) (ev_pos (by omega) ?_))
    rw [rd_f1, ed, w64 (x := dpA l (f + j) + 1) (by omega) (by omega), w64 (x := (j : Int) + 1) (by omega) (by omega)]
    exact ih (j + 1) _ (by omega)
theorem opCode_j1 (l : List S80) (i : Nat) (kind lab fr ct : Int) (p : List Int) (ht : treeOk l = true) (hi : i < l.length) (b : Bool) (hb : b = decide (kind = 2 ∧ (i : Int) = 0)) (hk : 1 ≤ kind ∧ kind ≤ 3) (hl : ¬ (kind ≠ 2 ∧ ¬ (0 ≤ lab ∧ lab ≤ 5))) : Ev (fun k => impl_opCode.j1 k l (i : Int) b kind p lab fr ct) (codeT l kind lab fr ct (i : Int)) := by
  have h24 := (treeOk_iff.1 ht).1
  have he := Tree.eo_le (D := dpA l) hi
  have di := dp_range ht hi
  have hkl := kidsI_length l (i : Int)
  have hkn : (kidsI l (i : Int)).length = (Tree.kids l.length (dpA l) i).length := by rw [kidsI_ok ht hi, List.length_map]
  unfold codeT
  rw [if_pos hk, if_neg (by omega), if_neg hl, Int.toNat_natCast]
  refine ev_succ ?_
  simp only [impl_opCode.j1]
  by_cases h1 : kind = 2 ∧ (i : Int) = 0
  · rw [if_pos h1]
    exact ev_pos (by rw [hb]; exact decide_eq_true h1) (Ev.now _)
  · rw [if_neg h1]
    refine ev_neg (by rw [hb]; simpa using h1) ?_
    by_cases h3 : kind = 3
    · rw [if_pos h3]
      refine ev_pos h3 (ev_bind (impl_KidsOf_ev l _ (by omega)) (ev_bindc (within_eq _ _ _) ?_))
      have bad : ¬ (0 ≤ fr ∧ fr ≤ ((Tree.kids l.length (dpA l) i).length : Int) ∧ 0 ≤ ct ∧ ct ≤ ((Tree.kids l.length (dpA l) i).length : Int) - fr) → Ev (fun k => impl_opCode.j2 k l (i : Int) (kidsI l (i : Int)) true kind p lab fr ct) (if 0 ≤ fr ∧ fr ≤ ((Tree.kids l.length (dpA l) i).length : Int) ∧ 0 ≤ ct ∧ ct ≤ ((Tree.kids l.length (dpA l) i).length : Int) - fr then tailT l i ((Tree.bounds l.length (dpA l) i).getD fr.toNat 0) ((Tree.bounds l.length (dpA l) i).getD (fr + ct).toNat 0) else (5, 0, 0)) := by
        intro c
        rw [if_neg c]
        refine ev_succ ?_
        simp only [impl_opCode.j2]
        exact ev_pos trivial (Ev.now _)
      by_cases h4 : 0 ≤ fr ∧ fr ≤ ((kidsI l (i : Int)).length : Int)
      · refine ev_pos (decide_eq_true h4) (ev_bindc (within_eq _ _ _) ?_)
        rw [w64 (by omega) (by omega)]
        by_cases h5 : 0 ≤ ct ∧ ct ≤ ((kidsI l (i : Int)).length : Int) - fr
        · have hall : 0 ≤ fr ∧ fr ≤ ((Tree.kids l.length (dpA l) i).length : Int) ∧ 0 ≤ ct ∧ ct ≤ ((Tree.kids l.length (dpA l) i).length : Int) - fr := by omega
          obtain ⟨f1, f2, f3, f4⟩ := bounds_facts hi hall
          rw [decide_eq_true h5, if_pos hall]
          refine ev_succ ?_
          simp only [impl_opCode.j2]
          have hbl := bounds_length l.length (dpA l) i
          refine ev_neg (by decide) (ev_bind (endOf_ev l i hi (by omega)) (ev_pos (by omega) (ev_bindc rfl ?_)))
          rw [bounds_int ht hi, List.length_map, w64 (x := fr + ct) (by omega) (by omega)]
          refine ev_pos (by omega) (ev_pos (by omega) (ev_pos (by omega) (ev_pos (by omega) ?_)))
          rw [rd_nat _ _ (by omega) (by omega), rd_nat _ _ (by omega) (by omega)]
          refine ev_pos (by omega) (ev_pos (by omega) (ev_pos (by omega) (ev_pos (by omega) (ev_pos (by omega) (ev_bindc rfl ?_)))))
          rw [rd_f1, w64 (x := dpA l i + 1) (by omega) (by omega)]
          simp only [Int.toNat_natCast]
          unfold tailT
          have := opCode_l0 l ((Tree.bounds l.length (dpA l) i).getD fr.toNat 0) ((Tree.bounds l.length (dpA l) i).getD (fr + ct).toNat 0) ht f2 (by omega) ((Tree.bounds l.length (dpA l) i).getD (fr + ct).toNat 0 - (Tree.bounds l.length (dpA l) i).getD fr.toNat 0) 0 (dpA l i + 1) (by omega)
          exact this
        · rw [decide_eq_false h5]
          exact bad (by omega)
      · exact ev_neg (by simpa using h4) (bad (by omega))
    · rw [if_neg h3]
      exact ev_neg h3 (Ev.now _)
theorem opCode_ev (l : List S80) (kind lab fr ct i : Int) (p : List Int) (hi : i < 0 ∨ ∃ n : Nat, i = (n : Int) ∧ n < l.length ∧ treeOk l = true) : Ev (fun k => impl_opCode.f k l kind p lab fr ct i) (codeT l kind lab fr ct i) := by
  simp only [impl_opCode.f]
  refine ev_bindc (within_eq _ _ _) ?_
  by_cases hk : 1 ≤ kind ∧ kind ≤ 3
  · refine ev_pos (decide_eq_true hk) ?_
    rcases hi with hi | ⟨n, rfl, hn, ht⟩
    · unfold codeT
      rw [if_pos hk, if_pos hi]
      exact ev_pos hi (Ev.now _)
    · refine ev_neg (by omega) ?_
      by_cases h2 : kind = 2
      · refine ev_pos h2 (ev_succ ?_)
        simp only [impl_opCode.j0]
        refine ev_neg (by decide) (ev_pos h2 (opCode_j1 l n kind lab fr ct p ht hn _ ?_ hk (by omega)))
        rw [Bool.eq_iff_iff]; simp [h2]
      · refine ev_neg h2 (ev_bindc (LabelOk_eq _) (ev_succ ?_))
        simp only [impl_opCode.j0]
        by_cases hl : 0 ≤ lab ∧ lab ≤ 5
        · refine ev_neg (by simp [hl]) (ev_neg h2 (opCode_j1 l n kind lab fr ct p ht hn _ ?_ hk (by omega)))
          simp [h2]
        · refine ev_pos (by rw [decide_eq_false hl]; rfl) ?_
          unfold codeT
          rw [if_pos hk, if_neg (by omega), if_pos ⟨h2, hl⟩]
          exact Ev.now _
  · refine ev_neg (by simpa using hk) ?_
    unfold codeT
    rw [if_neg hk]
    exact Ev.now _

/-! #### slices_Delete_Node -/
theorem delete_eq (l : List S80) (i j : Nat) (hij : i ≤ j) (hj : j ≤ l.length) : slices_Delete_Node.f l (i : Int) (j : Int) = some (l.take i ++ l.drop j) := by
  unfold slices_Delete_Node.f
  rw [if_pos (by omega)]
  simp only [Int.toNat_natCast]

/-! #### slices_Insert_Node -/
theorem insert_eq (l : List S80) (i : Nat) (v : List S80) (hi : i ≤ l.length) (hv : 0 < v.length) (hl : l.length + v.length < 8796093022208) : slices_Insert_Node.f l (i : Int) v = some (l.take i ++ v ++ l.drop i) := by
  unfold slices_Insert_Node.f
  rw [if_pos (by omega)]
  simp only [Int.toNat_natCast]

/-! #### impl_ApplyOp -/
theorem impl_ApplyOp_l0 (l : List S80) (i : Nat) (ht : treeOk l = true) (hi : i < l.length) : ∀ (d j : Nat), j + d = Tree.eo l.length (dpA l) i → i < j → Ev (fun k => impl_ApplyOp.l0 k l (midN (-1) (i + 1) l j) (i : Int) (j : Int)) (l.take i ++ ((l.take (Tree.eo l.length (dpA l) i)).drop (i + 1)).map (upN (-1)) ++ l.drop (Tree.eo l.length (dpA l) i), 0) := by
  have h24 := (treeOk_iff.1 ht).1
  have el := Tree.eo_le (D := dpA l) hi
  intro d
  induction d with
  | zero =>
    intro j h hj
    refine ev_succ ?_
    simp only [impl_ApplyOp.l0]
    have ew : wrap64 ((i : Int) + 1) = ((i + 1 : Nat) : Int) := by rw [w64 (by omega) (by omega)]; omega
    have hml := midN_length (-1) (i + 1) l j (by omega) (by omega)
    refine ev_bind (endOf_ev l i hi (by omega)) (ev_neg (by omega) ?_)
    rw [ew]
    refine ev_bindc (delete_eq _ i (i + 1) (by omega) (by omega)) (ev_some ?_)
    have e : j = Tree.eo l.length (dpA l) i := by omega
    rw [midN_drop _ _ _ _ (by omega), ← e]
    have e2 : (midN (-1) (i + 1) l j).take i = l.take i := by
      have := congrArg (List.take i) (midN_take (-1) (i + 1) l j (by omega))
      rw [List.take_take, List.take_take, Nat.min_eq_left (by omega)] at this
      exact this
    rw [e2, List.append_assoc]
  | succ d ih =>
    intro j h hj
    refine ev_succ ?_
    simp only [impl_ApplyOp.l0]
    have dj := dp_range ht (j := j) (by omega)
    have hml := midN_length (-1) (i + 1) l j (by omega) (by omega)
    refine ev_bind (endOf_ev l i hi (by omega)) (ev_pos (by omega) (ev_pos (by omega) (ev_pos (by omega) ?_)))
    rw [midN_rd _ _ _ _ (by omega) (by omega), Int.sub_eq_add_neg, upN_eq (t := l) (i := j) (b := -1) (by omega) (by omega), Int.toNat_natCast, midN_set _ _ _ _ (by omega) (by omega), w64 (x := (j : Int) + 1) (by omega) (by omega)]
    exact ih (j + 1) (by omega) (by omega)
theorem impl_ApplyOp_l1 (l : List S80) (i f t : Nat) (kind : Int) (p : List Int) (lab fr ct : Int) (ht : treeOk l = true) (hi : i < l.length) (hft : f ≤ t) (htl : t ≤ l.length) : ∀ (d j : Nat), j + d = t → f ≤ j → Ev (fun k => impl_ApplyOp.l1 k l (midN 1 f l j) (i : Int) (f : Int) (t : Int) (j : Int) kind p lab fr ct) (l.take f ++ [(⟨lab, dpA l i + 1⟩ : S80)] ++ ((l.take t).drop f).map (upN 1) ++ l.drop t, 0) := by
  have h24 := (treeOk_iff.1 ht).1
  have di := dp_range ht hi
  intro d
  induction d with
  | zero =>
    intro j h hj
    refine ev_succ ?_
    simp only [impl_ApplyOp.l1]
    have hml := midN_length 1 f l j (by omega) (by omega)
    have e : j = t := by omega
    subst e
    refine ev_neg (by omega) (ev_pos (by omega) (ev_pos (by omega) ?_))
    refine ev_bindc (insert_eq _ f _ (by omega) (by simp) (by simp only [List.length_singleton]; omega)) (ev_some ?_)
    rw [midN_take _ _ _ _ (by omega), midN_drop _ _ _ _ (by omega), rd_f1, w64 (x := dpA l i + 1) (by omega) (by omega)]
    simp only [List.append_assoc]
  | succ d ih =>
    intro j h hj
    refine ev_succ ?_
    simp only [impl_ApplyOp.l1]
    have dj := dp_range ht (j := j) (by omega)
    have hml := midN_length 1 f l j (by omega) (by omega)
    refine ev_pos (by omega) (ev_pos (by omega) (ev_pos (by omega) ?_))
    rw [midN_rd _ _ _ _ (by omega) (by omega), upN_eq (t := l) (i := j) (b := 1) (by omega) (by omega), Int.toNat_natCast, midN_set _ _ _ _ (by omega) (by omega), w64 (x := (j : Int) + 1) (by omega) (by omega)]
    exact ih (j + 1) (by omega) (by omega)
theorem impl_ApplyOp_ev (l : List S80) (kind : Int) (p : List Int) (lab fr ct : Int) (hp : (p.length : Int) ≤ 9223372036854775806) : Ev (fun k => impl_ApplyOp.f k l kind p lab fr ct) (applyT l kind p lab fr ct) := by
  simp only [impl_ApplyOp.f]
  refine ev_bind (impl_TreeOk_ev l) ?_
  unfold applyT
  by_cases ht : treeOk l = true
  · rw [if_pos ht]
    have h24 := (treeOk_iff.1 ht).1
    refine ev_pos ht (ev_bindc (clone_eq l (by omega)) (ev_bind (impl_NodeAt_ev l p hp) (ev_bind (opCode_ev l kind lab fr ct _ p (nodeI_cases l p)) ?_)))
    by_cases hc : (codeT l kind lab fr ct (nodeI l p)).1 = 0
    · rw [if_pos hc]
      refine ev_pos hc ?_
      obtain ⟨hk, hi0, hl, hr, h3', h3⟩ := codeT_ok hc
      obtain ⟨i, hi, hin, _, _⟩ := nodeI_nat hi0
      rw [hi] at hc hr h3' h3 ⊢
      have di := dp_range ht hin
      have el := Tree.eo_le (D := dpA l) hin
      have eg := @Tree.eo_gt l.length (dpA l) i
      by_cases k1 : kind = 1
      · refine ev_pos k1 (ev_pos (by omega) (ev_pos (by omega) (ev_some ?_)))
        unfold doneT
        rw [if_pos k1]
        rfl
      · refine ev_neg k1 ?_
        by_cases k2 : kind = 2
        · have ew : wrap64 ((i : Int) + 1) = ((i + 1 : Nat) : Int) := by rw [w64 (by omega) (by omega)]; omega
          refine ev_pos k2 ?_
          unfold doneT
          rw [if_neg k1, if_pos k2, ew, Int.toNat_natCast]
          have := impl_ApplyOp_l0 l i ht hin (Tree.eo l.length (dpA l) i - (i + 1)) (i + 1) (by omega) (by omega)
          rw [midN_self] at this
          exact this
        · refine ev_neg k2 ?_
          obtain ⟨hb, hcode, h24', _⟩ := h3 (by omega)
          rw [hcode]
          rw [Int.toNat_natCast] at hb ⊢
          obtain ⟨f1, f2, f3, f4⟩ := bounds_facts hin hb
          generalize (Tree.bounds l.length (dpA l) i).getD fr.toNat 0 = f at *
          generalize (Tree.bounds l.length (dpA l) i).getD (fr + ct).toNat 0 = t at *
          unfold doneT
          rw [if_neg k1, if_neg k2]
          simp only [Int.toNat_natCast]
          have := impl_ApplyOp_l1 l i f t kind p lab fr ct ht hin f2 (by omega) (t - f) f (by omega) (Nat.le_refl _)
          rw [midN_self] at this
          exact this
    · rw [if_neg hc]
      exact ev_neg hc (Ev.now _)
  · rw [if_neg ht]
    exact ev_neg ht (Ev.now _)

/-! #### slices_Clone_int -/
theorem cloneI_eq (l : List Int) (h : l.length < 17592186044416) : slices_Clone_int.f l = some l := by
  unfold slices_Clone_int.f
  simp only [Option.bind_some, List.length_nil, Nat.zero_add, List.nil_append]
  rw [if_pos h]

/-! #### impl_undone -/
theorem undone_ev {l : List S80} {o : S78} (h : (appO l o).2 = 0) (hp : (o.f1.length : Int) ≤ 1099511627776) : Ev (fun k => impl_undone.f k l o.f0 o.f1 o.f2 o.f3 o.f4) ((undoO l o).f0, (undoO l o).f1, (undoO l o).f2, (undoO l o).f3, (undoO l o).f4) := by
  obtain ⟨ht, i, hin, hi, hgo, hc⟩ := appO_cases h
  have hlb : (rd_T80 l (i : Int)).f0 = lbA l i := rfl
  simp only [impl_undone.f]
  refine ev_bind (impl_NodeAt_ev l _ (by omega)) ?_
  rw [hi]
  unfold undoO
  rw [hi, Int.toNat_natCast]
  rcases hc with ⟨k, _⟩ | ⟨k, h0, _⟩ | ⟨k, _⟩
  · rw [if_pos k]
    exact ev_pos k (ev_bindc (cloneI_eq _ (by omega)) (ev_pos (by omega) (ev_pos (by omega) (ev_some (by rw [hlb])))))
  · rw [if_neg (by omega), if_pos k]
    have hv := treeOk_vd ht
    have hpath := Tree.pathTo_goDown hv o.f1 i hgo
    have hl := Tree.pathTo_length hv i hin
    rw [hpath] at hl
    have hd := (hv.2.2 i h0 hin).1
    rw [w64 (x := (o.f1.length : Int) - 1) (by omega) (by omega)]
    have e1 : ((o.f1.length : Int) - 1).toNat = o.f1.length - 1 := by omega
    have hk := impl_KidsOf_ev l (i : Int) (by have := (treeOk_iff.1 ht).1; omega)
    rw [kidsI_ok ht hin] at hk
    refine ev_neg (by omega) (ev_pos k (ev_pos (by omega) (ev_pos (by omega) ?_)))
    rw [e1]
    refine ev_bindc (cloneI_eq _ (by rw [List.length_take]; omega)) (ev_pos (by omega) (ev_pos (by omega) (ev_pos (by omega) (ev_bind hk (ev_some ?_)))))
    rw [hlb, List.length_map]
  · rw [if_neg (by omega), if_neg (by omega)]
    refine ev_neg (by omega) (ev_neg (by omega) (ev_bindc (cloneI_eq _ (by omega)) (ev_bindc rfl (ev_pos (by rw [List.length_singleton]; omega) (Ev.now _)))))

/-! #### impl_Invert -/
theorem impl_Invert_l0 (ops : List S78) (hb : OpsB ops) : ∀ (d j : Nat) (l : List S80) (acc : List S78), j + d = ops.length → acc.length ≤ j → l.length ≤ 1099511627776 → Ev (fun k => impl_Invert.l0 k acc l ops (ops.length : Int) (j : Int)) (invR acc (invF l (ops.drop j))) := by
  have hl := hb.1
  intro d
  induction d with
  | zero =>
    intro j l acc h ha hm
    refine ev_succ ?_
    simp only [impl_Invert.l0]
    rw [List.drop_eq_nil_of_le (by omega)]
    refine ev_neg (by omega) (ev_some ?_)
    simp [invF, invR]
  | succ d ih =>
    intro j l acc h ha hm
    refine ev_succ ?_
    simp only [impl_Invert.l0]
    have hp := hb.at (j := j) (by omega)
    have hal := appO_length l (rd_T78 ops (j : Int)) 1099511627776 (by omega) hm
    refine ev_pos (by omega) (ev_pos (by omega) (ev_pos (by omega) (ev_bind (impl_ApplyOp_ev l _ _ _ _ _ (by omega)) ?_)))
    rw [drop_op ops j (by omega), invF]
    by_cases hc : (appO l (rd_T78 ops (j : Int))).2 = 0
    · rw [if_pos hc]
      refine ev_pos hc (ev_bind (undone_ev hc hp) (ev_pos (by omega) ?_))
      rw [w64 (x := (j : Int) + 1) (by omega) (by omega)]
      have := ih (j + 1) (appO l (rd_T78 ops (j : Int))).1 (acc ++ [undoO l (rd_T78 ops (j : Int))]) (by omega) (by simp only [List.length_append, List.length_singleton]; omega) hal
      refine ev_eq this ?_
      cases invF (appO l (rd_T78 ops (j : Int))).1 (ops.drop (j + 1)) with
      | none => rfl
      | some q => simp only [invR, Option.map_some, List.append_assoc, List.singleton_append]
    · rw [if_neg hc]
      exact ev_neg hc (Ev.now _)
theorem impl_Invert_ev (l : List S80) (ops : List S78) (hb : OpsB ops) (hm : l.length ≤ 1099511627776) : Ev (fun k => impl_Invert.f k l ops) (invT l ops) := by
  simp only [impl_Invert.f, Option.bind_some]
  refine ev_bind (impl_TreeOk_ev l) ?_
  unfold invT
  by_cases ht : treeOk l = true
  · rw [if_pos ht]
    exact ev_pos ht (impl_Invert_l0 ops hb ops.length 0 l [] (by omega) (by simp) hm)
  · rw [if_neg ht]
    exact ev_neg ht (Ev.now _)

end Go.Proofs.Ytdapeboajjidmaa.QFnExactInvert
