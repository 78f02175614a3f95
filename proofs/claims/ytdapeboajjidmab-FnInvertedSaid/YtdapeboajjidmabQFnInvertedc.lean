/- What the printed functions of the law FnInverted come to, function by function, from some number of rounds on; each under the bounds that it names. -/
import Derived.Test.YtdapeboajjidmabQFnInvertedb
namespace Go.Proofs.Ytdapeboajjidmab.QFnInverted
open Go.RowKit Go.Proofs.Ytdapeboajjidmab.PFnInverted Go.Proofs.YtdapeboajjidmabW.PrintWords Go.Proofs.YtdapeboajjidmabW.PrintLast Go.Proofs.YtdapeboajjidmabW.PrintMore Go.Proofs.Ytdapeboajjidmab.EvAid Go.Proofs.Ytdapeboajjidmab
set_option linter.unusedVariables false
set_option linter.unusedSimpArgs false

/-! #### impl_CostOk -/
theorem CostOk_l0 : ∀ (d i : Nat), i + d = 6 → Ev (fun k => impl_CostOk.l0 k (i : Int) unitD unitD unitR) true := by
  intro d
  induction d with
  | zero =>
    intro i h
    refine ev_succ ?_
    simp only [impl_CostOk.l0]
    exact ev_neg (by omega) (Ev.now _)
  | succ d ih =>
    intro i h
    refine ev_succ ?_
    simp only [impl_CostOk.l0]
    have e := unitR_at (i : Int) (i : Int) (by omega) (by omega) (by omega) (by omega)
    rw [if_pos rfl] at e
    have hl : (unitR.length : Int) = 36 := rfl
    rw [w64 (x := (i : Int) * 6) (by omega) (by omega), w64 (x := (i : Int) * 6 + (i : Int)) (by omega) (by omega), w64 (x := (i : Int) + 1) (by omega) (by omega)]
    exact ev_pos (by omega) (ev_pos (by omega) (ev_pos (by omega) (ev_pos e (ih (i + 1) (by omega)))))
theorem CostOk_unit : Ev (fun k => impl_CostOk.f k unitD unitD unitR) true := by
  simp only [impl_CostOk.f]
  have a := pricesOk_ev unitD (by decide) 6
  have b := pricesOk_ev unitR (by decide) 36
  rw [show (decide ((unitD.length : Int) = 6) && unitD.all inPrice) = true by decide] at a
  rw [show (decide ((unitR.length : Int) = 36) && unitR.all inPrice) = true by decide] at b
  refine ev_bind a (ev_pos rfl (ev_bind a (ev_pos rfl (ev_bind b (ev_succ ?_)))))
  simp only [impl_CostOk.j0]
  exact ev_neg (by decide) (CostOk_l0 6 0 (by omega))

/-! #### impl_RelCost -/
theorem RelCost_unit (a b : Int) (h0 : 0 ≤ a ∧ a ≤ 5) (h1 : 0 ≤ b ∧ b ≤ 5) : Ev (fun k => impl_RelCost.f k unitD unitD unitR a b) (if a = b then 0 else 1) := by
  simp only [impl_RelCost.f]
  have hl : (unitR.length : Int) = 36 := rfl
  have e := unitR_at a b h0.1 h0.2 h1.1 h1.2
  rw [w64 (x := a * 6) (by omega) (by omega), w64 (x := a * 6 + b) (by omega) (by omega)]
  exact ev_bind CostOk_unit (ev_pos rfl (ev_bindc (LabelOk_eq a) (ev_pos (decide_eq_true h0) (ev_bindc (LabelOk_eq b) (ev_pos (decide_eq_true h1) (ev_pos (by omega) (ev_pos (by omega) (ev_some e))))))))

/-! #### impl_DelCost -/
theorem DelCost_unit (a : Int) (h0 : 0 ≤ a ∧ a ≤ 5) : Ev (fun k => impl_DelCost.f k unitD unitD unitR a) 1 := by
  simp only [impl_DelCost.f]
  have hl : (unitD.length : Int) = 6 := rfl
  exact ev_bind CostOk_unit (ev_pos rfl (ev_bindc (LabelOk_eq a) (ev_pos (decide_eq_true h0) (ev_pos (by omega) (ev_pos (by omega) (ev_some (unitD_at a h0.1 h0.2)))))))

/-! #### impl_InsCost -/
theorem InsCost_unit (a : Int) (h0 : 0 ≤ a ∧ a ≤ 5) : Ev (fun k => impl_InsCost.f k unitD unitD unitR a) 1 := by
  simp only [impl_InsCost.f]
  have hl : (unitD.length : Int) = 6 := rfl
  exact ev_bind CostOk_unit (ev_pos rfl (ev_bindc (LabelOk_eq a) (ev_pos (decide_eq_true h0) (ev_pos (by omega) (ev_pos (by omega) (ev_some (unitD_at a h0.1 h0.2)))))))

/-! #### impl_ScriptCost -/
/-- what an operation costs where each change costs 1 -/
noncomputable def opC (l : List S62) (o : S121) : Int := if o.f0 = 1 then (if lbA l (nodeI l o.f1).toNat = o.f2 then 0 else 1) else 1
noncomputable def costF : List S62 → List S121 → Int
  | _, [] => 0
  | l, o :: r => opC l o + costF (appO l o).1 r
theorem opC_le (l : List S62) (o : S121) : 0 ≤ opC l o ∧ opC l o ≤ 1 := by
  unfold opC
  split
  · split <;> omega
  · omega
theorem costF_le : ∀ (ops : List S121) (l : List S62), 0 ≤ costF l ops ∧ costF l ops ≤ (ops.length : Int) := by
  intro ops
  induction ops with
  | nil => intro l; simp [costF]
  | cons o r ih =>
    intro l
    have a := ih (appO l o).1
    have b := opC_le l o
    rw [costF, List.length_cons]
    omega
theorem ScriptCost_l0 (ops : List S121) (hb : OpsB ops) : ∀ (d j : Nat) (s : Int) (l : List S62) (c : Int), j + d = ops.length → 0 ≤ s → s ≤ (j : Int) → l.length ≤ 1099511627776 → (allF l c (ops.drop j)).2.2 = 0 → Ev (fun k => impl_ScriptCost.l0 k s l ops (ops.length : Int) (j : Int) unitD unitD unitR) (s + costF l (ops.drop j)) := by
  have hl := hb.1
  intro d
  induction d with
  | zero =>
    intro j s l c h s0 s1 hm hok
    refine ev_succ ?_
    simp only [impl_ScriptCost.l0]
    rw [List.drop_eq_nil_of_le (by omega)]
    refine ev_neg (by omega) (ev_some ?_)
    rw [costF, Int.add_zero]
  | succ d ih =>
    intro j s l c h s0 s1 hm hok
    refine ev_succ ?_
    simp only [impl_ScriptCost.l0]
    have hp := hb.at (j := j) (by omega)
    rw [drop_op ops j (by omega), allF] at hok
    by_cases hc : (appO l (rd_T121 ops (j : Int))).2 = 0
    · rw [if_pos hc] at hok
      have hal := appO_length l (rd_T121 ops (j : Int)) 1099511627776 (by omega) hm
      refine ev_pos (by omega) (ev_pos (by omega) (ev_pos (by omega) (ev_bind (impl_NodeAt_ev l _ (by omega)) (ev_bind (impl_ApplyOp_ev l _ _ _ _ _ (by omega)) ?_))))
      refine ev_pos hc ?_
      rw [drop_op ops j (by omega), costF, ← Int.add_assoc]
      obtain ⟨ht, i, hin, hn, hgo, hcase⟩ := appO_cases hc
      have hok2 := (treeOk_iff.1 ht).2 i hin
      have hC := opC_le l (rd_T121 ops (j : Int))
      have ihn := ih (j + 1) (s + opC l (rd_T121 ops (j : Int))) _ (c + 1) (by omega) (by omega) (by omega) hal hok
      have e2 : ((j + 1 : Nat) : Int) = (j : Int) + 1 := by omega
      rw [e2] at ihn
      rw [w64 (x := (j : Int) + 1) (by omega) (by omega)]
      have hlb : (rd_T62 l (nodeI l (rd_T121 ops (j : Int)).f1)).f0 = lbA l i := by rw [hn]; rfl
      have hoc : opC l (rd_T121 ops (j : Int)) = if (rd_T121 ops (j : Int)).f0 = 1 then (if lbA l i = (rd_T121 ops (j : Int)).f2 then 0 else 1) else 1 := by unfold opC; rw [hn, Int.toNat_natCast]
      rcases hcase with ⟨k1, hlab, _⟩ | ⟨k2, _, _⟩ | ⟨k3, hlab, _⟩
      · rw [if_pos k1] at hoc
        rw [hoc] at ihn hC ⊢
        refine ev_pos k1 (ev_pos (by omega) (ev_pos (by omega) ?_))
        rw [hlb]
        refine ev_bind (RelCost_unit _ _ hok2.1 hlab) ?_
        rw [w64 (x := s + if lbA l i = (rd_T121 ops (j : Int)).f2 then 0 else 1) (by omega) (by omega)]
        exact ihn
      · rw [if_neg (by omega)] at hoc
        rw [hoc] at ihn hC ⊢
        refine ev_neg (by omega) (ev_pos k2 (ev_pos (by omega) (ev_pos (by omega) ?_)))
        rw [hlb]
        refine ev_bind (DelCost_unit _ hok2.1) ?_
        rw [w64 (x := s + 1) (by omega) (by omega)]
        exact ihn
      · rw [if_neg (by omega)] at hoc
        rw [hoc] at ihn hC ⊢
        refine ev_neg (by omega) (ev_neg (by omega) (ev_bind (InsCost_unit _ hlab) ?_))
        rw [w64 (x := s + 1) (by omega) (by omega)]
        exact ihn
    · rw [if_neg hc] at hok
      exact absurd hok hc
theorem ScriptCost_ev (l : List S62) (ops : List S121) (hb : OpsB ops) (hm : l.length ≤ 1099511627776) (ht : treeOk l = true) (hok : (allF l 0 ops).2.2 = 0) : Ev (fun k => impl_ScriptCost.f k l ops unitD unitD unitR) (costF l ops) := by
  simp only [impl_ScriptCost.f]
  have h1 := impl_TreeOk_ev l
  rw [ht] at h1
  refine ev_bind h1 (ev_pos rfl (ev_bind CostOk_unit (ev_succ ?_)))
  simp only [impl_ScriptCost.j0]
  have := ScriptCost_l0 ops hb ops.length 0 0 l 0 (by omega) (by omega) (by omega) hm hok
  rw [Int.zero_add, List.drop_zero] at this
  exact ev_neg (by decide) (ev_bindc (clone_eq l (by omega)) this)

/-! #### _undo -/
/-- the operation that undoes one that can be done -/
def undoO (l : List S62) (o : S121) : S121 :=
  if o.f0 = 1 then ⟨1, o.f1, lbA l (nodeI l o.f1).toNat, 0, 0⟩
  else if o.f0 = 2 then ⟨3, o.f1.take (o.f1.length - 1), lbA l (nodeI l o.f1).toNat, rd o.f1 ((o.f1.length : Int) - 1), ((Tree.kids l.length (dpA l) (nodeI l o.f1).toNat).length : Int)⟩
  else ⟨2, o.f1 ++ [o.f3], 0, 0, 0⟩
theorem deepF_le (l : List S62) (m : Int) : ∀ (k f : Nat) (d : Int), d ≤ m → (∀ j, f ≤ j → j < f + k → dpA l j + 1 ≤ m) → deepF l k f d ≤ m := by
  intro k
  induction k with
  | zero => intro f d h _; exact h
  | succ k ih =>
    intro f d h1 h2
    rw [deepF]
    refine ih (f + 1) _ ?_ (fun j a b => h2 j (by omega) (by omega))
    have := h2 f (Nat.le_refl _) (by omega)
    unfold mx; omega
theorem appO_of {l X : List S62} {o : S121} {i : Nat} (ht : treeOk l = true) (hi : nodeI l o.f1 = (i : Int)) (hin : i < l.length)
    (h : (o.f0 = 1 ∧ (0 ≤ o.f2 ∧ o.f2 ≤ 5) ∧ X = l.set i ⟨o.f2, dpA l i⟩) ∨
      (o.f0 = 2 ∧ 0 < i ∧ X = l.take i ++ ((l.take (Tree.eo l.length (dpA l) i)).drop (i + 1)).map (upN (-1)) ++ l.drop (Tree.eo l.length (dpA l) i)) ∨
      (o.f0 = 3 ∧ (0 ≤ o.f2 ∧ o.f2 ≤ 5) ∧ (0 ≤ o.f3 ∧ o.f3 ≤ ((Tree.kids l.length (dpA l) i).length : Int) ∧ 0 ≤ o.f4 ∧ o.f4 ≤ ((Tree.kids l.length (dpA l) i).length : Int) - o.f3) ∧ ∃ f t : Nat, (Tree.bounds l.length (dpA l) i).getD o.f3.toNat 0 = f ∧ (Tree.bounds l.length (dpA l) i).getD (o.f3 + o.f4).toNat 0 = t ∧
        (l.length : Int) ≠ 24 ∧ ¬ deepF l (t - f) f (dpA l i + 1) > 12 ∧ X = l.take f ++ [(⟨o.f2, dpA l i + 1⟩ : S62)] ++ ((l.take t).drop f).map (upN 1) ++ l.drop t)) : appO l o = (X, 0) := by
  unfold appO applyT
  rw [if_pos ht, hi]
  rcases h with ⟨k, hl, e⟩ | ⟨k, h0, e⟩ | ⟨k, hl, hb, f, t, hf, htt, h24, hdeep, e⟩
  · have hcode : codeT l o.f0 o.f2 o.f3 o.f4 (i : Int) = (0, 0, 0) := by
      unfold codeT
      rw [if_pos (by omega), if_neg (by omega), if_neg (by omega), if_neg (by omega), if_neg (by omega)]
    rw [hcode, if_pos rfl]
    unfold doneT
    rw [if_pos k, e, Int.toNat_natCast]
  · have hcode : codeT l o.f0 o.f2 o.f3 o.f4 (i : Int) = (0, 0, 0) := by
      unfold codeT
      rw [if_pos (by omega), if_neg (by omega), if_neg (by omega), if_neg (by omega), if_neg (by omega)]
    rw [hcode, if_pos rfl]
    unfold doneT
    rw [if_neg (by omega), if_pos k, e, Int.toNat_natCast]
  · have hcode : codeT l o.f0 o.f2 o.f3 o.f4 (i : Int) = (0, (f : Int), (t : Int)) := by
      unfold codeT
      rw [if_pos (by omega), if_neg (by omega), if_neg (by omega), if_neg (by omega), if_pos k, Int.toNat_natCast, if_pos hb]
      unfold tailT
      rw [if_neg h24, hf, htt, if_neg hdeep]
    rw [hcode, if_pos rfl]
    unfold doneT
    rw [if_neg (by omega), if_neg (by omega), e]
    simp only [Int.toNat_natCast]
theorem nodeI_of {l : List S62} {p : List Int} {i : Nat} (ht : treeOk l = true) (h : Tree.goDown l.length (dpA l) 0 p = some i) : nodeI l p = (i : Int) := by
  unfold nodeI
  rw [if_pos ht, h]
  rfl
/-- undone, the tree is as it was; and it costs the same -/
theorem undo_ok {l : List S62} {o : S121} (h : (appO l o).2 = 0) : appO (appO l o).1 (undoO l o) = (l, 0) ∧ opC (appO l o).1 (undoO l o) = opC l o := by
  obtain ⟨ht, i, hin, hi, hgo, hc⟩ := appO_cases h
  have hv := treeOk_vd ht
  obtain ⟨h24, hat⟩ := treeOk_iff.1 ht
  have hpath := Tree.pathTo_goDown hv o.f1 i hgo
  rcases hc with ⟨k, hl, e⟩ | ⟨k, h0, e⟩ | ⟨k, hl, hb, f, t, hf, htt, hft, hn24, hdeep, e⟩
  · obtain ⟨f1, f2, f3, f4⟩ := rel_facts ht hin hl e
    have hD : dpA (appO l o).1 = dpA l := funext f3
    have hu : undoO l o = ⟨1, o.f1, lbA l i, 0, 0⟩ := by unfold undoO; rw [if_pos k, hi, Int.toNat_natCast]
    have hn : nodeI (appO l o).1 o.f1 = (i : Int) := nodeI_of f4 (by rw [f1, hD]; exact hgo)
    rw [hu]
    constructor
    · refine appO_of f4 hn (by omega) (.inl ⟨rfl, (hat i hin).1, ?_⟩)
      have hset := rel_facts (l := (appO l o).1) (i := i) (lab := lbA l i) f4 (by omega) (hat i hin).1 rfl
      refine nodes_ext (by rw [hset.1, f1]) (fun j hj => ?_) (fun j hj => ?_)
      · rw [hset.2.1 j, f2 j]
        by_cases hji : j = i
        · rw [if_pos hji, hji]
        · rw [if_neg hji, if_neg hji]
      · rw [hset.2.2.1 j, f3 j]
    · unfold opC
      rw [if_pos rfl, if_pos k, hn, hi, Int.toNat_natCast, f2 i, if_pos rfl]
      by_cases he : o.f2 = lbA l i
      · rw [if_pos he, if_pos he.symm]
      · rw [if_neg he, if_neg (fun x => he x.symm)]
  · obtain ⟨f1, f2, f3, f4⟩ := del_facts ht h0 hin e
    obtain ⟨q, hq, hq1, hq2, hq3, hq4, hqk⟩ := Tree.par_spec hv h0 hin
    have hp2 := Tree.pathTo_eq hv h0 hin
    rw [hpath, hq, Int.toNat_natCast] at hp2
    have hrank : Tree.rank l.length (dpA l) i = (Tree.kids l.length (dpA l) q).idxOf i := by unfold Tree.rank; rw [hq, Int.toNat_natCast]
    have hlen : o.f1.length = (Tree.pathTo l.length (dpA l) q).length + 1 := by rw [hp2, List.length_append, List.length_singleton]
    have htake : o.f1.take (o.f1.length - 1) = Tree.pathTo l.length (dpA l) q := by
      rw [hlen, Nat.add_sub_cancel, hp2, List.take_left' rfl]
    have hlast : rd o.f1 ((o.f1.length : Int) - 1) = ((Tree.kids l.length (dpA l) q).idxOf i : Int) := by
      have e1 : ((o.f1.length : Int) - 1).toNat = (Tree.pathTo l.length (dpA l) q).length := by omega
      show o.f1.getD ((o.f1.length : Int) - 1).toNat 0 = _
      rw [e1, hp2, List.getD_eq_getElem?_getD, List.getElem?_append_right (Nat.le_refl _), Nat.sub_self, hrank]
      rfl
    have hu : undoO l o = ⟨3, Tree.pathTo l.length (dpA l) q, lbA l i, ((Tree.kids l.length (dpA l) q).idxOf i : Int), ((Tree.kids l.length (dpA l) i).length : Int)⟩ := by
      unfold undoO
      rw [if_neg (by omega), if_pos k, hi, Int.toNat_natCast, htake, hlast]
    have hv' := treeOk_vd f4
    have hD : dpA (appO l o).1 = Tree.delD (dpA l) i (Tree.eo l.length (dpA l) i) := funext f3
    have hpc : Tree.pathTo l.length (dpA l) q = Tree.pathTo (appO l o).1.length (dpA (appO l o).1) q := by
      refine Tree.pathTo_congr hv hv' q (by omega) (by omega) (fun x hx => ?_)
      rw [hD, Tree.delD_lt (by omega)]
    have hn : nodeI (appO l o).1 (Tree.pathTo l.length (dpA l) q) = (q : Int) := nodeI_of f4 (by rw [hpc]; exact Tree.goDown_pathTo hv' q (by omega))
    have df := Tree.del_from hv h0 hin hqk
    have dt := Tree.del_to hv h0 hin hqk
    rw [← hD, ← f1] at df dt
    have b1 := Tree.bounds_at df.1
    have b2 := Tree.bounds_at dt.1
    rw [df.2] at b1
    rw [dt.2] at b2
    have g := @Tree.eo_gt l.length (dpA l) i
    have le := Tree.eo_le (D := dpA l) hin
    have hdq : dpA (appO l o).1 q = dpA l q := by rw [hD, Tree.delD_lt (by omega)]
    have hdi := (Tree.mem_kids.1 hqk).2.2
    rw [hu]
    constructor
    · refine appO_of f4 hn (by omega) (.inr (.inr ⟨rfl, (hat i hin).1, ⟨by dsimp only; omega, by dsimp only; omega, by dsimp only; omega, by dsimp only; omega⟩, i, Tree.eo l.length (dpA l) i - 1, ?_, ?_, by omega, ?_, ?_⟩))
      · dsimp only
        rw [Int.toNat_natCast]
        exact b1.1
      · dsimp only
        rw [show ((((Tree.kids l.length (dpA l) q).idxOf i : Nat) : Int) + ((Tree.kids l.length (dpA l) i).length : Int)).toNat = (Tree.kids l.length (dpA l) q).idxOf i + (Tree.kids l.length (dpA l) i).length by omega]
        exact b2.1
      · refine Int.not_lt.2 (deepF_le _ _ _ _ _ ?_ (fun j a b => ?_))
        · have := (hat i hin).2.1.2; omega
        · rw [hD, Tree.delD_in a (by omega)]
          have := (hat (j + 1) (by omega)).2.1.2; omega
      · have hX := ins_getD (appO l o).1 (⟨lbA l i, dpA (appO l o).1 q + 1⟩ : S62) i (Tree.eo l.length (dpA l) i - 1) (hft := by omega) (ht := by omega)
        have hid := Tree.ins_del hqk
        rw [← hD] at hid
        refine nodes_ext ?_ (fun j hj => ?_) (fun j hj => ?_)
        · simp only [List.length_append, List.length_map, List.length_drop, List.length_take, List.length_singleton]
          omega
        · show lbA l j = (List.getD _ j z62).f0
          rw [hX j]
          by_cases a : j < i
          · rw [if_pos a]
            have := f2 j
            rw [if_pos a] at this
            exact this.symm
          · rw [if_neg a]
            by_cases b : j = i
            · rw [if_pos b, b]
            · rw [if_neg b]
              have := f2 (j - 1)
              rw [if_neg (by omega), show j - 1 + 1 = j by omega] at this
              split
              · exact this.symm
              · exact this.symm
        · show dpA l j = (List.getD _ j z62).f1
          rw [hX j, ← hid j]
          unfold Tree.insD
          by_cases a : j < i
          · rw [if_pos a, if_pos a]; rfl
          · rw [if_neg a, if_neg a]
            by_cases b : j = i
            · rw [if_pos b, if_pos b]
            · rw [if_neg b, if_neg b]
              split
              · rfl
              · rfl
    · unfold opC
      rw [if_neg (by dsimp only; omega), if_neg (by omega)]
  · have b1 := Tree.bounds_is (n := l.length) (D := dpA l) (i := i) (r := o.f3.toNat) (by omega)
    have b2 := Tree.bounds_is (n := l.length) (D := dpA l) (i := i) (r := (o.f3 + o.f4).toNat) (by omega)
    rw [← hf] at b1
    rw [← htt] at b2
    obtain ⟨f1, f2, f3, f4⟩ := ins_facts ht hin b1.1 b2.1 hft hl hn24 hdeep e
    have hD : dpA (appO l o).1 = Tree.insD (dpA l) i f t := funext f3
    have hv' := treeOk_vd f4
    have hk := Tree.ins_kid hv hin b1.1 b2.1 hft
    rw [b1.2] at hk
    have heo := Tree.ins_eo_new hv hin b1.1 b2.1 hft
    rw [← hD, ← f1] at hk heo
    have lf := Tree.IsB_le b1.1
    have lt := Tree.IsB_le b2.1
    have leo := Tree.eo_le (D := dpA l) hin
    have hfi := b1.1.1
    have hpar := Tree.par_of_kid hk.1
    have hpf := Tree.pathTo_eq hv' (i := f) (by omega) (by omega)
    have hpc : Tree.pathTo l.length (dpA l) i = Tree.pathTo (appO l o).1.length (dpA (appO l o).1) i := by
      refine Tree.pathTo_congr hv hv' i hin (by omega) (fun x hx => ?_)
      rw [hD, Tree.insD_lt (by omega)]
    have hrank : Tree.rank (appO l o).1.length (dpA (appO l o).1) f = o.f3.toNat := by unfold Tree.rank; rw [hpar, Int.toNat_natCast]; exact hk.2
    rw [hpar, Int.toNat_natCast, ← hpc, hpath, hrank, Int.toNat_of_nonneg hb.1] at hpf
    have hu : undoO l o = ⟨2, o.f1 ++ [o.f3], 0, 0, 0⟩ := by
      unfold undoO
      rw [if_neg (by omega), if_neg (by omega)]
    have hn : nodeI (appO l o).1 (o.f1 ++ [o.f3]) = (f : Int) := nodeI_of f4 (by rw [← hpf]; exact Tree.goDown_pathTo hv' f (by omega))
    rw [hu]
    constructor
    · refine appO_of f4 hn (by omega) (.inr (.inl ⟨rfl, by omega, ?_⟩))
      rw [heo]
      have hX := del_getD (appO l o).1 f (t + 1) (hi := by omega) (he := by omega)
      have hdi := Tree.del_ins (D := dpA l) (i := i) (f := f) (e := t)
      rw [← hD] at hdi
      refine nodes_ext ?_ (fun j hj => ?_) (fun j hj => ?_)
      · simp only [List.length_append, List.length_map, List.length_drop, List.length_take]
        omega
      · show lbA l j = (List.getD _ j z62).f0
        rw [hX j]
        by_cases a : j < f
        · rw [if_pos a]
          have := f2 j
          rw [if_pos a] at this
          exact this.symm
        · rw [if_neg a]
          have := f2 (j + 1)
          rw [if_neg (by omega), if_neg (by omega), Nat.add_sub_cancel] at this
          split
          · exact this.symm
          · exact this.symm
      · show dpA l j = (List.getD _ j z62).f1
        rw [hX j, ← hdi j]
        unfold Tree.delD
        by_cases a : j < f
        · rw [if_pos a, if_pos a]; rfl
        · rw [if_neg a, if_neg a]
          by_cases b : j + 1 < t + 1
          · rw [if_pos b, if_pos b]
            show dpA (appO l o).1 (j + 1) - 1 = dpA (appO l o).1 (j + 1) + -1
            omega
          · rw [if_neg b, if_neg b]; rfl
    · unfold opC
      rw [if_neg (by dsimp only; omega), if_neg (by omega)]
/-- the operations that undo a script, one by one in its own order; none where one cannot be done -/
def invF : List S62 → List S121 → Option (List S121)
  | _, [] => some []
  | l, o :: r => if (appO l o).2 = 0 then (invF (appO l o).1 r).map (undoO l o :: ·) else none
def invR (acc : List S121) : Option (List S121) → List S121 × Bool
  | some q => ((acc ++ q).reverse, true)
  | none => ([], false)
noncomputable def invT (l : List S62) (ops : List S121) : List S121 × Bool := if treeOk l = true then invR [] (invF l ops) else ([], false)
theorem invF_all : ∀ (ops : List S121) (l : List S62) (c : Int), (invF l ops = none ↔ (allF l c ops).2.2 ≠ 0) := by
  intro ops
  induction ops with
  | nil => intro l c; simp [invF, allF]
  | cons o r ih =>
    intro l c
    rw [invF, allF]
    by_cases h : (appO l o).2 = 0
    · rw [if_pos h, if_pos h, Option.map_eq_none_iff]
      exact ih _ _
    · rw [if_neg h, if_neg h]
      simpa using h
theorem costF_append (b : List S121) : ∀ (a : List S121) (l : List S62) (c : Int), (allF l c a).2.2 = 0 → costF l (a ++ b) = costF l a + costF (allF l c a).1 b := by
  intro a
  induction a with
  | nil => intro l c _; simp [costF, allF]
  | cons o r ih =>
    intro l c h
    rw [allF] at h
    by_cases hc : (appO l o).2 = 0
    · rw [if_pos hc] at h
      have e : allF l c (o :: r) = allF (appO l o).1 (c + 1) r := by rw [allF, if_pos hc]
      rw [List.cons_append, costF, costF, ih _ _ h, e]
      omega
    · rw [if_neg hc] at h
      exact absurd h hc
theorem undoO_path (l : List S62) (o : S121) : (undoO l o).f1.length ≤ o.f1.length + 1 := by
  unfold undoO
  split
  · dsimp only; omega
  · split
    · dsimp only; rw [List.length_take]; omega
    · dsimp only; rw [List.length_append, List.length_singleton]; omega
theorem invF_back : ∀ (ops q : List S121) (l : List S62), invF l ops = some q → q.length = ops.length ∧ (∀ m : Nat, (∀ o ∈ ops, o.f1.length ≤ m) → ∀ u ∈ q, u.f1.length ≤ m + 1) ∧ ∀ c c', allF (allF l c ops).1 c' q.reverse = (l, c' + (q.length : Int), 0) ∧ costF (allF l c ops).1 q.reverse = costF l ops := by
  intro ops
  induction ops with
  | nil =>
    intro q l h
    simp only [invF, Option.some.injEq] at h
    subst h
    refine ⟨rfl, fun m _ u hu => by simp at hu, fun c c' => ⟨by simp [allF], rfl⟩⟩
  | cons o r ih =>
    intro q l h
    rw [invF] at h
    by_cases hc : (appO l o).2 = 0
    · rw [if_pos hc] at h
      obtain ⟨q', hq, rfl⟩ := Option.map_eq_some_iff.1 h
      obtain ⟨i1, i2, i3⟩ := ih q' _ hq
      obtain ⟨u1, u2⟩ := undo_ok hc
      refine ⟨by simp only [List.length_cons]; omega, fun m hm u hu => ?_, fun c c' => ?_⟩
      · rcases List.mem_cons.1 hu with rfl | hu
        · have := undoO_path l o
          have := hm o List.mem_cons_self
          omega
        · exact i2 m (fun x hx => hm x (List.mem_cons_of_mem _ hx)) u hu
      · obtain ⟨j1, j2⟩ := i3 (c + 1) c'
        have e : allF l c (o :: r) = allF (appO l o).1 (c + 1) r := by rw [allF, if_pos hc]
        rw [e, List.reverse_cons]
        constructor
        · rw [allF_append, j1]
          dsimp only
          rw [if_pos rfl, allF, u1]
          dsimp only
          rw [if_pos rfl, allF]
          simp only [List.length_cons, Prod.mk.injEq, true_and, and_true]
          omega
        · rw [costF_append _ _ _ c' (by rw [j1]), j1, j2]
          dsimp only
          rw [costF, costF, u2, costF]
          omega
    · rw [if_neg hc] at h; cases h

/-! #### impl_undone -/
theorem undone_ev {l : List S62} {o : S121} (h : (appO l o).2 = 0) (hp : (o.f1.length : Int) ≤ 1099511627776) : Ev (fun k => impl_undone.f k l o.f0 o.f1 o.f2 o.f3 o.f4) ((undoO l o).f0, (undoO l o).f1, (undoO l o).f2, (undoO l o).f3, (undoO l o).f4) := by
  obtain ⟨ht, i, hin, hi, hgo, hc⟩ := appO_cases h
  have hlb : (rd_T62 l (i : Int)).f0 = lbA l i := rfl
  simp only [impl_undone.f]
  refine ev_bind (impl_NodeAt_ev l _ (by omega)) ?_
  rw [hi]
  unfold undoO
  rw [hi, Int.toNat_natCast]
  rcases hc with ⟨k, _⟩ | ⟨k, h0, _⟩ | ⟨k, _⟩
  · rw [if_pos k]
    exact ev_pos k (ev_bindc (cloneI_eq _ (by omega)) (ev_pos (by omega) (ev_pos (by omega) (ev_some (by rw [hlb])))))
  · rw [if_neg (by omega), if_pos k]
    have hv := treeOk_vd ht
    have hpath := Tree.pathTo_goDown hv o.f1 i hgo
    have hl := Tree.pathTo_length hv i hin
    rw [hpath] at hl
    have hd := (hv.2.2 i h0 hin).1
    rw [w64 (x := (o.f1.length : Int) - 1) (by omega) (by omega)]
    have e1 : ((o.f1.length : Int) - 1).toNat = o.f1.length - 1 := by omega
    have hk := impl_KidsOf_ev l (i : Int) (by have := (treeOk_iff.1 ht).1; omega)
    rw [kidsI_ok ht hin] at hk
    refine ev_neg (by omega) (ev_pos k (ev_pos (by omega) (ev_pos (by omega) ?_)))
    rw [e1]
    refine ev_bindc (cloneI_eq _ (by rw [List.length_take]; omega)) (ev_pos (by omega) (ev_pos (by omega) (ev_pos (by omega) (ev_bind hk (ev_some ?_)))))
    rw [hlb, List.length_map]
  · rw [if_neg (by omega), if_neg (by omega)]
    refine ev_neg (by omega) (ev_neg (by omega) (ev_bindc (cloneI_eq _ (by omega)) (ev_bindc rfl (ev_pos (by rw [List.length_singleton]; omega) (Ev.now _)))))

/-! #### impl_Invert -/
theorem impl_Invert_l0 (ops : List S121) (hb : OpsB ops) : ∀ (d j : Nat) (l : List S62) (acc : List S121), j + d = ops.length → acc.length ≤ j → l.length ≤ 1099511627776 → Ev (fun k => impl_Invert.l0 k acc l ops (ops.length : Int) (j : Int)) (invR acc (invF l (ops.drop j))) := by
  have hl := hb.1
  intro d
  induction d with
  | zero =>
    intro j l acc h ha hm
    refine ev_succ ?_
    simp only [impl_Invert.l0]
    rw [List.drop_eq_nil_of_le (by omega)]
    refine ev_neg (by omega) (ev_some ?_)
    simp [invF, invR]
  | succ d ih =>
    intro j l acc h ha hm
    refine ev_succ ?_
    simp only [impl_Invert.l0]
    have hp := hb.at (j := j) (by omega)
    have hal := appO_length l (rd_T121 ops (j : Int)) 1099511627776 (by omega) hm
    refine ev_pos (by omega) (ev_pos (by omega) (ev_pos (by omega) (ev_bind (impl_ApplyOp_ev l _ _ _ _ _ (by omega)) ?_)))
    rw [drop_op ops j (by omega), invF]
    by_cases hc : (appO l (rd_T121 ops (j : Int))).2 = 0
    · rw [if_pos hc]
      refine ev_pos hc (ev_bind (undone_ev hc hp) (ev_pos (by omega) ?_))
      rw [w64 (x := (j : Int) + 1) (by omega) (by omega)]
      have := ih (j + 1) (appO l (rd_T121 ops (j : Int))).1 (acc ++ [undoO l (rd_T121 ops (j : Int))]) (by omega) (by simp only [List.length_append, List.length_singleton]; omega) hal
      refine ev_eq this ?_
      cases invF (appO l (rd_T121 ops (j : Int))).1 (ops.drop (j + 1)) with
      | none => rfl
      | some q => simp only [invR, Option.map_some, List.append_assoc, List.singleton_append]
    · rw [if_neg hc]
      exact ev_neg hc (Ev.now _)
theorem impl_Invert_ev (l : List S62) (ops : List S121) (hb : OpsB ops) (hm : l.length ≤ 1099511627776) : Ev (fun k => impl_Invert.f k l ops) (invT l ops) := by
  simp only [impl_Invert.f, Option.bind_some]
  refine ev_bind (impl_TreeOk_ev l) ?_
  unfold invT
  by_cases ht : treeOk l = true
  · rw [if_pos ht]
    exact ev_pos ht (impl_Invert_l0 ops hb ops.length 0 l [] (by omega) (by simp) hm)
  · rw [if_neg ht]
    exact ev_neg ht (Ev.now _)

/-! #### spec_ApplyAll -/
theorem spec_ApplyAll_l0 (ops : List S121) (hb : OpsB ops) : ∀ (d j : Nat) (l : List S62), j + d = ops.length → l.length ≤ 1099511627776 → Ev (fun k => spec_ApplyAll.l0 k ops l (j : Int)) (allF l (j : Int) (ops.drop j)) := by
  have hl := hb.1
  intro d
  induction d with
  | zero =>
    intro j l h hm
    refine ev_succ ?_
    simp only [spec_ApplyAll.l0]
    rw [List.drop_eq_nil_of_le (by omega)]
    refine ev_neg (by omega) (ev_some ?_)
    have e : j = ops.length := by omega
    rw [allF, e]
  | succ d ih =>
    intro j l h hm
    refine ev_succ ?_
    simp only [spec_ApplyAll.l0]
    have hp := hb.at (j := j) (by omega)
    refine ev_pos (by omega) (ev_pos (by omega) (ev_bind (spec_ApplyOp_ev l _ _ _ _ _ (by omega) (by omega)) ?_))
    rw [drop_op ops j (by omega), allF]
    by_cases hc : (appO l (rd_T121 ops (j : Int))).2 = 0
    · rw [if_pos hc]
      refine ev_pos hc ?_
      rw [w64 (x := (j : Int) + 1) (by omega) (by omega)]
      exact ih (j + 1) _ (by omega) (appO_length l _ _ (by omega) hm)
    · rw [if_neg hc]
      exact ev_neg hc (Ev.now _)
theorem spec_ApplyAll_ev (l : List S62) (ops : List S121) (hb : OpsB ops) (hm : l.length ≤ 1099511627776) : Ev (fun k => spec_ApplyAll.f k l ops) (allT l ops) := by
  simp only [spec_ApplyAll.f]
  refine ev_bind (spec_TreeOk_ev l (by omega)) ?_
  unfold allT
  by_cases ht : treeOk l = true
  · rw [if_pos ht]
    exact ev_pos ht (ev_bindc (l3Copy_eq l (by omega)) (spec_ApplyAll_l0 ops hb ops.length 0 l (by omega) hm))
  · rw [if_neg ht]
    exact ev_neg ht (Ev.now _)

/-! #### impl_ApplyAll -/
theorem impl_ApplyAll_l0 (ops : List S121) (hb : OpsB ops) : ∀ (d j : Nat) (l : List S62), j + d = ops.length → Ev (fun k => impl_ApplyAll.l0 k ops l ops (ops.length : Int) (j : Int)) (allF l (j : Int) (ops.drop j)) := by
  have hl := hb.1
  intro d
  induction d with
  | zero =>
    intro j l h
    refine ev_succ ?_
    simp only [impl_ApplyAll.l0]
    rw [List.drop_eq_nil_of_le (by omega)]
    refine ev_neg (by omega) (ev_some ?_)
    have e : j = ops.length := by omega
    rw [allF, e]
  | succ d ih =>
    intro j l h
    refine ev_succ ?_
    simp only [impl_ApplyAll.l0]
    have hp := hb.at (j := j) (by omega)
    refine ev_pos (by omega) (ev_pos (by omega) (ev_pos (by omega) (ev_bind (impl_ApplyOp_ev l _ _ _ _ _ (by omega)) ?_)))
    rw [drop_op ops j (by omega), allF]
    by_cases hc : (appO l (rd_T121 ops (j : Int))).2 = 0
    · rw [if_pos hc]
      refine ev_pos hc ?_
      rw [w64 (x := (j : Int) + 1) (by omega) (by omega)]
      exact ih (j + 1) _ (by omega)
    · rw [if_neg hc]
      exact ev_neg hc (Ev.now _)
theorem impl_ApplyAll_ev (l : List S62) (ops : List S121) (hb : OpsB ops) (hm : l.length ≤ 1099511627776) : Ev (fun k => impl_ApplyAll.f k l ops) (allT l ops) := by
  simp only [impl_ApplyAll.f]
  refine ev_bind (impl_TreeOk_ev l) ?_
  unfold allT
  by_cases ht : treeOk l = true
  · rw [if_pos ht]
    exact ev_pos ht (ev_bindc (clone_eq l (by omega)) (impl_ApplyAll_l0 ops hb ops.length 0 l (by omega)))
  · rw [if_neg ht]
    exact ev_neg ht (Ev.now _)

/-! #### spec_UnitCost -/
theorem UnitCost_l1 {r : List Int × List Int × List Int} (i i' : Int) (hi : wrap64 (i + 1) = i') (a b : List Int) : ∀ (d j : Nat) (c : List Int), j + d = 6 → c.length + d ≤ 100 → Ev (fun k => spec_UnitCost.l0 k i' a b (c ++ (List.range' j d).map (fun x : Nat => if i = (x : Int) then (0 : Int) else 1))) r → Ev (fun k => spec_UnitCost.l1 k i (j : Int) a b c) r := by
  intro d
  induction d with
  | zero =>
    intro j c h hc hr
    refine ev_succ ?_
    simp only [spec_UnitCost.l1]
    rw [hi]
    refine ev_neg (by omega) ?_
    simpa using hr
  | succ d ih =>
    intro j c h hc hr
    refine ev_succ ?_
    simp only [spec_UnitCost.l1]
    rw [List.range'_succ, List.map_cons] at hr
    rw [w64 (x := (j : Int) + 1) (by omega) (by omega)]
    refine ev_pos (by omega) ?_
    by_cases he : i = (j : Int)
    · rw [if_pos he] at hr
      refine ev_pos he (ev_pos (by omega) (ih (j + 1) _ (by omega) ?_ ?_))
      · rw [List.length_append, List.length_singleton]; omega
      · rw [List.append_assoc, List.singleton_append]; exact hr
    · rw [if_neg he] at hr
      refine ev_neg he (ev_pos (by omega) (ih (j + 1) _ (by omega) ?_ ?_))
      · rw [List.length_append, List.length_singleton]; omega
      · rw [List.append_assoc, List.singleton_append]; exact hr
theorem UnitCost_ev : Ev (fun k => spec_UnitCost.f k) (unitD, unitD, unitR) := by
  simp only [spec_UnitCost.f]
  refine ev_succ ?_
  simp only [spec_UnitCost.l0]
  refine ev_pos (by decide) (ev_pos (by decide) (ev_pos (by decide) (UnitCost_l1 0 1 (by unfold wrap64; omega) _ _ 6 0 _ (by decide) (by decide) ?_)))
  refine ev_succ ?_
  simp only [spec_UnitCost.l0]
  refine ev_pos (by decide) (ev_pos (by decide) (ev_pos (by decide) (UnitCost_l1 1 2 (by unfold wrap64; omega) _ _ 6 0 _ (by decide) (by decide) ?_)))
  refine ev_succ ?_
  simp only [spec_UnitCost.l0]
  refine ev_pos (by decide) (ev_pos (by decide) (ev_pos (by decide) (UnitCost_l1 2 3 (by unfold wrap64; omega) _ _ 6 0 _ (by decide) (by decide) ?_)))
  refine ev_succ ?_
  simp only [spec_UnitCost.l0]
  refine ev_pos (by decide) (ev_pos (by decide) (ev_pos (by decide) (UnitCost_l1 3 4 (by unfold wrap64; omega) _ _ 6 0 _ (by decide) (by decide) ?_)))
  refine ev_succ ?_
  simp only [spec_UnitCost.l0]
  refine ev_pos (by decide) (ev_pos (by decide) (ev_pos (by decide) (UnitCost_l1 4 5 (by unfold wrap64; omega) _ _ 6 0 _ (by decide) (by decide) ?_)))
  refine ev_succ ?_
  simp only [spec_UnitCost.l0]
  refine ev_pos (by decide) (ev_pos (by decide) (ev_pos (by decide) (UnitCost_l1 5 6 (by unfold wrap64; omega) _ _ 6 0 _ (by decide) (by decide) ?_)))
  refine ev_succ ?_
  simp only [spec_UnitCost.l0]
  exact ev_neg (by decide) (ev_some rfl)

end Go.Proofs.Ytdapeboajjidmab.QFnInverted
