/- What the printed functions of the law FnExactMedian come to, function by function, from some number of rounds on; each under the bounds that it names. -/
import Derived.Test.YtbmkobanpakohaaQFnExactMediana
namespace Go.Proofs.Ytbmkobanpakohaa.QFnExactMedian
open Go.RowKit Go.Proofs.Ytbmkobanpakohaa.PFnExactMedian Go.Proofs.YtbmkobanpakohaaW.PrintWords Go.Proofs.YtbmkobanpakohaaW.PrintLast Go.Proofs.YtbmkobanpakohaaW.PrintMore Go.Proofs.Ytbmkobanpakohaa.EvAid Go.Proofs.Ytbmkobanpakohaa
set_option linter.unusedVariables false
set_option linter.unusedSimpArgs false

/-! #### _ranks -/
/-- each node's place; the first place under each; the labels in turn -/
def rankI (l : List S61) : List Int := if treeOk l = true then (List.range l.length).map (fun j => (Tree.rnk l.length (dpA l) j : Int)) else []
def leafI (l : List S61) : List Int := if treeOk l = true then (pol l).map (fun j => (Tree.lft (dpA l) j : Int)) else []
def labI (l : List S61) : List Int := if treeOk l = true then (pol l).map (lbA l) else []
theorem rankI_len {l : List S61} (h : treeOk l = true) : (rankI l).length = l.length := by unfold rankI; rw [if_pos h, List.length_map, List.length_range]
theorem leafI_len {l : List S61} (h : treeOk l = true) : (leafI l).length = l.length := by unfold leafI; rw [if_pos h, List.length_map, pol_len h]
theorem labI_len {l : List S61} (h : treeOk l = true) : (labI l).length = l.length := by unfold labI; rw [if_pos h, List.length_map, pol_len h]
theorem rd_map {α : Type} (p : List α) (f : α → Int) (k : Nat) (d : α) (hk : k < p.length) : rd (p.map f) (k : Int) = f (p.getD k d) := by
  show (p.map f).getD (k : Int).toNat _ = _
  rw [Int.toNat_natCast, List.getD_eq_getElem?_getD, List.getD_eq_getElem?_getD, List.getElem?_map, List.getElem?_eq_getElem hk]
  rfl
theorem rd_rank {l : List S61} (h : treeOk l = true) {j : Nat} (hj : j < l.length) : rd (rankI l) (j : Int) = (Tree.rnk l.length (dpA l) j : Int) := by
  unfold rankI
  rw [if_pos h, rd_map _ _ j 0 (by simpa using hj), List.getD_eq_getElem?_getD, List.getElem?_range hj]
  rfl
theorem rd_post {l : List S61} (h : treeOk l = true) (k : Nat) : rd (postI l) (k : Int) = ((pol l).getD k 0 : Nat) := by rw [postI_ok h, rd_ofNat]
theorem rd_leaf {l : List S61} (h : treeOk l = true) {k : Nat} (hk : k < l.length) : rd (leafI l) (k : Int) = (Tree.lft (dpA l) ((pol l).getD k 0) : Int) := by
  unfold leafI
  rw [if_pos h, rd_map _ _ k 0 (by rw [pol_len h]; exact hk)]
theorem rd_lab {l : List S61} (h : treeOk l = true) {k : Nat} (hk : k < l.length) : rd (labI l) (k : Int) = lbA l ((pol l).getD k 0) := by
  unfold labI
  rw [if_pos h, rd_map _ _ k 0 (by rw [pol_len h]; exact hk)]
def rkTo (l : List S61) (t : Nat) : List Int := (List.range l.length).map (fun j => if Tree.rnk l.length (dpA l) j < t then (Tree.rnk l.length (dpA l) j : Int) else 0)
theorem rkTo_len (l : List S61) (t : Nat) : (rkTo l t).length = l.length := by unfold rkTo; rw [List.length_map, List.length_range]
theorem rkTo_zero (l : List S61) : List.replicate l.length 0 = rkTo l 0 := by
  unfold rkTo
  apply List.ext_getElem
  · simp
  · intro j h1 h2; simp
theorem rkTo_end {l : List S61} (h : treeOk l = true) : rkTo l l.length = rankI l := by
  unfold rkTo rankI
  rw [if_pos h]
  refine List.map_congr_left (fun j hj => ?_)
  rw [if_pos (Tree.rnk_lt (treeOk_vd h) (List.mem_range.1 hj))]
theorem rkTo_step {l : List S61} (h : treeOk l = true) {t : Nat} (ht : t < l.length) : (rkTo l t).set ((pol l).getD t 0) (t : Int) = rkTo l (t + 1) := by
  obtain ⟨h1, h2⟩ := (pol_order h).at_ ht
  unfold rkTo
  apply List.ext_getElem
  · simp
  · intro j g1 g2
    have hj : j < l.length := by simpa using g2
    rw [List.getElem_set]
    simp only [List.getElem_map, List.getElem_range]
    by_cases e : (pol l).getD t 0 = j
    · rw [if_pos e]
      rw [e] at h2
      rw [if_pos (by omega), h2]
    · rw [if_neg e]
      have h3 : Tree.rnk l.length (dpA l) j ≠ t := fun c => e (Tree.rnk_inj (treeOk_vd h) h1 hj (by rw [h2, c]))
      by_cases c : Tree.rnk l.length (dpA l) j < t
      · rw [if_pos c, if_pos (by omega)]
      · rw [if_neg c, if_neg (by omega)]
theorem spec_RankOf_ev (l : List S61) (hm : (l.length : Int) ≤ 9223372036854775806) : Ev (fun k => spec_RankOf.f k l) (rankI l) := by
  simp only [spec_RankOf.f]
  refine ev_bind (spec_PostOrder_ev l hm) ?_
  by_cases h : treeOk l = true
  · have hb := (treeOk_iff.1 h).1
    have hl := postI_len h
    refine ev_pos (by omega) (ev_pos (by omega) ?_)
    rw [hl, Int.toNat_natCast, rkTo_zero, ← rkTo_end h]
    have key : ∀ d t, t + d = l.length → Ev (fun k => spec_RankOf.l0 k (postI l) (rkTo l t) (t : Int)) (rkTo l l.length) := by
      intro d
      induction d with
      | zero =>
        intro t ht
        refine ev_succ ?_
        simp only [spec_RankOf.l0]
        exact ev_neg (by omega) (ev_some (by rw [show t = l.length by omega]))
      | succ d ih =>
        intro t ht
        have h2 := ih (t + 1) (by omega)
        have h3 := (pol_order h).at_ (show t < l.length by omega)
        refine ev_succ ?_
        simp only [spec_RankOf.l0]
        rw [rd_post h, Int.toNat_natCast, rkTo_step h (by omega), rkTo_len]
        have e0 : wrap64 ((t : Int) + 1) = ((t + 1 : Nat) : Int) := by rw [w64 (by omega) (by omega)]; omega
        rw [e0]
        clear e0
        exact ev_pos (by omega) (ev_pos (by omega) (ev_pos (by omega) (ev_pos (by omega) h2)))
    exact key l.length 0 (by omega)
  · have e1 : postI l = [] := if_neg h
    have e2 : rankI l = [] := if_neg h
    rw [e1, e2]
    refine ev_pos (by simp) (ev_pos (by simp) (ev_succ ?_))
    simp only [spec_RankOf.l0]
    exact ev_neg (by simp) (Ev.now _)
theorem impl_RankOf_ev (l : List S61) : Ev (fun k => impl_RankOf.f k l) (rankI l) := by
  simp only [impl_RankOf.f]
  refine ev_bind (impl_PostOrder_ev l) ?_
  by_cases h : treeOk l = true
  · have hb := (treeOk_iff.1 h).1
    have hl := postI_len h
    refine ev_pos (by omega) (ev_pos (by omega) ?_)
    rw [hl, Int.toNat_natCast, rkTo_zero, ← rkTo_end h]
    have key : ∀ d t, t + d = l.length → Ev (fun k => impl_RankOf.l0 k (rkTo l t) (postI l) (l.length : Int) (t : Int)) (rkTo l l.length) := by
      intro d
      induction d with
      | zero =>
        intro t ht
        refine ev_succ ?_
        simp only [impl_RankOf.l0]
        exact ev_neg (by omega) (ev_some (by rw [show t = l.length by omega]))
      | succ d ih =>
        intro t ht
        have h2 := ih (t + 1) (by omega)
        have h3 := (pol_order h).at_ (show t < l.length by omega)
        refine ev_succ ?_
        simp only [impl_RankOf.l0]
        rw [rd_post h, Int.toNat_natCast, rkTo_step h (by omega), rkTo_len]
        have e0 : wrap64 ((t : Int) + 1) = ((t + 1 : Nat) : Int) := by rw [w64 (by omega) (by omega)]; omega
        rw [e0]
        clear e0
        exact ev_pos (by omega) (ev_pos (by omega) (ev_pos (by omega) (ev_pos (by omega) (ev_pos (by omega) h2))))
    exact key l.length 0 (by omega)
  · have e1 : postI l = [] := if_neg h
    have e2 : rankI l = [] := if_neg h
    rw [e1, e2]
    refine ev_pos (by simp) (ev_pos (by simp) (ev_succ ?_))
    simp only [impl_RankOf.l0]
    exact ev_neg (by simp) (Ev.now _)
theorem take_map_succ {α β : Type} (p : List α) (f : α → β) (t : Nat) (d : α) (ht : t < p.length) : (p.take t).map f ++ [f (p.getD t d)] = (p.take (t + 1)).map f := by
  rw [List.take_add_one, List.map_append, List.getD_eq_getElem?_getD, List.getElem?_eq_getElem ht]
  rfl
theorem impl_LeftLeaf_ev (l : List S61) : Ev (fun k => impl_LeftLeaf.f k l) (leafI l) := by
  simp only [impl_LeftLeaf.f]
  refine ev_bind (impl_RankOf_ev l) (ev_bind (impl_PostOrder_ev l) ?_)
  by_cases h : treeOk l = true
  · have hv := treeOk_vd h
    have hb := (treeOk_iff.1 h).1
    have hl := postI_len h
    have hr := rankI_len h
    have hp := pol_len h
    have e : leafI l = ((pol l).take l.length).map (fun j => (Tree.lft (dpA l) j : Int)) := by unfold leafI; rw [if_pos h, ← hp, List.take_length]
    rw [hl, e]
    have key : ∀ d t, t + d = l.length → Ev (fun k => impl_LeftLeaf.l0 k l (((pol l).take t).map (fun j => (Tree.lft (dpA l) j : Int))) (rankI l) (postI l) (l.length : Int) (t : Int)) (((pol l).take l.length).map (fun j => (Tree.lft (dpA l) j : Int))) := by
      intro d
      induction d with
      | zero =>
        intro t ht
        refine ev_succ ?_
        simp only [impl_LeftLeaf.l0]
        exact ev_neg (by omega) (ev_some (by rw [show t = l.length by omega]))
      | succ d ih =>
        intro t ht
        have h2 := ih (t + 1) (by omega)
        have h3 := (pol_order h).at_ (show t < l.length by omega)
        rw [← take_map_succ (pol l) (fun j => (Tree.lft (dpA l) j : Int)) t 0 (by omega)] at h2
        have h4 := endOf_ev l _ h3.1 hb.2
        have g1 := Tree.eo_gt (n := l.length) (D := dpA l) (i := (pol l).getD t 0)
        have g2 := Tree.eo_le (n := l.length) (D := dpA l) h3.1
        have g3 := Tree.dep_le hv _ h3.1
        have g4 := h3.2
        refine ev_succ ?_
        simp only [impl_LeftLeaf.l0]
        rw [rd_post h, rd_rank h h3.1]
        have hlen : (((pol l).take t).map (fun j => (Tree.lft (dpA l) j : Int))).length ≤ 24 := by rw [List.length_map, List.length_take]; omega
        refine ev_pos (by omega) (ev_pos (by omega) (ev_pos (by omega) (ev_pos (by omega) (ev_pos (by omega) (ev_bind h4 (ev_pos (by omega) ?_))))))
        have e1 : wrap64 ((Tree.rnk l.length (dpA l) ((pol l).getD t 0) : Int) - wrap64 (wrap64 ((Tree.eo l.length (dpA l) ((pol l).getD t 0) : Int) - ((pol l).getD t 0 : Nat)) - 1)) = (Tree.lft (dpA l) ((pol l).getD t 0) : Int) := by
          unfold Tree.rnk Tree.lft
          rw [w64 (x := (Tree.eo l.length (dpA l) ((pol l).getD t 0) : Int) - ((pol l).getD t 0 : Nat)) (by omega) (by omega), w64 (x := (Tree.eo l.length (dpA l) ((pol l).getD t 0) : Int) - ((pol l).getD t 0 : Nat) - 1) (by omega) (by omega), w64 (by omega) (by omega)]
          omega
        have e0 : wrap64 ((t : Int) + 1) = ((t + 1 : Nat) : Int) := by rw [w64 (by omega) (by omega)]; omega
        rw [e0, e1]
        exact h2
    exact key l.length 0 (by omega)
  · have e1 : postI l = [] := if_neg h
    have e2 : leafI l = [] := if_neg h
    rw [e1, e2]
    refine ev_succ ?_
    simp only [impl_LeftLeaf.l0]
    exact ev_neg (by simp) (Ev.now _)
theorem spec_LeftLeaf_ev (l : List S61) (hm : (l.length : Int) ≤ 9223372036854775806) : Ev (fun k => spec_LeftLeaf.f k l) (leafI l) := by
  simp only [spec_LeftLeaf.f]
  refine ev_bind (spec_PostOrder_ev l hm) (ev_bind (spec_RankOf_ev l hm) ?_)
  by_cases h : treeOk l = true
  · have hv := treeOk_vd h
    have hb := (treeOk_iff.1 h).1
    have hl := postI_len h
    have hr := rankI_len h
    have hp := pol_len h
    have e : leafI l = ((pol l).take l.length).map (fun j => (Tree.lft (dpA l) j : Int)) := by unfold leafI; rw [if_pos h, ← hp, List.take_length]
    rw [e]
    have key : ∀ d t, t + d = l.length → Ev (fun k => spec_LeftLeaf.l0 k l (((pol l).take t).map (fun j => (Tree.lft (dpA l) j : Int))) (postI l) (rankI l) (t : Int)) (((pol l).take l.length).map (fun j => (Tree.lft (dpA l) j : Int))) := by
      intro d
      induction d with
      | zero =>
        intro t ht
        refine ev_succ ?_
        simp only [spec_LeftLeaf.l0]
        exact ev_neg (by omega) (ev_some (by rw [show t = l.length by omega]))
      | succ d ih =>
        intro t ht
        have h2 := ih (t + 1) (by omega)
        obtain ⟨h3, h4⟩ := (pol_order h).at_ (show t < l.length by omega)
        rw [← take_map_succ (pol l) (fun j => (Tree.lft (dpA l) j : Int)) t 0 (by omega)] at h2
        obtain ⟨i, hi⟩ : ∃ i, i = (pol l).getD t 0 := ⟨_, rfl⟩
        rw [← hi] at h2 h3 h4
        have hh : hasB l (i : Int) = true := hasB_iff.2 ⟨h, by omega, by omega⟩
        have h5 := spec_EndOf_ev l (i : Int) hm
        have e5 : endI l (i : Int) = (Tree.eo l.length (dpA l) i : Int) := by unfold endI; rw [if_pos hh, Int.toNat_natCast]
        rw [e5] at h5
        have g1 := Tree.eo_gt (n := l.length) (D := dpA l) (i := i)
        have g2 := Tree.eo_le (n := l.length) (D := dpA l) h3
        have g3 := Tree.dep_le hv _ h3
        refine ev_succ ?_
        simp only [spec_LeftLeaf.l0]
        have hlen : (((pol l).take t).map (fun j => (Tree.lft (dpA l) j : Int))).length ≤ 24 := by rw [List.length_map, List.length_take]; omega
        refine ev_pos (by omega) (ev_pos (by omega) ?_)
        rw [rd_post h, ← hi]
        have down : ∀ f s, i + s < Tree.eo l.length (dpA l) i → Tree.eo l.length (dpA l) i ≤ i + s + f → dpA l (i + s) = dpA l i + (s : Int) → Ev (fun k => spec_LeftLeaf.l1 k l (((pol l).take t).map (fun j => (Tree.lft (dpA l) j : Int))) (postI l) (rankI l) (t : Int) ((i + s : Nat) : Int)) (((pol l).take l.length).map (fun j => (Tree.lft (dpA l) j : Int))) := by
          intro f
          induction f with
          | zero => intro s a b; omega
          | succ f ihf =>
            intro s a b c
            refine ev_succ ?_
            simp only [spec_LeftLeaf.l1]
            rw [rd_post h, ← hi]
            have e6 : wrap64 (((i + s : Nat) : Int) + 1) = ((i + s + 1 : Nat) : Int) := by rw [w64 (by omega) (by omega)]; omega
            have e0 : wrap64 ((t : Int) + 1) = ((t + 1 : Nat) : Int) := by rw [w64 (by omega) (by omega)]; omega
            rw [e6, e0, rd_f1, rd_f1]
            clear e6 e0
            have dr := dp_range h (show i + s < l.length by omega)
            have e7 : wrap64 (dpA l (i + s) + 1) = dpA l (i + s) + 1 := w64 (by omega) (by omega)
            rw [e7]
            clear e7
            have stop : ¬ (i + s + 1 < Tree.eo l.length (dpA l) i ∧ dpA l (i + s + 1) = dpA l (i + s) + 1) → rd (rankI l) ((i + s : Nat) : Int) = (Tree.lft (dpA l) i : Int) := fun c2 => by
              rw [rd_rank h (by omega), Tree.leaf_rnk hv h3 a c c2]
            refine ev_pos (by omega) (ev_pos (by omega) (ev_bind h5 ?_))
            by_cases c1 : i + s + 1 < Tree.eo l.length (dpA l) i
            · refine ev_pos (by omega) (ev_pos (by omega) (ev_pos (by omega) (ev_pos (by omega) (ev_pos (by omega) ?_))))
              by_cases c2 : dpA l (i + s + 1) = dpA l (i + s) + 1
              · refine ev_pos c2 ?_
                exact ihf (s + 1) (by omega) (by omega) (by rw [← Nat.add_assoc, c2, c]; omega)
              · rw [stop (fun x => c2 x.2)]
                exact ev_neg c2 (ev_pos (by omega) (ev_pos (by omega) h2))
            · rw [stop (fun x => c1 x.1)]
              exact ev_neg (by omega) (ev_pos (by omega) (ev_pos (by omega) (ev_pos (by omega) h2)))
        exact down (Tree.eo l.length (dpA l) i) 0 (by omega) (by omega) (by simp)
    exact key l.length 0 (by omega)
  · have e1 : postI l = [] := if_neg h
    have e2 : leafI l = [] := if_neg h
    rw [e1, e2]
    refine ev_succ ?_
    simp only [spec_LeftLeaf.l0]
    exact ev_neg (by simp) (Ev.now _)
theorem spec_l8Labels_ev (l : List S61) (hm : (l.length : Int) ≤ 9223372036854775806) : Ev (fun k => spec_l8Labels.f k l) (labI l) := by
  simp only [spec_l8Labels.f]
  refine ev_bind (spec_PostOrder_ev l hm) ?_
  by_cases h : treeOk l = true
  · have hb := (treeOk_iff.1 h).1
    have hl := postI_len h
    have hp := pol_len h
    have e : labI l = ((pol l).take l.length).map (lbA l) := by unfold labI; rw [if_pos h, ← hp, List.take_length]
    rw [e]
    have key : ∀ d t, t + d = l.length → Ev (fun k => spec_l8Labels.l0 k l (((pol l).take t).map (lbA l)) (postI l) (t : Int)) (((pol l).take l.length).map (lbA l)) := by
      intro d
      induction d with
      | zero =>
        intro t ht
        refine ev_succ ?_
        simp only [spec_l8Labels.l0]
        exact ev_neg (by omega) (ev_some (by rw [show t = l.length by omega]))
      | succ d ih =>
        intro t ht
        have h2 := ih (t + 1) (by omega)
        obtain ⟨h3, h4⟩ := (pol_order h).at_ (show t < l.length by omega)
        rw [← take_map_succ (pol l) (lbA l) t 0 (by omega)] at h2
        have hlen : (((pol l).take t).map (lbA l)).length ≤ 24 := by rw [List.length_map, List.length_take]; omega
        refine ev_succ ?_
        simp only [spec_l8Labels.l0]
        rw [rd_post h, rd_f0]
        have e0 : wrap64 ((t : Int) + 1) = ((t + 1 : Nat) : Int) := by rw [w64 (by omega) (by omega)]; omega
        rw [e0]
        clear e0
        exact ev_pos (by omega) (ev_pos (by omega) (ev_pos (by omega) (ev_pos (by omega) (ev_pos (by omega) h2))))
    exact key l.length 0 (by omega)
  · have e1 : postI l = [] := if_neg h
    have e2 : labI l = [] := if_neg h
    rw [e1, e2]
    refine ev_succ ?_
    simp only [spec_l8Labels.l0]
    exact ev_neg (by simp) (Ev.now _)

/-! #### _costB -/
/-- costs are in range, and keeping a label is free -/
def costB (D I R : List Int) : Bool := (decide (D.length = 6) && D.all inPrice) && (decide (I.length = 6) && I.all inPrice) && (decide (R.length = 36) && R.all inPrice) && decide (∀ a : Nat, a < 6 → rd R ((a * 6 + a : Nat) : Int) = 0)
theorem costB_iff {D I R : List Int} : costB D I R = true ↔ (D.length = 6 ∧ D.all inPrice = true) ∧ (I.length = 6 ∧ I.all inPrice = true) ∧ (R.length = 36 ∧ R.all inPrice = true) ∧ ∀ a : Nat, a < 6 → rd R ((a * 6 + a : Nat) : Int) = 0 := by
  simp only [costB, Bool.and_eq_true, decide_eq_true_eq]
  constructor
  · rintro ⟨⟨⟨a, b⟩, c⟩, d⟩; exact ⟨a, b, c, d⟩
  · rintro ⟨a, b, c, d⟩; exact ⟨⟨⟨a, b⟩, c⟩, d⟩
theorem price_at {p : List Int} (h : p.all inPrice = true) (j : Int) : 0 ≤ rd p j ∧ rd p j ≤ 1000 := by
  have h0 : ∀ x, x ∈ p → 0 ≤ x ∧ x ≤ 1000 := fun x hx => by
    have := List.all_eq_true.1 h x hx
    simpa [inPrice] using this
  show 0 ≤ p.getD j.toNat 0 ∧ p.getD j.toNat 0 ≤ 1000
  rw [List.getD_eq_getElem?_getD]
  cases e : p[j.toNat]? with
  | none => simp
  | some x => exact h0 x (List.mem_of_getElem? e)
theorem l7In_l0 (p : List Int) (hp : (p.length : Int) ≤ 9223372036854775806) (n : Int) : ∀ (d i : Nat), i + d = p.length → Ev (fun k => spec_l7In.l0 k p n (i : Int)) (decide ((p.length : Int) = n) && (p.drop i).all inPrice) := by
  intro d
  induction d with
  | zero =>
    intro i h
    refine ev_succ ?_
    simp only [spec_l7In.l0]
    refine ev_neg (by omega) (ev_some ?_)
    rw [List.drop_eq_nil_of_le (by omega)]
    simp only [List.all_nil, Bool.and_true]
    rfl
  | succ d ih =>
    intro i h
    have hi : i < p.length := by omega
    have e : rd p (i : Int) = p[i] := by simp [rd, hi]
    have h2 := ih (i + 1) (by omega)
    refine ev_succ ?_
    simp only [spec_l7In.l0]
    have e0 : wrap64 ((i : Int) + 1) = ((i + 1 : Nat) : Int) := by rw [w64 (by omega) (by omega)]; omega
    rw [e0, e, all_drop p inPrice i hi]
    clear e0
    refine ev_pos (by omega) (ev_pos (by omega) (ev_bindc (l1In_eq _ _ _) ?_))
    by_cases c : inPrice p[i] = true
    · rw [c, Bool.true_and]
      exact ev_pos c h2
    · have c' : inPrice p[i] = false := by simpa using c
      rw [c', Bool.false_and, Bool.and_false]
      exact ev_neg c (Ev.now _)
theorem l7In_ev (p : List Int) (hp : (p.length : Int) ≤ 9223372036854775806) (n : Int) : Ev (fun k => spec_l7In.f k p n) (decide ((p.length : Int) = n) && p.all inPrice) := l7In_l0 p hp n p.length 0 (by omega)
def diagFrom (R : List Int) (i : Nat) : Bool := decide (∀ a : Nat, a < 6 → i ≤ a → rd R ((a * 6 + a : Nat) : Int) = 0)
theorem diag_step (R : List Int) (i : Nat) (h : i < 6) : diagFrom R i = (decide (rd R ((i * 6 + i : Nat) : Int) = 0) && diagFrom R (i + 1)) := by
  rw [Bool.eq_iff_iff, Bool.and_eq_true]
  simp only [diagFrom, decide_eq_true_eq]
  constructor
  · exact fun g => ⟨g i h (Nat.le_refl _), fun a h1 h2 => g a h1 (by omega)⟩
  · rintro ⟨g1, g2⟩ a h1 h2
    by_cases e : a = i
    · rw [e]; exact g1
    · exact g2 a h1 (by omega)
theorem diag_end (R : List Int) : diagFrom R 6 = true := by
  simp only [diagFrom, decide_eq_true_eq]
  intro a h1 h2
  omega
theorem spec_CostOk_l0 (D I R : List Int) (hR : R.length = 36) : ∀ (d i : Nat), i + d = 6 → Ev (fun k => spec_CostOk.l0 k (i : Int) D I R) (diagFrom R i) := by
  intro d
  induction d with
  | zero =>
    intro i h
    refine ev_succ ?_
    simp only [spec_CostOk.l0]
    exact ev_neg (by omega) (ev_some (by rw [show i = 6 by omega, diag_end]))
  | succ d ih =>
    intro i h
    have h2 := ih (i + 1) (by omega)
    refine ev_succ ?_
    simp only [spec_CostOk.l0]
    rw [w64 (x := (i : Int) * 6) (by omega) (by omega), w64 (x := (i : Int) * 6 + (i : Int)) (by omega) (by omega), w64 (x := (i : Int) + 1) (by omega) (by omega), show (i : Int) * 6 + (i : Int) = ((i * 6 + i : Nat) : Int) by omega, diag_step R i (by omega)]
    refine ev_pos (by omega) (ev_pos (by omega) (ev_pos (by omega) ?_))
    by_cases c : rd R ((i * 6 + i : Nat) : Int) = 0
    · rw [decide_eq_true c, Bool.true_and]
      exact ev_pos c h2
    · rw [decide_eq_false c, Bool.false_and]
      exact ev_neg c (Ev.now _)
theorem spec_CostOk_ev (D I R : List Int) (hD : (D.length : Int) ≤ 1099511627776) (hI : (I.length : Int) ≤ 1099511627776) (hR : (R.length : Int) ≤ 1099511627776) : Ev (fun k => spec_CostOk.f k D I R) (costB D I R) := by
  simp only [spec_CostOk.f]
  have a := l7In_ev D (by omega) 6
  have b := l7In_ev I (by omega) 6
  have c := l7In_ev R (by omega) 36
  have stop : ∀ r : Bool, r = false → Ev (fun k => spec_CostOk.j0 k true D I R) r := fun r e => by
    refine ev_succ ?_
    simp only [spec_CostOk.j0]
    exact ev_pos (by simp) (ev_some e.symm)
  refine ev_bind a ?_
  by_cases h1 : (decide ((D.length : Int) = 6) && D.all inPrice) = true
  · refine ev_pos h1 (ev_bind b ?_)
    by_cases h2 : (decide ((I.length : Int) = 6) && I.all inPrice) = true
    · refine ev_pos h2 (ev_bind c ?_)
      by_cases h3 : (decide ((R.length : Int) = 36) && R.all inPrice) = true
      · rw [h3]
        refine ev_succ ?_
        simp only [spec_CostOk.j0]
        simp only [Bool.and_eq_true, decide_eq_true_eq] at h1 h2 h3
        refine ev_neg (by simp) ?_
        have e : costB D I R = diagFrom R 0 := by
          unfold costB diagFrom
          rw [h1.2, h2.2, h3.2, decide_eq_true (show D.length = 6 by omega), decide_eq_true (show I.length = 6 by omega), decide_eq_true (show R.length = 36 by omega)]
          simp
        rw [e]
        exact spec_CostOk_l0 D I R (by omega) 6 0 (by omega)
      · have h3' : (decide ((R.length : Int) = 36) && R.all inPrice) = false := by simpa using h3
        rw [h3']
        refine stop _ ?_
        rw [Bool.eq_false_iff]
        intro h
        have := (costB_iff.1 h).2.2.1
        exact h3 (by simp only [Bool.and_eq_true, decide_eq_true_eq]; exact ⟨by omega, this.2⟩)
    · refine ev_neg h2 (stop _ ?_)
      rw [Bool.eq_false_iff]
      intro h
      have := (costB_iff.1 h).2.1
      exact h2 (by simp only [Bool.and_eq_true, decide_eq_true_eq]; exact ⟨by omega, this.2⟩)
  · refine ev_neg h1 (stop _ ?_)
    rw [Bool.eq_false_iff]
    intro h
    have := (costB_iff.1 h).1
    exact h1 (by simp only [Bool.and_eq_true, decide_eq_true_eq]; exact ⟨by omega, this.2⟩)
theorem impl_CostOk_l0 (D I R : List Int) (hR : R.length = 36) : ∀ (d i : Nat), i + d = 6 → Ev (fun k => impl_CostOk.l0 k (i : Int) D I R) (diagFrom R i) := by
  intro d
  induction d with
  | zero =>
    intro i h
    refine ev_succ ?_
    simp only [impl_CostOk.l0]
    exact ev_neg (by omega) (ev_some (by rw [show i = 6 by omega, diag_end]))
  | succ d ih =>
    intro i h
    have h2 := ih (i + 1) (by omega)
    refine ev_succ ?_
    simp only [impl_CostOk.l0]
    rw [w64 (x := (i : Int) * 6) (by omega) (by omega), w64 (x := (i : Int) * 6 + (i : Int)) (by omega) (by omega), w64 (x := (i : Int) + 1) (by omega) (by omega), show (i : Int) * 6 + (i : Int) = ((i * 6 + i : Nat) : Int) by omega, diag_step R i (by omega)]
    refine ev_pos (by omega) (ev_pos (by omega) (ev_pos (by omega) ?_))
    by_cases c : rd R ((i * 6 + i : Nat) : Int) = 0
    · rw [decide_eq_true c, Bool.true_and]
      exact ev_pos c h2
    · rw [decide_eq_false c, Bool.false_and]
      exact ev_neg c (Ev.now _)
theorem impl_CostOk_ev (D I R : List Int) (hD : (D.length : Int) ≤ 1099511627776) (hI : (I.length : Int) ≤ 1099511627776) (hR : (R.length : Int) ≤ 1099511627776) : Ev (fun k => impl_CostOk.f k D I R) (costB D I R) := by
  simp only [impl_CostOk.f]
  have a := pricesOk_ev D hD 6
  have b := pricesOk_ev I hI 6
  have c := pricesOk_ev R hR 36
  have stop : ∀ r : Bool, r = false → Ev (fun k => impl_CostOk.j0 k true D I R) r := fun r e => by
    refine ev_succ ?_
    simp only [impl_CostOk.j0]
    exact ev_pos (by simp) (ev_some e.symm)
  refine ev_bind a ?_
  by_cases h1 : (decide ((D.length : Int) = 6) && D.all inPrice) = true
  · refine ev_pos h1 (ev_bind b ?_)
    by_cases h2 : (decide ((I.length : Int) = 6) && I.all inPrice) = true
    · refine ev_pos h2 (ev_bind c ?_)
      by_cases h3 : (decide ((R.length : Int) = 36) && R.all inPrice) = true
      · rw [h3]
        refine ev_succ ?_
        simp only [impl_CostOk.j0]
        simp only [Bool.and_eq_true, decide_eq_true_eq] at h1 h2 h3
        refine ev_neg (by simp) ?_
        have e : costB D I R = diagFrom R 0 := by
          unfold costB diagFrom
          rw [h1.2, h2.2, h3.2, decide_eq_true (show D.length = 6 by omega), decide_eq_true (show I.length = 6 by omega), decide_eq_true (show R.length = 36 by omega)]
          simp
        rw [e]
        exact impl_CostOk_l0 D I R (by omega) 6 0 (by omega)
      · have h3' : (decide ((R.length : Int) = 36) && R.all inPrice) = false := by simpa using h3
        rw [h3']
        refine stop _ ?_
        rw [Bool.eq_false_iff]
        intro h
        have := (costB_iff.1 h).2.2.1
        exact h3 (by simp only [Bool.and_eq_true, decide_eq_true_eq]; exact ⟨by omega, this.2⟩)
    · refine ev_neg h2 (stop _ ?_)
      rw [Bool.eq_false_iff]
      intro h
      have := (costB_iff.1 h).2.1
      exact h2 (by simp only [Bool.and_eq_true, decide_eq_true_eq]; exact ⟨by omega, this.2⟩)
  · refine ev_neg h1 (stop _ ?_)
    rw [Bool.eq_false_iff]
    intro h
    have := (costB_iff.1 h).1
    exact h1 (by simp only [Bool.and_eq_true, decide_eq_true_eq]; exact ⟨by omega, this.2⟩)

/-! #### _measure -/
/-- the costs that the three lists tell -/
def costs (D I R : List Int) : Dist.Costs := ⟨fun x => rd D x, fun x => rd I x, fun x y => rd R (x * 6 + y)⟩
theorem costs_range {D I R : List Int} (h : costB D I R = true) : CostR (costs D I R) := by
  obtain ⟨h1, h2, h3, _⟩ := costB_iff.1 h
  exact ⟨fun x => price_at h1.2 x, fun x => price_at h2.2 x, fun x y => price_at h3.2 _⟩
/-- the tree by places -/
def ptI (l : List S61) (h : treeOk l = true) : Dist.PT := Tree.pt (treeOk_vd h) (pol l) (pol_order h) (lbA l)
def delI (l : List S61) (D : List Int) : List Int := (pol l).map (fun j => rd D (lbA l j))
def rowI (l m : List S61) (R : List Int) (i : Nat) : List Int := (pol m).map (fun k => rd R (lbA l i * 6 + lbA m k))
def relI (l m : List S61) (R : List Int) : List (List Int) := (pol l).map (rowI l m R)
theorem meas_is {l m : List S61} (hl : treeOk l = true) (hm : treeOk m = true) (D I R : List Int) : MeasIs (costs D I R) (ptI l hl) (ptI m hm) (leafI l) (leafI m) (delI l D) (delI m I) (relI l m R) where
  la := ⟨leafI_len hl, fun k hk => rd_leaf hl hk⟩
  lb := ⟨leafI_len hm, fun k hk => rd_leaf hm hk⟩
  del := ⟨by unfold delI; rw [List.length_map, pol_len hl]; rfl, fun k hk => by unfold delI; rw [rd_map _ _ k 0 (by rw [pol_len hl]; exact hk)]; rfl⟩
  ins := ⟨by unfold delI; rw [List.length_map, pol_len hm]; rfl, fun k hk => by unfold delI; rw [rd_map _ _ k 0 (by rw [pol_len hm]; exact hk)]; rfl⟩
  relLen := by unfold relI; rw [List.length_map, pol_len hl]; rfl
  rel := fun p hp => by
    have e : row4 (relI l m R) (p : Int) = rowI l m R ((pol l).getD p 0) := by
      have hp' : p < (pol l).length := by rw [pol_len hl]; exact hp
      show (relI l m R).getD (p : Int).toNat [] = _
      unfold relI
      rw [Int.toNat_natCast, List.getD_eq_getElem?_getD, List.getD_eq_getElem?_getD, List.getElem?_map, List.getElem?_eq_getElem hp']
      rfl
    rw [e]
    exact ⟨by unfold rowI; rw [List.length_map, pol_len hm]; rfl, fun q hq => by unfold rowI; rw [rd_map _ _ q 0 (by rw [pol_len hm]; exact hq)]; rfl⟩
theorem lab_idx {l m : List S61} (hl : treeOk l = true) (hm : treeOk m = true) {i k : Nat} (hi : i < l.length) (hk : k < m.length) : (0 ≤ lbA l i * 6 + lbA m k ∧ lbA l i * 6 + lbA m k < 36) ∧ wrap64 (wrap64 (lbA l i * 6) + lbA m k) = lbA l i * 6 + lbA m k := by
  have h1 := lb_range hl hi
  have h2 := lb_range hm hk
  refine ⟨by omega, ?_⟩
  rw [w64 (x := lbA l i * 6) (by omega) (by omega), w64 (by omega) (by omega)]
theorem take_len_le {α : Type} (p : List α) (t n : Nat) (h : p.length ≤ n) : (p.take t).length ≤ n := by rw [List.length_take]; omega
theorem measureOf_l2 {l m : List S61} (hl : treeOk l = true) (hm : treeOk m = true) (D I R : List Int) (hR : R.length = 36) (i : Nat) (hi : i < l.length) (p pa pb qa qb dl il : List Int) (t : Nat) (ht : t < l.length) (acc : List (List Int)) (hacc : acc.length ≤ 24) (r : List Int × List Int × List Int × List Int × List Int × List Int × (List (List Int)) × Bool)
    (hnext : Ev (fun k => impl_measureOf.l1 k l m p (l.length : Int) ((t + 1 : Nat) : Int) D I R pa pb qa qb dl il (acc ++ [rowI l m R i])) r) :
    ∀ (d s : Nat), s + d = m.length → Ev (fun k => impl_measureOf.l2 k l m (i : Int) (((pol m).take s).map (fun k => rd R (lbA l i * 6 + lbA m k))) p (l.length : Int) (t : Int) (postI m) (m.length : Int) (s : Int) D I R pa pb qa qb dl il acc) r := by
  have b1 := (treeOk_iff.1 hl).1
  have b2 := (treeOk_iff.1 hm).1
  have hpl := postI_len hm
  have hp := pol_len hm
  intro d
  induction d with
  | zero =>
    intro s hs
    refine ev_succ ?_
    simp only [impl_measureOf.l2]
    have e0 : wrap64 ((t : Int) + 1) = ((t + 1 : Nat) : Int) := by rw [w64 (by omega) (by omega)]; omega
    rw [e0]
    clear e0
    rw [show (pol m).take s = pol m by rw [show s = (pol m).length by omega, List.take_length]]
    exact ev_neg (by omega) (ev_pos (by omega) hnext)
  | succ d ih =>
    intro s hs
    have h2 := ih (s + 1) (by omega)
    obtain ⟨h3, h4⟩ := (pol_order hm).at_ (show s < m.length by omega)
    rw [← take_map_succ (pol m) (fun k => rd R (lbA l i * 6 + lbA m k)) s 0 (by omega)] at h2
    obtain ⟨h5, h6⟩ := lab_idx hl hm hi h3
    have h7 := take_len_le (pol m) s 24 (by omega)
    refine ev_succ ?_
    simp only [impl_measureOf.l2]
    rw [rd_post hm, rd_f0, rd_f0, h6]
    clear h6
    have e0 : wrap64 ((s : Int) + 1) = ((s + 1 : Nat) : Int) := by rw [w64 (by omega) (by omega)]; omega
    rw [e0]
    clear e0
    exact ev_pos (by omega) (ev_pos (by omega) (ev_pos (by omega) (ev_pos (by omega) (ev_pos (by omega) (ev_pos (by omega) (ev_pos (by omega) (ev_pos (by omega) (ev_pos (by omega) (ev_pos (by rw [List.length_map]; omega) h2)))))))))
theorem measureOf_l1 {l m : List S61} (hl : treeOk l = true) (hm : treeOk m = true) (D I R : List Int) (hD : D.length = 6) (hR : R.length = 36) (il : List Int) :
    ∀ (d t : Nat), t + d = l.length → Ev (fun k => impl_measureOf.l1 k l m (postI l) (l.length : Int) (t : Int) D I R (postI l) (postI m) (leafI l) (leafI m) (((pol l).take t).map (fun j => rd D (lbA l j))) il (((pol l).take t).map (rowI l m R)))
      (postI l, postI m, leafI l, leafI m, delI l D, il, relI l m R, true) := by
  have b1 := (treeOk_iff.1 hl).1
  have hpl := postI_len hl
  have hp := pol_len hl
  intro d
  induction d with
  | zero =>
    intro t ht
    refine ev_succ ?_
    simp only [impl_measureOf.l1]
    rw [show (pol l).take t = pol l by rw [show t = (pol l).length by omega, List.take_length]]
    exact ev_neg (by omega) (Ev.now _)
  | succ d ih =>
    intro t ht
    have h2 := ih (t + 1) (by omega)
    obtain ⟨h3, h4⟩ := (pol_order hl).at_ (show t < l.length by omega)
    rw [← take_map_succ (pol l) (fun j => rd D (lbA l j)) t 0 (by omega), ← take_map_succ (pol l) (rowI l m R) t 0 (by omega)] at h2
    have h5 := lb_range hl h3
    have h7 := take_len_le (pol l) t 24 (by omega)
    have h8 := measureOf_l2 hl hm D I R hR ((pol l).getD t 0) h3 (postI l) (postI l) (postI m) (leafI l) (leafI m) (((pol l).take t).map (fun j => rd D (lbA l j)) ++ [rd D (lbA l ((pol l).getD t 0))]) il t (by omega) (((pol l).take t).map (rowI l m R)) (by rw [List.length_map]; exact h7) _ h2 m.length 0 (by omega)
    refine ev_succ ?_
    simp only [impl_measureOf.l1]
    rw [rd_post hl, rd_f0, postI_len hm]
    exact ev_pos (by omega) (ev_pos (by omega) (ev_pos (by omega) (ev_pos (by omega) (ev_pos (by omega) (ev_pos (by omega) (ev_pos (by omega) (ev_pos (by rw [List.length_map]; omega) h8)))))))
theorem measureOf_l0 {l m : List S61} (hl : treeOk l = true) (hm : treeOk m = true) (D I R : List Int) (hD : D.length = 6) (hI : I.length = 6) (hR : R.length = 36) :
    ∀ (d t : Nat), t + d = m.length → Ev (fun k => impl_measureOf.l0 k l m (postI m) (m.length : Int) (t : Int) D I R (postI l) (postI m) (leafI l) (leafI m) (((pol m).take t).map (fun j => rd I (lbA m j))))
      (postI l, postI m, leafI l, leafI m, delI l D, delI m I, relI l m R, true) := by
  have b1 := (treeOk_iff.1 hm).1
  have hpl := postI_len hm
  have hp := pol_len hm
  intro d
  induction d with
  | zero =>
    intro t ht
    refine ev_succ ?_
    simp only [impl_measureOf.l0]
    rw [show (pol m).take t = pol m by rw [show t = (pol m).length by omega, List.take_length], postI_len hl]
    exact ev_neg (by omega) (measureOf_l1 hl hm D I R hD hR (delI m I) l.length 0 (by omega))
  | succ d ih =>
    intro t ht
    have h2 := ih (t + 1) (by omega)
    obtain ⟨h3, h4⟩ := (pol_order hm).at_ (show t < m.length by omega)
    rw [← take_map_succ (pol m) (fun j => rd I (lbA m j)) t 0 (by omega)] at h2
    have h5 := lb_range hm h3
    have h7 := take_len_le (pol m) t 24 (by omega)
    refine ev_succ ?_
    simp only [impl_measureOf.l0]
    rw [rd_post hm, rd_f0]
    have e0 : wrap64 ((t : Int) + 1) = ((t + 1 : Nat) : Int) := by rw [w64 (by omega) (by omega)]; omega
    rw [e0]
    clear e0
    exact ev_pos (by omega) (ev_pos (by omega) (ev_pos (by omega) (ev_pos (by omega) (ev_pos (by omega) (ev_pos (by omega) (ev_pos (by omega) (ev_pos (by rw [List.length_map]; omega) h2)))))))
theorem measureOf_ok {l m : List S61} (hl : treeOk l = true) (hm : treeOk m = true) {D I R : List Int} (hc : costB D I R = true) : Ev (fun k => impl_measureOf.f k l m D I R) (postI l, postI m, leafI l, leafI m, delI l D, delI m I, relI l m R, true) := by
  obtain ⟨h1, h2, h3, _⟩ := costB_iff.1 hc
  simp only [impl_measureOf.f]
  have h4 := impl_CostOk_ev D I R (by omega) (by omega) (by omega)
  rw [hc] at h4
  have h5 := impl_TreeOk_ev l
  have h6 := impl_TreeOk_ev m
  rw [hl] at h5
  rw [hm] at h6
  refine ev_bind h5 (ev_pos rfl (ev_bind h6 (ev_pos rfl (ev_bind h4 (ev_succ ?_)))))
  simp only [impl_measureOf.j0]
  refine ev_neg (by simp) (ev_bind (impl_PostOrder_ev l) (ev_bind (impl_PostOrder_ev m) (ev_bind (impl_LeftLeaf_ev l) (ev_bind (impl_LeftLeaf_ev m) ?_))))
  rw [postI_len hm]
  exact measureOf_l0 hl hm D I R h1.1 h2.1 h3.1 m.length 0 (by omega)
theorem measureOf_no {l m : List S61} {D I R : List Int} (hD : (D.length : Int) ≤ 1099511627776) (hI : (I.length : Int) ≤ 1099511627776) (hR : (R.length : Int) ≤ 1099511627776) (h : ¬ (treeOk l = true ∧ treeOk m = true ∧ costB D I R = true)) : Ev (fun k => impl_measureOf.f k l m D I R) ([], [], [], [], [], [], [], false) := by
  have stop : Ev (fun k => impl_measureOf.j0 k l m true D I R) ([], [], [], [], [], [], [], false) := by
    refine ev_succ ?_
    simp only [impl_measureOf.j0]
    exact ev_pos (by simp) (Ev.now _)
  simp only [impl_measureOf.f]
  refine ev_bind (impl_TreeOk_ev l) ?_
  by_cases h1 : treeOk l = true
  · refine ev_pos h1 (ev_bind (impl_TreeOk_ev m) ?_)
    by_cases h2 : treeOk m = true
    · refine ev_pos h2 (ev_bind (impl_CostOk_ev D I R hD hI hR) ?_)
      have h3 : costB D I R = false := by rw [Bool.eq_false_iff]; exact fun c => h ⟨h1, h2, c⟩
      rw [h3]
      exact stop
    · exact ev_neg h2 stop
  · exact ev_neg h1 stop
theorem impl_RelCost_ev {l m : List S61} (hl : treeOk l = true) (hm : treeOk m = true) {D I R : List Int} (hc : costB D I R = true) : Ev (fun k => impl_RelCost.f k D I R (lbA l 0) (lbA m 0)) (rd R (lbA l 0 * 6 + lbA m 0)) := by
  obtain ⟨h1, h2, h3, _⟩ := costB_iff.1 hc
  have b1 := (treeOk_iff.1 hl).1
  have b2 := (treeOk_iff.1 hm).1
  have h4 := impl_CostOk_ev D I R (by omega) (by omega) (by omega)
  rw [hc] at h4
  obtain ⟨h5, h6⟩ := lab_idx hl hm (show 0 < l.length by omega) (show 0 < m.length by omega)
  have h7 := lb_range hl (show 0 < l.length by omega)
  have h8 := lb_range hm (show 0 < m.length by omega)
  simp only [impl_RelCost.f]
  rw [h6]
  clear h6
  exact ev_bind h4 (ev_pos rfl (ev_bindc (LabelOk_eq _) (ev_pos (decide_eq_true h7) (ev_bindc (LabelOk_eq _) (ev_pos (decide_eq_true h8) (ev_pos (by omega) (ev_pos (by omega) (Ev.now _))))))))
/-- what it costs, where the roots belong together; -1 of what is no tree or no costs -/
def rootD (l m : List S61) (D I R : List Int) : Int :=
  if h : treeOk l = true ∧ treeOk m = true ∧ costB D I R = true then Dist.dist (costs D I R) ((ptI l h.1).fo 0 (l.length - 1)) ((ptI m h.2.1).fo 0 (m.length - 1)) + rd R (lbA l 0 * 6 + lbA m 0) else -1
theorem rootD_ok {l m : List S61} {D I R : List Int} (hl : treeOk l = true) (hm : treeOk m = true) (hc : costB D I R = true) : rootD l m D I R = Dist.dist (costs D I R) ((ptI l hl).fo 0 (l.length - 1)) ((ptI m hm).fo 0 (m.length - 1)) + rd R (lbA l 0 * 6 + lbA m 0) := by
  unfold rootD
  rw [dif_pos ⟨hl, hm, hc⟩]
theorem rootD_range {l m : List S61} {D I R : List Int} : -1 ≤ rootD l m D I R ∧ rootD l m D I R ≤ 49000 := by
  by_cases h : treeOk l = true ∧ treeOk m = true ∧ costB D I R = true
  · rw [rootD_ok h.1 h.2.1 h.2.2]
    have b1 := (treeOk_iff.1 h.1).1
    have b2 := (treeOk_iff.1 h.2.1).1
    have h1 := dist_range (costs_range h.2.2) (A := ptI l h.1) (B := ptI m h.2.1) b1.2 b2.2 (i := 0) (k := 0) (show l.length - 1 ≤ l.length by omega) (show m.length - 1 ≤ m.length by omega)
    have h2 := (costs_range h.2.2).rel (lbA l 0) (lbA m 0)
    have h3 : 0 ≤ rd R (lbA l 0 * 6 + lbA m 0) ∧ rd R (lbA l 0 * 6 + lbA m 0) ≤ 1000 := h2
    omega
  · unfold rootD
    rw [dif_neg h]
    omega
theorem impl_RootDist_ev (l m : List S61) (D I R : List Int) (h1 : (l.length : Int) ≤ 9223372036854775806) (h2 : (m.length : Int) ≤ 9223372036854775806) (hD : (D.length : Int) ≤ 1099511627776) (hI : (I.length : Int) ≤ 1099511627776) (hR : (R.length : Int) ≤ 1099511627776) : Ev (fun k => impl_RootDist.f k l m D I R) (rootD l m D I R) := by
  simp only [impl_RootDist.f, impl_ForestDist.f]
  by_cases h : treeOk l = true ∧ treeOk m = true ∧ costB D I R = true
  · obtain ⟨hl, hm, hc⟩ := h
    have b1 := (treeOk_iff.1 hl).1
    have b2 := (treeOk_iff.1 hm).1
    rw [rootD_ok hl hm hc]
    have r1 := dist_range (costs_range hc) (A := ptI l hl) (B := ptI m hm) b1.2 b2.2 (i := 0) (k := 0) (show l.length - 1 ≤ l.length by omega) (show m.length - 1 ≤ m.length by omega)
    have r2 : 0 ≤ rd R (lbA l 0 * 6 + lbA m 0) ∧ rd R (lbA l 0 * 6 + lbA m 0) ≤ 1000 := (costs_range hc).rel (lbA l 0) (lbA m 0)
    have h3 := forest_ev (costs_range hc) (A := ptI l hl) (B := ptI m hm) b1.2 b2.2 (meas_is hl hm D I R) (l.length + m.length) 0 (l.length - 1) 0 (m.length - 1) (by omega) (by omega) (show l.length - 1 ≤ l.length by omega) (by omega) (show m.length - 1 ≤ m.length by omega)
    have e1 : PLift (wrap64 ((l.length : Int) - 1) = ((l.length - 1 : Nat) : Int)) := ⟨by rw [w64 (by omega) (by omega)]; omega⟩
    have e2 : PLift (wrap64 ((m.length : Int) - 1) = ((m.length - 1 : Nat) : Int)) := ⟨by rw [w64 (by omega) (by omega)]; omega⟩
    rw [e1.down, e2.down]
    refine ev_bind (ev_bind (measureOf_ok hl hm hc) (ev_pos rfl (ev_neg (by omega) (ev_neg (by omega) (ev_neg (by omega) (ev_neg (by omega) (ev_neg (by omega) (ev_neg (by omega) h3)))))))) ?_
    refine ev_neg (by omega) (ev_pos (by omega) (ev_pos (by omega) (ev_bind (impl_RelCost_ev hl hm hc) (ev_some (w64 (by omega) (by omega))))))
  · have e : rootD l m D I R = -1 := by unfold rootD; rw [dif_neg h]
    rw [e]
    exact ev_bind (ev_bind (measureOf_no hD hI hR h) (ev_neg (by decide) (Ev.now (-1)))) (ev_pos (by decide) (Ev.now _))

/-! #### _table -/
/-- a table by rows of width w: what is done holds F -/
def CellOk (f : List Int) (w H : Nat) (F : Nat → Nat → Int) (done : Nat → Nat → Prop) : Prop := f.length = H * w ∧ ∀ r s, r < H → s < w → done r s → rd f ((r * w + s : Nat) : Int) = F r s
theorem idx_lt {r s w H : Nat} (hr : r < H) (hs : s < w) : r * w + s < H * w := by
  have h1 : (r + 1) * w ≤ H * w := Nat.mul_le_mul_right w hr
  have h2 : (r + 1) * w = r * w + w := Nat.succ_mul r w
  omega
theorem idx_inj {r s r' s' w : Nat} (hs : s < w) (hs' : s' < w) (h : r * w + s = r' * w + s') : r = r' ∧ s = s' := by
  rcases Nat.lt_trichotomy r r' with c | c | c
  · have := idx_lt c hs
    omega
  · subst c
    omega
  · have := idx_lt c hs'
    omega
theorem rd_set (f : List Int) (a b : Nat) (v : Int) (ha : a < f.length) : rd (f.set a v) (b : Int) = if a = b then v else rd f (b : Int) := by
  show (f.set a v).getD (b : Int).toNat 0 = if a = b then v else f.getD (b : Int).toNat 0
  rw [Int.toNat_natCast, List.getD_eq_getElem?_getD, List.getD_eq_getElem?_getD, List.getElem?_set]
  by_cases h : a = b
  · subst h
    rw [if_pos rfl, if_pos ha, if_pos rfl]
    rfl
  · rw [if_neg h, if_neg h]
theorem CellOk.set {f : List Int} {w H : Nat} {F : Nat → Nat → Int} {done done' : Nat → Nat → Prop} (h : CellOk f w H F done) {r0 s0 : Nat} (hr : r0 < H) (hs : s0 < w) {i0 : Nat} (hi : i0 = r0 * w + s0) {v : Int} (hv : v = F r0 s0)
    (hd : ∀ r s, r < H → s < w → done' r s → done r s ∨ (r = r0 ∧ s = s0)) : CellOk (f.set i0 v) w H F done' := by
  refine ⟨by rw [List.length_set]; exact h.1, fun r s h1 h2 h3 => ?_⟩
  have hlt := idx_lt hr hs
  rw [rd_set _ _ _ _ (by rw [hi, h.1]; exact hlt)]
  by_cases e : i0 = r * w + s
  · rw [if_pos e]
    obtain ⟨rfl, rfl⟩ := idx_inj hs h2 (hi.symm.trans e)
    exact hv
  · rw [if_neg e]
    rcases hd r s h1 h2 h3 with h4 | ⟨rfl, rfl⟩
    · exact h.2 r s h1 h2 h4
    · exact absurd hi e
theorem CellOk.imp {f : List Int} {w H : Nat} {F : Nat → Nat → Int} {done done' : Nat → Nat → Prop} (h : CellOk f w H F done) (hd : ∀ r s, r < H → s < w → done' r s → done r s) : CellOk f w H F done' := ⟨h.1, fun r s h1 h2 h3 => h.2 r s h1 h2 (hd r s h1 h2 h3)⟩
structure Zs (D I R : List Int) (A B : Dist.PT) (x y la lb : List Int) : Prop where
  nA : A.n ≤ 24
  nB : B.n ≤ 24
  cD : D.length = 6
  cI : I.length = 6
  cR : R.length = 36
  x : RowIs x A.n A.lab
  y : RowIs y B.n B.lab
  la : RowIs la A.n (fun k => (A.la k : Int))
  lb : RowIs lb B.n (fun k => (B.la k : Int))
  labA : ∀ p, p < A.n → 0 ≤ A.lab p ∧ A.lab p ≤ 5
  labB : ∀ p, p < B.n → 0 ≤ B.lab p ∧ B.lab p ≤ 5
  range : CostR (costs D I R)
/-- the forests of two key roots; the trees -/
def Fz (D I R : List Int) (A B : Dist.PT) (a0 b0 r s : Nat) : Int := Dist.dist (costs D I R) (A.fo a0 (a0 + r)) (B.fo b0 (b0 + s))
def Tz (D I R : List Int) (A B : Dist.PT) (p q : Nat) : Int := Dist.dist (costs D I R) (A.tr p) (B.tr q)
section
variable {D I R x y la lb : List Int} {A B : Dist.PT}
theorem Fz_range (z : Zs D I R A B x y la lb) {a0 b0 r s : Nat} (h1 : a0 + r ≤ A.n) (h2 : b0 + s ≤ B.n) : 0 ≤ Fz D I R A B a0 b0 r s ∧ Fz D I R A B a0 b0 r s ≤ 48000 := dist_range z.range z.nA z.nB h1 h2
theorem wid {V : Nat} (h : V + 1 ≤ 24) {U : Nat} (hU : U + 1 ≤ 24) : (U + 2) * (V + 2) ≤ 676 := Nat.le_trans (Nat.mul_le_mul (show U + 2 ≤ 26 by omega) (show V + 2 ≤ 26 by omega)) (by decide)
theorem rows {u U w : Nat} (h : u ≤ U) : (u + 1) * w = u * w + w ∧ u * w + w + w ≤ (U + 2) * w := by
  have h1 : (u + 1) * w = u * w + w := Nat.succ_mul u w
  have h2 : (u + 2) * w = (u + 1) * w + w := Nat.succ_mul (u + 1) w
  have h3 : (u + 2) * w ≤ (U + 2) * w := Nat.mul_le_mul_right w (by omega)
  omega
theorem l8F_l0 (z : Zs D I R A B x y la lb) {i j a0 b0 U V : Nat} (hi : i < A.n) (hj : j < B.n) (ha : A.la i = a0) (hb : B.la j = b0) (hU : i = a0 + U) (hV : j = b0 + V) (tr : List Int) (G : List Int × List Int → Prop)
    (next : ∀ f, CellOk f (V + 2) (U + 2) (Fz D I R A B a0 b0) (fun r s => s = 0) → ∃ res, Ev (fun k => spec_l8Forest.l1 k (i : Int) (j : Int) tr la lb ((V + 2 : Nat) : Int) (B.n : Int) f (b0 : Int) x y la lb D I R) res ∧ G res) :
    ∀ (d u : Nat) (f : List Int), u + d = U + 1 → CellOk f (V + 2) (U + 2) (Fz D I R A B a0 b0) (fun r s => s = 0 ∧ r ≤ u) → ∃ res, Ev (fun k => spec_l8Forest.l0 k (i : Int) (j : Int) tr la lb ((V + 2 : Nat) : Int) (B.n : Int) f ((a0 + u : Nat) : Int) x y la lb D I R) res ∧ G res := by
  have nA := z.nA
  have nB := z.nB
  have rla := z.la.2 i hi
  have rlb := z.lb.2 j hj
  simp only [ha] at rla
  simp only [hb] at rlb
  have lla := z.la.1
  have llb := z.lb.1
  have hwid := wid (V := V) (by omega) (U := U) (by omega)
  intro d
  induction d with
  | zero =>
    intro u f hu hf
    obtain ⟨res, h1, h2⟩ := next f (hf.imp (fun r s h1 h2 h3 => ⟨h3, by omega⟩))
    refine ⟨res, ev_succ ?_, h2⟩
    simp only [spec_l8Forest.l0]
    rw [rlb]
    exact ev_neg (by omega) (ev_pos (by omega) (ev_pos (by omega) h1))
  | succ d ih =>
    intro u f hu hf
    obtain ⟨g1, g2⟩ := rows (u := u) (U := U) (w := V + 2) (by omega)
    have rx := z.x.2 (a0 + u) (by omega)
    have lx := z.x.1
    have bx := z.labA (a0 + u) (by omega)
    have cD := z.cD
    have hfl := hf.1
    have hf0 := hf.2 u 0 (by omega) (by omega) ⟨rfl, Nat.le_refl _⟩
    rw [Nat.add_zero] at hf0
    have rF := Fz_range z (a0 := a0) (b0 := b0) (r := u) (s := 0) (by omega) (by omega)
    have rD := z.range.del (A.lab (a0 + u))
    have hstep : Fz D I R A B a0 b0 (u + 1) 0 = Fz D I R A B a0 b0 u 0 + rd D (A.lab (a0 + u)) := Dist.PT.d_del (costs D I R) A B (show a0 ≤ a0 + u by omega) (show a0 + u < A.n by omega)
    have rD2 : 0 ≤ rd D (A.lab (a0 + u)) ∧ rd D (A.lab (a0 + u)) ≤ 1000 := rD
    have hset := hf.set (done' := fun r s => s = 0 ∧ r ≤ u + 1) (r0 := u + 1) (s0 := 0) (by omega) (by omega) (i0 := (u + 1) * (V + 2)) rfl (v := wrap64 (Fz D I R A B a0 b0 u 0 + rd D (A.lab (a0 + u)))) (by rw [hstep, w64 (by omega) (by omega)]) (fun r s _ _ h3 => by
      by_cases c : r ≤ u
      · exact .inl ⟨h3.1, c⟩
      · exact .inr ⟨by omega, h3.1⟩)
    obtain ⟨res, h1, h2⟩ := ih (u + 1) _ (by omega) hset
    refine ⟨res, ev_succ ?_, h2⟩
    have e1 : PLift (wrap64 (((a0 + u : Nat) : Int) - (a0 : Int)) = (u : Int)) := ⟨by rw [w64 (by omega) (by omega)]; omega⟩
    have e2 : PLift (wrap64 ((u : Int) + 1) = ((u + 1 : Nat) : Int)) := ⟨by rw [w64 (by omega) (by omega)]; omega⟩
    have e3 : PLift (wrap64 (((u + 1 : Nat) : Int) - 1) = (u : Int)) := ⟨by rw [w64 (by omega) (by omega)]; omega⟩
    have e4 : PLift (wrap64 ((u : Int) * ((V + 2 : Nat) : Int)) = ((u * (V + 2) : Nat) : Int)) := ⟨by rw [← Int.natCast_mul, w64 (by omega) (by omega)]⟩
    have e5 : PLift (wrap64 (((u + 1 : Nat) : Int) * ((V + 2 : Nat) : Int)) = (((u + 1) * (V + 2) : Nat) : Int)) := ⟨by rw [← Int.natCast_mul, w64 (by omega) (by omega)]⟩
    have e6 : PLift (wrap64 (((a0 + u : Nat) : Int) + 1) = ((a0 + (u + 1) : Nat) : Int)) := ⟨by rw [w64 (by omega) (by omega)]; omega⟩
    simp only [spec_l8Forest.l0]
    simp only [rla, e1.down, e2.down, e3.down, e4.down, e5.down, e6.down, rx, hf0, Int.toNat_natCast]
    exact ev_pos (by omega) (ev_pos (by omega) (ev_pos (by omega) (ev_pos (by omega) (ev_pos (by omega) (ev_pos (by omega) (ev_pos (by omega) (ev_pos (by omega) (ev_pos (by omega) (ev_pos (by omega) (ev_pos (by omega) h1))))))))))
theorem l8F_l1 (z : Zs D I R A B x y la lb) {i j a0 b0 U V : Nat} (hi : i < A.n) (hj : j < B.n) (ha : A.la i = a0) (hb : B.la j = b0) (hU : i = a0 + U) (hV : j = b0 + V) (tr : List Int) (G : List Int × List Int → Prop)
    (next : ∀ f, CellOk f (V + 2) (U + 2) (Fz D I R A B a0 b0) (fun r s => s = 0 ∨ r = 0) → ∃ res, Ev (fun k => spec_l8Forest.l2 k (i : Int) (j : Int) tr la lb ((V + 2 : Nat) : Int) (B.n : Int) f (a0 : Int) x y la lb D I R) res ∧ G res) :
    ∀ (d v : Nat) (f : List Int), v + d = V + 1 → CellOk f (V + 2) (U + 2) (Fz D I R A B a0 b0) (fun r s => s = 0 ∨ (r = 0 ∧ s ≤ v)) → ∃ res, Ev (fun k => spec_l8Forest.l1 k (i : Int) (j : Int) tr la lb ((V + 2 : Nat) : Int) (B.n : Int) f ((b0 + v : Nat) : Int) x y la lb D I R) res ∧ G res := by
  have nA := z.nA
  have nB := z.nB
  have rla := z.la.2 i hi
  have rlb := z.lb.2 j hj
  simp only [ha] at rla
  simp only [hb] at rlb
  have lla := z.la.1
  have llb := z.lb.1
  intro d
  induction d with
  | zero =>
    intro v f hv hf
    obtain ⟨res, h1, h2⟩ := next f (hf.imp (fun r s h1 h2 h3 => by
      rcases h3 with h3 | h3
      · exact .inl h3
      · exact .inr ⟨h3, by omega⟩))
    refine ⟨res, ev_succ ?_, h2⟩
    simp only [spec_l8Forest.l1]
    rw [rla]
    exact ev_neg (by omega) (ev_pos (by omega) (ev_pos (by omega) h1))
  | succ d ih =>
    intro v f hv hf
    obtain ⟨g1, g2⟩ := rows (u := 0) (U := U) (w := V + 2) (by omega)
    rw [Nat.zero_mul] at g1 g2
    have rx := z.y.2 (b0 + v) (by omega)
    have lx := z.y.1
    have bx := z.labB (b0 + v) (by omega)
    have cD := z.cI
    have hfl := hf.1
    have hf0 := hf.2 0 v (by omega) (by omega) (.inr ⟨rfl, Nat.le_refl _⟩)
    rw [Nat.zero_mul, Nat.zero_add] at hf0
    have rF := Fz_range z (a0 := a0) (b0 := b0) (r := 0) (s := v) (by omega) (by omega)
    have rD := z.range.ins (B.lab (b0 + v))
    have hstep : Fz D I R A B a0 b0 0 (v + 1) = Fz D I R A B a0 b0 0 v + rd I (B.lab (b0 + v)) := Dist.PT.d_ins (costs D I R) A B (show b0 ≤ b0 + v by omega) (show b0 + v < B.n by omega)
    have rD2 : 0 ≤ rd I (B.lab (b0 + v)) ∧ rd I (B.lab (b0 + v)) ≤ 1000 := rD
    have hset := hf.set (done' := fun r s => s = 0 ∨ (r = 0 ∧ s ≤ v + 1)) (r0 := 0) (s0 := v + 1) (by omega) (by omega) (i0 := v + 1) (by omega) (v := wrap64 (Fz D I R A B a0 b0 0 v + rd I (B.lab (b0 + v)))) (by rw [hstep, w64 (by omega) (by omega)]) (fun r s _ _ h3 => by
      rcases h3 with h3 | ⟨h3, h4⟩
      · exact .inl (.inl h3)
      · by_cases c : s ≤ v
        · exact .inl (.inr ⟨h3, c⟩)
        · exact .inr ⟨h3, by omega⟩)
    obtain ⟨res, h1, h2⟩ := ih (v + 1) _ (by omega) hset
    refine ⟨res, ev_succ ?_, h2⟩
    have e1 : PLift (wrap64 (((b0 + v : Nat) : Int) - (b0 : Int)) = (v : Int)) := ⟨by rw [w64 (by omega) (by omega)]; omega⟩
    have e2 : PLift (wrap64 ((v : Int) + 1) = ((v + 1 : Nat) : Int)) := ⟨by rw [w64 (by omega) (by omega)]; omega⟩
    have e6 : PLift (wrap64 (((b0 + v : Nat) : Int) + 1) = ((b0 + (v + 1) : Nat) : Int)) := ⟨by rw [w64 (by omega) (by omega)]; omega⟩
    simp only [spec_l8Forest.l1]
    simp only [rlb, e1.down, e2.down, e6.down, rx, hf0, Int.toNat_natCast]
    exact ev_pos (by omega) (ev_pos (by omega) (ev_pos (by omega) (ev_pos (by omega) (ev_pos (by omega) (ev_pos (by omega) (ev_pos (by omega) (ev_pos (by omega) (ev_pos (by omega) (ev_pos (by omega) (ev_pos (by omega) h1))))))))))
end

end Go.Proofs.Ytbmkobanpakohaa.QFnExactMedian
