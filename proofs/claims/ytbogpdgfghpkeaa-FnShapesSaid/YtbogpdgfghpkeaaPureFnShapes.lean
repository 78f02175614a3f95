/- The law FnShapes, as a pure statement: row by number and number by row are inverse to each other and keep the order, at whatever code; no condition beyond the slice's own bounds. -/
import Derived.Test.YtbogpdgfghpkeaaQFnShapesa
namespace Go.Proofs.Ytbogpdgfghpkeaa.Pure
open Go.RowKit Go.Proofs.Ytbogpdgfghpkeaa.PFnShapes Go.Proofs.YtbogpdgfghpkeaaW.PrintWords Go.Proofs.YtbogpdgfghpkeaaW.PrintLast Go.Proofs.YtbogpdgfghpkeaaW.PrintMore Go.Proofs.Ytbogpdgfghpkeaa.EvAid Go.Proofs.Ytbogpdgfghpkeaa Go.Proofs.Ytbogpdgfghpkeaa.QFnShapes
set_option linter.unusedVariables false
set_option linter.unusedSimpArgs false

theorem sOk_rowGo : ∀ (l : List Nat) (D : Nat), TShape.sOk D l → rowGo (D : Int) (l.map Int.ofNat) = true := by
  intro l
  induction l with
  | nil => intro D _; rfl
  | cons d l ih =>
    intro D h
    obtain ⟨h1, h2, h3⟩ := h
    simp only [List.map_cons, rowGo, Bool.and_eq_true, decide_eq_true_eq]
    refine ⟨⟨?_, ?_⟩, ih d h3⟩
    · show (1 : Int) ≤ (d : Int); omega
    · show (d : Int) ≤ (D : Int) + 1; omega
theorem rowGo_sOk : ∀ (l : List Int) (p : Int), 0 ≤ p → rowGo p l = true → TShape.sOk p.toNat (l.map Int.toNat) ∧ ∀ x ∈ l, 0 ≤ x := by
  intro l
  induction l with
  | nil => intro p _ _; exact ⟨trivial, fun x h => by cases h⟩
  | cons d l ih =>
    intro p hp h
    simp only [rowGo, Bool.and_eq_true, decide_eq_true_eq] at h
    obtain ⟨a, b⟩ := ih d (by omega) h.2
    refine ⟨⟨by omega, by omega, a⟩, fun x hx => ?_⟩
    rcases List.mem_cons.1 hx with e | e
    · omega
    · exact b x e
theorem toNat_ofNat_map (l : List Nat) : (l.map Int.ofNat).map Int.toNat = l := by
  rw [List.map_map]
  have : (Int.toNat ∘ Int.ofNat) = id := by funext x; rfl
  rw [this, List.map_id]
theorem ofNat_toNat_map : ∀ (l : List Int), (∀ x ∈ l, 0 ≤ x) → (l.map Int.toNat).map Int.ofNat = l := by
  intro l
  induction l with
  | nil => intro _; rfl
  | cons d l ih =>
    intro h
    have h0 := h d (by simp)
    simp only [List.map_cons]
    rw [ih (fun x hx => h x (by simp [hx]))]
    congr 1
    show ((d.toNat : Nat) : Int) = d
    omega
/-- a row that is one, and its number -/
theorem shRank_shAt (n k : Int) (h : 0 ≤ k ∧ k < (shCount n : Int)) : shRank (shAt n k) = k ∧ ((shAt n k).length : Int) = n := by
  have hn : 1 ≤ n ∧ n ≤ 10 := by
    by_cases h2 : 1 ≤ n ∧ n ≤ 10
    · exact h2
    · exfalso; unfold shCount at h; rw [if_neg h2] at h; omega
  have hs : shCount n = TShape.wy (n - 1).toNat 0 := by unfold shCount; rw [if_pos hn]
  obtain ⟨a, b, c⟩ := TShape.sAt_spec (n - 1).toNat 0 k.toNat (by rw [← hs]; omega)
  have e : shAt n k = 0 :: (TShape.sAt (n - 1).toNat 0 k.toNat).map Int.ofNat := by unfold shAt; rw [if_pos (by omega)]
  have hlen : (shAt n k).length = (n - 1).toNat + 1 := by rw [e, List.length_cons, List.length_map, a]
  have hok : rowOk (shAt n k) = true := by
    rw [e]
    simp only [rowOk, Bool.and_eq_true, decide_eq_true_eq]
    refine ⟨⟨by first | trivial | rfl, sOk_rowGo _ 0 b⟩, ?_⟩
    rw [← e, hlen]; omega
  refine ⟨?_, by rw [hlen]; omega⟩
  unfold shRank
  rw [if_pos hok, e, List.tail_cons, toNat_ofNat_map, c]
  omega
theorem shAt_shRank (r : List Int) (h : 0 ≤ shRank r) : shAt (r.length : Int) (shRank r) = r := by
  have hok : rowOk r = true := by
    by_cases hr : rowOk r = true
    · exact hr
    · exfalso; unfold shRank at h; rw [if_neg hr] at h; omega
  have hR : shRank r = (TShape.sRank (r.tail.map Int.toNat) : Int) := by unfold shRank; rw [if_pos hok]
  cases r with
  | nil => simp [rowOk] at hok
  | cons d r =>
    simp only [rowOk, Bool.and_eq_true, decide_eq_true_eq] at hok
    obtain ⟨⟨hd, hg⟩, hl⟩ := hok
    obtain ⟨a, b⟩ := rowGo_sOk r 0 (Int.le_refl 0) hg
    have hlt := TShape.sRank_lt _ _ a
    have hl2 : r.length + 1 ≤ 10 := hl
    have e0 : (((d :: r).length : Int) - 1).toNat = (r.map Int.toNat).length := by simp
    have hs : shCount ((d :: r).length : Int) = TShape.wy (r.map Int.toNat).length 0 := by
      unfold shCount
      rw [if_pos (by simp only [List.length_cons]; omega), e0]
    rw [List.tail_cons] at hR
    unfold shAt
    rw [hR, if_pos (by rw [hs]; have h0 : (0 : Int).toNat = 0 := rfl; rw [h0] at hlt; omega), e0, Int.toNat_natCast]
    have h0 : (0 : Int).toNat = 0 := rfl
    rw [h0] at a
    rw [TShape.sAt_rank _ _ a, ofNat_toNat_map _ b, hd]
/-- the loop that looks for the first place where two rows part -/
theorem less_l0 (n k' : Int) (l r m : List Int) (j : Int) (hl : l.length ≤ 100) (hlm : l.length = m.length) (R : Bool) :
    ∀ (a b : List Nat) (i : Nat), l.drop i = a.map Int.ofNat → m.drop i = b.map Int.ofNat → i ≤ l.length → TShape.less a b → Ev (fun k => laws_FnShapes.j2 k n k' l r j m true 0 false) R →
      (∀ i : Int, Ev (fun k => laws_FnShapes.j2 k n k' l r j m true i false) R) → Ev (fun k => laws_FnShapes.l0 k n k' l r j m false (i : Int)) R := by
  intro a
  induction a with
  | nil => intro b i _ _ _ h; cases b <;> exact h.elim
  | cons x a ih =>
    intro b i h1 h2 hi h hR hRi
    cases b with
    | nil => exact h.elim
    | cons y b =>
      have hlt : i < l.length := by
        rcases Nat.lt_or_ge i l.length with h3 | h3
        · exact h3
        · rw [List.drop_of_length_le h3] at h1; simp at h1
      have hx : rd l (i : Int) = (x : Int) := by
        have e := List.drop_eq_getElem_cons hlt
        rw [h1] at e
        simp only [List.map_cons, List.cons.injEq] at e
        have e2 : rd l (i : Int) = l[i] := by simp [rd, hlt]
        rw [e2, ← e.1]; rfl
      have hlt2 : i < m.length := by omega
      have hy : rd m (i : Int) = (y : Int) := by
        have e := List.drop_eq_getElem_cons hlt2
        rw [h2] at e
        simp only [List.map_cons, List.cons.injEq] at e
        have e2 : rd m (i : Int) = m[i] := by simp [rd, hlt2]
        rw [e2, ← e.1]; rfl
      refine ev_succ ?_
      simp only [laws_FnShapes.l0]
      refine ev_pos (by omega) (ev_pos (by omega) (ev_succ ?_))
      simp only [laws_FnShapes.j2]
      refine ev_pos (by decide) (ev_pos (by omega) (ev_pos (by omega) (ev_pos (by omega) ?_)))
      rw [hx, hy, w64 (by omega) (by omega)]
      rcases h with h | ⟨h3, h4⟩
      · refine ev_neg (by omega) ?_
        rw [decide_eq_true (show (x : Int) < (y : Int) by omega)]
        refine ev_succ ?_
        simp only [laws_FnShapes.l0]
        refine ev_ite (fun _ => ev_ite (fun _ => ?_) (fun _ => ?_)) (fun _ => ?_)
        · exact hRi _
        · exact hRi _
        · exact hRi _
      · refine ev_neg (by omega) ?_
        rw [decide_eq_false (show ¬ (x : Int) < (y : Int) by omega)]
        have e1 : l.drop (i + 1) = a.map Int.ofNat := by
          have e := List.drop_eq_getElem_cons hlt
          rw [h1] at e
          simp only [List.map_cons, List.cons.injEq] at e
          exact e.2.symm
        have e2 : m.drop (i + 1) = b.map Int.ofNat := by
          have e := List.drop_eq_getElem_cons hlt2
          rw [h2] at e
          simp only [List.map_cons, List.cons.injEq] at e
          exact e.2.symm
        exact ih b (i + 1) e1 e2 (by omega) h4 hR hRi
theorem FnShapes : laws_FnShapes.Pure := by
  intro l hm hl hb
  refine Ev.rounds ?_
  simp only [laws_FnShapes.f, big_eq]
  refine ev_bindc rfl ?_
  by_cases hbig : (l.length : Int) > 1048576
  · exact ev_pos (decide_eq_true hbig) (Ev.now _)
  · refine ev_neg (by simpa using hbig) ?_
    obtain ⟨n, k', hd, hn, hk1, hk2⟩ := DrawShapeAt_ok l (by omega)
    refine ev_bind hd (ev_bind (ShapeAt_ev n k') (ev_bind (ShapeCount_ev n) ?_))
    have hcl := shCount_le n
    by_cases hk : 0 ≤ k' ∧ k' < (shCount n : Int)
    · refine ev_neg (by omega) (ev_bind (spec_ShapeCount_ev n) (ev_succ ?_))
      simp only [laws_FnShapes.j0]
      obtain ⟨hr1, hr2⟩ := shRank_shAt n k' hk
      obtain ⟨r, hdr, hrl⟩ := DrawShapeRank_ok l (by omega)
      refine ev_neg (by simp; omega) (ev_bind hdr (ev_bind (ShapeRank_ev r (by omega)) ?_))
      rw [w64 (x := k' + 1) (by omega) (by omega)]
      refine ev_bind (ShapeAt_ev n (k' + 1)) ?_
      have hn2 : 1 ≤ n ∧ n ≤ 10 := by
        by_cases h2 : 1 ≤ n ∧ n ≤ 10
        · exact h2
        · exfalso; unfold shCount at hk; rw [if_neg h2] at hk; omega
      have hs : shCount n = TShape.wy (n - 1).toNat 0 := by unfold shCount; rw [if_pos hn2]
      have hll : (shAt n k').length ≤ 100 := by omega
      -- what stands behind the loop, where the one row is less
      have fin : ∀ (i : Int), Ev (fun k => laws_FnShapes.j2 k n k' (shAt n k') r (shRank r) (shAt n (k' + 1)) true i false) true := by
        intro i
        refine ev_succ ?_
        simp only [laws_FnShapes.j2]
        refine ev_neg (by decide) (ev_pos hr2 (ev_pos trivial (ev_bind (ShapeRank_ev (shAt n k') (by omega)) ?_)))
        rw [hr1]
        refine ev_pos rfl ?_
        by_cases hj : shRank r < 0
        · refine ev_pos hj (ev_bind (spec_ShapeRank_ev r (by omega)) (ev_some ?_))
          simp
        · refine ev_neg hj ?_
          refine ev_bind (ShapeAt_ev _ _) ?_
          rw [shAt_shRank r (by omega)]
          refine ev_bind (sameInts_self r (by omega)) (ev_pos rfl (ev_bind (spec_ShapeRank_ev r (by omega)) (ev_some ?_)))
          simp
      by_cases hlast : k' + 1 < (shCount n : Int)
      · have e1 : shAt n k' = 0 :: (TShape.sAt (n - 1).toNat 0 k'.toNat).map Int.ofNat := by unfold shAt; rw [if_pos (by omega)]
        have e2 : shAt n (k' + 1) = 0 :: (TShape.sAt (n - 1).toNat 0 (k' + 1).toNat).map Int.ofNat := by unfold shAt; rw [if_pos (by omega)]
        obtain ⟨a1, b1, c1⟩ := TShape.sAt_spec (n - 1).toNat 0 k'.toNat (by rw [← hs]; omega)
        obtain ⟨a2, b2, c2⟩ := TShape.sAt_spec (n - 1).toNat 0 (k' + 1).toNat (by rw [← hs]; omega)
        have hless := TShape.less_of_rank _ _ 0 (by rw [a1, a2]) b1 b2 (by rw [c1, c2]; omega)
        obtain ⟨_, hr2'⟩ := shRank_shAt n (k' + 1) (by omega)
        have hnb : (((shAt n (k' + 1)).length : Int) == 0) = false := by rw [beq_eq_false_iff_ne]; omega
        rw [hnb]
        exact less_l0 n k' (shAt n k') r (shAt n (k' + 1)) (shRank r) hll (by omega) true (0 :: TShape.sAt (n - 1).toNat 0 k'.toNat) (0 :: TShape.sAt (n - 1).toNat 0 (k' + 1).toNat) 0 (by rw [List.drop_zero, e1]; rfl) (by rw [List.drop_zero, e2]; rfl) (by omega) (.inr ⟨rfl, hless⟩) (fin 0) fin
      · have e2 : shAt n (k' + 1) = [] := by unfold shAt; rw [if_neg (by omega)]
        have hnb : (((shAt n (k' + 1)).length : Int) == 0) = true := by rw [e2]; rfl
        rw [hnb]
        refine ev_succ ?_
        simp only [laws_FnShapes.l0]
        refine ev_neg (by rw [e2]; decide) ?_
        exact fin 0
    · have e : shAt n k' = [] := by unfold shAt; rw [if_neg (by omega)]
      rw [e]
      have fin : Ev (fun k => laws_FnShapes.j0 k l n k' [] (shCount n : Int) true) true := by
        refine ev_succ ?_
        simp only [laws_FnShapes.j0]
        refine ev_pos trivial (ev_pos (by simp) (ev_bind (spec_ShapeCount_ev n) (ev_some ?_)))
        simp
      by_cases hneg : k' < 0
      · exact ev_pos hneg fin
      · refine ev_neg hneg (ev_bind (spec_ShapeCount_ev n) ?_)
        rw [decide_eq_true (show k' ≥ (shCount n : Int) by omega)]
        exact fin

end Go.Proofs.Ytbogpdgfghpkeaa.Pure
