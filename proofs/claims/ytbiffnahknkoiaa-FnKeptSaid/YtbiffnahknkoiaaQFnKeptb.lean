/- What the printed functions of the law FnKept come to, function by function, from some number of rounds on; each under the bounds that it names. -/
import Derived.Test.YtbiffnahknkoiaaQFnKepta
namespace Go.Proofs.Ytbiffnahknkoiaa.QFnKept
open Go.RowKit Go.Proofs.Ytbiffnahknkoiaa.PFnKept Go.Proofs.YtbiffnahknkoiaaW.PrintWords Go.Proofs.YtbiffnahknkoiaaW.PrintLast Go.Proofs.YtbiffnahknkoiaaW.PrintMore Go.Proofs.Ytbiffnahknkoiaa.EvAid Go.Proofs.Ytbiffnahknkoiaa
set_option linter.unusedVariables false
set_option linter.unusedSimpArgs false

/-! #### _mapOk -/
def pA (m : List S47) (j : Nat) : Int := (rd_T47 m (j : Int)).f0
def pB (m : List S47) (j : Nat) : Int := (rd_T47 m (j : Int)).f1
/-- pair j fits those ahead of it -/
def okP (a b : List S45) (m : List S47) (j : Nat) : Prop := (hasB a (pA m j) = true ∧ hasB b (pB m j) = true ∧ (0 < j → pA m (j - 1) < pA m j)) ∧ ∀ k, k < j → pB m k < pB m j ∧ undB a (pA m k) (pA m j) = undB b (pB m k) (pB m j)
def mapOk (a b : List S45) (m : List S47) : Prop := (∀ j, j < m.length → okP a b m j) ∧ treeOk a = true ∧ treeOk b = true
/-- what is said from pair j on -/
noncomputable def mapFrom (a b : List S45) (m : List S47) (j : Nat) : Bool := cdec ((∀ i, j ≤ i → i < m.length → okP a b m i) ∧ treeOk a = true ∧ treeOk b = true)
theorem mapFrom_bad {a b : List S45} {m : List S47} {j : Nat} (hj : j < m.length) (h : ¬ okP a b m j) : mapFrom a b m j = false := cdec_false (fun h2 => h (h2.1 j (Nat.le_refl _) hj))
theorem mapFrom_step {a b : List S45} {m : List S47} {j : Nat} (hj : j < m.length) (h : okP a b m j) : mapFrom a b m j = mapFrom a b m (j + 1) := by
  unfold mapFrom
  refine cdec_congr ⟨fun h2 => ⟨fun i h3 h4 => h2.1 i (by omega) h4, h2.2⟩, fun h2 => ⟨fun i h3 h4 => ?_, h2.2⟩⟩
  by_cases e : i = j
  · subst e; exact h
  · exact h2.1 i (by omega) h4
theorem MapOk_in (a b : List S45) (m : List S47) (ha : (a.length : Int) ≤ 9223372036854775806) (hb : (b.length : Int) ≤ 9223372036854775806) (hm : m.length ≤ 4294967296) (j : Nat) (hj : j < m.length) (r : Bool)
    (hgood : (∀ k, k < j → pB m k < pB m j ∧ undB a (pA m k) (pA m j) = undB b (pB m k) (pB m j)) → Ev (fun k => spec_MapOk.l0 k a b m ((j + 1 : Nat) : Int)) r)
    (hbad : (¬ ∀ k, k < j → pB m k < pB m j ∧ undB a (pA m k) (pA m j) = undB b (pB m k) (pB m j)) → r = false) :
    ∀ (d k0 : Nat), k0 + d = j → (∀ k, k < k0 → pB m k < pB m j ∧ undB a (pA m k) (pA m j) = undB b (pB m k) (pB m j)) → Ev (fun k => spec_MapOk.l1 k a b m (j : Int) (k0 : Int)) r := by
  intro d
  induction d with
  | zero =>
    intro k0 h hall
    obtain rfl : k0 = j := by omega
    refine ev_succ ?_
    simp only [spec_MapOk.l1]
    have e0 : wrap64 ((k0 : Int) + 1) = ((k0 + 1 : Nat) : Int) := by rw [w64 (by omega) (by omega)]; omega
    rw [e0]
    clear e0
    exact ev_neg (by omega) (hgood hall)
  | succ d ih =>
    intro k0 h hall
    refine ev_succ ?_
    simp only [spec_MapOk.l1]
    have e0 : wrap64 ((k0 : Int) + 1) = ((k0 + 1 : Nat) : Int) := by rw [w64 (by omega) (by omega)]; omega
    rw [e0]
    clear e0
    refine ev_pos (by omega) (ev_pos (by omega) (ev_pos (by omega) (ev_pos (by omega) (ev_pos (by omega) ?_))))
    by_cases c : pB m k0 < pB m j
    · refine ev_neg (by show ¬ pB m k0 ≥ pB m j; omega) (ev_bind (spec_Under_ev a (pA m k0) (pA m j) ha) (ev_bind (spec_Under_ev b (pB m k0) (pB m j) hb) ?_))
      by_cases u : undB a (pA m k0) (pA m j) = undB b (pB m k0) (pB m j)
      · refine ev_neg (by rw [u]; simp) (ih (k0 + 1) (by omega) (fun k hk => ?_))
        by_cases e : k = k0
        · subst e; exact ⟨c, u⟩
        · exact hall k (by omega)
      · rw [hbad (fun h2 => u (h2 k0 (by omega)).2)]
        exact ev_pos (by simpa using u) (Ev.now _)
    · rw [hbad (fun h2 => c (h2 k0 (by omega)).1)]
      exact ev_pos (by show pB m k0 ≥ pB m j; omega) (Ev.now _)
theorem spec_MapOk_ev (a b : List S45) (m : List S47) (ha : (a.length : Int) ≤ 9223372036854775806) (hb : (b.length : Int) ≤ 9223372036854775806) (hm : m.length ≤ 4294967296) : Ev (fun k => spec_MapOk.f k a b m) (cdec (mapOk a b m)) := by
  have key : ∀ (d j : Nat), j + d = m.length → Ev (fun k => spec_MapOk.l0 k a b m (j : Int)) (mapFrom a b m j) := by
    intro d
    induction d with
    | zero =>
      intro j h
      refine ev_succ ?_
      simp only [spec_MapOk.l0]
      have e : mapFrom a b m j = (treeOk a && treeOk b) := by
        unfold mapFrom
        rw [Bool.eq_iff_iff, cdec_iff, Bool.and_eq_true]
        exact ⟨fun h2 => h2.2, fun h2 => ⟨fun i h3 h4 => by omega, h2⟩⟩
      rw [e]
      refine ev_neg (by omega) (ev_bind (spec_TreeOk_ev a ha) ?_)
      by_cases h1 : treeOk a = true
      · rw [h1, Bool.true_and]
        exact ev_pos rfl (ev_bind (spec_TreeOk_ev b hb) (Ev.now _))
      · rw [Bool.eq_false_iff.mpr h1, Bool.false_and]
        exact ev_neg (by decide) (Ev.now _)
    | succ d ih =>
      intro j h
      have hj : j < m.length := by omega
      have hr := ih (j + 1) (by omega)
      have bad : ∀ r, r = false → Ev (fun k => spec_MapOk.j1 k a b m (j : Int) true) r := by
        rintro r rfl
        refine ev_succ ?_
        simp only [spec_MapOk.j1]
        exact ev_pos (by first | trivial | rfl) (Ev.now _)
      refine ev_succ ?_
      simp only [spec_MapOk.l0]
      refine ev_pos (by omega) (ev_pos (by omega) (ev_bind (l3At_ev a (pA m j) ha) ?_))
      by_cases h1 : hasB a (pA m j) = true
      · refine ev_pos h1 (ev_bind (l3At_ev b (pB m j) hb) ?_)
        by_cases h2 : hasB b (pB m j) = true
        · refine ev_pos h2 ?_
          have on : (0 < j → pA m (j - 1) < pA m j) → Ev (fun k => spec_MapOk.j1 k a b m (j : Int) false) (mapFrom a b m j) := by
            intro h3
            refine ev_succ ?_
            simp only [spec_MapOk.j1]
            refine ev_neg (by decide) ?_
            refine MapOk_in a b m ha hb hm j hj _ (fun h4 => ?_) (fun h4 => mapFrom_bad hj (fun h5 => h4 h5.2)) j 0 (by omega) (fun k hk => by omega)
            rw [mapFrom_step hj ⟨⟨h1, h2, h3⟩, h4⟩]
            exact hr
          by_cases h0 : 0 < j
          · have e0 : wrap64 ((j : Int) - 1) = ((j - 1 : Nat) : Int) := by rw [w64 (by omega) (by omega)]; omega
            rw [e0]
            clear e0
            refine ev_pos (by omega) (ev_pos (by omega) (ev_pos (by omega) ?_))
            by_cases h3 : pA m (j - 1) < pA m j
            · have e1 : decide ((rd_T47 m (j : Int)).f0 ≤ (rd_T47 m ((j - 1 : Nat) : Int)).f0) = false := decide_eq_false (by show ¬ pA m j ≤ pA m (j - 1); omega)
              rw [e1]
              exact on (fun _ => h3)
            · have e1 : decide ((rd_T47 m (j : Int)).f0 ≤ (rd_T47 m ((j - 1 : Nat) : Int)).f0) = true := decide_eq_true (by show pA m j ≤ pA m (j - 1); omega)
              rw [e1]
              exact bad _ (mapFrom_bad hj (fun h5 => h3 (h5.1.2.2 h0)))
          · exact ev_neg (by omega) (on (fun h => absurd h h0))
        · exact ev_neg h2 (bad _ (mapFrom_bad hj (fun h5 => h2 h5.1.2.1)))
      · exact ev_neg h1 (bad _ (mapFrom_bad hj (fun h5 => h1 h5.1.1)))
  simp only [spec_MapOk.f]
  have h := key m.length 0 (by omega)
  have e : mapFrom a b m 0 = cdec (mapOk a b m) := by
    unfold mapFrom mapOk
    exact cdec_congr ⟨fun h => ⟨fun j hj => h.1 j (Nat.zero_le _) hj, h.2⟩, fun h => ⟨fun j _ hj => h.1 j hj, h.2⟩⟩
  rwa [e] at h

/-! #### _l7Cost -/
/-- costs of the right sizes -/
def CostL (x y z : List Int) : Prop := x.length = 6 ∧ y.length = 6 ∧ z.length = 36
theorem l7Cost_l0 (s : List Int) (x y : List Int) (i h0 : Int) (hc : Cur s i) (hx : x.length = 6) (hy : y.length = 6) : ∀ (d j : Nat) (z : List Int), j + d = z.length → z.length = 36 → ∃ z', Ev (fun k => spec_l7Cost.l0 k (j : Int) s i h0 x y z) (x, y, z', i, h0) ∧ CostL x y z' := by
  intro d
  induction d with
  | zero =>
    intro j z h hz
    refine ⟨z, ev_succ ?_, hx, hy, hz⟩
    simp only [spec_l7Cost.l0]
    exact ev_neg (by omega) (Ev.now _)
  | succ d ih =>
    intro j z h hz
    obtain ⟨z', e, hl⟩ := ih (j + 1) (z.set ((j : Int)).toNat (wrap64 ((rd z (j : Int)) * 3))) (by rw [List.length_set]; omega) (by rw [List.length_set]; exact hz)
    refine ⟨z', ev_succ ?_, hl⟩
    simp only [spec_l7Cost.l0]
    have e0 : wrap64 ((j : Int) + 1) = ((j + 1 : Nat) : Int) := by rw [w64 (by omega) (by omega)]; omega
    rw [e0]
    clear e0
    exact ev_pos (by omega) (ev_pos (by omega) e)
theorem l7Cost_l2 (s : List Int) (p : Nat) (hp : p < 6) (x y : List Int) (hx : x.length = 6) (hy : y.length = 6)
    (next : ∀ (i h0 : Int) (z : List Int), Cur s i → z.length = 36 → ∃ x' y' z' i' h, Ev (fun k => spec_l7Cost.l1 k ((p + 1 : Nat) : Int) s i h0 x y z) (x', y', z', i', h) ∧ CostL x' y' z' ∧ Cur s i') :
    ∀ (d j : Nat) (i h0 : Int) (z : List Int), j + d = 6 → Cur s i → z.length = 36 → ∃ x' y' z' i' h, Ev (fun k => spec_l7Cost.l2 k (p : Int) (j : Int) s i h0 x y z) (x', y', z', i', h) ∧ CostL x' y' z' ∧ Cur s i' := by
  intro d
  induction d with
  | zero =>
    intro j i h0 z hj hc hz
    obtain ⟨x', y', z', i', h, e, hl, hc'⟩ := next i h0 z hc hz
    refine ⟨x', y', z', i', h, ev_succ ?_, hl, hc'⟩
    simp only [spec_l7Cost.l2]
    have e0 : wrap64 ((p : Int) + 1) = ((p + 1 : Nat) : Int) := by rw [w64 (by omega) (by omega)]; omega
    rw [e0]
    clear e0
    exact ev_neg (by omega) e
  | succ d ih =>
    intro j i h0 z hj hc hz
    have e0 : PLift (wrap64 ((j : Int) + 1) = ((j + 1 : Nat) : Int)) := ⟨by rw [w64 (by omega) (by omega)]; omega⟩
    by_cases c : p = j
    · obtain ⟨x', y', z', i', h, e, hl, hc'⟩ := ih (j + 1) i h0 z (by omega) hc hz
      refine ⟨x', y', z', i', h, ev_succ ?_, hl, hc'⟩
      simp only [spec_l7Cost.l2]
      rw [e0.down]
      exact ev_pos (by omega) (ev_pos (by omega) e)
    · obtain ⟨q, i1, h1, b1, _, hc1⟩ := l1PickInt_ok s i h0 [0, 1, 4, 9, 1000] (by simp) hc
      have e1 : PLift (wrap64 ((wrap64 ((p : Int) * 6)) + (j : Int)) = ((p * 6 + j : Nat) : Int)) := ⟨by rw [w64 (x := (p : Int) * 6) (by omega) (by omega), w64 (by omega) (by omega)]; omega⟩
      obtain ⟨x', y', z', i', h, e, hl, hc'⟩ := ih (j + 1) i1 h1 (z.set (((p * 6 + j : Nat) : Int)).toNat (rd [0, 1, 4, 9, 1000] (q : Int))) (by omega) hc1 (by rw [List.length_set]; exact hz)
      refine ⟨x', y', z', i', h, ev_succ ?_, hl, hc'⟩
      simp only [spec_l7Cost.l2]
      rw [e0.down, e1.down]
      exact ev_pos (by omega) (ev_neg (by omega) (ev_bindc b1 (ev_pos (by omega) (ev_pos (by omega) e))))
theorem l7Cost_l1 (s : List Int) : ∀ (d p : Nat) (i h0 : Int) (x y z : List Int), p + d = 6 → Cur s i → CostL x y z → ∃ x' y' z' i' h, Ev (fun k => spec_l7Cost.l1 k (p : Int) s i h0 x y z) (x', y', z', i', h) ∧ CostL x' y' z' ∧ Cur s i' := by
  intro d
  induction d with
  | zero =>
    intro p i h0 x y z hp hc hl
    refine ⟨x, y, z, i, h0, ev_succ ?_, hl, hc⟩
    simp only [spec_l7Cost.l1]
    exact ev_neg (by omega) (Ev.now _)
  | succ d ih =>
    intro p i h0 x y z hp hc hl
    obtain ⟨hx, hy, hz⟩ := hl
    obtain ⟨u, i1, h1, b1, _, _, _, hc1⟩ := l1Below_ok s i h0 7 hc
    obtain ⟨v, i2, h2, b2, _, _, _, hc2⟩ := l1Below_ok s i1 h1 7 hc1
    obtain ⟨x', y', z', i', h, e, hl, hc'⟩ := l7Cost_l2 s p (by omega) (x.set ((p : Int)).toNat u) (y.set ((p : Int)).toNat v) (by rw [List.length_set]; exact hx) (by rw [List.length_set]; exact hy) (fun i h0 z hc hz => ih (p + 1) i h0 _ _ z (by omega) hc ⟨by rw [List.length_set]; exact hx, by rw [List.length_set]; exact hy, hz⟩) 6 0 i2 h2 z (by omega) hc2 hz
    refine ⟨x', y', z', i', h, ev_succ ?_, hl, hc'⟩
    simp only [spec_l7Cost.l1]
    exact ev_pos (by omega) (ev_bindc b1 (ev_pos (by omega) (ev_pos (by omega) (ev_bindc b2 (ev_pos (by omega) e)))))
theorem l7Cost_ok (s : List Int) (i h0 : Int) (hc : Cur s i) : ∃ x y z i' h, Ev (fun k => spec_l7Cost.f k s i h0) (x, y, z, i', h) ∧ CostL x y z ∧ Cur s i' := by
  obtain ⟨t, i1, h1, b1, _, _, _, hc1⟩ := l1Below_ok s i h0 4 hc
  have hu : CostL unitD unitD unitR := ⟨rfl, rfl, rfl⟩
  simp only [spec_l7Cost.f]
  by_cases c0 : t = 0
  · exact ⟨unitD, unitD, unitR, i1, h1, ev_bind UnitCost_ev (ev_bindc b1 (ev_pos c0 (Ev.now _))), hu, hc1⟩
  · by_cases c1 : t = 1
    · obtain ⟨z', e, hl⟩ := l7Cost_l0 s unitD unitD i1 h1 hc1 rfl rfl 36 0 unitR rfl rfl
      exact ⟨unitD, unitD, z', i1, h1, ev_bind UnitCost_ev (ev_bindc b1 (ev_neg c0 (ev_pos c1 e))), hl, hc1⟩
    · obtain ⟨x', y', z', i', h, e, hl, hc'⟩ := l7Cost_l1 s 6 0 i1 h1 unitD unitD unitR (by omega) hc1 hu
      exact ⟨x', y', z', i', h, ev_bind UnitCost_ev (ev_bindc b1 (ev_neg c0 (ev_neg c1 e))), hl, hc'⟩
theorem l7Any_ok (s : List Int) (i h0 : Int) (hc : Cur s i) : ∃ x y z i' h, Ev (fun k => spec_l7Any.f k s i h0) (x, y, z, i', h) ∧ Cur s i' := by
  obtain ⟨x, y, z, i1, h1, b1, ⟨hx, hy, hz⟩, hc1⟩ := l7Cost_ok s i h0 hc
  obtain ⟨t, i2, h2, b2, _, _, _, hc2⟩ := l1Below_ok s i1 h1 14 hc1
  simp only [spec_l7Any.f]
  by_cases c0 : t = 0
  · obtain ⟨u, i3, h3, b3, u0, u1, _, hc3⟩ := l1Below_ok s i2 h2 6 hc2
    have u2 := u1 (by decide)
    obtain ⟨q, i4, h4, b4, _, hc4⟩ := l1PickInt_ok s i3 h3 [(-1), 1001, 1000] (by simp) hc3
    exact ⟨_, _, _, i4, h4, ev_bind b1 (ev_bindc b2 (ev_pos c0 (ev_bindc b3 (ev_bindc b4 (ev_pos u0 (ev_pos (by dsimp only; omega) (Ev.now _))))))), hc4⟩
  · by_cases c1 : t = 1
    · obtain ⟨u, i3, h3, b3, u0, u1, _, hc3⟩ := l1Below_ok s i2 h2 36 hc2
      have u2 := u1 (by decide)
      exact ⟨_, _, _, i3, h3, ev_bind b1 (ev_bindc b2 (ev_neg c0 (ev_pos c1 (ev_bindc b3 (ev_pos u0 (ev_pos (by dsimp only; omega) (Ev.now _))))))), hc3⟩
    · by_cases c2 : t = 2
      · exact ⟨_, _, _, i2, h2, ev_bind b1 (ev_bindc b2 (ev_neg c0 (ev_neg c1 (ev_pos c2 (ev_pos (by dsimp only; omega) (Ev.now _)))))), hc2⟩
      · exact ⟨_, _, _, i2, h2, ev_bind b1 (ev_bindc b2 (ev_neg c0 (ev_neg c1 (ev_neg c2 (Ev.now _))))), hc2⟩

/-! #### _drawMap -/
theorem l10Map_l0 (s : List Int) (a b : List S45) (ha : a.length ≤ 100000) (hb : b.length ≤ 100000) : ∀ (d x : Nat) (m : List S47) (i h0 : Int), a.length ≤ x + d → 1 ≤ m.length → m.length ≤ x → x + d ≤ 200000 → Cur s i → ∃ r i' h, Ev (fun k => spec_l10Map.l0 k a b m (x : Int) s i h0) (r, i', h) ∧ 1 ≤ r.length ∧ r.length ≤ 200000 ∧ Cur s i' := by
  intro d
  induction d with
  | zero =>
    intro x m i h0 hx h1 h2 h3 hc
    refine ⟨m, i, h0, ev_succ ?_, h1, by omega, hc⟩
    simp only [spec_l10Map.l0]
    exact ev_neg (by omega) (Ev.now _)
  | succ d ih =>
    intro x m i h0 hx h1 h2 h3 hc
    by_cases hxa : x < a.length
    · have e0 : PLift (wrap64 ((x : Int) + 1) = ((x + 1 : Nat) : Int)) := ⟨by rw [w64 (by omega) (by omega)]; omega⟩
      have e1 : PLift (wrap64 ((m.length : Int) - 1) = ((m.length - 1 : Nat) : Int)) := ⟨by rw [w64 (by omega) (by omega)]; omega⟩
      have key : ∀ (e y : Nat) (i h0 : Int), y + e = 3 → Cur s i → ∃ r i' h, Ev (fun k => spec_l10Map.l1 k a b m (x : Int) (y : Int) s i h0) (r, i', h) ∧ 1 ≤ r.length ∧ r.length ≤ 200000 ∧ Cur s i' := by
        intro e
        induction e with
        | zero =>
          intro y i h0 hy hc
          obtain ⟨r, i', h, g, g1, g2, g3⟩ := ih (x + 1) m i h0 (by omega) h1 (by omega) (by omega) hc
          refine ⟨r, i', h, ev_succ ?_, g1, g2, g3⟩
          simp only [spec_l10Map.l1]
          rw [e0.down]
          exact ev_neg (by omega) g
        | succ e ih2 =>
          intro y i h0 hy hc
          obtain ⟨t, i1, q1, b1, _, _, _, hc1⟩ := l1Below_ok s i h0 3 hc
          have e2 : PLift (wrap64 ((y : Int) + 1) = ((y + 1 : Nat) : Int)) := ⟨by rw [w64 (by omega) (by omega)]; omega⟩
          obtain ⟨m', hm'⟩ : ∃ m', m' = m ++ [(⟨(x : Int), wrap64 ((wrap64 (((rd_T47 m ((m.length - 1 : Nat) : Int)).f1) + 1)) + t)⟩ : S47)] := ⟨_, rfl⟩
          have hl : m'.length = m.length + 1 := by rw [hm', List.length_append, List.length_singleton]
          have hok := spec_MapOk_ev a b m' (by omega) (by omega) (by omega)
          have walk : ∀ R, Ev (fun k => if cdec (mapOk a b m') = true then (spec_l10Map.l0 k a b m' ((x + 1 : Nat) : Int) s i1 q1) else (spec_l10Map.l1 k a b m (x : Int) ((y + 1 : Nat) : Int) s i1 q1)) R → Ev (fun k => spec_l10Map.l1 k a b m (x : Int) (y : Int) s i h0) R := by
            intro R hR
            refine ev_succ ?_
            simp only [spec_l10Map.l1]
            rw [e0.down, e1.down, e2.down]
            refine ev_pos (by omega) (ev_bindc rfl (ev_pos (by simp only [List.length_nil]; omega) (ev_bindc rfl (ev_pos (by omega) (ev_pos (by omega) (ev_bindc b1 (ev_pos (by rw [List.nil_append]; omega) (ev_bindc rfl ?_))))))))
            rw [List.nil_append, ← hm']
            exact ev_bind hok hR
          by_cases c : cdec (mapOk a b m') = true
          · obtain ⟨r, i', h, g, g1, g2, g3⟩ := ih (x + 1) m' i1 q1 (by omega) (by omega) (by omega) (by omega) hc1
            exact ⟨r, i', h, walk _ (ev_pos c g), g1, g2, g3⟩
          · obtain ⟨r, i', h, g, g1, g2, g3⟩ := ih2 (y + 1) i1 q1 (by omega) hc1
            exact ⟨r, i', h, walk _ (ev_neg c g), g1, g2, g3⟩
      obtain ⟨r, i', h, g, g1, g2, g3⟩ := key 3 0 i h0 rfl hc
      refine ⟨r, i', h, ev_succ ?_, g1, g2, g3⟩
      simp only [spec_l10Map.l0]
      exact ev_pos (by omega) g
    · refine ⟨m, i, h0, ev_succ ?_, h1, by omega, hc⟩
      simp only [spec_l10Map.l0]
      exact ev_neg (by omega) (Ev.now _)
theorem l10Any_ok (s : List Int) (a b : List S45) (ha : a.length ≤ 100000) (hb : b.length ≤ 100000) (i h0 : Int) (hc : Cur s i) : ∃ r i' h, Ev (fun k => spec_l10Any.f k s i h0 a b) (r, i', h) ∧ r.length ≤ 200001 ∧ Cur s i' := by
  obtain ⟨m, i1, h1, g, g1, g2, hc1⟩ := l10Map_l0 s a b ha hb 100000 1 [⟨0, 0⟩] i h0 (by omega) (by simp) (by simp) (by omega) hc
  obtain ⟨x, i2, h2, b2, x0, x1, _, hc2⟩ := l1Below_ok s i1 h1 (m.length : Int) hc1
  have x2 := x1 (by omega)
  obtain ⟨y, i3, h3, b3, _, _, _, hc3⟩ := l1Below_ok s i2 h2 12 hc2
  simp only [spec_l10Any.f, spec_l10Map.f]
  by_cases c0 : y = 0
  · obtain ⟨z, i4, h4, b4, _, _, _, hc4⟩ := l1Below_ok s i3 h3 (wrap64 ((b.length : Int) + 1)) hc3
    exact ⟨_, i4, h4, ev_bind g (ev_bindc b2 (ev_bindc b3 (ev_pos c0 (ev_bindc b4 (ev_pos x0 (ev_pos x2 (Ev.now _))))))), by rw [List.length_set]; dsimp only; omega, hc4⟩
  by_cases c1 : y = 1
  · obtain ⟨z, i4, h4, b4, _, _, _, hc4⟩ := l1Below_ok s i3 h3 (wrap64 ((a.length : Int) + 2)) hc3
    exact ⟨_, i4, h4, ev_bind g (ev_bindc b2 (ev_bindc b3 (ev_neg c0 (ev_pos c1 (ev_bindc b4 (ev_pos x0 (ev_pos x2 (Ev.now _)))))))), by rw [List.length_set]; dsimp only; omega, hc4⟩
  by_cases c2 : y = 2
  · exact ⟨_, i3, h3, ev_bind g (ev_bindc b2 (ev_bindc b3 (ev_neg c0 (ev_neg c1 (ev_pos c2 (ev_pos (by dsimp only; omega) (Ev.now _))))))), by rw [List.length_drop]; dsimp only; omega, hc3⟩
  by_cases c3 : y = 3
  · exact ⟨_, i3, h3, ev_bind g (ev_bindc b2 (ev_bindc b3 (ev_neg c0 (ev_neg c1 (ev_neg c2 (ev_pos c3 (ev_pos x0 (ev_pos x2 (ev_pos (by dsimp only; omega) (Ev.now _)))))))))), by rw [List.length_append, List.length_singleton]; dsimp only; omega, hc3⟩
  · exact ⟨_, i3, h3, ev_bind g (ev_bindc b2 (ev_bindc b3 (ev_neg c0 (ev_neg c1 (ev_neg c2 (ev_neg c3 (Ev.now _))))))), by dsimp only; omega, hc3⟩
theorem l8Draw_j0 (s : List Int) (most : Nat) (hm : most ≤ 900) (a b : List S45) (ha : a.length ≤ 50000) (hb : b.length ≤ 50000) (i h0 : Int) (hc : Cur s i) : ∃ a' b' x y z i' h, Ev (fun k => spec_l8Draw.j0 k (most : Int) a b s i h0) (a', b', x, y, z, i', h) ∧ a'.length ≤ 50000 ∧ b'.length ≤ 50000 ∧ Cur s i' := by
  obtain ⟨x, y, z, i1, h1, g1, _, hc1⟩ := l7Cost_ok s i h0 hc
  obtain ⟨t, i2, h2, b2, _, _, _, hc2⟩ := l1Below_ok s i1 h1 24 hc1
  have st : ∀ R, Ev (fun k => if t = 0 then ((spec_l3Any.f k s i2 h2 (most : Int)).bind fun bt390 => (some (bt390.1, b, x, y, z, bt390.2.1, bt390.2.2))) else (if t = 1 then ((spec_l7Any.f k s i2 h2).bind fun bt395 => (some (a, b, bt395.1, bt395.2.1, bt395.2.2.1, bt395.2.2.2.1, bt395.2.2.2.2))) else (some (a, b, x, y, z, i2, h2)))) R → Ev (fun k => spec_l8Draw.j0 k (most : Int) a b s i h0) R := by
    intro R hR
    refine ev_succ ?_
    simp only [spec_l8Draw.j0]
    exact ev_bind g1 (ev_bindc b2 hR)
  by_cases c0 : t = 0
  · obtain ⟨r, i3, h3, g3, hr, hc3⟩ := l3Any_ok s i2 h2 most hm hc2
    exact ⟨_, _, _, _, _, _, _, st _ (ev_pos c0 (ev_bind g3 (Ev.now _))), by dsimp only; omega, hb, hc3⟩
  by_cases c1 : t = 1
  · obtain ⟨x', y', z', i3, h3, g3, hc3⟩ := l7Any_ok s i2 h2 hc2
    exact ⟨_, _, _, _, _, _, _, st _ (ev_neg c0 (ev_pos c1 (ev_bind g3 (Ev.now _)))), ha, hb, hc3⟩
  · exact ⟨_, _, _, _, _, _, _, st _ (ev_neg c0 (ev_neg c1 (Ev.now _))), ha, hb, hc2⟩
theorem l8Draw_ok (s : List Int) (most : Nat) (hm : most ≤ 900) (i h0 : Int) (hc : Cur s i) : ∃ a b x y z i' h, Ev (fun k => spec_l8Draw.f k s i h0 (most : Int)) (a, b, x, y, z, i', h) ∧ a.length ≤ 50000 ∧ b.length ≤ 50000 ∧ Cur s i' := by
  obtain ⟨a, i1, h1, g1, ha, hc1⟩ := l3Tree_ok s i h0 most hm hc
  obtain ⟨b, i2, h2, g2, hb, hc2⟩ := l3Tree_ok s i1 h1 most hm hc1
  obtain ⟨t, i3, h3, b3, hc3⟩ := l1Once_ok s i2 h2 2 hc2
  have ha2 := ha.2.1
  have hb2 := hb.2.1
  simp only [spec_l8Draw.f]
  by_cases c : t = true
  · obtain ⟨r, i4, h4, g4, hr, hc4⟩ := l3Near_ok s i3 h3 a (by omega) hc3
    obtain ⟨a', b', x, y, z, i', h, g, g5, g6, g7⟩ := l8Draw_j0 s most hm a r (by omega) (by omega) i4 h4 hc4
    exact ⟨a', b', x, y, z, i', h, ev_bind g1 (ev_bind g2 (ev_bindc b3 (ev_pos c (ev_bind g4 g)))), g5, g6, g7⟩
  · obtain ⟨a', b', x, y, z, i', h, g, g5, g6, g7⟩ := l8Draw_j0 s most hm a b (by omega) (by omega) i3 h3 hc3
    exact ⟨a', b', x, y, z, i', h, ev_bind g1 (ev_bind g2 (ev_bindc b3 (ev_neg c g))), g5, g6, g7⟩
theorem DrawMapCost_ok (l : List Int) (hl : (l.length : Int) ≤ 4611686018427387904) : ∃ a b x y z m, Ev (fun k => spec_DrawMapCost.f k l) (a, b, x, y, z, m) ∧ a.length ≤ 50000 ∧ b.length ≤ 50000 ∧ m.length ≤ 200001 := by
  obtain ⟨h0, g0⟩ := l1New_ev l hl
  have hc : Cur l 0 := ⟨⟨by omega, by omega⟩, hl⟩
  obtain ⟨a, b, x, y, z, i1, h1, g1, ha, hb, hc1⟩ := l8Draw_ok l 8 (by omega) 0 h0 hc
  obtain ⟨m, i2, h2, g2, hm, hc2⟩ := l10Any_ok l a b (by omega) (by omega) i1 h1 hc1
  refine ⟨a, b, x, y, z, m, ?_, ha, hb, hm⟩
  simp only [spec_DrawMapCost.f, spec_l10Draw.f]
  exact ev_bind g0 (ev_bind (ev_bind g1 (ev_bind g2 (Ev.now _))) (Ev.now _))

/-! #### _postOrder -/
theorem pow_step (n i : Nat) (h : i + 1 < n) : 2 ^ (n - 1 - i) = 2 * 2 ^ (n - 1 - (i + 1)) := by
  have e : n - 1 - i = (n - 1 - (i + 1)) + 1 := by omega
  rw [e, Nat.pow_succ]
  exact Nat.mul_comm _ _
theorem pow_mono (n a b : Nat) (h : a ≤ b) : 2 ^ (n - 1 - b) ≤ 2 ^ (n - 1 - a) := Nat.pow_le_pow_right (by decide) (by omega)
theorem l6Post_loop (l : List S45) (h24 : l.length ≤ 24) (i : Nat) (hi : i < l.length) (K : List Nat)
    (hKl : K.length ≤ 24) (hk : ∀ c ∈ K, c < l.length ∧ ∃ r, Ev (fun k => spec_l6Post.f k l (c : Int)) r ∧ r.length ≤ 2 ^ (l.length - 1 - c)) :
    ∀ (rest done : List Nat) (acc : List Int) (last : Nat), K = done ++ rest → rest.Pairwise (· < ·) → (∀ c ∈ rest, last < c) → acc.length + 2 ^ (l.length - 1 - last) ≤ 2 ^ (l.length - 1 - i) →
      ∃ r, Ev (fun k => spec_l6Post.l0 k l (i : Int) acc (K.map Int.ofNat) (done.length : Int)) r ∧ r.length ≤ 2 ^ (l.length - 1 - i) := by
  have hB : 2 ^ (l.length - 1 - i) ≤ 8388608 := Nat.le_trans (Nat.pow_le_pow_right (by decide) (by omega)) (Nat.le_of_eq (show 2 ^ 23 = 8388608 by decide))
  intro rest
  induction rest with
  | nil =>
    intro done acc last hK _ _ hacc
    have h1 : 1 ≤ 2 ^ (l.length - 1 - last) := Nat.one_le_two_pow
    have hl : (K.map Int.ofNat).length = done.length := by rw [hK, List.append_nil, List.length_map]
    refine ⟨acc ++ [(i : Int)], ev_succ ?_, by rw [List.length_append, List.length_singleton]; omega⟩
    simp only [spec_l6Post.l0]
    exact ev_neg (by omega) (ev_pos (by omega) (Ev.now _))
  | cons c rest ih =>
    intro done acc last hK hs hall hacc
    rw [List.pairwise_cons] at hs
    have hc := hall c List.mem_cons_self
    obtain ⟨hcl, r, hr, hrl⟩ := hk c (by rw [hK]; simp)
    have hstep : 2 * 2 ^ (l.length - 1 - c) ≤ 2 ^ (l.length - 1 - last) := by
      have h1 := pow_step l.length last (by omega)
      have h2 := pow_mono l.length (last + 1) c (by omega)
      omega
    obtain ⟨q, g1, g2⟩ := ih (done ++ [c]) (acc ++ r) c (by rw [hK]; simp) hs.2 hs.1 (by rw [List.length_append]; omega)
    have hl : (K.map Int.ofNat).length = done.length + (rest.length + 1) := by rw [hK, List.length_map, List.length_append, List.length_cons]
    have hl2 : K.length = done.length + (rest.length + 1) := by rw [hK, List.length_append, List.length_cons]
    have hget : rd (K.map Int.ofNat) (done.length : Int) = (c : Int) := by
      show (K.map Int.ofNat).getD (done.length : Int).toNat _ = _
      rw [Int.toNat_natCast, hK, List.map_append, List.map_cons, List.getD_eq_getElem?_getD, List.getElem?_append_right (by rw [List.length_map]; omega), List.length_map, Nat.sub_self]
      rfl
    have hK24 : done.length ≤ 24 := by omega
    refine ⟨q, ev_succ ?_, g2⟩
    simp only [spec_l6Post.l0]
    rw [hget]
    have e0 : wrap64 ((done.length : Int) + 1) = ((done ++ [c]).length : Int) := by rw [w64 (by omega) (by omega), List.length_append, List.length_singleton]; omega
    rw [e0]
    clear e0
    exact ev_pos (by omega) (ev_pos (by omega) (ev_bind hr (ev_pos (by omega) g1)))
theorem l6Post_ok (l : List S45) (ht : treeOk l = true) : ∀ (t i : Nat), i + t = l.length → i < l.length → ∃ r, Ev (fun k => spec_l6Post.f k l (i : Int)) r ∧ r.length ≤ 2 ^ (l.length - 1 - i) := by
  have h24 := (treeOk_iff.1 ht).1.2
  intro t
  induction t using Nat.strongRecOn with
  | ind t ih =>
    intro i hit hi
    have hh : hasB l (i : Int) = true := hasB_iff.2 ⟨ht, by omega, by omega⟩
    have hK : kidsI l (i : Int) = (Tree.kids l.length (dpA l) i).map Int.ofNat := by unfold kidsI; rw [if_pos hh, Int.toNat_natCast]
    have he := Tree.eo_le (D := dpA l) hi
    have hlen := Tree.kids_length (n := l.length) (D := dpA l) (i := i)
    obtain ⟨r, g1, g2⟩ := l6Post_loop l h24 i hi (Tree.kids l.length (dpA l) i) (by omega) (fun c hc => by
      obtain ⟨h1, h2, _⟩ := Tree.mem_kids.1 hc
      exact ⟨by omega, ih (l.length - c) (by omega) c (by omega) (by omega)⟩) (Tree.kids l.length (dpA l) i) [] [] i (by simp) Tree.kids_sorted (fun c hc => (Tree.mem_kids.1 hc).1) (by simp)
    refine ⟨r, ev_succ ?_, g2⟩
    simp only [spec_l6Post.f]
    have hko := spec_KidsOf_ev l (i : Int) (by omega)
    rw [hK] at hko
    exact ev_bind hko g1
theorem PostOrder_ok (l : List S45) (hm : (l.length : Int) ≤ 9223372036854775806) : ∃ r, Ev (fun k => spec_PostOrder.f k l) r ∧ r.length ≤ 8388608 := by
  simp only [spec_PostOrder.f]
  by_cases ht : treeOk l = true
  · obtain ⟨h1, h24⟩ := (treeOk_iff.1 ht).1
    obtain ⟨r, g1, g2⟩ := l6Post_ok l ht l.length 0 (by omega) (by omega)
    refine ⟨r, ev_bind (spec_TreeOk_ev l hm) (ev_pos ht (ev_bind g1 (Ev.now _))), Nat.le_trans g2 (Nat.le_trans (Nat.pow_le_pow_right (by decide) (show l.length - 1 - 0 ≤ 23 by omega)) (by decide))⟩
  · exact ⟨[], ev_bind (spec_TreeOk_ev l hm) (ev_neg ht (Ev.now _)), by simp⟩

/-! #### _keptI -/
/-- how many that belong to none lie above node i -/
def cntG (a : List S45) (i : Int) (g : List Int) : Nat := (g.filter (fun k => undB a k i)).length
/-- those that belong to some, each less deep by what is gone above it -/
def keptI (a : List S45) (m : List S47) (n : Nat) : List S45 := ((List.range n).filter (fun (i : Nat) => isA m (i : Int))).map (fun (i : Nat) => (⟨lbA a i, dpA a i - (cntG a (i : Int) (gone a.length m) : Int)⟩ : S45))
theorem keptI_step (a : List S45) (m : List S47) (n : Nat) : keptI a m (n + 1) = keptI a m n ++ (if isA m (n : Int) = true then [⟨lbA a n, dpA a n - (cntG a (n : Int) (gone a.length m) : Int)⟩] else []) := by
  unfold keptI
  rw [List.range_succ, List.filter_append, List.map_append]
  congr 1
  by_cases h : isA m (n : Int) = true
  · rw [if_pos h, List.filter_cons_of_pos (by exact h)]; rfl
  · rw [if_neg h, List.filter_cons_of_neg (by exact h)]; rfl
theorem keptI_length (a : List S45) (m : List S47) (n : Nat) : (keptI a m n).length = ((List.range n).filter (fun (i : Nat) => isA m (i : Int))).length := by unfold keptI; rw [List.length_map]
theorem keptI_le (a : List S45) (m : List S47) (n : Nat) : (keptI a m n).length ≤ n := by
  rw [keptI_length]
  exact Nat.le_trans (List.length_filter_le _ _) (by simp)
theorem mem_gone (n : Nat) (m : List S47) (k : Nat) : (k : Int) ∈ gone n m ↔ k < n ∧ isA m (k : Int) = false := by
  unfold gone
  rw [List.mem_map]
  constructor
  · rintro ⟨j, hj, e⟩
    obtain rfl : j = k := by omega
    rw [List.mem_filter, List.mem_range] at hj
    exact ⟨hj.1, by simpa using hj.2⟩
  · rintro ⟨h1, h2⟩
    exact ⟨k, List.mem_filter.2 ⟨List.mem_range.2 h1, by rw [h2]; rfl⟩, rfl⟩
theorem Kept_l1 (a : List S45) (i : Nat) (hi : i < a.length) (ha : a.length ≤ 24) (g : List Int) (hg : g.length ≤ 24) (hd : 0 ≤ dpA a i ∧ dpA a i ≤ 12) (x : List S45) (r : List S45) (hx : x.length ≤ 24)
    (h : Ev (fun k => impl_Kept.l0 k a (x ++ [⟨lbA a i, dpA a i - (cntG a (i : Int) g : Int)⟩]) g a (a.length : Int) ((i + 1 : Nat) : Int)) r) :
    ∀ (d j : Nat), j + d = g.length → Ev (fun k => impl_Kept.l1 k a x g (i : Int) (dpA a i - (cntG a (i : Int) (g.take j) : Int)) a (a.length : Int) (i : Int) g (g.length : Int) (j : Int) (lbA a i) (dpA a i)) r := by
  intro d
  induction d with
  | zero =>
    intro j hj
    refine ev_succ ?_
    simp only [impl_Kept.l1]
    have e0 : wrap64 ((i : Int) + 1) = ((i + 1 : Nat) : Int) := by rw [w64 (by omega) (by omega)]; omega
    rw [e0]
    clear e0
    rw [List.take_of_length_le (by omega)]
    exact ev_neg (by omega) (ev_pos (by omega) h)
  | succ d ih =>
    intro j hj
    have hjl : j < g.length := by omega
    have hc : cntG a (i : Int) (g.take j) ≤ 24 := by
      unfold cntG
      exact Nat.le_trans (List.length_filter_le _ _) (by rw [List.length_take]; omega)
    have ht : cntG a (i : Int) (g.take (j + 1)) = cntG a (i : Int) (g.take j) + (if undB a g[j] (i : Int) = true then 1 else 0) := by
      unfold cntG
      rw [List.take_add_one, List.getElem?_eq_getElem hjl, Option.toList_some, List.filter_append, List.length_append]
      congr 1
      by_cases hu : undB a g[j] (i : Int) = true
      · rw [if_pos hu]; simp [hu]
      · rw [if_neg hu]; simp [hu]
    have hr := ih (j + 1) (by omega)
    have hget : rd g (j : Int) = g[j] := by show g.getD (j : Int).toNat _ = _; rw [Int.toNat_natCast]; simp [hjl]
    refine ev_succ ?_
    simp only [impl_Kept.l1]
    have e0 : wrap64 ((j : Int) + 1) = ((j + 1 : Nat) : Int) := by rw [w64 (by omega) (by omega)]; omega
    rw [e0, hget]
    clear e0
    refine ev_pos (by omega) (ev_pos (by omega) (ev_pos (by omega) (ev_bind (impl_Under_ev a g[j] (i : Int) (by omega)) ?_)))
    by_cases hu : undB a g[j] (i : Int) = true
    · rw [if_pos hu] at ht
      rw [w64 (x := dpA a i - (cntG a (i : Int) (g.take j) : Int) - 1) (by omega) (by omega)]
      refine ev_pos hu ?_
      have e1 : dpA a i - (cntG a (i : Int) (g.take j) : Int) - 1 = dpA a i - (cntG a (i : Int) (g.take (j + 1)) : Int) := by omega
      rw [e1]
      exact hr
    · rw [if_neg hu] at ht
      refine ev_neg hu ?_
      have e1 : cntG a (i : Int) (g.take j) = cntG a (i : Int) (g.take (j + 1)) := by omega
      rw [e1]
      exact hr
theorem Kept_l0 (a : List S45) (m : List S47) (ht : treeOk a = true) : ∀ (d i : Nat), i + d = a.length → Ev (fun k => impl_Kept.l0 k a (keptI a m i) (gone a.length m) a (a.length : Int) (i : Int)) (keptI a m a.length) := by
  have h24 := (treeOk_iff.1 ht).1.2
  have hg := gone_length a.length m
  intro d
  induction d with
  | zero =>
    intro i h
    obtain rfl : i = a.length := by omega
    refine ev_succ ?_
    simp only [impl_Kept.l0]
    exact ev_neg (by omega) (Ev.now _)
  | succ d ih =>
    intro i h
    have hi : i < a.length := by omega
    have hr := ih (i + 1) (by omega)
    rw [keptI_step] at hr
    have hk := keptI_le a m i
    have hcon := containsI_ev (gone a.length m) (i : Int) (by omega)
    refine ev_succ ?_
    simp only [impl_Kept.l0]
    rw [rd_f0, rd_f1]
    refine ev_pos (by omega) (ev_pos (by omega) (ev_pos (by omega) (ev_bind hcon ?_)))
    by_cases c : isA m (i : Int) = true
    · rw [if_pos c] at hr
      have hn : ¬ (i : Int) ∈ gone a.length m := fun hm => by
        have := (mem_gone a.length m i).1 hm
        rw [c] at this
        exact absurd this.2 (by decide)
      refine ev_neg (by simpa using hn) ?_
      have := Kept_l1 a i hi h24 (gone a.length m) (by omega) (dp_range ht hi) (keptI a m i) (keptI a m a.length) (by omega) hr (gone a.length m).length 0 (by omega)
      simpa [cntG] using this
    · rw [if_neg c, List.append_nil] at hr
      refine ev_pos (decide_eq_true ((mem_gone a.length m i).2 ⟨hi, Bool.eq_false_iff.mpr c⟩)) ?_
      have e0 : wrap64 ((i : Int) + 1) = ((i + 1 : Nat) : Int) := by rw [w64 (by omega) (by omega)]; omega
      rw [e0]
      exact hr
/-- what impl.Kept answers -/
def keptT (a : List S45) (m : List S47) : List S45 := if treeOk a = true ∧ isA m 0 = true then keptI a m a.length else []
theorem impl_Kept_ev (a : List S45) (m : List S47) (ha : a.length ≤ 4294967296) (hm : m.length ≤ 4294967296) : Ev (fun k => impl_Kept.f k a m) (keptT a m) := by
  simp only [impl_Kept.f]
  refine ev_bindc rfl (ev_bind (Unmapped_ev a m ha hm) (ev_bind (impl_TreeOk_ev a) ?_))
  have hg := gone_length a.length m
  unfold keptT
  by_cases ht : treeOk a = true
  · have h1 := (treeOk_iff.1 ht).1.1
    refine ev_pos ht (ev_bind (containsI_ev _ 0 (by omega)) (ev_succ ?_))
    simp only [impl_Kept.j0]
    by_cases c : isA m 0 = true
    · rw [if_pos ⟨ht, c⟩]
      have hn : ¬ (0 : Int) ∈ gone a.length m := fun hm => by
        have := (mem_gone a.length m 0).1 hm
        rw [show ((0 : Nat) : Int) = 0 from rfl, c] at this
        exact absurd this.2 (by decide)
      exact ev_neg (by simpa using hn) (Kept_l0 a m ht a.length 0 (by omega))
    · rw [if_neg (fun h => c h.2)]
      exact ev_pos (decide_eq_true ((mem_gone a.length m 0).2 ⟨h1, Bool.eq_false_iff.mpr c⟩)) (Ev.now _)
  · rw [if_neg (fun h => ht h.1)]
    refine ev_neg ht (ev_succ ?_)
    simp only [impl_Kept.j0]
    exact ev_pos (by first | trivial | rfl) (Ev.now _)
/-- the pairs turned -/
def turnT (m : List S47) : List S47 := m.map (fun p => ⟨p.f1, p.f0⟩)
theorem Turned_ev (m : List S47) (hm : m.length ≤ 4294967296) : Ev (fun k => impl_Turned.f k m) (turnT m) := by
  have key : ∀ (d j : Nat), j + d = m.length → Ev (fun k => impl_Turned.l0 k ((turnT m).take j) m (m.length : Int) (j : Int)) (turnT m) := by
    intro d
    induction d with
    | zero =>
      intro j h
      refine ev_succ ?_
      simp only [impl_Turned.l0]
      rw [List.take_of_length_le (by unfold turnT; rw [List.length_map]; omega)]
      exact ev_neg (by omega) (Ev.now _)
    | succ d ih =>
      intro j h
      have hj : j < m.length := by omega
      have hr := ih (j + 1) (by omega)
      have ht : (turnT m).take (j + 1) = (turnT m).take j ++ [⟨m[j].f1, m[j].f0⟩] := by
        unfold turnT
        rw [List.take_add_one, List.getElem?_map, List.getElem?_eq_getElem hj]
        rfl
      rw [ht] at hr
      have hl : ((turnT m).take j).length ≤ 4294967296 := by rw [List.length_take]; omega
      refine ev_succ ?_
      simp only [impl_Turned.l0]
      rw [pr_get m j hj]
      have e0 : wrap64 ((j : Int) + 1) = ((j + 1 : Nat) : Int) := by rw [w64 (by omega) (by omega)]; omega
      rw [e0]
      clear e0
      exact ev_pos (by omega) (ev_pos (by omega) (ev_pos (by omega) (ev_pos (by omega) hr)))
  simp only [impl_Turned.f]
  have := key m.length 0 (by omega)
  simpa using this

/-! #### _specKept -/
open Go.Proofs.Ytbiffnahknkoiaa.Count
theorem Kept_l3 (m : List S47) (hm : m.length ≤ 4294967296) (x : List S45) (hx : x.length ≤ 24) : ∀ (d i : Nat) (out : List S45), i + d = x.length → out.length = cnt (fun k => isA m (k : Int)) i → ∃ r, Ev (fun k => spec_Kept.l3 k m x out (i : Int)) r ∧ r.length = cnt (fun k => isA m (k : Int)) x.length := by
  intro d
  induction d with
  | zero =>
    intro i out h ho
    obtain rfl : i = x.length := by omega
    refine ⟨out, ev_succ ?_, ho⟩
    simp only [spec_Kept.l3]
    exact ev_neg (by omega) (Ev.now _)
  | succ d ih =>
    intro i out h ho
    have hle := cnt_le (fun k => isA m (k : Int)) i
    have e0 : PLift (wrap64 ((i : Int) + 1) = ((i + 1 : Nat) : Int)) := ⟨by rw [w64 (by omega) (by omega)]; omega⟩
    by_cases c : isA m (i : Int) = true
    · obtain ⟨r, g1, g2⟩ := ih (i + 1) (out ++ [⟨(rd_T45 x (i : Int)).f0, (rd_T45 x (i : Int)).f1⟩]) (by omega) (by rw [List.length_append, List.length_singleton, cnt, if_pos c, ho])
      refine ⟨r, ev_succ ?_, g2⟩
      simp only [spec_Kept.l3]
      rw [e0.down]
      exact ev_pos (by omega) (ev_bind (l10IsA_ev m (i : Int) hm) (ev_pos c (ev_pos (by omega) (ev_pos (by omega) g1))))
    · obtain ⟨r, g1, g2⟩ := ih (i + 1) out (by omega) (by rw [cnt, if_neg c, ho]; rfl)
      refine ⟨r, ev_succ ?_, g2⟩
      simp only [spec_Kept.l3]
      rw [e0.down]
      exact ev_pos (by omega) (ev_bind (l10IsA_ev m (i : Int) hm) (ev_neg c g1))
theorem Kept_l2 (a : List S45) (m : List S47) (p : List Int) (q : Int) (h24 : a.length ≤ 24) (C : Nat) (y : Nat) (hy : y + 1 < a.length) (nextS : ∀ x, x.length = a.length → ∃ r, Ev (fun k => spec_Kept.l1 k a m x p q (y : Int)) r ∧ r.length = C) : ∀ (d e : Nat) (x : List S45), e + d = a.length → x.length = a.length → ∃ r, Ev (fun k => spec_Kept.l2 k a m x p q ((y + 1 : Nat) : Int) (e : Int)) r ∧ r.length = C := by
  intro d
  have e1 : PLift (wrap64 (((y + 1 : Nat) : Int) - 1) = (y : Int)) := ⟨by rw [w64 (by omega) (by omega)]; omega⟩
  induction d with
  | zero =>
    intro e x h hx
    obtain ⟨r, g1, g2⟩ := nextS x hx
    refine ⟨r, ev_succ ?_, g2⟩
    simp only [spec_Kept.l2]
    rw [e1.down]
    exact ev_neg (by omega) g1
  | succ d ih =>
    intro e x h hx
    have e0 : PLift (wrap64 ((e : Int) + 1) = ((e + 1 : Nat) : Int)) := ⟨by rw [w64 (by omega) (by omega)]; omega⟩
    by_cases c : (rd_T45 a (e : Int)).f1 > (rd_T45 a ((y + 1 : Nat) : Int)).f1
    · obtain ⟨r, g1, g2⟩ := ih (e + 1) (x.set ((e : Int)).toNat ⟨(rd_T45 x (e : Int)).f0, wrap64 (((rd_T45 x (e : Int)).f1) - 1)⟩) (by omega) (by rw [List.length_set]; exact hx)
      refine ⟨r, ev_succ ?_, g2⟩
      simp only [spec_Kept.l2]
      rw [e0.down]
      exact ev_pos (by omega) (ev_pos (by omega) (ev_pos (by omega) (ev_pos (by omega) (ev_pos c (ev_pos (by omega) g1)))))
    · obtain ⟨r, g1, g2⟩ := nextS x hx
      refine ⟨r, ev_succ ?_, g2⟩
      simp only [spec_Kept.l2]
      rw [e1.down]
      exact ev_pos (by omega) (ev_pos (by omega) (ev_pos (by omega) (ev_pos (by omega) (ev_neg c g1))))
theorem Kept_l1s (a : List S45) (m : List S47) (hm : m.length ≤ 4294967296) (p : List Int) (q : Nat) (hq : q < p.length) (hp : p.length ≤ 8388608) (h24 : a.length ≤ 24) (C : Nat) (nextS : ∀ x, x.length = a.length → ∃ r, Ev (fun k => spec_Kept.l0 k a m x p ((q : Int) - 1)) r ∧ r.length = C) : ∀ (y : Nat) (x : List S45), y < a.length → x.length = a.length → ∃ r, Ev (fun k => spec_Kept.l1 k a m x p (q : Int) (y : Int)) r ∧ r.length = C := by
  intro y
  induction y with
  | zero =>
    intro x hy hx
    obtain ⟨r, g1, g2⟩ := nextS x hx
    refine ⟨r, ev_succ ?_, g2⟩
    simp only [spec_Kept.l1]
    have e1 : wrap64 ((q : Int) - 1) = (q : Int) - 1 := w64 (by omega) (by omega)
    rw [e1]
    clear e1
    exact ev_neg (by omega) g1
  | succ y ih =>
    intro x hy hx
    have e1 : PLift (wrap64 (((y + 1 : Nat) : Int) - 1) = (y : Int)) := ⟨by rw [w64 (by omega) (by omega)]; omega⟩
    have e2 : PLift (wrap64 (((y + 1 : Nat) : Int) + 1) = ((y + 2 : Nat) : Int)) := ⟨by rw [w64 (by omega) (by omega)]; omega⟩
    have no : ∃ r, Ev (fun k => spec_Kept.j3 k a m x p (q : Int) ((y + 1 : Nat) : Int) false) r ∧ r.length = C := by
      obtain ⟨r, g1, g2⟩ := ih x (by omega) hx
      refine ⟨r, ev_succ ?_, g2⟩
      simp only [spec_Kept.j3]
      rw [e1.down]
      exact ev_neg (by decide) g1
    by_cases c : rd p (q : Int) = ((y + 1 : Nat) : Int)
    · by_cases cA : isA m ((y + 1 : Nat) : Int) = true
      · obtain ⟨r, g1, g2⟩ := no
        refine ⟨r, ev_succ ?_, g2⟩
        simp only [spec_Kept.l1]
        refine ev_pos (by omega) (ev_pos (by omega) (ev_pos (by omega) (ev_pos c (ev_bind (l10IsA_ev m _ hm) ?_))))
        rw [cA]
        exact g1
      · obtain ⟨r, g1, g2⟩ := Kept_l2 a m p (q : Int) h24 C y hy (fun x hx => ih x (by omega) hx) (a.length - (y + 2)) (y + 2) x (by omega) hx
        refine ⟨r, ev_succ ?_, g2⟩
        simp only [spec_Kept.l1]
        refine ev_pos (by omega) (ev_pos (by omega) (ev_pos (by omega) (ev_pos c (ev_bind (l10IsA_ev m _ hm) ?_))))
        rw [Bool.eq_false_iff.mpr cA]
        refine ev_succ ?_
        simp only [spec_Kept.j3]
        rw [e2.down]
        exact ev_pos (by decide) g1
    · obtain ⟨r, g1, g2⟩ := no
      refine ⟨r, ev_succ ?_, g2⟩
      simp only [spec_Kept.l1]
      exact ev_pos (by omega) (ev_pos (by omega) (ev_pos (by omega) (ev_neg c g1)))
theorem spec_Kept_ok (a : List S45) (m : List S47) (ha : a.length ≤ 4294967296) (hm : m.length ≤ 4294967296) : ∃ r, Ev (fun k => spec_Kept.f k a m) r ∧ r.length = (keptT a m).length := by
  obtain ⟨p, hp, hpl⟩ := PostOrder_ok a (by omega)
  have hcopy := l3Copy_eq a (by omega)
  have hto := spec_TreeOk_ev a (by omega)
  simp only [spec_Kept.f]
  unfold keptT
  by_cases ht : treeOk a = true
  · obtain ⟨h1, h24⟩ := (treeOk_iff.1 ht).1
    by_cases c : isA m 0 = true
    · rw [if_pos ⟨ht, c⟩, keptI_length, cnt_filter]
      have key : ∀ (t : Nat) (x : List S45), t ≤ p.length → x.length = a.length → ∃ r, Ev (fun k => spec_Kept.l0 k a m x p ((t : Int) - 1)) r ∧ r.length = cnt (fun k => isA m (k : Int)) a.length := by
        intro t
        induction t with
        | zero =>
          intro x _ hx
          obtain ⟨r, g1, g2⟩ := Kept_l3 m hm x (by omega) x.length 0 [] (by omega) rfl
          refine ⟨r, ev_succ ?_, by rw [g2, hx]⟩
          simp only [spec_Kept.l0]
          exact ev_neg (by omega) g1
        | succ t ih =>
          intro x htp hx
          obtain ⟨r, g1, g2⟩ := Kept_l1s a m hm p t (by omega) hpl h24 _ (fun x hx => ih x (by omega) hx) (a.length - 1) x (by omega) hx
          refine ⟨r, ev_succ ?_, g2⟩
          simp only [spec_Kept.l0]
          have e1 : wrap64 ((a.length : Int) - 1) = ((a.length - 1 : Nat) : Int) := by rw [w64 (by omega) (by omega)]; omega
          have e2 : ((t + 1 : Nat) : Int) - 1 = (t : Int) := by omega
          rw [e1, e2]
          clear e1
          exact ev_pos (by omega) g1
      obtain ⟨r, g1, g2⟩ := key p.length a (Nat.le_refl _) rfl
      refine ⟨r, ev_bindc hcopy (ev_bind hp (ev_bind hto (ev_pos ht (ev_bind (l10IsA_ev m 0 hm) ?_)))), g2⟩
      rw [c]
      refine ev_succ ?_
      simp only [spec_Kept.j0]
      have e1 : wrap64 ((p.length : Int) - 1) = (p.length : Int) - 1 := w64 (by omega) (by omega)
      rw [e1]
      exact ev_neg (by decide) g1
    · rw [if_neg (fun h => c h.2)]
      refine ⟨[], ev_bindc hcopy (ev_bind hp (ev_bind hto (ev_pos ht (ev_bind (l10IsA_ev m 0 hm) ?_)))), rfl⟩
      rw [Bool.eq_false_iff.mpr c]
      refine ev_succ ?_
      simp only [spec_Kept.j0]
      exact ev_pos (by first | trivial | rfl) (Ev.now _)
  · rw [if_neg (fun h => ht h.1)]
    refine ⟨[], ev_bindc hcopy (ev_bind hp (ev_bind hto (ev_neg ht (ev_succ ?_)))), rfl⟩
    simp only [spec_Kept.j0]
    exact ev_pos (by first | trivial | rfl) (Ev.now _)

/-! #### _keptLaw -/
open Go.Proofs.Ytbiffnahknkoiaa.Count
/-- a node's depth is how many lie above it -/
theorem anc_cnt {n : Nat} {D : Nat → Int} (hv : Tree.Vd n D) : ∀ (t i : Nat), i ≤ t → i < n → D i = (cnt (fun k => decide (k < i) && decide (i < Tree.eo n D k)) n : Int) := by
  intro t
  induction t with
  | zero =>
    intro i h hi
    obtain rfl : i = 0 := by omega
    rw [hv.2.1, cnt_zero n (fun k hk => by simp)]
    rfl
  | succ t ih =>
    intro i h hi
    by_cases h0 : i = 0
    · exact ih i (by omega) hi
    · obtain ⟨p, _, hp, hd, hb, he, _⟩ := Tree.par_spec hv (by omega) hi
      have hr := ih p (by omega) (by omega)
      have hc : cnt (fun k => decide (k < i) && decide (i < Tree.eo n D k)) n = cnt (fun k => decide (k < p) && decide (p < Tree.eo n D k)) n + 1 := by
        refine cnt_add (p := p) n (by omega) (by simp) (fun k hk => ?_)
        simp only [Bool.and_eq_true, decide_eq_true_eq]
        constructor
        · rintro ⟨h1, h2⟩
          rcases Nat.lt_trichotomy k p with e | e | e
          · exact .inl ⟨e, by omega⟩
          · exact .inr e
          · exfalso
            have h3 := hb k e h1
            have h4 := Tree.eo_in (n := n) (D := D) h1 h2
            omega
        · rintro (⟨h1, h2⟩ | e)
          · have := Tree.eo_nest (n := n) (D := D) hk h1 h2
            exact ⟨by omega, by omega⟩
          · subst e; exact ⟨hp, he⟩
      omega
theorem und_nat (a : List S45) (ht : treeOk a = true) (k i : Nat) (hk : k < a.length) (hi : i < a.length) : undB a (k : Int) (i : Int) = (decide (k < i) && decide (i < Tree.eo a.length (dpA a) k)) := by
  have h1 : hasB a (k : Int) = true := hasB_iff.2 ⟨ht, by omega, by omega⟩
  have h2 : hasB a (i : Int) = true := hasB_iff.2 ⟨ht, by omega, by omega⟩
  have e : endI a (k : Int) = (Tree.eo a.length (dpA a) k : Int) := by unfold endI; rw [if_pos h1, Int.toNat_natCast]
  unfold undB
  rw [h1, h2, e, Bool.true_and, Bool.true_and]
  congr 1
  · exact decide_eq_decide.2 (by omega)
  · exact decide_eq_decide.2 (by omega)
theorem isA_iff (m : List S47) (i : Int) : isA m i = true ↔ ∃ j, j < m.length ∧ pA m j = i := by
  unfold isA
  rw [List.any_eq_true]
  constructor
  · rintro ⟨p, hp, e⟩
    obtain ⟨j, hj, rfl⟩ := List.getElem_of_mem hp
    exact ⟨j, hj, by unfold pA; rw [pr_get m j hj]; exact beq_iff_eq.1 e⟩
  · rintro ⟨j, hj, e⟩
    exact ⟨m[j], List.getElem_mem hj, by unfold pA at e; rw [pr_get m j hj] at e; exact beq_iff_eq.2 e⟩
theorem cntG_cnt (a : List S45) (m : List S47) (i : Int) (n : Nat) : cntG a i (gone n m) = cnt (fun k => !isA m (k : Int) && undB a (k : Int) i) n := by
  unfold cntG gone
  rw [List.filter_map, List.length_map, List.filter_filter, ← cnt_filter]
  congr 2
  funext k
  exact Bool.and_comm _ _
/-- how many of the pairs' nodes lie above that of pair j -/
def upC (a : List S45) (m : List S47) (j : Nat) : Nat := cnt (fun k => undB a (pA m k) (pA m j)) m.length
theorem kept_form (a : List S45) (m : List S47) (ht : treeOk a = true) (hA : ∀ j, j < m.length → hasB a (pA m j) = true) (hmono : ∀ i j, i < j → j < m.length → pA m i < pA m j) (h0 : isA m 0 = true) :
    keptT a m = (List.range m.length).map (fun j => (⟨lbA a (pA m j).toNat, (upC a m j : Int)⟩ : S45)) ∧ (∀ j, j < m.length → (upC a m j : Int) ≤ 12) := by
  have hn : ∀ j, j < m.length → ((pA m j).toNat : Int) = pA m j ∧ (pA m j).toNat < a.length := fun j hj => by
    obtain ⟨_, h1, h2⟩ := hasB_iff.1 (hA j hj)
    exact ⟨by omega, by omega⟩
  have hm2 : ∀ i j, i < j → j < m.length → (pA m i).toNat < (pA m j).toNat := fun i j hij hj => by
    have := hmono i j hij hj
    have := (hn i (by omega)).1
    have := (hn j hj).1
    omega
  have hf : ∀ i, i < a.length → (isA m (i : Int) = true ↔ ∃ j, j < m.length ∧ (pA m j).toNat = i) := fun i hi => by
    rw [isA_iff]
    constructor
    · rintro ⟨j, hj, e⟩
      exact ⟨j, hj, by omega⟩
    · rintro ⟨j, hj, e⟩
      exact ⟨j, hj, by have := (hn j hj).1; omega⟩
  have hdep : ∀ j, j < m.length → dpA a (pA m j).toNat - (cntG a ((pA m j).toNat : Int) (gone a.length m) : Int) = (upC a m j : Int) := fun j hj => by
    obtain ⟨e1, e2⟩ := hn j hj
    have d1 := anc_cnt (treeOk_vd ht) (pA m j).toNat (pA m j).toNat (Nat.le_refl _) e2
    have d2 : cnt (fun k => decide (k < (pA m j).toNat) && decide ((pA m j).toNat < Tree.eo a.length (dpA a) k)) a.length = cnt (fun k => undB a (k : Int) ((pA m j).toNat : Int)) a.length := cnt_congr _ (fun k hk => (und_nat a ht k _ hk e2).symm)
    have d3 := cnt_split (fun k => undB a (k : Int) ((pA m j).toNat : Int)) (fun k => isA m (k : Int)) a.length
    have d4 := cnt_map (fun k => isA m (k : Int)) (fun k => undB a (k : Int) ((pA m j).toNat : Int)) (fun j => (pA m j).toNat) a.length m.length hm2 (fun j hj => (hn j hj).2) hf
    have d5 : cnt (fun i => undB a (((pA m i).toNat : Nat) : Int) ((pA m j).toNat : Int)) m.length = upC a m j := cnt_congr _ (fun k hk => by rw [(hn k hk).1, e1])
    rw [d1, cntG_cnt, d2]
    omega
  have hlist := filter_eq_map (fun k => isA m (k : Int)) (fun j => (pA m j).toNat) a.length m.length hm2 (fun j hj => (hn j hj).2) hf
  refine ⟨?_, fun j hj => ?_⟩
  · unfold keptT
    rw [if_pos ⟨ht, h0⟩]
    unfold keptI
    rw [hlist, List.map_map]
    refine List.map_congr_left (fun j hj => ?_)
    have := hdep j (List.mem_range.1 hj)
    show (⟨_, _⟩ : S45) = _
    rw [this]
  · have h1 := hdep j hj
    have h2 := dp_range ht (hn j hj).2
    omega
theorem pA_turn (m : List S47) (j : Nat) (hj : j < m.length) : pA (turnT m) j = pB m j := by
  have hl : j < (turnT m).length := by unfold turnT; rw [List.length_map]; exact hj
  unfold pA pB
  rw [pr_get (turnT m) j hl, pr_get m j hj]
  simp [turnT]
theorem turn_length (m : List S47) : (turnT m).length = m.length := by unfold turnT; rw [List.length_map]
theorem und_le (a : List S45) (i j : Int) (h : j ≤ i) : undB a i j = false := by
  unfold undB
  rw [decide_eq_false (show ¬ i < j by omega), Bool.false_and, Bool.and_false, Bool.and_false]
theorem und_iff {a : List S45} {i j : Int} : undB a i j = true ↔ hasB a i = true ∧ hasB a j = true ∧ i < j ∧ j < endI a i := by
  unfold undB
  simp only [Bool.and_eq_true, decide_eq_true_eq]
/-- what all ask of trees and pairs that fit -/
structure Fits (a b : List S45) (m : List S47) : Prop where
  ok : mapOk a b m
  pos : 0 < m.length
  ra : pA m 0 = 0
  rb : pB m 0 = 0
theorem Fits.monoA {a b : List S45} {m : List S47} (h : Fits a b m) : ∀ i j, i < j → j < m.length → pA m i < pA m j := by
  intro i j
  induction j with
  | zero => intro h1; omega
  | succ j ih =>
    intro h1 h2
    have h3 := (h.ok.1 (j + 1) h2).1.2.2 (by omega)
    rw [Nat.add_sub_cancel] at h3
    by_cases e : i = j
    · subst e; exact h3
    · have := ih (by omega) (by omega); omega
theorem Fits.monoB {a b : List S45} {m : List S47} (h : Fits a b m) : ∀ i j, i < j → j < m.length → pB m i < pB m j := fun i j h1 h2 => ((h.ok.1 j h2).2 i h1).1
theorem Fits.xs {a b : List S45} {m : List S47} (h : Fits a b m) : keptT a m = (List.range m.length).map (fun j => (⟨lbA a (pA m j).toNat, (upC a m j : Int)⟩ : S45)) ∧ (∀ j, j < m.length → (upC a m j : Int) ≤ 12) :=
  kept_form a m h.ok.2.1 (fun j hj => (h.ok.1 j hj).1.1) h.monoA ((isA_iff m 0).2 ⟨0, h.pos, h.ra⟩)
theorem Fits.ys {a b : List S45} {m : List S47} (h : Fits a b m) : keptT b (turnT m) = (List.range m.length).map (fun j => (⟨lbA b (pB m j).toNat, (upC a m j : Int)⟩ : S45)) := by
  have hl := turn_length m
  have e := (kept_form b (turnT m) h.ok.2.2 (fun j hj => by rw [hl] at hj; rw [pA_turn m j hj]; exact (h.ok.1 j hj).1.2.1) (fun i j hij hj => by rw [hl] at hj; rw [pA_turn m i (by omega), pA_turn m j hj]; exact h.monoB i j hij hj) ((isA_iff _ 0).2 ⟨0, by rw [hl]; exact h.pos, by rw [pA_turn m 0 h.pos]; exact h.rb⟩)).1
  rw [e, hl]
  refine List.map_congr_left (fun j hj => ?_)
  have hj' := List.mem_range.1 hj
  have hc : upC b (turnT m) j = upC a m j := by
    unfold upC
    rw [hl]
    refine cnt_congr _ (fun k hk => ?_)
    rw [pA_turn m k hk, pA_turn m j hj']
    by_cases hkj : k < j
    · exact ((h.ok.1 j hj').2 k hkj).2.symm
    · rw [und_le b _ _ (by
        by_cases e : j = k
        · subst e; omega
        · have := h.monoB j k (by omega) hk; omega), und_le a _ _ (by
        by_cases e : j = k
        · subst e; omega
        · have := h.monoA j k (by omega) hk; omega)]
  rw [pA_turn m j hj', hc]
theorem Fits.tree {a b : List S45} {m : List S47} (h : Fits a b m) : treeOk (keptT a m) = true := by
  obtain ⟨hx, h12⟩ := h.xs
  have ht := h.ok.2.1
  have hA : ∀ j, j < m.length → ((pA m j).toNat : Int) = pA m j ∧ (pA m j).toNat < a.length := fun j hj => by
    obtain ⟨_, h1, h2⟩ := hasB_iff.1 (h.ok.1 j hj).1.1
    exact ⟨by omega, by omega⟩
  have hle : (keptT a m).length ≤ a.length := by
    unfold keptT
    split
    · exact keptI_le a m a.length
    · exact Nat.zero_le _
  have h24 := (treeOk_iff.1 ht).1.2
  have hlen : (keptT a m).length = m.length := by rw [hx, List.length_map, List.length_range]
  have hget : ∀ j, j < m.length → lbA (keptT a m) j = lbA a (pA m j).toNat ∧ dpA (keptT a m) j = (upC a m j : Int) := fun j hj => by
    have e : (keptT a m).getD j z45 = ⟨lbA a (pA m j).toNat, (upC a m j : Int)⟩ := by
      rw [hx, List.getD_eq_getElem?_getD, List.getElem?_map, List.getElem?_range hj]
      rfl
    unfold lbA dpA
    rw [e]
    exact ⟨rfl, rfl⟩
  refine treeOk_iff.2 ⟨⟨by rw [hlen]; exact h.pos, by omega⟩, fun j hj => ?_⟩
  rw [hlen] at hj
  obtain ⟨g1, g2⟩ := hget j hj
  have hroot : ∀ i, 0 < i → i < m.length → undB a (pA m 0) (pA m i) = true := fun i hi him => by
    have h1 := h.monoA 0 i hi him
    obtain ⟨e1, e2⟩ := hA i him
    have hh := (h.ok.1 0 h.pos).1.1
    refine und_iff.2 ⟨hh, (h.ok.1 i him).1.1, h1, ?_⟩
    have e : endI a (pA m 0) = (Tree.eo a.length (dpA a) 0 : Int) := by rw [h.ra] at hh ⊢; unfold endI; rw [if_pos hh]; rfl
    rw [e]
    have hv := treeOk_vd ht
    have heo : Tree.eo a.length (dpA a) 0 = a.length := Tree.eo_eq (by omega) (Nat.le_refl _) (fun t h2 h3 => by have := hv.2.1; have := (hv.2.2 t h2 h3).1; omega) (fun h2 => by omega)
    rw [heo]
    omega
  refine ⟨?_, ?_, ?_⟩
  · rw [g1]; exact lb_range ht (hA j hj).2
  · rw [g2]; exact ⟨Int.natCast_nonneg _, h12 j hj⟩
  · by_cases h0 : j = 0
    · rw [if_pos h0, g2, h0]
      unfold upC
      rw [cnt_zero _ (fun k hk => und_le a _ _ (by
        by_cases e : k = 0
        · subst e; omega
        · have := h.monoA 0 k (by omega) hk; omega))]
      rfl
    · rw [if_neg h0, g2, (hget (j - 1) (by omega)).2]
      have p1 : 1 ≤ upC a m j := cnt_pos _ 0 h.pos (hroot j (by omega) hj)
      have p2 : upC a m j ≤ upC a m (j - 1) + 1 := by
        unfold upC
        refine cnt_or (p := j - 1) _ (fun k hk hu => ?_)
        by_cases e : k = j - 1
        · exact .inr e
        · left
          obtain ⟨u1, u2, u3, u4⟩ := und_iff.1 hu
          have hkj : k < j := by
            rcases Nat.lt_or_ge k j with h' | h'
            · exact h'
            · exfalso
              by_cases e2 : k = j
              · subst e2; omega
              · have := h.monoA j k (by omega) hk; omega
          have m1 := h.monoA k (j - 1) (by omega) (by omega)
          have m2 := h.monoA (j - 1) j (by omega) hj
          exact und_iff.2 ⟨u1, (h.ok.1 (j - 1) (by omega)).1.1, m1, by omega⟩
      omega

end Go.Proofs.Ytbiffnahknkoiaa.QFnKept
