/- The law FnKept, as a pure statement: those nodes of two trees that belong together, alone, are of one shape; no condition. -/
import Derived.Test.YtbiffnahknkoiaaQFnKeptb
namespace Go.Proofs.Ytbiffnahknkoiaa.Pure
open Go.RowKit Go.Proofs.Ytbiffnahknkoiaa.PFnKept Go.Proofs.YtbiffnahknkoiaaW.PrintWords Go.Proofs.YtbiffnahknkoiaaW.PrintLast Go.Proofs.YtbiffnahknkoiaaW.PrintMore Go.Proofs.Ytbiffnahknkoiaa.EvAid Go.Proofs.Ytbiffnahknkoiaa Go.Proofs.Ytbiffnahknkoiaa.QFnKept
set_option linter.unusedVariables false
set_option linter.unusedSimpArgs false

theorem kept_loop (a b : List S45) (m : List S47) (h : Fits a b m) (hm : m.length ≤ 4294967296) : ∀ (d j : Nat), j + d = m.length → Ev (fun k => laws_FnKept.l0 k a b m (keptT a m) (keptT b (turnT m)) (j : Int)) true := by
  have hx := h.xs.1
  have hy := h.ys
  have hlx : (keptT a m).length = m.length := by rw [hx, List.length_map, List.length_range]
  have hly : (keptT b (turnT m)).length = m.length := by rw [hy, List.length_map, List.length_range]
  intro d
  induction d with
  | zero =>
    intro j hj
    refine ev_succ ?_
    simp only [laws_FnKept.l0]
    exact ev_neg (by omega) (Ev.now _)
  | succ d ih =>
    intro j hj
    have hjm : j < m.length := by omega
    have hr := ih (j + 1) (by omega)
    obtain ⟨_, a1, a2⟩ := hasB_iff.1 (h.ok.1 j hjm).1.1
    obtain ⟨_, b1, b2⟩ := hasB_iff.1 (h.ok.1 j hjm).1.2.1
    have ex : (rd_T45 (keptT a m) (j : Int)).f0 = (rd_T45 a (pA m j)).f0 := by
      show ((keptT a m).getD (j : Int).toNat _).f0 = (a.getD (pA m j).toNat _).f0
      rw [Int.toNat_natCast, hx, List.getD_eq_getElem?_getD, List.getElem?_map, List.getElem?_range hjm]
      rfl
    have ey : (rd_T45 (keptT b (turnT m)) (j : Int)).f0 = (rd_T45 b (pB m j)).f0 := by
      show ((keptT b (turnT m)).getD (j : Int).toNat _).f0 = (b.getD (pB m j).toNat _).f0
      rw [Int.toNat_natCast, hy, List.getD_eq_getElem?_getD, List.getElem?_map, List.getElem?_range hjm]
      rfl
    refine ev_succ ?_
    simp only [laws_FnKept.l0]
    have e0 : wrap64 ((j : Int) + 1) = ((j + 1 : Nat) : Int) := by rw [w64 (by omega) (by omega)]; omega
    rw [e0]
    clear e0
    exact ev_pos (by omega) (ev_pos (by omega) (ev_pos (by omega) (ev_pos a1 (ev_pos a2 (ev_pos ex (ev_pos (by omega) (ev_pos b1 (ev_pos b2 (ev_pos ey hr)))))))))
theorem roots_ev (m : List S47) : spec_RootsPaired.f m = some (decide (0 < m.length) && (pA m 0 == 0 && (pB m 0 == 0))) := by
  unfold spec_RootsPaired.f
  by_cases h : 0 < m.length
  · rw [if_pos (by omega), if_pos (by omega), decide_eq_true h, Bool.true_and]
    rfl
  · rw [if_neg (by omega), decide_eq_false h, Bool.false_and]
theorem FnKept : laws_FnKept.Pure := by
  intro l h1 h2 h3
  refine Ev.rounds ?_
  simp only [laws_FnKept.f]
  refine ev_bindc (big_eq l) ?_
  by_cases hs : (l.length : Int) > 1048576
  · exact ev_pos (decide_eq_true hs) (Ev.now _)
  · refine ev_neg (by simpa using hs) ?_
    obtain ⟨a, b, x, y, z, m, hd, ha, hb, hm⟩ := DrawMapCost_ok l (by omega)
    have htl := turn_length m
    obtain ⟨r, hk, hkl⟩ := spec_Kept_ok a m (by omega) (by omega)
    refine ev_bind hd (ev_bind (impl_Kept_ev a m (by omega) (by omega)) (ev_bind (Turned_ev m (by omega)) (ev_bind (impl_Kept_ev b (turnT m) (by omega) (by omega)) (ev_bind (spec_MapOk_ev a b m (by omega) (by omega) (by omega)) ?_))))
    have plain : Ev (fun k => laws_FnKept.j0 k a b m (keptT a m) (keptT b (turnT m)) true) true := by
      refine ev_succ ?_
      simp only [laws_FnKept.j0]
      exact ev_pos (by first | trivial | rfl) (ev_bind hk (ev_some (by rw [hkl]; simp)))
    by_cases c : cdec (mapOk a b m) = true
    · refine ev_pos c (ev_bindc (roots_ev m) ?_)
      by_cases cr : (decide (0 < m.length) && (pA m 0 == 0 && (pB m 0 == 0))) = true
      · rw [cr]
        simp only [Bool.and_eq_true, decide_eq_true_eq, beq_iff_eq] at cr
        have hf : Fits a b m := ⟨cdec_iff.1 c, cr.1, cr.2.1, cr.2.2⟩
        have hx := hf.xs.1
        have hy := hf.ys
        have hlx : (keptT a m).length = m.length := by rw [hx, List.length_map, List.length_range]
        have hly : (keptT b (turnT m)).length = m.length := by rw [hy, List.length_map, List.length_range]
        have hloop := kept_loop a b m hf (by omega) m.length 0 (by omega)
        have hdx := impl_Depths_ev (keptT a m) (by omega)
        have hdy := impl_Depths_ev (keptT b (turnT m)) (by omega)
        have hdd : (keptT b (turnT m)).map (·.f1) = (keptT a m).map (·.f1) := by rw [hx, hy, List.map_map, List.map_map]; rfl
        rw [hdd] at hdy
        have hsame := sameInts_self ((keptT a m).map (·.f1)) (by rw [List.length_map]; omega)
        refine ev_succ ?_
        simp only [laws_FnKept.j0]
        refine ev_neg (by decide) (ev_pos (by omega) (ev_pos (by omega) (ev_bind (spec_TreeOk_ev _ (by omega)) (ev_pos hf.tree (ev_bind hdx (ev_bind hdy (ev_bind hsame (ev_succ ?_))))))))
        simp only [laws_FnKept.j1]
        exact ev_neg (by decide) hloop
      · rw [Bool.eq_false_iff.mpr cr]
        exact plain
    · exact ev_neg c plain

end Go.Proofs.Ytbiffnahknkoiaa.Pure
