/- The law FnMirrored, as a pure statement: both trees with all kids the other way round lie as far apart as before, and twice the other way round is the tree; for every code; no condition. -/
import Derived.Test.YtbmkobanpakohaaQFnMirroredc
namespace Go.Proofs.Ytbmkobanpakohaa.Pure
open Go.RowKit Go.Proofs.Ytbmkobanpakohaa.PFnMirrored Go.Proofs.YtbmkobanpakohaaW.PrintWords Go.Proofs.YtbmkobanpakohaaW.PrintLast Go.Proofs.YtbmkobanpakohaaW.PrintMore Go.Proofs.Ytbmkobanpakohaa.EvAid Go.Proofs.Ytbmkobanpakohaa Go.Proofs.Ytbmkobanpakohaa.QFnMirrored
set_option linter.unusedVariables false
set_option linter.unusedSimpArgs false

theorem FnMirrored : laws_FnMirrored.Pure := by
  intro l hl hl2 hlg
  refine Ev.rounds ?_
  simp only [laws_FnMirrored.f]
  refine ev_bindc (big_eq l) ?_
  by_cases hbig : (decide ((l.length : Int) > 1048576)) = true
  · exact ev_pos hbig (Ev.now _)
  · refine ev_neg hbig ?_
    have hlen : (l.length : Int) ≤ 1048576 := by simpa using hbig
    obtain ⟨h0, g0⟩ := l1New_ev l (by omega)
    have hc : Cur l 0 := ⟨⟨by omega, by omega⟩, by omega⟩
    obtain ⟨a, b, D, I, R, i1, h1, g1, ha, hb, ⟨hD, hI, hR⟩, hc1⟩ := l8Draw_ok l 12 (by omega) 0 h0 hc
    have gd : Ev (fun k => spec_DrawRootDist.f k l) (a, b, D, I, R) := by
      simp only [spec_DrawRootDist.f]
      exact ev_bind g0 (ev_bind g1 (Ev.now _))
    have ta := spec_TreeOk_ev a (by omega)
    have tb := spec_TreeOk_ev b (by omega)
    refine ev_bind gd (ev_bind (impl_Mirror_ev a) (ev_bind (impl_Mirror_ev b) (ev_bind ta ?_)))
    dsimp only
    by_cases oa : treeOk a = true
    · refine ev_pos oa (ev_bind tb (ev_succ ?_))
      simp only [laws_FnMirrored.j0]
      by_cases ob : treeOk b = true
      · rw [ob]
        refine ev_neg (by simp) ?_
        have la : (mirT a).length = a.length := (mir_perm oa).length_eq
        have lb : (mirT b).length = b.length := (mir_perm ob).length_eq
        have r1 := impl_RootDist_ev (mirT a) (mirT b) D I R (by omega) (by omega) (by omega) (by omega) (by omega)
        rw [rootD_mir oa ob] at r1
        have r2 := impl_RootDist_ev a b D I R (by omega) (by omega) (by omega) (by omega) (by omega)
        have m2 := impl_Mirror_ev (mirT a)
        rw [mir_mir oa] at m2
        have s1 := spec_SameTree_ev a a (by omega)
        rw [sameT_self] at s1
        have t1 := spec_TreeOk_ev (mirT a) (by omega)
        rw [mir_treeOk oa] at t1
        have l1 := impl_LeavesOf_ev (mir_treeOk oa)
        rw [leaves_mir oa] at l1
        have h1 := impl_HeightOf_ev (mir_treeOk oa)
        rw [hgt_perm (mir_perm oa)] at h1
        exact ev_bind r1 (ev_bind r2 (ev_pos rfl (ev_bind m2 (ev_bind s1 (ev_pos rfl (ev_bind t1 (ev_pos rfl (ev_bind l1 (ev_bind (spec_LeavesOf_ev oa) (ev_pos rfl (ev_bind h1 (ev_bind (spec_HeightOf_ev oa) (ev_some (by simp))))))))))))))
      · have e : treeOk b = false := Bool.eq_false_iff.2 ob
        have eb : mirT b = [] := if_neg ob
        rw [e, eb]
        refine ev_pos (by simp) ?_
        by_cases c : ((mirT a).length : Int) = 0
        · exact ev_pos c (Ev.now _)
        · exact ev_neg c (ev_some (by simp))
    · have ea : mirT a = [] := if_neg oa
      rw [ea]
      refine ev_neg oa (ev_succ ?_)
      simp only [laws_FnMirrored.j0]
      exact ev_pos (by simp) (ev_pos (by simp) (Ev.now _))

end Go.Proofs.Ytbmkobanpakohaa.Pure
