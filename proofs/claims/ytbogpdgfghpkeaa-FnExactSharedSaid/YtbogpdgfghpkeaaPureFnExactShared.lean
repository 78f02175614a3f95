/- The law FnExactShared, as a pure statement: the largest common subtree is the reference's, for every two lists of nodes; no condition. -/
import Derived.Test.YtbogpdgfghpkeaaQFnExactShareda
import Derived.Test.YtbogpdgfghpkeaaOFnExactShared
namespace Go.Proofs.Ytbogpdgfghpkeaa.Pure
open Go.RowKit Go.Proofs.Ytbogpdgfghpkeaa.PFnExactShared Go.Proofs.YtbogpdgfghpkeaaW.PrintWords Go.Proofs.YtbogpdgfghpkeaaW.PrintLast Go.Proofs.YtbogpdgfghpkeaaW.PrintMore Go.Proofs.Ytbogpdgfghpkeaa.EvAid Go.Proofs.Ytbogpdgfghpkeaa Go.Proofs.Ytbogpdgfghpkeaa.QFnExactShared Go.Proofs.Ytbogpdgfghpkeaa.OFnExactShared
set_option linter.unusedVariables false
set_option linter.unusedSimpArgs false

theorem FnExactShared : PureL := by
  intro l t hm hm2 hg hg2
  refine Ev.rounds ?_
  simp only [laws_FnExactShared.f]
  refine ev_bindc (szNodeS_eq l 1048576 (by omega) (by omega) (by assumption)) ?_
  by_cases hs : (1048576 : Int) < (l.length : Int)
  · rw [if_pos hs]
    exact ev_pos (by omega) (Ev.now _)
  · rw [if_neg hs]
    refine ev_neg (by omega) (ev_bindc (szNodeS_eq t _ (by omega) (by omega) (by assumption)) ?_)
    by_cases hs2 : (1048576 : Int) - (l.length : Int) < (t.length : Int)
    · rw [if_pos hs2]
      exact ev_pos (by omega) (Ev.now _)
    · rw [if_neg hs2]
      refine ev_neg (by omega) ?_
      have tl := toNodeS_ev l (by omega)
      have tt := toNodeS_ev t (by omega)
      have hl : (l.map cvN).length = l.length := by simp
      have ht : (t.map cvN).length = t.length := by simp
      refine ev_bind tl (ev_bind tt (ev_bind (spec_Shared_ev _ _ (by omega) (by omega)) (ev_bind tl (ev_bind tt (ev_bind (impl_Shared_ev _ _ (by omega) (by omega)) (ev_pos rfl (ev_pos rfl (ev_succ ?_))))))))
      simp only [laws_FnExactShared.j0]
      refine ev_neg (by simp) ?_
      refine ev_bind tl (ev_bind (eqNodeS_ev _ (by omega)) (ev_pos rfl ?_))
      exact ev_bind tt (ev_bind (eqNodeS_ev _ (by omega)) (ev_pos rfl (Ev.now _)))

end Go.Proofs.Ytbogpdgfghpkeaa.Pure
