/- The law FnExactDepths, as a pure statement: the list of the depths is the reference's, for every list of nodes; no condition. -/
import Derived.Test.YthjaebnkfbgbhaaQFnExactDepthsa
import Derived.Test.YthjaebnkfbgbhaaOFnExactDepths
namespace Go.Proofs.Ythjaebnkfbgbhaa.Pure
open Go.RowKit Go.Proofs.Ythjaebnkfbgbhaa.PFnExactDepths Go.Proofs.YthjaebnkfbgbhaaW.PrintWords Go.Proofs.YthjaebnkfbgbhaaW.PrintLast Go.Proofs.YthjaebnkfbgbhaaW.PrintMore Go.Proofs.Ythjaebnkfbgbhaa.EvAid Go.Proofs.Ythjaebnkfbgbhaa Go.Proofs.Ythjaebnkfbgbhaa.QFnExactDepths Go.Proofs.Ythjaebnkfbgbhaa.OFnExactDepths
set_option linter.unusedVariables false
set_option linter.unusedSimpArgs false

theorem FnExactDepths : PureL := by
  intro l hm hg
  refine Ev.rounds ?_
  simp only [laws_FnExactDepths.f]
  refine ev_bindc (szNodeS_eq l 1048576 (by omega) (by omega) hm) ?_
  by_cases hs : (1048576 : Int) < (l.length : Int)
  · rw [if_pos hs]
    exact ev_pos (by omega) (Ev.now _)
  · rw [if_neg hs]
    refine ev_neg (by omega) ?_
    have ht := toNodeS_ev l (by omega)
    have hlen : (l.map cvN).length = l.length := by simp
    have hd := impl_Depths_ev (l.map cvN) (by rw [hlen]; omega)
    have hlen2 : ((l.map cvN).map (·.f1)).length = l.length := by simp
    refine ev_bind ht (ev_bind (spec_Depths_ev _ (by rw [hlen]; omega)) (ev_bind ht (ev_bind hd (ev_bind (eqIntS_ev _ (by rw [hlen2]; omega)) (ev_pos rfl ?_)))))
    refine ev_bind ht (ev_bind (eqNodeS_ev _ (by rw [hlen]; omega)) (ev_pos rfl ?_))
    refine ev_bind (markNodeS_ev _ 1 (by omega) (by rw [hlen]; omega)) (ev_neg (by rw [hlen]; omega) ?_)
    refine ev_bind (eqIntS_ev _ (by rw [hlen2]; omega)) (ev_succ ?_)
    simp only [laws_FnExactDepths.j0]
    refine ev_neg (by decide) ?_
    refine ev_bind (markIntS_ev _ 1 (by omega) (by rw [hlen2]; omega)) ?_
    rw [hlen2]
    have hh := heldIntS_ev 1 l.length (by omega) (by omega)
    refine ev_bind hh (ev_neg (by omega) (ev_pos rfl ?_))
    refine ev_bind ht (ev_bind hd (ev_bind (eqIntS_ev _ (by rw [hlen2]; omega)) (ev_pos rfl ?_)))
    exact ev_bind hh (ev_neg (by omega) (ev_pos rfl (Ev.now _)))

end Go.Proofs.Ythjaebnkfbgbhaa.Pure
