/- The law FnExactShapeRank, as a pure statement: the number of a row of depths is the reference's, for every list of numbers; no condition. -/
import Derived.Test.YthjaebnkfbgbhaaQFnExactShapeRanka
namespace Go.Proofs.Ythjaebnkfbgbhaa.Pure
open Go.RowKit Go.Proofs.Ythjaebnkfbgbhaa.PFnExactShapeRank Go.Proofs.YthjaebnkfbgbhaaW.PrintWords Go.Proofs.YthjaebnkfbgbhaaW.PrintLast Go.Proofs.YthjaebnkfbgbhaaW.PrintMore Go.Proofs.Ythjaebnkfbgbhaa.EvAid Go.Proofs.Ythjaebnkfbgbhaa Go.Proofs.Ythjaebnkfbgbhaa.QFnExactShapeRank
set_option linter.unusedVariables false
set_option linter.unusedSimpArgs false

theorem FnExactShapeRank : laws_FnExactShapeRank.Pure := by
  intro l hm hl hw
  refine Ev.rounds ?_
  simp only [laws_FnExactShapeRank.f]
  by_cases hbig : (l.length : Int) > 1048576
  · exact ev_pos hbig (Ev.now _)
  · refine ev_neg hbig ?_
    have ht := toIntS_ev l (by omega)
    refine ev_bind ht (ev_bind (spec_ShapeRank_ev l (by omega)) (ev_bind ht (ev_bind (ShapeRank_ev l (by omega)) (ev_pos rfl ?_))))
    exact ev_bind ht (ev_bind (eqIntS_ev _ (by omega)) (ev_pos rfl (Ev.now _)))

end Go.Proofs.Ythjaebnkfbgbhaa.Pure
