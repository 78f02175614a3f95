/- The law FnExactOpText, as a pure statement: the text of an operation is the reference's, for every operation; no condition beyond what can be read. -/
import Derived.Test.YtipclgiboffblaaDoorQFnExactOpTexta
import Derived.Test.YtipclgiboffblaaDoorOFnExactOpText
namespace Go.Proofs.YtipclgiboffblaaDoor.Pure
open Go.RowKit Go.Proofs.YtipclgiboffblaaDoor.PFnExactOpText Go.Proofs.YtipclgiboffblaaDoorW.PrintWords Go.Proofs.YtipclgiboffblaaDoorW.PrintLast Go.Proofs.YtipclgiboffblaaDoorW.PrintMore Go.Proofs.YtipclgiboffblaaDoor.EvAid Go.Proofs.YtipclgiboffblaaDoor Go.Proofs.YtipclgiboffblaaDoor.QFnExactOpText Go.Proofs.YtipclgiboffblaaDoor.OFnExactOpText
set_option linter.unusedVariables false
set_option linter.unusedSimpArgs false

theorem FnExactOpText : PureL := by
  intro s hg
  have hl := hg.2.1.1
  refine Ev.rounds ?_
  simp only [laws_FnExactOpText.f]
  refine ev_bindc (szOp_eq s.f0 s.f1 s.f2 s.f3 s.f4 1048576 (by omega) (by omega) hl) ?_
  by_cases hs : (1048576 : Int) < (s.f1.length : Int)
  · rw [szI, if_pos hs]
    exact ev_pos (by omega) (Ev.now _)
  · rw [szI, if_neg hs]
    refine ev_neg (by omega) ?_
    have ht := toOp_ev s.f0 s.f1 s.f2 s.f3 s.f4 (by omega)
    obtain ⟨r, _, h1, h2⟩ := OpText_both ⟨s.f0, s.f1, s.f2, s.f3, s.f4⟩ (by show (s.f1.length : Int) ≤ _; omega)
    exact ev_bind ht (ev_bind h1 (ev_bind ht (ev_bind h2 (ev_pos rfl (ev_bind ht (ev_bind (eqOp_self s.f0 s.f1 s.f2 s.f3 s.f4 (by omega)) (ev_pos rfl (Ev.now _))))))))

end Go.Proofs.YtipclgiboffblaaDoor.Pure
