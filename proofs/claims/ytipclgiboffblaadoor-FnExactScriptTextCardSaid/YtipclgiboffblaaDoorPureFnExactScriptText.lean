/- The law FnExactScriptText, as a pure statement: the text of a script is the reference's, for every script; no condition beyond what can be read. -/
import Derived.Test.YtipclgiboffblaaDoorQFnExactScriptTexta
import Derived.Test.YtipclgiboffblaaDoorOFnExactScriptText
namespace Go.Proofs.YtipclgiboffblaaDoor.Pure
open Go.RowKit Go.Proofs.YtipclgiboffblaaDoor.PFnExactScriptText Go.Proofs.YtipclgiboffblaaDoorW.PrintWords Go.Proofs.YtipclgiboffblaaDoorW.PrintLast Go.Proofs.YtipclgiboffblaaDoorW.PrintMore Go.Proofs.YtipclgiboffblaaDoor.EvAid Go.Proofs.YtipclgiboffblaaDoor Go.Proofs.YtipclgiboffblaaDoor.QFnExactScriptText Go.Proofs.YtipclgiboffblaaDoor.OFnExactScriptText
set_option linter.unusedVariables false
set_option linter.unusedSimpArgs false

theorem FnExactScriptText : PureL := by
  intro a ham hag
  refine Ev.rounds ?_
  simp only [laws_FnExactScriptText.f]
  refine ev_bind (szOpS_ev a 1048576 (by omega) (by omega) ham (fun o ho => (hag o ho).2.1.1)) ?_
  rcases szOT_facts a 1048576 (by omega) with e | ⟨a1, a2, a3, a4⟩
  · rw [e]; exact ev_pos (by omega) (Ev.now _)
  refine ev_neg (by omega) ?_
  have ta := toOpS_ev a (by omega) (fun o h => by have := a4 o h; omega)
  have hx : OpsB (a.map cvO) := by
    refine ⟨by rw [List.length_map]; omega, fun o h => ?_⟩
    obtain ⟨y, hy, rfl⟩ := List.mem_map.1 h
    have := a4 y hy
    show (y.f1.length : Int) ≤ _
    omega
  generalize a.map cvO = x at *
  obtain ⟨r, h1, h2⟩ := ScriptText_both x hx
  exact ev_bind ta (ev_bind h1 (ev_bind ta (ev_bind h2 (ev_pos rfl (ev_bind ta (ev_bind (eqOpS_ev _ hx) (ev_pos rfl (Ev.now _))))))))

end Go.Proofs.YtipclgiboffblaaDoor.Pure
