/- The law FnExactReadScript, as a pure statement: the script that is read out of a text is the reference's, for every text; no condition beyond the text's length as it can be read. -/
import Derived.Test.YtlfmlagdnebkiaaDoorQFnExactReadScriptc
namespace Go.Proofs.YtlfmlagdnebkiaaDoor.Pure
open Go.RowKit Go.Proofs.YtlfmlagdnebkiaaDoor.PFnExactReadScript Go.Proofs.YtlfmlagdnebkiaaDoorW.PrintWords Go.Proofs.YtlfmlagdnebkiaaDoorW.PrintLast Go.Proofs.YtlfmlagdnebkiaaDoorW.PrintMore Go.Proofs.YtlfmlagdnebkiaaDoor.EvAid Go.Proofs.YtlfmlagdnebkiaaDoor Go.Proofs.YtlfmlagdnebkiaaDoor.QFnExactReadScript
set_option linter.unusedVariables false
set_option linter.unusedSimpArgs false

theorem FnExactReadScript : laws_FnExactReadScript.Pure := by
  intro s hw
  refine Ev.rounds ?_
  simp only [laws_FnExactReadScript.f]
  by_cases hz : (s.size : Int) > 1048576
  · exact ev_pos hz (Ev.now _)
  · obtain ⟨ops, b, hO, hl, hp, h1, h2⟩ := ReadScript_both s (by omega)
    have z := opSz_le 12 ops hp
    have he := eqOpS_ev ops hO
    have hm := markOpS_ev ops 1 (by omega) (by omega)
    have hh := heldOpS_ev ops 1 (by omega) (by omega)
    exact ev_neg hz (ev_bind h1 (ev_bind h2 (ev_bind he (ev_pos rfl (ev_pos rfl (ev_bind hm (ev_bind hh (ev_neg (by omega) (ev_pos rfl (ev_bind h2 (ev_bind he (ev_pos rfl (ev_pos rfl (ev_bind hh (ev_neg (by omega) (ev_pos rfl (Ev.now _)))))))))))))))))

end Go.Proofs.YtlfmlagdnebkiaaDoor.Pure
