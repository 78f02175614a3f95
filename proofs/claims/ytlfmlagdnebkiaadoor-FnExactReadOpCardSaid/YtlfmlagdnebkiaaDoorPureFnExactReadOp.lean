/- The law FnExactReadOp, as a pure statement: what is read out of a text is the reference's, for every text; no condition beyond the text's length as it can be read. -/
import Derived.Test.YtlfmlagdnebkiaaDoorQFnExactReadOpb
namespace Go.Proofs.YtlfmlagdnebkiaaDoor.Pure
open Go.RowKit Go.Proofs.YtlfmlagdnebkiaaDoor.PFnExactReadOp Go.Proofs.YtlfmlagdnebkiaaDoorW.PrintWords Go.Proofs.YtlfmlagdnebkiaaDoorW.PrintLast Go.Proofs.YtlfmlagdnebkiaaDoorW.PrintMore Go.Proofs.YtlfmlagdnebkiaaDoor.EvAid Go.Proofs.YtlfmlagdnebkiaaDoor Go.Proofs.YtlfmlagdnebkiaaDoor.QFnExactReadOp
set_option linter.unusedVariables false
set_option linter.unusedSimpArgs false

theorem FnExactReadOp : laws_FnExactReadOp.Pure := by
  intro s hw
  refine Ev.rounds ?_
  simp only [laws_FnExactReadOp.f]
  by_cases hz : (s.size : Int) > 1048576
  · exact ev_pos hz (Ev.now _)
  · obtain ⟨⟨a, p, b, c, d, e⟩, hl, h1, h2⟩ := ReadOp_both s (by omega)
    have hl2 : (p.length : Int) ≤ 1048577 := hl
    have he := eqOp_self a p b c d (by omega)
    have hsame : (e != e) = false := by simp
    have hm := markOp_ev a p b c d 1 (by omega) (by omega)
    have hh := heldOp_ev a p.length b c d 1 (by omega) (by omega)
    refine ev_neg hz (ev_bind h1 (ev_bind h2 (ev_bind he (ev_pos rfl (ev_succ ?_)))))
    simp only [laws_FnExactReadOp.j0]
    rw [hsame]
    refine ev_neg (by decide) (ev_bind hm (ev_bind hh (ev_neg (by omega) (ev_pos rfl (ev_bind h2 (ev_bind he (ev_pos rfl (ev_succ ?_))))))))
    simp only [laws_FnExactReadOp.j1]
    rw [hsame]
    exact ev_neg (by decide) (ev_bind hh (ev_neg (by omega) (ev_pos rfl (Ev.now _))))

end Go.Proofs.YtlfmlagdnebkiaaDoor.Pure
