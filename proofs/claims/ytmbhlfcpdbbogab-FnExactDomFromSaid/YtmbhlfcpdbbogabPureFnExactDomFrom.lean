/- The law FnExactDomFrom, as a pure statement: the linked tree of a list of nodes is the reference's, for every list of nodes; no condition. -/
import Derived.Test.YtmbhlfcpdbbogabQFnExactDomFroma
import Derived.Test.YtmbhlfcpdbbogabOFnExactDomFrom
namespace Go.Proofs.Ytmbhlfcpdbbogab.Pure
open Go.RowKit Go.Proofs.Ytmbhlfcpdbbogab.PFnExactDomFrom Go.Proofs.YtmbhlfcpdbbogabW.PrintWords Go.Proofs.YtmbhlfcpdbbogabW.PrintLast Go.Proofs.YtmbhlfcpdbbogabW.PrintMore Go.Proofs.Ytmbhlfcpdbbogab.EvAid Go.Proofs.Ytmbhlfcpdbbogab Go.Proofs.Ytmbhlfcpdbbogab.QFnExactDomFrom Go.Proofs.Ytmbhlfcpdbbogab.OFnExactDomFrom
set_option linter.unusedVariables false
set_option linter.unusedSimpArgs false

theorem domT_length (l : List S55) : (domT l).length ≤ l.length := by
  unfold domT
  split <;> simp
theorem FnExactDomFrom : PureL := by
  intro l hm hg
  refine Ev.rounds ?_
  simp only [laws_FnExactDomFrom.f]
  refine ev_bindc (szNodeS_eq l 1048576 (by omega) (by omega) hm) ?_
  by_cases hs : (1048576 : Int) < (l.length : Int)
  · rw [if_pos hs]
    exact ev_pos (by omega) (Ev.now _)
  · rw [if_neg hs]
    refine ev_neg (by omega) ?_
    have ht := toNodeS_ev l (by omega)
    have hl : (l.map cvN).length = l.length := by simp
    have hr := domT_length (l.map cvN)
    have hi := impl_DomFrom_ev (l.map cvN)
    have he := eqDom_ev (domT (l.map cvN)) (by omega)
    have hh := heldDom_ev 1 (domT (l.map cvN)).length (by omega) (by omega)
    refine ev_bind ht (ev_bind (spec_DomFrom_ev _ (by omega)) (ev_bind ht (ev_bind hi (ev_bind he (ev_pos rfl (ev_bind ht (ev_bind (eqNodeS_ev _ (by omega)) (ev_pos rfl ?_))))))))
    refine ev_bind (markNodeS_ev _ 1 (by omega) (by omega)) (ev_neg (by dsimp only; omega) (ev_bind he (ev_succ ?_)))
    simp only [laws_FnExactDomFrom.j0]
    refine ev_neg (by decide) (ev_bind (markDom_ev _ 1 (by omega) (by omega)) (ev_bind hh (ev_neg (by omega) (ev_pos rfl ?_))))
    exact ev_bind ht (ev_bind hi (ev_bind he (ev_pos rfl (ev_bind hh (ev_neg (by omega) (ev_pos rfl (Ev.now _)))))))

end Go.Proofs.Ytmbhlfcpdbbogab.Pure
