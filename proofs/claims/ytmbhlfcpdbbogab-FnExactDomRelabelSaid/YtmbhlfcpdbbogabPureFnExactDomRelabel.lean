/- The law FnExactDomRelabel, as a pure statement: the linked tree with a node's new label is the reference's, for every linked tree, node and label; no condition. -/
import Derived.Test.YtmbhlfcpdbbogabQFnExactDomRelabelb
import Derived.Test.YtmbhlfcpdbbogabOFnExactDomRelabel
namespace Go.Proofs.Ytmbhlfcpdbbogab.Pure
open Go.RowKit Go.Proofs.Ytmbhlfcpdbbogab.PFnExactDomRelabel Go.Proofs.YtmbhlfcpdbbogabW.PrintWords Go.Proofs.YtmbhlfcpdbbogabW.PrintLast Go.Proofs.YtmbhlfcpdbbogabW.PrintMore Go.Proofs.Ytmbhlfcpdbbogab.EvAid Go.Proofs.Ytmbhlfcpdbbogab Go.Proofs.Ytmbhlfcpdbbogab.QFnExactDomRelabel Go.Proofs.Ytmbhlfcpdbbogab.OFnExactDomRelabel
set_option linter.unusedVariables false
set_option linter.unusedSimpArgs false

theorem FnExactDomRelabel : PureL := by
  intro s i x hg hi0 hx0
  have hm := hg.1
  refine Ev.rounds ?_
  simp only [laws_FnExactDomRelabel.f]
  refine ev_bindc (szDom_eq s.f0 1048576 (by omega) (by omega) hm) ?_
  by_cases hs : (1048576 : Int) < (s.f0.length : Int)
  · rw [if_pos hs]
    exact ev_pos (by omega) (Ev.now _)
  · rw [if_neg hs]
    refine ev_neg (by omega) ?_
    have ht := toDom_ev s.f0 (by omega)
    have hl : (s.f0.map cvD).length = s.f0.length := by simp
    obtain ⟨R, hR, h1, h2⟩ := relabel_both (s.f0.map cvD) (by omega) i x
    have he := eqDom_ev R.1 (by omega)
    have hsame : (R.2 != R.2) = false := by simp
    have hh := heldDom_ev 1 R.1.length (by omega) (by omega)
    refine ev_bind ht (ev_bind h1 (ev_bind ht (ev_bind h2 (ev_bind he (ev_pos rfl (ev_succ ?_))))))
    simp only [laws_FnExactDomRelabel.j0]
    rw [hsame]
    refine ev_neg (by decide) (ev_bind ht (ev_bind (eqDom_ev _ (by omega)) (ev_pos rfl ?_)))
    refine ev_bind (markDom_ev _ 1 (by omega) (by omega)) (ev_neg (by dsimp only; omega) ?_)
    refine ev_bind he (ev_pos rfl (ev_succ ?_))
    simp only [laws_FnExactDomRelabel.j1]
    refine ev_neg (by decide) (ev_bind (markDom_ev _ 1 (by omega) (by omega)) ?_)
    refine ev_bind hh (ev_neg (by omega) (ev_pos rfl ?_))
    refine ev_bind ht (ev_bind h2 (ev_bind he (ev_pos rfl (ev_succ ?_))))
    simp only [laws_FnExactDomRelabel.j2]
    rw [hsame]
    exact ev_neg (by decide) (ev_bind hh (ev_neg (by omega) (ev_pos rfl (Ev.now _))))

end Go.Proofs.Ytmbhlfcpdbbogab.Pure
