/- The law FnExactPrune, as a pure statement: the tree without a node and all below it is the reference's, for every list of nodes and every number; no condition. -/
import Derived.Test.YtbogpdgfghpkeaaQFnExactPrunea
import Derived.Test.YtbogpdgfghpkeaaOFnExactPrune
namespace Go.Proofs.Ytbogpdgfghpkeaa.Pure
open Go.RowKit Go.Proofs.Ytbogpdgfghpkeaa.PFnExactPrune Go.Proofs.YtbogpdgfghpkeaaW.PrintWords Go.Proofs.YtbogpdgfghpkeaaW.PrintLast Go.Proofs.YtbogpdgfghpkeaaW.PrintMore Go.Proofs.Ytbogpdgfghpkeaa.EvAid Go.Proofs.Ytbogpdgfghpkeaa Go.Proofs.Ytbogpdgfghpkeaa.QFnExactPrune Go.Proofs.Ytbogpdgfghpkeaa.OFnExactPrune
set_option linter.unusedVariables false
set_option linter.unusedSimpArgs false

theorem FnExactPrune : PureL := by
  intro l i hm hg hi0
  refine Ev.rounds ?_
  simp only [laws_FnExactPrune.f]
  refine ev_bindc (szNodeS_eq l 1048576 (by omega) (by omega) hm) ?_
  by_cases hs : (1048576 : Int) < (l.length : Int)
  · rw [if_pos hs]
    exact ev_pos (by omega) (Ev.now _)
  · rw [if_neg hs]
    refine ev_neg (by omega) ?_
    have ht := toNodeS_ev l (by omega)
    have hl : (l.map cvN).length = l.length := by simp
    have hr := pruneT_length (l.map cvN) i
    have hi := impl_Prune_ev (l.map cvN) i (by omega)
    have hsame : ((pruneT (l.map cvN) i).2 != (pruneT (l.map cvN) i).2) = false := by simp
    refine ev_bind ht (ev_bind (spec_Prune_ev _ i (by omega)) (ev_bind ht (ev_bind hi (ev_bind (eqNodeS_ev _ (by omega)) (ev_pos rfl (ev_succ ?_))))))
    simp only [laws_FnExactPrune.j0]
    rw [hsame]
    refine ev_neg (by decide) (ev_bind ht (ev_bind (eqNodeS_ev _ (by omega)) (ev_pos rfl ?_)))
    refine ev_bind (markNodeS_ev _ 1 (by omega) (by omega)) (ev_neg (by dsimp only; omega) ?_)
    refine ev_bind (eqNodeS_ev _ (by omega)) (ev_pos rfl (ev_succ ?_))
    simp only [laws_FnExactPrune.j1]
    refine ev_neg (by decide) (ev_bind (markNodeS_ev _ 1 (by omega) (by omega)) ?_)
    have hh := heldNodeS_ev 1 (pruneT (l.map cvN) i).1.length (by omega) (by omega)
    refine ev_bind hh (ev_neg (by omega) (ev_pos rfl ?_))
    refine ev_bind ht (ev_bind hi (ev_bind (eqNodeS_ev _ (by omega)) (ev_pos rfl (ev_succ ?_))))
    simp only [laws_FnExactPrune.j2]
    rw [hsame]
    exact ev_neg (by decide) (ev_bind hh (ev_neg (by omega) (ev_pos rfl (Ev.now _))))

end Go.Proofs.Ytbogpdgfghpkeaa.Pure
