/- The law FnExactMirror, as a pure statement: the tree with all kids the other way round is the reference's, for every list of nodes; no condition. -/
import Derived.Test.YtbogpdgfghpkeaaQFnExactMirrora
import Derived.Test.YtbogpdgfghpkeaaOFnExactMirror
namespace Go.Proofs.Ytbogpdgfghpkeaa.Pure
open Go.RowKit Go.Proofs.Ytbogpdgfghpkeaa.PFnExactMirror Go.Proofs.YtbogpdgfghpkeaaW.PrintWords Go.Proofs.YtbogpdgfghpkeaaW.PrintLast Go.Proofs.YtbogpdgfghpkeaaW.PrintMore Go.Proofs.Ytbogpdgfghpkeaa.EvAid Go.Proofs.Ytbogpdgfghpkeaa Go.Proofs.Ytbogpdgfghpkeaa.QFnExactMirror Go.Proofs.Ytbogpdgfghpkeaa.OFnExactMirror
set_option linter.unusedVariables false
set_option linter.unusedSimpArgs false

theorem mirT_length (l : List S68) : (mirT l).length ≤ 24 := by
  unfold mirT
  split
  · rename_i h
    have h1 := (treeOk_iff.1 h).1
    rw [mirF_length l (treeOk_vd h) l.length 0 h1.1 (by omega)]
    have := Tree.eo_le (D := dpA l) (i := 0) h1.1
    omega
  · simp
theorem FnExactMirror : PureL := by
  intro l hm hg
  refine Ev.rounds ?_
  simp only [laws_FnExactMirror.f]
  refine ev_bindc (szNodeS_eq l 1048576 (by omega) (by omega) hm) ?_
  by_cases hs : (1048576 : Int) < (l.length : Int)
  · rw [if_pos hs]
    exact ev_pos (by omega) (Ev.now _)
  · rw [if_neg hs]
    refine ev_neg (by omega) ?_
    have ht := toNodeS_ev l (by omega)
    have hl : (l.map cvN).length = l.length := by simp
    have hr := mirT_length (l.map cvN)
    have hi := impl_Mirror_ev (l.map cvN)
    refine ev_bind ht (ev_bind (spec_Mirror_ev _ (by omega)) (ev_bind ht (ev_bind hi (ev_bind (eqNodeS_ev _ (by omega)) (ev_pos rfl ?_)))))
    refine ev_bind ht (ev_bind (eqNodeS_ev _ (by omega)) (ev_pos rfl ?_))
    refine ev_bind (markNodeS_ev _ 1 (by omega) (by omega)) (ev_neg (by omega) ?_)
    refine ev_bind (eqNodeS_ev _ (by omega)) (ev_succ ?_)
    simp only [laws_FnExactMirror.j0]
    refine ev_neg (by decide) (ev_bind (markNodeS_ev _ 1 (by omega) (by omega)) ?_)
    have hh := heldNodeS_ev 1 (mirT (l.map cvN)).length (by omega) (by omega)
    refine ev_bind hh (ev_neg (by omega) (ev_pos rfl ?_))
    refine ev_bind ht (ev_bind hi (ev_bind (eqNodeS_ev _ (by omega)) (ev_pos rfl ?_)))
    exact ev_bind hh (ev_neg (by omega) (ev_pos rfl (Ev.now _)))

end Go.Proofs.Ytbogpdgfghpkeaa.Pure
