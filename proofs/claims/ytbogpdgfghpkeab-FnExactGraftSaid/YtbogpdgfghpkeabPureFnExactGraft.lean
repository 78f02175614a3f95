/- The law FnExactGraft, as a pure statement: the tree with another one put in below a node is the reference's, for all lists of nodes and every number; no condition. -/
import Derived.Test.YtbogpdgfghpkeabQFnExactGrafta
import Derived.Test.YtbogpdgfghpkeabOFnExactGraft
namespace Go.Proofs.Ytbogpdgfghpkeab.Pure
open Go.RowKit Go.Proofs.Ytbogpdgfghpkeab.PFnExactGraft Go.Proofs.YtbogpdgfghpkeabW.PrintWords Go.Proofs.YtbogpdgfghpkeabW.PrintLast Go.Proofs.YtbogpdgfghpkeabW.PrintMore Go.Proofs.Ytbogpdgfghpkeab.EvAid Go.Proofs.Ytbogpdgfghpkeab Go.Proofs.Ytbogpdgfghpkeab.QFnExactGraft Go.Proofs.Ytbogpdgfghpkeab.OFnExactGraft
set_option linter.unusedVariables false
set_option linter.unusedSimpArgs false

theorem FnExactGraft : PureL := by
  intro l i t hm hg hi0 hmt hgt
  refine Ev.rounds ?_
  simp only [laws_FnExactGraft.f]
  refine ev_bindc (szNodeS_eq l 1048576 (by omega) (by omega) hm) ?_
  by_cases hs : (1048576 : Int) < (l.length : Int)
  · rw [if_pos hs]
    exact ev_pos (by omega) (Ev.now _)
  · rw [if_neg hs]
    refine ev_neg (by omega) ?_
    refine ev_bindc (szNodeS_eq t (1048576 - (l.length : Int)) (by omega) (by omega) hmt) ?_
    by_cases hs2 : 1048576 - (l.length : Int) < (t.length : Int)
    · rw [if_pos hs2]
      exact ev_pos (by omega) (Ev.now _)
    · rw [if_neg hs2]
      refine ev_neg (by omega) ?_
      have hl := toNodeS_ev l (by omega)
      have ht := toNodeS_ev t (by omega)
      have hll : (l.map cvN).length = l.length := by simp
      have htl : (t.map cvN).length = t.length := by simp
      have hr := graftT_length (l.map cvN) i (t.map cvN)
      have hi := impl_Graft_ev (l.map cvN) i (t.map cvN) (by omega) (by omega)
      have hsame : ((graftT (l.map cvN) i (t.map cvN)).2 != (graftT (l.map cvN) i (t.map cvN)).2) = false := by simp
      refine ev_bind hl (ev_bind ht (ev_bind (spec_Graft_ev _ i _ (by omega) (by omega)) (ev_bind hl (ev_bind ht (ev_bind hi (ev_bind (eqNodeS_ev _ (by omega)) (ev_pos rfl (ev_succ ?_))))))))
      simp only [laws_FnExactGraft.j0]
      rw [hsame]
      refine ev_neg (by decide) (ev_bind hl (ev_bind (eqNodeS_ev _ (by omega)) (ev_pos rfl (ev_bind ht (ev_bind (eqNodeS_ev _ (by omega)) (ev_pos rfl ?_))))))
      refine ev_bind (markNodeS_ev _ 1 (by omega) (by omega)) (ev_bind (markNodeS_ev _ _ (by dsimp only; omega) (by dsimp only; omega)) (ev_neg (by dsimp only; omega) ?_))
      refine ev_bind (eqNodeS_ev _ (by omega)) (ev_pos rfl (ev_succ ?_))
      simp only [laws_FnExactGraft.j1]
      refine ev_neg (by decide) (ev_bind (markNodeS_ev _ 1 (by omega) (by omega)) ?_)
      have hh := heldNodeS_ev 1 (graftT (l.map cvN) i (t.map cvN)).1.length (by omega) (by omega)
      refine ev_bind hh (ev_neg (by omega) (ev_pos rfl ?_))
      refine ev_bind hl (ev_bind ht (ev_bind hi (ev_bind (eqNodeS_ev _ (by omega)) (ev_pos rfl (ev_succ ?_)))))
      simp only [laws_FnExactGraft.j2]
      rw [hsame]
      exact ev_neg (by decide) (ev_bind hh (ev_neg (by omega) (ev_pos rfl (Ev.now _))))

end Go.Proofs.Ytbogpdgfghpkeab.Pure
