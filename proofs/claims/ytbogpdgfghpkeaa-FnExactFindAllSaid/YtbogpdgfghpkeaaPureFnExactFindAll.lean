/- The law FnExactFindAll, as a pure statement: the places of equal subtrees are the reference's, for every two lists of nodes; no condition. -/
import Derived.Test.YtbogpdgfghpkeaaQFnExactFindAlla
import Derived.Test.YtbogpdgfghpkeaaOFnExactFindAll
namespace Go.Proofs.Ytbogpdgfghpkeaa.Pure
open Go.RowKit Go.Proofs.Ytbogpdgfghpkeaa.PFnExactFindAll Go.Proofs.YtbogpdgfghpkeaaW.PrintWords Go.Proofs.YtbogpdgfghpkeaaW.PrintLast Go.Proofs.YtbogpdgfghpkeaaW.PrintMore Go.Proofs.Ytbogpdgfghpkeaa.EvAid Go.Proofs.Ytbogpdgfghpkeaa Go.Proofs.Ytbogpdgfghpkeaa.QFnExactFindAll Go.Proofs.Ytbogpdgfghpkeaa.OFnExactFindAll
set_option linter.unusedVariables false
set_option linter.unusedSimpArgs false

theorem findAll_length (l t : List S68) : (findAll l t).length ≤ l.length := by
  unfold findAll
  split
  · exact findF_length _ _ _ _
  · simp
theorem FnExactFindAll : PureL := by
  intro l t hm hg hm2 hg2
  refine Ev.rounds ?_
  simp only [laws_FnExactFindAll.f]
  refine ev_bindc (szNodeS_eq l 1048576 (by omega) (by omega) hm) ?_
  by_cases hs : (1048576 : Int) < (l.length : Int)
  · rw [if_pos hs]
    exact ev_pos (by omega) (Ev.now _)
  · rw [if_neg hs]
    refine ev_neg (by omega) (ev_bindc (szNodeS_eq t _ (by omega) (by omega) hm2) ?_)
    by_cases hs2 : (1048576 : Int) - (l.length : Int) < (t.length : Int)
    · rw [if_pos hs2]
      exact ev_pos (by omega) (Ev.now _)
    · rw [if_neg hs2]
      refine ev_neg (by omega) ?_
      have tl := toNodeS_ev l (by omega)
      have tt := toNodeS_ev t (by omega)
      have hl : (l.map cvN).length = l.length := by simp
      have ht : (t.map cvN).length = t.length := by simp
      have hr := findAll_length (l.map cvN) (t.map cvN)
      have hi := FindAll_ev (l.map cvN) (t.map cvN) (by omega)
      refine ev_bind tl (ev_bind tt (ev_bind (spec_FindAll_ev _ _ (by omega) (by omega)) (ev_bind tl (ev_bind tt (ev_bind hi (ev_bind (eqIntS_ev _ (by omega)) (ev_pos rfl ?_)))))))
      refine ev_bind tl (ev_bind (eqNodeS_ev _ (by omega)) (ev_pos rfl (ev_bind tt (ev_bind (eqNodeS_ev _ (by omega)) (ev_pos rfl ?_)))))
      refine ev_bind (markNodeS_ev _ 1 (by omega) (by omega)) (ev_bind (markNodeS_ev _ _ (by omega) (by omega)) (ev_neg (by omega) ?_))
      refine ev_bind (eqIntS_ev _ (by omega)) (ev_succ ?_)
      simp only [laws_FnExactFindAll.j0]
      refine ev_neg (by decide) (ev_bind (markIntS_ev _ 1 (by omega) (by omega)) ?_)
      have hh := heldIntS_ev 1 (findAll (l.map cvN) (t.map cvN)).length (by omega) (by omega)
      refine ev_bind hh (ev_neg (by omega) (ev_pos rfl ?_))
      refine ev_bind tl (ev_bind tt (ev_bind hi (ev_bind (eqIntS_ev _ (by omega)) (ev_pos rfl ?_))))
      exact ev_bind hh (ev_neg (by omega) (ev_pos rfl (Ev.now _)))

end Go.Proofs.Ytbogpdgfghpkeaa.Pure
