/- The law FnExactDomInsert, as a pure statement: the linked tree with a node more is the reference's, for every linked tree, place, count and label; no condition beyond what can be read. -/
import Derived.Test.YtdapeboajjidmabQFnExactDomInsertc
import Derived.Test.YtdapeboajjidmabOFnExactDomInsert
namespace Go.Proofs.Ytdapeboajjidmab.Pure
open Go.RowKit Go.Proofs.Ytdapeboajjidmab.PFnExactDomInsert Go.Proofs.YtdapeboajjidmabW.PrintWords Go.Proofs.YtdapeboajjidmabW.PrintLast Go.Proofs.YtdapeboajjidmabW.PrintMore Go.Proofs.Ytdapeboajjidmab.EvAid Go.Proofs.Ytdapeboajjidmab Go.Proofs.Ytdapeboajjidmab.QFnExactDomInsert Go.Proofs.Ytdapeboajjidmab.OFnExactDomInsert
set_option linter.unusedVariables false
set_option linter.unusedSimpArgs false

theorem FnExactDomInsert : PureL := by
  intro s p fr ct lab hg hp0 hf0 hc0 hl0
  have hm := hg.1
  refine Ev.rounds ?_
  simp only [laws_FnExactDomInsert.f]
  refine ev_bindc (szDom_eq s.f0 1048576 (by omega) (by omega) hm) ?_
  by_cases hs : (1048576 : Int) < (s.f0.length : Int)
  · rw [if_pos hs]
    exact ev_pos (by omega) (Ev.now _)
  · rw [if_neg hs]
    refine ev_neg (by omega) ?_
    have ht := toDom_ev s.f0 (by omega)
    have hl : (s.f0.map cvD).length = s.f0.length := by simp
    have hf1 := hf0
    simp only [Lit.wf, Bool.and_eq_true, decide_eq_true_eq] at hf1
    obtain ⟨R, hR, h1, h2⟩ := insert_both (s.f0.map cvD) (by omega) p fr ct lab hf1
    have he := eqDom_ev R.1 (by omega)
    have hsame : (R.2 != R.2) = false := by simp
    have hh := heldDom_ev 1 R.1.length (by omega) (by omega)
    refine ev_bind ht (ev_bind h1 (ev_bind ht (ev_bind h2 (ev_bind he (ev_pos rfl (ev_succ ?_))))))
    simp only [laws_FnExactDomInsert.j0]
    rw [hsame]
    refine ev_neg (by decide) (ev_bind ht (ev_bind (eqDom_ev _ (by omega)) (ev_pos rfl ?_)))
    refine ev_bind (markDom_ev _ 1 (by omega) (by omega)) (ev_neg (by dsimp only; omega) ?_)
    refine ev_bind he (ev_pos rfl (ev_succ ?_))
    simp only [laws_FnExactDomInsert.j1]
    refine ev_neg (by decide) (ev_bind (markDom_ev _ 1 (by omega) (by omega)) ?_)
    refine ev_bind hh (ev_neg (by omega) (ev_pos rfl ?_))
    refine ev_bind ht (ev_bind h2 (ev_bind he (ev_pos rfl (ev_succ ?_))))
    simp only [laws_FnExactDomInsert.j2]
    rw [hsame]
    exact ev_neg (by decide) (ev_bind hh (ev_neg (by omega) (ev_pos rfl (Ev.now _))))

end Go.Proofs.Ytdapeboajjidmab.Pure
