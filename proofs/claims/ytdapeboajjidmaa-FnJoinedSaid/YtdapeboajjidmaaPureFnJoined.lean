/- The law FnJoined, as a pure statement: two scripts put one behind the other are those two, and are done as one; at whatever code; no condition beyond the slice's own bounds. -/
import Derived.Test.YtdapeboajjidmaaQFnJoinedc
namespace Go.Proofs.Ytdapeboajjidmaa.Pure
open Go.RowKit Go.Proofs.Ytdapeboajjidmaa.PFnJoined Go.Proofs.YtdapeboajjidmaaW.PrintWords Go.Proofs.YtdapeboajjidmaaW.PrintLast Go.Proofs.YtdapeboajjidmaaW.PrintMore Go.Proofs.Ytdapeboajjidmaa.EvAid Go.Proofs.Ytdapeboajjidmaa Go.Proofs.Ytdapeboajjidmaa.QFnJoined
set_option linter.unusedVariables false
set_option linter.unusedSimpArgs false

theorem FnJoined : laws_FnJoined.Pure := by
  intro l hm hl hb
  refine Ev.rounds ?_
  simp only [laws_FnJoined.f, big_eq]
  refine ev_bindc rfl ?_
  by_cases hbig : (l.length : Int) > 1048576
  · exact ev_pos (decide_eq_true hbig) (Ev.now _)
  · refine ev_neg (by simpa using hbig) ?_
    obtain ⟨t, a, hd, ht, ha⟩ := DrawApplyAll_ok l (by omega)
    obtain ⟨b, c, hj, hbd, hcd⟩ := DrawJoined_ok l (by omega)
    have hab := ha.b (by omega)
    have hbb := hbd.b (by omega)
    have hcb := hcd.b (by omega)
    have la := ha.1
    have lb := hbd.1
    have lc := hcd.1
    refine ev_bind hd (ev_bind hj (ev_bind (impl_Joined_ev b c hbb hcb (by omega)) ?_))
    dsimp only
    rw [w64 (x := (b.length : Int) + (c.length : Int)) (by omega) (by omega)]
    refine ev_pos (by rw [List.length_append]; omega) (ev_pos (by omega) (ev_pos (by rw [List.length_append]; omega) ?_))
    rw [Int.toNat_natCast, List.take_left', List.drop_left']
    rotate_left
    · rfl
    · rfl
    refine ev_bind (SameOps_self b hbb) (ev_pos rfl (ev_bind (SameOps_self c hcb) (ev_succ ?_)))
    simp only [laws_FnJoined.j0]
    refine ev_neg (by decide) (ev_bind (impl_Joined_ev a b hab hbb (by omega)) ?_)
    have habb := hab.append hbb (by omega)
    refine ev_bind (impl_ApplyAll_ev t (a ++ b) habb (by omega)) (ev_bind (spec_ApplyAll_ev t a hab (by omega)) ?_)
    by_cases hok : treeOk t = true
    · have e1 : allT t (a ++ b) = allF t 0 (a ++ b) := if_pos hok
      have e2 : allT t a = allF t 0 a := if_pos hok
      rw [e1, e2, allF_append]
      have hxl := allF_length 1000 (by omega) a t 0 ht
      by_cases hc : (allF t 0 a).2.2 = 0
      · rw [if_pos hc]
        have hy := allF_ok a t 0 hok
        have e3 : allT (allF t 0 a).1 b = allF (allF t 0 a).1 0 b := if_pos hy
        refine ev_pos hc (ev_bind (spec_ApplyAll_ev _ b hbb (by omega)) ?_)
        rw [e3, allF_from b (allF t 0 a).1 (allF t 0 a).2.1]
        have hxl2 := allF_length 1000 (by omega) b (allF t 0 a).1 0 hxl
        have n1 := allF_count a t 0
        have n2 := allF_count b (allF t 0 a).1 0
        dsimp only
        rw [w64 (x := (allF t 0 a).2.1 + (allF (allF t 0 a).1 0 b).2.1) (by omega) (by omega)]
        refine ev_pos rfl (ev_pos rfl (ev_bind (spec_SameTree_ev _ _ (by omega)) (ev_pos (sameT_self _) ?_)))
        have htk := spec_TreeOk_ev t (by omega)
        rw [hok] at htk
        refine ev_bind htk (ev_pos rfl (ev_bind UnitCost_ev (ev_bind (ScriptCost_ev t a hab (by omega) hok hc) (ev_some ?_))))
        have := costF_le a t
        simpa using this.1
      · rw [if_neg hc]
        refine ev_neg hc (ev_pos rfl (ev_some (by simp)))
    · have e1 : allT t (a ++ b) = ([], 0, 2) := if_neg hok
      have e2 : allT t a = ([], 0, 2) := if_neg hok
      rw [e1, e2]
      exact ev_neg (by decide) (ev_pos rfl (ev_some (by simp)))

end Go.Proofs.Ytdapeboajjidmaa.Pure
