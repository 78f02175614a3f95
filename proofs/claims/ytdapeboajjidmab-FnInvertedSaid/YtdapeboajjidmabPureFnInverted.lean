/- The law FnInverted, as a pure statement: the inverse of a script makes the tree what it was, itself inverted what it became, and costs the same; at whatever code; no condition beyond the slice's own bounds. -/
import Derived.Test.YtdapeboajjidmabQFnInvertedc
namespace Go.Proofs.Ytdapeboajjidmab.Pure
open Go.RowKit Go.Proofs.Ytdapeboajjidmab.PFnInverted Go.Proofs.YtdapeboajjidmabW.PrintWords Go.Proofs.YtdapeboajjidmabW.PrintLast Go.Proofs.YtdapeboajjidmabW.PrintMore Go.Proofs.Ytdapeboajjidmab.EvAid Go.Proofs.Ytdapeboajjidmab Go.Proofs.Ytdapeboajjidmab.QFnInverted
set_option linter.unusedVariables false
set_option linter.unusedSimpArgs false

theorem FnInverted : laws_FnInverted.Pure := by
  intro l hm hl hb
  refine Ev.rounds ?_
  simp only [laws_FnInverted.f, big_eq]
  refine ev_bindc rfl ?_
  by_cases hbig : (l.length : Int) > 1048576
  · exact ev_pos (decide_eq_true hbig) (Ev.now _)
  · refine ev_neg (by simpa using hbig) ?_
    obtain ⟨a, ops, hd, ha, ho⟩ := DrawInvert_ok l (by omega)
    have hob := ho.b (by omega)
    have hol := ho.1
    refine ev_bind hd (ev_bind (impl_Invert_ev a ops hob (by omega)) (ev_bind (spec_ApplyAll_ev a ops hob (by omega)) (ev_bind (spec_TreeOk_ev a (by omega)) ?_)))
    have bad : invT a ops = ([], false) → Ev (fun k => laws_FnInverted.j0 k a ops (invT a ops).1 (invT a ops).2 (allT a ops).1 true) true := by
      intro e
      rw [e]
      refine ev_succ ?_
      simp only [laws_FnInverted.j0]
      exact ev_pos trivial (ev_neg (by decide) (ev_some (by simp)))
    by_cases ht : treeOk a = true
    · refine ev_pos ht ?_
      have hall : allT a ops = allF a 0 ops := if_pos ht
      have hinv : invT a ops = invR [] (invF a ops) := if_pos ht
      by_cases hc : (allT a ops).2.2 = 0
      · have e : ((allT a ops).2.2 != 0) = false := by rw [hc]; rfl
        rw [e]
        have hsome : invF a ops ≠ none := by
          intro h
          rw [hall] at hc
          exact (invF_all ops a 0).1 h hc
        obtain ⟨q, hq⟩ := Option.ne_none_iff_exists'.1 hsome
        obtain ⟨q1, q2, q3⟩ := invF_back ops q a hq
        have e2 : invT a ops = (q.reverse, true) := by rw [hinv, hq]; simp [invR]
        have hx := allF_ok ops a 0 ht
        have hxl := allF_length 1000 (by omega) ops a 0 ha
        have hp := q2 2001 ho.2
        have hqb : OpsB q.reverse := ⟨by rw [List.length_reverse]; omega, fun o h => by have := hp o (List.mem_reverse.1 h); omega⟩
        obtain ⟨c1, c2⟩ := q3 0 0
        have e3 : allT (allF a 0 ops).1 q.reverse = (a, (q.length : Int), 0) := by
          rw [show allT (allF a 0 ops).1 q.reverse = allF (allF a 0 ops).1 0 q.reverse from if_pos hx, c1, Int.zero_add]
        -- back again
        have hsome2 : invF (allF a 0 ops).1 q.reverse ≠ none := by
          intro h
          exact (invF_all q.reverse (allF a 0 ops).1 0).1 h (by rw [c1])
        obtain ⟨p, hpq⟩ := Option.ne_none_iff_exists'.1 hsome2
        obtain ⟨p1, p2, p3⟩ := invF_back q.reverse p _ hpq
        obtain ⟨d1, d2⟩ := p3 0 0
        rw [c1] at d1
        have hpp := p2 2002 (fun o h => hp o (List.mem_reverse.1 h))
        have e4 : invT (allF a 0 ops).1 q.reverse = (p.reverse, true) := by
          rw [show invT (allF a 0 ops).1 q.reverse = invR [] (invF (allF a 0 ops).1 q.reverse) from if_pos hx, hpq]; simp [invR]
        have hpb : OpsB p.reverse := ⟨by rw [List.length_reverse, p1, List.length_reverse]; omega, fun o h => by have := hpp o (List.mem_reverse.1 h); omega⟩
        have e5 : allT a p.reverse = ((allF a 0 ops).1, (p.length : Int), 0) := by
          rw [show allT a p.reverse = allF a 0 p.reverse from if_pos ht, d1, Int.zero_add]
        rw [e2, hall]
        refine ev_succ ?_
        simp only [laws_FnInverted.j0]
        refine ev_neg (by decide) (ev_bind (impl_ApplyAll_ev _ q.reverse hqb (by omega)) (ev_bind (impl_Invert_ev _ q.reverse hqb (by omega)) ?_))
        rw [e3, e4]
        refine ev_bind (impl_ApplyAll_ev a p.reverse hpb (by omega)) ?_
        rw [e5]
        have hs1 := ScriptCost_ev a ops hob (by omega) ht (by rw [← hall]; exact hc)
        have hs2 := ScriptCost_ev (allF a 0 ops).1 q.reverse hqb (by omega) hx (by rw [c1])
        rw [c2] at hs2
        refine ev_bind UnitCost_ev (ev_pos trivial (ev_pos rfl (ev_pos (by rw [List.length_reverse]; omega) (ev_pos rfl (ev_pos (by rw [List.length_reverse]) ?_)))))
        refine ev_bind (spec_SameTree_ev _ _ (by dsimp only; omega)) (ev_pos (sameT_self _) (ev_pos rfl (ev_bind (spec_SameTree_ev _ _ (by dsimp only; omega)) (ev_pos (sameT_self _) ?_))))
        exact ev_bind hs1 (ev_bind hs2 (ev_some (by simp)))
      · have e : ((allT a ops).2.2 != 0) = true := by simpa using hc
        rw [e]
        refine bad ?_
        rw [hall] at hc
        rw [hinv, (invF_all ops a 0).2 hc]
        rfl
    · refine ev_neg ht (bad ?_)
      unfold invT
      rw [if_neg ht]

end Go.Proofs.Ytdapeboajjidmab.Pure
