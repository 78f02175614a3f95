/- The law FnIdle, as a pure statement: leaving out the operations that change nothing keeps the result, and a second time nothing is left out; at whatever code; no condition beyond the slice's own bounds. -/
import Derived.Test.YtmbhlfcpdbbogaaQFnIdleb
namespace Go.Proofs.Ytmbhlfcpdbbogaa.Pure
open Go.RowKit Go.Proofs.Ytmbhlfcpdbbogaa.PFnIdle Go.Proofs.YtmbhlfcpdbbogaaW.PrintWords Go.Proofs.YtmbhlfcpdbbogaaW.PrintLast Go.Proofs.YtmbhlfcpdbbogaaW.PrintMore Go.Proofs.Ytmbhlfcpdbbogaa.EvAid Go.Proofs.Ytmbhlfcpdbbogaa Go.Proofs.Ytmbhlfcpdbbogaa.QFnIdle
set_option linter.unusedVariables false
set_option linter.unusedSimpArgs false

theorem FnIdle : laws_FnIdle.Pure := by
  intro l hm hl hb
  refine Ev.rounds ?_
  simp only [laws_FnIdle.f, big_eq]
  refine ev_bindc rfl ?_
  by_cases hbig : (l.length : Int) > 1048576
  · exact ev_pos (decide_eq_true hbig) (Ev.now _)
  · refine ev_neg (by simpa using hbig) ?_
    obtain ⟨a, ops, hd, ha, ho⟩ := DrawDropIdle_ok l (by omega)
    have hob := ho.b (by omega)
    have hol := ho.1
    refine ev_bind hd (ev_bind (impl_DropIdle_ev a ops hob (by omega)) (ev_bind (spec_ApplyAll_ev a ops hob (by omega)) (ev_bind (spec_TreeOk_ev a (by omega)) ?_)))
    have bad : idleT a ops = ([], false) → Ev (fun k => laws_FnIdle.j0 k a ops (idleT a ops).1 (idleT a ops).2 (allT a ops).1 true) true := by
      intro e
      rw [e]
      refine ev_succ ?_
      simp only [laws_FnIdle.j0]
      exact ev_pos trivial (ev_neg (by decide) (ev_some (by simp)))
    by_cases ht : treeOk a = true
    · refine ev_pos ht ?_
      have hall : allT a ops = allF a 0 ops := if_pos ht
      have hidl : idleT a ops = idleR [] (idleF a ops) := if_pos ht
      by_cases hc : (allT a ops).2.2 = 0
      · have e : ((allT a ops).2.2 != 0) = false := by rw [hc]; rfl
        rw [e]
        have hsome : idleF a ops ≠ none := by
          intro h
          rw [hall] at hc
          exact (idleF_all ops a 0).1 h hc
        obtain ⟨q, hq⟩ := Option.ne_none_iff_exists'.1 hsome
        obtain ⟨q1, q2, q3, q4⟩ := idleF_few ops q a hq
        have hqb := hob.sub q1 q2
        have e2 : idleT a ops = (q, true) := by rw [hidl, hq]; simp [idleR]
        have e3 : idleT a q = (q, true) := by unfold idleT; rw [if_pos ht, q3]; simp [idleR]
        have e4 : allT a q = allF a 0 q := if_pos ht
        obtain ⟨q5, q6⟩ := q4 0 0
        rw [e2]
        refine ev_succ ?_
        simp only [laws_FnIdle.j0]
        have hxl := allT_length a ops 1000 (by omega) ha
        refine ev_neg (by decide) (ev_bind (impl_ApplyAll_ev a q hqb (by omega)) (ev_bind (impl_DropIdle_ev a q hqb (by omega)) (ev_pos trivial ?_)))
        rw [e3]
        refine ev_pos rfl (ev_pos (by rw [e4]; exact q6) (ev_bind (spec_SameTree_ev _ _ (by omega)) (ev_pos ?_ (ev_pos (by omega) (ev_bind (SameOps_self q hqb) (Ev.now _))))))
        rw [hall, e4, q5]
        exact sameT_self _
      · have e : ((allT a ops).2.2 != 0) = true := by simpa using hc
        rw [e]
        refine bad ?_
        rw [hall] at hc
        rw [hidl, (idleF_all ops a 0).2 hc]
        rfl
    · refine ev_neg ht (bad ?_)
      unfold idleT
      rw [if_neg ht]

end Go.Proofs.Ytmbhlfcpdbbogaa.Pure
