/- The law FnPaths, as a pure statement: the path of a node leads to that node, and no other path does; at whatever code; no condition beyond the slice's own bounds. -/
import Derived.Test.YtmbhlfcpdbbogabQFnPathsb
namespace Go.Proofs.Ytmbhlfcpdbbogab.Pure
open Go.RowKit Go.Proofs.Ytmbhlfcpdbbogab.PFnPaths Go.Proofs.YtmbhlfcpdbbogabW.PrintWords Go.Proofs.YtmbhlfcpdbbogabW.PrintLast Go.Proofs.YtmbhlfcpdbbogabW.PrintMore Go.Proofs.Ytmbhlfcpdbbogab.EvAid Go.Proofs.Ytmbhlfcpdbbogab Go.Proofs.Ytmbhlfcpdbbogab.QFnPaths
set_option linter.unusedVariables false
set_option linter.unusedSimpArgs false

theorem FnPaths : laws_FnPaths.Pure := by
  intro c hm hl hb
  refine Ev.rounds ?_
  simp only [laws_FnPaths.f, big_eq]
  refine ev_bindc rfl ?_
  by_cases hbig : (c.length : Int) > 1048576
  · exact ev_pos (decide_eq_true hbig) (Ev.now _)
  · refine ev_neg (by simpa using hbig) ?_
    obtain ⟨l, i, hd, hll⟩ := DrawPathOf_ok c (by omega)
    obtain ⟨m, q, hq, hml, hql⟩ := DrawNodeAt_ok c (by omega)
    refine ev_bind hd (ev_bind (impl_PathOf_ev l i (by omega)) (ev_bind hq (ev_bind (impl_NodeAt_ev m q (by omega)) (ev_bind (spec_NodeAt_ev m q (by omega) (by omega)) (ev_pos rfl ?_)))))
    have j0 : Ev (fun k => laws_FnPaths.j0 k l i (pathH l i) false) true := by
      refine ev_succ ?_
      simp only [laws_FnPaths.j0]
      refine ev_neg (by decide) (ev_bind (spec_TreeOk_ev l (by omega)) ?_)
      have bad : hasB l i = false → Ev (fun k => laws_FnPaths.j1 k l i (pathH l i) true) true := by
        intro h
        have e : pathH l i = [] := by unfold pathH; rw [if_neg (by rw [h]; decide)]
        rw [e]
        refine ev_succ ?_
        simp only [laws_FnPaths.j1]
        exact ev_pos trivial (ev_some (by simp))
      by_cases ht : treeOk l = true
      · refine ev_pos ht ?_
        by_cases h0 : i < 0
        · exact ev_pos h0 (bad (by unfold hasB; rw [ht, decide_eq_false (by omega)]; rfl))
        · refine ev_neg h0 ?_
          by_cases h1 : i ≥ (l.length : Int)
          · rw [decide_eq_true h1]
            exact bad (by unfold hasB; rw [ht, decide_eq_false (by omega)]; rfl)
          · rw [decide_eq_false h1]
            obtain ⟨n, rfl⟩ : ∃ n : Nat, i = (n : Int) := ⟨i.toNat, by omega⟩
            have hn : n < l.length := by omega
            have hpl := pathH_length ht hn
            have dn := dp_range ht hn
            have hnode := nodeI_pathH ht hn
            refine ev_succ ?_
            simp only [laws_FnPaths.j1]
            refine ev_neg (by decide) (ev_bind (impl_NodeAt_ev l _ (by omega)) (ev_pos hnode (ev_pos (by omega) (ev_pos (by omega) (ev_pos (by rw [rd_f1]; exact hpl) (ev_bind (impl_DomFrom_ev l) (ev_bind (DomFind_ok ht _ (by omega) (by omega)) (ev_some ?_))))))))
            rw [hnode]
            simp
      · refine ev_neg ht (bad ?_)
        unfold hasB
        have : treeOk l = false := by simpa using ht
        rw [this]; rfl
    by_cases hk : nodeI m q ≥ 0
    · refine ev_pos hk (ev_bind (impl_PathOf_ev m _ (by omega)) ?_)
      rw [pathH_nodeI hk]
      exact ev_bind (sameInts_self q (by omega)) j0
    · exact ev_neg hk j0

end Go.Proofs.Ytmbhlfcpdbbogab.Pure
