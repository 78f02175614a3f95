/- The law FnGrafts, as a pure statement: what is put behind a node's kids is there, and cut away it is as it was; at whatever code; no condition beyond the slice's own bounds. -/
import Derived.Test.YtbogpdgfghpkeacQFnGraftsb
namespace Go.Proofs.Ytbogpdgfghpkeac.Pure
open Go.RowKit Go.Proofs.Ytbogpdgfghpkeac.PFnGrafts Go.Proofs.YtbogpdgfghpkeacW.PrintWords Go.Proofs.YtbogpdgfghpkeacW.PrintLast Go.Proofs.YtbogpdgfghpkeacW.PrintMore Go.Proofs.Ytbogpdgfghpkeac.EvAid Go.Proofs.Ytbogpdgfghpkeac Go.Proofs.Ytbogpdgfghpkeac.QFnGrafts
set_option linter.unusedVariables false
set_option linter.unusedSimpArgs false

theorem FnGrafts : laws_FnGrafts.Pure := by
  intro l hm hl hb
  refine Ev.rounds ?_
  simp only [laws_FnGrafts.f, big_eq]
  refine ev_bindc rfl ?_
  by_cases hbig : (l.length : Int) > 1048576
  · exact ev_pos (decide_eq_true hbig) (Ev.now _)
  · refine ev_neg (by simpa using hbig) ?_
    obtain ⟨a, i, t, hd, ha, ht⟩ := DrawGraft_ok l (by omega)
    obtain ⟨m, k, hp, hm2⟩ := DrawPrune_ok l (by omega)
    have hgl := graftT_length a i t
    have hpl := pruneT_length m k
    have hsl := subT_length m k
    refine ev_bind hd (ev_bind (impl_Graft_ev a i t (by omega) (by omega)) (ev_bind (spec_Graft_ev a i t (by omega) (by omega)) (ev_neg (by simp) ?_)))
    have j1 : Ev (fun q => laws_FnGrafts.j1 q a i t (graftT a i t).1 (graftT a i t).2 false) true := by
      refine ev_succ ?_
      simp only [laws_FnGrafts.j1]
      refine ev_neg (by decide) ?_
      by_cases hg : (graftT a i t).2 = true
      · refine ev_pos hg ?_
        have hh : (hasB a i = true ∧ treeOk t = true) ∧ treeOk (graftG a i.toNat t) = true := by
          unfold graftT at hg
          by_cases h : hasB a i = true ∧ treeOk t = true
          · refine ⟨h, ?_⟩
            rw [if_pos h] at hg
            by_cases h2 : treeOk (graftG a i.toNat t) = true
            · exact h2
            · rw [if_neg h2] at hg; cases hg
          · rw [if_neg h] at hg; cases hg
        have hG : (graftT a i t).1 = graftG a i.toNat t := by
          unfold graftT
          rw [if_pos hh.1, if_pos hh.2]
        obtain ⟨⟨hha, hht⟩, hgg⟩ := hh
        obtain ⟨n, rfl, hn, _⟩ := hasB_nat hha
        rw [hG] at hgl ⊢
        rw [Int.toNat_natCast] at hG hgg hgl ⊢
        obtain ⟨ks, hks⟩ := graft_kids hn hht hgg
        have hkl := kidsI_length (graftG a n t) (n : Int)
        rw [hks, List.length_append, List.length_singleton] at hkl
        have hlen : ((ks ++ [((Tree.eo a.length (dpA a) n : Nat) : Int)]).length : Int) = (ks.length : Int) + 1 := by rw [List.length_append, List.length_singleton]; rfl
        have hrd : rd (ks ++ [((Tree.eo a.length (dpA a) n : Nat) : Int)]) (ks.length : Int) = ((Tree.eo a.length (dpA a) n : Nat) : Int) := by
          unfold rd
          rw [Int.toNat_natCast, List.getD_eq_getElem?_getD, List.getElem?_append_right (Nat.le_refl _), Nat.sub_self]
          rfl
        refine ev_bind (spec_KidsOf_ev _ _ (by omega)) ?_
        rw [hks, hlen, Int.add_sub_cancel, w64 (x := (ks.length : Int)) (by omega) (by omega), hrd]
        refine ev_neg (by omega) (ev_pos (by omega) (ev_pos (by omega) (ev_bind (spec_SubTree_ev _ _ (by omega)) ?_)))
        rw [graft_sub hn hht hgg]
        refine ev_bind (spec_SameTree_ev _ _ (by omega)) (ev_pos (sameT_self _) (ev_bind (FindAll_ev _ t (by omega)) (ev_bind (has_ev _ _ ?_) ?_)))
        · have : (findAll (graftG a n t) t).length ≤ (graftG a n t).length := by
            unfold findAll
            rw [if_pos hht]
            exact findF_length _ _ _ _
          omega
        · have he := Tree.eo_le (D := dpA a) hn
          have h24 := (treeOk_iff.1 hht).1
          have hgl2 := graftG_length a n t hn
          have e : decide (((Tree.eo a.length (dpA a) n : Nat) : Int) ∈ findAll (graftG a n t) t) = true := by
            have e2 : findAll (graftG a n t) t = findF (graftG a n t) t (graftG a n t).length 0 := by unfold findAll; rw [if_pos hht]
            rw [e2, decide_eq_true_iff]
            refine (mem_findF (graftG a n t) t _ 0 _ (by omega) (by omega)).2 ?_
            rw [graft_sub hn hht hgg]
            exact sameT_self _
          rw [e]
          refine ev_succ ?_
          simp only [laws_FnGrafts.j2]
          rw [hlen, Int.add_sub_cancel, w64 (x := (ks.length : Int)) (by omega) (by omega), hrd]
          have hpr := impl_Prune_ev (graftG a n t) ((Tree.eo a.length (dpA a) n : Nat) : Int) (by omega)
          rw [graft_prune hn hht hgg] at hpr
          refine ev_neg (by decide) (ev_pos (by omega) (ev_pos (by omega) (ev_bind hpr (ev_pos rfl (ev_bind (spec_SameTree_ev a a (by omega)) (ev_some (sameT_self a)))))))
      · exact ev_neg hg (Ev.now _)
    have j0 : Ev (fun q => laws_FnGrafts.j0 q l a i t (graftT a i t).1 (graftT a i t).2 false) true := by
      refine ev_succ ?_
      simp only [laws_FnGrafts.j0]
      refine ev_neg (by decide) (ev_bind hp (ev_bind (impl_Prune_ev m k (by omega)) (ev_bind (spec_Prune_ev m k (by omega)) (ev_neg (by simp) (ev_bind (spec_SameTree_ev _ _ (by omega)) (ev_pos (sameT_self _) ?_))))))
      by_cases hc : (pruneT m k).2 = true
      · have hh : hasB m k = true ∧ k ≠ 0 := by
          unfold pruneT at hc
          by_cases h : hasB m k = true ∧ k ≠ 0
          · exact h
          · rw [if_neg h] at hc; cases hc
        obtain ⟨n, rfl, hn, _⟩ := hasB_nat hh.1
        obtain ⟨p1, p2⟩ := prune_ok hh.1 (by omega)
        refine ev_pos hc (ev_bind (spec_TreeOk_ev _ (by omega)) (ev_pos p1 (ev_bind (spec_SubTree_ev m _ (by omega)) ?_)))
        dsimp only
        rw [w64 (by omega) (by omega)]
        have e : (((pruneT m (n : Int)).1.length : Int) + ((subT m (n : Int)).length : Int) != (m.length : Int)) = false := by
          simp only [bne_eq_false_iff_eq]
          omega
        rw [e]
        exact j1
      · exact ev_neg hc j1
    by_cases hg : (graftT a i t).2 = true
    · exact ev_pos hg j0
    · refine ev_neg hg (ev_bind (spec_SameTree_ev _ _ (by omega)) ?_)
      have e : (graftT a i t).1 = a := by
        unfold graftT at hg ⊢
        split
        · rename_i h
          rw [if_pos h] at hg
          split
          · rename_i h2; rw [if_pos h2] at hg; exact absurd rfl hg
          · rfl
        · rfl
      have e2 : sameT (graftT a i t).1 a = true := sameT_iff.2 e
      rw [e2]
      exact j0

end Go.Proofs.Ytbogpdgfghpkeac.Pure
