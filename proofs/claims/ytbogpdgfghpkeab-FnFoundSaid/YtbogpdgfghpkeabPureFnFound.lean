/- The law FnFound, as a pure statement: what is found is just the equal subtrees, and what two have in common is in both; at whatever code; no condition beyond the slice's own bounds. -/
import Derived.Test.YtbogpdgfghpkeabQFnFoundb
namespace Go.Proofs.Ytbogpdgfghpkeab.Pure
open Go.RowKit Go.Proofs.Ytbogpdgfghpkeab.PFnFound Go.Proofs.YtbogpdgfghpkeabW.PrintWords Go.Proofs.YtbogpdgfghpkeabW.PrintLast Go.Proofs.YtbogpdgfghpkeabW.PrintMore Go.Proofs.Ytbogpdgfghpkeab.EvAid Go.Proofs.Ytbogpdgfghpkeab Go.Proofs.Ytbogpdgfghpkeab.QFnFound
set_option linter.unusedVariables false
set_option linter.unusedSimpArgs false

theorem mem_findF (l t : List S94) : ∀ (d i j : Nat), i ≤ j → j < i + d → (((j : Int) ∈ findF l t d i) ↔ sameT (subT l (j : Int)) t = true) := by
  intro d
  induction d with
  | zero => intro i j h1 h2; omega
  | succ d ih =>
    intro i j h1 h2
    have key : ∀ (d i : Nat) (x : Int), x ∈ findF l t d i → (i : Int) ≤ x := by
      intro d
      induction d with
      | zero => intro i x h; simp [findF] at h
      | succ d ih =>
        intro i x h
        rw [findF] at h
        split at h
        · rcases List.mem_cons.1 h with e | e
          · omega
          · have := ih (i + 1) x e; omega
        · have := ih (i + 1) x h; omega
    rw [findF]
    by_cases e : j = i
    · subst e
      by_cases hs : sameT (subT l (j : Int)) t = true
      · rw [if_pos hs]; simp [hs]
      · rw [if_neg hs]
        constructor
        · intro h; have := key d (j + 1) _ h; omega
        · intro h; exact absurd h hs
    · have i2 := ih (i + 1) j (by omega) (by omega)
      split
      · rw [List.mem_cons, i2]
        constructor
        · rintro (h | h)
          · omega
          · exact h
        · intro h; exact .inr h
      · exact i2
/-- what is told of the largest common subtree is so -/
theorem sharedF_spec (a b : List S94) : ∀ (d i : Nat) (r : Int × Int × Int), i + d = a.length → (r.2.2 = 0 ∨ (sameT (subT a r.1) (subT b r.2.1) = true ∧ ((subT a r.1).length : Int) = r.2.2)) →
    ((sharedF a b d i r).2.2 = 0 ∨ (sameT (subT a (sharedF a b d i r).1) (subT b (sharedF a b d i r).2.1) = true ∧ ((subT a (sharedF a b d i r).1).length : Int) = (sharedF a b d i r).2.2)) := by
  intro d
  induction d with
  | zero => intro i r _ h; exact h
  | succ d ih =>
    intro i r hi h
    rw [sharedF]
    apply ih (i + 1) _ (by omega)
    split
    · rename_i hc
      right
      refine ⟨?_, rfl⟩
      have hne := hc.2
      show sameT (subT a (i : Int)) (subT b (rd (findAll b (subT a (i : Int))) 0)) = true
      have hm : rd (findAll b (subT a (i : Int))) 0 ∈ findAll b (subT a (i : Int)) := by
        have e : rd (findAll b (subT a (i : Int))) 0 = (findAll b (subT a (i : Int)))[0] := by simp [rd, hne]
        rw [e]; exact List.getElem_mem hne
      have nn : ∀ (d i : Nat) (x : Int) (t : List S94), x ∈ findF b t d i → ∃ j : Nat, x = (j : Int) ∧ i ≤ j ∧ j < i + d := by
        intro d
        induction d with
        | zero => intro i x t h; simp [findF] at h
        | succ d ih =>
          intro i x t h
          rw [findF] at h
          split at h
          · rcases List.mem_cons.1 h with e | e
            · exact ⟨i, e, by omega, by omega⟩
            · obtain ⟨j, h1, h2, h3⟩ := ih (i + 1) x t e; exact ⟨j, h1, by omega, by omega⟩
          · obtain ⟨j, h1, h2, h3⟩ := ih (i + 1) x t h; exact ⟨j, h1, by omega, by omega⟩
      by_cases ht : treeOk (subT a (i : Int)) = true
      · have e2 : findAll b (subT a (i : Int)) = findF b (subT a (i : Int)) b.length 0 := by unfold findAll; rw [if_pos ht]
        have hm3 : rd (findAll b (subT a (i : Int))) 0 ∈ findF b (subT a (i : Int)) b.length 0 := by rw [← e2]; exact hm
        obtain ⟨j, hj1, hj2, hj3⟩ := nn _ _ _ _ hm3
        rw [hj1] at hm3 ⊢
        have := (mem_findF b (subT a (i : Int)) b.length 0 j hj2 hj3).1 hm3
        exact sameT_iff.2 (sameT_iff.1 this).symm
      · exfalso
        have e2 : findAll b (subT a (i : Int)) = [] := by unfold findAll; rw [if_neg ht]
        rw [e2] at hne
        simp at hne
    · exact h
theorem FnFound : laws_FnFound.Pure := by
  intro l hm hl hb
  refine Ev.rounds ?_
  simp only [laws_FnFound.f, big_eq]
  refine ev_bindc rfl ?_
  by_cases hbig : (l.length : Int) > 1048576
  · exact ev_pos (decide_eq_true hbig) (Ev.now _)
  · refine ev_neg (by simpa using hbig) ?_
    obtain ⟨a, t, hd, ha, ht⟩ := DrawFindAll_ok l (by omega)
    refine ev_bind hd (ev_bind (FindAll_ev a t (by omega)) ?_)
    have hfl : (findAll a t).length ≤ a.length := by
      unfold findAll
      split
      · exact findF_length _ _ _ _
      · simp
    obtain ⟨p, q, hs, hp, hq⟩ := DrawShared_ok l (by omega)
    have fin : ∀ (d i : Nat), i + d = a.length → Ev (fun k => laws_FnFound.l0 k l a t (findAll a t) (i : Int)) true := by
      intro d
      induction d with
      | zero =>
        intro i hi
        refine ev_succ ?_
        simp only [laws_FnFound.l0]
        refine ev_neg (by omega) (ev_bind hs (ev_bind (impl_Shared_ev p q (by omega) (by omega)) (ev_bind (spec_Shared_ev p q (by omega) (by omega)) (ev_pos rfl (ev_pos rfl (ev_pos rfl ?_))))))
        by_cases hz : (shared p q).2.2 = 0
        · exact ev_pos hz (Ev.now _)
        · refine ev_neg hz ?_
          have h0 := sharedF_spec p q p.length 0 (-1, -1, 0) (by omega) (.inl rfl)
          have h1 : sameT (subT p (shared p q).1) (subT q (shared p q).2.1) = true ∧ ((subT p (shared p q).1).length : Int) = (shared p q).2.2 := by
            rcases h0 with h | h
            · exact absurd h hz
            · exact h
          have hsl := subT_length p (shared p q).1
          refine ev_bind (spec_SubTree_ev p _ (by omega)) (ev_bind (spec_SubTree_ev q _ (by omega)) (ev_bind (spec_SameTree_ev _ _ (by omega)) (ev_pos h1.1 (ev_bind (impl_SubTree_ev p _ (by omega)) (ev_some ?_)))))
          rw [h1.2]
          simp
      | succ d ih =>
        intro i hi
        refine ev_succ ?_
        simp only [laws_FnFound.l0]
        refine ev_pos (by omega) (ev_bind (has_ev _ _ (by omega)) (ev_bind (spec_TreeOk_ev a (by omega)) ?_))
        rw [w64 (by omega) (by omega)]
        have hsl := subT_length a (i : Int)
        by_cases hta : treeOk a = true
        · refine ev_pos hta (ev_bind (spec_TreeOk_ev t (by omega)) ?_)
          by_cases htt : treeOk t = true
          · refine ev_pos htt (ev_bind (spec_SubTree_ev a _ (by omega)) (ev_bind (spec_SameTree_ev _ _ (by omega)) ?_))
            have e : decide ((i : Int) ∈ findAll a t) = sameT (subT a (i : Int)) t := by
              rw [Bool.eq_iff_iff, decide_eq_true_iff]
              have e2 : findAll a t = findF a t a.length 0 := by unfold findAll; rw [if_pos htt]
              rw [e2]
              exact mem_findF a t a.length 0 i (by omega) (by omega)
            rw [e]
            exact ev_neg (by simp) (ih (i + 1) (by omega))
          · refine ev_neg htt ?_
            have e : decide ((i : Int) ∈ findAll a t) = false := by
              have e2 : findAll a t = [] := by unfold findAll; rw [if_neg htt]
              rw [e2]; simp
            rw [e]
            exact ev_neg (by decide) (ih (i + 1) (by omega))
        · refine ev_neg hta ?_
          have e : decide ((i : Int) ∈ findAll a t) = false := by
            have e2 : findAll a t = [] := by
              unfold findAll
              split
              · rename_i htt
                exact findF_none (by simpa using hta) htt _ _
              · rfl
            rw [e2]; simp
          rw [e]
          exact ev_neg (by decide) (ih (i + 1) (by omega))
    exact fin a.length 0 (by omega)

end Go.Proofs.Ytbogpdgfghpkeab.Pure
