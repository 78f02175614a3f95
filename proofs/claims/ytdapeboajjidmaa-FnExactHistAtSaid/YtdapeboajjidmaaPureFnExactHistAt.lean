/- The law FnExactHistAt, as a pure statement: the tree behind so many steps of a history is the reference's, for every history and number; no condition. -/
import Derived.Test.YtdapeboajjidmaaQFnExactHistAtc
import Derived.Test.YtdapeboajjidmaaOFnExactHistAt
namespace Go.Proofs.Ytdapeboajjidmaa.Pure
open Go.RowKit Go.Proofs.Ytdapeboajjidmaa.PFnExactHistAt Go.Proofs.YtdapeboajjidmaaW.PrintWords Go.Proofs.YtdapeboajjidmaaW.PrintLast Go.Proofs.YtdapeboajjidmaaW.PrintMore Go.Proofs.Ytdapeboajjidmaa.EvAid Go.Proofs.Ytdapeboajjidmaa Go.Proofs.Ytdapeboajjidmaa.QFnExactHistAt Go.Proofs.Ytdapeboajjidmaa.OFnExactHistAt
set_option linter.unusedVariables false
set_option linter.unusedSimpArgs false

theorem FnExactHistAt : PureL := by
  intro s n hg _
  obtain ⟨⟨g1, _⟩, g2, g3⟩ := hg
  refine Ev.rounds ?_
  simp only [laws_FnExactHistAt.f]
  have hssb : SSB s.f1 := ⟨g2, fun x hx => ⟨(g3 x hx).1, fun o ho => ((g3 x hx).2 o ho).2.1.1⟩⟩
  obtain ⟨r, hr, hcase⟩ := szHist_ev s.f0 s.f1 g1 hssb
  refine ev_bind hr ?_
  by_cases hneg : r < 0
  · exact ev_pos hneg (Ev.now _)
  · obtain ⟨h1, h2, h3⟩ : s.f0.length ≤ 1048576 ∧ s.f1.length ≤ 1048576 ∧ ∀ x ∈ s.f1, x.length ≤ 1048576 ∧ ∀ o ∈ x, o.f1.length ≤ 1048576 := by
      rcases hcase with h | h
      · exact absurd h hneg
      · exact h
    have ht := toHist_ev s.f0 s.f1 h1 h2 h3
    have h3' : ∀ x ∈ s.f1.map (List.map cvO), x.length ≤ 1048576 ∧ ∀ o ∈ x, o.f1.length ≤ 1048576 := by
      intro x hx
      obtain ⟨y, hy, rfl⟩ := List.mem_map.1 hx
      refine ⟨by rw [List.length_map]; exact (h3 y hy).1, fun o ho => ?_⟩
      obtain ⟨p, hp, rfl⟩ := List.mem_map.1 ho
      exact (h3 y hy).2 p hp
    have hb : ∀ x ∈ s.f1.map (List.map cvO), OpsB x := fun x hx => ⟨by have := (h3' x hx).1; omega, fun o ho => by have := (h3' x hx).2 o ho; omega⟩
    have l1 : (s.f0.map cvN).length ≤ 1048576 := by rw [List.length_map]; exact h1
    have l2 : (s.f1.map (List.map cvO)).length ≤ 1048576 := by rw [List.length_map]; exact h2
    obtain ⟨m, hm0, hm⟩ := markHist_ev _ _ l1 l2 h3'
    have hsp := spec_HistAt_ev _ _ n l1 l2 hb
    have him := impl_HistAt_ev _ _ n l1 l2 hb
    have hlen := histAtT_length (s.f0.map cvN) (s.f1.map (List.map cvO)) n (by omega)
    have heq := eqHist_ev _ _ l1 l2 hb
    generalize histAtT (s.f0.map cvN) (s.f1.map (List.map cvO)) n = T at *
    have hh := heldNodeS_ev 1 T.length (by omega) (by omega)
    refine ev_neg hneg (ev_bind ht (ev_bind hsp (ev_bind ht (ev_bind him (ev_bind (eqNodeS_ev T (by omega)) (ev_pos rfl (ev_bind ht (ev_bind heq (ev_pos rfl ?_)))))))))
    refine ev_bind hm (ev_neg (by omega) (ev_bind (eqNodeS_ev T (by omega)) (ev_pos rfl (ev_bind (markNodeS_ev T 1 (by omega) (by omega)) ?_))))
    exact ev_bind hh (ev_neg (by omega) (ev_pos rfl (ev_bind ht (ev_bind him (ev_bind (eqNodeS_ev T (by omega)) (ev_pos rfl (ev_bind hh (ev_neg (by omega) (ev_pos rfl (Ev.now _))))))))))

end Go.Proofs.Ytdapeboajjidmaa.Pure
