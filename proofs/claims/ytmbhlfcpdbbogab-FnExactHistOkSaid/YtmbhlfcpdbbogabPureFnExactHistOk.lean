/- The law FnExactHistOk, as a pure statement: whether a history is valid is told as the reference tells it, for every history; no condition. -/
import Derived.Test.YtmbhlfcpdbbogabQFnExactHistOkb
import Derived.Test.YtmbhlfcpdbbogabOFnExactHistOk
namespace Go.Proofs.Ytmbhlfcpdbbogab.Pure
open Go.RowKit Go.Proofs.Ytmbhlfcpdbbogab.PFnExactHistOk Go.Proofs.YtmbhlfcpdbbogabW.PrintWords Go.Proofs.YtmbhlfcpdbbogabW.PrintLast Go.Proofs.YtmbhlfcpdbbogabW.PrintMore Go.Proofs.Ytmbhlfcpdbbogab.EvAid Go.Proofs.Ytmbhlfcpdbbogab Go.Proofs.Ytmbhlfcpdbbogab.QFnExactHistOk Go.Proofs.Ytmbhlfcpdbbogab.OFnExactHistOk
set_option linter.unusedVariables false
set_option linter.unusedSimpArgs false

theorem FnExactHistOk : PureL := by
  intro s hg
  obtain ⟨⟨g1, _⟩, g2, g3⟩ := hg
  refine Ev.rounds ?_
  simp only [laws_FnExactHistOk.f]
  have hssb : SSB s.f1 := ⟨g2, fun x hx => ⟨(g3 x hx).1, fun o ho => ((g3 x hx).2 o ho).2.1.1⟩⟩
  obtain ⟨r, hr, hcase⟩ := szHist_ev s.f0 s.f1 g1 hssb
  refine ev_bind hr ?_
  by_cases hneg : r < 0
  · exact ev_pos hneg (Ev.now _)
  · obtain ⟨h1, h2, h3⟩ : s.f0.length ≤ 1048576 ∧ s.f1.length ≤ 1048576 ∧ ∀ x ∈ s.f1, x.length ≤ 1048576 ∧ ∀ o ∈ x, o.f1.length ≤ 1048576 := by
      rcases hcase with h | h
      · exact absurd h hneg
      · exact h
    have ht := toHist_ev s.f0 s.f1 h1 h2 h3
    have hb : ∀ x ∈ s.f1.map (List.map cvO), OpsB x := by
      intro x hx
      obtain ⟨y, hy, rfl⟩ := List.mem_map.1 hx
      refine ⟨by rw [List.length_map]; have := (h3 y hy).1; omega, fun o ho => ?_⟩
      obtain ⟨p, hp, rfl⟩ := List.mem_map.1 ho
      have := (h3 y hy).2 p hp
      show ((p.f1.length : Nat) : Int) ≤ _
      omega
    have l1 : (s.f0.map cvN).length ≤ 1048576 := by rw [List.length_map]; exact h1
    have l2 : (s.f1.map (List.map cvO)).length ≤ 1048576 := by rw [List.length_map]; exact h2
    refine ev_neg hneg (ev_bind ht (ev_bind (spec_HistOk_ev _ _ l1 l2 hb) (ev_bind ht (ev_bind (impl_HistOk_ev _ _ l1 l2 hb) (ev_neg (by simp) (ev_bind ht (ev_bind (eqHist_ev _ _ l1 l2 hb) (ev_pos rfl (Ev.now _)))))))))

end Go.Proofs.Ytmbhlfcpdbbogab.Pure
