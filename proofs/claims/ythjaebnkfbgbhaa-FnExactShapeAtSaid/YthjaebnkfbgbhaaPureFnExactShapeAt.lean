/- The law FnExactShapeAt, as a pure statement: row k of the tree shapes of n nodes is the reference's, for all numbers; no condition. -/
import Derived.Test.YthjaebnkfbgbhaaQFnExactShapeAta
namespace Go.Proofs.Ythjaebnkfbgbhaa.Pure
open Go.RowKit Go.Proofs.Ythjaebnkfbgbhaa.PFnExactShapeAt Go.Proofs.YthjaebnkfbgbhaaW.PrintWords Go.Proofs.YthjaebnkfbgbhaaW.PrintLast Go.Proofs.YthjaebnkfbgbhaaW.PrintMore Go.Proofs.Ythjaebnkfbgbhaa.EvAid Go.Proofs.Ythjaebnkfbgbhaa Go.Proofs.Ythjaebnkfbgbhaa.QFnExactShapeAt
set_option linter.unusedVariables false
set_option linter.unusedSimpArgs false

theorem shAt_length (n k : Int) : (shAt n k).length ≤ 100 := by
  unfold shAt
  split
  · rename_i h
    have hn : 1 ≤ n ∧ n ≤ 10 := by
      by_cases h2 : 1 ≤ n ∧ n ≤ 10
      · exact h2
      · exfalso; unfold shCount at h; rw [if_neg h2] at h; omega
    have hs : shCount n = TShape.wy (n - 1).toNat 0 := by unfold shCount; rw [if_pos hn]
    have := (TShape.sAt_spec (n - 1).toNat 0 k.toNat (by rw [← hs]; omega)).1
    simp only [List.length_cons, List.length_map, this]
    omega
  · simp

theorem FnExactShapeAt : laws_FnExactShapeAt.Pure := by
  intro n k h0 h1
  have hl := shAt_length n k
  refine Ev.rounds ?_
  simp only [laws_FnExactShapeAt.f]
  refine ev_bind (spec_ShapeAt_ev n k) (ev_bind (ShapeAt_ev n k) (ev_bind (eqIntS_ev _ (by omega)) (ev_pos rfl ?_)))
  refine ev_bind (markIntS_ev _ 1 (by omega) (by omega)) ?_
  have hh := heldIntS_ev 1 (shAt n k).length (by omega) (by omega)
  refine ev_bind hh (ev_neg (by omega) (ev_pos rfl ?_))
  refine ev_bind (ShapeAt_ev n k) (ev_bind (eqIntS_ev _ (by omega)) (ev_pos rfl ?_))
  refine ev_bind hh (ev_neg (by omega) (ev_pos rfl ?_))
  exact Ev.now _

end Go.Proofs.Ythjaebnkfbgbhaa.Pure
