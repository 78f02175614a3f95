/- The law FnExactShapeCount, as a pure statement: the program's count of shapes is the reference's for every number; no condition. -/
import Derived.Test.YthjaebnkfbgbhaaQFnExactShapeCounta
namespace Go.Proofs.Ythjaebnkfbgbhaa.Pure
open Go.RowKit Go.Proofs.Ythjaebnkfbgbhaa.PFnExactShapeCount Go.Proofs.YthjaebnkfbgbhaaW.PrintWords Go.Proofs.YthjaebnkfbgbhaaW.PrintLast Go.Proofs.YthjaebnkfbgbhaaW.PrintMore Go.Proofs.Ythjaebnkfbgbhaa.EvAid Go.Proofs.Ythjaebnkfbgbhaa Go.Proofs.Ythjaebnkfbgbhaa.QFnExactShapeCount
set_option linter.unusedVariables false
set_option linter.unusedSimpArgs false

theorem FnExactShapeCount : laws_FnExactShapeCount.Pure := by
  intro a hw
  refine ⟨400, ?_⟩
  by_cases h : 1 ≤ a ∧ a ≤ 10
  · have h3 : a = 1 ∨ a = 2 ∨ a = 3 ∨ a = 4 ∨ a = 5 ∨ a = 6 ∨ a = 7 ∨ a = 8 ∨ a = 9 ∨ a = 10 := by omega
    rcases h3 with h | h | h | h | h | h | h | h | h | h <;> rw [h] <;> decide +kernel
  · have hi : impl_within.f a 1 10 = some false := by
      unfold impl_within.f
      by_cases h1 : 1 ≤ a
      · rw [if_pos h1, decide_eq_false (by omega)]
      · rw [if_neg h1]
    have hs : spec_l1In.f a 1 10 = some false := by
      unfold spec_l1In.f
      by_cases h1 : a ≥ 1
      · rw [if_pos h1, decide_eq_false (by omega)]
      · rw [if_neg h1]
    unfold laws_FnExactShapeCount.f spec_ShapeCount.f impl_ShapeCount.f
    rw [hi, hs]
    rfl

end Go.Proofs.Ythjaebnkfbgbhaa.Pure
