/- The law FnCounts, as a pure statement: for every code the count of the shapes of n nodes is the sum over the first subtree; no condition beyond the slice's own bounds. -/
import Derived.Test.YthjaebnkfbgbhaaQFnCountsa
namespace Go.Proofs.Ythjaebnkfbgbhaa.Pure
open Go.RowKit Go.Proofs.Ythjaebnkfbgbhaa.PFnCounts Go.Proofs.YthjaebnkfbgbhaaW.PrintWords Go.Proofs.YthjaebnkfbgbhaaW.PrintLast Go.Proofs.YthjaebnkfbgbhaaW.PrintMore Go.Proofs.Ythjaebnkfbgbhaa.EvAid Go.Proofs.Ythjaebnkfbgbhaa Go.Proofs.Ythjaebnkfbgbhaa.QFnCounts
set_option linter.unusedVariables false
set_option linter.unusedSimpArgs false

theorem at_nonneg0 (l : List Int) (hn : ¬ (l.length : Int) > 1048576) (hb : ∀ x ∈ l, (Lit.int .u8 x).wf = true) :
    ∃ t, laws_at.f l 0 = some t ∧ 0 ≤ t := by
  unfold laws_at.f
  by_cases h : (0 : Int) < (l.length : Int)
  · rw [if_pos h, if_pos (Int.le_refl 0)]
    refine ⟨_, rfl, ?_⟩
    cases l with
    | nil => simp at h
    | cons x xs =>
      have hx := hb x (by simp)
      have h0 : 0 ≤ x ∧ x ≤ 255 := by
        simp [Lit.wf, show IntKind.u8.min = 0 from rfl, show IntKind.u8.max = 255 from rfl] at hx
        omega
      show 0 ≤ wrap64 (rd (x :: xs) 0)
      have e : rd (x :: xs) 0 = x := rfl
      rw [e]
      unfold wrap64
      omega
  · rw [if_neg h]
    refine ⟨_, rfl, ?_⟩
    apply Int.tmod_nonneg
    unfold wrap64
    omega

theorem FnCounts : laws_FnCounts.Pure := by
  intro l hm hl hb
  by_cases hbig : (l.length : Int) > 1048576
  · refine ⟨1, ?_⟩
    unfold laws_FnCounts.f laws_big.f
    rw [decide_eq_true hbig]
    rfl
  · obtain ⟨t, ht, h0⟩ := at_nonneg0 l hbig hb
    refine ⟨400, ?_⟩
    unfold laws_FnCounts.f laws_big.f
    rw [decide_eq_false hbig, ht]
    simp only [Option.bind_some]
    have h1 : 0 ≤ Int.tmod t 9 := Int.tmod_nonneg _ h0
    have h2 : Int.tmod t 9 < 9 := Int.tmod_lt_of_pos _ (by decide)
    have h3 : Int.tmod t 9 = 0 ∨ Int.tmod t 9 = 1 ∨ Int.tmod t 9 = 2 ∨ Int.tmod t 9 = 3 ∨ Int.tmod t 9 = 4 ∨ Int.tmod t 9 = 5 ∨ Int.tmod t 9 = 6 ∨ Int.tmod t 9 = 7 ∨ Int.tmod t 9 = 8 := by omega
    rw [if_neg (by simp)]
    rcases h3 with h | h | h | h | h | h | h | h | h <;> rw [h] <;> decide +kernel

end Go.Proofs.Ythjaebnkfbgbhaa.Pure
