/- What the printed functions of the law FnFound come to, function by function, from some number of rounds on; each under the bounds that it names. -/
import Derived.Test.YtbogpdgfghpkeabQFnFounda
namespace Go.Proofs.Ytbogpdgfghpkeab.QFnFound
open Go.RowKit Go.Proofs.Ytbogpdgfghpkeab.PFnFound Go.Proofs.YtbogpdgfghpkeabW.PrintWords Go.Proofs.YtbogpdgfghpkeabW.PrintLast Go.Proofs.YtbogpdgfghpkeabW.PrintMore Go.Proofs.Ytbogpdgfghpkeab.EvAid Go.Proofs.Ytbogpdgfghpkeab
set_option linter.unusedVariables false
set_option linter.unusedSimpArgs false

/-! #### spec_Shared -/
theorem spec_Shared_l0 (a b : List S94) (ha : a.length ≤ 17592186044416) (hb : b.length ≤ 17592186044416) : ∀ (d i : Nat) (x y n : Int), i + d = a.length → Ev (fun k => spec_Shared.l0 k a b x y n (i : Int)) (sharedF a b d i (x, y, n)) := by
  intro d
  induction d with
  | zero =>
    intro i x y n h
    refine ev_succ ?_
    simp only [spec_Shared.l0]
    exact ev_neg (by omega) (ev_some rfl)
  | succ d ih =>
    intro i x y n h
    refine ev_succ ?_
    simp only [spec_Shared.l0]
    refine ev_pos (by omega) (ev_bind (spec_SubTree_ev a i (by omega)) (ev_bind (spec_FindAll_ev b _ hb (by have := subT_length a (i : Int); omega)) ?_))
    rw [w64 (by omega) (by omega), sharedF]
    by_cases h1 : ((subT a (i : Int)).length : Int) > n
    · refine ev_pos h1 ?_
      by_cases h2 : ((findAll b (subT a (i : Int))).length : Int) > 0
      · refine ev_pos h2 (ev_pos h2 ?_)
        rw [if_pos ⟨h1, by omega⟩]
        exact ih (i + 1) _ _ _ (by omega)
      · refine ev_neg h2 ?_
        rw [if_neg (by intro h; exact h2 (by have := h.2; omega))]
        exact ih (i + 1) _ _ _ (by omega)
    · refine ev_neg h1 ?_
      rw [if_neg (by intro h; exact h1 h.1)]
      exact ih (i + 1) _ _ _ (by omega)
theorem spec_Shared_ev (a b : List S94) (ha : a.length ≤ 17592186044416) (hb : b.length ≤ 17592186044416) : Ev (fun k => spec_Shared.f k a b) (shared a b) := by
  simp only [spec_Shared.f]
  exact spec_Shared_l0 a b ha hb a.length 0 (-1) (-1) 0 (by omega)

end Go.Proofs.Ytbogpdgfghpkeab.QFnFound
