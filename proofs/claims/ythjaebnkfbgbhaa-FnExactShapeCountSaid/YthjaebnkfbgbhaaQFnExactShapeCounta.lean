/- What the printed functions of the law FnExactShapeCount come to, function by function, from some number of rounds on; each under the bounds that it names. -/
import Derived.Test.YthjaebnkfbgbhaaPFnExactShapeCountx
import Derived.Test.YthjaebnkfbgbhaaEvAid
import Derived.Test.YthjaebnkfbgbhaaTShape
namespace Go.Proofs.Ythjaebnkfbgbhaa.QFnExactShapeCount
open Go.RowKit Go.Proofs.Ythjaebnkfbgbhaa.PFnExactShapeCount Go.Proofs.YthjaebnkfbgbhaaW.PrintWords Go.Proofs.YthjaebnkfbgbhaaW.PrintLast Go.Proofs.YthjaebnkfbgbhaaW.PrintMore Go.Proofs.Ythjaebnkfbgbhaa.EvAid Go.Proofs.Ythjaebnkfbgbhaa
set_option linter.unusedVariables false
set_option linter.unusedSimpArgs false

/-! #### impl_within -/
theorem within_eq (a b c : Int) : impl_within.f a b c = some (decide (b ≤ a ∧ a ≤ c)) := by
  unfold impl_within.f
  by_cases h : b ≤ a
  · rw [if_pos h]; simp [h]
  · rw [if_neg h]; simp [h]

/-! #### impl_ways -/
theorem ways_ev : ∀ (n d : Nat), n ≤ 9 → d + n ≤ 19 → Ev (fun k => impl_ways.f k (n : Int) (d : Int)) (TShape.wy n d : Int) := by
  intro n
  induction n with
  | zero =>
    intro d _ _
    refine ev_succ ?_
    simp only [impl_ways.f]
    exact ev_pos rfl (Ev.now _)
  | succ n ih =>
    intro d hn hd
    have loop : ∀ (t e : Nat), e + t = d + 2 → 1 ≤ e → Ev (fun k => impl_ways.l0 k ((n + 1 : Nat) : Int) (d : Int) (TShape.ws n (e - 1) : Int) (e : Int)) (TShape.ws n (d + 1) : Int) := by
      intro t
      induction t with
      | zero =>
        intro e he h1
        refine ev_succ ?_
        simp only [impl_ways.l0]
        rw [w64 (by omega) (by omega)]
        refine ev_neg (by omega) (ev_some ?_)
        have : e - 1 = d + 1 := by omega
        rw [this]
      | succ t iht =>
        intro e he h1
        refine ev_succ ?_
        simp only [impl_ways.l0]
        rw [w64 (x := (d : Int) + 1) (by omega) (by omega)]
        refine ev_pos (by omega) ?_
        rw [w64 (x := ((n + 1 : Nat) : Int) - 1) (by omega) (by omega)]
        have e1 : ((n + 1 : Nat) : Int) - 1 = (n : Int) := by omega
        rw [e1]
        refine ev_bind (ih e (by omega) (by omega)) ?_
        have hb := TShape.ws_small (n := n) (by omega) e (by omega)
        have e2 : TShape.ws n (e - 1 + 1) = TShape.ws n (e - 1) + TShape.wy n (e - 1 + 1) := rfl
        have e3 : e - 1 + 1 = e := by omega
        rw [e3] at e2
        rw [w64 (x := (TShape.ws n (e - 1) : Int) + (TShape.wy n e : Int)) (by omega) (by omega), w64 (x := (e : Int) + 1) (by omega) (by omega)]
        have := iht (e + 1) (by omega) (by omega)
        have e4 : e + 1 - 1 = e := by omega
        rw [e4, e2] at this
        have e5 : ((TShape.ws n (e - 1) + TShape.wy n e : Nat) : Int) = (TShape.ws n (e - 1) : Int) + (TShape.wy n e : Int) := by omega
        rw [e5] at this
        exact this
    refine ev_succ ?_
    simp only [impl_ways.f]
    refine ev_neg (by omega) ?_
    rw [TShape.wy_succ]
    exact loop (d + 1) 1 (by omega) (by omega)

/-! #### impl_ShapeCount -/
/-- how many shapes of n nodes there are -/
def shCount (n : Int) : Nat := if 1 ≤ n ∧ n ≤ 10 then TShape.wy (n - 1).toNat 0 else 0
theorem shCount_le (n : Int) : shCount n ≤ 14507145975869 := by
  unfold shCount
  split
  · exact TShape.wy_small (by omega) (by omega)
  · omega
theorem ShapeCount_ev (n : Int) : Ev (fun k => impl_ShapeCount.f k n) (shCount n : Int) := by
  simp only [impl_ShapeCount.f, within_eq, Option.bind_some, decide_eq_true_eq]
  unfold shCount
  by_cases h : 1 ≤ n ∧ n ≤ 10
  · refine ev_pos h ?_
    rw [if_pos h, w64 (x := n - 1) (by omega) (by omega)]
    have := ways_ev (n - 1).toNat 0 (by omega) (by omega)
    rw [Int.toNat_of_nonneg (by omega)] at this
    exact ev_bind this (Ev.now _)
  · refine ev_neg h ?_
    rw [if_neg h]
    exact Ev.now _

/-! #### spec_l1In -/
theorem l1In_eq (a b c : Int) : spec_l1In.f a b c = some (decide (b ≤ a ∧ a ≤ c)) := by
  unfold spec_l1In.f
  by_cases h : a ≥ b
  · rw [if_pos h]; have h' : b ≤ a := h; simp [h']
  · rw [if_neg h]; have h' : ¬ b ≤ a := h; simp [h']

/-! #### spec_l21Ways -/
theorem l21Ways_ev : ∀ (n d : Nat), n ≤ 9 → d + n ≤ 19 → Ev (fun k => spec_l21Ways.f k (d : Int) (n : Int)) (TShape.wy n d : Int) := by
  intro n
  induction n with
  | zero =>
    intro d _ _
    refine ev_succ ?_
    simp only [spec_l21Ways.f]
    exact ev_pos rfl (Ev.now _)
  | succ n ih =>
    intro d hn hd
    have loop : ∀ (t e : Nat), e + t = d + 2 → 1 ≤ e → Ev (fun k => spec_l21Ways.l0 k (d : Int) ((n + 1 : Nat) : Int) (TShape.ws n (e - 1) : Int) (e : Int)) (TShape.ws n (d + 1) : Int) := by
      intro t
      induction t with
      | zero =>
        intro e he h1
        refine ev_succ ?_
        simp only [spec_l21Ways.l0]
        rw [w64 (by omega) (by omega)]
        refine ev_neg (by omega) (ev_some ?_)
        have : e - 1 = d + 1 := by omega
        rw [this]
      | succ t iht =>
        intro e he h1
        refine ev_succ ?_
        simp only [spec_l21Ways.l0]
        rw [w64 (x := (d : Int) + 1) (by omega) (by omega)]
        refine ev_pos (by omega) ?_
        rw [w64 (x := ((n + 1 : Nat) : Int) - 1) (by omega) (by omega)]
        have e1 : ((n + 1 : Nat) : Int) - 1 = (n : Int) := by omega
        rw [e1]
        refine ev_bind (ih e (by omega) (by omega)) ?_
        have hb := TShape.ws_small (n := n) (by omega) e (by omega)
        have e2 : TShape.ws n (e - 1 + 1) = TShape.ws n (e - 1) + TShape.wy n (e - 1 + 1) := rfl
        have e3 : e - 1 + 1 = e := by omega
        rw [e3] at e2
        rw [w64 (x := (TShape.ws n (e - 1) : Int) + (TShape.wy n e : Int)) (by omega) (by omega), w64 (x := (e : Int) + 1) (by omega) (by omega)]
        have := iht (e + 1) (by omega) (by omega)
        have e4 : e + 1 - 1 = e := by omega
        rw [e4, e2] at this
        have e5 : ((TShape.ws n (e - 1) + TShape.wy n e : Nat) : Int) = (TShape.ws n (e - 1) : Int) + (TShape.wy n e : Int) := by omega
        rw [e5] at this
        exact this
    refine ev_succ ?_
    simp only [spec_l21Ways.f]
    refine ev_neg (by omega) ?_
    rw [TShape.wy_succ]
    exact loop (d + 1) 1 (by omega) (by omega)

/-! #### spec_ShapeCount -/
theorem spec_ShapeCount_ev (n : Int) : Ev (fun k => spec_ShapeCount.f k n) (shCount n : Int) := by
  simp only [spec_ShapeCount.f, l1In_eq, Option.bind_some, decide_eq_true_eq]
  unfold shCount
  by_cases h : 1 ≤ n ∧ n ≤ 10
  · refine ev_pos h ?_
    rw [if_pos h, w64 (x := n - 1) (by omega) (by omega)]
    have := l21Ways_ev (n - 1).toNat 0 (by omega) (by omega)
    rw [Int.toNat_of_nonneg (by omega)] at this
    exact ev_bind this (Ev.now _)
  · refine ev_neg h ?_
    rw [if_neg h]
    exact Ev.now _

end Go.Proofs.Ythjaebnkfbgbhaa.QFnExactShapeCount
