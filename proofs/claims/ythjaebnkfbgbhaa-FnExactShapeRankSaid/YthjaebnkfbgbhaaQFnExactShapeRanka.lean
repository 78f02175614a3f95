/- What the printed functions of the law FnExactShapeRank come to, function by function, from some number of rounds on; each under the bounds that it names. -/
import Derived.Test.YthjaebnkfbgbhaaPFnExactShapeRankx
import Derived.Test.YthjaebnkfbgbhaaEvAid
import Derived.Test.YthjaebnkfbgbhaaTShape
namespace Go.Proofs.Ythjaebnkfbgbhaa.QFnExactShapeRank
open Go.RowKit Go.Proofs.Ythjaebnkfbgbhaa.PFnExactShapeRank Go.Proofs.YthjaebnkfbgbhaaW.PrintWords Go.Proofs.YthjaebnkfbgbhaaW.PrintLast Go.Proofs.YthjaebnkfbgbhaaW.PrintMore Go.Proofs.Ythjaebnkfbgbhaa.EvAid Go.Proofs.Ythjaebnkfbgbhaa
set_option linter.unusedVariables false
set_option linter.unusedSimpArgs false

/-! #### spec_l21Ways -/
theorem l21Ways_ev : ∀ (n d : Nat), n ≤ 9 → d + n ≤ 19 → Ev (fun k => spec_l21Ways.f k (d : Int) (n : Int)) (TShape.wy n d : Int) := by
  intro n
  induction n with
  | zero =>
    intro d _ _
    refine ev_succ ?_
    simp only [spec_l21Ways.f]
    exact ev_pos rfl (Ev.now _)
  | succ n ih =>
    intro d hn hd
    have loop : ∀ (t e : Nat), e + t = d + 2 → 1 ≤ e → Ev (fun k => spec_l21Ways.l0 k (d : Int) ((n + 1 : Nat) : Int) (TShape.ws n (e - 1) : Int) (e : Int)) (TShape.ws n (d + 1) : Int) := by
      intro t
      induction t with
      | zero =>
        intro e he h1
        refine ev_succ ?_
        simp only [spec_l21Ways.l0]
        rw [w64 (by omega) (by omega)]
        refine ev_neg (by omega) (ev_some ?_)
        have : e - 1 = d + 1 := by omega
        rw [this]
      | succ t iht =>
        intro e he h1
        refine ev_succ ?_
        simp only [spec_l21Ways.l0]
        rw [w64 (x := (d : Int) + 1) (by omega) (by omega)]
        refine ev_pos (by omega) ?_
        rw [w64 (x := ((n + 1 : Nat) : Int) - 1) (by omega) (by omega)]
        have e1 : ((n + 1 : Nat) : Int) - 1 = (n : Int) := by omega
        rw [e1]
        refine ev_bind (ih e (by omega) (by omega)) ?_
        have hb := TShape.ws_small (n := n) (by omega) e (by omega)
        have e2 : TShape.ws n (e - 1 + 1) = TShape.ws n (e - 1) + TShape.wy n (e - 1 + 1) := rfl
        have e3 : e - 1 + 1 = e := by omega
        rw [e3] at e2
        rw [w64 (x := (TShape.ws n (e - 1) : Int) + (TShape.wy n e : Int)) (by omega) (by omega), w64 (x := (e : Int) + 1) (by omega) (by omega)]
        have := iht (e + 1) (by omega) (by omega)
        have e4 : e + 1 - 1 = e := by omega
        rw [e4, e2] at this
        have e5 : ((TShape.ws n (e - 1) + TShape.wy n e : Nat) : Int) = (TShape.ws n (e - 1) : Int) + (TShape.wy n e : Int) := by omega
        rw [e5] at this
        exact this
    refine ev_succ ?_
    simp only [spec_l21Ways.f]
    refine ev_neg (by omega) ?_
    rw [TShape.wy_succ]
    exact loop (d + 1) 1 (by omega) (by omega)

/-! #### spec_l1In -/
theorem l1In_eq (a b c : Int) : spec_l1In.f a b c = some (decide (b ≤ a ∧ a ≤ c)) := by
  unfold spec_l1In.f
  by_cases h : a ≥ b
  · rw [if_pos h]; have h' : b ≤ a := h; simp [h']
  · rw [if_neg h]; have h' : ¬ b ≤ a := h; simp [h']

/-! #### spec_l21Row -/
/-- may these depths stand behind p? -/
def rowGo : Int → List Int → Bool
  | _, [] => true
  | p, d :: r => decide (1 ≤ d ∧ d ≤ p + 1) && rowGo d r
/-- is it a row of depths? -/
def rowOk (l : List Int) : Bool := (match l with | [] => false | d :: r => decide (d = 0) && rowGo 0 r) && decide (l.length ≤ 10)
theorem rd_app (pre r : List Int) (d : Int) (i : Int) (h : i = pre.length) : rd (pre ++ d :: r) i = d := by
  subst h; simp [rd]
theorem l21Row_l0 (l : List Int) (hl : (l.length : Int) ≤ 9223372036854775806) : ∀ (r pre : List Int) (p : Int), l = pre ++ r → 1 ≤ pre.length → rd l ((pre.length : Int) - 1) = p → 0 ≤ p → p < pre.length →
    Ev (fun k => spec_l21Row.l0 k l (pre.length : Int)) (rowGo p r && decide (l.length ≤ 10)) := by
  intro r
  induction r with
  | nil =>
    intro pre p he h1 hp h0 hlt
    refine ev_succ ?_
    simp only [spec_l21Row.l0]
    have hlen : l.length = pre.length := by rw [he]; simp
    refine ev_neg (by omega) ?_
    simp only [l1In_eq, Option.bind_some]
    refine ev_some ?_
    simp only [rowGo, Bool.true_and]
    congr 1
    simp only [eq_iff_iff]
    omega
  | cons d r ih =>
    intro pre p he h1 hp h0 hlt
    refine ev_succ ?_
    simp only [spec_l21Row.l0]
    have hlen : l.length = pre.length + (r.length + 1) := by rw [he]; simp
    have hd : rd l (pre.length : Int) = d := by rw [he]; exact rd_app pre r d _ rfl
    refine ev_pos (by omega) (ev_pos (by omega) ?_)
    rw [hd]
    have hz : ((pre.length : Int) == 0) = false := by rw [beq_eq_false_iff_ne]; omega
    rw [hz]
    by_cases hd0 : d = 0
    · refine ev_pos (by rw [hd0]; rfl) (ev_some ?_)
      simp [rowGo, hd0]
    · have hdz : (d == 0) = false := by simpa using hd0
      refine ev_neg (by rw [hdz]; decide) ?_
      by_cases hn : d < 0
      · refine ev_pos hn (ev_some ?_)
        have : ¬ (1 ≤ d ∧ d ≤ p + 1) := by omega
        simp [rowGo, this]
      · refine ev_neg hn (ev_pos (by omega) ?_)
        rw [w64 (x := (pre.length : Int) - 1) (by omega) (by omega), hp, w64 (x := p + 1) (by omega) (by omega), w64 (x := (pre.length : Int) + 1) (by omega) (by omega)]
        refine ev_pos (by omega) (ev_pos (by omega) ?_)
        by_cases hg : d > p + 1
        · refine ev_pos hg (ev_some ?_)
          have : ¬ (1 ≤ d ∧ d ≤ p + 1) := by omega
          simp [rowGo, this]
        · refine ev_neg hg ?_
          have := ih (pre ++ [d]) d (by rw [he]; simp) (by simp) (by rw [he]; simp [rd]) (by omega) (by simp; omega)
          have e : ((pre ++ [d]).length : Int) = (pre.length : Int) + 1 := by simp
          rw [e] at this
          refine ev_eq this ?_
          have : (1 ≤ d ∧ d ≤ p + 1) := by omega
          simp [rowGo, this]
theorem l21Row_ev (l : List Int) (hl : (l.length : Int) ≤ 9223372036854775806) : Ev (fun k => spec_l21Row.f k l) (rowOk l) := by
  simp only [spec_l21Row.f]
  cases l with
  | nil =>
    refine ev_succ ?_
    simp only [spec_l21Row.l0]
    refine ev_neg (by simp) ?_
    simp only [l1In_eq, Option.bind_some]
    exact ev_some (by simp [rowOk])
  | cons d r =>
    refine ev_succ ?_
    simp only [spec_l21Row.l0]
    refine ev_pos (by simp only [List.length_cons]; omega) (ev_pos (by omega) ?_)
    have hd : rd (d :: r) 0 = d := rfl
    rw [hd]
    by_cases hd0 : d = 0
    · refine ev_neg (by rw [hd0]; decide) (ev_neg (by omega) (ev_neg (by omega) ?_))
      rw [w64 (by omega) (by omega)]
      have := l21Row_l0 (d :: r) hl r [d] 0 rfl (by simp) (by rw [hd0]; rfl) (by omega) (by simp)
      refine ev_eq this ?_
      simp [rowOk, hd0]
    · have hdz : (d == 0) = false := by simpa using hd0
      refine ev_pos (by rw [hdz]; decide) (ev_some ?_)
      simp [rowOk, hd0]

/-! #### spec_ShapeRank -/
/-- the number of a row of depths, -1 of what is none -/
def shRank (l : List Int) : Int := if rowOk l = true then (TShape.sRank (l.tail.map Int.toNat) : Int) else -1
theorem sRank_small : ∀ (r : List Int) (p : Int), rowGo p r = true → 0 ≤ p → p + r.length ≤ 10 → TShape.sRank (r.map Int.toNat) ≤ r.length * (20 * 14507145975869) := by
  intro r
  induction r with
  | nil => intro p _ _ _; simp [TShape.sRank]
  | cons d r ih =>
    intro p h h0 hl
    simp only [rowGo, Bool.and_eq_true, decide_eq_true_eq] at h
    simp only [List.length_cons] at hl
    have h1 := ih d h.2 (by omega) (by omega)
    have h2 := TShape.ws_small (n := (r.map Int.toNat).length) (by rw [List.length_map]; omega) (d.toNat - 1) (by omega)
    simp only [List.map_cons, TShape.sRank, List.length_cons]
    have h3 : (d.toNat - 1) * 14507145975869 ≤ 20 * 14507145975869 := Nat.mul_le_mul_right _ (by omega)
    rw [Nat.succ_mul]
    omega
theorem spec_ShapeRank_l1 (l : List Int) (i m dt : Nat) (d : Int) (hd : rd l (i : Int) = d) (hdt : d = (dt : Int)) (h1 : 1 ≤ dt) (hdm : dt ≤ 10) (hm : m ≤ 9) (hi : i < l.length) (hmi : l.length = i + (m + 1)) (hl : l.length ≤ 10) (acc : Nat) (ha : acc ≤ 10000000000000000) (R : Int)
    (hR : Ev (fun k => spec_ShapeRank.l0 k l ((acc + TShape.ws m (dt - 1) : Nat) : Int) ((i : Int) + 1)) R) :
    ∀ (t e : Nat), e + t = dt → 1 ≤ e → Ev (fun k => spec_ShapeRank.l1 k l ((acc + TShape.ws m (e - 1) : Nat) : Int) (i : Int) (e : Int)) R := by
  intro t
  induction t with
  | zero =>
    intro e he h1
    refine ev_succ ?_
    simp only [spec_ShapeRank.l1]
    refine ev_pos (by omega) (ev_pos (by omega) (ev_neg (by omega) ?_))
    rw [w64 (by omega) (by omega)]
    have : e = dt := by omega
    rw [this]
    exact hR
  | succ t ih =>
    intro e he h1
    refine ev_succ ?_
    simp only [spec_ShapeRank.l1]
    refine ev_pos (by omega) (ev_pos (by omega) (ev_pos (by omega) ?_))
    rw [w64 (x := (l.length : Int) - (i : Int)) (by omega) (by omega), w64 (x := (l.length : Int) - (i : Int) - 1) (by omega) (by omega)]
    have e0 : (l.length : Int) - (i : Int) - 1 = (m : Int) := by omega
    rw [e0]
    refine ev_bind (l21Ways_ev m e hm (by omega)) ?_
    have hb := TShape.ws_small (n := m) hm e (by omega)
    have e2 : TShape.ws m (e - 1 + 1) = TShape.ws m (e - 1) + TShape.wy m (e - 1 + 1) := rfl
    have e3 : e - 1 + 1 = e := by omega
    rw [e3] at e2
    have hb2 : e * 14507145975869 ≤ 20 * 14507145975869 := Nat.mul_le_mul_right _ (by omega)
    rw [w64 (x := ((acc + TShape.ws m (e - 1) : Nat) : Int) + (TShape.wy m e : Int)) (by omega) (by omega), w64 (x := (e : Int) + 1) (by omega) (by omega)]
    have := ih (e + 1) (by omega) (by omega)
    have e4 : e + 1 - 1 = e := by omega
    rw [e4, e2] at this
    have e5 : ((acc + (TShape.ws m (e - 1) + TShape.wy m e) : Nat) : Int) = ((acc + TShape.ws m (e - 1) : Nat) : Int) + (TShape.wy m e : Int) := by omega
    rw [e5] at this
    exact this
theorem spec_ShapeRank_l0 (l : List Int) (hl : l.length ≤ 10) : ∀ (r pre : List Int) (p : Int) (acc : Nat), l = pre ++ r → 1 ≤ pre.length → rowGo p r = true → 0 ≤ p → p < pre.length → acc ≤ pre.length * (20 * 14507145975869) →
    Ev (fun k => spec_ShapeRank.l0 k l (acc : Int) (pre.length : Int)) ((acc + TShape.sRank (r.map Int.toNat) : Nat) : Int) := by
  intro r
  induction r with
  | nil =>
    intro pre p acc he h1 hg h0 hp ha
    refine ev_succ ?_
    simp only [spec_ShapeRank.l0]
    have hlen : l.length = pre.length := by rw [he]; simp
    refine ev_neg (by omega) (ev_some ?_)
    simp [TShape.sRank]
  | cons d r ih =>
    intro pre p acc he h1 hg h0 hp ha
    refine ev_succ ?_
    simp only [spec_ShapeRank.l0]
    have hlen : l.length = pre.length + (r.length + 1) := by rw [he]; simp
    have hd : rd l (pre.length : Int) = d := by rw [he]; exact rd_app pre r d _ rfl
    simp only [rowGo, Bool.and_eq_true, decide_eq_true_eq] at hg
    have hws := TShape.ws_small (n := r.length) (by omega) (d.toNat - 1) (by omega)
    have h3 : (d.toNat - 1) * 14507145975869 ≤ 20 * 14507145975869 := Nat.mul_le_mul_right _ (by omega)
    have hpl : pre.length * (20 * 14507145975869) ≤ 10 * (20 * 14507145975869) := Nat.mul_le_mul_right _ (by omega)
    refine ev_pos (by omega) ?_
    have := ih (pre ++ [d]) d (acc + TShape.ws r.length (d.toNat - 1)) (by rw [he]; simp) (by simp) hg.2 (by omega) (by simp; omega) (by
      rw [List.length_append, List.length_singleton, Nat.succ_mul]; omega)
    have e : ((pre ++ [d]).length : Int) = (pre.length : Int) + 1 := by simp
    rw [e] at this
    have fin := spec_ShapeRank_l1 l pre.length r.length d.toNat d hd (by omega) (by omega) (by omega) (by omega) (by omega) (by omega) hl acc (by omega) _ this (d.toNat - 1) 1 (by omega) (Nat.le_refl _)
    simp only [Nat.sub_self, TShape.ws, Nat.add_zero] at fin
    refine ev_eq fin ?_
    simp only [List.map_cons, TShape.sRank, List.length_map]
    omega
theorem spec_ShapeRank_ev (l : List Int) (hl : (l.length : Int) ≤ 9223372036854775806) : Ev (fun k => spec_ShapeRank.f k l) (shRank l) := by
  simp only [spec_ShapeRank.f]
  refine ev_bind (l21Row_ev l hl) ?_
  unfold shRank
  by_cases h : rowOk l = true
  · refine ev_pos h ?_
    rw [if_pos h]
    cases l with
    | nil => simp [rowOk] at h
    | cons d r =>
      simp only [rowOk, Bool.and_eq_true, decide_eq_true_eq] at h
      have := spec_ShapeRank_l0 (d :: r) h.2 r [d] 0 0 rfl (by simp) h.1.2 (by omega) (by simp) (by omega)
      simpa using this
  · refine ev_neg h ?_
    rw [if_neg h]
    exact Ev.now _

/-! #### laws_toIntS -/
theorem toIntS_l0 (a : List Int) (hm : (a.length : Int) ≤ 9223372036854775806) : ∀ (d i : Nat) (out : List Int), i + d = a.length → out.length = a.length → out.take i = a.take i → Ev (fun k => laws_toIntS.l0 k a out i) a := by
  intro d
  induction d with
  | zero =>
    intro i out h hl ht
    refine ev_succ ?_
    simp only [laws_toIntS.l0]
    refine ev_neg (by omega) (ev_some ?_)
    rw [List.take_of_length_le (by omega), List.take_of_length_le (by omega)] at ht
    exact ht
  | succ d ih =>
    intro i out h hl ht
    refine ev_succ ?_
    simp only [laws_toIntS.l0]
    refine ev_pos (by omega) (ev_pos (by omega) (ev_pos (by omega) ?_))
    rw [w64 (by omega) (by omega)]
    refine ih (i + 1) _ (by omega) (by rw [List.length_set]; exact hl) ?_
    have e : ((i : Int)).toNat = i := Int.toNat_natCast i
    rw [e]
    have hi : i < a.length := by omega
    have hr : rd a i = a[i] := by simp [rd, hi]
    rw [List.take_succ_eq_append_getElem (by rw [List.length_set]; omega), List.take_succ_eq_append_getElem hi, List.getElem_set_self, List.take_set_of_le (Nat.le_refl _), ht, hr]

theorem toIntS_ev (a : List Int) (hm : a.length ≤ 35184372088832) : Ev (fun k => laws_toIntS.f k a) a := by
  simp only [laws_toIntS.f]
  refine ev_pos (by omega) (ev_pos (by omega) ?_)
  exact toIntS_l0 a (by omega) a.length 0 _ (by omega) (by rw [List.length_replicate]; omega) rfl

/-! #### impl_within -/
theorem within_eq (a b c : Int) : impl_within.f a b c = some (decide (b ≤ a ∧ a ≤ c)) := by
  unfold impl_within.f
  by_cases h : b ≤ a
  · rw [if_pos h]; simp [h]
  · rw [if_neg h]; simp [h]

/-! #### impl_ways -/
theorem ways_ev : ∀ (n d : Nat), n ≤ 9 → d + n ≤ 19 → Ev (fun k => impl_ways.f k (n : Int) (d : Int)) (TShape.wy n d : Int) := by
  intro n
  induction n with
  | zero =>
    intro d _ _
    refine ev_succ ?_
    simp only [impl_ways.f]
    exact ev_pos rfl (Ev.now _)
  | succ n ih =>
    intro d hn hd
    have loop : ∀ (t e : Nat), e + t = d + 2 → 1 ≤ e → Ev (fun k => impl_ways.l0 k ((n + 1 : Nat) : Int) (d : Int) (TShape.ws n (e - 1) : Int) (e : Int)) (TShape.ws n (d + 1) : Int) := by
      intro t
      induction t with
      | zero =>
        intro e he h1
        refine ev_succ ?_
        simp only [impl_ways.l0]
        rw [w64 (by omega) (by omega)]
        refine ev_neg (by omega) (ev_some ?_)
        have : e - 1 = d + 1 := by omega
        rw [this]
      | succ t iht =>
        intro e he h1
        refine ev_succ ?_
        simp only [impl_ways.l0]
        rw [w64 (x := (d : Int) + 1) (by omega) (by omega)]
        refine ev_pos (by omega) ?_
        rw [w64 (x := ((n + 1 : Nat) : Int) - 1) (by omega) (by omega)]
        have e1 : ((n + 1 : Nat) : Int) - 1 = (n : Int) := by omega
        rw [e1]
        refine ev_bind (ih e (by omega) (by omega)) ?_
        have hb := TShape.ws_small (n := n) (by omega) e (by omega)
        have e2 : TShape.ws n (e - 1 + 1) = TShape.ws n (e - 1) + TShape.wy n (e - 1 + 1) := rfl
        have e3 : e - 1 + 1 = e := by omega
        rw [e3] at e2
        rw [w64 (x := (TShape.ws n (e - 1) : Int) + (TShape.wy n e : Int)) (by omega) (by omega), w64 (x := (e : Int) + 1) (by omega) (by omega)]
        have := iht (e + 1) (by omega) (by omega)
        have e4 : e + 1 - 1 = e := by omega
        rw [e4, e2] at this
        have e5 : ((TShape.ws n (e - 1) + TShape.wy n e : Nat) : Int) = (TShape.ws n (e - 1) : Int) + (TShape.wy n e : Int) := by omega
        rw [e5] at this
        exact this
    refine ev_succ ?_
    simp only [impl_ways.f]
    refine ev_neg (by omega) ?_
    rw [TShape.wy_succ]
    exact loop (d + 1) 1 (by omega) (by omega)

/-! #### impl_ShapeRank -/
theorem ShapeRank_l1 (l : List Int) (i m dt : Nat) (d : Int) (hd : rd l (i : Int) = d) (hdt : d = (dt : Int)) (h1 : 1 ≤ dt) (hdm : dt ≤ 10) (hm : m ≤ 9) (hi : i < l.length) (hmi : l.length = i + (m + 1)) (hl : l.length ≤ 10) (acc : Nat) (ha : acc ≤ 10000000000000000) (R : Int)
    (hR : Ev (fun k => impl_ShapeRank.l0 k l ((acc + TShape.ws m (dt - 1) : Nat) : Int) ((i : Int) + 1)) R) :
    ∀ (t e : Nat), e + t = dt → 1 ≤ e → Ev (fun k => impl_ShapeRank.l1 k l ((acc + TShape.ws m (e - 1) : Nat) : Int) (i : Int) (e : Int)) R := by
  intro t
  induction t with
  | zero =>
    intro e he h1
    refine ev_succ ?_
    simp only [impl_ShapeRank.l1]
    refine ev_pos (by omega) (ev_pos (by omega) (ev_neg (by omega) ?_))
    rw [w64 (by omega) (by omega)]
    have : e = dt := by omega
    rw [this]
    exact hR
  | succ t ih =>
    intro e he h1
    refine ev_succ ?_
    simp only [impl_ShapeRank.l1]
    refine ev_pos (by omega) (ev_pos (by omega) (ev_pos (by omega) ?_))
    rw [w64 (x := (l.length : Int) - (i : Int)) (by omega) (by omega), w64 (x := (l.length : Int) - (i : Int) - 1) (by omega) (by omega)]
    have e0 : (l.length : Int) - (i : Int) - 1 = (m : Int) := by omega
    rw [e0]
    refine ev_bind (ways_ev m e hm (by omega)) ?_
    have hb := TShape.ws_small (n := m) hm e (by omega)
    have e2 : TShape.ws m (e - 1 + 1) = TShape.ws m (e - 1) + TShape.wy m (e - 1 + 1) := rfl
    have e3 : e - 1 + 1 = e := by omega
    rw [e3] at e2
    have hb2 : e * 14507145975869 ≤ 20 * 14507145975869 := Nat.mul_le_mul_right _ (by omega)
    rw [w64 (x := ((acc + TShape.ws m (e - 1) : Nat) : Int) + (TShape.wy m e : Int)) (by omega) (by omega), w64 (x := (e : Int) + 1) (by omega) (by omega)]
    have := ih (e + 1) (by omega) (by omega)
    have e4 : e + 1 - 1 = e := by omega
    rw [e4, e2] at this
    have e5 : ((acc + (TShape.ws m (e - 1) + TShape.wy m e) : Nat) : Int) = ((acc + TShape.ws m (e - 1) : Nat) : Int) + (TShape.wy m e : Int) := by omega
    rw [e5] at this
    exact this
theorem ShapeRank_l0 (l : List Int) (hl : l.length ≤ 10) : ∀ (r pre : List Int) (p : Int) (acc : Nat), l = pre ++ r → 1 ≤ pre.length → rd l ((pre.length : Int) - 1) = p → 0 ≤ p → p < pre.length → acc ≤ pre.length * (20 * 14507145975869) →
    Ev (fun k => impl_ShapeRank.l0 k l (acc : Int) (pre.length : Int)) (if rowGo p r = true then ((acc + TShape.sRank (r.map Int.toNat) : Nat) : Int) else -1) := by
  intro r
  induction r with
  | nil =>
    intro pre p acc he h1 hpp h0 hp ha
    refine ev_succ ?_
    simp only [impl_ShapeRank.l0]
    have hlen : l.length = pre.length := by rw [he]; simp
    refine ev_neg (by omega) (ev_some ?_)
    simp [TShape.sRank, rowGo]
  | cons d r ih =>
    intro pre p acc he h1 hpp h0 hp ha
    refine ev_succ ?_
    simp only [impl_ShapeRank.l0]
    have hlen : l.length = pre.length + (r.length + 1) := by rw [he]; simp
    have hd : rd l (pre.length : Int) = d := by rw [he]; exact rd_app pre r d _ rfl
    rw [w64 (x := (pre.length : Int) - 1) (by omega) (by omega), hpp, w64 (x := p + 1) (by omega) (by omega), hd]
    refine ev_pos (by omega) (ev_pos (by omega) (ev_pos (by omega) (ev_pos (by omega) ?_)))
    refine ev_bindc (within_eq _ _ _) ?_
    simp only [decide_eq_true_eq]
    by_cases hg : 1 ≤ d ∧ d ≤ p + 1
    · refine ev_pos hg ?_
      have hws := TShape.ws_small (n := r.length) (by omega) (d.toNat - 1) (by omega)
      have h3 : (d.toNat - 1) * 14507145975869 ≤ 20 * 14507145975869 := Nat.mul_le_mul_right _ (by omega)
      have hpl : pre.length * (20 * 14507145975869) ≤ 10 * (20 * 14507145975869) := Nat.mul_le_mul_right _ (by omega)
      have := ih (pre ++ [d]) d (acc + TShape.ws r.length (d.toNat - 1)) (by rw [he]; simp) (by simp) (by rw [he]; simp [rd]) (by omega) (by simp; omega) (by
        rw [List.length_append, List.length_singleton, Nat.succ_mul]; omega)
      have e : ((pre ++ [d]).length : Int) = (pre.length : Int) + 1 := by simp
      rw [e] at this
      have fin := ShapeRank_l1 l pre.length r.length d.toNat d hd (by omega) (by omega) (by omega) (by omega) (by omega) (by omega) hl acc (by omega) _ this (d.toNat - 1) 1 (by omega) (Nat.le_refl _)
      simp only [Nat.sub_self, TShape.ws, Nat.add_zero] at fin
      refine ev_eq fin ?_
      simp only [rowGo, hg, and_self, decide_true, Bool.true_and]
      simp only [List.map_cons, TShape.sRank, List.length_map]
      split <;> omega
    · refine ev_neg hg (ev_some ?_)
      simp [rowGo, hg]
theorem ShapeRank_ev (l : List Int) (hl : (l.length : Int) ≤ 9223372036854775806) : Ev (fun k => impl_ShapeRank.f k l) (shRank l) := by
  simp only [impl_ShapeRank.f]
  refine ev_bindc (within_eq _ _ _) ?_
  simp only [decide_eq_true_eq]
  unfold shRank
  cases l with
  | nil =>
    refine ev_neg (by simp) (ev_succ ?_)
    simp only [impl_ShapeRank.j0]
    exact ev_pos trivial (ev_some (by simp [rowOk]))
  | cons d r =>
    by_cases h : (d :: r).length ≤ 10
    · refine ev_pos (by simp at h ⊢; omega) (ev_pos (by simp only [List.length_cons]; omega) (ev_succ ?_))
      simp only [impl_ShapeRank.j0]
      have hd : rd (d :: r) 0 = d := rfl
      rw [hd]
      by_cases hd0 : d = 0
      · refine ev_neg (by simp [hd0]) ?_
        have := ShapeRank_l0 (d :: r) h r [d] 0 0 rfl (by simp) (by rw [hd0]; rfl) (by omega) (by simp) (by omega)
        refine ev_eq this ?_
        have h2 : r.length + 1 ≤ 10 := h
        simp [rowOk, hd0, h2]
      · refine ev_pos (by simp [hd0]) (ev_some ?_)
        simp [rowOk, hd0]
    · refine ev_neg (by simp at h ⊢; omega) (ev_succ ?_)
      simp only [impl_ShapeRank.j0]
      refine ev_pos trivial (ev_some ?_)
      have h2 : ¬ r.length + 1 ≤ 10 := h
      simp [rowOk, h2]

/-! #### laws_eqIntS -/
theorem eqIntS_l0 (a : List Int) (hm : (a.length : Int) ≤ 9223372036854775806) : ∀ (d i : Nat), i + d = a.length → Ev (fun k => laws_eqIntS.l0 k a a i) true := by
  intro d
  induction d with
  | zero =>
    intro i h
    refine ev_succ ?_
    simp only [laws_eqIntS.l0]
    exact ev_neg (by omega) (Ev.now _)
  | succ d ih =>
    intro i h
    refine ev_succ ?_
    simp only [laws_eqIntS.l0]
    refine ev_pos (by omega) (ev_pos (by omega) (ev_pos (by omega) (ev_pos trivial ?_)))
    rw [w64 (by omega) (by omega)]
    exact ih (i + 1) (by omega)

theorem eqIntS_ev (a : List Int) (hm : (a.length : Int) ≤ 9223372036854775806) : Ev (fun k => laws_eqIntS.f k a a) true := by
  simp only [laws_eqIntS.f]
  exact ev_pos trivial (eqIntS_l0 a hm a.length 0 (by omega))

end Go.Proofs.Ythjaebnkfbgbhaa.QFnExactShapeRank
