/- What the printed functions of the law FnShapes come to, function by function, from some number of rounds on; each under the bounds that it names. -/
import Derived.Test.YtbogpdgfghpkeaaMFnShapesx
import Derived.Test.YtbogpdgfghpkeaaMFnShapesEvAid
import Derived.Test.YtbogpdgfghpkeaaTShape
import Derived.Test.YtbogpdgfghpkeaaTree
import Derived.Test.YtbogpdgfghpkeaaPaths
import Derived.Test.YtbogpdgfghpkeaaBounds
namespace Go.Proofs.Ytbogpdgfghpkeaa.QFnShapes
open Go.RowKit Go.Proofs.Ytbogpdgfghpkeaa.PFnShapes Go.Proofs.YtbogpdgfghpkeaaW.PrintWords Go.Proofs.YtbogpdgfghpkeaaW.PrintLast Go.Proofs.YtbogpdgfghpkeaaW.PrintMore Go.Proofs.Ytbogpdgfghpkeaa.EvAid Go.Proofs.Ytbogpdgfghpkeaa
set_option linter.unusedVariables false
set_option linter.unusedSimpArgs false

/-! #### laws_big -/
theorem big_eq (l : List Int) : laws_big.f l = some (decide ((l.length : Int) > 1048576)) := rfl

/-! #### spec_l1In -/
theorem l1In_eq (a b c : Int) : spec_l1In.f a b c = some (decide (b ≤ a ∧ a ≤ c)) := by
  unfold spec_l1In.f
  by_cases h : a ≥ b
  · rw [if_pos h]; have h' : b ≤ a := h; simp [h']
  · rw [if_neg h]; have h' : ¬ b ≤ a := h; simp [h']

/-! #### spec_l21Ways -/
theorem l21Ways_ev : ∀ (n d : Nat), n ≤ 9 → d + n ≤ 19 → Ev (fun k => spec_l21Ways.f k (d : Int) (n : Int)) (TShape.wy n d : Int) := by
  intro n
  induction n with
  | zero =>
    intro d _ _
    refine ev_succ ?_
    simp only [spec_l21Ways.f]
    exact ev_pos rfl (Ev.now _)
  | succ n ih =>
    intro d hn hd
    have loop : ∀ (t e : Nat), e + t = d + 2 → 1 ≤ e → Ev (fun k => spec_l21Ways.l0 k (d : Int) ((n + 1 : Nat) : Int) (TShape.ws n (e - 1) : Int) (e : Int)) (TShape.ws n (d + 1) : Int) := by
      intro t
      induction t with
      | zero =>
        intro e he h1
        refine ev_succ ?_
        simp only [spec_l21Ways.l0]
        rw [w64 (by omega) (by omega)]
        refine ev_neg (by omega) (ev_some ?_)
        have : e - 1 = d + 1 := by omega
        rw [this]
      | succ t iht =>
        intro e he h1
        refine ev_succ ?_
        simp only [spec_l21Ways.l0]
        rw [w64 (x := (d : Int) + 1) (by omega) (by omega)]
        refine ev_pos (by omega) ?_
        rw [w64 (x := ((n + 1 : Nat) : Int) - 1) (by omega) (by omega)]
        have e1 : ((n + 1 : Nat) : Int) - 1 = (n : Int) := by omega
        rw [e1]
        refine ev_bind (ih e (by omega) (by omega)) ?_
        have hb := TShape.ws_small (n := n) (by omega) e (by omega)
        have e2 : TShape.ws n (e - 1 + 1) = TShape.ws n (e - 1) + TShape.wy n (e - 1 + 1) := rfl
        have e3 : e - 1 + 1 = e := by omega
        rw [e3] at e2
        rw [w64 (x := (TShape.ws n (e - 1) : Int) + (TShape.wy n e : Int)) (by omega) (by omega), w64 (x := (e : Int) + 1) (by omega) (by omega)]
        have := iht (e + 1) (by omega) (by omega)
        have e4 : e + 1 - 1 = e := by omega
        rw [e4, e2] at this
        have e5 : ((TShape.ws n (e - 1) + TShape.wy n e : Nat) : Int) = (TShape.ws n (e - 1) : Int) + (TShape.wy n e : Int) := by omega
        rw [e5] at this
        exact this
    refine ev_succ ?_
    simp only [spec_l21Ways.f]
    refine ev_neg (by omega) ?_
    rw [TShape.wy_succ]
    exact loop (d + 1) 1 (by omega) (by omega)

/-! #### impl_within -/
theorem within_eq (a b c : Int) : impl_within.f a b c = some (decide (b ≤ a ∧ a ≤ c)) := by
  unfold impl_within.f
  by_cases h : b ≤ a
  · rw [if_pos h]; simp [h]
  · rw [if_neg h]; simp [h]

/-! #### impl_ways -/
theorem ways_ev : ∀ (n d : Nat), n ≤ 9 → d + n ≤ 19 → Ev (fun k => impl_ways.f k (n : Int) (d : Int)) (TShape.wy n d : Int) := by
  intro n
  induction n with
  | zero =>
    intro d _ _
    refine ev_succ ?_
    simp only [impl_ways.f]
    exact ev_pos rfl (Ev.now _)
  | succ n ih =>
    intro d hn hd
    have loop : ∀ (t e : Nat), e + t = d + 2 → 1 ≤ e → Ev (fun k => impl_ways.l0 k ((n + 1 : Nat) : Int) (d : Int) (TShape.ws n (e - 1) : Int) (e : Int)) (TShape.ws n (d + 1) : Int) := by
      intro t
      induction t with
      | zero =>
        intro e he h1
        refine ev_succ ?_
        simp only [impl_ways.l0]
        rw [w64 (by omega) (by omega)]
        refine ev_neg (by omega) (ev_some ?_)
        have : e - 1 = d + 1 := by omega
        rw [this]
      | succ t iht =>
        intro e he h1
        refine ev_succ ?_
        simp only [impl_ways.l0]
        rw [w64 (x := (d : Int) + 1) (by omega) (by omega)]
        refine ev_pos (by omega) ?_
        rw [w64 (x := ((n + 1 : Nat) : Int) - 1) (by omega) (by omega)]
        have e1 : ((n + 1 : Nat) : Int) - 1 = (n : Int) := by omega
        rw [e1]
        refine ev_bind (ih e (by omega) (by omega)) ?_
        have hb := TShape.ws_small (n := n) (by omega) e (by omega)
        have e2 : TShape.ws n (e - 1 + 1) = TShape.ws n (e - 1) + TShape.wy n (e - 1 + 1) := rfl
        have e3 : e - 1 + 1 = e := by omega
        rw [e3] at e2
        rw [w64 (x := (TShape.ws n (e - 1) : Int) + (TShape.wy n e : Int)) (by omega) (by omega), w64 (x := (e : Int) + 1) (by omega) (by omega)]
        have := iht (e + 1) (by omega) (by omega)
        have e4 : e + 1 - 1 = e := by omega
        rw [e4, e2] at this
        have e5 : ((TShape.ws n (e - 1) + TShape.wy n e : Nat) : Int) = (TShape.ws n (e - 1) : Int) + (TShape.wy n e : Int) := by omega
        rw [e5] at this
        exact this
    refine ev_succ ?_
    simp only [impl_ways.f]
    refine ev_neg (by omega) ?_
    rw [TShape.wy_succ]
    exact loop (d + 1) 1 (by omega) (by omega)

/-! #### impl_ShapeCount -/
/-- how many shapes of n nodes there are -/
def shCount (n : Int) : Nat := if 1 ≤ n ∧ n ≤ 10 then TShape.wy (n - 1).toNat 0 else 0
theorem shCount_le (n : Int) : shCount n ≤ 14507145975869 := by
  unfold shCount
  split
  · exact TShape.wy_small (by omega) (by omega)
  · omega
theorem ShapeCount_ev (n : Int) : Ev (fun k => impl_ShapeCount.f k n) (shCount n : Int) := by
  simp only [impl_ShapeCount.f, within_eq, Option.bind_some, decide_eq_true_eq]
  unfold shCount
  by_cases h : 1 ≤ n ∧ n ≤ 10
  · refine ev_pos h ?_
    rw [if_pos h, w64 (x := n - 1) (by omega) (by omega)]
    have := ways_ev (n - 1).toNat 0 (by omega) (by omega)
    rw [Int.toNat_of_nonneg (by omega)] at this
    exact ev_bind this (Ev.now _)
  · refine ev_neg h ?_
    rw [if_neg h]
    exact Ev.now _

/-! #### spec_ShapeCount -/
theorem spec_ShapeCount_ev (n : Int) : Ev (fun k => spec_ShapeCount.f k n) (shCount n : Int) := by
  simp only [spec_ShapeCount.f, l1In_eq, Option.bind_some, decide_eq_true_eq]
  unfold shCount
  by_cases h : 1 ≤ n ∧ n ≤ 10
  · refine ev_pos h ?_
    rw [if_pos h, w64 (x := n - 1) (by omega) (by omega)]
    have := l21Ways_ev (n - 1).toNat 0 (by omega) (by omega)
    rw [Int.toNat_of_nonneg (by omega)] at this
    exact ev_bind this (Ev.now _)
  · refine ev_neg h ?_
    rw [if_neg h]
    exact Ev.now _

/-! #### _cur -/
theorem and255 (x : Int) : 0 ≤ Go.bits .and .i64 x 255 ∧ Go.bits .and .i64 x 255 ≤ 255 := by
  have key : ((BitVec.ofInt 64 x) &&& (BitVec.ofInt 64 255)).toNat ≤ 255 := by
    rw [BitVec.toNat_and]
    exact Nat.le_trans Nat.and_le_right (by decide)
  have e : Go.bits .and .i64 x 255 = IntKind.i64.wrap (((BitVec.ofInt 64 x) &&& (BitVec.ofInt 64 255)).toNat : Int) := rfl
  rw [e, IntKind.wrap_i64]
  omega
/-- the cursor's place lies in the code -/
def Cur (s : List Int) (i : Int) : Prop := (0 ≤ i ∧ i ≤ (s.length : Int)) ∧ (s.length : Int) ≤ 4611686018427387904

/-! #### spec_l1New -/
theorem l1New_ev (l : List Int) (hl : (l.length : Int) ≤ 4611686018427387904) : ∃ h, Ev (fun k => spec_l1New.f k l) (l, 0, h) := by
  have key : ∀ (d i : Nat) (h0 : Int), i + d = l.length → ∃ h, Ev (fun k => spec_l1New.l0 k l h0 (i : Int)) (l, 0, h) := by
    intro d
    induction d with
    | zero =>
      intro i h0 h
      refine ⟨h0, ev_succ ?_⟩
      simp only [spec_l1New.l0]
      exact ev_neg (by omega) (Ev.now _)
    | succ d ih =>
      intro i h0 h
      by_cases h4 : (i : Int) < 4000
      · obtain ⟨h', he⟩ := ih (i + 1) (Go.bits .and .i64 (wrap64 ((wrap64 ((wrap64 (h0 * 131)) + (wrap64 (rd l (i : Int))))) + 7)) 1073741823) (by omega)
        refine ⟨h', ev_succ ?_⟩
        simp only [spec_l1New.l0]
        refine ev_pos (by omega) (ev_pos h4 (ev_pos (by omega) ?_))
        rw [w64 (x := (i : Int) + 1) (by omega) (by omega)]
        exact he
      · refine ⟨h0, ev_succ ?_⟩
        simp only [spec_l1New.l0]
        exact ev_pos (by omega) (ev_neg h4 (Ev.now _))
  simp only [spec_l1New.f]
  exact key l.length 0 _ (by omega)

/-! #### spec_l1Byte -/
theorem l1Byte_ok (s : List Int) (i h0 : Int) (hc : Cur s i) : ∃ x i' h, spec_l1Byte.f s i h0 = some (x, i', h) ∧ (0 ≤ x ∧ x ≤ 255) ∧ Cur s i' := by
  unfold spec_l1Byte.f
  obtain ⟨⟨h1, h2⟩, h3⟩ := hc
  by_cases hlt : i < (s.length : Int)
  · rw [if_pos hlt, if_pos h1, w64 (x := i + 1) (by omega) (by omega)]
    exact ⟨_, _, _, rfl, and255 _, ⟨by omega, by omega⟩, h3⟩
  · rw [if_neg hlt]
    exact ⟨_, _, _, rfl, and255 _, ⟨h1, h2⟩, h3⟩

/-! #### spec_l1Below -/
theorem l1Below_ok (s : List Int) (i h0 n : Int) (hc : Cur s i) : ∃ x i' h, spec_l1Below.f s i h0 n = some (x, i', h) ∧ 0 ≤ x ∧ (0 < n → x < n) ∧ (n ≤ 0 → x = 0) ∧ Cur s i' := by
  unfold spec_l1Below.f
  by_cases h0n : n ≤ 0
  · rw [if_pos h0n]
    exact ⟨0, i, h0, rfl, Int.le_refl 0, fun h => by omega, fun _ => rfl, hc⟩
  · rw [if_neg h0n]
    by_cases h256 : n ≤ 256
    · obtain ⟨x, i', h, e, hx, hc'⟩ := l1Byte_ok s i h0 hc
      rw [if_pos h256, e]
      simp only [Option.bind_some]
      rw [if_neg (by omega)]
      exact ⟨_, _, _, rfl, Int.tmod_nonneg _ hx.1, fun _ => Int.tmod_lt_of_pos _ (by omega), fun h => by omega, hc'⟩
    · obtain ⟨x, i1, h1, e1, hx, hc1⟩ := l1Byte_ok s i h0 hc
      obtain ⟨y, i2, h2, e2, hy, hc2⟩ := l1Byte_ok s i1 h1 hc1
      obtain ⟨z, i3, h3, e3, hz, hc3⟩ := l1Byte_ok s i2 h2 hc2
      obtain ⟨v, i4, h4, e4, hv, hc4⟩ := l1Byte_ok s i3 h3 hc3
      rw [if_neg h256, e1]
      simp only [Option.bind_some, e2, e3, e4]
      rw [if_neg (by omega), w64 (x := x * 16777216) (by omega) (by omega), w64 (x := y * 65536) (by omega) (by omega), w64 (x := z * 256) (by omega) (by omega), w64 (x := x * 16777216 + y * 65536) (by omega) (by omega), w64 (x := x * 16777216 + y * 65536 + z * 256) (by omega) (by omega), w64 (by omega) (by omega)]
      exact ⟨_, _, _, rfl, Int.tmod_nonneg _ (by omega), fun _ => Int.tmod_lt_of_pos _ (by omega), fun h => by omega, hc4⟩

/-! #### spec_DrawShapeAt -/
theorem DrawShapeAt_ok (l : List Int) (hl : (l.length : Int) ≤ 4611686018427387904) : ∃ n k', Ev (fun k => spec_DrawShapeAt.f k l) (n, k') ∧ (0 ≤ n ∧ n ≤ 7) ∧ -1 ≤ k' ∧ k' ≤ (shCount n : Int) := by
  obtain ⟨h, hn⟩ := l1New_ev l hl
  obtain ⟨x, i1, h1, b1, hx0, hx1, _, hc1⟩ := l1Below_ok l 0 h 8 ⟨⟨by omega, by omega⟩, hl⟩
  have hx := hx1 (by omega)
  have hcl := shCount_le x
  have e0 : wrap64 ((shCount x : Int) + 2) = (shCount x : Int) + 2 := w64 (by omega) (by omega)
  obtain ⟨y, i2, h2, b2, hy0, hy1, _, hc2⟩ := l1Below_ok l i1 h1 ((shCount x : Int) + 2) hc1
  have hy := hy1 (by omega)
  refine ⟨x, y - 1, ?_, by omega, by omega, by omega⟩
  simp only [spec_DrawShapeAt.f]
  refine ev_bind hn (ev_bindc b1 (ev_bind (spec_ShapeCount_ev x) ?_))
  rw [e0]
  refine ev_bindc b2 (ev_some ?_)
  show (x, wrap64 (y - 1)) = (x, y - 1)
  rw [w64 (by omega) (by omega)]

/-! #### impl_ShapeAt -/
/-- row k of the shapes of n nodes -/
def shAt (n k : Int) : List Int := if 0 ≤ k ∧ k ≤ (shCount n : Int) - 1 then 0 :: (TShape.sAt (n - 1).toNat 0 k.toNat).map Int.ofNat else []
theorem ShapeAt_l1 (n : Nat) (m D : Nat) (hm : m ≤ 9) (hD : D + m ≤ 10) (out : List Int) (ho : out.length + (m + 1) = n) (hn : n ≤ 10)
    (ih : ∀ (D kk : Nat) (out : List Int), out.length + m = n → kk < TShape.wy m D → D + m ≤ 11 → Ev (fun k => impl_ShapeAt.l0 k (n : Int) (kk : Int) out) (out ++ (TShape.sAt m D kk).map Int.ofNat)) :
    ∀ (f e kk : Nat), 1 ≤ e → e - 1 + f = D + 1 → TShape.ws m (e - 1) + kk < TShape.ws m (D + 1) →
      Ev (fun k => impl_ShapeAt.l1 k (n : Int) (kk : Int) out (e : Int) (m : Int)) (out ++ ((TShape.pick m f kk e).1 :: TShape.sAt m (TShape.pick m f kk e).1 (TShape.pick m f kk e).2).map Int.ofNat) := by
  intro f
  induction f with
  | zero => intro e kk h1 h2 h3; have : e - 1 = D + 1 := by omega
            rw [this] at h3; omega
  | succ f ihf =>
    intro e kk h1 h2 h3
    refine ev_succ ?_
    simp only [impl_ShapeAt.l1]
    refine ev_bind (ways_ev m e hm (by omega)) ?_
    rw [TShape.pick]
    by_cases hk : kk < TShape.wy m e
    · refine ev_neg (by omega) ?_
      rw [if_pos hk]
      refine ev_pos (by omega) ?_
      have := ih e kk (out ++ [(e : Int)]) (by rw [List.length_append, List.length_singleton]; omega) hk (by omega)
      rw [List.append_assoc] at this
      exact this
    · refine ev_pos (by omega) ?_
      rw [if_neg hk]
      refine ev_bind (ways_ev m e hm (by omega)) ?_
      have hb := TShape.wy_small (n := m) (d := e) hm (by omega)
      have hb2 := TShape.ws_small (n := m) hm (D + 1) (by omega)
      rw [w64 (x := (kk : Int) - (TShape.wy m e : Int)) (by omega) (by omega), w64 (x := (e : Int) + 1) (by omega) (by omega)]
      have e1 : (kk : Int) - (TShape.wy m e : Int) = ((kk - TShape.wy m e : Nat) : Int) := by omega
      rw [e1]
      have e2 : TShape.ws m (e - 1 + 1) = TShape.ws m (e - 1) + TShape.wy m (e - 1 + 1) := rfl
      have e3 : e - 1 + 1 = e := by omega
      rw [e3] at e2
      have e4 : e + 1 - 1 = e := by omega
      exact ihf (e + 1) (kk - TShape.wy m e) (by omega) (by omega) (by rw [e4, e2]; omega)
theorem ShapeAt_l0 (n : Nat) (hn : n ≤ 10) : ∀ (m D kk : Nat) (out : List Int), out.length + m = n → kk < TShape.wy m D → D + m ≤ 11 → 1 ≤ out.length → Ev (fun k => impl_ShapeAt.l0 k (n : Int) (kk : Int) out) (out ++ (TShape.sAt m D kk).map Int.ofNat) := by
  intro m
  induction m with
  | zero =>
    intro D kk out ho hk hD h1
    refine ev_succ ?_
    simp only [impl_ShapeAt.l0]
    refine ev_neg (by omega) (ev_some ?_)
    simp [TShape.sAt]
  | succ m ih =>
    intro D kk out ho hk hD h1
    refine ev_succ ?_
    simp only [impl_ShapeAt.l0]
    refine ev_pos (by omega) ?_
    rw [w64 (x := (n : Int) - (out.length : Int)) (by omega) (by omega), w64 (by omega) (by omega)]
    have e1 : (n : Int) - (out.length : Int) - 1 = (m : Int) := by omega
    rw [e1]
    rw [TShape.wy_succ] at hk
    exact ShapeAt_l1 n m D (by omega) (by omega) out (by omega) hn (fun D' kk' out' a b c => by
      by_cases h0 : 1 ≤ out'.length
      · exact ih D' kk' out' a b c h0
      · omega) (D + 1) 1 kk (Nat.le_refl _) (by omega) (by simpa [TShape.ws] using hk)
theorem ShapeAt_ev (n k' : Int) : Ev (fun k => impl_ShapeAt.f k n k') (shAt n k') := by
  simp only [impl_ShapeAt.f]
  refine ev_bind (ShapeCount_ev n) ?_
  have hc := shCount_le n
  rw [w64 (by omega) (by omega)]
  refine ev_bindc (within_eq _ _ _) ?_
  simp only [decide_eq_true_eq]
  unfold shAt
  by_cases h : 0 ≤ k' ∧ k' ≤ (shCount n : Int) - 1
  · refine ev_pos h ?_
    rw [if_pos h]
    have hn : 1 ≤ n ∧ n ≤ 10 := by
      by_cases h2 : 1 ≤ n ∧ n ≤ 10
      · exact h2
      · exfalso; unfold shCount at h; rw [if_neg h2] at h; omega
    have hs : shCount n = TShape.wy (n - 1).toNat 0 := by unfold shCount; rw [if_pos hn]
    have := ShapeAt_l0 n.toNat (by omega) (n - 1).toNat 0 k'.toNat [0] (by simp; omega) (by rw [← hs]; omega) (by omega) (by simp)
    rw [Int.toNat_of_nonneg (by omega), Int.toNat_of_nonneg (by omega)] at this
    exact this
  · refine ev_neg h ?_
    rw [if_neg h]
    exact Ev.now _

/-! #### spec_Depths -/
theorem spec_Depths_l0 (l : List S68) (hm : l.length ≤ 17592186044416) : ∀ (d i : Nat), i + d = l.length → Ev (fun k => spec_Depths.l0 k l ((l.map (·.f1)).take i) (i : Int)) (l.map (·.f1)) := by
  intro d
  induction d with
  | zero =>
    intro i h
    refine ev_succ ?_
    simp only [spec_Depths.l0]
    refine ev_neg (by omega) (ev_some ?_)
    rw [List.take_of_length_le (by rw [List.length_map]; omega)]
  | succ d ih =>
    intro i h
    refine ev_succ ?_
    simp only [spec_Depths.l0]
    refine ev_pos (by omega) (ev_pos (by omega) (ev_pos (by rw [List.length_take, List.length_map]; omega) ?_))
    rw [w64 (by omega) (by omega)]
    have := ih (i + 1) (by omega)
    have hi : i < l.length := by omega
    rw [List.take_succ_eq_append_getElem (by rw [List.length_map]; omega), List.getElem_map] at this
    have e : (rd_T68 l (i : Int)).f1 = l[i].f1 := by simp [rd_T68, hi]
    rw [e]
    exact this
theorem spec_Depths_ev (l : List S68) (hm : l.length ≤ 17592186044416) : Ev (fun k => spec_Depths.f k l) (l.map (·.f1)) := by
  simp only [spec_Depths.f]
  have := spec_Depths_l0 l hm l.length 0 (by omega)
  simpa using this

/-! #### spec_l1Once -/
theorem l1Once_ok (s : List Int) (i h0 n : Int) (hc : Cur s i) : ∃ x i' h, spec_l1Once.f s i h0 n = some (x, i', h) ∧ Cur s i' := by
  unfold spec_l1Once.f
  obtain ⟨x, i', h, e, _, _, _, hc'⟩ := l1Below_ok s i h0 n hc
  rw [e]
  exact ⟨_, _, _, rfl, hc'⟩

/-! #### spec_l2Label -/
theorem l2Label_ok (s : List Int) (i h0 : Int) (hc : Cur s i) : ∃ x i' h, spec_l2Label.f s i h0 = some (x, i', h) ∧ (0 ≤ x ∧ x ≤ 3) ∧ Cur s i' := by
  unfold spec_l2Label.f
  obtain ⟨x, i', h, e, h1, h2, _, hc'⟩ := l1Below_ok s i h0 4 hc
  rw [e]
  exact ⟨_, _, _, rfl, ⟨h1, by have := h2 (by omega); omega⟩, hc'⟩

/-! #### _nodes -/
/-- the label and the depth at a place -/
def lbA (l : List S68) (j : Nat) : Int := (l.getD j z68).f0
def dpA (l : List S68) (j : Nat) : Int := (l.getD j z68).f1
theorem rd_f0 (l : List S68) (j : Nat) : (rd_T68 l (j : Int)).f0 = lbA l j := id rfl
theorem rd_f1 (l : List S68) (j : Nat) : (rd_T68 l (j : Int)).f1 = dpA l j := id rfl
theorem node_ext {a b : S68} (h0 : a.f0 = b.f0) (h1 : a.f1 = b.f1) : a = b := by cases a; cases b; simp at h0 h1; rw [h0, h1]
theorem rd_node (l : List S68) (j : Nat) : rd_T68 l (j : Int) = ⟨lbA l j, dpA l j⟩ := id rfl
theorem getD_node (l : List S68) (j : Nat) (h : j < l.length) : l[j] = ⟨lbA l j, dpA l j⟩ := by
  apply node_ext
  · simp [lbA, h]
  · simp [dpA, h]
theorem nodes_ext {a b : List S68} (hl : a.length = b.length) (h0 : ∀ j, j < a.length → lbA a j = lbA b j) (h1 : ∀ j, j < a.length → dpA a j = dpA b j) : a = b := by
  apply List.ext_getElem hl
  intro j h2 h3
  rw [getD_node a j h2, getD_node b j h3, h0 j h2, h1 j h2]
/-- a node may stand at its place -/
def okAt (l : List S68) (j : Nat) : Prop := (0 ≤ lbA l j ∧ lbA l j ≤ 5) ∧ (0 ≤ dpA l j ∧ dpA l j ≤ 12) ∧ (if j = 0 then dpA l j = 0 else 1 ≤ dpA l j ∧ dpA l j ≤ dpA l (j - 1) + 1)
instance okAtDec (l : List S68) (j : Nat) : Decidable (okAt l j) := by unfold okAt; infer_instance
/-- the nodes are those of one tree -/
def treeOk (l : List S68) : Bool := decide (1 ≤ l.length ∧ l.length ≤ 24) && decide (∀ j, j < l.length → okAt l j)
theorem treeOk_iff {l : List S68} : treeOk l = true ↔ (1 ≤ l.length ∧ l.length ≤ 24) ∧ ∀ j, j < l.length → okAt l j := by
  simp [treeOk]
theorem treeOk_vd {l : List S68} (h : treeOk l = true) : Tree.Vd l.length (dpA l) := by
  obtain ⟨h1, h2⟩ := treeOk_iff.1 h
  refine ⟨h1.1, ?_, fun j h0 hj => ?_⟩
  · have := (h2 0 h1.1).2.2
    rwa [if_pos rfl] at this
  · have := (h2 j hj).2.2
    rwa [if_neg (by omega)] at this
/-- from place i on all nodes may stand -/
noncomputable def okFrom (l : List S68) (i : Nat) : Bool := cdec (∀ j, i ≤ j → j < l.length → okAt l j)
theorem okFrom_end {l : List S68} {i : Nat} (h : l.length ≤ i) : okFrom l i = true := by
  unfold okFrom
  rw [cdec_iff]
  intro j h1 h2
  omega
theorem okFrom_step {l : List S68} {i : Nat} (h : i < l.length) : okFrom l i = (decide (okAt l i) && okFrom l (i + 1)) := by
  unfold okFrom
  rw [Bool.eq_iff_iff, Bool.and_eq_true, cdec_iff, decide_eq_true_iff, cdec_iff]
  constructor
  · intro a; exact ⟨a i (Nat.le_refl _) h, fun j h1 h2 => a j (by omega) h2⟩
  · rintro ⟨a, b⟩ j h1 h2
    by_cases e : j = i
    · subst e; exact a
    · exact b j (by omega) h2
theorem okFrom_zero (l : List S68) : treeOk l = (decide (1 ≤ l.length ∧ l.length ≤ 24) && okFrom l 0) := by
  unfold treeOk okFrom
  congr 1
  rw [Bool.eq_iff_iff, decide_eq_true_iff, cdec_iff]
  exact ⟨fun h j _ hj => h j hj, fun h j hj => h j (Nat.zero_le _) hj⟩

/-! #### spec_l3Tree -/
/-- what a drawn tree is: at least a node, at most so many, all small -/
def Drawn (l : List S68) (n : Nat) : Prop := 1 ≤ l.length ∧ l.length ≤ n ∧ ∀ x ∈ l, (0 ≤ x.f0 ∧ x.f0 ≤ 3) ∧ 0 ≤ x.f1 ∧ x.f1 ≤ 12
theorem drawn_snoc {l : List S68} {n : Nat} (h : Drawn l n) {a b : Int} (ha : 0 ≤ a ∧ a ≤ 3) (hb : 0 ≤ b ∧ b ≤ 12) : Drawn (l ++ [⟨a, b⟩]) (n + 1) := by
  obtain ⟨h1, h2, h3⟩ := h
  refine ⟨by simp, by simp; omega, fun x hx => ?_⟩
  rcases List.mem_append.1 hx with hx | hx
  · exact h3 x hx
  · rw [List.mem_singleton.1 hx]
    exact ⟨ha, hb⟩
theorem l3Tree_l0 (s : List Int) (hs : (s.length : Int) ≤ 4611686018427387904) : ∀ (d : Nat) (l : List S68) (i h0 : Int) (m : Nat), Drawn l m → m + d ≤ 1000 → Cur s i →
    ∃ r i' h, Ev (fun k => spec_l3Tree.l0 k l (d : Int) s i h0) (r, i', h) ∧ Drawn r (m + d) ∧ Cur s i' := by
  intro d
  induction d with
  | zero =>
    intro l i h0 m hd hm hc
    refine ⟨l, i, h0, ev_succ ?_, hd, hc⟩
    simp only [spec_l3Tree.l0]
    exact ev_neg (by omega) (Ev.now _)
  | succ d ih =>
    intro l i h0 m hd hm hc
    have hl := hd.1
    have hl2 := hd.2.1
    have e1 : wrap64 ((l.length : Int) - 1) = ((l.length - 1 : Nat) : Int) := by rw [w64 (by omega) (by omega)]; omega
    have hlast : 0 ≤ dpA l (l.length - 1) ∧ dpA l (l.length - 1) ≤ 12 := by
      have hm2 : l[l.length - 1] ∈ l := List.getElem_mem (by omega)
      have := (hd.2.2 _ hm2).2
      rw [getD_node l _ (by omega)] at this
      exact this
    obtain ⟨x, i1, h1, b1, hx0, hx1, _, hc1⟩ := l1Below_ok s i h0 (dpA l (l.length - 1) + 1) hc
    have hx := hx1 (by omega)
    obtain ⟨o, i2, h2, b2, hc2⟩ := l1Once_ok s i1 h1 2 hc1
    obtain ⟨y, i3, h3, b3, hy, hc3⟩ := l2Label_ok s i2 h2 hc2
    have hd1 := fun (b : Int) (hb : 0 ≤ b ∧ b ≤ 12) => ih (l ++ [⟨y, b⟩]) i3 h3 (m + 1) (drawn_snoc hd hy hb) (by omega) hc3
    have em : m + 1 + d = m + (d + 1) := by omega
    have hed : wrap64 (((d + 1 : Nat) : Int) - 1) = (d : Int) := by rw [w64 (by omega) (by omega)]; omega
    have e5 : wrap64 (dpA l (l.length - 1) + 1) = dpA l (l.length - 1) + 1 := w64 (by omega) (by omega)
    have e6 : wrap64 (1 + x) = 1 + x := w64 (by omega) (by omega)
    by_cases ho : o = true
    · by_cases hg : dpA l (l.length - 1) + 1 > 12
      · obtain ⟨r, i', h, he, hr, hcr⟩ := hd1 1 (by omega)
        refine ⟨r, i', h, ev_succ ?_, by rw [← em]; exact hr, hcr⟩
        simp only [spec_l3Tree.l0, e1, rd_f1, e5]
        refine ev_pos (by omega) (ev_pos (by omega) (ev_pos (by omega) (ev_bindc b1 (ev_bindc b2 (ev_pos ho (ev_pos hg (ev_bindc b3 (ev_pos (by omega) ?_))))))))
        rw [hed]; exact he
      · obtain ⟨r, i', h, he, hr, hcr⟩ := hd1 (dpA l (l.length - 1) + 1) (by omega)
        refine ⟨r, i', h, ev_succ ?_, by rw [← em]; exact hr, hcr⟩
        simp only [spec_l3Tree.l0, e1, rd_f1, e5]
        refine ev_pos (by omega) (ev_pos (by omega) (ev_pos (by omega) (ev_bindc b1 (ev_bindc b2 (ev_pos ho (ev_neg hg (ev_bindc b3 (ev_pos (by omega) ?_))))))))
        rw [hed]; exact he
    · by_cases hg : 1 + x > 12
      · obtain ⟨r, i', h, he, hr, hcr⟩ := hd1 1 (by omega)
        refine ⟨r, i', h, ev_succ ?_, by rw [← em]; exact hr, hcr⟩
        simp only [spec_l3Tree.l0, e1, rd_f1, e5]
        refine ev_pos (by omega) (ev_pos (by omega) (ev_pos (by omega) (ev_bindc b1 (ev_bindc b2 (ev_neg ho ?_)))))
        simp only [e6]
        refine ev_pos hg (ev_bindc b3 (ev_pos (by omega) ?_))
        rw [hed]; exact he
      · obtain ⟨r, i', h, he, hr, hcr⟩ := hd1 (1 + x) (by omega)
        refine ⟨r, i', h, ev_succ ?_, by rw [← em]; exact hr, hcr⟩
        simp only [spec_l3Tree.l0, e1, rd_f1, e5]
        refine ev_pos (by omega) (ev_pos (by omega) (ev_pos (by omega) (ev_bindc b1 (ev_bindc b2 (ev_neg ho ?_)))))
        simp only [e6]
        refine ev_neg hg (ev_bindc b3 (ev_pos (by omega) ?_))
        rw [hed]; exact he
theorem l3Tree_ok (s : List Int) (i h0 : Int) (most : Nat) (hm : most ≤ 900) (hc : Cur s i) : ∃ r i' h, Ev (fun k => spec_l3Tree.f k s i h0 (most : Int)) (r, i', h) ∧ Drawn r (most + 1) ∧ Cur s i' := by
  obtain ⟨y, i1, h1, b1, hy, hc1⟩ := l2Label_ok s i h0 hc
  obtain ⟨x, i2, h2, b2, hx0, hx1, hx2, hc2⟩ := l1Below_ok s i1 h1 (most : Int) hc1
  have hxm : x ≤ (most : Int) := by
    rcases Nat.eq_zero_or_pos most with h | h
    · have := hx2 (by omega); omega
    · have := hx1 (by omega); omega
  obtain ⟨r, i', h, he, hr, hcr⟩ := l3Tree_l0 s hc.2 x.toNat [⟨y, 0⟩] i2 h2 1 ⟨by simp, by simp, fun z hz => by
    rw [List.mem_singleton.1 hz]; exact ⟨hy, by show (0 : Int) ≤ 0; omega, by show (0 : Int) ≤ 12; omega⟩⟩ (by omega) hc2
  rw [Int.toNat_of_nonneg hx0] at he
  refine ⟨r, i', h, ?_, ⟨hr.1, by have := hr.2.1; omega, hr.2.2⟩, hcr⟩
  simp only [spec_l3Tree.f]
  exact ev_bindc b1 (ev_bindc b2 he)

/-! #### spec_l1PickInt -/
theorem l1PickInt_ok (s : List Int) (i h0 : Int) (l : List Int) (hl : 0 < l.length) (hc : Cur s i) : ∃ (j : Nat) (i' h : Int), spec_l1PickInt.f s i h0 l = some (rd l (j : Int), i', h) ∧ j < l.length ∧ Cur s i' := by
  unfold spec_l1PickInt.f
  obtain ⟨x, i', h, e, h1, h2, _, hc'⟩ := l1Below_ok s i h0 (l.length : Int) hc
  have h3 := h2 (by omega)
  rw [e]
  simp only [Option.bind_some]
  rw [if_pos h1, if_pos h3]
  refine ⟨x.toNat, i', h, ?_, by omega, hc'⟩
  rw [Int.toNat_of_nonneg h1]

/-! #### spec_DrawShapeRank -/
theorem DrawShapeRank_ok (l : List Int) (hl : (l.length : Int) ≤ 4611686018427387904) : ∃ r, Ev (fun k => spec_DrawShapeRank.f k l) r ∧ r.length ≤ 100 := by
  obtain ⟨h, hn⟩ := l1New_ev l hl
  obtain ⟨t, i1, h1, b1, ht, hc1⟩ := l3Tree_ok l 0 h 9 (by omega) ⟨⟨by omega, by omega⟩, hl⟩
  have hlen : (t.map (·.f1)).length = t.length := by simp
  have htl := ht.2.1
  have ht0 := ht.1
  have hd := spec_Depths_ev t (by omega)
  obtain ⟨o, i2, h2, b2, hc2⟩ := l1Once_ok l i1 h1 8 hc1
  by_cases ho : o = true
  · obtain ⟨x, i3, h3, b3, hx0, hx1, _, hc3⟩ := l1Below_ok l i2 h2 ((t.map (·.f1)).length : Int) hc2
    have hx := hx1 (by omega)
    obtain ⟨j, i4, h4, b4, hj, hc4⟩ := l1PickInt_ok l i3 h3 [(-1), 0, 5] (by simp) hc3
    refine ⟨(t.map (·.f1)).set x.toNat (rd [(-1), 0, 5] (j : Int)), ?_, by rw [List.length_set]; omega⟩
    simp only [spec_DrawShapeRank.f]
    exact ev_bind hn (ev_bind b1 (ev_bind hd (ev_bindc b2 (ev_pos ho (ev_bindc b3 (ev_bindc b4 (ev_pos hx0 (ev_pos hx (Ev.now _)))))))))
  · refine ⟨t.map (·.f1), ?_, by omega⟩
    simp only [spec_DrawShapeRank.f]
    exact ev_bind hn (ev_bind b1 (ev_bind hd (ev_bindc b2 (ev_neg ho (Ev.now _)))))

/-! #### spec_l21Row -/
/-- may these depths stand behind p? -/
def rowGo : Int → List Int → Bool
  | _, [] => true
  | p, d :: r => decide (1 ≤ d ∧ d ≤ p + 1) && rowGo d r
/-- is it a row of depths? -/
def rowOk (l : List Int) : Bool := (match l with | [] => false | d :: r => decide (d = 0) && rowGo 0 r) && decide (l.length ≤ 10)
theorem rd_app (pre r : List Int) (d : Int) (i : Int) (h : i = pre.length) : rd (pre ++ d :: r) i = d := by
  subst h; simp [rd]
theorem l21Row_l0 (l : List Int) (hl : (l.length : Int) ≤ 9223372036854775806) : ∀ (r pre : List Int) (p : Int), l = pre ++ r → 1 ≤ pre.length → rd l ((pre.length : Int) - 1) = p → 0 ≤ p → p < pre.length →
    Ev (fun k => spec_l21Row.l0 k l (pre.length : Int)) (rowGo p r && decide (l.length ≤ 10)) := by
  intro r
  induction r with
  | nil =>
    intro pre p he h1 hp h0 hlt
    refine ev_succ ?_
    simp only [spec_l21Row.l0]
    have hlen : l.length = pre.length := by rw [he]; simp
    refine ev_neg (by omega) ?_
    simp only [l1In_eq, Option.bind_some]
    refine ev_some ?_
    simp only [rowGo, Bool.true_and]
    congr 1
    simp only [eq_iff_iff]
    omega
  | cons d r ih =>
    intro pre p he h1 hp h0 hlt
    refine ev_succ ?_
    simp only [spec_l21Row.l0]
    have hlen : l.length = pre.length + (r.length + 1) := by rw [he]; simp
    have hd : rd l (pre.length : Int) = d := by rw [he]; exact rd_app pre r d _ rfl
    refine ev_pos (by omega) (ev_pos (by omega) ?_)
    rw [hd]
    have hz : ((pre.length : Int) == 0) = false := by rw [beq_eq_false_iff_ne]; omega
    rw [hz]
    by_cases hd0 : d = 0
    · refine ev_pos (by rw [hd0]; rfl) (ev_some ?_)
      simp [rowGo, hd0]
    · have hdz : (d == 0) = false := by simpa using hd0
      refine ev_neg (by rw [hdz]; decide) ?_
      by_cases hn : d < 0
      · refine ev_pos hn (ev_some ?_)
        have : ¬ (1 ≤ d ∧ d ≤ p + 1) := by omega
        simp [rowGo, this]
      · refine ev_neg hn (ev_pos (by omega) ?_)
        rw [w64 (x := (pre.length : Int) - 1) (by omega) (by omega), hp, w64 (x := p + 1) (by omega) (by omega), w64 (x := (pre.length : Int) + 1) (by omega) (by omega)]
        refine ev_pos (by omega) (ev_pos (by omega) ?_)
        by_cases hg : d > p + 1
        · refine ev_pos hg (ev_some ?_)
          have : ¬ (1 ≤ d ∧ d ≤ p + 1) := by omega
          simp [rowGo, this]
        · refine ev_neg hg ?_
          have := ih (pre ++ [d]) d (by rw [he]; simp) (by simp) (by rw [he]; simp [rd]) (by omega) (by simp; omega)
          have e : ((pre ++ [d]).length : Int) = (pre.length : Int) + 1 := by simp
          rw [e] at this
          refine ev_eq this ?_
          have : (1 ≤ d ∧ d ≤ p + 1) := by omega
          simp [rowGo, this]
theorem l21Row_ev (l : List Int) (hl : (l.length : Int) ≤ 9223372036854775806) : Ev (fun k => spec_l21Row.f k l) (rowOk l) := by
  simp only [spec_l21Row.f]
  cases l with
  | nil =>
    refine ev_succ ?_
    simp only [spec_l21Row.l0]
    refine ev_neg (by simp) ?_
    simp only [l1In_eq, Option.bind_some]
    exact ev_some (by simp [rowOk])
  | cons d r =>
    refine ev_succ ?_
    simp only [spec_l21Row.l0]
    refine ev_pos (by simp only [List.length_cons]; omega) (ev_pos (by omega) ?_)
    have hd : rd (d :: r) 0 = d := rfl
    rw [hd]
    by_cases hd0 : d = 0
    · refine ev_neg (by rw [hd0]; decide) (ev_neg (by omega) (ev_neg (by omega) ?_))
      rw [w64 (by omega) (by omega)]
      have := l21Row_l0 (d :: r) hl r [d] 0 rfl (by simp) (by rw [hd0]; rfl) (by omega) (by simp)
      refine ev_eq this ?_
      simp [rowOk, hd0]
    · have hdz : (d == 0) = false := by simpa using hd0
      refine ev_pos (by rw [hdz]; decide) (ev_some ?_)
      simp [rowOk, hd0]

/-! #### spec_ShapeRank -/
/-- the number of a row of depths, -1 of what is none -/
def shRank (l : List Int) : Int := if rowOk l = true then (TShape.sRank (l.tail.map Int.toNat) : Int) else -1
theorem sRank_small : ∀ (r : List Int) (p : Int), rowGo p r = true → 0 ≤ p → p + r.length ≤ 10 → TShape.sRank (r.map Int.toNat) ≤ r.length * (20 * 14507145975869) := by
  intro r
  induction r with
  | nil => intro p _ _ _; simp [TShape.sRank]
  | cons d r ih =>
    intro p h h0 hl
    simp only [rowGo, Bool.and_eq_true, decide_eq_true_eq] at h
    simp only [List.length_cons] at hl
    have h1 := ih d h.2 (by omega) (by omega)
    have h2 := TShape.ws_small (n := (r.map Int.toNat).length) (by rw [List.length_map]; omega) (d.toNat - 1) (by omega)
    simp only [List.map_cons, TShape.sRank, List.length_cons]
    have h3 : (d.toNat - 1) * 14507145975869 ≤ 20 * 14507145975869 := Nat.mul_le_mul_right _ (by omega)
    rw [Nat.succ_mul]
    omega
theorem spec_ShapeRank_l1 (l : List Int) (i m dt : Nat) (d : Int) (hd : rd l (i : Int) = d) (hdt : d = (dt : Int)) (h1 : 1 ≤ dt) (hdm : dt ≤ 10) (hm : m ≤ 9) (hi : i < l.length) (hmi : l.length = i + (m + 1)) (hl : l.length ≤ 10) (acc : Nat) (ha : acc ≤ 10000000000000000) (R : Int)
    (hR : Ev (fun k => spec_ShapeRank.l0 k l ((acc + TShape.ws m (dt - 1) : Nat) : Int) ((i : Int) + 1)) R) :
    ∀ (t e : Nat), e + t = dt → 1 ≤ e → Ev (fun k => spec_ShapeRank.l1 k l ((acc + TShape.ws m (e - 1) : Nat) : Int) (i : Int) (e : Int)) R := by
  intro t
  induction t with
  | zero =>
    intro e he h1
    refine ev_succ ?_
    simp only [spec_ShapeRank.l1]
    refine ev_pos (by omega) (ev_pos (by omega) (ev_neg (by omega) ?_))
    rw [w64 (by omega) (by omega)]
    have : e = dt := by omega
    rw [this]
    exact hR
  | succ t ih =>
    intro e he h1
    refine ev_succ ?_
    simp only [spec_ShapeRank.l1]
    refine ev_pos (by omega) (ev_pos (by omega) (ev_pos (by omega) ?_))
    rw [w64 (x := (l.length : Int) - (i : Int)) (by omega) (by omega), w64 (x := (l.length : Int) - (i : Int) - 1) (by omega) (by omega)]
    have e0 : (l.length : Int) - (i : Int) - 1 = (m : Int) := by omega
    rw [e0]
    refine ev_bind (l21Ways_ev m e hm (by omega)) ?_
    have hb := TShape.ws_small (n := m) hm e (by omega)
    have e2 : TShape.ws m (e - 1 + 1) = TShape.ws m (e - 1) + TShape.wy m (e - 1 + 1) := rfl
    have e3 : e - 1 + 1 = e := by omega
    rw [e3] at e2
    have hb2 : e * 14507145975869 ≤ 20 * 14507145975869 := Nat.mul_le_mul_right _ (by omega)
    rw [w64 (x := ((acc + TShape.ws m (e - 1) : Nat) : Int) + (TShape.wy m e : Int)) (by omega) (by omega), w64 (x := (e : Int) + 1) (by omega) (by omega)]
    have := ih (e + 1) (by omega) (by omega)
    have e4 : e + 1 - 1 = e := by omega
    rw [e4, e2] at this
    have e5 : ((acc + (TShape.ws m (e - 1) + TShape.wy m e) : Nat) : Int) = ((acc + TShape.ws m (e - 1) : Nat) : Int) + (TShape.wy m e : Int) := by omega
    rw [e5] at this
    exact this
theorem spec_ShapeRank_l0 (l : List Int) (hl : l.length ≤ 10) : ∀ (r pre : List Int) (p : Int) (acc : Nat), l = pre ++ r → 1 ≤ pre.length → rowGo p r = true → 0 ≤ p → p < pre.length → acc ≤ pre.length * (20 * 14507145975869) →
    Ev (fun k => spec_ShapeRank.l0 k l (acc : Int) (pre.length : Int)) ((acc + TShape.sRank (r.map Int.toNat) : Nat) : Int) := by
  intro r
  induction r with
  | nil =>
    intro pre p acc he h1 hg h0 hp ha
    refine ev_succ ?_
    simp only [spec_ShapeRank.l0]
    have hlen : l.length = pre.length := by rw [he]; simp
    refine ev_neg (by omega) (ev_some ?_)
    simp [TShape.sRank]
  | cons d r ih =>
    intro pre p acc he h1 hg h0 hp ha
    refine ev_succ ?_
    simp only [spec_ShapeRank.l0]
    have hlen : l.length = pre.length + (r.length + 1) := by rw [he]; simp
    have hd : rd l (pre.length : Int) = d := by rw [he]; exact rd_app pre r d _ rfl
    simp only [rowGo, Bool.and_eq_true, decide_eq_true_eq] at hg
    have hws := TShape.ws_small (n := r.length) (by omega) (d.toNat - 1) (by omega)
    have h3 : (d.toNat - 1) * 14507145975869 ≤ 20 * 14507145975869 := Nat.mul_le_mul_right _ (by omega)
    have hpl : pre.length * (20 * 14507145975869) ≤ 10 * (20 * 14507145975869) := Nat.mul_le_mul_right _ (by omega)
    refine ev_pos (by omega) ?_
    have := ih (pre ++ [d]) d (acc + TShape.ws r.length (d.toNat - 1)) (by rw [he]; simp) (by simp) hg.2 (by omega) (by simp; omega) (by
      rw [List.length_append, List.length_singleton, Nat.succ_mul]; omega)
    have e : ((pre ++ [d]).length : Int) = (pre.length : Int) + 1 := by simp
    rw [e] at this
    have fin := spec_ShapeRank_l1 l pre.length r.length d.toNat d hd (by omega) (by omega) (by omega) (by omega) (by omega) (by omega) hl acc (by omega) _ this (d.toNat - 1) 1 (by omega) (Nat.le_refl _)
    simp only [Nat.sub_self, TShape.ws, Nat.add_zero] at fin
    refine ev_eq fin ?_
    simp only [List.map_cons, TShape.sRank, List.length_map]
    omega
theorem spec_ShapeRank_ev (l : List Int) (hl : (l.length : Int) ≤ 9223372036854775806) : Ev (fun k => spec_ShapeRank.f k l) (shRank l) := by
  simp only [spec_ShapeRank.f]
  refine ev_bind (l21Row_ev l hl) ?_
  unfold shRank
  by_cases h : rowOk l = true
  · refine ev_pos h ?_
    rw [if_pos h]
    cases l with
    | nil => simp [rowOk] at h
    | cons d r =>
      simp only [rowOk, Bool.and_eq_true, decide_eq_true_eq] at h
      have := spec_ShapeRank_l0 (d :: r) h.2 r [d] 0 0 rfl (by simp) h.1.2 (by omega) (by simp) (by omega)
      simpa using this
  · refine ev_neg h ?_
    rw [if_neg h]
    exact Ev.now _

/-! #### impl_ShapeRank -/
theorem ShapeRank_l1 (l : List Int) (i m dt : Nat) (d : Int) (hd : rd l (i : Int) = d) (hdt : d = (dt : Int)) (h1 : 1 ≤ dt) (hdm : dt ≤ 10) (hm : m ≤ 9) (hi : i < l.length) (hmi : l.length = i + (m + 1)) (hl : l.length ≤ 10) (acc : Nat) (ha : acc ≤ 10000000000000000) (R : Int)
    (hR : Ev (fun k => impl_ShapeRank.l0 k l ((acc + TShape.ws m (dt - 1) : Nat) : Int) ((i : Int) + 1)) R) :
    ∀ (t e : Nat), e + t = dt → 1 ≤ e → Ev (fun k => impl_ShapeRank.l1 k l ((acc + TShape.ws m (e - 1) : Nat) : Int) (i : Int) (e : Int)) R := by
  intro t
  induction t with
  | zero =>
    intro e he h1
    refine ev_succ ?_
    simp only [impl_ShapeRank.l1]
    refine ev_pos (by omega) (ev_pos (by omega) (ev_neg (by omega) ?_))
    rw [w64 (by omega) (by omega)]
    have : e = dt := by omega
    rw [this]
    exact hR
  | succ t ih =>
    intro e he h1
    refine ev_succ ?_
    simp only [impl_ShapeRank.l1]
    refine ev_pos (by omega) (ev_pos (by omega) (ev_pos (by omega) ?_))
    rw [w64 (x := (l.length : Int) - (i : Int)) (by omega) (by omega), w64 (x := (l.length : Int) - (i : Int) - 1) (by omega) (by omega)]
    have e0 : (l.length : Int) - (i : Int) - 1 = (m : Int) := by omega
    rw [e0]
    refine ev_bind (ways_ev m e hm (by omega)) ?_
    have hb := TShape.ws_small (n := m) hm e (by omega)
    have e2 : TShape.ws m (e - 1 + 1) = TShape.ws m (e - 1) + TShape.wy m (e - 1 + 1) := rfl
    have e3 : e - 1 + 1 = e := by omega
    rw [e3] at e2
    have hb2 : e * 14507145975869 ≤ 20 * 14507145975869 := Nat.mul_le_mul_right _ (by omega)
    rw [w64 (x := ((acc + TShape.ws m (e - 1) : Nat) : Int) + (TShape.wy m e : Int)) (by omega) (by omega), w64 (x := (e : Int) + 1) (by omega) (by omega)]
    have := ih (e + 1) (by omega) (by omega)
    have e4 : e + 1 - 1 = e := by omega
    rw [e4, e2] at this
    have e5 : ((acc + (TShape.ws m (e - 1) + TShape.wy m e) : Nat) : Int) = ((acc + TShape.ws m (e - 1) : Nat) : Int) + (TShape.wy m e : Int) := by omega
    rw [e5] at this
    exact this
theorem ShapeRank_l0 (l : List Int) (hl : l.length ≤ 10) : ∀ (r pre : List Int) (p : Int) (acc : Nat), l = pre ++ r → 1 ≤ pre.length → rd l ((pre.length : Int) - 1) = p → 0 ≤ p → p < pre.length → acc ≤ pre.length * (20 * 14507145975869) →
    Ev (fun k => impl_ShapeRank.l0 k l (acc : Int) (pre.length : Int)) (if rowGo p r = true then ((acc + TShape.sRank (r.map Int.toNat) : Nat) : Int) else -1) := by
  intro r
  induction r with
  | nil =>
    intro pre p acc he h1 hpp h0 hp ha
    refine ev_succ ?_
    simp only [impl_ShapeRank.l0]
    have hlen : l.length = pre.length := by rw [he]; simp
    refine ev_neg (by omega) (ev_some ?_)
    simp [TShape.sRank, rowGo]
  | cons d r ih =>
    intro pre p acc he h1 hpp h0 hp ha
    refine ev_succ ?_
    simp only [impl_ShapeRank.l0]
    have hlen : l.length = pre.length + (r.length + 1) := by rw [he]; simp
    have hd : rd l (pre.length : Int) = d := by rw [he]; exact rd_app pre r d _ rfl
    rw [w64 (x := (pre.length : Int) - 1) (by omega) (by omega), hpp, w64 (x := p + 1) (by omega) (by omega), hd]
    refine ev_pos (by omega) (ev_pos (by omega) (ev_pos (by omega) (ev_pos (by omega) ?_)))
    refine ev_bindc (within_eq _ _ _) ?_
    simp only [decide_eq_true_eq]
    by_cases hg : 1 ≤ d ∧ d ≤ p + 1
    · refine ev_pos hg ?_
      have hws := TShape.ws_small (n := r.length) (by omega) (d.toNat - 1) (by omega)
      have h3 : (d.toNat - 1) * 14507145975869 ≤ 20 * 14507145975869 := Nat.mul_le_mul_right _ (by omega)
      have hpl : pre.length * (20 * 14507145975869) ≤ 10 * (20 * 14507145975869) := Nat.mul_le_mul_right _ (by omega)
      have := ih (pre ++ [d]) d (acc + TShape.ws r.length (d.toNat - 1)) (by rw [he]; simp) (by simp) (by rw [he]; simp [rd]) (by omega) (by simp; omega) (by
        rw [List.length_append, List.length_singleton, Nat.succ_mul]; omega)
      have e : ((pre ++ [d]).length : Int) = (pre.length : Int) + 1 := by simp
      rw [e] at this
      have fin := ShapeRank_l1 l pre.length r.length d.toNat d hd (by omega) (by omega) (by omega) (by omega) (by omega) (by omega) hl acc (by omega) _ this (d.toNat - 1) 1 (by omega) (Nat.le_refl _)
      simp only [Nat.sub_self, TShape.ws, Nat.add_zero] at fin
      refine ev_eq fin ?_
      simp only [rowGo, hg, and_self, decide_true, Bool.true_and]
      simp only [List.map_cons, TShape.sRank, List.length_map]
      split <;> omega
    · refine ev_neg hg (ev_some ?_)
      simp [rowGo, hg]
theorem ShapeRank_ev (l : List Int) (hl : (l.length : Int) ≤ 9223372036854775806) : Ev (fun k => impl_ShapeRank.f k l) (shRank l) := by
  simp only [impl_ShapeRank.f]
  refine ev_bindc (within_eq _ _ _) ?_
  simp only [decide_eq_true_eq]
  unfold shRank
  cases l with
  | nil =>
    refine ev_neg (by simp) (ev_succ ?_)
    simp only [impl_ShapeRank.j0]
    exact ev_pos trivial (ev_some (by simp [rowOk]))
  | cons d r =>
    by_cases h : (d :: r).length ≤ 10
    · refine ev_pos (by simp at h ⊢; omega) (ev_pos (by simp only [List.length_cons]; omega) (ev_succ ?_))
      simp only [impl_ShapeRank.j0]
      have hd : rd (d :: r) 0 = d := rfl
      rw [hd]
      by_cases hd0 : d = 0
      · refine ev_neg (by simp [hd0]) ?_
        have := ShapeRank_l0 (d :: r) h r [d] 0 0 rfl (by simp) (by rw [hd0]; rfl) (by omega) (by simp) (by omega)
        refine ev_eq this ?_
        have h2 : r.length + 1 ≤ 10 := h
        simp [rowOk, hd0, h2]
      · refine ev_pos (by simp [hd0]) (ev_some ?_)
        simp [rowOk, hd0]
    · refine ev_neg (by simp at h ⊢; omega) (ev_succ ?_)
      simp only [impl_ShapeRank.j0]
      refine ev_pos trivial (ev_some ?_)
      have h2 : ¬ r.length + 1 ≤ 10 := h
      simp [rowOk, h2]

/-! #### laws_sameInts -/
theorem sameInts_l0 (a : List Int) (hm : (a.length : Int) ≤ 9223372036854775806) : ∀ (d i : Nat), i + d = a.length → Ev (fun k => laws_sameInts.l0 k a a i) true := by
  intro d
  induction d with
  | zero =>
    intro i h
    refine ev_succ ?_
    simp only [laws_sameInts.l0]
    exact ev_neg (by omega) (Ev.now _)
  | succ d ih =>
    intro i h
    refine ev_succ ?_
    simp only [laws_sameInts.l0]
    refine ev_pos (by omega) (ev_pos (by omega) (ev_pos (by omega) (ev_pos trivial ?_)))
    rw [w64 (by omega) (by omega)]
    exact ih (i + 1) (by omega)
theorem sameInts_self (a : List Int) (hm : (a.length : Int) ≤ 9223372036854775806) : Ev (fun k => laws_sameInts.f k a a) true := by
  simp only [laws_sameInts.f]
  exact ev_pos trivial (sameInts_l0 a hm a.length 0 (by omega))

end Go.Proofs.Ytbogpdgfghpkeaa.QFnShapes
