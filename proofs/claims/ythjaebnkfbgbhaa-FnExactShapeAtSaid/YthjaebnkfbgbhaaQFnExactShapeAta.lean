/- What the printed functions of the law FnExactShapeAt come to, function by function, from some number of rounds on; each under the bounds that it names. -/
import Derived.Test.YthjaebnkfbgbhaaPFnExactShapeAtx
import Derived.Test.YthjaebnkfbgbhaaEvAid
import Derived.Test.YthjaebnkfbgbhaaTShape
namespace Go.Proofs.Ythjaebnkfbgbhaa.QFnExactShapeAt
open Go.RowKit Go.Proofs.Ythjaebnkfbgbhaa.PFnExactShapeAt Go.Proofs.YthjaebnkfbgbhaaW.PrintWords Go.Proofs.YthjaebnkfbgbhaaW.PrintLast Go.Proofs.YthjaebnkfbgbhaaW.PrintMore Go.Proofs.Ythjaebnkfbgbhaa.EvAid Go.Proofs.Ythjaebnkfbgbhaa
set_option linter.unusedVariables false
set_option linter.unusedSimpArgs false

/-! #### laws_eqIntS -/
theorem eqIntS_l0 (a : List Int) (hm : (a.length : Int) ≤ 9223372036854775806) : ∀ (d i : Nat), i + d = a.length → Ev (fun k => laws_eqIntS.l0 k a a i) true := by
  intro d
  induction d with
  | zero =>
    intro i h
    refine ev_succ ?_
    simp only [laws_eqIntS.l0]
    exact ev_neg (by omega) (Ev.now _)
  | succ d ih =>
    intro i h
    refine ev_succ ?_
    simp only [laws_eqIntS.l0]
    refine ev_pos (by omega) (ev_pos (by omega) (ev_pos (by omega) (ev_pos trivial ?_)))
    rw [w64 (by omega) (by omega)]
    exact ih (i + 1) (by omega)

theorem eqIntS_ev (a : List Int) (hm : (a.length : Int) ≤ 9223372036854775806) : Ev (fun k => laws_eqIntS.f k a a) true := by
  simp only [laws_eqIntS.f]
  exact ev_pos trivial (eqIntS_l0 a hm a.length 0 (by omega))

/-! #### laws_markIntS -/
/-- a, a + 1, ..: n of them -/
def seqI (a : Int) (n : Nat) : List Int := (List.range n).map fun (j : Nat) => a + (j : Int)
theorem seqI_length (a : Int) (n : Nat) : (seqI a n).length = n := by simp [seqI]
theorem seqI_succ (a : Int) (n : Nat) : seqI a (n + 1) = seqI a n ++ [a + (n : Int)] := by simp [seqI, List.range_succ]
theorem seqI_rd (a : Int) (n i : Nat) (h : i < n) : rd (seqI a n) i = a + (i : Int) := by simp [rd, seqI, h]

theorem markIntS_l0 (l : List Int) (a : Int) (h0 : 0 ≤ a) (hm : a + l.length ≤ 9223372036854775806) : ∀ (d i : Nat), i + d = l.length → Ev (fun k => laws_markIntS.l0 k (seqI a i ++ l.drop i) (a + i) i) (a + l.length, seqI a l.length) := by
  intro d
  induction d with
  | zero =>
    intro i h
    refine ev_succ ?_
    simp only [laws_markIntS.l0]
    have e : i = l.length := by omega
    subst e
    refine ev_neg (by rw [List.length_append, seqI_length, List.length_drop]; omega) (ev_some ?_)
    rw [List.drop_length, List.append_nil]
  | succ d ih =>
    intro i h
    refine ev_succ ?_
    simp only [laws_markIntS.l0]
    refine ev_pos (by rw [List.length_append, seqI_length, List.length_drop]; omega) (ev_pos (by omega) ?_)
    rw [w64 (by omega) (by omega), w64 (by omega) (by omega)]
    have hi : i < l.length := by omega
    have e1 : (seqI a i ++ l.drop i).set ((i : Int)).toNat (a + i) = seqI a (i + 1) ++ l.drop (i + 1) := by
      rw [Int.toNat_natCast, List.set_append_right _ _ (by rw [seqI_length]; omega), seqI_length, Nat.sub_self, List.drop_eq_getElem_cons hi, List.set_cons_zero, seqI_succ, List.append_assoc]
      rfl
    rw [e1]
    have e2 : a + (i : Int) + 1 = a + ((i + 1 : Nat) : Int) := by omega
    rw [e2]
    exact ih (i + 1) (by omega)

theorem markIntS_ev (l : List Int) (a : Int) (h0 : 0 ≤ a) (hm : a + l.length ≤ 9223372036854775806) : Ev (fun k => laws_markIntS.f k l a) (a + l.length, seqI a l.length) := by
  simp only [laws_markIntS.f]
  have := markIntS_l0 l a h0 hm l.length 0 (by omega)
  simpa [seqI] using this

/-! #### laws_heldIntS -/
theorem heldIntS_l0 (a : Int) (n : Nat) (h0 : 0 ≤ a) (hm : a + n ≤ 9223372036854775806) : ∀ (d i : Nat), i + d = n → Ev (fun k => laws_heldIntS.l0 k (seqI a n) (a + i) i) (a + n) := by
  intro d
  induction d with
  | zero =>
    intro i h
    refine ev_succ ?_
    simp only [laws_heldIntS.l0]
    refine ev_neg (by rw [seqI_length]; omega) (ev_some (by omega))
  | succ d ih =>
    intro i h
    refine ev_succ ?_
    simp only [laws_heldIntS.l0]
    refine ev_pos (by rw [seqI_length]; omega) (ev_pos (by omega) (ev_pos (seqI_rd a n i (by omega)) ?_))
    rw [w64 (by omega) (by omega), w64 (by omega) (by omega)]
    have e2 : a + (i : Int) + 1 = a + ((i + 1 : Nat) : Int) := by omega
    rw [e2]
    exact ih (i + 1) (by omega)

theorem heldIntS_ev (a : Int) (n : Nat) (h0 : 0 ≤ a) (hm : a + n ≤ 9223372036854775806) : Ev (fun k => laws_heldIntS.f k (seqI a n) a) (a + n) := by
  simp only [laws_heldIntS.f]
  have := heldIntS_l0 a n h0 hm n 0 (by omega)
  simpa using this

/-! #### spec_l1In -/
theorem l1In_eq (a b c : Int) : spec_l1In.f a b c = some (decide (b ≤ a ∧ a ≤ c)) := by
  unfold spec_l1In.f
  by_cases h : a ≥ b
  · rw [if_pos h]; have h' : b ≤ a := h; simp [h']
  · rw [if_neg h]; have h' : ¬ b ≤ a := h; simp [h']

/-! #### spec_l21Ways -/
theorem l21Ways_ev : ∀ (n d : Nat), n ≤ 9 → d + n ≤ 19 → Ev (fun k => spec_l21Ways.f k (d : Int) (n : Int)) (TShape.wy n d : Int) := by
  intro n
  induction n with
  | zero =>
    intro d _ _
    refine ev_succ ?_
    simp only [spec_l21Ways.f]
    exact ev_pos rfl (Ev.now _)
  | succ n ih =>
    intro d hn hd
    have loop : ∀ (t e : Nat), e + t = d + 2 → 1 ≤ e → Ev (fun k => spec_l21Ways.l0 k (d : Int) ((n + 1 : Nat) : Int) (TShape.ws n (e - 1) : Int) (e : Int)) (TShape.ws n (d + 1) : Int) := by
      intro t
      induction t with
      | zero =>
        intro e he h1
        refine ev_succ ?_
        simp only [spec_l21Ways.l0]
        rw [w64 (by omega) (by omega)]
        refine ev_neg (by omega) (ev_some ?_)
        have : e - 1 = d + 1 := by omega
        rw [this]
      | succ t iht =>
        intro e he h1
        refine ev_succ ?_
        simp only [spec_l21Ways.l0]
        rw [w64 (x := (d : Int) + 1) (by omega) (by omega)]
        refine ev_pos (by omega) ?_
        rw [w64 (x := ((n + 1 : Nat) : Int) - 1) (by omega) (by omega)]
        have e1 : ((n + 1 : Nat) : Int) - 1 = (n : Int) := by omega
        rw [e1]
        refine ev_bind (ih e (by omega) (by omega)) ?_
        have hb := TShape.ws_small (n := n) (by omega) e (by omega)
        have e2 : TShape.ws n (e - 1 + 1) = TShape.ws n (e - 1) + TShape.wy n (e - 1 + 1) := rfl
        have e3 : e - 1 + 1 = e := by omega
        rw [e3] at e2
        rw [w64 (x := (TShape.ws n (e - 1) : Int) + (TShape.wy n e : Int)) (by omega) (by omega), w64 (x := (e : Int) + 1) (by omega) (by omega)]
        have := iht (e + 1) (by omega) (by omega)
        have e4 : e + 1 - 1 = e := by omega
        rw [e4, e2] at this
        have e5 : ((TShape.ws n (e - 1) + TShape.wy n e : Nat) : Int) = (TShape.ws n (e - 1) : Int) + (TShape.wy n e : Int) := by omega
        rw [e5] at this
        exact this
    refine ev_succ ?_
    simp only [spec_l21Ways.f]
    refine ev_neg (by omega) ?_
    rw [TShape.wy_succ]
    exact loop (d + 1) 1 (by omega) (by omega)

/-! #### impl_within -/
theorem within_eq (a b c : Int) : impl_within.f a b c = some (decide (b ≤ a ∧ a ≤ c)) := by
  unfold impl_within.f
  by_cases h : b ≤ a
  · rw [if_pos h]; simp [h]
  · rw [if_neg h]; simp [h]

/-! #### impl_ways -/
theorem ways_ev : ∀ (n d : Nat), n ≤ 9 → d + n ≤ 19 → Ev (fun k => impl_ways.f k (n : Int) (d : Int)) (TShape.wy n d : Int) := by
  intro n
  induction n with
  | zero =>
    intro d _ _
    refine ev_succ ?_
    simp only [impl_ways.f]
    exact ev_pos rfl (Ev.now _)
  | succ n ih =>
    intro d hn hd
    have loop : ∀ (t e : Nat), e + t = d + 2 → 1 ≤ e → Ev (fun k => impl_ways.l0 k ((n + 1 : Nat) : Int) (d : Int) (TShape.ws n (e - 1) : Int) (e : Int)) (TShape.ws n (d + 1) : Int) := by
      intro t
      induction t with
      | zero =>
        intro e he h1
        refine ev_succ ?_
        simp only [impl_ways.l0]
        rw [w64 (by omega) (by omega)]
        refine ev_neg (by omega) (ev_some ?_)
        have : e - 1 = d + 1 := by omega
        rw [this]
      | succ t iht =>
        intro e he h1
        refine ev_succ ?_
        simp only [impl_ways.l0]
        rw [w64 (x := (d : Int) + 1) (by omega) (by omega)]
        refine ev_pos (by omega) ?_
        rw [w64 (x := ((n + 1 : Nat) : Int) - 1) (by omega) (by omega)]
        have e1 : ((n + 1 : Nat) : Int) - 1 = (n : Int) := by omega
        rw [e1]
        refine ev_bind (ih e (by omega) (by omega)) ?_
        have hb := TShape.ws_small (n := n) (by omega) e (by omega)
        have e2 : TShape.ws n (e - 1 + 1) = TShape.ws n (e - 1) + TShape.wy n (e - 1 + 1) := rfl
        have e3 : e - 1 + 1 = e := by omega
        rw [e3] at e2
        rw [w64 (x := (TShape.ws n (e - 1) : Int) + (TShape.wy n e : Int)) (by omega) (by omega), w64 (x := (e : Int) + 1) (by omega) (by omega)]
        have := iht (e + 1) (by omega) (by omega)
        have e4 : e + 1 - 1 = e := by omega
        rw [e4, e2] at this
        have e5 : ((TShape.ws n (e - 1) + TShape.wy n e : Nat) : Int) = (TShape.ws n (e - 1) : Int) + (TShape.wy n e : Int) := by omega
        rw [e5] at this
        exact this
    refine ev_succ ?_
    simp only [impl_ways.f]
    refine ev_neg (by omega) ?_
    rw [TShape.wy_succ]
    exact loop (d + 1) 1 (by omega) (by omega)

/-! #### impl_ShapeCount -/
/-- how many shapes of n nodes there are -/
def shCount (n : Int) : Nat := if 1 ≤ n ∧ n ≤ 10 then TShape.wy (n - 1).toNat 0 else 0
theorem shCount_le (n : Int) : shCount n ≤ 14507145975869 := by
  unfold shCount
  split
  · exact TShape.wy_small (by omega) (by omega)
  · omega
theorem ShapeCount_ev (n : Int) : Ev (fun k => impl_ShapeCount.f k n) (shCount n : Int) := by
  simp only [impl_ShapeCount.f, within_eq, Option.bind_some, decide_eq_true_eq]
  unfold shCount
  by_cases h : 1 ≤ n ∧ n ≤ 10
  · refine ev_pos h ?_
    rw [if_pos h, w64 (x := n - 1) (by omega) (by omega)]
    have := ways_ev (n - 1).toNat 0 (by omega) (by omega)
    rw [Int.toNat_of_nonneg (by omega)] at this
    exact ev_bind this (Ev.now _)
  · refine ev_neg h ?_
    rw [if_neg h]
    exact Ev.now _

/-! #### spec_ShapeCount -/
theorem spec_ShapeCount_ev (n : Int) : Ev (fun k => spec_ShapeCount.f k n) (shCount n : Int) := by
  simp only [spec_ShapeCount.f, l1In_eq, Option.bind_some, decide_eq_true_eq]
  unfold shCount
  by_cases h : 1 ≤ n ∧ n ≤ 10
  · refine ev_pos h ?_
    rw [if_pos h, w64 (x := n - 1) (by omega) (by omega)]
    have := l21Ways_ev (n - 1).toNat 0 (by omega) (by omega)
    rw [Int.toNat_of_nonneg (by omega)] at this
    exact ev_bind this (Ev.now _)
  · refine ev_neg h ?_
    rw [if_neg h]
    exact Ev.now _

/-! #### impl_ShapeAt -/
/-- row k of the shapes of n nodes -/
def shAt (n k : Int) : List Int := if 0 ≤ k ∧ k ≤ (shCount n : Int) - 1 then 0 :: (TShape.sAt (n - 1).toNat 0 k.toNat).map Int.ofNat else []
theorem ShapeAt_l1 (n : Nat) (m D : Nat) (hm : m ≤ 9) (hD : D + m ≤ 10) (out : List Int) (ho : out.length + (m + 1) = n) (hn : n ≤ 10)
    (ih : ∀ (D kk : Nat) (out : List Int), out.length + m = n → kk < TShape.wy m D → D + m ≤ 11 → Ev (fun k => impl_ShapeAt.l0 k (n : Int) (kk : Int) out) (out ++ (TShape.sAt m D kk).map Int.ofNat)) :
    ∀ (f e kk : Nat), 1 ≤ e → e - 1 + f = D + 1 → TShape.ws m (e - 1) + kk < TShape.ws m (D + 1) →
      Ev (fun k => impl_ShapeAt.l1 k (n : Int) (kk : Int) out (e : Int) (m : Int)) (out ++ ((TShape.pick m f kk e).1 :: TShape.sAt m (TShape.pick m f kk e).1 (TShape.pick m f kk e).2).map Int.ofNat) := by
  intro f
  induction f with
  | zero => intro e kk h1 h2 h3; have : e - 1 = D + 1 := by omega
            rw [this] at h3; omega
  | succ f ihf =>
    intro e kk h1 h2 h3
    refine ev_succ ?_
    simp only [impl_ShapeAt.l1]
    refine ev_bind (ways_ev m e hm (by omega)) ?_
    rw [TShape.pick]
    by_cases hk : kk < TShape.wy m e
    · refine ev_neg (by omega) ?_
      rw [if_pos hk]
      refine ev_pos (by omega) ?_
      have := ih e kk (out ++ [(e : Int)]) (by rw [List.length_append, List.length_singleton]; omega) hk (by omega)
      rw [List.append_assoc] at this
      exact this
    · refine ev_pos (by omega) ?_
      rw [if_neg hk]
      refine ev_bind (ways_ev m e hm (by omega)) ?_
      have hb := TShape.wy_small (n := m) (d := e) hm (by omega)
      have hb2 := TShape.ws_small (n := m) hm (D + 1) (by omega)
      rw [w64 (x := (kk : Int) - (TShape.wy m e : Int)) (by omega) (by omega), w64 (x := (e : Int) + 1) (by omega) (by omega)]
      have e1 : (kk : Int) - (TShape.wy m e : Int) = ((kk - TShape.wy m e : Nat) : Int) := by omega
      rw [e1]
      have e2 : TShape.ws m (e - 1 + 1) = TShape.ws m (e - 1) + TShape.wy m (e - 1 + 1) := rfl
      have e3 : e - 1 + 1 = e := by omega
      rw [e3] at e2
      have e4 : e + 1 - 1 = e := by omega
      exact ihf (e + 1) (kk - TShape.wy m e) (by omega) (by omega) (by rw [e4, e2]; omega)
theorem ShapeAt_l0 (n : Nat) (hn : n ≤ 10) : ∀ (m D kk : Nat) (out : List Int), out.length + m = n → kk < TShape.wy m D → D + m ≤ 11 → 1 ≤ out.length → Ev (fun k => impl_ShapeAt.l0 k (n : Int) (kk : Int) out) (out ++ (TShape.sAt m D kk).map Int.ofNat) := by
  intro m
  induction m with
  | zero =>
    intro D kk out ho hk hD h1
    refine ev_succ ?_
    simp only [impl_ShapeAt.l0]
    refine ev_neg (by omega) (ev_some ?_)
    simp [TShape.sAt]
  | succ m ih =>
    intro D kk out ho hk hD h1
    refine ev_succ ?_
    simp only [impl_ShapeAt.l0]
    refine ev_pos (by omega) ?_
    rw [w64 (x := (n : Int) - (out.length : Int)) (by omega) (by omega), w64 (by omega) (by omega)]
    have e1 : (n : Int) - (out.length : Int) - 1 = (m : Int) := by omega
    rw [e1]
    rw [TShape.wy_succ] at hk
    exact ShapeAt_l1 n m D (by omega) (by omega) out (by omega) hn (fun D' kk' out' a b c => by
      by_cases h0 : 1 ≤ out'.length
      · exact ih D' kk' out' a b c h0
      · omega) (D + 1) 1 kk (Nat.le_refl _) (by omega) (by simpa [TShape.ws] using hk)
theorem ShapeAt_ev (n k' : Int) : Ev (fun k => impl_ShapeAt.f k n k') (shAt n k') := by
  simp only [impl_ShapeAt.f]
  refine ev_bind (ShapeCount_ev n) ?_
  have hc := shCount_le n
  rw [w64 (by omega) (by omega)]
  refine ev_bindc (within_eq _ _ _) ?_
  simp only [decide_eq_true_eq]
  unfold shAt
  by_cases h : 0 ≤ k' ∧ k' ≤ (shCount n : Int) - 1
  · refine ev_pos h ?_
    rw [if_pos h]
    have hn : 1 ≤ n ∧ n ≤ 10 := by
      by_cases h2 : 1 ≤ n ∧ n ≤ 10
      · exact h2
      · exfalso; unfold shCount at h; rw [if_neg h2] at h; omega
    have hs : shCount n = TShape.wy (n - 1).toNat 0 := by unfold shCount; rw [if_pos hn]
    have := ShapeAt_l0 n.toNat (by omega) (n - 1).toNat 0 k'.toNat [0] (by simp; omega) (by rw [← hs]; omega) (by omega) (by simp)
    rw [Int.toNat_of_nonneg (by omega), Int.toNat_of_nonneg (by omega)] at this
    exact this
  · refine ev_neg h ?_
    rw [if_neg h]
    exact Ev.now _

/-! #### spec_ShapeAt -/
theorem spec_ShapeAt_l1 (n : Nat) (m D : Nat) (hm : m ≤ 9) (hD : D + m ≤ 10) (out : List Int) (ho : out.length + (m + 1) = n) (hn : n ≤ 10)
    (ih : ∀ (D kk : Nat) (out : List Int), out.length + m = n → kk < TShape.wy m D → D + m ≤ 11 → Ev (fun k => spec_ShapeAt.l0 k (n : Int) (kk : Int) out) (out ++ (TShape.sAt m D kk).map Int.ofNat)) :
    ∀ (f e kk : Nat), 1 ≤ e → e - 1 + f = D + 1 → TShape.ws m (e - 1) + kk < TShape.ws m (D + 1) →
      Ev (fun k => spec_ShapeAt.l1 k (n : Int) (kk : Int) out (e : Int)) (out ++ ((TShape.pick m f kk e).1 :: TShape.sAt m (TShape.pick m f kk e).1 (TShape.pick m f kk e).2).map Int.ofNat) := by
  intro f
  induction f with
  | zero => intro e kk h1 h2 h3; have : e - 1 = D + 1 := by omega
            rw [this] at h3; omega
  | succ f ihf =>
    intro e kk h1 h2 h3
    refine ev_succ ?_
    simp only [spec_ShapeAt.l1]
    have e0 : (n : Int) - (out.length : Int) - 1 = (m : Int) := by omega
    rw [w64 (x := (n : Int) - (out.length : Int)) (by omega) (by omega), w64 (x := (n : Int) - (out.length : Int) - 1) (by omega) (by omega), e0]
    refine ev_bind (l21Ways_ev m e hm (by omega)) ?_
    rw [TShape.pick]
    by_cases hk : kk < TShape.wy m e
    · refine ev_neg (by omega) ?_
      rw [if_pos hk]
      refine ev_pos (by omega) ?_
      have := ih e kk (out ++ [(e : Int)]) (by rw [List.length_append, List.length_singleton]; omega) hk (by omega)
      rw [List.append_assoc] at this
      exact this
    · refine ev_pos (by omega) ?_
      rw [if_neg hk]
      refine ev_bind (l21Ways_ev m e hm (by omega)) ?_
      have hb := TShape.wy_small (n := m) (d := e) hm (by omega)
      have hb2 := TShape.ws_small (n := m) hm (D + 1) (by omega)
      rw [w64 (x := (kk : Int) - (TShape.wy m e : Int)) (by omega) (by omega), w64 (x := (e : Int) + 1) (by omega) (by omega)]
      have e1 : (kk : Int) - (TShape.wy m e : Int) = ((kk - TShape.wy m e : Nat) : Int) := by omega
      rw [e1]
      have e2 : TShape.ws m (e - 1 + 1) = TShape.ws m (e - 1) + TShape.wy m (e - 1 + 1) := rfl
      have e3 : e - 1 + 1 = e := by omega
      rw [e3] at e2
      have e4 : e + 1 - 1 = e := by omega
      exact ihf (e + 1) (kk - TShape.wy m e) (by omega) (by omega) (by rw [e4, e2]; omega)
theorem spec_ShapeAt_l0 (n : Nat) (hn : n ≤ 10) : ∀ (m D kk : Nat) (out : List Int), out.length + m = n → kk < TShape.wy m D → D + m ≤ 11 → 1 ≤ out.length → Ev (fun k => spec_ShapeAt.l0 k (n : Int) (kk : Int) out) (out ++ (TShape.sAt m D kk).map Int.ofNat) := by
  intro m
  induction m with
  | zero =>
    intro D kk out ho hk hD h1
    refine ev_succ ?_
    simp only [spec_ShapeAt.l0]
    refine ev_neg (by omega) (ev_some ?_)
    simp [TShape.sAt]
  | succ m ih =>
    intro D kk out ho hk hD h1
    refine ev_succ ?_
    simp only [spec_ShapeAt.l0]
    refine ev_pos (by omega) ?_
    rw [TShape.wy_succ] at hk
    exact spec_ShapeAt_l1 n m D (by omega) (by omega) out (by omega) hn (fun D' kk' out' a b c => by
      by_cases h0 : 1 ≤ out'.length
      · exact ih D' kk' out' a b c h0
      · omega) (D + 1) 1 kk (Nat.le_refl _) (by omega) (by simpa [TShape.ws] using hk)
theorem spec_ShapeAt_ev (n k' : Int) : Ev (fun k => spec_ShapeAt.f k n k') (shAt n k') := by
  simp only [spec_ShapeAt.f]
  refine ev_bind (spec_ShapeCount_ev n) ?_
  have hc := shCount_le n
  rw [w64 (by omega) (by omega)]
  refine ev_bindc (l1In_eq _ _ _) ?_
  simp only [decide_eq_true_eq]
  unfold shAt
  by_cases h : 0 ≤ k' ∧ k' ≤ (shCount n : Int) - 1
  · refine ev_pos h ?_
    rw [if_pos h]
    have hn : 1 ≤ n ∧ n ≤ 10 := by
      by_cases h2 : 1 ≤ n ∧ n ≤ 10
      · exact h2
      · exfalso; unfold shCount at h; rw [if_neg h2] at h; omega
    have hs : shCount n = TShape.wy (n - 1).toNat 0 := by unfold shCount; rw [if_pos hn]
    have := spec_ShapeAt_l0 n.toNat (by omega) (n - 1).toNat 0 k'.toNat [0] (by simp; omega) (by rw [← hs]; omega) (by omega) (by simp)
    rw [Int.toNat_of_nonneg (by omega), Int.toNat_of_nonneg (by omega)] at this
    exact this
  · refine ev_neg h ?_
    rw [if_neg h]
    exact Ev.now _

end Go.Proofs.Ythjaebnkfbgbhaa.QFnExactShapeAt
