/- The numbers and rows of tree shapes: how many there are, row by number and number by row; plain natural numbers, no condition. -/
namespace Go.Proofs.Ytbogpdgfghpkeaa.TShape

/-- how many rows of n depths there are behind the depth d -/
def wy : Nat → Nat → Nat
  | 0, _ => 1
  | n + 1, d => ((List.range (d + 1)).map fun e => wy n (e + 1)).sum

/-- the sum of the first m -/
def ws (n : Nat) : Nat → Nat
  | 0 => 0
  | m + 1 => ws n m + wy n (m + 1)

theorem ws_eq (n m : Nat) : ((List.range m).map fun e => wy n (e + 1)).sum = ws n m := by
  induction m with
  | zero => rfl
  | succ m ih => rw [List.range_succ, List.map_append, List.sum_append, ih]; simp [ws]

theorem wy_succ (n d : Nat) : wy (n + 1) d = ws n (d + 1) := by rw [wy, ws_eq]

theorem ws_mono (n : Nat) {a b : Nat} (h : a ≤ b) : ws n a ≤ ws n b := by
  induction b with
  | zero => obtain rfl : a = 0 := by omega
            exact Nat.le_refl _
  | succ b ih =>
    rcases Nat.lt_or_ge a (b + 1) with h1 | h1
    · have := ih (by omega); rw [ws]; omega
    · obtain rfl : a = b + 1 := by omega
      exact Nat.le_refl _

theorem wy_le (n : Nat) : ∀ d, wy n d ≤ (d + n) ^ n := by
  induction n with
  | zero => intro d; simp [wy]
  | succ n ih =>
    intro d
    rw [wy_succ]
    have key : ∀ m, m ≤ d + 1 → ws n m ≤ m * (d + 1 + n) ^ n := by
      intro m
      induction m with
      | zero => intro _; simp [ws]
      | succ m ihm =>
        intro hm
        have h1 := ihm (by omega)
        have h2 := ih (m + 1)
        have h3 : (m + 1 + n) ^ n ≤ (d + 1 + n) ^ n := Nat.pow_le_pow_left (by omega) n
        rw [ws, Nat.succ_mul]; omega
    have := key (d + 1) (Nat.le_refl _)
    have h5 : (d + 1) * (d + 1 + n) ^ n ≤ (d + 1 + n) * (d + 1 + n) ^ n := Nat.mul_le_mul_right _ (by omega)
    have e5 : d + (n + 1) = d + 1 + n := by omega
    rw [e5, Nat.pow_succ, Nat.mul_comm ((d + 1 + n) ^ n)]
    exact Nat.le_trans this h5

theorem wy_pos (n d : Nat) : 1 ≤ wy n d := by
  induction n generalizing d with
  | zero => simp [wy]
  | succ n ih =>
    rw [wy_succ, ws]
    have := ih (d + 1)
    omega

theorem wy_small {n d : Nat} (hn : n ≤ 9) (hd : d ≤ 20) : wy n d ≤ 14507145975869 := by
  have h := wy_le n d
  have h1 : (d + n) ^ n ≤ 29 ^ n := Nat.pow_le_pow_left (by omega) n
  have h2 : 29 ^ n ≤ 29 ^ 9 := Nat.pow_le_pow_right (by omega) hn
  have : (29 : Nat) ^ 9 = 14507145975869 := by decide
  omega

theorem ws_small {n : Nat} (hn : n ≤ 9) (m : Nat) (hm : m ≤ 20) : ws n m ≤ m * 14507145975869 := by
  induction m with
  | zero => simp [ws]
  | succ m ih =>
    have h1 := ih (by omega)
    have h2 := wy_small (n := n) (d := m + 1) hn hm
    rw [ws, Nat.succ_mul]; omega

/-- the depth that row k of those of m+1 depths begins with, from d on, and what is left of k -/
def pick (m : Nat) : Nat → Nat → Nat → Nat × Nat
  | 0, k, d => (d, k)
  | f + 1, k, d => if k < wy m d then (d, k) else pick m f (k - wy m d) (d + 1)

/-- row k of m depths behind D -/
def sAt : Nat → Nat → Nat → List Nat
  | 0, _, _ => []
  | m + 1, D, k => (pick m (D + 1) k 1).1 :: sAt m (pick m (D + 1) k 1).1 (pick m (D + 1) k 1).2

/-- the row's number -/
def sRank : List Nat → Nat
  | [] => 0
  | d :: l => ws l.length (d - 1) + sRank l

/-- the row may stand behind D -/
def sOk : Nat → List Nat → Prop
  | _, [] => True
  | D, d :: l => 1 ≤ d ∧ d ≤ D + 1 ∧ sOk d l

theorem pick_spec (m : Nat) : ∀ f k d, 1 ≤ d → ws m (d - 1) + k < ws m (d - 1 + f) →
    d ≤ (pick m f k d).1 ∧ (pick m f k d).1 ≤ d - 1 + f ∧ (pick m f k d).2 < wy m (pick m f k d).1 ∧
      ws m ((pick m f k d).1 - 1) + (pick m f k d).2 = ws m (d - 1) + k := by
  intro f
  induction f with
  | zero => intro k d h0 h; simp at h; omega
  | succ f ih =>
    intro k d h0 h
    rw [pick]
    by_cases hk : k < wy m d
    · rw [if_pos hk]; exact ⟨Nat.le_refl _, by simp; omega, hk, rfl⟩
    · rw [if_neg hk]
      have e : ws m (d - 1 + 1) = ws m (d - 1) + wy m (d - 1 + 1) := rfl
      have e1 : d - 1 + 1 = d := by omega
      rw [e1] at e
      have e2 : d + 1 - 1 = d := by omega
      have e3 : d + f = d - 1 + (f + 1) := by omega
      obtain ⟨h1, h2, h3, h4⟩ := ih (k - wy m d) (d + 1) (by omega) (by rw [e2, e, e3]; omega)
      refine ⟨by omega, by omega, h3, ?_⟩
      rw [h4, e2, e]; omega

theorem sAt_spec : ∀ m D k, k < wy m D → (sAt m D k).length = m ∧ sOk D (sAt m D k) ∧ sRank (sAt m D k) = k := by
  intro m
  induction m with
  | zero => intro D k h; simp [wy] at h; subst h; exact ⟨rfl, trivial, rfl⟩
  | succ m ih =>
    intro D k h
    rw [wy_succ] at h
    obtain ⟨h1, h2, h3, h4⟩ := pick_spec m (D + 1) k 1 (Nat.le_refl _) (by simpa [ws] using h)
    obtain ⟨i1, i2, i3⟩ := ih _ _ h3
    refine ⟨by simp [sAt, i1], ⟨h1, by omega, i2⟩, ?_⟩
    rw [sAt, sRank, i1, i3, h4]
    simp [ws]

theorem sRank_lt : ∀ (l : List Nat) D, sOk D l → sRank l < wy l.length D := by
  intro l
  induction l with
  | nil => intro D _; simp [sRank, wy]
  | cons d l ih =>
    intro D h
    obtain ⟨h1, h2, h3⟩ := h
    have i := ih d h3
    rw [List.length_cons, wy_succ, sRank]
    have e : ws l.length (d - 1 + 1) = ws l.length (d - 1) + wy l.length (d - 1 + 1) := rfl
    have e1 : d - 1 + 1 = d := by omega
    rw [e1] at e
    have := ws_mono l.length (a := d) (b := D + 1) (by omega)
    omega

theorem pick_of (m : Nat) : ∀ f d x r, 1 ≤ d → d ≤ x → x ≤ d - 1 + f → r < wy m x → pick m f (ws m (x - 1) - ws m (d - 1) + r) d = (x, r) := by
  intro f
  induction f with
  | zero => intro d x r h0 h1 h2; omega
  | succ f ih =>
    intro d x r h0 h1 h2 hr
    rw [pick]
    by_cases he : x = d
    · subst he
      rw [if_pos (by omega)]; simp
    · have e : ws m (d - 1 + 1) = ws m (d - 1) + wy m (d - 1 + 1) := rfl
      have e1 : d - 1 + 1 = d := by omega
      rw [e1] at e
      have h5 := ws_mono m (a := d) (b := x - 1) (by omega)
      rw [if_neg (by omega)]
      have := ih (d + 1) x r (by omega) (by omega) (by omega) hr
      have e2 : d + 1 - 1 = d := by omega
      rw [e2] at this
      rw [← this]
      congr 1
      omega

theorem sAt_rank : ∀ (l : List Nat) D, sOk D l → sAt l.length D (sRank l) = l := by
  intro l
  induction l with
  | nil => intro D _; rfl
  | cons d l ih =>
    intro D h
    obtain ⟨h1, h2, h3⟩ := h
    have hr := sRank_lt l d h3
    have hp := pick_of l.length (D + 1) 1 d (sRank l) (Nat.le_refl _) h1 (by omega) hr
    have e : ws l.length (d - 1) - ws l.length (1 - 1) + sRank l = sRank (d :: l) := by simp [sRank, ws]
    rw [e] at hp
    rw [List.length_cons, sAt, hp, ih d h3]

/-- one row stands ahead of another one: they part first at a lesser depth -/
def less : List Nat → List Nat → Prop
  | a :: l, b :: m => a < b ∨ (a = b ∧ less l m)
  | _, _ => False

/-- the greater number's row is the greater one -/
theorem less_of_rank : ∀ (l m : List Nat) D, l.length = m.length → sOk D l → sOk D m → sRank l < sRank m → less l m := by
  intro l
  induction l with
  | nil => intro m D hl _ _ h; cases m with
    | nil => simp [sRank] at h
    | cons => simp at hl
  | cons a l ih =>
    intro m D hl h1 h2 h
    cases m with
    | nil => simp at hl
    | cons b m =>
      obtain ⟨a1, a2, a3⟩ := h1
      obtain ⟨b1, b2, b3⟩ := h2
      have hl' : l.length = m.length := by simpa using hl
      rcases Nat.lt_trichotomy a b with hab | hab | hab
      · exact .inl hab
      · subst hab
        refine .inr ⟨rfl, ih m a hl' a3 b3 ?_⟩
        simp only [sRank, hl'] at h; omega
      · exfalso
        have hm := sRank_lt m b b3
        simp only [sRank, hl'] at h
        have e : ws m.length (b - 1 + 1) = ws m.length (b - 1) + wy m.length (b - 1 + 1) := rfl
        have e1 : b - 1 + 1 = b := by omega
        rw [e1] at e
        have := ws_mono m.length (a := b) (b := a - 1) (by omega)
        omega

end Go.Proofs.Ytbogpdgfghpkeaa.TShape
