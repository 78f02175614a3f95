/- Numbers in the form of bytes of seven bits, the lowest first: which bytes are a number's; a law over lists of bytes alone. -/
import Derived.Laws.BitsLemmas
import Derived.Laws.BytesArg
namespace Go.Proofs.Ytbiffnahknkoiaa.VarN
open Go
set_option linter.unusedVariables false

/-- the byte at j, as a number -/
def at' (m : List UInt8) (j : Nat) : Nat := (m.getD j 0).toNat
theorem byte_lt (m : List UInt8) (j : Nat) : at' m j < 256 := (m.getD j 0).toNat_lt
theorem byte_get (m : List UInt8) (j : Nat) (h : j < m.length) : at' m j = m[j].toNat := by unfold at'; simp [h]
/-- what bytes say -/
def decV : List UInt8 → Nat
  | [] => 0
  | b :: r => b.toNat % 128 + 128 * decV r
/-- a number's bytes -/
def encV (n : Nat) : List UInt8 := if n < 128 then [UInt8.ofNat n] else UInt8.ofNat (128 + n % 128) :: encV (n / 128)
termination_by n
decreasing_by omega
/-- bytes that are a number's -/
def gV (m : List UInt8) : Prop := 0 < m.length ∧ (∀ j, j + 1 < m.length → 128 ≤ at' m j) ∧ at' m (m.length - 1) < 128 ∧ (m.length = 1 ∨ at' m (m.length - 1) ≠ 0)
theorem ofNat_toNat (n : Nat) (h : n < 256) : (UInt8.ofNat n).toNat = n := by simp; omega
theorem encV_good : ∀ n : Nat, gV (encV n) ∧ (1 ≤ n → at' (encV n) ((encV n).length - 1) ≠ 0) := by
  intro n
  induction n using Nat.strongRecOn with
  | ind n ih =>
    rw [encV]
    by_cases h : n < 128
    · rw [if_pos h]
      have e := ofNat_toNat n (by omega)
      refine ⟨⟨by simp, fun j hj => by simp at hj, ?_, .inl rfl⟩, fun h1 => ?_⟩
      · show (UInt8.ofNat n).toNat < 128
        omega
      · show (UInt8.ofNat n).toNat ≠ 0
        omega
    · rw [if_neg h]
      obtain ⟨⟨i1, i2, i3, i4⟩, i5⟩ := ih (n / 128) (by omega)
      have i6 := i5 (by omega)
      generalize encV (n / 128) = r at *
      have e := ofNat_toNat (128 + n % 128) (by omega)
      have hl : at' (UInt8.ofNat (128 + n % 128) :: r) (r.length + 1 - 1) = at' r (r.length - 1) := by
        obtain ⟨m, hm⟩ : ∃ m, r.length = m + 1 := ⟨r.length - 1, by omega⟩
        rw [hm]
        rfl
      refine ⟨⟨by simp, ?_, ?_, .inr ?_⟩, fun _ => ?_⟩
      · intro j hj
        cases j with
        | zero => show 128 ≤ (UInt8.ofNat (128 + n % 128)).toNat; omega
        | succ j => exact i2 j (by simp at hj; omega)
      · rw [List.length_cons, hl]; exact i3
      · rw [List.length_cons, hl]; exact i6
      · rw [List.length_cons, hl]; exact i6
theorem dec_tail : ∀ m : List UInt8, 0 < m.length → at' m (m.length - 1) < 128 → at' m (m.length - 1) ≠ 0 → (∀ j, j + 1 < m.length → 128 ≤ at' m j) → 1 ≤ decV m ∧ encV (decV m) = m := by
  intro m
  induction m with
  | nil => intro h; simp at h
  | cons b r ih =>
    intro _ h1 h2 h3
    by_cases hr : r = []
    · subst hr
      have h1' : b.toNat < 128 := h1
      have h2' : b.toNat ≠ 0 := h2
      have e : decV [b] = b.toNat := by simp [decV]; omega
      rw [e, encV, if_pos h1']
      exact ⟨by omega, by simp⟩
    · obtain ⟨m, hm⟩ : ∃ m, r.length = m + 1 := ⟨r.length - 1, by have := List.length_pos_iff.2 hr; omega⟩
      have hl : at' (b :: r) (r.length + 1 - 1) = at' r (r.length - 1) := by rw [hm]; rfl
      rw [List.length_cons, hl] at h1 h2
      obtain ⟨i1, i2⟩ := ih (by omega) h1 h2 (fun j hj => h3 (j + 1) (by rw [List.length_cons]; omega))
      have hb : 128 ≤ b.toNat := h3 0 (by rw [List.length_cons]; omega)
      have hb2 : b.toNat < 256 := b.toNat_lt
      have e : decV (b :: r) = b.toNat % 128 + 128 * decV r := rfl
      refine ⟨by omega, ?_⟩
      rw [e, encV, if_neg (by omega)]
      have e1 : (b.toNat % 128 + 128 * decV r) / 128 = decV r := by omega
      have e2 : 128 + (b.toNat % 128 + 128 * decV r) % 128 = b.toNat := by omega
      rw [e1, e2, i2]
      simp
theorem encV_iff (m : List UInt8) : encV (decV m) = m ↔ gV m := by
  constructor
  · intro h
    rw [← h]
    exact (encV_good _).1
  · rintro ⟨h0, h1, h2, h3⟩
    rcases h3 with h3 | h3
    · obtain ⟨b, rfl⟩ : ∃ b, m = [b] := by
        cases m with
        | nil => simp at h3
        | cons b r => exact ⟨b, by simp at h3; rw [h3]⟩
      have h2' : b.toNat < 128 := h2
      have e : decV [b] = b.toNat := by simp [decV]; omega
      rw [e, encV, if_pos h2']
      simp
    · exact (dec_tail m h0 h2 h3 h1).2
theorem decV_lt : ∀ m : List UInt8, decV m < 128 ^ m.length := by
  intro m
  induction m with
  | nil => simp [decV]
  | cons b r ih =>
    rw [decV, List.length_cons, Nat.pow_succ]
    have : b.toNat % 128 < 128 := Nat.mod_lt _ (by decide)
    omega
theorem decV_snoc : ∀ (m : List UInt8) (b : UInt8), decV (m ++ [b]) = decV m + (b.toNat % 128) * 128 ^ m.length := by
  intro m
  induction m with
  | nil => intro b; simp [decV]
  | cons a r ih =>
    intro b
    rw [List.cons_append, decV, ih, decV, List.length_cons, Nat.pow_succ]
    have : 128 * (b.toNat % 128 * 128 ^ r.length) = b.toNat % 128 * (128 ^ r.length * 128) := by rw [Nat.mul_left_comm, Nat.mul_comm 128]
    omega
theorem byte_take (l : List UInt8) (k j : Nat) (h : j < k) : at' (l.take k) j = at' l j := by
  unfold at'
  rw [List.getD_eq_getElem?_getD, List.getD_eq_getElem?_getD, List.getElem?_take, if_pos h]
/-- the first so many bytes are a number's -/
theorem gV_take (l : List UInt8) (k : Nat) (hk : k ≤ l.length) : gV (l.take k) ↔ 0 < k ∧ (∀ j, j + 1 < k → 128 ≤ at' l j) ∧ at' l (k - 1) < 128 ∧ (k = 1 ∨ at' l (k - 1) ≠ 0) := by
  unfold gV
  rw [List.length_take, Nat.min_eq_left hk]
  constructor
  · rintro ⟨h0, h1, h2, h3⟩
    rw [byte_take l k _ (by omega)] at h2 h3
    exact ⟨h0, fun j hj => by rw [← byte_take l k j (by omega)]; exact h1 j hj, h2, h3⟩
  · rintro ⟨h0, h1, h2, h3⟩
    rw [byte_take l k _ (by omega)]
    exact ⟨h0, fun j hj => by rw [byte_take l k j (by omega)]; exact h1 j hj, h2, h3⟩
theorem gV_one (l : List UInt8) (j k : Nat) (hj : j ≤ l.length) (hk : k ≤ l.length) (h1 : gV (l.take j)) (h2 : gV (l.take k)) : j = k := by
  rw [gV_take l j hj] at h1
  rw [gV_take l k hk] at h2
  rcases Nat.lt_trichotomy j k with h | h | h
  · have := h2.2.1 (j - 1) (by omega); omega
  · exact h
  · have := h1.2.1 (k - 1) (by omega); omega
theorem take_byte (l : List UInt8) (i : Nat) (h : i < l.length) : l.take (i + 1) = l.take i ++ [l[i]] := by rw [List.take_add_one, List.getElem?_eq_getElem h]; rfl
/-- one more byte, the lowest first -/
theorem decV_step (l : List UInt8) (i : Nat) (h : i < l.length) : decV (l.take (i + 1)) = decV (l.take i) + (at' l i % 128) * 128 ^ i := by
  rw [take_byte l i h, decV_snoc, List.length_take, Nat.min_eq_left (by omega), byte_get l i h]
/-- one more byte, the highest first -/
theorem decV_drop (l : List UInt8) (i : Nat) (h : i < l.length) : decV (l.drop i) = at' l i % 128 + 128 * decV (l.drop (i + 1)) := by
  rw [List.drop_eq_getElem_cons h, decV, byte_get l i h]
theorem wraps_i64 (n : Int) (h₀ : 0 ≤ n) (h₁ : n < 2 ^ 63) : IntKind.i64.wrap n = n := by rw [IntKind.wrap_i64]; omega
theorem and127_i64 (x : Int) (h0 : 0 ≤ x) (h1 : x < 9223372036854775808) : bits .and .i64 x 127 = x % 128 := bits_mask .i64 63 (by decide) wraps_i64 7 (by decide) x h0 h1
theorem and127_u8 (x : Int) (h0 : 0 ≤ x) (h1 : x < 256) : bits .and .u8 x 127 = x % 128 := bits_mask .u8 8 (by decide) wraps_u8 7 (by decide) x h0 h1
theorem or128_u8 (x : Int) (h0 : 0 ≤ x) (h1 : x < 128) : bits .or .u8 x 128 = 128 + x := by
  obtain ⟨a, rfl⟩ := Int.eq_ofNat_of_zero_le h0
  have h := bits_join .u8 8 (by decide) wraps_u8 7 128 (a : Int) (by decide) (by decide) (by decide) h0 h1 (by omega)
  rw [← h]
  have e1 := (bits_nat .u8 8 (by decide) wraps_u8 a 128 (by omega) (by decide)).2
  have e2 := (bits_nat .u8 8 (by decide) wraps_u8 128 a (by decide) (by omega)).2
  rw [show ((128 : Nat) : Int) = 128 from rfl] at e1 e2
  rw [e1, e2, Nat.or_comm]
/-- a number below 128^i with more above it -/
theorem or_i64 (x b : Nat) (i : Nat) (hi : i ≤ 6) (hx : x < 128 ^ i) (hb : b < 128) : bits .or .i64 (x : Int) (((b * 128 ^ i : Nat)) : Int) = ((x + b * 128 ^ i : Nat) : Int) := by
  have e7 : (2 : Nat) ^ (7 * i) = 128 ^ i := by rw [Nat.pow_mul]
  have hp : 128 ^ i ≤ 128 ^ 6 := Nat.pow_le_pow_right (by decide) hi
  have hm : b * 128 ^ i ≤ 127 * 128 ^ i := Nat.mul_le_mul_right _ (by omega)
  have hc : (128 : Nat) ^ 6 = 4398046511104 := by decide
  have e1 := (bits_nat .i64 63 (by decide) wraps_i64 x (b * 128 ^ i) (by omega) (by omega)).2
  have e2 := (bits_nat .i64 63 (by decide) wraps_i64 (b * 128 ^ i) x (by omega) (by omega)).2
  have hd : (((b * 128 ^ i : Nat) : Int)) % 2 ^ (7 * i) = 0 := by
    have : (b * 128 ^ i) % 2 ^ (7 * i) = 0 := by rw [e7]; exact Nat.mul_mod_left _ _
    exact_mod_cast this
  have hx' : (x : Int) < 2 ^ (7 * i) := by
    have : x < 2 ^ (7 * i) := by rw [e7]; exact hx
    exact_mod_cast this
  have e3 := bits_join .i64 63 (by decide) wraps_i64 (7 * i) ((b * 128 ^ i : Nat) : Int) (x : Int) (by omega) hd (by omega) (by omega) hx' (by omega)
  rw [e1, Nat.or_comm, ← e2, e3]
  push_cast
  omega

end Go.Proofs.Ytbiffnahknkoiaa.VarN
