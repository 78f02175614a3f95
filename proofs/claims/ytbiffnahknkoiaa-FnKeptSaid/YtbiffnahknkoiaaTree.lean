/- The places of a tree that is told as depths in preorder: where a node's descendants end, its kids, its parent; plain numbers, each fact under the bounds that it names. -/
namespace Go.Proofs.Ytbiffnahknkoiaa.Tree
set_option linter.unusedVariables false

/-- from place j on the first that is n or not deeper than d -/
def eoFrom (n : Nat) (D : Nat → Int) (d : Int) : Nat → Nat → Nat
  | 0, j => j
  | f + 1, j => if j < n ∧ d < D j then eoFrom n D d f (j + 1) else j

/-- the place behind the last descendant of node i -/
def eo (n : Nat) (D : Nat → Int) (i : Nat) : Nat := eoFrom n D (D i) (n - (i + 1)) (i + 1)

theorem eoFrom_le (n : Nat) (D : Nat → Int) (d : Int) : ∀ f j, j ≤ eoFrom n D d f j := by
  intro f
  induction f with
  | zero => intro j; exact Nat.le_refl _
  | succ f ih =>
    intro j
    rw [eoFrom]
    split
    · have := ih (j + 1); omega
    · exact Nat.le_refl _

theorem eoFrom_in (n : Nat) (D : Nat → Int) (d : Int) : ∀ f j t, j ≤ t → t < eoFrom n D d f j → t < n ∧ d < D t := by
  intro f
  induction f with
  | zero => intro j t h1 h2; rw [eoFrom] at h2; omega
  | succ f ih =>
    intro j t h1 h2
    rw [eoFrom] at h2
    by_cases h : j < n ∧ d < D j
    · rw [if_pos h] at h2
      by_cases e : t = j
      · subst e; exact h
      · exact ih (j + 1) t (by omega) h2
    · rw [if_neg h] at h2; omega

theorem eoFrom_end (n : Nat) (D : Nat → Int) (d : Int) : ∀ f j, n ≤ j + f → eoFrom n D d f j < n → D (eoFrom n D d f j) ≤ d := by
  intro f
  induction f with
  | zero => intro j h1 h2; rw [eoFrom] at h2; omega
  | succ f ih =>
    intro j h1 h2
    rw [eoFrom] at h2 ⊢
    by_cases h : j < n ∧ d < D j
    · rw [if_pos h] at h2 ⊢; exact ih (j + 1) (by omega) h2
    · rw [if_neg h] at h2 ⊢; omega

theorem eoFrom_le_n (n : Nat) (D : Nat → Int) (d : Int) : ∀ f j, j ≤ n → eoFrom n D d f j ≤ n := by
  intro f
  induction f with
  | zero => intro j h; exact h
  | succ f ih =>
    intro j h
    rw [eoFrom]
    split
    · exact ih (j + 1) (by omega)
    · exact h

section
variable {n : Nat} {D : Nat → Int} {i : Nat}

theorem eo_gt : i < eo n D i := by have := eoFrom_le n D (D i) (n - (i + 1)) (i + 1); unfold eo; omega
theorem eo_le (h : i < n) : eo n D i ≤ n := eoFrom_le_n n D (D i) _ _ (by omega)
theorem eo_in {t : Nat} (h1 : i < t) (h2 : t < eo n D i) : D i < D t := (eoFrom_in n D (D i) _ _ t (by omega) h2).2
theorem eo_end (h : eo n D i < n) : D (eo n D i) ≤ D i := eoFrom_end n D (D i) _ _ (by omega) h
/-- it is the only such place -/
theorem eo_eq {e : Nat} (h1 : i < e) (h2 : e ≤ n) (h3 : ∀ t, i < t → t < e → D i < D t) (h4 : e < n → D e ≤ D i) : eo n D i = e := by
  have a := @eo_gt n D i
  have b := @eo_le n D i (by omega)
  rcases Nat.lt_trichotomy (eo n D i) e with h | h | h
  · have := h3 _ a h
    have := eo_end (n := n) (D := D) (i := i) (by omega)
    omega
  · exact h
  · have := eo_in (n := n) (D := D) h1 h
    have := h4 (by omega)
    omega
/-- descendants lie within -/
theorem eo_nest {j : Nat} (hi : i < n) (h1 : i < j) (h2 : j < eo n D i) : eo n D j ≤ eo n D i := by
  have hn := @eo_le n D i hi
  have hj : j < n := by omega
  rcases Nat.lt_or_ge (eo n D i) (eo n D j) with h | h
  · exfalso
    have a := eo_in (n := n) (D := D) (i := j) h2 h
    have b := eo_in (n := n) (D := D) h1 h2
    have c := @eo_le n D j hj
    have d := eo_end (n := n) (D := D) (i := i) (by omega)
    omega
  · exact h
end

/-- the kids of node i -/
def kids (n : Nat) (D : Nat → Int) (i : Nat) : List Nat := (List.range' (i + 1) (eo n D i - (i + 1))).filter fun k => decide (D k = D i + 1)

theorem mem_kids {n : Nat} {D : Nat → Int} {i k : Nat} : k ∈ kids n D i ↔ i < k ∧ k < eo n D i ∧ D k = D i + 1 := by
  have := @eo_gt n D i
  simp only [kids, List.mem_filter, List.mem_range'_1, decide_eq_true_eq]
  constructor
  · rintro ⟨⟨a, b⟩, c⟩; exact ⟨by omega, by omega, c⟩
  · rintro ⟨a, b, c⟩; exact ⟨⟨by omega, by omega⟩, c⟩

theorem kids_length {n : Nat} {D : Nat → Int} {i : Nat} : (kids n D i).length ≤ eo n D i - (i + 1) := by
  have := List.length_filter_le (fun k => decide (D k = D i + 1)) (List.range' (i + 1) (eo n D i - (i + 1)))
  simpa [kids] using this

theorem kids_sorted {n : Nat} {D : Nat → Int} {i : Nat} : (kids n D i).Pairwise (· < ·) := by
  unfold kids
  exact List.Pairwise.filter _ (List.pairwise_lt_range')

/-- the last place ahead of j that is less deep than d; -1 where there is none -/
def upFrom (D : Nat → Int) (d : Int) : Nat → Int
  | 0 => -1
  | j + 1 => if D j < d then (j : Int) else upFrom D d j

/-- a node's parent, -1 of none -/
def par (D : Nat → Int) (i : Nat) : Int := upFrom D (D i) i

theorem upFrom_spec (D : Nat → Int) (d : Int) : ∀ j, (upFrom D d j = -1 ∧ ∀ t, t < j → d ≤ D t) ∨ ∃ p : Nat, upFrom D d j = (p : Int) ∧ p < j ∧ D p < d ∧ ∀ t, p < t → t < j → d ≤ D t := by
  intro j
  induction j with
  | zero => exact .inl ⟨rfl, fun t h => absurd h (Nat.not_lt_zero _)⟩
  | succ j ih =>
    by_cases h : D j < d
    · exact .inr ⟨j, by rw [upFrom, if_pos h], by omega, h, fun t h1 h2 => by omega⟩
    · have h' : d ≤ D j := by omega
      rcases ih with ⟨e, a⟩ | ⟨p, e, a, b, c⟩
      · refine .inl ⟨by rw [upFrom, if_neg h]; exact e, fun t ht => ?_⟩
        by_cases ej : t = j
        · subst ej; exact h'
        · exact a t (by omega)
      · refine .inr ⟨p, by rw [upFrom, if_neg h]; exact e, by omega, b, fun t h1 h2 => ?_⟩
        by_cases ej : t = j
        · subst ej; exact h'
        · exact c t h1 (by omega)

/-- the depths of one tree: the first 0, each other one from 1 up to one more than that of the one ahead -/
def Vd (n : Nat) (D : Nat → Int) : Prop := 1 ≤ n ∧ D 0 = 0 ∧ ∀ j, 0 < j → j < n → 1 ≤ D j ∧ D j ≤ D (j - 1) + 1

/-- in a tree a node that is not the root has a parent: the last place ahead that is one less deep -/
theorem par_spec {n : Nat} {D : Nat → Int} (hv : Vd n D) {i : Nat} (h0 : 0 < i) (hi : i < n) :
    ∃ p : Nat, par D i = (p : Int) ∧ p < i ∧ D p = D i - 1 ∧ (∀ t, p < t → t < i → D i ≤ D t) ∧ i < eo n D p ∧ i ∈ kids n D p := by
  obtain ⟨v1, v2, v3⟩ := hv
  rcases upFrom_spec D (D i) i with ⟨e, a⟩ | ⟨p, e, a, b, c⟩
  · exfalso
    have := a 0 h0
    have := (v3 i h0 hi).1
    omega
  · have hd : D p = D i - 1 := by
      by_cases h : p + 1 = i
      · have := (v3 i h0 hi).2
        have e1 : i - 1 = p := by omega
        rw [e1] at this
        omega
      · have h1 := c (p + 1) (by omega) (by omega)
        have h2 := (v3 (p + 1) (by omega) (by omega)).2
        have e1 : p + 1 - 1 = p := by omega
        rw [e1] at h2
        omega
    have he : i < eo n D p := by
      rcases Nat.lt_or_ge i (eo n D p) with h | h
      · exact h
      · exfalso
        have g := @eo_gt n D p
        have hle := eo_end (n := n) (D := D) (i := p) (by omega)
        rcases Nat.lt_or_ge (eo n D p) i with h5 | h5
        · have := c (eo n D p) g h5; omega
        · have : eo n D p = i := by omega
          rw [this] at hle; omega
    exact ⟨p, e, a, hd, c, he, mem_kids.2 ⟨a, he, by omega⟩⟩

/-- the parent of a kid -/
theorem par_of_kid {n : Nat} {D : Nat → Int} {i k : Nat} (hk : k ∈ kids n D i) : par D k = (i : Int) := by
  obtain ⟨h1, h2, h3⟩ := mem_kids.1 hk
  rcases upFrom_spec D (D k) k with ⟨e, a⟩ | ⟨p, e, a, b, c⟩
  · have := a i h1; omega
  · have : p = i := by
      rcases Nat.lt_trichotomy p i with h | h | h
      · have := c i h h1; omega
      · exact h
      · have := eo_in (n := n) (D := D) (i := i) h (by omega)
        omega
    subst this
    exact e

theorem par_root {D : Nat → Int} : par D 0 = -1 := rfl

end Go.Proofs.Ytbiffnahknkoiaa.Tree
