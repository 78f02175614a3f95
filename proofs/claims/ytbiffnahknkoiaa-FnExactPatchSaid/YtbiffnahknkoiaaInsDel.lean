/- What an insertion and a deletion make of the depths of a tree, and that each undoes the other; plain numbers, each fact under the bounds that it names. -/
import Derived.Test.YtbiffnahknkoiaaBounds
namespace Go.Proofs.Ytbiffnahknkoiaa.Tree
set_option linter.unusedVariables false

/-- the depths without node i, whose descendants end at e -/
def delD (D : Nat → Int) (i e : Nat) : Nat → Int := fun j => if j < i then D j else if j + 1 < e then D (j + 1) - 1 else D (j + 1)
/-- the depths with one more node at f, under i, over those up to e -/
def insD (D : Nat → Int) (i f e : Nat) : Nat → Int := fun j => if j < f then D j else if j = f then D i + 1 else if j - 1 < e then D (j - 1) + 1 else D (j - 1)

theorem delD_lt {D : Nat → Int} {i e j : Nat} (h : j < i) : delD D i e j = D j := by unfold delD; rw [if_pos h]
theorem delD_in {D : Nat → Int} {i e j : Nat} (h : i ≤ j) (h2 : j + 1 < e) : delD D i e j = D (j + 1) - 1 := by unfold delD; rw [if_neg (by omega), if_pos h2]
theorem delD_ge {D : Nat → Int} {i e j : Nat} (h : i ≤ j) (h2 : e ≤ j + 1) : delD D i e j = D (j + 1) := by unfold delD; rw [if_neg (by omega), if_neg (by omega)]
theorem insD_lt {D : Nat → Int} {i f e j : Nat} (h : j < f) : insD D i f e j = D j := by unfold insD; rw [if_pos h]
theorem insD_at {D : Nat → Int} {i f e : Nat} : insD D i f e f = D i + 1 := by unfold insD; rw [if_neg (by omega), if_pos rfl]
theorem insD_in {D : Nat → Int} {i f e j : Nat} (h : f < j) (h2 : j - 1 < e) : insD D i f e j = D (j - 1) + 1 := by unfold insD; rw [if_neg (by omega), if_neg (by omega), if_pos h2]
theorem insD_ge {D : Nat → Int} {i f e j : Nat} (h : f < j) (h2 : e ≤ j - 1) : insD D i f e j = D (j - 1) := by unfold insD; rw [if_neg (by omega), if_neg (by omega), if_neg (by omega)]

/-! #### deletion -/
section
variable {n : Nat} {D : Nat → Int} {i : Nat} (hv : Vd n D) (h0 : 0 < i) (hi : i < n)
include hv h0 hi

theorem del_valid : Vd (n - 1) (delD D i (eo n D i)) := by
  have g := @eo_gt n D i
  have l := eo_le (D := D) hi
  obtain ⟨v1, v2, v3⟩ := hv
  refine ⟨by omega, by rw [delD_lt h0]; exact v2, fun j hj hjn => ?_⟩
  rcases Nat.lt_or_ge j i with h1 | h1
  · rw [delD_lt h1, delD_lt (by omega)]; exact v3 j hj (by omega)
  · rcases Nat.lt_or_ge (j + 1) (eo n D i) with h2 | h2
    · rw [delD_in h1 h2]
      have a := v3 (j + 1) (by omega) (by omega)
      have b := eo_in (n := n) (D := D) (i := i) (t := j + 1) (by omega) h2
      have c := v3 i h0 hi
      simp only [Nat.add_sub_cancel] at a
      refine ⟨by omega, ?_⟩
      rcases Nat.lt_or_ge (j - 1) i with h3 | h3
      · have e : j = i := by omega
        subst e
        rw [delD_lt h3]; omega
      · rw [delD_in h3 (by omega)]
        have e : j - 1 + 1 = j := by omega
        rw [e]; omega
    · rw [delD_ge h1 h2]
      have a := v3 (j + 1) (by omega) (by omega)
      simp only [Nat.add_sub_cancel] at a
      refine ⟨a.1, ?_⟩
      rcases Nat.lt_or_ge (j - 1) i with h3 | h3
      · have e : j = i := by omega
        subst e
        have e2 : eo n D j = j + 1 := by omega
        have b := eo_end (n := n) (D := D) (i := j) (by omega)
        rw [e2] at b
        have c := v3 j h0 hi
        rw [delD_lt h3]; omega
      · rcases Nat.lt_or_ge (j - 1 + 1) (eo n D i) with h4 | h4
        · have e : j - 1 + 1 = j := by omega
          have e2 : eo n D i = j + 1 := by omega
          rw [delD_in h3 h4, e]
          have b := eo_end (n := n) (D := D) (i := i) (by omega)
          rw [e2] at b
          have d := eo_in (n := n) (D := D) (i := i) (t := j) (by omega) (by omega)
          omega
        · have e : j - 1 + 1 = j := by omega
          rw [delD_ge h3 h4, e]; exact a.2

/-- the parent's end is one place ahead of where it was -/
theorem del_eo {p : Nat} (hp : i ∈ kids n D p) : eo (n - 1) (delD D i (eo n D i)) p = eo n D p - 1 := by
  have _ := hv
  have g := @eo_gt n D i
  have l := eo_le (D := D) hi
  obtain ⟨h1, h2, h3⟩ := mem_kids.1 hp
  have lp := eo_le (D := D) (i := p) (n := n) (by omega)
  have ne := eo_nest (n := n) (D := D) (i := p) (by omega) h1 h2
  refine eo_eq (by omega) (by omega) ?_ ?_
  · intro t ht1 ht2
    rw [delD_lt h1]
    rcases Nat.lt_or_ge t i with a | a
    · rw [delD_lt a]; exact eo_in (n := n) ht1 (by omega)
    · rcases Nat.lt_or_ge (t + 1) (eo n D i) with b | b
      · rw [delD_in a b]
        have := eo_in (n := n) (D := D) (i := i) (t := t + 1) (by omega) b
        omega
      · rw [delD_ge a b]
        have := eo_in (n := n) (D := D) (i := p) (t := t + 1) (by omega) (by omega)
        omega
  · intro h
    rw [delD_lt h1, delD_ge (by omega) (by omega)]
    have e : eo n D p - 1 + 1 = eo n D p := by omega
    rw [e]
    exact eo_end (by omega)

/-- where the node was: a bound of the parent's kids, at its number -/
theorem del_from {p : Nat} (hp : i ∈ kids n D p) : IsB (n - 1) (delD D i (eo n D i)) p i ∧ cnt (delD D i (eo n D i)) (delD D i (eo n D i) p + 1) (p + 1) i = (kids n D p).idxOf i := by
  have g := @eo_gt n D i
  have l := eo_le (D := D) hi
  obtain ⟨h1, h2, h3⟩ := mem_kids.1 hp
  have ne := eo_nest (n := n) (D := D) (i := p) (by omega) h1 h2
  have he := del_eo hv h0 hi hp
  refine ⟨⟨h1, ?_⟩, ?_⟩
  · rw [he]
    by_cases h4 : i = eo n D p - 1
    · exact .inl h4
    · refine .inr ⟨by omega, ?_⟩
      rw [delD_lt h1]
      rcases Nat.lt_or_ge (i + 1) (eo n D i) with a | a
      · rw [delD_in (Nat.le_refl _) a, first_kid hv hi a, h3]; omega
      · rw [delD_ge (Nat.le_refl _) a]
        have e : eo n D i = i + 1 := by omega
        have := next_kid hv h1 h2 (by omega) h3 (by omega)
        rw [e] at this
        exact this
  · rw [rank_cnt hp, delD_lt h1]
    exact cnt_congr (fun k a b => delD_lt b)

/-- where its descendants end now: a bound, so many kids behind -/
theorem del_to {p : Nat} (hp : i ∈ kids n D p) : IsB (n - 1) (delD D i (eo n D i)) p (eo n D i - 1) ∧ cnt (delD D i (eo n D i)) (delD D i (eo n D i) p + 1) (p + 1) (eo n D i - 1) = (kids n D p).idxOf i + (kids n D i).length := by
  have g := @eo_gt n D i
  have l := eo_le (D := D) hi
  obtain ⟨h1, h2, h3⟩ := mem_kids.1 hp
  have lp := eo_le (D := D) (i := p) (n := n) (by omega)
  have ne := eo_nest (n := n) (D := D) (i := p) (by omega) h1 h2
  have he := del_eo hv h0 hi hp
  have hf := (del_from hv h0 hi hp).2
  refine ⟨⟨by omega, ?_⟩, ?_⟩
  · rw [he]
    by_cases h4 : eo n D i = eo n D p
    · exact .inl (by omega)
    · refine .inr ⟨by omega, ?_⟩
      rw [delD_lt h1, delD_ge (by omega) (by omega)]
      have e : eo n D i - 1 + 1 = eo n D i := by omega
      rw [e]
      exact next_kid hv h1 h2 (by omega) h3 (by omega)
  · rw [cnt_split _ _ (b := i) (by omega) (by omega), hf, kids_length_cnt]
    congr 1
    have := cnt_shift (D := delD D i (eo n D i)) (D' := D) (d := delD D i (eo n D i) p + 1) (d' := D i + 1) 1 (a := i) (b := eo n D i - 1) (fun k a b => by
      rw [delD_in a (by omega), delD_lt h1]; omega)
    have e : eo n D i - 1 + 1 = eo n D i := by omega
    rw [e] at this
    exact this

end

/-- putting the node in again makes the depths that were -/
theorem ins_del {n : Nat} {D : Nat → Int} {i : Nat} {p : Nat} (hp : i ∈ kids n D p) : ∀ j, insD (delD D i (eo n D i)) p i (eo n D i - 1) j = D j := by
  have g := @eo_gt n D i
  obtain ⟨h1, h2, h3⟩ := mem_kids.1 hp
  intro j
  rcases Nat.lt_trichotomy j i with a | a | a
  · rw [insD_lt a, delD_lt a]
  · subst a; rw [insD_at, delD_lt h1, h3]
  · rcases Nat.lt_or_ge (j - 1) (eo n D i - 1) with b | b
    · rw [insD_in a b, delD_in (by omega) (by omega)]
      have e : j - 1 + 1 = j := by omega
      rw [e]; omega
    · rw [insD_ge a b, delD_ge (by omega) (by omega)]
      have e : j - 1 + 1 = j := by omega
      rw [e]

/-! #### insertion -/
theorem IsB_le {n : Nat} {D : Nat → Int} {i x : Nat} (h : IsB n D i x) : x ≤ eo n D i := by rcases h.2 with a | a <;> omega
theorem IsB_in {n : Nat} {D : Nat → Int} {i x : Nat} (h : IsB n D i x) (hx : x < n) : D x ≤ D i + 1 := by
  rcases h.2 with a | a
  · subst a; have := eo_end (n := n) (D := D) (i := i) hx; omega
  · omega

section
variable {n : Nat} {D : Nat → Int} {i f e : Nat} (hv : Vd n D) (hi : i < n) (hf : IsB n D i f) (he : IsB n D i e) (hfe : f ≤ e)
include hv hi hf he hfe

theorem ins_valid : Vd (n + 1) (insD D i f e) := by
  have le := eo_le (D := D) hi
  have lf := IsB_le hf
  have lee := IsB_le he
  obtain ⟨v1, v2, v3⟩ := hv
  have hi0 : 0 ≤ D i := by
    by_cases h : i = 0
    · subst h; omega
    · have := v3 i (by omega) hi; omega
  have fgt := hf.1
  refine ⟨by omega, by rw [insD_lt (by omega)]; exact v2, fun j hj hjn => ?_⟩
  rcases Nat.lt_trichotomy j f with a | a | a
  · rw [insD_lt a, insD_lt (by omega)]; exact v3 j hj (by omega)
  · subst a
    rw [insD_at, insD_lt (by omega)]
    refine ⟨by omega, ?_⟩
    by_cases h : j - 1 = i
    · rw [h]; exact Int.le_refl _
    · have := eo_in (n := n) (D := D) (i := i) (t := j - 1) (by omega) (by omega)
      omega
  · rcases Nat.lt_or_ge (j - 1) e with b | b
    · rw [insD_in a b]
      have c := v3 (j - 1) (by omega) (by omega)
      refine ⟨by omega, ?_⟩
      by_cases h : j - 1 = f
      · rw [h, insD_at]
        have := IsB_in hf (by omega)
        rw [← h] at this ⊢; omega
      · rw [insD_in (by omega) (by omega)]
        have := c.2
        omega
    · rw [insD_ge a b]
      have c := v3 (j - 1) (by omega) (by omega)
      refine ⟨c.1, ?_⟩
      by_cases h : j - 1 = f
      · rw [h, insD_at]
        have := IsB_in hf (by omega)
        rw [← h] at this ⊢; omega
      · rcases Nat.lt_or_ge (j - 1 - 1) e with d | d
        · rw [insD_in (by omega) d]; have := c.2; omega
        · rw [insD_ge (by omega) d]; exact c.2

theorem ins_eo : eo (n + 1) (insD D i f e) i = eo n D i + 1 := by
  have _ := hv
  have le := eo_le (D := D) hi
  have lf := IsB_le hf
  have lee := IsB_le he
  have fgt := hf.1
  refine eo_eq (by omega) (by omega) ?_ ?_
  · intro t h1 h2
    rw [insD_lt hf.1]
    rcases Nat.lt_trichotomy t f with a | a | a
    · rw [insD_lt a]; exact eo_in (n := n) h1 (by omega)
    · subst a; rw [insD_at]; omega
    · have := eo_in (n := n) (D := D) (i := i) (t := t - 1) (by omega) (by omega)
      rcases Nat.lt_or_ge (t - 1) e with b | b
      · rw [insD_in a b]; omega
      · rw [insD_ge a b]; omega
  · intro h
    rw [insD_lt hf.1, insD_ge (by omega) (by omega)]
    simp only [Nat.add_sub_cancel]
    exact eo_end (by omega)

/-- the new node is a kid of i, at its number -/
theorem ins_kid : f ∈ kids (n + 1) (insD D i f e) i ∧ (kids (n + 1) (insD D i f e) i).idxOf f = cnt D (D i + 1) (i + 1) f := by
  have h1 := ins_eo hv hi hf he hfe
  have lf := IsB_le hf
  have hm : f ∈ kids (n + 1) (insD D i f e) i := mem_kids.2 ⟨hf.1, by omega, by rw [insD_at, insD_lt hf.1]⟩
  refine ⟨hm, ?_⟩
  rw [rank_cnt hm, insD_lt hf.1]
  exact cnt_congr (fun k a b => insD_lt b)

theorem ins_eo_new : eo (n + 1) (insD D i f e) f = e + 1 := by
  have _ := hv
  have le := eo_le (D := D) hi
  have lf := IsB_le hf
  have lee := IsB_le he
  have fgt := hf.1
  refine eo_eq (by omega) (by omega) ?_ ?_
  · intro t h1 h2
    rw [insD_at, insD_in h1 (by omega)]
    have := eo_in (n := n) (D := D) (i := i) (t := t - 1) (by omega) (by omega)
    omega
  · intro h
    rw [insD_at, insD_ge (by omega) (by omega)]
    simp only [Nat.add_sub_cancel]
    exact IsB_in he (by omega)

/-- so many kids go below the new node -/
theorem ins_kids_new : (kids (n + 1) (insD D i f e) f).length = cnt D (D i + 1) f e := by
  rw [kids_length_cnt, ins_eo_new hv hi hf he hfe, insD_at]
  symm
  exact cnt_shift (D := D) (D' := insD D i f e) 1 (fun k a b => by
    rw [insD_in (by omega) (by omega)]
    simp only [Nat.add_sub_cancel]; omega)

end

/-- taking the node out again makes the depths that were -/
theorem del_ins {D : Nat → Int} {i f e : Nat} : ∀ j, delD (insD D i f e) f (e + 1) j = D j := by
  intro j
  rcases Nat.lt_or_ge j f with a | a
  · rw [delD_lt a, insD_lt a]
  · rcases Nat.lt_or_ge (j + 1) (e + 1) with b | b
    · rw [delD_in a b, insD_in (by omega) (by omega)]
      simp only [Nat.add_sub_cancel]; omega
    · rw [delD_ge a b, insD_ge (by omega) (by omega)]
      simp only [Nat.add_sub_cancel]
end Go.Proofs.Ytbiffnahknkoiaa.Tree
