/- Counting among the first n numbers, and lists of numbers that rise: laws over numbers alone. -/
namespace Go.Proofs.Ytbiffnahknkoiaa.Count
set_option linter.unusedVariables false

/-- how many below n -/
def cnt (f : Nat → Bool) : Nat → Nat
  | 0 => 0
  | n + 1 => cnt f n + (if f n = true then 1 else 0)
theorem cnt_le (f : Nat → Bool) : ∀ n, cnt f n ≤ n := by
  intro n
  induction n with
  | zero => exact Nat.le_refl _
  | succ n ih => rw [cnt]; split <;> omega
theorem cnt_congr {f g : Nat → Bool} : ∀ n, (∀ k, k < n → f k = g k) → cnt f n = cnt g n := by
  intro n
  induction n with
  | zero => intro _; rfl
  | succ n ih => intro h; rw [cnt, cnt, ih (fun k hk => h k (by omega)), h n (by omega)]
theorem cnt_mono {f g : Nat → Bool} : ∀ n, (∀ k, k < n → f k = true → g k = true) → cnt f n ≤ cnt g n := by
  intro n
  induction n with
  | zero => intro _; exact Nat.le_refl _
  | succ n ih =>
    intro h
    have := ih (fun k hk => h k (by omega))
    rw [cnt, cnt]
    by_cases c : f n = true
    · rw [if_pos c, if_pos (h n (by omega) c)]; omega
    · rw [if_neg c]; omega
theorem cnt_zero {f : Nat → Bool} : ∀ n, (∀ k, k < n → f k = false) → cnt f n = 0 := by
  intro n
  induction n with
  | zero => intro _; rfl
  | succ n ih => intro h; rw [cnt, ih (fun k hk => h k (by omega)), h n (by omega)]; rfl
theorem cnt_pos {f : Nat → Bool} : ∀ n p, p < n → f p = true → 1 ≤ cnt f n := by
  intro n
  induction n with
  | zero => intro p h; omega
  | succ n ih =>
    intro p hp h
    rw [cnt]
    by_cases e : p = n
    · subst e; rw [if_pos h]; omega
    · have := ih p (by omega) h; omega
theorem cnt_split (f g : Nat → Bool) : ∀ n, cnt f n = cnt (fun k => g k && f k) n + cnt (fun k => !g k && f k) n := by
  intro n
  induction n with
  | zero => rfl
  | succ n ih =>
    rw [cnt, cnt, cnt, ih]
    cases g n <;> cases f n <;> simp <;> omega
/-- one more, where one is added -/
theorem cnt_or {f g : Nat → Bool} {p : Nat} : ∀ n, (∀ k, k < n → f k = true → g k = true ∨ k = p) → cnt f n ≤ cnt g n + 1 := by
  intro n
  induction n with
  | zero => intro _; exact Nat.zero_le _
  | succ n ih =>
    intro h
    rw [cnt, cnt]
    by_cases c : f n = true
    · rw [if_pos c]
      rcases h n (by omega) c with e | e
      · rw [if_pos e]
        have := ih (fun k hk => h k (by omega))
        omega
      · have : cnt f n ≤ cnt g n := cnt_mono n (fun k hk hf => by rcases h k (by omega) hf with h1 | h1; exact h1; omega)
        omega
    · rw [if_neg c]
      have := ih (fun k hk => h k (by omega))
      omega
theorem cnt_add {f g : Nat → Bool} {p : Nat} : ∀ n, p < n → g p = false → (∀ k, k < n → (f k = true ↔ g k = true ∨ k = p)) → cnt f n = cnt g n + 1 := by
  intro n
  induction n with
  | zero => intro h; omega
  | succ n ih =>
    intro hp hg h
    rw [cnt, cnt]
    by_cases e : p = n
    · subst e
      have h1 : cnt f p = cnt g p := cnt_congr p (fun k hk => by
        have := h k (by omega)
        rw [Bool.eq_iff_iff, this]
        exact ⟨fun h2 => by rcases h2 with h2 | h2; exact h2; omega, .inl⟩)
      rw [if_pos ((h p (by omega)).2 (.inr rfl)), hg, h1]
      rfl
    · have h1 := ih (by omega) hg (fun k hk => h k (by omega))
      have h2 : f n = g n := by
        rw [Bool.eq_iff_iff, h n (by omega)]
        exact ⟨fun h3 => by rcases h3 with h3 | h3; exact h3; omega, .inl⟩
      rw [h1, h2]
      omega
theorem cnt_filter (f : Nat → Bool) : ∀ n, ((List.range n).filter f).length = cnt f n := by
  intro n
  induction n with
  | zero => rfl
  | succ n ih =>
    rw [List.range_succ, List.filter_append, List.length_append, ih, cnt]
    by_cases c : f n = true
    · rw [if_pos c]; simp [c]
    · rw [if_neg c]; simp [c]
theorem sorted_ext : ∀ (a b : List Nat), a.Pairwise (· < ·) → b.Pairwise (· < ·) → (∀ x, x ∈ a ↔ x ∈ b) → a = b := by
  intro a
  induction a with
  | nil =>
    intro b _ _ h
    cases b with
    | nil => rfl
    | cons y b => exact absurd ((h y).2 List.mem_cons_self) (by simp)
  | cons x a ih =>
    intro b ha hb h
    cases b with
    | nil => exact absurd ((h x).1 List.mem_cons_self) (by simp)
    | cons y b =>
      rw [List.pairwise_cons] at ha hb
      have hxy : x = y := by
        rcases List.mem_cons.1 ((h x).1 List.mem_cons_self) with e | e
        · exact e
        · rcases List.mem_cons.1 ((h y).2 List.mem_cons_self) with e2 | e2
          · exact e2.symm
          · have := hb.1 x e; have := ha.1 y e2; omega
      subst hxy
      rw [ih b ha.2 hb.2 (fun z => ⟨fun hz => ?_, fun hz => ?_⟩)]
      · rcases List.mem_cons.1 ((h z).1 (List.mem_cons_of_mem _ hz)) with e | e
        · have := ha.1 z hz; omega
        · exact e
      · rcases List.mem_cons.1 ((h z).2 (List.mem_cons_of_mem _ hz)) with e | e
        · have := hb.1 z hz; omega
        · exact e
theorem range_filter_sorted (f : Nat → Bool) (n : Nat) : ((List.range n).filter f).Pairwise (· < ·) := List.pairwise_lt_range.filter f
theorem map_sorted (g : Nat → Nat) : ∀ n, (∀ i j, i < j → j < n → g i < g j) → ((List.range n).map g).Pairwise (· < ·) := by
  intro n h
  rw [List.pairwise_map]
  refine List.pairwise_lt_range.imp_of_mem ?_
  intro a b ha hb hab
  exact h a b hab (List.mem_range.1 hb)
/-- those below n that are one of g's are g's list -/
theorem filter_eq_map (f : Nat → Bool) (g : Nat → Nat) (n M : Nat) (hm : ∀ i j, i < j → j < M → g i < g j) (hn : ∀ j, j < M → g j < n) (hf : ∀ i, i < n → (f i = true ↔ ∃ j, j < M ∧ g j = i)) : (List.range n).filter f = (List.range M).map g := by
  refine sorted_ext _ _ (range_filter_sorted f n) (map_sorted g M hm) (fun x => ?_)
  rw [List.mem_filter, List.mem_range, List.mem_map]
  constructor
  · rintro ⟨h1, h2⟩
    obtain ⟨j, hj, e⟩ := (hf x h1).1 h2
    exact ⟨j, List.mem_range.2 hj, e⟩
  · rintro ⟨j, hj, e⟩
    have hj' := List.mem_range.1 hj
    have := hn j hj'
    exact ⟨by omega, (hf x (by omega)).2 ⟨j, hj', e⟩⟩
/-- counting among them -/
theorem cnt_map (f h : Nat → Bool) (g : Nat → Nat) (n M : Nat) (hm : ∀ i j, i < j → j < M → g i < g j) (hn : ∀ j, j < M → g j < n) (hf : ∀ i, i < n → (f i = true ↔ ∃ j, j < M ∧ g j = i)) : cnt (fun k => f k && h k) n = cnt (fun j => h (g j)) M := by
  rw [← cnt_filter, ← cnt_filter]
  have e : (List.range n).filter (fun k => f k && h k) = ((List.range n).filter f).filter h := by rw [List.filter_filter]; congr 1; funext k; exact Bool.and_comm _ _
  rw [e, filter_eq_map f g n M hm hn hf, List.filter_map, List.length_map]
  rfl

end Go.Proofs.Ytbiffnahknkoiaa.Count
