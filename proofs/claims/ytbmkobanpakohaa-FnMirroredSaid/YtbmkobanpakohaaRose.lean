/- A tree told as labels and depths in preorder is a forest told once more: each such list is read as one, the forests by places are its own, with all kids the other way round it is the forest turned round, and leaves and depths stay as they are; plain numbers, each fact under the bounds that it names. -/
import Derived.Test.YtbmkobanpakohaaRank
namespace Go.Proofs.Ytbmkobanpakohaa.Tree
set_option linter.unusedVariables false
open Dist (Fo)
open Dist.Fo

/-- a forest as labels and depths, in preorder -/
def enc (d : Nat) : Fo → List (Int × Nat)
  | nil => []
  | snoc r v k => enc d r ++ (v, d) :: enc (d + 1) k
theorem enc_length : ∀ (F : Fo) (d : Nat), (enc d F).length = size F
  | nil, _ => rfl
  | snoc r v k, d => by rw [enc, List.length_append, List.length_cons, enc_length r, enc_length k, size]; omega
theorem enc_app (A : Fo) (d : Nat) : ∀ B : Fo, enc d (app A B) = enc d A ++ enc d B
  | nil => by rw [app, enc, List.append_nil]
  | snoc r v k => by rw [app, enc, enc, enc_app A d r, List.append_assoc]
theorem enc_rev : ∀ (F : Fo) (d : Nat), (enc d (rev F)).Perm (enc d F)
  | nil, _ => List.Perm.refl _
  | snoc r v k, d => by
    rw [rev, enc_app, enc, enc, enc, List.nil_append]
    have h1 := enc_rev r d
    have h2 := enc_rev k (d + 1)
    refine (List.Perm.append (List.Perm.cons _ h2) h1).trans ?_
    exact List.perm_append_comm
theorem enc_deep : ∀ (F : Fo) (d : Nat) (x : Int × Nat), x ∈ enc d F → d ≤ x.2
  | nil, _, x, h => by cases h
  | snoc r v k, d, x, h => by
    rw [enc, List.mem_append, List.mem_cons] at h
    rcases h with h | rfl | h
    · exact enc_deep r d x h
    · exact Nat.le_refl _
    · have := enc_deep k (d + 1) x h; omega
theorem enc_head : ∀ (F : Fo) (d : Nat) (h : 0 < (enc d F).length), ((enc d F)[0]).2 = d
  | nil, _, h => absurd h (Nat.lt_irrefl 0)
  | snoc r v k, d, h => by
    simp only [enc]
    by_cases c : 0 < (enc d r).length
    · rw [List.getElem_append_left c]
      exact enc_head r d c
    · rw [List.getElem_append_right (by omega)]
      simp [show (enc d r).length = 0 by omega]
/-- each is at most one deeper than the one ahead -/
theorem enc_steps : ∀ (F : Fo) (d i : Nat) (h : i + 1 < (enc d F).length), ((enc d F)[i + 1]).2 ≤ ((enc d F)[i]).2 + 1
  | nil, _, _, h => by simp [enc] at h
  | snoc r v k, d, i, h => by
    simp only [enc] at h ⊢
    rcases Nat.lt_trichotomy (i + 1) (enc d r).length with c | c | c
    · rw [List.getElem_append_left c, List.getElem_append_left (by omega)]
      exact enc_steps r d i c
    · rw [List.getElem_append_right (by omega), List.getElem_append_left (by omega)]
      have := enc_deep r d _ (List.getElem_mem (show i < (enc d r).length by omega))
      simp only [c, Nat.sub_self, List.getElem_cons_zero]
      omega
    · rw [List.getElem_append_right (by omega), List.getElem_append_right (by omega)]
      obtain ⟨j, hj⟩ : ∃ j, i = (enc d r).length + j := ⟨i - (enc d r).length, by omega⟩
      subst hj
      rw [List.length_append, List.length_cons] at h
      have e1 : (enc d r).length + j + 1 - (enc d r).length = j + 1 := by omega
      have e2 : (enc d r).length + j - (enc d r).length = j := by omega
      simp only [e1, e2, List.getElem_cons_succ]
      cases j with
      | zero =>
        simp only [List.getElem_cons_zero]
        rw [enc_head k (d + 1) (by omega)]
        omega
      | succ j =>
        simp only [List.getElem_cons_succ]
        exact enc_steps k (d + 1) j (by omega)
/-- such a list is read as a forest -/
theorem dec_ex : ∀ (m : Nat) (L : List (Int × Nat)) (d : Nat), L.length ≤ m → (∀ x, x ∈ L → d ≤ x.2) → (∀ h : 0 < L.length, (L[0]).2 = d) → (∀ i (h : i + 1 < L.length), (L[i + 1]).2 ≤ (L[i]).2 + 1) → ∃ F, enc d F = L := by
  intro m
  induction m with
  | zero =>
    intro L d hl _ _ _
    obtain rfl := List.eq_nil_of_length_eq_zero (Nat.le_zero.1 hl)
    exact ⟨nil, rfl⟩
  | succ m ih =>
    intro L d hl hd h0 hs
    by_cases he : L.length = 0
    · obtain rfl := List.eq_nil_of_length_eq_zero he
      exact ⟨nil, rfl⟩
    · -- the last at depth d
      have hex : ∃ j, ∃ h : j < L.length, (L[j]).2 = d ∧ ∀ t (ht : t < L.length), j < t → d < (L[t]).2 := by
        have key : ∀ b, b ≤ L.length → (∃ j, ∃ h : j < L.length, j < b ∧ (L[j]).2 = d ∧ ∀ t (ht : t < L.length), j < t → t < b → d < (L[t]).2) ∨ ∀ t (ht : t < L.length), t < b → d < (L[t]).2 := by
          intro b
          induction b with
          | zero => intro _; exact .inr (fun t _ h => absurd h (Nat.not_lt_zero _))
          | succ b ihb =>
            intro hb
            by_cases c : (L[b]'(by omega)).2 = d
            · exact .inl ⟨b, by omega, by omega, c, fun t ht h1 h2 => by omega⟩
            · have c2 := hd _ (List.getElem_mem (show b < L.length by omega))
              rcases ihb (by omega) with ⟨j, hj, h1, h2, h3⟩ | h3
              · refine .inl ⟨j, hj, by omega, h2, fun t ht a1 a2 => ?_⟩
                by_cases e : t = b
                · subst e; omega
                · exact h3 t ht a1 (by omega)
              · refine .inr (fun t ht a2 => ?_)
                by_cases e : t = b
                · subst e; omega
                · exact h3 t ht (by omega)
        rcases key L.length (Nat.le_refl _) with ⟨j, hj, _, h2, h3⟩ | h3
        · exact ⟨j, hj, h2, fun t ht a => h3 t ht a ht⟩
        · have := h3 0 (by omega) (by omega)
          have := h0 (by omega)
          omega
      obtain ⟨j, hj, hjd, hjl⟩ := hex
      obtain ⟨R, hR⟩ := ih (L.take j) d (by rw [List.length_take]; omega) (fun x hx => hd x (List.mem_of_mem_take hx)) (fun h => by
        rw [List.length_take] at h
        rw [List.getElem_take]
        exact h0 (by omega)) (fun i h => by
        rw [List.length_take] at h
        rw [List.getElem_take, List.getElem_take]
        exact hs i (by omega))
      obtain ⟨K, hK⟩ := ih (L.drop (j + 1)) (d + 1) (by rw [List.length_drop]; omega) (fun x hx => by
        obtain ⟨t, ht, rfl⟩ := List.getElem_of_mem hx
        rw [List.length_drop] at ht
        rw [List.getElem_drop]
        have := hjl (j + 1 + t) (by omega) (by omega)
        omega) (fun h => by
        rw [List.length_drop] at h
        rw [List.getElem_drop]
        have a := hjl (j + 1 + 0) (by omega) (by omega)
        have b := hs j (by omega)
        simp only [Nat.add_zero] at a ⊢
        omega) (fun i h => by
        rw [List.length_drop] at h
        rw [List.getElem_drop, List.getElem_drop]
        exact hs (j + 1 + i) (by omega))
      refine ⟨snoc R (L[j]).1 K, ?_⟩
      rw [enc, hR, hK]
      have e : ((L[j]).1, d) = L[j] := by rw [← hjd]
      rw [e, ← List.drop_eq_getElem_cons hj, List.take_append_drop]
section
variable {n : Nat} {D : Nat → Int} {lab : Nat → Int}
/-- from place s on stands the forest F at depth d, and behind it nothing that is deeper -/
structure Seg (n : Nat) (D : Nat → Int) (lab : Nat → Int) (s d : Nat) (F : Fo) : Prop where
  le : s + size F ≤ n
  at_ : ∀ j (h : j < (enc d F).length), lab (s + j) = ((enc d F)[j]).1 ∧ D (s + j) = (((enc d F)[j]).2 : Int)
  end_ : s + size F < n → D (s + size F) ≤ (d : Int)
theorem Seg.parts {s d : Nat} {r : Fo} {v : Int} {k : Fo} (h : Seg n D lab s d (snoc r v k)) :
    Seg n D lab s d r ∧ (lab (s + size r) = v ∧ D (s + size r) = (d : Int)) ∧ Seg n D lab (s + size r + 1) (d + 1) k ∧ (∀ t, s + size r < t → t < s + size (snoc r v k) → (d : Int) < D t) := by
  have hle := h.le
  have hl := enc_length r d
  have hk := enc_length k (d + 1)
  have hlen : (enc d (snoc r v k)).length = size r + (size k + 1) := by rw [enc_length, size]; omega
  rw [size] at hle
  have hmid := h.at_ (size r) (by omega)
  have e0 : (enc d (snoc r v k))[size r]'(by omega) = (v, d) := by
    simp only [enc]
    rw [List.getElem_append_right (by omega)]
    simp [hl]
  rw [e0] at hmid
  have hin : ∀ j (hj : j < (enc (d + 1) k).length), lab (s + size r + 1 + j) = ((enc (d + 1) k)[j]).1 ∧ D (s + size r + 1 + j) = (((enc (d + 1) k)[j]).2 : Int) := by
    intro j hj
    have h1 := h.at_ (size r + 1 + j) (by omega)
    have e1 : (enc d (snoc r v k))[size r + 1 + j]'(by omega) = (enc (d + 1) k)[j] := by
      simp only [enc]
      rw [List.getElem_append_right (by omega)]
      have e : size r + 1 + j - (enc d r).length = j + 1 := by omega
      simp only [e, List.getElem_cons_succ]
    rw [e1] at h1
    rw [show s + size r + 1 + j = s + (size r + 1 + j) by omega]
    exact h1
  refine ⟨⟨by omega, fun j hj => ?_, fun _ => by rw [hmid.2]; exact Int.le_refl _⟩, hmid, ⟨by omega, hin, fun hlt => ?_⟩, fun t h1 h2 => ?_⟩
  · have h1 := h.at_ j (by omega)
    have e1 : (enc d (snoc r v k))[j]'(by omega) = (enc d r)[j] := by
      simp only [enc]
      rw [List.getElem_append_left hj]
    rw [e1] at h1
    exact h1
  · have := h.end_ (by rw [size]; omega)
    rw [size, show s + (size r + size k + 1) = s + size r + 1 + size k by omega] at this
    omega
  · rw [size] at h2
    obtain ⟨j, rfl⟩ : ∃ j, t = s + size r + 1 + j := ⟨t - (s + size r + 1), by omega⟩
    have h3 := hin j (by omega)
    have h4 := enc_deep k (d + 1) _ (List.getElem_mem (show j < (enc (d + 1) k).length by omega))
    rw [h3.2]
    omega
theorem Seg.eo {s d : Nat} {r : Fo} {v : Int} {k : Fo} (h : Seg n D lab s d (snoc r v k)) : eo n D (s + size r) = s + size (snoc r v k) := by
  obtain ⟨_, ⟨_, h2⟩, _, h4⟩ := h.parts
  have hle := h.le
  refine eo_eq (by rw [size]; omega) hle (fun t a b => by rw [h2]; exact h4 t a b) (fun hlt => by rw [h2]; exact h.end_ hlt)
/-- the forest by places is the forest itself -/
theorem fo_seg (hv : Vd n D) {p : List Nat} (ho : Order n D p) : ∀ (F : Fo) (s d : Nat), d ≤ s → Seg n D lab s d F → (pt hv p ho lab).fo (s - d) (s - d + size F) = F
  | nil, s, d, _, _ => Dist.PT.fo_nil _ (by simp [size])
  | snoc r v k, s, d, hd, h => by
    obtain ⟨h1, ⟨h2, h3⟩, h4, h5⟩ := h.parts
    have he := h.eo
    have hle := h.le
    have i1 := fo_seg hv ho r s d hd h1
    have i2 := fo_seg hv ho k (s + size r + 1) (d + 1) (by omega) h4
    rw [size] at hle he
    have hc : s + size r < n := by omega
    have hrk : rnk n D (s + size r) = s - d + size r + size k := by
      unfold rnk
      rw [he, h3]
      omega
    have hlf : lft D (s + size r) = s - d + size r := by
      unfold lft
      rw [h3]
      omega
    have hpos := ho.at_ (show rnk n D (s + size r) < n from rnk_lt hv hc)
    have hp := rnk_inj hv hpos.1 hc hpos.2
    rw [hrk] at hp
    have hlt : s - d + size r + size k < n := by rw [← hrk]; exact rnk_lt hv hc
    have e1 : (pt hv p ho lab).la (s - d + size r + size k) = s - d + size r := by
      show lft D (p.getD (s - d + size r + size k) 0) = _
      rw [hp, hlf]
    have e2 : (pt hv p ho lab).lab (s - d + size r + size k) = v := by
      show lab (p.getD (s - d + size r + size k) 0) = _
      rw [hp, h2]
    rw [size, show s - d + (size r + size k + 1) = s - d + size r + size k + 1 by omega, Dist.PT.fo_snoc _ (by omega) hlt, e1, e2, show max (s - d) (s - d + size r) = s - d + size r by omega, i1]
    rw [show s + size r + 1 - (d + 1) = s - d + size r by omega] at i2
    rw [i2]
/-- the kids at one depth -/
def kidsR (D : Nat → Int) (s e d : Nat) : List Nat := (List.range' s (e - s)).filter fun t => decide (D t = (d : Int))
theorem kidsR_seg {s d : Nat} {r : Fo} {v : Int} {k : Fo} (h : Seg n D lab s d (snoc r v k)) : kidsR D s (s + size (snoc r v k)) d = kidsR D s (s + size r) d ++ [s + size r] := by
  obtain ⟨h1, ⟨h2, h3⟩, h4, h5⟩ := h.parts
  unfold kidsR
  rw [size] at h5 ⊢
  rw [show s + (size r + size k + 1) - s = size r + (1 + size k) by omega, show s + size r - s = size r by omega, ← List.range'_append_1, ← List.range'_append_1, List.filter_append, List.filter_append]
  have e1 : (List.range' (s + size r + 1) (size k)).filter (fun t => decide (D t = (d : Int))) = [] := by
    rw [List.filter_eq_nil_iff]
    intro t ht
    rw [List.mem_range'_1] at ht
    have := h5 t (by omega) (by omega)
    simp only [decide_eq_true_eq]
    omega
  rw [e1, List.append_nil]
  simp [h3]
theorem kids_seg {s d : Nat} {r : Fo} {v : Int} {k : Fo} (h : Seg n D lab s d (snoc r v k)) : kids n D (s + size r) = kidsR D (s + size r + 1) (s + size r + 1 + size k) (d + 1) := by
  obtain ⟨h1, ⟨h2, h3⟩, h4, h5⟩ := h.parts
  have he := h.eo
  unfold kids kidsR
  rw [he, h3, size, show s + (size r + size k + 1) - (s + size r + 1) = s + size r + 1 + size k - (s + size r + 1) by omega]
  congr 1
/-- the leaves -/
def leaves : Fo → Nat
  | nil => 0
  | snoc r _ nil => leaves r + 1
  | snoc r _ (snoc a b c) => leaves r + leaves (snoc a b c)
theorem leaves_app (A : Fo) : ∀ B : Fo, leaves (app A B) = leaves A + leaves B
  | nil => rfl
  | snoc r v nil => by rw [app, leaves, leaves, leaves_app A r]; omega
  | snoc r v (snoc a b c) => by rw [app, leaves, leaves, leaves_app A r]; omega
theorem app_ne_nil (A r : Fo) (v : Int) (k : Fo) : ∃ a b c, app (snoc r v k) A = snoc a b c := by
  cases A with
  | nil => exact ⟨r, v, k, rfl⟩
  | snoc x y z => exact ⟨_, y, z, rfl⟩
theorem leaves_rev : ∀ F : Fo, leaves (rev F) = leaves F
  | nil => rfl
  | snoc r v nil => by
    rw [rev, leaves_app, leaves_rev r, leaves]
    show leaves (snoc nil v nil) + leaves r = _
    rw [leaves, leaves]
    omega
  | snoc r v (snoc a b c) => by
    have h1 := leaves_rev (snoc a b c)
    rw [rev, leaves_app, leaves_rev r, leaves]
    have h2 : ∃ a' b' c', rev (snoc a b c) = snoc a' b' c' := by
      rw [rev]
      exact app_ne_nil _ _ _ _
    obtain ⟨a', b', c', e⟩ := h2
    rw [e] at h1 ⊢
    rw [leaves, leaves, h1]
    omega
/-- how many have nothing below them, from place s on -/
theorem leaves_seg : ∀ (F : Fo) (s d : Nat), Seg n D lab s d F → ((List.range' s (size F)).filter fun t => decide (eo n D t = t + 1)).length = leaves F
  | nil, _, _, _ => rfl
  | snoc r v nil, s, d, h => by
    obtain ⟨h1, _, _, _⟩ := h.parts
    have he := h.eo
    have i1 := leaves_seg r s d h1
    rw [size, size] at he
    rw [size, size, show size r + 0 + 1 = size r + 1 by omega, ← List.range'_append_1, List.filter_append, List.length_append, i1, leaves]
    simp [show eo n D (s + size r) = s + size r + 1 by omega]
  | snoc r v (snoc a b c), s, d, h => by
    obtain ⟨h1, _, h4, _⟩ := h.parts
    have he := h.eo
    have i1 := leaves_seg r s d h1
    have i2 := leaves_seg (snoc a b c) (s + size r + 1) (d + 1) h4
    rw [size] at he
    rw [size, show size r + size (snoc a b c) + 1 = size r + (1 + size (snoc a b c)) by omega, ← List.range'_append_1, ← List.range'_append_1, List.filter_append, List.filter_append, List.length_append, List.length_append, i1, i2, leaves]
    have hne : ¬ eo n D (s + size r) = s + size r + 1 := by rw [he]; simp only [size]; omega
    simp [hne]
end
end Go.Proofs.Ytbmkobanpakohaa.Tree
