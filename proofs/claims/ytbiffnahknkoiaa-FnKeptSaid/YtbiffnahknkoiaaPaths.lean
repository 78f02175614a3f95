/- The path of a node leads to it and no other path does; kids one behind the other; plain numbers, each fact under the bounds that it names. -/
import Derived.Test.YtbiffnahknkoiaaTree
namespace Go.Proofs.Ytbiffnahknkoiaa.Tree
set_option linter.unusedVariables false

/-- from a kid on: the kid, and the kids from its end on -/
theorem kids_from {n : Nat} {D : Nat → Int} {i j : Nat} (h1 : i < j) (h2 : j < eo n D i) (hi : i < n) (hd : D j = D i + 1) :
    (List.range' j (eo n D i - j)).filter (fun k => decide (D k = D i + 1)) = j :: (List.range' (eo n D j) (eo n D i - eo n D j)).filter (fun k => decide (D k = D i + 1)) := by
  have g := @eo_gt n D j
  have ne := eo_nest hi h1 h2
  have e1 : eo n D i - j = 1 + ((eo n D j - (j + 1)) + (eo n D i - eo n D j)) := by omega
  have key : (List.range' (j + 1) (eo n D j - (j + 1))).filter (fun k => decide (D k = D i + 1)) = [] := by
    rw [List.filter_eq_nil_iff]
    intro t ht
    rw [List.mem_range'_1] at ht
    have := eo_in (n := n) (D := D) (i := j) (t := t) (by omega) (by omega)
    simp only [decide_eq_true_eq]
    omega
  rw [e1, ← List.range'_append_1, List.filter_append, ← List.range'_append_1, List.filter_append, key]
  have e2 : j + 1 + (eo n D j - (j + 1)) = eo n D j := by omega
  rw [e2]
  simp [hd]

/-- in a tree: the place behind a kid's end is a kid, or the node's own end -/
theorem next_kid {n : Nat} {D : Nat → Int} {i j : Nat} (hv : Vd n D) (h1 : i < j) (h2 : j < eo n D i) (hi : i < n) (hd : D j = D i + 1) (h : eo n D j < eo n D i) : D (eo n D j) = D i + 1 := by
  have g := @eo_gt n D j
  have l := @eo_le n D i hi
  have a := eo_in (n := n) (D := D) (i := i) (t := eo n D j) (by omega) h
  have b := eo_end (n := n) (D := D) (i := j) (by omega)
  omega

theorem first_kid {n : Nat} {D : Nat → Int} {i : Nat} (hv : Vd n D) (hi : i < n) (h : i + 1 < eo n D i) : D (i + 1) = D i + 1 := by
  have l := @eo_le n D i hi
  have a := eo_in (n := n) (D := D) (i := i) (t := i + 1) (by omega) h
  have b := (hv.2.2 (i + 1) (by omega) (by omega)).2
  have e : i + 1 - 1 = i := by omega
  rw [e] at b
  omega

/-- what the kids' parts hold together, where each holds as much as stands there -/
theorem kids_sum {α : Type} {n : Nat} {D : Nat → Int} {i : Nat} (hv : Vd n D) (hi : i < n) (g : Nat → List α) (hg : ∀ k, k ∈ kids n D i → (g k).length = eo n D k - k) :
    ((kids n D i).flatMap g).length = eo n D i - (i + 1) := by
  have key : ∀ m j, eo n D i - j ≤ m → i < j → j ≤ eo n D i → (j < eo n D i → D j = D i + 1) →
      (((List.range' j (eo n D i - j)).filter (fun k => decide (D k = D i + 1))).flatMap g).length = eo n D i - j := by
    intro m
    induction m with
    | zero =>
      intro j h1 h2 h3 h4
      have e : eo n D i - j = 0 := by omega
      rw [e]; rfl
    | succ m ih =>
      intro j h1 h2 h3 h4
      by_cases hj : j < eo n D i
      · have hd := h4 hj
        have g1 := @eo_gt n D j
        have ne := eo_nest hi h2 hj
        rw [kids_from h2 hj hi hd, List.flatMap_cons, List.length_append, ih (eo n D j) (by omega) (by omega) ne (fun h => next_kid hv h2 hj hi hd h), hg j (mem_kids.2 ⟨h2, hj, hd⟩)]
        omega
      · have e : eo n D i - j = 0 := by omega
        rw [e]; rfl
  have g0 := @eo_gt n D i
  exact key (eo n D i) (i + 1) (by omega) (by omega) (by omega) (fun h => first_kid hv hi h)

/-- which kid of its parent a node is -/
def rank (n : Nat) (D : Nat → Int) (i : Nat) : Nat := (kids n D (par D i).toNat).idxOf i

/-- the way down along numbers of kids -/
def goDown (n : Nat) (D : Nat → Int) : Nat → List Int → Option Nat
  | i, [] => some i
  | i, k :: r => if 0 ≤ k ∧ k < ((kids n D i).length : Int) then goDown n D ((kids n D i).getD k.toNat 0) r else none

/-- the path to a node, by rounds -/
def pathF (n : Nat) (D : Nat → Int) : Nat → Nat → List Int
  | 0, _ => []
  | f + 1, i => if i = 0 then [] else pathF n D f (par D i).toNat ++ [(rank n D i : Int)]

def pathTo (n : Nat) (D : Nat → Int) (i : Nat) : List Int := pathF n D i i

theorem kids_lt {n : Nat} {D : Nat → Int} {i k : Nat} (hi : i < n) (h : k ∈ kids n D i) : k < n := by
  have := (mem_kids.1 h).2.1
  have := @eo_le n D i hi
  omega

theorem pathF_more {n : Nat} {D : Nat → Int} (hv : Vd n D) : ∀ f i, i < n → i ≤ f → pathF n D f i = pathTo n D i := by
  intro f
  induction f using Nat.strongRecOn with
  | _ f ih =>
    intro i hi hf
    cases f with
    | zero => obtain rfl : i = 0 := by omega
              rfl
    | succ f =>
      by_cases h0 : i = 0
      · subst h0; rfl
      · obtain ⟨p, e, a, _⟩ := par_spec hv (by omega) hi
        obtain ⟨g, rfl⟩ : ∃ g, i = g + 1 := ⟨i - 1, by omega⟩
        unfold pathTo
        rw [pathF, pathF, if_neg h0, if_neg h0, e]
        simp only [Int.toNat_natCast]
        rw [ih f (by omega) p (by omega) (by omega)]
        by_cases hg : g = f
        · subst hg; rw [ih g (by omega) p (by omega) (by omega)]
        · rw [ih g (by omega) p (by omega) (by omega)]

theorem pathTo_eq {n : Nat} {D : Nat → Int} (hv : Vd n D) {i : Nat} (h0 : 0 < i) (hi : i < n) : pathTo n D i = pathTo n D (par D i).toNat ++ [(rank n D i : Int)] := by
  obtain ⟨p, e, a, _⟩ := par_spec hv h0 hi
  obtain ⟨g, rfl⟩ : ∃ g, i = g + 1 := ⟨i - 1, by omega⟩
  have h1 : pathTo n D (g + 1) = pathF n D g (par D (g + 1)).toNat ++ [(rank n D (g + 1) : Int)] := by
    unfold pathTo
    rw [pathF, if_neg (by omega)]
  rw [h1, e]
  simp only [Int.toNat_natCast]
  rw [pathF_more hv g p (by omega) (by omega)]

theorem goDown_snoc (n : Nat) (D : Nat → Int) : ∀ (q : List Int) (i : Nat) (k : Int), goDown n D i (q ++ [k]) = (goDown n D i q).bind fun p => goDown n D p [k] := by
  intro q
  induction q with
  | nil => intro i k; rfl
  | cons x q ih =>
    intro i k
    simp only [List.cons_append, goDown]
    split
    · exact ih _ _
    · rfl

theorem getD_idxOf {l : List Nat} {x d : Nat} (h : x ∈ l) : l.getD (l.idxOf x) d = x := by
  have hl := List.idxOf_lt_length_of_mem h
  rw [List.getD_eq_getElem?_getD, List.getElem?_eq_getElem hl]
  exact List.getElem_idxOf hl

/-- the path of a node leads to it -/
theorem goDown_pathTo {n : Nat} {D : Nat → Int} (hv : Vd n D) : ∀ i, i < n → goDown n D 0 (pathTo n D i) = some i := by
  intro i
  induction i using Nat.strongRecOn with
  | _ i ih =>
    intro hi
    by_cases h0 : i = 0
    · subst h0; rfl
    · obtain ⟨p, e, a, b, c, d, m⟩ := par_spec hv (by omega) hi
      rw [pathTo_eq hv (by omega) hi, goDown_snoc, e]
      simp only [Int.toNat_natCast]
      rw [ih p a (by omega)]
      simp only [Option.bind_some, goDown]
      have hr : rank n D i = (kids n D p).idxOf i := by unfold rank; rw [e]; rfl
      have hl := List.idxOf_lt_length_of_mem m
      rw [hr, if_pos ⟨by omega, by omega⟩]
      simp only [Int.toNat_natCast]
      rw [getD_idxOf m]

/-- its length is the node's depth -/
theorem pathTo_length {n : Nat} {D : Nat → Int} (hv : Vd n D) : ∀ i, i < n → ((pathTo n D i).length : Int) = D i := by
  intro i
  induction i using Nat.strongRecOn with
  | _ i ih =>
    intro hi
    by_cases h0 : i = 0
    · subst h0; rw [hv.2.1]; rfl
    · obtain ⟨p, e, a, b, c, d, m⟩ := par_spec hv (by omega) hi
      have := ih p a (by omega)
      rw [pathTo_eq hv (by omega) hi, e]
      simp only [Int.toNat_natCast, List.length_append, List.length_singleton]
      omega

theorem goDown_lt {n : Nat} {D : Nat → Int} : ∀ (q : List Int) (i k : Nat), i < n → goDown n D i q = some k → k < n := by
  intro q
  induction q with
  | nil => intro i k hi h; simp only [goDown, Option.some.injEq] at h; omega
  | cons x q ih =>
    intro i k hi h
    simp only [goDown] at h
    split at h
    · rename_i hx
      refine ih _ k ?_ h
      have hl : x.toNat < (kids n D i).length := by omega
      rw [List.getD_eq_getElem?_getD, List.getElem?_eq_getElem hl]
      exact kids_lt hi (List.getElem_mem hl)
    · cases h

theorem kids_nodup {n : Nat} {D : Nat → Int} {i : Nat} : (kids n D i).Nodup := (kids_sorted (n := n) (D := D) (i := i)).imp (fun h => by omega)

theorem idxOf_getD {l : List Nat} (hn : l.Nodup) {j d : Nat} (h : j < l.length) : l.idxOf (l.getD j d) = j := by
  rw [List.getD_eq_getElem?_getD, List.getElem?_eq_getElem h]
  exact List.Nodup.idxOf_getElem hn j h

/-- and no other path does -/
theorem pathTo_goDown {n : Nat} {D : Nat → Int} (hv : Vd n D) (q : List Int) : ∀ k, goDown n D 0 q = some k → pathTo n D k = q := by
  have key : ∀ (m : Nat) (q : List Int), q.length = m → ∀ k, goDown n D 0 q = some k → pathTo n D k = q := by
    intro m
    induction m with
    | zero =>
      intro q hq k h
      obtain rfl : q = [] := List.length_eq_zero_iff.1 hq
      simp only [goDown, Option.some.injEq] at h
      subst h; rfl
    | succ m ih =>
      intro q hq k h
      obtain ⟨q', r, rfl⟩ : ∃ q' r, q = q' ++ [r] := ⟨q.dropLast, q.getLast (by intro e; subst e; simp at hq), (List.dropLast_concat_getLast _).symm⟩
      rw [goDown_snoc] at h
      obtain ⟨p, hp, h⟩ := Option.bind_eq_some_iff.1 h
      have hpn := goDown_lt q' 0 p hv.1 hp
      simp only [goDown] at h
      split at h
      · rename_i hr
        simp only [Option.some.injEq] at h
        have hl : r.toNat < (kids n D p).length := by omega
        have hk : k ∈ kids n D p := by
          rw [← h, List.getD_eq_getElem?_getD, List.getElem?_eq_getElem hl]
          exact List.getElem_mem hl
        have hpar := par_of_kid hk
        have h0 : p < k := (mem_kids.1 hk).1
        rw [pathTo_eq hv (by omega) (kids_lt hpn hk), hpar]
        simp only [Int.toNat_natCast]
        rw [ih q' (by simpa using hq) p hp]
        congr 2
        unfold rank
        rw [hpar]
        simp only [Int.toNat_natCast]
        rw [← h, idxOf_getD kids_nodup hl]
        omega
      · cases h
  exact key q.length q rfl

end Go.Proofs.Ytbiffnahknkoiaa.Tree
