/- What the printed functions of the law FnExactDomRelabel come to, function by function, from some number of rounds on; each under the bounds that it names. -/
import Derived.Test.YtmbhlfcpdbbogabQFnExactDomRelabela
namespace Go.Proofs.Ytmbhlfcpdbbogab.QFnExactDomRelabel
open Go.RowKit Go.Proofs.Ytmbhlfcpdbbogab.PFnExactDomRelabel Go.Proofs.YtmbhlfcpdbbogabW.PrintWords Go.Proofs.YtmbhlfcpdbbogabW.PrintLast Go.Proofs.YtmbhlfcpdbbogabW.PrintMore Go.Proofs.Ytmbhlfcpdbbogab.EvAid Go.Proofs.Ytmbhlfcpdbbogab
set_option linter.unusedVariables false
set_option linter.unusedSimpArgs false

/-! #### _kidsTo -/
/-- the kids up to place j -/
def kidsTo (l : List S55) (i j : Nat) : List Int := ((List.range' (i + 1) (j - (i + 1))).filter fun k => decide (dpA l k = dpA l i + 1)).map Int.ofNat
theorem kidsTo_step (l : List S55) (i j : Nat) (h : i < j) : kidsTo l i (j + 1) = kidsTo l i j ++ (if dpA l j = dpA l i + 1 then [(j : Int)] else []) := by
  unfold kidsTo
  have e : j + 1 - (i + 1) = (j - (i + 1)) + 1 := by omega
  have e2 : i + 1 + 1 * (j - (i + 1)) = j := by omega
  rw [e, List.range'_concat, List.filter_append, List.map_append, e2]
  congr 1
  by_cases hd : dpA l j = dpA l i + 1
  · rw [if_pos hd]; simp [hd]
  · rw [if_neg hd]; simp [hd]
theorem kidsTo_length (l : List S55) (i j : Nat) : (kidsTo l i j).length ≤ j := by
  unfold kidsTo
  rw [List.length_map]
  have := List.length_filter_le (fun k => decide (dpA l k = dpA l i + 1)) (List.range' (i + 1) (j - (i + 1)))
  rw [List.length_range'] at this
  omega
theorem kidsI_nat {l : List S55} {i : Nat} (h : hasB l (i : Int) = true) : kidsI l (i : Int) = (Tree.kids l.length (dpA l) i).map Int.ofNat := by unfold kidsI; rw [if_pos h]; rfl

/-! #### _nodeAt -/
/-- the number of what was found, or -1 -/
def optI : Option Nat → Int
  | some k => (k : Int)
  | none => -1
/-- the node that a path leads to, or -1 -/
def nodeI (l : List S55) (p : List Int) : Int := if treeOk l = true then optI (Tree.goDown l.length (dpA l) 0 p) else -1
theorem nodeI_nat {l : List S55} {p : List Int} (h : 0 ≤ nodeI l p) : ∃ k : Nat, nodeI l p = (k : Int) ∧ k < l.length ∧ treeOk l = true ∧ Tree.goDown l.length (dpA l) 0 p = some k := by
  unfold nodeI at h ⊢
  by_cases ht : treeOk l = true
  · rw [if_pos ht] at h ⊢
    have h24 := (treeOk_iff.1 ht).1
    cases hg : Tree.goDown l.length (dpA l) 0 p with
    | none => rw [hg] at h; simp [optI] at h
    | some k => exact ⟨k, rfl, Tree.goDown_lt p 0 k (by omega) hg, ht, rfl⟩
  · rw [if_neg ht] at h; omega
theorem kidsI_ok {l : List S55} {i : Nat} (ht : treeOk l = true) (hi : i < l.length) : kidsI l (i : Int) = (Tree.kids l.length (dpA l) i).map Int.ofNat := by
  unfold kidsI
  rw [if_pos (hasB_iff.2 ⟨ht, by omega, by omega⟩), Int.toNat_natCast]
theorem rd_nat (ks : List Nat) (x : Int) (h0 : 0 ≤ x) (h : x < (ks.length : Int)) : rd (ks.map Int.ofNat) x = ((ks.getD x.toNat 0 : Nat) : Int) := by
  unfold rd
  rw [List.getD_eq_getElem?_getD, List.getElem?_map, List.getD_eq_getElem?_getD, List.getElem?_eq_getElem (by omega)]
  rfl
theorem drop_rd (p : List Int) (j : Nat) (h : j < p.length) : p.drop j = rd p (j : Int) :: p.drop (j + 1) := by
  rw [List.drop_eq_getElem_cons h]
  congr 1
  simp [rd, h]

/-! #### _domFrom -/
/-- the first and the last of a row, -1 where it is empty -/
def firstI (K : List Int) : Int := if (K.length : Int) > 0 then rd K 0 else -1
def lastI (K : List Int) : Int := if (K.length : Int) > 0 then rd K ((K.length : Int) - 1) else -1
/-- what stands ahead of place r, and behind it -/
def prevI (K : List Int) (r : Int) : Int := if r > 0 then rd K (r - 1) else -1
def nextI (K : List Int) (r : Int) : Int := if r + 1 < (K.length : Int) then rd K (r + 1) else -1
/-- a tree's node with its pointers -/
def nodeD (l : List S55) (j : Nat) : S90 :=
  ⟨true, lbA l j, parI l (j : Int), firstI (kidsI l (j : Int)), lastI (kidsI l (j : Int)),
    if parI l (j : Int) ≥ 0 then prevI (kidsI l (parI l (j : Int))) (rankI l (j : Int)) else -1,
    if parI l (j : Int) ≥ 0 then nextI (kidsI l (parI l (j : Int))) (rankI l (j : Int)) else -1⟩
def domT (l : List S55) : List S90 := if treeOk l = true then (List.range l.length).map (nodeD l) else []
theorem idxJ_range (K : List Int) (x : Int) : idxJ K x = -1 ∨ (0 ≤ idxJ K x ∧ idxJ K x < (K.length : Int)) := by
  unfold idxJ
  by_cases h : x ∈ K
  · rw [if_pos h]
    have := List.idxOf_lt_length_of_mem h
    omega
  · rw [if_neg h]; exact .inl rfl
theorem domFrom_snoc (l : List S55) (i : Nat) : (List.range i).map (nodeD l) ++ [nodeD l i] = (List.range (i + 1)).map (nodeD l) := by
  rw [List.range_succ, List.map_append]; rfl
theorem kidsI_neg (l : List S55) {p : Int} (h : p < 0) : kidsI l p = [] := by
  unfold kidsI
  rw [if_neg]
  intro hh
  have := (hasB_iff.1 hh).2.1
  omega
theorem kids_of_par {l : List S55} {i : Nat} (ht : treeOk l = true) (hi : i < l.length) (h : parI l (i : Int) ≥ 0) : ((kidsI l (parI l (i : Int))).length : Int) > 0 := by
  have hh : hasB l (i : Int) = true := hasB_iff.2 ⟨ht, by omega, by omega⟩
  have e : parI l (i : Int) = Tree.par (dpA l) i := by unfold parI; rw [if_pos hh]; rfl
  have hv := treeOk_vd ht
  by_cases h0 : i = 0
  · subst h0
    rw [e, Tree.par_root] at h
    omega
  · obtain ⟨p, e1, a, _, _, _, m⟩ := Tree.par_spec hv (by omega) hi
    rw [e, e1, kidsI_ok ht (by omega)]
    have := List.length_pos_of_mem m
    simp only [List.length_map]
    omega

/-! #### _pathH -/
/-- the path of a node; empty where there is no such node -/
noncomputable def pathH (l : List S55) (i : Int) : List Int := if hasB l i = true then Tree.pathTo l.length (dpA l) i.toNat else []
theorem parI_nat {l : List S55} {i : Nat} (ht : treeOk l = true) (hi : i < l.length) : parI l (i : Int) = Tree.par (dpA l) i := by
  unfold parI
  rw [if_pos (hasB_iff.2 ⟨ht, by omega, by omega⟩)]; rfl
theorem rankI_nat {l : List S55} {i : Nat} (ht : treeOk l = true) (hi : i < l.length) (h0 : 0 < i) : rankI l (i : Int) = ((Tree.rank l.length (dpA l) i : Nat) : Int) := by
  obtain ⟨p, e, a, _, _, _, m⟩ := Tree.par_spec (treeOk_vd ht) h0 hi
  unfold rankI Tree.rank
  rw [parI_nat ht hi, e, if_neg (by omega), kidsI_ok ht (by omega), Int.toNat_natCast]
  unfold idxJ
  have hm : ((i : Nat) : Int) ∈ (Tree.kids l.length (dpA l) p).map Int.ofNat := List.mem_map.2 ⟨i, m, rfl⟩
  rw [if_pos hm]
  congr 1
  have hn : ((Tree.kids l.length (dpA l) p).map Int.ofNat).Nodup := by
    refine List.Pairwise.map _ ?_ (Tree.kids_nodup (n := l.length) (D := dpA l) (i := p))
    intro a b hab hc
    exact hab (Int.ofNat.inj hc)
  have h1 := List.idxOf_lt_length_of_mem m
  have h2 : ((Tree.kids l.length (dpA l) p).map Int.ofNat)[(Tree.kids l.length (dpA l) p).idxOf i]'(by simpa using h1) = ((i : Nat) : Int) := by
    rw [List.getElem_map, List.getElem_idxOf h1]; rfl
  have h3 := List.Nodup.idxOf_getElem hn ((Tree.kids l.length (dpA l) p).idxOf i) (by simpa using h1)
  rw [h2] at h3
  exact h3
theorem pathH_node {l : List S55} {i : Nat} (ht : treeOk l = true) (hi : i < l.length) : pathH l (i : Int) = Tree.pathTo l.length (dpA l) i := by
  unfold pathH
  rw [if_pos (hasB_iff.2 ⟨ht, by omega, by omega⟩), Int.toNat_natCast]
theorem pathH_length {l : List S55} {i : Nat} (ht : treeOk l = true) (hi : i < l.length) : ((pathH l (i : Int)).length : Int) = dpA l i := by
  rw [pathH_node ht hi]
  exact Tree.pathTo_length (treeOk_vd ht) i hi
theorem nodeI_pathH {l : List S55} {i : Nat} (ht : treeOk l = true) (hi : i < l.length) : nodeI l (pathH l (i : Int)) = (i : Int) := by
  unfold nodeI
  rw [if_pos ht, pathH_node ht hi, Tree.goDown_pathTo (treeOk_vd ht) i hi]
  rfl
theorem pathH_nodeI {l : List S55} {q : List Int} (h : 0 ≤ nodeI l q) : pathH l (nodeI l q) = q := by
  obtain ⟨k, e, hk, ht, hg⟩ := nodeI_nat h
  rw [e, pathH_node ht hk]
  exact Tree.pathTo_goDown (treeOk_vd ht) q k hg

/-! #### _visit -/
/-- the begins of a node's kids and its end, one behind the other -/
theorem bounds_zero {n : Nat} {D : Nat → Int} {i : Nat} (hv : Tree.Vd n D) (hi : i < n) : (Tree.bounds n D i).getD 0 0 = i + 1 := by
  have g := @Tree.eo_gt n D i
  have hb : Tree.IsB n D i (i + 1) := by
    refine ⟨by omega, ?_⟩
    by_cases h : i + 1 < Tree.eo n D i
    · exact .inr ⟨h, Tree.first_kid hv hi h⟩
    · exact .inl (by omega)
  have := (Tree.bounds_at hb).1
  rwa [Tree.cnt_self] at this
theorem bounds_kid {n : Nat} {D : Nat → Int} {i r : Nat} (h : r < (Tree.kids n D i).length) : (Tree.bounds n D i).getD r 0 = (Tree.kids n D i).getD r 0 := by
  unfold Tree.bounds
  exact Tree.getD_left h
theorem bounds_last {n : Nat} {D : Nat → Int} {i : Nat} : (Tree.bounds n D i).getD (Tree.kids n D i).length 0 = Tree.eo n D i := by
  unfold Tree.bounds
  rw [Tree.getD_right (Nat.le_refl _), Nat.sub_self]
  rfl
theorem kid_mem {n : Nat} {D : Nat → Int} {i r : Nat} (h : r < (Tree.kids n D i).length) : (Tree.kids n D i).getD r 0 ∈ Tree.kids n D i := by
  rw [List.getD_eq_getElem?_getD, List.getElem?_eq_getElem h]
  exact List.getElem_mem h
theorem bounds_succ {n : Nat} {D : Nat → Int} {i r : Nat} (hv : Tree.Vd n D) (hi : i < n) (h : r < (Tree.kids n D i).length) : (Tree.bounds n D i).getD (r + 1) 0 = Tree.eo n D ((Tree.kids n D i).getD r 0) := by
  have hm := kid_mem h
  have hr := Tree.idxOf_getD Tree.kids_nodup (l := Tree.kids n D i) (d := 0) h
  rw [Tree.rank_cnt hm] at hr
  generalize hk : (Tree.kids n D i).getD r 0 = k at *
  obtain ⟨k1, k2, k3⟩ := Tree.mem_kids.1 hm
  have g := @Tree.eo_gt n D k
  have ne := Tree.eo_nest hi k1 k2
  have hb : Tree.IsB n D i (Tree.eo n D k) := by
    refine ⟨by omega, ?_⟩
    by_cases h2 : Tree.eo n D k < Tree.eo n D i
    · exact .inr ⟨h2, Tree.next_kid hv k1 k2 hi k3 h2⟩
    · exact .inl (by omega)
  have h1 := (Tree.bounds_at hb).1
  have c1 := Tree.cnt_split D (D i + 1) (a := i + 1) (b := k) (c := Tree.eo n D k) (by omega) (by omega)
  have c2 := Tree.cnt_split D (D i + 1) (a := k) (b := k + 1) (c := Tree.eo n D k) (by omega) (by omega)
  have c3 := Tree.cnt_one k3
  have c4 : Tree.cnt D (D i + 1) (k + 1) (Tree.eo n D k) = 0 := Tree.cnt_none (fun t t1 t2 => by have := Tree.eo_in (n := n) (D := D) (i := k) (t := t) (by omega) t2; omega)
  rw [c1, hr, c2, c3, c4] at h1
  exact h1
theorem eo_root {n : Nat} {D : Nat → Int} (hv : Tree.Vd n D) : Tree.eo n D 0 = n := by
  obtain ⟨v1, v2, v3⟩ := hv
  exact Tree.eo_eq (by omega) (Nat.le_refl _) (fun t h1 h2 => by have := (v3 t h1 h2).1; omega) (fun h => absurd h (Nat.lt_irrefl _))
/-- the first m places, as numbers -/
def upTo (m : Nat) : List Int := (List.range m).map Int.ofNat
theorem upTo_length (m : Nat) : (upTo m).length = m := by simp [upTo]
theorem upTo_succ (m : Nat) : upTo m ++ [(m : Int)] = upTo (m + 1) := by unfold upTo; rw [List.range_succ, List.map_append]; rfl
theorem mem_upTo {m : Nat} {x : Int} : x ∈ upTo m ↔ 0 ≤ x ∧ x < (m : Int) := by
  unfold upTo
  rw [List.mem_map]
  constructor
  · rintro ⟨a, ha, rfl⟩
    have := List.mem_range.1 ha
    exact ⟨Int.natCast_nonneg a, by show ((a : Nat) : Int) < _; omega⟩
  · rintro ⟨h1, h2⟩
    exact ⟨x.toNat, List.mem_range.2 (by omega), by show ((x.toNat : Nat) : Int) = x; omega⟩
theorem upTo_rd {m i : Nat} (h : i < m) : rd (upTo m) (i : Int) = (i : Int) := by
  unfold rd upTo
  rw [Int.toNat_natCast, List.getD_eq_getElem?_getD, List.getElem?_map, List.getElem?_range h]
  rfl
/-- what stands at a place of the linked tree of a tree -/
theorem domT_at {l : List S55} {i : Nat} (ht : treeOk l = true) (hi : i < l.length) : rd_T90 (domT l) (i : Int) = nodeD l i := by
  unfold domT
  rw [if_pos ht]
  show ((List.range l.length).map (nodeD l)).getD i _ = _
  rw [List.getD_eq_getElem?_getD, List.getElem?_map, List.getElem?_range hi]
  rfl
theorem domT_len {l : List S55} (ht : treeOk l = true) : (domT l).length = l.length := by
  unfold domT
  rw [if_pos ht]
  simp
section
variable {l : List S55} {i : Nat} (ht : treeOk l = true) (hi : i < l.length)
include ht hi
theorem kids_len : (kidsI l (i : Int)).length = (Tree.kids l.length (dpA l) i).length := by rw [kidsI_ok ht hi, List.length_map]
theorem kids_rd {r : Nat} (h : r < (Tree.kids l.length (dpA l) i).length) : rd (kidsI l (i : Int)) (r : Int) = (((Tree.kids l.length (dpA l) i).getD r 0 : Nat) : Int) := by
  rw [kidsI_ok ht hi, rd_nat _ _ (by omega) (by omega), Int.toNat_natCast]
/-- the kid at place r, -1 behind the last -/
def kidV (l : List S55) (i r : Nat) : Int := if r < (Tree.kids l.length (dpA l) i).length then (((Tree.kids l.length (dpA l) i).getD r 0 : Nat) : Int) else -1
/-- the kid ahead of place r, -1 ahead of the first -/
def lastV (l : List S55) (i r : Nat) : Int := if r = 0 then -1 else (((Tree.kids l.length (dpA l) i).getD (r - 1) 0 : Nat) : Int)
theorem first_is : firstI (kidsI l (i : Int)) = kidV l i 0 := by
  unfold firstI kidV
  rw [kids_len ht hi]
  by_cases h : 0 < (Tree.kids l.length (dpA l) i).length
  · rw [if_pos (by omega), if_pos h]
    exact kids_rd ht hi h
  · rw [if_neg (by omega), if_neg h]
theorem last_is : lastI (kidsI l (i : Int)) = lastV l i (Tree.kids l.length (dpA l) i).length := by
  unfold lastI lastV
  rw [kids_len ht hi]
  by_cases h : 0 < (Tree.kids l.length (dpA l) i).length
  · rw [if_pos (by omega), if_neg (by omega)]
    have e : (((Tree.kids l.length (dpA l) i).length : Nat) : Int) - 1 = (((Tree.kids l.length (dpA l) i).length - 1 : Nat) : Int) := by omega
    rw [e]
    exact kids_rd ht hi (by omega)
  · rw [if_neg (by omega), if_pos (by omega)]
theorem kid_node {r : Nat} (h : r < (Tree.kids l.length (dpA l) i).length) : ∃ k : Nat, (Tree.kids l.length (dpA l) i).getD r 0 = k ∧ i < k ∧ k < l.length ∧ dpA l k = dpA l i + 1 ∧ (nodeD l k).f2 = (i : Int) ∧ (nodeD l k).f5 = lastV l i r ∧ (nodeD l k).f6 = kidV l i (r + 1) := by
  have hm := kid_mem h
  have hr := Tree.idxOf_getD Tree.kids_nodup (l := Tree.kids l.length (dpA l) i) (d := 0) h
  refine ⟨_, rfl, ?_⟩
  generalize hk : (Tree.kids l.length (dpA l) i).getD r 0 = k at *
  obtain ⟨k1, k2, k3⟩ := Tree.mem_kids.1 hm
  have kl := Tree.kids_lt hi hm
  have hp : parI l (k : Int) = (i : Int) := by rw [parI_nat ht kl]; exact Tree.par_of_kid hm
  have hrk : rankI l (k : Int) = (r : Int) := by
    rw [rankI_nat ht kl (by omega)]
    unfold Tree.rank
    rw [← parI_nat ht kl, hp, Int.toNat_natCast, hr]
  refine ⟨k1, kl, k3, hp, ?_, ?_⟩
  · show (if parI l (k : Int) ≥ 0 then prevI (kidsI l (parI l (k : Int))) (rankI l (k : Int)) else -1) = _
    rw [hp, if_pos (by omega), hrk]
    unfold prevI lastV
    by_cases h0 : r = 0
    · rw [if_neg (by omega), if_pos h0]
    · rw [if_pos (by omega), if_neg h0]
      have e : (r : Int) - 1 = ((r - 1 : Nat) : Int) := by omega
      rw [e]
      exact kids_rd ht hi (by omega)
  · show (if parI l (k : Int) ≥ 0 then nextI (kidsI l (parI l (k : Int))) (rankI l (k : Int)) else -1) = _
    rw [hp, if_pos (by omega), hrk]
    unfold nextI kidV
    rw [kids_len ht hi]
    by_cases h1 : r + 1 < (Tree.kids l.length (dpA l) i).length
    · rw [if_pos (by omega), if_pos h1]
      have e : (r : Int) + 1 = ((r + 1 : Nat) : Int) := by omega
      rw [e]
      exact kids_rd ht hi h1
    · rw [if_neg (by omega), if_neg h1]
end

/-! #### impl_Dom_visit -/
theorem visit_ok {l : List S55} (ht : treeOk l = true) : ∀ (d i : Nat), i + d = l.length → i < l.length → Ev (fun q => impl_Dom_visit.f q (domT l) (i : Int) (dpA l i) (l.take i) (upTo i)) (l.take (Tree.eo l.length (dpA l) i), upTo (Tree.eo l.length (dpA l) i), true) := by
  have h24 := (treeOk_iff.1 ht).1
  have hv := treeOk_vd ht
  have hlen := domT_len ht
  intro d
  induction d using Nat.strongRecOn with
  | _ d ih =>
    intro i hid hi
    have di := dp_range ht hi
    have li := lb_range ht hi
    have el := Tree.eo_le (D := dpA l) hi
    refine ev_succ ?_
    simp only [impl_Dom_visit.f]
    rw [domT_at ht hi]
    refine ev_pos (by omega) (ev_pos (by omega) (ev_pos rfl (ev_bindc (LabelOk_eq _) (ev_pos (decide_eq_true li) ?_))))
    rw [decide_eq_false (by omega)]
    refine ev_succ ?_
    simp only [impl_Dom_visit.j0]
    refine ev_neg (by decide) (ev_pos (by rw [List.length_take]; omega) (ev_pos (by rw [upTo_length]; omega) ?_))
    have e1 : l.take i ++ [(⟨lbA l i, dpA l i⟩ : S55)] = l.take (i + 1) := by rw [List.take_succ_eq_append_getElem hi, getD_node l i hi]
    have key : ∀ (m r : Nat), r + m = (Tree.kids l.length (dpA l) i).length → Ev (fun q => impl_Dom_visit.l0 q (i : Int) (dpA l i) (l.take ((Tree.bounds l.length (dpA l) i).getD r 0)) (upTo ((Tree.bounds l.length (dpA l) i).getD r 0)) (lastV l i r) (kidV l i r) (domT l) (nodeD l i).f0 (nodeD l i).f1 (nodeD l i).f2 (nodeD l i).f3 (nodeD l i).f4 (nodeD l i).f5 (nodeD l i).f6) (l.take (Tree.eo l.length (dpA l) i), upTo (Tree.eo l.length (dpA l) i), true) := by
      intro m
      induction m with
      | zero =>
        intro r hr
        have e : r = (Tree.kids l.length (dpA l) i).length := by omega
        subst e
        refine ev_succ ?_
        simp only [impl_Dom_visit.l0]
        refine ev_pos (by unfold kidV; rw [if_neg (Nat.lt_irrefl _)]) (ev_some ?_)
        rw [bounds_last]
        have : (nodeD l i).f4 = lastV l i (Tree.kids l.length (dpA l) i).length := last_is ht hi
        rw [this]
        simp
      | succ m ihm =>
        intro r hr
        have hrl : r < (Tree.kids l.length (dpA l) i).length := by omega
        obtain ⟨k, hk, k1, k2, k3, k4, k5, k6⟩ := kid_node ht hi hrl
        have hkv : kidV l i r = (k : Int) := by unfold kidV; rw [if_pos hrl, hk]
        have hb : (Tree.bounds l.length (dpA l) i).getD r 0 = k := by rw [bounds_kid hrl, hk]
        have hb2 : (Tree.bounds l.length (dpA l) i).getD (r + 1) 0 = Tree.eo l.length (dpA l) k := by rw [bounds_succ hv hi hrl, hk]
        have ihk := ih (l.length - k) (by omega) k (by omega) k2
        have ihr := ihm (r + 1) (by omega)
        rw [hb2] at ihr
        refine ev_succ ?_
        simp only [impl_Dom_visit.l0]
        rw [hkv, hb, hlen]
        refine ev_neg (by omega) (ev_bindc (within_eq _ _ _) (ev_pos ?_ (ev_bind (containsI_ev _ _ (by rw [upTo_length]; omega)) (ev_neg ?_ (ev_pos (by omega) (ev_pos (by omega) ?_))))))
        · rw [w64 (by omega) (by omega)]
          exact decide_eq_true (by omega)
        · simp only [decide_eq_true_eq, mem_upTo]
          omega
        · rw [domT_at ht k2]
          refine ev_pos k4 ?_
          rw [k5]
          have e5 : (lastV l i r != lastV l i r) = false := by simp
          rw [e5]
          refine ev_succ ?_
          simp only [impl_Dom_visit.j2]
          rw [w64 (x := dpA l i + 1) (by omega) (by omega), ← k3, domT_at ht k2, hlen]
          refine ev_neg (by decide) (ev_bind ihk (ev_pos rfl (ev_pos (by omega) (ev_pos (by omega) ?_))))
          rw [k6]
          have e7 : lastV l i (r + 1) = (k : Int) := by unfold lastV; rw [if_neg (by omega), Nat.add_sub_cancel, hk]
          rw [e7] at ihr
          exact ihr
    have k0 := key (Tree.kids l.length (dpA l) i).length 0 (by omega)
    rw [bounds_zero hv hi, ← e1, ← upTo_succ] at k0
    have e3 : (nodeD l i).f3 = kidV l i 0 := first_is ht hi
    have e2 : lastV l i 0 = -1 := rfl
    rw [e2, ← e3] at k0
    exact k0

/-! #### impl_Dom_walked -/
theorem walked_ok {l : List S55} (ht : treeOk l = true) : Ev (fun q => impl_Dom_walked.f q (domT l)) (l, upTo l.length, true) := by
  have h24 := (treeOk_iff.1 ht).1
  have hv := treeOk_vd ht
  have hlen := domT_len ht
  have hroot : parI l ((0 : Nat) : Int) = -1 := by rw [parI_nat ht (by omega)]; exact Tree.par_root
  have key : ∀ (d i : Nat), i + d = l.length → Ev (fun q => impl_Dom_walked.l0 q l (upTo l.length) true (domT l) (l.length : Int) (i : Int)) (l, upTo l.length, true) := by
    intro d
    induction d with
    | zero =>
      intro i h
      refine ev_succ ?_
      simp only [impl_Dom_walked.l0]
      exact ev_neg (by omega) (Ev.now _)
    | succ d ih =>
      intro i h
      refine ev_succ ?_
      simp only [impl_Dom_walked.l0]
      refine ev_pos (by omega) (ev_pos (by omega) (ev_pos (by omega) (ev_pos trivial (ev_bind (containsI_ev _ _ (by rw [upTo_length]; omega)) (ev_pos ?_ ?_)))))
      · simp only [decide_eq_true_eq, mem_upTo]
        omega
      · rw [w64 (x := (i : Int) + 1) (by omega) (by omega)]
        exact ih (i + 1) (by omega)
  simp only [impl_Dom_walked.f]
  have e0 : rd_T90 (domT l) 0 = nodeD l 0 := domT_at ht (i := 0) (by omega)
  rw [hlen, e0]
  have f2 : (nodeD l 0).f2 = -1 := hroot
  have f5 : (nodeD l 0).f5 = -1 := by show (if parI l ((0 : Nat) : Int) ≥ 0 then _ else (-1 : Int)) = -1; rw [hroot]; rfl
  have f6 : (nodeD l 0).f6 = -1 := by show (if parI l ((0 : Nat) : Int) ≥ 0 then _ else (-1 : Int)) = -1; rw [hroot]; rfl
  refine ev_bindc (within_eq _ _ _) (ev_pos (decide_eq_true (by omega)) (ev_pos (by omega) (ev_pos f2 (ev_pos f5 (ev_succ ?_)))))
  simp only [impl_Dom_walked.j0]
  have hvis := visit_ok ht l.length 0 (by omega) (by omega)
  rw [eo_root hv, List.take_length] at hvis
  have d0 : dpA l 0 = 0 := hv.2.1
  rw [d0] at hvis
  rw [f6, hlen]
  exact ev_neg (by decide) (ev_bind hvis (key l.length 0 (by omega)))

/-! #### impl_DomRelabel -/
theorem isLive_both (D : List S90) (hm : D.length ≤ 1099511627776) (i : Int) : ∃ b, Ev (fun q => spec_l17Live.f q D i) b ∧ Ev (fun q => impl_Dom_isLive.f q D i) b ∧ (b = true → 0 ≤ i ∧ i < (D.length : Int)) := by
  obtain ⟨b1, h1, e1⟩ := spec_DomOk_ev D
  obtain ⟨T, S, b2, h2, e2, _⟩ := walked_all D hm
  have e : b2 = b1 := Bool.eq_iff_iff.2 (e2.trans e1.symm)
  subst e
  have h2' : Ev (fun q => impl_DomOk.f q D) b2 := by
    simp only [impl_DomOk.f]
    exact ev_bind h2 (Ev.now _)
  by_cases hb : b2 = true
  · by_cases hr : 0 ≤ i ∧ i ≤ (D.length : Int) - 1
    · refine ⟨(rd_T90 D i).f0, ?_, ?_, fun _ => by omega⟩
      · simp only [spec_l17Live.f]
        rw [w64 (x := (D.length : Int) - 1) (by omega) (by omega)]
        exact ev_bind h1 (ev_pos hb (ev_bindc (l1In_eq _ _ _) (ev_pos (decide_eq_true hr) (ev_pos (by omega) (ev_pos (by omega) (Ev.now _))))))
      · simp only [impl_Dom_isLive.f]
        rw [w64 (x := (D.length : Int) - 1) (by omega) (by omega)]
        exact ev_bind h2' (ev_pos hb (ev_bindc (within_eq _ _ _) (ev_pos (decide_eq_true hr) (ev_pos (by omega) (ev_pos (by omega) (Ev.now _))))))
    · refine ⟨false, ?_, ?_, fun h => by cases h⟩
      · simp only [spec_l17Live.f]
        rw [w64 (x := (D.length : Int) - 1) (by omega) (by omega)]
        refine ev_bind h1 (ev_pos hb (ev_bindc (l1In_eq _ _ _) ?_))
        rw [decide_eq_false hr]
        exact ev_neg (by decide) (Ev.now _)
      · simp only [impl_Dom_isLive.f]
        rw [w64 (x := (D.length : Int) - 1) (by omega) (by omega)]
        refine ev_bind h2' (ev_pos hb (ev_bindc (within_eq _ _ _) ?_))
        rw [decide_eq_false hr]
        exact ev_neg (by decide) (Ev.now _)
  · refine ⟨false, ?_, ?_, fun h => by cases h⟩
    · simp only [spec_l17Live.f]
      exact ev_bind h1 (ev_neg hb (Ev.now _))
    · simp only [impl_Dom_isLive.f]
      exact ev_bind h2' (ev_neg hb (Ev.now _))
theorem relabel_both (D : List S90) (hm : D.length ≤ 1099511627776) (i x : Int) : ∃ R : List S90 × Bool, R.1.length = D.length ∧ Ev (fun q => spec_DomRelabel.f q D i x) R ∧ Ev (fun q => impl_DomRelabel.f q D i x) R := by
  obtain ⟨b, h1, h2, hb⟩ := isLive_both D hm i
  have c1 : spec_l16Copy.f D = some D := by
    simp only [spec_l16Copy.f, Option.bind_some, List.nil_append, List.length_nil]
    exact if_pos (by omega)
  have c2 : impl_domCopy.f D = some D := by
    simp only [impl_domCopy.f, slices_Clone_DomNode.f, Option.bind_some, List.nil_append, List.length_nil]
    rw [if_pos (by omega)]
    rfl
  by_cases hbt : b = true
  · have hr := hb hbt
    by_cases hx : 0 ≤ x ∧ x ≤ 5
    · refine ⟨(D.set i.toNat ⟨(rd_T90 D i).f0, x, (rd_T90 D i).f2, (rd_T90 D i).f3, (rd_T90 D i).f4, (rd_T90 D i).f5, (rd_T90 D i).f6⟩, true), List.length_set, ?_, ?_⟩
      · simp only [spec_DomRelabel.f]
        exact ev_bindc c1 (ev_bind h1 (ev_pos hbt (ev_bindc (spec_LabelOk_eq _) (ev_pos (decide_eq_true hx) (ev_pos hr.1 (ev_pos hr.2 (Ev.now _)))))))
      · simp only [impl_DomRelabel.f]
        exact ev_bindc c2 (ev_bind h2 (ev_pos hbt (ev_bindc (LabelOk_eq _) (ev_pos (decide_eq_true hx) (ev_pos hr.1 (ev_pos hr.2 (Ev.now _)))))))
    · refine ⟨(D, false), rfl, ?_, ?_⟩
      · simp only [spec_DomRelabel.f]
        refine ev_bindc c1 (ev_bind h1 (ev_pos hbt (ev_bindc (spec_LabelOk_eq _) ?_)))
        rw [decide_eq_false hx]
        exact ev_neg (by decide) (Ev.now _)
      · simp only [impl_DomRelabel.f]
        refine ev_bindc c2 (ev_bind h2 (ev_pos hbt (ev_bindc (LabelOk_eq _) ?_)))
        rw [decide_eq_false hx]
        exact ev_neg (by decide) (Ev.now _)
  · refine ⟨(D, false), rfl, ?_, ?_⟩
    · simp only [spec_DomRelabel.f]
      exact ev_bindc c1 (ev_bind h1 (ev_neg hbt (Ev.now _)))
    · simp only [impl_DomRelabel.f]
      exact ev_bindc c2 (ev_bind h2 (ev_neg hbt (Ev.now _)))

/-! #### laws_eqDomNode -/
theorem eqDomNode_self (a0 : Bool) (a1 a2 a3 a4 a5 a6 : Int) : laws_eqDomNode.f a0 a1 a2 a3 a4 a5 a6 a0 a1 a2 a3 a4 a5 a6 = some true := by
  unfold laws_eqDomNode.f
  rw [if_neg (by simp), if_pos rfl, if_pos rfl, if_pos rfl, if_pos rfl, if_pos rfl, if_pos rfl]

/-! #### laws_eqDomNodeS -/
theorem eqDomNodeS_ev (a : List S90) (hm : (a.length : Int) ≤ 9223372036854775806) : Ev (fun k => laws_eqDomNodeS.f k a a) true := by
  have key : ∀ (d i : Nat), i + d = a.length → Ev (fun k => laws_eqDomNodeS.l0 k a a i) true := by
    intro d
    induction d with
    | zero =>
      intro i h
      refine ev_succ ?_
      simp only [laws_eqDomNodeS.l0]
      exact ev_neg (by omega) (Ev.now _)
    | succ d ih =>
      intro i h
      refine ev_succ ?_
      simp only [laws_eqDomNodeS.l0]
      refine ev_pos (by omega) (ev_pos (by omega) (ev_pos (by omega) (ev_bindc (eqDomNode_self _ _ _ _ _ _ _) (ev_pos rfl ?_))))
      rw [w64 (by omega) (by omega)]
      exact ih (i + 1) (by omega)
  simp only [laws_eqDomNodeS.f]
  exact ev_pos trivial (key a.length 0 (by omega))

/-! #### laws_eqDom -/
theorem eqDom_ev (a : List S90) (hm : (a.length : Int) ≤ 9223372036854775806) : Ev (fun k => laws_eqDom.f k a a) true := by
  simp only [laws_eqDom.f]
  exact ev_bind (eqDomNodeS_ev a hm) (ev_pos rfl (Ev.now _))

/-! #### laws_markDomNodeS -/
/-- the marks of one linked node, from a on -/
def mkD (a : Int) : S90 := ⟨(Int.tmod a 3 == 0), a + 1, a + 1 + 1, a + 1 + 1 + 1, a + 1 + 1 + 1 + 1, a + 1 + 1 + 1 + 1 + 1, a + 1 + 1 + 1 + 1 + 1 + 1⟩
theorem mkD_f0 (a : Int) : (mkD a).f0 = (Int.tmod a 3 == 0) := by simp only [mkD]
theorem mkD_f1 (a : Int) : (mkD a).f1 = a + 1 := by simp only [mkD]
theorem mkD_f2 (a : Int) : (mkD a).f2 = a + 1 + 1 := by simp only [mkD]
theorem mkD_f3 (a : Int) : (mkD a).f3 = a + 1 + 1 + 1 := by simp only [mkD]
theorem mkD_f4 (a : Int) : (mkD a).f4 = a + 1 + 1 + 1 + 1 := by simp only [mkD]
theorem mkD_f5 (a : Int) : (mkD a).f5 = a + 1 + 1 + 1 + 1 + 1 := by simp only [mkD]
theorem mkD_f6 (a : Int) : (mkD a).f6 = a + 1 + 1 + 1 + 1 + 1 + 1 := by simp only [mkD]
/-- the marks of n linked nodes -/
def seqD (a : Int) (n : Nat) : List S90 := (List.range n).map fun (j : Nat) => mkD (a + 7 * (j : Int))
theorem seqD_length (a : Int) (n : Nat) : (seqD a n).length = n := by simp [seqD]
theorem seqD_succ (a : Int) (n : Nat) : seqD a (n + 1) = seqD a n ++ [mkD (a + 7 * (n : Int))] := by simp [seqD, List.range_succ]
theorem seqD_rd (a : Int) (n i : Nat) (h : i < n) : rd_T90 (seqD a n) i = mkD (a + 7 * (i : Int)) := by simp [rd_T90, seqD, h]
theorem markDomNodeS_l0 (l : List S90) (a : Int) (h0 : 0 ≤ a) (hm : a + 7 * l.length ≤ 9223372036854775805) : ∀ (d i : Nat), i + d = l.length → Ev (fun k => laws_markDomNodeS.l0 k (seqD a i ++ l.drop i) (a + 7 * i) i) (a + 7 * l.length, seqD a l.length) := by
  intro d
  induction d with
  | zero =>
    intro i h
    refine ev_succ ?_
    simp only [laws_markDomNodeS.l0]
    have e : i = l.length := by omega
    subst e
    refine ev_neg (by rw [List.length_append, seqD_length, List.length_drop]; omega) (ev_some ?_)
    rw [List.drop_length, List.append_nil]
  | succ d ih =>
    intro i h
    refine ev_succ ?_
    simp only [laws_markDomNodeS.l0]
    refine ev_pos (by rw [List.length_append, seqD_length, List.length_drop]; omega) (ev_pos (by omega) ?_)
    simp only [Option.bind_some]
    have hi : i < l.length := by omega
    have e1 : ∀ x : S90, (seqD a i ++ l.drop i).set ((i : Int)).toNat x = seqD a i ++ x :: l.drop (i + 1) := by
      intro x
      rw [Int.toNat_natCast, List.set_append_right _ _ (by rw [seqD_length]; omega), seqD_length, Nat.sub_self, List.drop_eq_getElem_cons hi, List.set_cons_zero]
    have e2 : ∀ (x y : S90), (seqD a i ++ x :: l.drop (i + 1)).set ((i : Int)).toNat y = seqD a i ++ y :: l.drop (i + 1) := by
      intro x y
      rw [Int.toNat_natCast, List.set_append_right _ _ (by rw [seqD_length]; omega), seqD_length, Nat.sub_self, List.set_cons_zero]
    have e3 : ∀ (x : S90), rd_T90 (seqD a i ++ x :: l.drop (i + 1)) (i : Int) = x := by
      intro x; simp [rd_T90, seqD_length]
    have w1 : wrap64 (a + 7 * (i : Int) + 1) = a + 7 * (i : Int) + 1 := w64 (by omega) (by omega)
    have w2 : wrap64 (a + 7 * (i : Int) + 1 + 1) = a + 7 * (i : Int) + 1 + 1 := w64 (by omega) (by omega)
    have w3 : wrap64 (a + 7 * (i : Int) + 1 + 1 + 1) = a + 7 * (i : Int) + 1 + 1 + 1 := w64 (by omega) (by omega)
    have w4 : wrap64 (a + 7 * (i : Int) + 1 + 1 + 1 + 1) = a + 7 * (i : Int) + 1 + 1 + 1 + 1 := w64 (by omega) (by omega)
    have w5 : wrap64 (a + 7 * (i : Int) + 1 + 1 + 1 + 1 + 1) = a + 7 * (i : Int) + 1 + 1 + 1 + 1 + 1 := w64 (by omega) (by omega)
    have w6 : wrap64 (a + 7 * (i : Int) + 1 + 1 + 1 + 1 + 1 + 1) = a + 7 * (i : Int) + 1 + 1 + 1 + 1 + 1 + 1 := w64 (by omega) (by omega)
    have w7 : wrap64 (a + 7 * (i : Int) + 1 + 1 + 1 + 1 + 1 + 1 + 1) = a + 7 * (i : Int) + 1 + 1 + 1 + 1 + 1 + 1 + 1 := w64 (by omega) (by omega)
    have w8 : wrap64 ((i : Int) + 1) = (i : Int) + 1 := w64 (by omega) (by omega)
    simp only [w1, w2, w3, w4, w5, w6, w7, w8, e1, e2, e3]
    clear w1 w2 w3 w4 w5 w6 w7 w8 e1 e2 e3
    have := ih (i + 1) (by omega)
    rw [seqD_succ, List.append_assoc] at this
    have e4 : a + 7 * ((i + 1 : Nat) : Int) = a + 7 * (i : Int) + 1 + 1 + 1 + 1 + 1 + 1 + 1 := by omega
    rw [e4] at this
    exact this
theorem markDomNodeS_ev (l : List S90) (a : Int) (h0 : 0 ≤ a) (hm : a + 7 * l.length ≤ 9223372036854775805) : Ev (fun k => laws_markDomNodeS.f k l a) (a + 7 * l.length, seqD a l.length) := by
  simp only [laws_markDomNodeS.f]
  have := markDomNodeS_l0 l a h0 hm l.length 0 (by omega)
  simpa [seqD] using this

/-! #### laws_markDom -/
theorem markDom_ev (l : List S90) (a : Int) (h0 : 0 ≤ a) (hm : a + 7 * l.length ≤ 9223372036854775805) : Ev (fun k => laws_markDom.f k l a) (a + 7 * l.length, seqD a l.length) := by
  simp only [laws_markDom.f]
  exact ev_bind (markDomNodeS_ev l a h0 hm) (Ev.now _)

/-! #### laws_heldDomNodeS -/
theorem heldDomNodeS_ev (a : Int) (n : Nat) (h0 : 0 ≤ a) (hm : a + 7 * n ≤ 9223372036854775805) : Ev (fun k => laws_heldDomNodeS.f k (seqD a n) a) (a + 7 * n) := by
  have key : ∀ (d i : Nat), i + d = n → Ev (fun k => laws_heldDomNodeS.l0 k (seqD a n) (a + 7 * i) i) (a + 7 * n) := by
    intro d
    induction d with
    | zero =>
      intro i h
      refine ev_succ ?_
      simp only [laws_heldDomNodeS.l0]
      refine ev_neg (by rw [seqD_length]; omega) (ev_some (by omega))
    | succ d ih =>
      intro i h
      refine ev_succ ?_
      simp only [laws_heldDomNodeS.l0]
      have w1 : wrap64 (a + 7 * (i : Int) + 1) = a + 7 * (i : Int) + 1 := w64 (by omega) (by omega)
      have w2 : wrap64 (a + 7 * (i : Int) + 1 + 1) = a + 7 * (i : Int) + 1 + 1 := w64 (by omega) (by omega)
      have w3 : wrap64 (a + 7 * (i : Int) + 1 + 1 + 1) = a + 7 * (i : Int) + 1 + 1 + 1 := w64 (by omega) (by omega)
      have w4 : wrap64 (a + 7 * (i : Int) + 1 + 1 + 1 + 1) = a + 7 * (i : Int) + 1 + 1 + 1 + 1 := w64 (by omega) (by omega)
      have w5 : wrap64 (a + 7 * (i : Int) + 1 + 1 + 1 + 1 + 1) = a + 7 * (i : Int) + 1 + 1 + 1 + 1 + 1 := w64 (by omega) (by omega)
      have w6 : wrap64 (a + 7 * (i : Int) + 1 + 1 + 1 + 1 + 1 + 1) = a + 7 * (i : Int) + 1 + 1 + 1 + 1 + 1 + 1 := w64 (by omega) (by omega)
      have w7 : wrap64 (a + 7 * (i : Int) + 1 + 1 + 1 + 1 + 1 + 1 + 1) = a + 7 * (i : Int) + 1 + 1 + 1 + 1 + 1 + 1 + 1 := w64 (by omega) (by omega)
      have w8 : wrap64 ((i : Int) + 1) = (i : Int) + 1 := w64 (by omega) (by omega)
      simp only [w1, w2, w3, w4, w5, w6, w7, w8, seqD_rd a n i (by omega)]
      clear w1 w2 w3 w4 w5 w6 w7 w8
      refine ev_pos (by rw [seqD_length]; omega) ?_
      refine ev_pos (by omega) ?_
      rw [mkD_f0]
      refine ev_neg (fun h => bne_iff_ne.1 h rfl) ?_
      refine ev_pos (mkD_f1 _) ?_
      refine ev_pos (mkD_f2 _) ?_
      refine ev_pos (mkD_f3 _) ?_
      refine ev_pos (mkD_f4 _) ?_
      refine ev_pos (mkD_f5 _) ?_
      refine ev_pos (mkD_f6 _) ?_
      have e4 : a + 7 * (i : Int) + 1 + 1 + 1 + 1 + 1 + 1 + 1 = a + 7 * ((i + 1 : Nat) : Int) := by omega
      rw [e4]
      exact ih (i + 1) (by omega)
  simp only [laws_heldDomNodeS.f]
  have := key n 0 (by omega)
  simpa using this

/-! #### laws_heldDom -/
theorem heldDom_ev (a : Int) (n : Nat) (h0 : 0 ≤ a) (hm : a + 7 * n ≤ 9223372036854775805) : Ev (fun k => laws_heldDom.f k (seqD a n) a) (a + 7 * n) := by
  simp only [laws_heldDom.f]
  exact ev_bind (heldDomNodeS_ev a n h0 hm) (ev_neg (by omega) (Ev.now _))

end Go.Proofs.Ytmbhlfcpdbbogab.QFnExactDomRelabel
