/- What the printed functions of the law FnPaths come to, function by function, from some number of rounds on; each under the bounds that it names. -/
import Derived.Test.YtmbhlfcpdbbogabMFnPathsx
import Derived.Test.YtmbhlfcpdbbogabMFnPathsEvAid
import Derived.Test.YtmbhlfcpdbbogabTree
import Derived.Test.YtmbhlfcpdbbogabPaths
import Derived.Test.YtmbhlfcpdbbogabBounds
namespace Go.Proofs.Ytmbhlfcpdbbogab.QFnPaths
open Go.RowKit Go.Proofs.Ytmbhlfcpdbbogab.PFnPaths Go.Proofs.YtmbhlfcpdbbogabW.PrintWords Go.Proofs.YtmbhlfcpdbbogabW.PrintLast Go.Proofs.YtmbhlfcpdbbogabW.PrintMore Go.Proofs.Ytmbhlfcpdbbogab.EvAid Go.Proofs.Ytmbhlfcpdbbogab
set_option linter.unusedVariables false
set_option linter.unusedSimpArgs false

/-! #### impl_within -/
theorem within_eq (a b c : Int) : impl_within.f a b c = some (decide (b ≤ a ∧ a ≤ c)) := by
  unfold impl_within.f
  by_cases h : b ≤ a
  · rw [if_pos h]; simp [h]
  · rw [if_neg h]; simp [h]

/-! #### impl_LabelOk -/
theorem LabelOk_eq (a : Int) : impl_LabelOk.f a = some (decide (0 ≤ a ∧ a ≤ 5)) := by
  unfold impl_LabelOk.f; rw [within_eq]; rfl

/-! #### _nodes -/
/-- the label and the depth at a place -/
def lbA (l : List S55) (j : Nat) : Int := (l.getD j z55).f0
def dpA (l : List S55) (j : Nat) : Int := (l.getD j z55).f1
theorem rd_f0 (l : List S55) (j : Nat) : (rd_T55 l (j : Int)).f0 = lbA l j := id rfl
theorem rd_f1 (l : List S55) (j : Nat) : (rd_T55 l (j : Int)).f1 = dpA l j := id rfl
theorem node_ext {a b : S55} (h0 : a.f0 = b.f0) (h1 : a.f1 = b.f1) : a = b := by cases a; cases b; simp at h0 h1; rw [h0, h1]
theorem rd_node (l : List S55) (j : Nat) : rd_T55 l (j : Int) = ⟨lbA l j, dpA l j⟩ := id rfl
theorem getD_node (l : List S55) (j : Nat) (h : j < l.length) : l[j] = ⟨lbA l j, dpA l j⟩ := by
  apply node_ext
  · simp [lbA, h]
  · simp [dpA, h]
theorem nodes_ext {a b : List S55} (hl : a.length = b.length) (h0 : ∀ j, j < a.length → lbA a j = lbA b j) (h1 : ∀ j, j < a.length → dpA a j = dpA b j) : a = b := by
  apply List.ext_getElem hl
  intro j h2 h3
  rw [getD_node a j h2, getD_node b j h3, h0 j h2, h1 j h2]
/-- a node may stand at its place -/
def okAt (l : List S55) (j : Nat) : Prop := (0 ≤ lbA l j ∧ lbA l j ≤ 5) ∧ (0 ≤ dpA l j ∧ dpA l j ≤ 12) ∧ (if j = 0 then dpA l j = 0 else 1 ≤ dpA l j ∧ dpA l j ≤ dpA l (j - 1) + 1)
instance okAtDec (l : List S55) (j : Nat) : Decidable (okAt l j) := by unfold okAt; infer_instance
/-- the nodes are those of one tree -/
def treeOk (l : List S55) : Bool := decide (1 ≤ l.length ∧ l.length ≤ 24) && decide (∀ j, j < l.length → okAt l j)
theorem treeOk_iff {l : List S55} : treeOk l = true ↔ (1 ≤ l.length ∧ l.length ≤ 24) ∧ ∀ j, j < l.length → okAt l j := by
  simp [treeOk]
theorem treeOk_vd {l : List S55} (h : treeOk l = true) : Tree.Vd l.length (dpA l) := by
  obtain ⟨h1, h2⟩ := treeOk_iff.1 h
  refine ⟨h1.1, ?_, fun j h0 hj => ?_⟩
  · have := (h2 0 h1.1).2.2
    rwa [if_pos rfl] at this
  · have := (h2 j hj).2.2
    rwa [if_neg (by omega)] at this
/-- from place i on all nodes may stand -/
noncomputable def okFrom (l : List S55) (i : Nat) : Bool := cdec (∀ j, i ≤ j → j < l.length → okAt l j)
theorem okFrom_end {l : List S55} {i : Nat} (h : l.length ≤ i) : okFrom l i = true := by
  unfold okFrom
  rw [cdec_iff]
  intro j h1 h2
  omega
theorem okFrom_step {l : List S55} {i : Nat} (h : i < l.length) : okFrom l i = (decide (okAt l i) && okFrom l (i + 1)) := by
  unfold okFrom
  rw [Bool.eq_iff_iff, Bool.and_eq_true, cdec_iff, decide_eq_true_iff, cdec_iff]
  constructor
  · intro a; exact ⟨a i (Nat.le_refl _) h, fun j h1 h2 => a j (by omega) h2⟩
  · rintro ⟨a, b⟩ j h1 h2
    by_cases e : j = i
    · subst e; exact a
    · exact b j (by omega) h2
theorem okFrom_zero (l : List S55) : treeOk l = (decide (1 ≤ l.length ∧ l.length ≤ 24) && okFrom l 0) := by
  unfold treeOk okFrom
  congr 1
  rw [Bool.eq_iff_iff, decide_eq_true_iff, cdec_iff]
  exact ⟨fun h j _ hj => h j hj, fun h j hj => h j (Nat.zero_le _) hj⟩

/-! #### impl_TreeOk -/
theorem depthOk_eq (l : List S55) (i : Nat) (hi : i < l.length) (hl : l.length ≤ 24) (hp : 0 < i → 0 ≤ dpA l (i - 1) ∧ dpA l (i - 1) ≤ 12) : impl_depthOk.f l (i : Int) = some (decide (if i = 0 then dpA l i = 0 else 1 ≤ dpA l i ∧ dpA l i ≤ dpA l (i - 1) + 1)) := by
  unfold impl_depthOk.f
  by_cases h0 : i = 0
  · subst h0
    conv => lhs; rw [if_pos (show ((0 : Nat) : Int) = 0 from rfl), if_pos (by omega)]
    congr 1
  · have e1 : (i : Int) - 1 = ((i - 1 : Nat) : Int) := by omega
    have hb := hp (by omega)
    conv => lhs; rw [if_neg (by omega), if_pos (by omega), if_pos (by omega), w64 (x := (i : Int) - 1) (by omega) (by omega), e1, if_pos (by omega), if_pos (by omega), rd_f1, rd_f1, w64 (x := dpA l (i - 1) + 1) (by omega) (by omega), within_eq]
    simp only [h0, if_false, Option.bind_some]
theorem impl_TreeOk_l0 (l : List S55) (hl : l.length ≤ 24) : ∀ (d i : Nat), i + d = l.length → (0 < i → okAt l (i - 1)) → Ev (fun k => impl_TreeOk.l0 k l l (l.length : Int) (i : Int)) (okFrom l i) := by
  intro d
  induction d with
  | zero =>
    intro i h hp
    refine ev_succ ?_
    simp only [impl_TreeOk.l0]
    refine ev_neg (by omega) (ev_some ?_)
    rw [okFrom_end (by omega)]
  | succ d ih =>
    intro i h hp
    refine ev_succ ?_
    simp only [impl_TreeOk.l0]
    simp only [rd_f0, rd_f1]
    rw [okFrom_step (by omega)]
    refine ev_pos (by omega) (ev_pos (by omega) (ev_pos (by omega) (ev_bindc (LabelOk_eq _) ?_)))
    simp only [decide_eq_true_eq]
    by_cases h1 : 0 ≤ lbA l i ∧ lbA l i ≤ 5
    · refine ev_pos h1 (ev_bindc (within_eq _ _ _) ?_)
      simp only [decide_eq_true_eq]
      by_cases h2 : 0 ≤ dpA l i ∧ dpA l i ≤ 12
      · refine ev_pos h2 (ev_bindc (depthOk_eq l i (by omega) hl (fun h0 => (hp h0).2.1)) ?_)
        simp only [decide_eq_true_eq]
        by_cases h3 : (if i = 0 then dpA l i = 0 else 1 ≤ dpA l i ∧ dpA l i ≤ dpA l (i - 1) + 1)
        · refine ev_pos h3 ?_
          have ok : okAt l i := ⟨h1, h2, h3⟩
          rw [w64 (x := (i : Int) + 1) (by omega) (by omega), decide_eq_true ok, Bool.true_and]
          exact ih (i + 1) (by omega) (fun _ => ok)
        · refine ev_neg h3 (ev_some ?_)
          have ok : ¬ okAt l i := fun h => h3 h.2.2
          rw [decide_eq_false ok, Bool.false_and]
      · refine ev_neg h2 (ev_some ?_)
        have ok : ¬ okAt l i := fun h => h2 h.2.1
        rw [decide_eq_false ok, Bool.false_and]
    · refine ev_neg h1 (ev_some ?_)
      have ok : ¬ okAt l i := fun h => h1 h.1
      rw [decide_eq_false ok, Bool.false_and]
theorem impl_TreeOk_ev (l : List S55) : Ev (fun k => impl_TreeOk.f k l) (treeOk l) := by
  simp only [impl_TreeOk.f]
  refine ev_bindc (within_eq _ _ _) ?_
  simp only [decide_eq_true_eq]
  rw [okFrom_zero]
  by_cases h : 1 ≤ l.length ∧ l.length ≤ 24
  · refine ev_pos (by omega) ?_
    rw [decide_eq_true h, Bool.true_and]
    exact impl_TreeOk_l0 l h.2 l.length 0 (by omega) (fun h => absurd h (Nat.lt_irrefl 0))
  · refine ev_neg (by omega) (ev_some ?_)
    rw [decide_eq_false h, Bool.false_and]

/-! #### _hasB -/
/-- the tree is one, and has a node i -/
def hasB (l : List S55) (i : Int) : Bool := treeOk l && decide (0 ≤ i ∧ i < (l.length : Int))
theorem hasB_iff {l : List S55} {i : Int} : hasB l i = true ↔ treeOk l = true ∧ 0 ≤ i ∧ i < (l.length : Int) := by simp [hasB]
theorem hasB_nat {l : List S55} {i : Int} (h : hasB l i = true) : ∃ j : Nat, i = (j : Int) ∧ j < l.length ∧ treeOk l = true ∧ l.length ≤ 24 ∧ Tree.Vd l.length (dpA l) := by
  obtain ⟨h1, h2, h3⟩ := hasB_iff.1 h
  exact ⟨i.toNat, by omega, by omega, h1, (treeOk_iff.1 h1).1.2, treeOk_vd h1⟩
/-- the end of node i as the program tells it -/
def endI (l : List S55) (i : Int) : Int := if hasB l i = true then (Tree.eo l.length (dpA l) i.toNat : Int) else -1
/-- node i and what is below it as a tree of its own -/
def subT (l : List S55) (i : Int) : List S55 := if hasB l i = true then (List.range' i.toNat (Tree.eo l.length (dpA l) i.toNat - i.toNat)).map (fun (j : Nat) => (⟨lbA l j, dpA l j - dpA l i.toNat⟩ : S55)) else []
theorem subT_length (l : List S55) (i : Int) : (subT l i).length ≤ l.length := by
  unfold subT
  split
  · rename_i h
    obtain ⟨j, rfl, hj, _, _, _⟩ := hasB_nat h
    have := Tree.eo_le (D := dpA l) hj
    simp only [List.length_map, List.length_range', Int.toNat_natCast]
    omega
  · simp
/-- the kids of node i -/
def kidsI (l : List S55) (i : Int) : List Int := if hasB l i = true then (Tree.kids l.length (dpA l) i.toNat).map Int.ofNat else []
theorem kidsI_length (l : List S55) (i : Int) : (kidsI l i).length ≤ l.length := by
  unfold kidsI
  split
  · rename_i h
    obtain ⟨j, rfl, hj, _, _, _⟩ := hasB_nat h
    have := Tree.eo_le (D := dpA l) hj
    have := Tree.kids_length (n := l.length) (D := dpA l) (i := j)
    simp only [List.length_map, Int.toNat_natCast]
    omega
  · simp
theorem dp_range {l : List S55} (h : treeOk l = true) {j : Nat} (hj : j < l.length) : 0 ≤ dpA l j ∧ dpA l j ≤ 12 := ((treeOk_iff.1 h).2 j hj).2.1
theorem lb_range {l : List S55} (h : treeOk l = true) {j : Nat} (hj : j < l.length) : 0 ≤ lbA l j ∧ lbA l j ≤ 5 := ((treeOk_iff.1 h).2 j hj).1
/-- the two lists of nodes are the same -/
noncomputable def sameT (a b : List S55) : Bool := cdec (a = b)
theorem sameT_iff {a b : List S55} : sameT a b = true ↔ a = b := cdec_iff
theorem sameT_self (a : List S55) : sameT a a = true := sameT_iff.2 rfl
/-- .. from place i on -/
noncomputable def sameFrom (a b : List S55) (i : Nat) : Bool := cdec (∀ j, i ≤ j → j < a.length → lbA a j = lbA b j ∧ dpA a j = dpA b j)
theorem sameFrom_end {a b : List S55} {i : Nat} (h : a.length ≤ i) : sameFrom a b i = true := by
  unfold sameFrom
  rw [cdec_iff]
  intro j h1 h2
  omega
theorem sameFrom_step {a b : List S55} {i : Nat} (h : i < a.length) : sameFrom a b i = (decide (lbA a i = lbA b i ∧ dpA a i = dpA b i) && sameFrom a b (i + 1)) := by
  unfold sameFrom
  rw [Bool.eq_iff_iff, Bool.and_eq_true, cdec_iff, decide_eq_true_iff, cdec_iff]
  constructor
  · intro x; exact ⟨x i (Nat.le_refl _) h, fun j h1 h2 => x j (by omega) h2⟩
  · rintro ⟨x, y⟩ j h1 h2
    by_cases e : j = i
    · subst e; exact x
    · exact y j (by omega) h2
theorem sameFrom_zero {a b : List S55} (h : a.length = b.length) : sameFrom a b 0 = sameT a b := by
  unfold sameFrom sameT
  rw [Bool.eq_iff_iff, cdec_iff, cdec_iff]
  constructor
  · intro x; exact nodes_ext h (fun j hj => (x j (Nat.zero_le _) hj).1) (fun j hj => (x j (Nat.zero_le _) hj).2)
  · intro e; subst e; exact fun j _ _ => ⟨rfl, rfl⟩
theorem same_cond (x0 x1 y0 y1 : Int) : ((!(x0 == y0) || !(x1 == y1)) = true) ↔ ¬ (x0 = y0 ∧ x1 = y1) := by
  by_cases h0 : x0 = y0 <;> by_cases h1 : x1 = y1 <;> simp [h0, h1]
/-- node i's parent -/
def parI (l : List S55) (i : Int) : Int := if hasB l i = true then Tree.par (dpA l) i.toNat else -1

/-! #### impl_hasNode -/
theorem hasNode_ev (l : List S55) (i : Int) (hm : (l.length : Int) ≤ 9223372036854775806) : Ev (fun k => impl_hasNode.f k l i) (hasB l i) := by
  simp only [impl_hasNode.f]
  refine ev_bind (impl_TreeOk_ev l) ?_
  unfold hasB
  by_cases h : treeOk l = true
  · refine ev_pos h ?_
    rw [h, w64 (x := (l.length : Int) - 1) (by omega) (by omega)]
    refine ev_bindc (within_eq _ _ _) (ev_some ?_)
    rw [Bool.true_and]
    congr 1
    simp only [eq_iff_iff]
    omega
  · refine ev_neg h (ev_some ?_)
    have : treeOk l = false := by simpa using h
    rw [this, Bool.false_and]

/-! #### impl_ParentOf -/
theorem impl_ParentOf_l0 (l : List S55) (i : Nat) (hi : i < l.length) (hm : l.length ≤ 24) : ∀ (j : Nat), j ≤ i → Ev (fun k => impl_ParentOf.l0 k l (i : Int) ((j : Int) - 1)) (Tree.upFrom (dpA l) (dpA l i) j) := by
  intro j
  induction j with
  | zero =>
    intro _
    refine ev_succ ?_
    simp only [impl_ParentOf.l0]
    exact ev_neg (by omega) (ev_some (by rw [Tree.upFrom]; omega))
  | succ j ih =>
    intro hj
    refine ev_succ ?_
    simp only [impl_ParentOf.l0]
    have e : ((j + 1 : Nat) : Int) - 1 = (j : Int) := by omega
    rw [e, Tree.upFrom]
    simp only [rd_f1]
    refine ev_pos (by omega) (ev_pos (by omega) (ev_pos (by omega) (ev_pos (by omega) (ev_pos (by omega) ?_))))
    by_cases h : dpA l j ≥ dpA l i
    · refine ev_pos h ?_
      rw [if_neg (by omega), w64 (by omega) (by omega)]
      exact ih (by omega)
    · refine ev_neg h (ev_some ?_)
      rw [if_pos (by omega)]
theorem impl_ParentOf_ev (l : List S55) (i : Int) (hm : (l.length : Int) ≤ 9223372036854775806) : Ev (fun k => impl_ParentOf.f k l i) (parI l i) := by
  simp only [impl_ParentOf.f]
  refine ev_bind (hasNode_ev l i hm) ?_
  unfold parI
  by_cases h : hasB l i = true
  · obtain ⟨j, rfl, hj, h1, h2, hv⟩ := hasB_nat h
    refine ev_pos h ?_
    rw [if_pos h, w64 (by omega) (by omega)]
    exact impl_ParentOf_l0 l j hj h2 j (Nat.le_refl _)
  · refine ev_neg h ?_
    rw [if_neg h]
    exact Ev.now _

/-! #### impl_endOf -/
theorem endOf_l0 (l : List S55) (i : Nat) (hi : i < l.length) (hm : l.length ≤ 24) : ∀ (f j : Nat), l.length ≤ j + f → i < j → Ev (fun k => impl_endOf.l0 k l (i : Int) (j : Int)) (Tree.eoFrom l.length (dpA l) (dpA l i) f j : Int) := by
  intro f
  induction f with
  | zero =>
    intro j h h1
    refine ev_succ ?_
    simp only [impl_endOf.l0]
    exact ev_neg (by omega) (Ev.now _)
  | succ f ih =>
    intro j h h1
    refine ev_succ ?_
    simp only [impl_endOf.l0]
    simp only [rd_f1]
    rw [Tree.eoFrom]
    by_cases h2 : j < l.length
    · refine ev_pos (by omega) (ev_pos (by omega) (ev_pos (by omega) (ev_pos (by omega) ?_)))
      by_cases h3 : dpA l j > dpA l i
      · refine ev_pos h3 ?_
        rw [if_pos ⟨h2, h3⟩, w64 (by omega) (by omega)]
        exact ih (j + 1) (by omega) (by omega)
      · refine ev_neg h3 (ev_some ?_)
        rw [if_neg (by omega)]
    · refine ev_neg (by omega) (ev_some ?_)
      rw [if_neg (by omega)]
theorem endOf_ev (l : List S55) (i : Nat) (hi : i < l.length) (hm : l.length ≤ 24) : Ev (fun k => impl_endOf.f k l (i : Int)) (Tree.eo l.length (dpA l) i : Int) := by
  simp only [impl_endOf.f]
  rw [w64 (by omega) (by omega)]
  exact endOf_l0 l i hi hm (l.length - (i + 1)) (i + 1) (by omega) (by omega)

/-! #### _kidsTo -/
/-- the kids up to place j -/
def kidsTo (l : List S55) (i j : Nat) : List Int := ((List.range' (i + 1) (j - (i + 1))).filter fun k => decide (dpA l k = dpA l i + 1)).map Int.ofNat
theorem kidsTo_step (l : List S55) (i j : Nat) (h : i < j) : kidsTo l i (j + 1) = kidsTo l i j ++ (if dpA l j = dpA l i + 1 then [(j : Int)] else []) := by
  unfold kidsTo
  have e : j + 1 - (i + 1) = (j - (i + 1)) + 1 := by omega
  have e2 : i + 1 + 1 * (j - (i + 1)) = j := by omega
  rw [e, List.range'_concat, List.filter_append, List.map_append, e2]
  congr 1
  by_cases hd : dpA l j = dpA l i + 1
  · rw [if_pos hd]; simp [hd]
  · rw [if_neg hd]; simp [hd]
theorem kidsTo_length (l : List S55) (i j : Nat) : (kidsTo l i j).length ≤ j := by
  unfold kidsTo
  rw [List.length_map]
  have := List.length_filter_le (fun k => decide (dpA l k = dpA l i + 1)) (List.range' (i + 1) (j - (i + 1)))
  rw [List.length_range'] at this
  omega
theorem kidsI_nat {l : List S55} {i : Nat} (h : hasB l (i : Int) = true) : kidsI l (i : Int) = (Tree.kids l.length (dpA l) i).map Int.ofNat := by unfold kidsI; rw [if_pos h]; rfl

/-! #### impl_KidsOf -/
theorem impl_KidsOf_l0 (l : List S55) (i : Nat) (hi : i < l.length) (hm : l.length ≤ 24) (ht : treeOk l = true) : ∀ (d j : Nat), j + d = Tree.eo l.length (dpA l) i → i < j →
    Ev (fun k => impl_KidsOf.l0 k l (i : Int) (kidsTo l i j) (j : Int)) (kidsTo l i (Tree.eo l.length (dpA l) i)) := by
  have he := Tree.eo_le (D := dpA l) hi
  intro d
  induction d with
  | zero =>
    intro j h hj
    refine ev_succ ?_
    simp only [impl_KidsOf.l0]
    refine ev_bind (endOf_ev l i hi hm) (ev_neg (by omega) (ev_some ?_))
    have : j = Tree.eo l.length (dpA l) i := by omega
    rw [this]
  | succ d ih =>
    intro j h hj
    refine ev_succ ?_
    simp only [impl_KidsOf.l0]
    simp only [rd_f1]
    have d2 := dp_range ht hi
    have hk := kidsTo_length l i j
    refine ev_bind (endOf_ev l i hi hm) (ev_pos (by omega) (ev_pos (by omega) (ev_pos (by omega) (ev_pos (by omega) (ev_pos (by omega) ?_)))))
    rw [w64 (x := dpA l i + 1) (by omega) (by omega), w64 (x := (j : Int) + 1) (by omega) (by omega)]
    have := ih (j + 1) (by omega) (by omega)
    rw [kidsTo_step l i j hj] at this
    by_cases hd : dpA l j = dpA l i + 1
    · rw [if_pos hd] at this
      exact ev_pos hd (ev_pos (by omega) this)
    · rw [if_neg hd, List.append_nil] at this
      exact ev_neg hd this
theorem impl_KidsOf_ev (l : List S55) (i : Int) (hm : (l.length : Int) ≤ 9223372036854775806) : Ev (fun k => impl_KidsOf.f k l i) (kidsI l i) := by
  simp only [impl_KidsOf.f, Option.bind_some]
  refine ev_bind (hasNode_ev l i hm) ?_
  by_cases h : hasB l i = true
  · refine ev_pos h ?_
    obtain ⟨j, rfl, hj, h1, h2, hv⟩ := hasB_nat h
    have g := @Tree.eo_gt l.length (dpA l) j
    rw [w64 (by omega) (by omega), kidsI_nat h]
    have := impl_KidsOf_l0 l j hj h2 h1 (Tree.eo l.length (dpA l) j - (j + 1)) (j + 1) (by omega) (by omega)
    have e : kidsTo l j (j + 1) = [] := by unfold kidsTo; rw [Nat.sub_self]; rfl
    rw [e] at this
    exact this
  · refine ev_neg h (ev_some ?_)
    unfold kidsI
    rw [if_neg h]

/-! #### _rankI -/
/-- where x stands first in l -/
def idxJ (l : List Int) (x : Int) : Int := if x ∈ l then (l.idxOf x : Int) else -1
/-- which kid of its parent a node is -/
def rankI (l : List S55) (i : Int) : Int := if parI l i < 0 then -1 else idxJ (kidsI l (parI l i)) i

/-! #### slices_Index_int_int -/
theorem idxI_l0 (l : List Int) (x : Int) (hm : (l.length : Int) ≤ 9223372036854775806) : ∀ (d i : Nat), i + d = l.length → (∀ j, j < i → (hj : j < l.length) → l[j] ≠ x) → Ev (fun k => slices_Index_int_int.l0 k l x (l.length : Int) (i : Int)) (idxJ l x) := by
  intro d
  induction d with
  | zero =>
    intro i h hn
    refine ev_succ ?_
    simp only [slices_Index_int_int.l0]
    refine ev_neg (by omega) (ev_some ?_)
    unfold idxJ
    rw [if_neg]
    intro hm2
    obtain ⟨j, hj, e⟩ := List.getElem_of_mem hm2
    exact hn j (by omega) hj e
  | succ d ih =>
    intro i h hn
    refine ev_succ ?_
    simp only [slices_Index_int_int.l0]
    have hi : i < l.length := by omega
    have e : rd l (i : Int) = l[i] := by simp [rd, hi]
    refine ev_pos (by omega) (ev_pos (by omega) (ev_pos (by omega) ?_))
    rw [e]
    by_cases hx : x = l[i]
    · refine ev_pos hx (ev_some ?_)
      unfold idxJ
      have hmem : x ∈ l := by rw [hx]; exact List.getElem_mem hi
      rw [if_pos hmem]
      have hlt := List.idxOf_lt_length_of_mem hmem
      have hge := List.getElem_idxOf hlt
      have h1 : ¬ l.idxOf x < i := fun hlt2 => hn _ hlt2 hlt hge
      have h2 : ¬ i < l.idxOf x := by
        intro hlt2
        have := List.not_of_lt_findIdx (p := (· == x)) (xs := l) (i := i) hlt2
        simp at this
        exact this hx.symm
      omega
    · refine ev_neg hx ?_
      rw [w64 (by omega) (by omega)]
      refine ih (i + 1) (by omega) (fun j hj hjl => ?_)
      by_cases ej : j = i
      · subst ej; exact fun h => hx h.symm
      · exact hn j (by omega) hjl
theorem idxI_ev (l : List Int) (x : Int) (hm : (l.length : Int) ≤ 9223372036854775806) : Ev (fun k => slices_Index_int_int.f k l x) (idxJ l x) := by
  simp only [slices_Index_int_int.f]
  exact idxI_l0 l x hm l.length 0 (by omega) (fun j h => absurd h (Nat.not_lt_zero _))

/-! #### _nodeAt -/
/-- the number of what was found, or -1 -/
def optI : Option Nat → Int
  | some k => (k : Int)
  | none => -1
/-- the node that a path leads to, or -1 -/
def nodeI (l : List S55) (p : List Int) : Int := if treeOk l = true then optI (Tree.goDown l.length (dpA l) 0 p) else -1
theorem nodeI_nat {l : List S55} {p : List Int} (h : 0 ≤ nodeI l p) : ∃ k : Nat, nodeI l p = (k : Int) ∧ k < l.length ∧ treeOk l = true ∧ Tree.goDown l.length (dpA l) 0 p = some k := by
  unfold nodeI at h ⊢
  by_cases ht : treeOk l = true
  · rw [if_pos ht] at h ⊢
    have h24 := (treeOk_iff.1 ht).1
    cases hg : Tree.goDown l.length (dpA l) 0 p with
    | none => rw [hg] at h; simp [optI] at h
    | some k => exact ⟨k, rfl, Tree.goDown_lt p 0 k (by omega) hg, ht, rfl⟩
  · rw [if_neg ht] at h; omega
theorem kidsI_ok {l : List S55} {i : Nat} (ht : treeOk l = true) (hi : i < l.length) : kidsI l (i : Int) = (Tree.kids l.length (dpA l) i).map Int.ofNat := by
  unfold kidsI
  rw [if_pos (hasB_iff.2 ⟨ht, by omega, by omega⟩), Int.toNat_natCast]
theorem rd_nat (ks : List Nat) (x : Int) (h0 : 0 ≤ x) (h : x < (ks.length : Int)) : rd (ks.map Int.ofNat) x = ((ks.getD x.toNat 0 : Nat) : Int) := by
  unfold rd
  rw [List.getD_eq_getElem?_getD, List.getElem?_map, List.getD_eq_getElem?_getD, List.getElem?_eq_getElem (by omega)]
  rfl
theorem drop_rd (p : List Int) (j : Nat) (h : j < p.length) : p.drop j = rd p (j : Int) :: p.drop (j + 1) := by
  rw [List.drop_eq_getElem_cons h]
  congr 1
  simp [rd, h]

/-! #### _domFrom -/
/-- the first and the last of a row, -1 where it is empty -/
def firstI (K : List Int) : Int := if (K.length : Int) > 0 then rd K 0 else -1
def lastI (K : List Int) : Int := if (K.length : Int) > 0 then rd K ((K.length : Int) - 1) else -1
/-- what stands ahead of place r, and behind it -/
def prevI (K : List Int) (r : Int) : Int := if r > 0 then rd K (r - 1) else -1
def nextI (K : List Int) (r : Int) : Int := if r + 1 < (K.length : Int) then rd K (r + 1) else -1
/-- a tree's node with its pointers -/
def nodeD (l : List S55) (j : Nat) : S90 :=
  ⟨true, lbA l j, parI l (j : Int), firstI (kidsI l (j : Int)), lastI (kidsI l (j : Int)),
    if parI l (j : Int) ≥ 0 then prevI (kidsI l (parI l (j : Int))) (rankI l (j : Int)) else -1,
    if parI l (j : Int) ≥ 0 then nextI (kidsI l (parI l (j : Int))) (rankI l (j : Int)) else -1⟩
def domT (l : List S55) : List S90 := if treeOk l = true then (List.range l.length).map (nodeD l) else []
theorem idxJ_range (K : List Int) (x : Int) : idxJ K x = -1 ∨ (0 ≤ idxJ K x ∧ idxJ K x < (K.length : Int)) := by
  unfold idxJ
  by_cases h : x ∈ K
  · rw [if_pos h]
    have := List.idxOf_lt_length_of_mem h
    omega
  · rw [if_neg h]; exact .inl rfl
theorem domFrom_snoc (l : List S55) (i : Nat) : (List.range i).map (nodeD l) ++ [nodeD l i] = (List.range (i + 1)).map (nodeD l) := by
  rw [List.range_succ, List.map_append]; rfl
theorem kidsI_neg (l : List S55) {p : Int} (h : p < 0) : kidsI l p = [] := by
  unfold kidsI
  rw [if_neg]
  intro hh
  have := (hasB_iff.1 hh).2.1
  omega
theorem kids_of_par {l : List S55} {i : Nat} (ht : treeOk l = true) (hi : i < l.length) (h : parI l (i : Int) ≥ 0) : ((kidsI l (parI l (i : Int))).length : Int) > 0 := by
  have hh : hasB l (i : Int) = true := hasB_iff.2 ⟨ht, by omega, by omega⟩
  have e : parI l (i : Int) = Tree.par (dpA l) i := by unfold parI; rw [if_pos hh]; rfl
  have hv := treeOk_vd ht
  by_cases h0 : i = 0
  · subst h0
    rw [e, Tree.par_root] at h
    omega
  · obtain ⟨p, e1, a, _, _, _, m⟩ := Tree.par_spec hv (by omega) hi
    rw [e, e1, kidsI_ok ht (by omega)]
    have := List.length_pos_of_mem m
    simp only [List.length_map]
    omega

/-! #### impl_DomFrom -/
theorem impl_DomFrom_j1 (l : List S55) (i : Nat) (acc : List S90) (f3 f4 : Int) (r : List S90) (ht : treeOk l = true) (hi : i < l.length) (ha : acc.length ≤ i)
    (ih : ∀ x : S90, x = ⟨true, lbA l i, parI l (i : Int), f3, f4, if parI l (i : Int) ≥ 0 then prevI (kidsI l (parI l (i : Int))) (rankI l (i : Int)) else -1, if parI l (i : Int) ≥ 0 then nextI (kidsI l (parI l (i : Int))) (rankI l (i : Int)) else -1⟩ → Ev (fun k => impl_DomFrom.l0 k l l (l.length : Int) ((i : Int) + 1) (acc ++ [x])) r) :
    Ev (fun k => impl_DomFrom.j1 k l (i : Int) l (l.length : Int) (i : Int) acc true (lbA l i) (parI l (i : Int)) f3 f4 (-1) (-1)) r := by
  have h24 := (treeOk_iff.1 ht).1
  refine ev_succ ?_
  simp only [impl_DomFrom.j1]
  rw [w64 (x := (i : Int) + 1) (by omega) (by omega)]
  have hkl := kidsI_length l (parI l (i : Int))
  refine ev_bind (impl_KidsOf_ev l _ (by omega)) ?_
  by_cases hp : parI l (i : Int) ≥ 0
  · rw [if_pos hp, if_pos hp] at ih
    have hr0 : rankI l (i : Int) = idxJ (kidsI l (parI l (i : Int))) (i : Int) := by unfold rankI; rw [if_neg (by omega)]
    refine ev_pos (kids_of_par ht hi hp) (ev_bind (idxI_ev _ _ (by omega)) ?_)
    rw [← hr0]
    have hr : rankI l (i : Int) = -1 ∨ (0 ≤ rankI l (i : Int) ∧ rankI l (i : Int) < ((kidsI l (parI l (i : Int))).length : Int)) := by
      rw [hr0]; exact idxJ_range _ _
    rw [w64 (x := rankI l (i : Int) - 1) (by omega) (by omega), w64 (x := rankI l (i : Int) + 1) (by omega) (by omega)]
    unfold prevI nextI at ih
    by_cases h1 : rankI l (i : Int) > 0
    · rw [if_pos h1] at ih
      refine ev_pos h1 (ev_pos (by omega) (ev_pos (by omega) ?_))
      by_cases h2 : rankI l (i : Int) + 1 < ((kidsI l (parI l (i : Int))).length : Int)
      · rw [if_pos h2] at ih
        exact ev_pos h2 (ev_pos (by omega) (ev_pos (by omega) (ih _ rfl)))
      · rw [if_neg h2] at ih
        exact ev_neg h2 (ev_pos (by omega) (ih _ rfl))
    · rw [if_neg h1] at ih
      refine ev_neg h1 ?_
      by_cases h2 : rankI l (i : Int) + 1 < ((kidsI l (parI l (i : Int))).length : Int)
      · rw [if_pos h2] at ih
        exact ev_pos h2 (ev_pos (by omega) (ev_pos (by omega) (ih _ rfl)))
      · rw [if_neg h2] at ih
        exact ev_neg h2 (ev_pos (by omega) (ih _ rfl))
  · rw [if_neg hp, if_neg hp] at ih
    rw [kidsI_neg l (by omega)]
    exact ev_neg (by simp) (ev_pos (by omega) (ih _ rfl))
theorem impl_DomFrom_l0 (l : List S55) (ht : treeOk l = true) : ∀ (d i : Nat), i + d = l.length → Ev (fun k => impl_DomFrom.l0 k l l (l.length : Int) (i : Int) ((List.range i).map (nodeD l))) ((List.range l.length).map (nodeD l)) := by
  have h24 := (treeOk_iff.1 ht).1
  intro d
  induction d with
  | zero =>
    intro i h
    refine ev_succ ?_
    simp only [impl_DomFrom.l0]
    have e : i = l.length := by omega
    subst e
    exact ev_neg (by omega) (Ev.now _)
  | succ d ih =>
    intro i h
    refine ev_succ ?_
    simp only [impl_DomFrom.l0]
    have hkl := kidsI_length l (i : Int)
    have hi := ih (i + 1) (by omega)
    rw [← domFrom_snoc] at hi
    refine ev_pos (by omega) (ev_pos (by omega) (ev_pos (by omega) (ev_bindc rfl (ev_bind (impl_ParentOf_ev l _ (by omega)) (ev_bind (impl_KidsOf_ev l _ (by omega)) ?_)))))
    rw [rd_f0, w64 (x := ((kidsI l (i : Int)).length : Int) - 1) (by omega) (by omega)]
    by_cases hk : ((kidsI l (i : Int)).length : Int) > 0
    · refine ev_pos hk (ev_pos (by omega) (ev_pos (by omega) (ev_pos (by omega) (impl_DomFrom_j1 l i _ _ _ _ ht (by omega) (by simp) (fun x hx => ?_)))))
      have e : x = nodeD l i := by rw [hx]; unfold nodeD firstI lastI; rw [if_pos hk, if_pos hk]
      rw [e]
      exact hi
    · refine ev_neg hk (impl_DomFrom_j1 l i _ _ _ _ ht (by omega) (by simp) (fun x hx => ?_))
      have e : x = nodeD l i := by rw [hx]; unfold nodeD firstI lastI; rw [if_neg hk, if_neg hk]
      rw [e]
      exact hi
theorem impl_DomFrom_ev (l : List S55) : Ev (fun k => impl_DomFrom.f k l) (domT l) := by
  simp only [impl_DomFrom.f]
  refine ev_bind (impl_TreeOk_ev l) ?_
  unfold domT
  by_cases ht : treeOk l = true
  · rw [if_pos ht]
    exact ev_pos ht (impl_DomFrom_l0 l ht l.length 0 (by omega))
  · rw [if_neg ht]
    exact ev_neg ht (Ev.now _)

/-! #### laws_big -/
theorem big_eq (l : List Int) : laws_big.f l = some (decide ((l.length : Int) > 1048576)) := rfl

/-! #### _cur -/
theorem and255 (x : Int) : 0 ≤ Go.bits .and .i64 x 255 ∧ Go.bits .and .i64 x 255 ≤ 255 := by
  have key : ((BitVec.ofInt 64 x) &&& (BitVec.ofInt 64 255)).toNat ≤ 255 := by
    rw [BitVec.toNat_and]
    exact Nat.le_trans Nat.and_le_right (by decide)
  have e : Go.bits .and .i64 x 255 = IntKind.i64.wrap (((BitVec.ofInt 64 x) &&& (BitVec.ofInt 64 255)).toNat : Int) := rfl
  rw [e, IntKind.wrap_i64]
  omega
/-- the cursor's place lies in the code -/
def Cur (s : List Int) (i : Int) : Prop := (0 ≤ i ∧ i ≤ (s.length : Int)) ∧ (s.length : Int) ≤ 4611686018427387904

/-! #### spec_l1Byte -/
theorem l1Byte_ok (s : List Int) (i h0 : Int) (hc : Cur s i) : ∃ x i' h, spec_l1Byte.f s i h0 = some (x, i', h) ∧ (0 ≤ x ∧ x ≤ 255) ∧ Cur s i' := by
  unfold spec_l1Byte.f
  obtain ⟨⟨h1, h2⟩, h3⟩ := hc
  by_cases hlt : i < (s.length : Int)
  · rw [if_pos hlt, if_pos h1, w64 (x := i + 1) (by omega) (by omega)]
    exact ⟨_, _, _, rfl, and255 _, ⟨by omega, by omega⟩, h3⟩
  · rw [if_neg hlt]
    exact ⟨_, _, _, rfl, and255 _, ⟨h1, h2⟩, h3⟩

/-! #### spec_l1Below -/
theorem l1Below_ok (s : List Int) (i h0 n : Int) (hc : Cur s i) : ∃ x i' h, spec_l1Below.f s i h0 n = some (x, i', h) ∧ 0 ≤ x ∧ (0 < n → x < n) ∧ (n ≤ 0 → x = 0) ∧ Cur s i' := by
  unfold spec_l1Below.f
  by_cases h0n : n ≤ 0
  · rw [if_pos h0n]
    exact ⟨0, i, h0, rfl, Int.le_refl 0, fun h => by omega, fun _ => rfl, hc⟩
  · rw [if_neg h0n]
    by_cases h256 : n ≤ 256
    · obtain ⟨x, i', h, e, hx, hc'⟩ := l1Byte_ok s i h0 hc
      rw [if_pos h256, e]
      simp only [Option.bind_some]
      rw [if_neg (by omega)]
      exact ⟨_, _, _, rfl, Int.tmod_nonneg _ hx.1, fun _ => Int.tmod_lt_of_pos _ (by omega), fun h => by omega, hc'⟩
    · obtain ⟨x, i1, h1, e1, hx, hc1⟩ := l1Byte_ok s i h0 hc
      obtain ⟨y, i2, h2, e2, hy, hc2⟩ := l1Byte_ok s i1 h1 hc1
      obtain ⟨z, i3, h3, e3, hz, hc3⟩ := l1Byte_ok s i2 h2 hc2
      obtain ⟨v, i4, h4, e4, hv, hc4⟩ := l1Byte_ok s i3 h3 hc3
      rw [if_neg h256, e1]
      simp only [Option.bind_some, e2, e3, e4]
      rw [if_neg (by omega), w64 (x := x * 16777216) (by omega) (by omega), w64 (x := y * 65536) (by omega) (by omega), w64 (x := z * 256) (by omega) (by omega), w64 (x := x * 16777216 + y * 65536) (by omega) (by omega), w64 (x := x * 16777216 + y * 65536 + z * 256) (by omega) (by omega), w64 (by omega) (by omega)]
      exact ⟨_, _, _, rfl, Int.tmod_nonneg _ (by omega), fun _ => Int.tmod_lt_of_pos _ (by omega), fun h => by omega, hc4⟩

/-! #### spec_l1Once -/
theorem l1Once_ok (s : List Int) (i h0 n : Int) (hc : Cur s i) : ∃ x i' h, spec_l1Once.f s i h0 n = some (x, i', h) ∧ Cur s i' := by
  unfold spec_l1Once.f
  obtain ⟨x, i', h, e, _, _, _, hc'⟩ := l1Below_ok s i h0 n hc
  rw [e]
  exact ⟨_, _, _, rfl, hc'⟩

/-! #### spec_l1PickInt -/
theorem l1PickInt_ok (s : List Int) (i h0 : Int) (l : List Int) (hl : 0 < l.length) (hc : Cur s i) : ∃ (j : Nat) (i' h : Int), spec_l1PickInt.f s i h0 l = some (rd l (j : Int), i', h) ∧ j < l.length ∧ Cur s i' := by
  unfold spec_l1PickInt.f
  obtain ⟨x, i', h, e, h1, h2, _, hc'⟩ := l1Below_ok s i h0 (l.length : Int) hc
  have h3 := h2 (by omega)
  rw [e]
  simp only [Option.bind_some]
  rw [if_pos h1, if_pos h3]
  refine ⟨x.toNat, i', h, ?_, by omega, hc'⟩
  rw [Int.toNat_of_nonneg h1]

/-! #### spec_l2Label -/
theorem l2Label_ok (s : List Int) (i h0 : Int) (hc : Cur s i) : ∃ x i' h, spec_l2Label.f s i h0 = some (x, i', h) ∧ (0 ≤ x ∧ x ≤ 3) ∧ Cur s i' := by
  unfold spec_l2Label.f
  obtain ⟨x, i', h, e, h1, h2, _, hc'⟩ := l1Below_ok s i h0 4 hc
  rw [e]
  exact ⟨_, _, _, rfl, ⟨h1, by have := h2 (by omega); omega⟩, hc'⟩

/-! #### spec_l3Tree -/
/-- what a drawn tree is: at least a node, at most so many, all small -/
def Drawn (l : List S55) (n : Nat) : Prop := 1 ≤ l.length ∧ l.length ≤ n ∧ ∀ x ∈ l, (0 ≤ x.f0 ∧ x.f0 ≤ 3) ∧ 0 ≤ x.f1 ∧ x.f1 ≤ 12
theorem drawn_snoc {l : List S55} {n : Nat} (h : Drawn l n) {a b : Int} (ha : 0 ≤ a ∧ a ≤ 3) (hb : 0 ≤ b ∧ b ≤ 12) : Drawn (l ++ [⟨a, b⟩]) (n + 1) := by
  obtain ⟨h1, h2, h3⟩ := h
  refine ⟨by simp, by simp; omega, fun x hx => ?_⟩
  rcases List.mem_append.1 hx with hx | hx
  · exact h3 x hx
  · rw [List.mem_singleton.1 hx]
    exact ⟨ha, hb⟩
theorem l3Tree_l0 (s : List Int) (hs : (s.length : Int) ≤ 4611686018427387904) : ∀ (d : Nat) (l : List S55) (i h0 : Int) (m : Nat), Drawn l m → m + d ≤ 1000 → Cur s i →
    ∃ r i' h, Ev (fun k => spec_l3Tree.l0 k l (d : Int) s i h0) (r, i', h) ∧ Drawn r (m + d) ∧ Cur s i' := by
  intro d
  induction d with
  | zero =>
    intro l i h0 m hd hm hc
    refine ⟨l, i, h0, ev_succ ?_, hd, hc⟩
    simp only [spec_l3Tree.l0]
    exact ev_neg (by omega) (Ev.now _)
  | succ d ih =>
    intro l i h0 m hd hm hc
    have hl := hd.1
    have hl2 := hd.2.1
    have e1 : wrap64 ((l.length : Int) - 1) = ((l.length - 1 : Nat) : Int) := by rw [w64 (by omega) (by omega)]; omega
    have hlast : 0 ≤ dpA l (l.length - 1) ∧ dpA l (l.length - 1) ≤ 12 := by
      have hm2 : l[l.length - 1] ∈ l := List.getElem_mem (by omega)
      have := (hd.2.2 _ hm2).2
      rw [getD_node l _ (by omega)] at this
      exact this
    obtain ⟨x, i1, h1, b1, hx0, hx1, _, hc1⟩ := l1Below_ok s i h0 (dpA l (l.length - 1) + 1) hc
    have hx := hx1 (by omega)
    obtain ⟨o, i2, h2, b2, hc2⟩ := l1Once_ok s i1 h1 2 hc1
    obtain ⟨y, i3, h3, b3, hy, hc3⟩ := l2Label_ok s i2 h2 hc2
    have hd1 := fun (b : Int) (hb : 0 ≤ b ∧ b ≤ 12) => ih (l ++ [⟨y, b⟩]) i3 h3 (m + 1) (drawn_snoc hd hy hb) (by omega) hc3
    have em : m + 1 + d = m + (d + 1) := by omega
    have hed : wrap64 (((d + 1 : Nat) : Int) - 1) = (d : Int) := by rw [w64 (by omega) (by omega)]; omega
    have e5 : wrap64 (dpA l (l.length - 1) + 1) = dpA l (l.length - 1) + 1 := w64 (by omega) (by omega)
    have e6 : wrap64 (1 + x) = 1 + x := w64 (by omega) (by omega)
    by_cases ho : o = true
    · by_cases hg : dpA l (l.length - 1) + 1 > 12
      · obtain ⟨r, i', h, he, hr, hcr⟩ := hd1 1 (by omega)
        refine ⟨r, i', h, ev_succ ?_, by rw [← em]; exact hr, hcr⟩
        simp only [spec_l3Tree.l0, e1, rd_f1, e5]
        refine ev_pos (by omega) (ev_pos (by omega) (ev_pos (by omega) (ev_bindc b1 (ev_bindc b2 (ev_pos ho (ev_pos hg (ev_bindc b3 (ev_pos (by omega) ?_))))))))
        rw [hed]; exact he
      · obtain ⟨r, i', h, he, hr, hcr⟩ := hd1 (dpA l (l.length - 1) + 1) (by omega)
        refine ⟨r, i', h, ev_succ ?_, by rw [← em]; exact hr, hcr⟩
        simp only [spec_l3Tree.l0, e1, rd_f1, e5]
        refine ev_pos (by omega) (ev_pos (by omega) (ev_pos (by omega) (ev_bindc b1 (ev_bindc b2 (ev_pos ho (ev_neg hg (ev_bindc b3 (ev_pos (by omega) ?_))))))))
        rw [hed]; exact he
    · by_cases hg : 1 + x > 12
      · obtain ⟨r, i', h, he, hr, hcr⟩ := hd1 1 (by omega)
        refine ⟨r, i', h, ev_succ ?_, by rw [← em]; exact hr, hcr⟩
        simp only [spec_l3Tree.l0, e1, rd_f1, e5]
        refine ev_pos (by omega) (ev_pos (by omega) (ev_pos (by omega) (ev_bindc b1 (ev_bindc b2 (ev_neg ho ?_)))))
        simp only [e6]
        refine ev_pos hg (ev_bindc b3 (ev_pos (by omega) ?_))
        rw [hed]; exact he
      · obtain ⟨r, i', h, he, hr, hcr⟩ := hd1 (1 + x) (by omega)
        refine ⟨r, i', h, ev_succ ?_, by rw [← em]; exact hr, hcr⟩
        simp only [spec_l3Tree.l0, e1, rd_f1, e5]
        refine ev_pos (by omega) (ev_pos (by omega) (ev_pos (by omega) (ev_bindc b1 (ev_bindc b2 (ev_neg ho ?_)))))
        simp only [e6]
        refine ev_neg hg (ev_bindc b3 (ev_pos (by omega) ?_))
        rw [hed]; exact he
theorem l3Tree_ok (s : List Int) (i h0 : Int) (most : Nat) (hm : most ≤ 900) (hc : Cur s i) : ∃ r i' h, Ev (fun k => spec_l3Tree.f k s i h0 (most : Int)) (r, i', h) ∧ Drawn r (most + 1) ∧ Cur s i' := by
  obtain ⟨y, i1, h1, b1, hy, hc1⟩ := l2Label_ok s i h0 hc
  obtain ⟨x, i2, h2, b2, hx0, hx1, hx2, hc2⟩ := l1Below_ok s i1 h1 (most : Int) hc1
  have hxm : x ≤ (most : Int) := by
    rcases Nat.eq_zero_or_pos most with h | h
    · have := hx2 (by omega); omega
    · have := hx1 (by omega); omega
  obtain ⟨r, i', h, he, hr, hcr⟩ := l3Tree_l0 s hc.2 x.toNat [⟨y, 0⟩] i2 h2 1 ⟨by simp, by simp, fun z hz => by
    rw [List.mem_singleton.1 hz]; exact ⟨hy, by show (0 : Int) ≤ 0; omega, by show (0 : Int) ≤ 12; omega⟩⟩ (by omega) hc2
  rw [Int.toNat_of_nonneg hx0] at he
  refine ⟨r, i', h, ?_, ⟨hr.1, by have := hr.2.1; omega, hr.2.2⟩, hcr⟩
  simp only [spec_l3Tree.f]
  exact ev_bindc b1 (ev_bindc b2 he)

/-! #### spec_l2Any -/
theorem l2Any_ok (s : List Int) (i h0 : Int) (hc : Cur s i) : ∃ x i' h, spec_l2Any.f s i h0 = some (x, i', h) ∧ Cur s i' := by
  unfold spec_l2Any.f
  obtain ⟨j, i', h, e, _, hc'⟩ := l1PickInt_ok s i h0 [0, 1, 2, 3, 5, 6, (-1)] (by simp) hc
  rw [e]
  exact ⟨_, _, _, rfl, hc'⟩

/-! #### spec_l3Any -/
theorem l3Any_l0 (s : List Int) : ∀ (d : Nat) (l : List S55) (i h0 : Int), 26 ≤ l.length + d → l.length ≤ 1000 → Cur s i → ∃ r i' h, Ev (fun k => spec_l3Any.l0 k l s i h0) (r, i', h) ∧ r.length ≤ max l.length 26 ∧ Cur s i' := by
  intro d
  induction d with
  | zero =>
    intro l i h0 h hl hc
    obtain ⟨x, i1, h1, b1, hx0, hx1, _, hc1⟩ := l1Below_ok s i h0 2 hc
    have hx := hx1 (by omega)
    refine ⟨l, i1, h1, ev_succ ?_, by omega, hc1⟩
    simp only [spec_l3Any.l0]
    refine ev_bindc b1 (ev_neg ?_ (Ev.now _))
    show ¬ (l.length : Int) < wrap64 (24 + x)
    rw [w64 (by omega) (by omega)]; omega
  | succ d ih =>
    intro l i h0 h hl hc
    obtain ⟨x, i1, h1, b1, hx0, hx1, _, hc1⟩ := l1Below_ok s i h0 2 hc
    have hx := hx1 (by omega)
    by_cases hlt : (l.length : Int) < wrap64 (24 + x)
    · have hlt2 := hlt
      rw [w64 (x := 24 + x) (by omega) (by omega)] at hlt2
      obtain ⟨r, i', h', he, hr, hcr⟩ := ih (l ++ [⟨1, 1⟩]) i1 h1 (by simp; omega) (by simp; omega) hc1
      refine ⟨r, i', h', ev_succ ?_, by simp only [List.length_append, List.length_singleton] at hr; omega, hcr⟩
      simp only [spec_l3Any.l0]
      exact ev_bindc b1 (ev_pos hlt (ev_pos (by omega) he))
    · refine ⟨l, i1, h1, ev_succ ?_, by omega, hc1⟩
      simp only [spec_l3Any.l0]
      exact ev_bindc b1 (ev_neg hlt (Ev.now _))
theorem l3Any_l1 (s : List Int) : ∀ (d : Nat) (l : List S55) (i h0 : Int), 26 ≤ l.length + d → l.length ≤ 1000 → Cur s i → ∃ r i' h, Ev (fun k => spec_l3Any.l1 k l s i h0) (r, i', h) ∧ r.length ≤ max l.length 26 ∧ Cur s i' := by
  intro d
  induction d with
  | zero =>
    intro l i h0 h hl hc
    obtain ⟨x, i1, h1, b1, hx0, hx1, _, hc1⟩ := l1Below_ok s i h0 2 hc
    have hx := hx1 (by omega)
    refine ⟨l, i1, h1, ev_succ ?_, by omega, hc1⟩
    simp only [spec_l3Any.l1]
    refine ev_bindc b1 (ev_neg ?_ (Ev.now _))
    show ¬ (l.length : Int) < wrap64 (13 + x)
    rw [w64 (by omega) (by omega)]; omega
  | succ d ih =>
    intro l i h0 h hl hc
    obtain ⟨x, i1, h1, b1, hx0, hx1, _, hc1⟩ := l1Below_ok s i h0 2 hc
    have hx := hx1 (by omega)
    by_cases hlt : (l.length : Int) < wrap64 (13 + x)
    · have hlt2 := hlt
      rw [w64 (x := 13 + x) (by omega) (by omega)] at hlt2
      obtain ⟨r, i', h', he, hr, hcr⟩ := ih (l ++ [⟨0, (l.length : Int)⟩]) i1 h1 (by simp; omega) (by simp; omega) hc1
      refine ⟨r, i', h', ev_succ ?_, by simp only [List.length_append, List.length_singleton] at hr; omega, hcr⟩
      simp only [spec_l3Any.l1]
      exact ev_bindc b1 (ev_pos hlt (ev_pos (by omega) he))
    · refine ⟨l, i1, h1, ev_succ ?_, by omega, hc1⟩
      simp only [spec_l3Any.l1]
      exact ev_bindc b1 (ev_neg hlt (Ev.now _))
theorem l3Any_ok (s : List Int) (i h0 : Int) (most : Nat) (hm : most ≤ 900) (hc : Cur s i) : ∃ r i' h, Ev (fun k => spec_l3Any.f k s i h0 (most : Int)) (r, i', h) ∧ r.length ≤ 1000 ∧ Cur s i' := by
  obtain ⟨t, i1, h1, b1, ht, hc1⟩ := l3Tree_ok s i h0 most hm hc
  have ht0 := ht.1
  have htl := ht.2.1
  obtain ⟨x, i2, h2, b2, hx0, hx1, _, hc2⟩ := l1Below_ok s i1 h1 (t.length : Int) hc1
  have hx := hx1 (by omega)
  obtain ⟨y, i3, h3, b3, hy0, hy1, _, hc3⟩ := l1Below_ok s i2 h2 18 hc2
  by_cases c0 : y = 0
  · obtain ⟨z, i4, h4, b4, hc4⟩ := l2Any_ok s i3 h3 hc3
    refine ⟨t.set x.toNat ⟨z, (rd_T55 t x).f1⟩, i4, h4, ?_, ?_, hc4⟩
    · simp only [spec_l3Any.f]
      exact ev_bind b1 (ev_bindc b2 (ev_bindc b3 (ev_pos c0 (ev_bindc b4 (ev_pos hx0 (ev_pos hx (Ev.now _)))))))
    · simp only [List.length_set]; omega
  · by_cases c1 : y = 1
    · obtain ⟨j, i4, h4, b4, _, hc4⟩ := l1PickInt_ok s i3 h3 [(-1), 0, 1, 13, wrap64 ((rd_T55 t x).f1 + 1)] (by simp) hc3
      refine ⟨t.set x.toNat ⟨(rd_T55 t x).f0, rd [(-1), 0, 1, 13, wrap64 ((rd_T55 t x).f1 + 1)] (j : Int)⟩, i4, h4, ?_, ?_, hc4⟩
      · simp only [spec_l3Any.f]
        exact ev_bind b1 (ev_bindc b2 (ev_bindc b3 (ev_neg c0 (ev_pos c1 (ev_pos hx0 (ev_pos hx (ev_bindc b4 (Ev.now _))))))))
      · simp only [List.length_set]; omega
    · by_cases c2 : y = 2
      · refine ⟨t.drop (1 : Int).toNat, i3, h3, ?_, ?_, hc3⟩
        · simp only [spec_l3Any.f]
          exact ev_bind b1 (ev_bindc b2 (ev_bindc b3 (ev_neg c0 (ev_neg c1 (ev_pos c2 (ev_pos (by dsimp only; omega) (Ev.now _)))))))
        · rw [List.length_drop]; omega
      · by_cases c3 : y = 3
        · obtain ⟨r, i', h', he, hr, hcr⟩ := l3Any_l0 s 26 t i3 h3 (by omega) (by omega) hc3
          refine ⟨r, i', h', ?_, by omega, hcr⟩
          simp only [spec_l3Any.f]
          exact ev_bind b1 (ev_bindc b2 (ev_bindc b3 (ev_neg c0 (ev_neg c1 (ev_neg c2 (ev_pos c3 he))))))
        · by_cases c4 : y = 4
          · obtain ⟨r, i', h', he, hr, hcr⟩ := l3Any_l1 s 26 [⟨0, 0⟩] i3 h3 (by simp) (by simp) hc3
            refine ⟨r, i', h', ?_, by simp only [List.length_singleton] at hr; omega, hcr⟩
            simp only [spec_l3Any.f]
            exact ev_bind b1 (ev_bindc b2 (ev_bindc b3 (ev_neg c0 (ev_neg c1 (ev_neg c2 (ev_neg c3 (ev_pos c4 he)))))))
          · refine ⟨t, i3, h3, ?_, by omega, hc3⟩
            simp only [spec_l3Any.f]
            exact ev_bind b1 (ev_bindc b2 (ev_bindc b3 (ev_neg c0 (ev_neg c1 (ev_neg c2 (ev_neg c3 (ev_neg c4 (Ev.now _))))))))

/-! #### spec_l3Where -/
theorem l3Where_ok (s : List Int) (i h0 : Int) (hc : Cur s i) : ∃ r j i' h, Ev (fun k => spec_l3Where.f k s i h0) (r, j, i', h) ∧ r.length ≤ 1000 ∧ Cur s i' := by
  obtain ⟨r, i1, h1, b1, hr, hc1⟩ := l3Any_ok s i h0 12 (by omega) hc
  obtain ⟨o, i2, h2, b2, hc2⟩ := l1Once_ok s i1 h1 10 hc1
  by_cases ho : o = true
  · obtain ⟨j, i3, h3, b3, _, hc3⟩ := l1PickInt_ok s i2 h2 [(-1), (r.length : Int)] (by simp) hc2
    refine ⟨r, rd [(-1), (r.length : Int)] (j : Int), i3, h3, ?_, hr, hc3⟩
    simp only [spec_l3Where.f]
    exact ev_bind b1 (ev_bindc b2 (ev_pos ho (ev_bindc b3 (Ev.now _))))
  · obtain ⟨x, i3, h3, b3, _, _, _, hc3⟩ := l1Below_ok s i2 h2 (mx 1 (r.length : Int)) hc2
    refine ⟨r, x, i3, h3, ?_, hr, hc3⟩
    simp only [spec_l3Where.f]
    exact ev_bind b1 (ev_bindc b2 (ev_neg ho (ev_bindc b3 (Ev.now _))))

/-! #### spec_l1New -/
theorem l1New_ev (l : List Int) (hl : (l.length : Int) ≤ 4611686018427387904) : ∃ h, Ev (fun k => spec_l1New.f k l) (l, 0, h) := by
  have key : ∀ (d i : Nat) (h0 : Int), i + d = l.length → ∃ h, Ev (fun k => spec_l1New.l0 k l h0 (i : Int)) (l, 0, h) := by
    intro d
    induction d with
    | zero =>
      intro i h0 h
      refine ⟨h0, ev_succ ?_⟩
      simp only [spec_l1New.l0]
      exact ev_neg (by omega) (Ev.now _)
    | succ d ih =>
      intro i h0 h
      by_cases h4 : (i : Int) < 4000
      · obtain ⟨h', he⟩ := ih (i + 1) (Go.bits .and .i64 (wrap64 ((wrap64 ((wrap64 (h0 * 131)) + (wrap64 (rd l (i : Int))))) + 7)) 1073741823) (by omega)
        refine ⟨h', ev_succ ?_⟩
        simp only [spec_l1New.l0]
        refine ev_pos (by omega) (ev_pos h4 (ev_pos (by omega) ?_))
        rw [w64 (x := (i : Int) + 1) (by omega) (by omega)]
        exact he
      · refine ⟨h0, ev_succ ?_⟩
        simp only [spec_l1New.l0]
        exact ev_pos (by omega) (ev_neg h4 (Ev.now _))
  simp only [spec_l1New.f]
  exact key l.length 0 _ (by omega)

/-! #### spec_DrawPathOf -/
theorem DrawPathOf_ok (l : List Int) (hl : (l.length : Int) ≤ 4611686018427387904) : ∃ a i, Ev (fun k => spec_DrawPathOf.f k l) (a, i) ∧ a.length ≤ 1000 := by
  obtain ⟨h, hn⟩ := l1New_ev l hl
  obtain ⟨t, j, i1, h1, b1, ht, hc1⟩ := l3Where_ok l 0 h ⟨⟨by omega, by omega⟩, hl⟩
  refine ⟨t, j, ?_, ht⟩
  simp only [spec_DrawPathOf.f]
  exact ev_bind hn (ev_bind b1 (Ev.now _))

/-! #### impl_KidRank -/
theorem rankI_idx (l : List S55) (i : Int) : idxJ (kidsI l (parI l i)) i = rankI l i := by
  unfold rankI
  by_cases h : parI l i < 0
  · rw [if_pos h, kidsI_neg l h]; rfl
  · rw [if_neg h]
theorem impl_KidRank_ev (l : List S55) (i : Int) (hm : (l.length : Int) ≤ 9223372036854775806) : Ev (fun k => impl_KidRank.f k l i) (rankI l i) := by
  simp only [impl_KidRank.f]
  have hk := kidsI_length l (parI l i)
  refine ev_bind (impl_ParentOf_ev l i hm) (ev_bind (impl_KidsOf_ev l _ hm) (ev_bind (idxI_ev _ _ (by omega)) ?_))
  exact ev_some (rankI_idx l i)

/-! #### slices_Reverse_int_int -/
/-- so many exchanges done -/
def revSt (l : List Int) (i : Nat) : List Int := (List.range l.length).map fun (j : Nat) => if j < i ∨ l.length ≤ i + j then l.getD (l.length - 1 - j) 0 else l.getD j 0
theorem revSt_length (l : List Int) (i : Nat) : (revSt l i).length = l.length := by simp [revSt]
theorem revSt_get (l : List Int) (i j : Nat) (h : j < (revSt l i).length) : (revSt l i)[j] = if j < i ∨ l.length ≤ i + j then l.getD (l.length - 1 - j) 0 else l.getD j 0 := by simp [revSt]
theorem revSt_rd (l : List Int) (i j : Nat) (h : j < l.length) : rd (revSt l i) (j : Int) = if j < i ∨ l.length ≤ i + j then l.getD (l.length - 1 - j) 0 else l.getD j 0 := by
  have h' : j < (revSt l i).length := by rw [revSt_length]; exact h
  show (revSt l i).getD ((j : Int)).toNat 0 = _
  rw [Int.toNat_natCast, List.getD_eq_getElem?_getD, List.getElem?_eq_getElem h', Option.getD_some, revSt_get l i j h']
theorem revSt_step (l : List Int) (i : Nat) (h : i + i + 1 < l.length) : ((revSt l i).set i (rd (revSt l i) ((l.length - 1 - i : Nat) : Int))).set (l.length - 1 - i) (rd (revSt l i) (i : Int)) = revSt l (i + 1) := by
  rw [revSt_rd l i _ (by omega), revSt_rd l i i (by omega), if_neg (by omega), if_neg (by omega)]
  apply List.ext_getElem
  · simp [revSt_length]
  · intro j h1 h2
    rw [revSt_get, List.getElem_set, List.getElem_set, revSt_get]
    have hj : j < l.length := by rw [revSt_length] at h2; exact h2
    by_cases e1 : l.length - 1 - i = j
    · rw [if_pos e1, if_pos (by omega)]
      congr 1; omega
    · rw [if_neg e1]
      by_cases e2 : i = j
      · rw [if_pos e2, if_pos (by omega), e2]
      · rw [if_neg e2]
        by_cases e3 : j < i ∨ l.length ≤ i + j
        · rw [if_pos e3, if_pos (by omega)]
        · rw [if_neg e3, if_neg (by omega)]
theorem revSt_end (l : List Int) (i : Nat) (h : l.length ≤ i + i + 1) : revSt l i = l.reverse := by
  apply List.ext_getElem
  · simp [revSt_length]
  · intro j h1 h2
    have hj : j < l.length := by rw [revSt_length] at h1; exact h1
    rw [revSt_get, List.getElem_reverse]
    by_cases e : j < i ∨ l.length ≤ i + j
    · rw [if_pos e, List.getD_eq_getElem?_getD, List.getElem?_eq_getElem (by omega), Option.getD_some]
    · rw [if_neg e]
      have e2 : l.length - 1 - j = j := by omega
      rw [List.getD_eq_getElem?_getD, List.getElem?_eq_getElem hj, Option.getD_some]
      congr 1; omega
theorem reverseI_l0 (l : List Int) (hm : l.length ≤ 4611686018427387904) : ∀ (d i : Nat), l.length ≤ i + i + 1 + d → i ≤ l.length → Ev (fun k => slices_Reverse_int_int.l0 k (revSt l i) (i : Int) ((l.length : Int) - 1 - (i : Int))) l.reverse := by
  intro d
  induction d with
  | zero =>
    intro i h hi
    refine ev_succ ?_
    simp only [slices_Reverse_int_int.l0]
    refine ev_neg (by omega) (ev_some ?_)
    exact revSt_end l i (by omega)
  | succ d ih =>
    intro i h hi
    refine ev_succ ?_
    simp only [slices_Reverse_int_int.l0]
    by_cases hlt : i + i + 1 < l.length
    · have e : (l.length : Int) - 1 - (i : Int) = ((l.length - 1 - i : Nat) : Int) := by omega
      have hl := revSt_length l i
      refine ev_pos (by omega) (ev_pos (by omega) (ev_pos (by omega) (ev_pos (by omega) (ev_pos (by omega) ?_))))
      rw [w64 (x := (i : Int) + 1) (by omega) (by omega), w64 (x := (l.length : Int) - 1 - (i : Int) - 1) (by omega) (by omega)]
      rw [e]
      simp only [Int.toNat_natCast]
      rw [revSt_step l i hlt]
      have := ih (i + 1) (by omega) (by omega)
      have e2 : (l.length : Int) - 1 - ((i + 1 : Nat) : Int) = ((l.length - 1 - i : Nat) : Int) - 1 := by omega
      rw [e2] at this
      exact this
    · refine ev_neg (by omega) (ev_some ?_)
      exact revSt_end l i (by omega)
theorem reverseI_ev (l : List Int) (hm : l.length ≤ 4611686018427387904) : Ev (fun k => slices_Reverse_int_int.f k l) l.reverse := by
  simp only [slices_Reverse_int_int.f]
  rw [w64 (by omega) (by omega)]
  have := reverseI_l0 l hm l.length 0 (by omega) (by omega)
  have e : revSt l 0 = l := by
    apply List.ext_getElem
    · simp [revSt_length]
    · intro j h1 h2
      rw [revSt_get, if_neg (by omega), List.getD_eq_getElem?_getD, List.getElem?_eq_getElem h2, Option.getD_some]
  rw [e] at this
  simpa using this

/-! #### _pathH -/
/-- the path of a node; empty where there is no such node -/
noncomputable def pathH (l : List S55) (i : Int) : List Int := if hasB l i = true then Tree.pathTo l.length (dpA l) i.toNat else []
theorem parI_nat {l : List S55} {i : Nat} (ht : treeOk l = true) (hi : i < l.length) : parI l (i : Int) = Tree.par (dpA l) i := by
  unfold parI
  rw [if_pos (hasB_iff.2 ⟨ht, by omega, by omega⟩)]; rfl
theorem rankI_nat {l : List S55} {i : Nat} (ht : treeOk l = true) (hi : i < l.length) (h0 : 0 < i) : rankI l (i : Int) = ((Tree.rank l.length (dpA l) i : Nat) : Int) := by
  obtain ⟨p, e, a, _, _, _, m⟩ := Tree.par_spec (treeOk_vd ht) h0 hi
  unfold rankI Tree.rank
  rw [parI_nat ht hi, e, if_neg (by omega), kidsI_ok ht (by omega), Int.toNat_natCast]
  unfold idxJ
  have hm : ((i : Nat) : Int) ∈ (Tree.kids l.length (dpA l) p).map Int.ofNat := List.mem_map.2 ⟨i, m, rfl⟩
  rw [if_pos hm]
  congr 1
  have hn : ((Tree.kids l.length (dpA l) p).map Int.ofNat).Nodup := by
    refine List.Pairwise.map _ ?_ (Tree.kids_nodup (n := l.length) (D := dpA l) (i := p))
    intro a b hab hc
    exact hab (Int.ofNat.inj hc)
  have h1 := List.idxOf_lt_length_of_mem m
  have h2 : ((Tree.kids l.length (dpA l) p).map Int.ofNat)[(Tree.kids l.length (dpA l) p).idxOf i]'(by simpa using h1) = ((i : Nat) : Int) := by
    rw [List.getElem_map, List.getElem_idxOf h1]; rfl
  have h3 := List.Nodup.idxOf_getElem hn ((Tree.kids l.length (dpA l) p).idxOf i) (by simpa using h1)
  rw [h2] at h3
  exact h3
theorem pathH_node {l : List S55} {i : Nat} (ht : treeOk l = true) (hi : i < l.length) : pathH l (i : Int) = Tree.pathTo l.length (dpA l) i := by
  unfold pathH
  rw [if_pos (hasB_iff.2 ⟨ht, by omega, by omega⟩), Int.toNat_natCast]
theorem pathH_length {l : List S55} {i : Nat} (ht : treeOk l = true) (hi : i < l.length) : ((pathH l (i : Int)).length : Int) = dpA l i := by
  rw [pathH_node ht hi]
  exact Tree.pathTo_length (treeOk_vd ht) i hi
theorem nodeI_pathH {l : List S55} {i : Nat} (ht : treeOk l = true) (hi : i < l.length) : nodeI l (pathH l (i : Int)) = (i : Int) := by
  unfold nodeI
  rw [if_pos ht, pathH_node ht hi, Tree.goDown_pathTo (treeOk_vd ht) i hi]
  rfl
theorem pathH_nodeI {l : List S55} {q : List Int} (h : 0 ≤ nodeI l q) : pathH l (nodeI l q) = q := by
  obtain ⟨k, e, hk, ht, hg⟩ := nodeI_nat h
  rw [e, pathH_node ht hk]
  exact Tree.pathTo_goDown (treeOk_vd ht) q k hg

/-! #### impl_PathOf -/
theorem impl_PathOf_stop (l : List S55) (i : Int) (acc : List Int) (hm : (l.length : Int) ≤ 9223372036854775806) (ha : acc.length ≤ 4611686018427387904) (h : hasB l i = false ∨ i ≤ 0) : Ev (fun k => impl_PathOf.l0 k l i acc) acc.reverse := by
  refine ev_succ ?_
  simp only [impl_PathOf.l0]
  refine ev_bind (hasNode_ev l i hm) ?_
  have stop : Ev (fun k => impl_PathOf.j1 k l i acc false) acc.reverse := by
    refine ev_succ ?_
    simp only [impl_PathOf.j1]
    exact ev_neg (by decide) (ev_bind (reverseI_ev acc ha) (Ev.now _))
  by_cases hh : hasB l i = true
  · refine ev_pos hh ?_
    have : decide (i > 0) = false := by
      rcases h with h | h
      · rw [h] at hh; cases hh
      · exact decide_eq_false (by omega)
    rw [this]
    exact stop
  · exact ev_neg hh stop
theorem impl_PathOf_l0 (l : List S55) (ht : treeOk l = true) : ∀ (i : Nat) (acc : List Int), i < l.length → acc.length + i ≤ 1000 → Ev (fun k => impl_PathOf.l0 k l (i : Int) acc) (Tree.pathTo l.length (dpA l) i ++ acc.reverse) := by
  have h24 := (treeOk_iff.1 ht).1
  intro i
  induction i using Nat.strongRecOn with
  | _ i ih =>
    intro acc hi ha
    by_cases h0 : i = 0
    · subst h0
      exact impl_PathOf_stop l _ acc (by omega) (by omega) (.inr (by omega))
    · obtain ⟨p, e, a, _, _, _, m⟩ := Tree.par_spec (treeOk_vd ht) (by omega) hi
      refine ev_succ ?_
      simp only [impl_PathOf.l0]
      have hh : hasB l (i : Int) = true := hasB_iff.2 ⟨ht, by omega, by omega⟩
      refine ev_bind (hasNode_ev l _ (by omega)) (ev_pos hh ?_)
      rw [decide_eq_true (by omega)]
      refine ev_succ ?_
      simp only [impl_PathOf.j1]
      refine ev_pos trivial (ev_bind (impl_KidRank_ev l _ (by omega)) (ev_pos (by omega) (ev_bind (impl_ParentOf_ev l _ (by omega)) ?_)))
      rw [parI_nat ht hi, e, rankI_nat ht hi (by omega)]
      have := ih p a (acc ++ [((Tree.rank l.length (dpA l) i : Nat) : Int)]) (by omega) (by simp only [List.length_append, List.length_singleton]; omega)
      refine ev_eq this ?_
      rw [Tree.pathTo_eq (treeOk_vd ht) (by omega) hi, e, Int.toNat_natCast, List.reverse_append, List.append_assoc]
      rfl
theorem impl_PathOf_ev (l : List S55) (i : Int) (hm : (l.length : Int) ≤ 9223372036854775806) : Ev (fun k => impl_PathOf.f k l i) (pathH l i) := by
  simp only [impl_PathOf.f]
  by_cases hh : hasB l i = true
  · obtain ⟨j, rfl, hj, ht, h24, _⟩ := hasB_nat hh
    rw [pathH_node ht hj]
    have := impl_PathOf_l0 l ht j [] hj (by simp only [List.length_nil]; omega)
    rw [List.reverse_nil, List.append_nil] at this
    exact this
  · have e : pathH l i = [] := by unfold pathH; rw [if_neg hh]
    rw [e]
    exact impl_PathOf_stop l i [] hm (by simp) (.inl (by simpa using hh))

/-! #### spec_l1In -/
theorem l1In_eq (a b c : Int) : spec_l1In.f a b c = some (decide (b ≤ a ∧ a ≤ c)) := by
  unfold spec_l1In.f
  by_cases h : a ≥ b
  · rw [if_pos h]; have h' : b ≤ a := h; simp [h']
  · rw [if_neg h]; have h' : ¬ b ≤ a := h; simp [h']

/-! #### spec_LabelOk -/
theorem spec_LabelOk_eq (a : Int) : spec_LabelOk.f a = some (decide (0 ≤ a ∧ a ≤ 5)) := by
  unfold spec_LabelOk.f; rw [l1In_eq]; rfl

/-! #### spec_TreeOk -/
theorem spec_TreeOk_l0 (l : List S55) (hm : (l.length : Int) ≤ 9223372036854775806) : ∀ (d i : Nat), i + d = l.length → (0 < i → okAt l (i - 1)) → Ev (fun k => spec_TreeOk.l0 k l (i : Int)) (decide (1 ≤ l.length ∧ l.length ≤ 24) && okFrom l i) := by
  intro d
  induction d with
  | zero =>
    intro i h hp
    refine ev_succ ?_
    simp only [spec_TreeOk.l0]
    refine ev_neg (by omega) (ev_bindc (l1In_eq _ _ _) (ev_some ?_))
    rw [okFrom_end (by omega), Bool.and_true]
    congr 1
    simp only [eq_iff_iff]
    omega
  | succ d ih =>
    intro i h hp
    refine ev_succ ?_
    simp only [spec_TreeOk.l0]
    simp only [rd_f0, rd_f1]
    refine ev_pos (by omega) (ev_pos (by omega) (ev_bindc (spec_LabelOk_eq _) ?_))
    rw [okFrom_step (by omega)]
    simp only [decide_eq_true_eq]
    by_cases h1 : 0 ≤ lbA l i ∧ lbA l i ≤ 5
    · refine ev_pos h1 (ev_bindc (l1In_eq _ _ _) ?_)
      simp only [decide_eq_true_eq]
      by_cases h2 : 0 ≤ dpA l i ∧ dpA l i ≤ 12
      · refine ev_pos h2 ?_
        by_cases h0 : i = 0
        · subst h0
          by_cases h3 : dpA l 0 = 0
          · refine ev_neg (by rw [h3]; decide) (ev_neg (by omega) ?_)
            rw [w64 (by omega) (by omega)]
            have ok : okAt l 0 := ⟨h1, h2, by rw [if_pos rfl]; exact h3⟩
            have := ih 1 (by omega) (fun _ => ok)
            rw [decide_eq_true ok, Bool.true_and]
            exact this
          · refine ev_pos (by
              have e : (dpA l 0 == 0) = false := by rw [beq_eq_false_iff_ne]; exact h3
              simp only [e]; rfl) (ev_some ?_)
            have ok : ¬ okAt l 0 := fun h => h3 (by have := h.2.2; rwa [if_pos rfl] at this)
            rw [decide_eq_false ok, Bool.false_and, Bool.and_false]
        · have ei : ((i : Int) == 0) = false := by rw [beq_eq_false_iff_ne]; omega
          by_cases h3 : dpA l i = 0
          · refine ev_pos (by rw [ei, h3]; decide) (ev_some ?_)
            have ok : ¬ okAt l i := fun h => by have := h.2.2; rw [if_neg h0] at this; omega
            rw [decide_eq_false ok, Bool.false_and, Bool.and_false]
          · have e : (dpA l i == 0) = false := by rw [beq_eq_false_iff_ne]; exact h3
            have hpp := hp (by omega)
            have e1 : (i : Int) - 1 = ((i - 1 : Nat) : Int) := by omega
            have hb := hpp.2.1
            refine ev_neg (by rw [ei, e]; decide) (ev_pos (by omega) ?_)
            rw [w64 (x := (i : Int) - 1) (by omega) (by omega), e1]
            simp only [rd_f1]
            rw [w64 (x := dpA l (i - 1) + 1) (by omega) (by omega)]
            refine ev_pos (by omega) (ev_pos (by omega) ?_)
            by_cases h4 : dpA l i > dpA l (i - 1) + 1
            · refine ev_pos h4 (ev_some ?_)
              have ok : ¬ okAt l i := fun h => by have := h.2.2; rw [if_neg h0] at this; omega
              rw [decide_eq_false ok, Bool.false_and, Bool.and_false]
            · refine ev_neg h4 ?_
              have ok : okAt l i := ⟨h1, h2, by rw [if_neg h0]; omega⟩
              rw [w64 (x := (i : Int) + 1) (by omega) (by omega), decide_eq_true ok, Bool.true_and]
              exact ih (i + 1) (by omega) (fun _ => ok)
      · refine ev_neg h2 (ev_some ?_)
        have ok : ¬ okAt l i := fun h => h2 h.2.1
        rw [decide_eq_false ok, Bool.false_and, Bool.and_false]
    · refine ev_neg h1 (ev_some ?_)
      have ok : ¬ okAt l i := fun h => h1 h.1
      rw [decide_eq_false ok, Bool.false_and, Bool.and_false]
theorem spec_TreeOk_ev (l : List S55) (hm : (l.length : Int) ≤ 9223372036854775806) : Ev (fun k => spec_TreeOk.f k l) (treeOk l) := by
  simp only [spec_TreeOk.f]
  rw [okFrom_zero]
  exact spec_TreeOk_l0 l hm l.length 0 (by omega) (fun h => absurd h (Nat.lt_irrefl 0))

/-! #### spec_l3At -/
theorem l3At_ev (l : List S55) (i : Int) (hm : (l.length : Int) ≤ 9223372036854775806) : Ev (fun k => spec_l3At.f k l i) (hasB l i) := by
  simp only [spec_l3At.f]
  refine ev_bind (spec_TreeOk_ev l hm) ?_
  unfold hasB
  by_cases h : treeOk l = true
  · refine ev_pos h ?_
    rw [h, w64 (x := (l.length : Int) - 1) (by omega) (by omega)]
    refine ev_bindc (l1In_eq _ _ _) (ev_some ?_)
    rw [Bool.true_and]
    congr 1
    simp only [eq_iff_iff]
    omega
  · refine ev_neg h (ev_some ?_)
    have : treeOk l = false := by simpa using h
    rw [this, Bool.false_and]

/-! #### spec_ParentOf -/
theorem spec_ParentOf_l0 (l : List S55) (i : Nat) (hi : i < l.length) (hm : l.length ≤ 24) : ∀ (j : Nat), j ≤ i → Ev (fun k => spec_ParentOf.l0 k l (i : Int) ((j : Int) - 1)) (Tree.upFrom (dpA l) (dpA l i) j) := by
  intro j
  induction j with
  | zero =>
    intro _
    refine ev_succ ?_
    simp only [spec_ParentOf.l0]
    exact ev_neg (by omega) (ev_some (by rw [Tree.upFrom]; omega))
  | succ j ih =>
    intro hj
    refine ev_succ ?_
    simp only [spec_ParentOf.l0]
    have e : ((j + 1 : Nat) : Int) - 1 = (j : Int) := by omega
    rw [e, Tree.upFrom]
    simp only [rd_f1]
    refine ev_pos (by omega) (ev_pos (by omega) (ev_pos (by omega) (ev_pos (by omega) (ev_pos (by omega) ?_))))
    by_cases h : dpA l j ≥ dpA l i
    · refine ev_pos h ?_
      rw [if_neg (by omega), w64 (by omega) (by omega)]
      exact ih (by omega)
    · refine ev_neg h (ev_some ?_)
      rw [if_pos (by omega)]
theorem spec_ParentOf_ev (l : List S55) (i : Int) (hm : (l.length : Int) ≤ 9223372036854775806) : Ev (fun k => spec_ParentOf.f k l i) (parI l i) := by
  simp only [spec_ParentOf.f]
  refine ev_bind (l3At_ev l i hm) ?_
  unfold parI
  by_cases h : hasB l i = true
  · obtain ⟨j, rfl, hj, h1, h2, hv⟩ := hasB_nat h
    refine ev_pos h ?_
    rw [if_pos h, w64 (by omega) (by omega)]
    exact spec_ParentOf_l0 l j hj h2 j (Nat.le_refl _)
  · refine ev_neg h ?_
    rw [if_neg h]
    exact Ev.now _

/-! #### spec_EndOf -/
theorem spec_EndOf_l0 (l : List S55) (i : Nat) (hi : i < l.length) (hm : l.length ≤ 24) : ∀ (f j : Nat), l.length ≤ j + f → i < j → Ev (fun k => spec_EndOf.l0 k l (i : Int) (j : Int)) (Tree.eoFrom l.length (dpA l) (dpA l i) f j : Int) := by
  intro f
  induction f with
  | zero =>
    intro j h h1
    refine ev_succ ?_
    simp only [spec_EndOf.l0]
    exact ev_neg (by omega) (Ev.now _)
  | succ f ih =>
    intro j h h1
    refine ev_succ ?_
    simp only [spec_EndOf.l0]
    simp only [rd_f1]
    rw [Tree.eoFrom]
    by_cases h2 : j < l.length
    · refine ev_pos (by omega) (ev_pos (by omega) (ev_pos (by omega) (ev_pos (by omega) ?_)))
      by_cases h3 : dpA l j > dpA l i
      · refine ev_pos h3 ?_
        rw [if_pos ⟨h2, h3⟩, w64 (by omega) (by omega)]
        exact ih (j + 1) (by omega) (by omega)
      · refine ev_neg h3 (ev_some ?_)
        rw [if_neg (by omega)]
    · refine ev_neg (by omega) (ev_some ?_)
      rw [if_neg (by omega)]
theorem spec_EndOf_ev (l : List S55) (i : Int) (hm : (l.length : Int) ≤ 9223372036854775806) : Ev (fun k => spec_EndOf.f k l i) (endI l i) := by
  simp only [spec_EndOf.f]
  refine ev_bind (l3At_ev l i hm) ?_
  unfold endI
  by_cases h : hasB l i = true
  · obtain ⟨j, rfl, hj, h1, h2, hv⟩ := hasB_nat h
    refine ev_pos h ?_
    rw [if_pos h, w64 (by omega) (by omega)]
    exact spec_EndOf_l0 l j hj h2 (l.length - (j + 1)) (j + 1) (by omega) (by omega)
  · refine ev_neg h ?_
    rw [if_neg h]
    exact Ev.now _

end Go.Proofs.Ytmbhlfcpdbbogab.QFnPaths
