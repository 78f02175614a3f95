/- What the printed functions of the law FnExactPatch come to, function by function, from some number of rounds on; each under the bounds that it names. -/
import Derived.Test.YtbiffnahknkoiaaMFnExactPatchx
import Derived.Test.YtbiffnahknkoiaaMFnExactPatchEvAid
import Derived.Test.YtbiffnahknkoiaaTree
import Derived.Test.YtbiffnahknkoiaaPaths
import Derived.Test.YtbiffnahknkoiaaBounds
import Derived.Test.YtbiffnahknkoiaaInsDel
import Derived.Test.YtbiffnahknkoiaaCut
import Derived.Test.YtbiffnahknkoiaaVarN
namespace Go.Proofs.Ytbiffnahknkoiaa.QFnExactPatch
open Go.RowKit Go.Proofs.Ytbiffnahknkoiaa.PFnExactPatch Go.Proofs.YtbiffnahknkoiaaW.PrintWords Go.Proofs.YtbiffnahknkoiaaW.PrintLast Go.Proofs.YtbiffnahknkoiaaW.PrintMore Go.Proofs.Ytbiffnahknkoiaa.EvAid Go.Proofs.Ytbiffnahknkoiaa
set_option linter.unusedVariables false
set_option linter.unusedSimpArgs false

/-! #### spec_l1In -/
theorem l1In_eq (a b c : Int) : spec_l1In.f a b c = some (decide (b ≤ a ∧ a ≤ c)) := by
  unfold spec_l1In.f
  by_cases h : a ≥ b
  · rw [if_pos h]; have h' : b ≤ a := h; simp [h']
  · rw [if_neg h]; have h' : ¬ b ≤ a := h; simp [h']

/-! #### spec_LabelOk -/
theorem spec_LabelOk_eq (a : Int) : spec_LabelOk.f a = some (decide (0 ≤ a ∧ a ≤ 5)) := by
  unfold spec_LabelOk.f; rw [l1In_eq]; rfl

/-! #### _nodes -/
/-- the label and the depth at a place -/
def lbA (l : List S45) (j : Nat) : Int := (l.getD j z45).f0
def dpA (l : List S45) (j : Nat) : Int := (l.getD j z45).f1
theorem rd_f0 (l : List S45) (j : Nat) : (rd_T45 l (j : Int)).f0 = lbA l j := id rfl
theorem rd_f1 (l : List S45) (j : Nat) : (rd_T45 l (j : Int)).f1 = dpA l j := id rfl
theorem node_ext {a b : S45} (h0 : a.f0 = b.f0) (h1 : a.f1 = b.f1) : a = b := by cases a; cases b; simp at h0 h1; rw [h0, h1]
theorem rd_node (l : List S45) (j : Nat) : rd_T45 l (j : Int) = ⟨lbA l j, dpA l j⟩ := id rfl
theorem getD_node (l : List S45) (j : Nat) (h : j < l.length) : l[j] = ⟨lbA l j, dpA l j⟩ := by
  apply node_ext
  · simp [lbA, h]
  · simp [dpA, h]
theorem nodes_ext {a b : List S45} (hl : a.length = b.length) (h0 : ∀ j, j < a.length → lbA a j = lbA b j) (h1 : ∀ j, j < a.length → dpA a j = dpA b j) : a = b := by
  apply List.ext_getElem hl
  intro j h2 h3
  rw [getD_node a j h2, getD_node b j h3, h0 j h2, h1 j h2]
/-- a node may stand at its place -/
def okAt (l : List S45) (j : Nat) : Prop := (0 ≤ lbA l j ∧ lbA l j ≤ 5) ∧ (0 ≤ dpA l j ∧ dpA l j ≤ 12) ∧ (if j = 0 then dpA l j = 0 else 1 ≤ dpA l j ∧ dpA l j ≤ dpA l (j - 1) + 1)
instance okAtDec (l : List S45) (j : Nat) : Decidable (okAt l j) := by unfold okAt; infer_instance
/-- the nodes are those of one tree -/
def treeOk (l : List S45) : Bool := decide (1 ≤ l.length ∧ l.length ≤ 24) && decide (∀ j, j < l.length → okAt l j)
theorem treeOk_iff {l : List S45} : treeOk l = true ↔ (1 ≤ l.length ∧ l.length ≤ 24) ∧ ∀ j, j < l.length → okAt l j := by
  simp [treeOk]
theorem treeOk_vd {l : List S45} (h : treeOk l = true) : Tree.Vd l.length (dpA l) := by
  obtain ⟨h1, h2⟩ := treeOk_iff.1 h
  refine ⟨h1.1, ?_, fun j h0 hj => ?_⟩
  · have := (h2 0 h1.1).2.2
    rwa [if_pos rfl] at this
  · have := (h2 j hj).2.2
    rwa [if_neg (by omega)] at this
/-- from place i on all nodes may stand -/
noncomputable def okFrom (l : List S45) (i : Nat) : Bool := cdec (∀ j, i ≤ j → j < l.length → okAt l j)
theorem okFrom_end {l : List S45} {i : Nat} (h : l.length ≤ i) : okFrom l i = true := by
  unfold okFrom
  rw [cdec_iff]
  intro j h1 h2
  omega
theorem okFrom_step {l : List S45} {i : Nat} (h : i < l.length) : okFrom l i = (decide (okAt l i) && okFrom l (i + 1)) := by
  unfold okFrom
  rw [Bool.eq_iff_iff, Bool.and_eq_true, cdec_iff, decide_eq_true_iff, cdec_iff]
  constructor
  · intro a; exact ⟨a i (Nat.le_refl _) h, fun j h1 h2 => a j (by omega) h2⟩
  · rintro ⟨a, b⟩ j h1 h2
    by_cases e : j = i
    · subst e; exact a
    · exact b j (by omega) h2
theorem okFrom_zero (l : List S45) : treeOk l = (decide (1 ≤ l.length ∧ l.length ≤ 24) && okFrom l 0) := by
  unfold treeOk okFrom
  congr 1
  rw [Bool.eq_iff_iff, decide_eq_true_iff, cdec_iff]
  exact ⟨fun h j _ hj => h j hj, fun h j hj => h j (Nat.zero_le _) hj⟩

/-! #### spec_TreeOk -/
theorem spec_TreeOk_l0 (l : List S45) (hm : (l.length : Int) ≤ 9223372036854775806) : ∀ (d i : Nat), i + d = l.length → (0 < i → okAt l (i - 1)) → Ev (fun k => spec_TreeOk.l0 k l (i : Int)) (decide (1 ≤ l.length ∧ l.length ≤ 24) && okFrom l i) := by
  intro d
  induction d with
  | zero =>
    intro i h hp
    refine ev_succ ?_
    simp only [spec_TreeOk.l0]
    refine ev_neg (by omega) (ev_bindc (l1In_eq _ _ _) (ev_some ?_))
    rw [okFrom_end (by omega), Bool.and_true]
    congr 1
    simp only [eq_iff_iff]
    omega
  | succ d ih =>
    intro i h hp
    refine ev_succ ?_
    simp only [spec_TreeOk.l0]
    simp only [rd_f0, rd_f1]
    refine ev_pos (by omega) (ev_pos (by omega) (ev_bindc (spec_LabelOk_eq _) ?_))
    rw [okFrom_step (by omega)]
    simp only [decide_eq_true_eq]
    by_cases h1 : 0 ≤ lbA l i ∧ lbA l i ≤ 5
    · refine ev_pos h1 (ev_bindc (l1In_eq _ _ _) ?_)
      simp only [decide_eq_true_eq]
      by_cases h2 : 0 ≤ dpA l i ∧ dpA l i ≤ 12
      · refine ev_pos h2 ?_
        by_cases h0 : i = 0
        · subst h0
          by_cases h3 : dpA l 0 = 0
          · refine ev_neg (by rw [h3]; decide) (ev_neg (by omega) ?_)
            rw [w64 (by omega) (by omega)]
            have ok : okAt l 0 := ⟨h1, h2, by rw [if_pos rfl]; exact h3⟩
            have := ih 1 (by omega) (fun _ => ok)
            rw [decide_eq_true ok, Bool.true_and]
            exact this
          · refine ev_pos (by
              have e : (dpA l 0 == 0) = false := by rw [beq_eq_false_iff_ne]; exact h3
              simp only [e]; rfl) (ev_some ?_)
            have ok : ¬ okAt l 0 := fun h => h3 (by have := h.2.2; rwa [if_pos rfl] at this)
            rw [decide_eq_false ok, Bool.false_and, Bool.and_false]
        · have ei : ((i : Int) == 0) = false := by rw [beq_eq_false_iff_ne]; omega
          by_cases h3 : dpA l i = 0
          · refine ev_pos (by rw [ei, h3]; decide) (ev_some ?_)
            have ok : ¬ okAt l i := fun h => by have := h.2.2; rw [if_neg h0] at this; omega
            rw [decide_eq_false ok, Bool.false_and, Bool.and_false]
          · have e : (dpA l i == 0) = false := by rw [beq_eq_false_iff_ne]; exact h3
            have hpp := hp (by omega)
            have e1 : (i : Int) - 1 = ((i - 1 : Nat) : Int) := by omega
            have hb := hpp.2.1
            refine ev_neg (by rw [ei, e]; decide) (ev_pos (by omega) ?_)
            rw [w64 (x := (i : Int) - 1) (by omega) (by omega), e1]
            simp only [rd_f1]
            rw [w64 (x := dpA l (i - 1) + 1) (by omega) (by omega)]
            refine ev_pos (by omega) (ev_pos (by omega) ?_)
            by_cases h4 : dpA l i > dpA l (i - 1) + 1
            · refine ev_pos h4 (ev_some ?_)
              have ok : ¬ okAt l i := fun h => by have := h.2.2; rw [if_neg h0] at this; omega
              rw [decide_eq_false ok, Bool.false_and, Bool.and_false]
            · refine ev_neg h4 ?_
              have ok : okAt l i := ⟨h1, h2, by rw [if_neg h0]; omega⟩
              rw [w64 (x := (i : Int) + 1) (by omega) (by omega), decide_eq_true ok, Bool.true_and]
              exact ih (i + 1) (by omega) (fun _ => ok)
      · refine ev_neg h2 (ev_some ?_)
        have ok : ¬ okAt l i := fun h => h2 h.2.1
        rw [decide_eq_false ok, Bool.false_and, Bool.and_false]
    · refine ev_neg h1 (ev_some ?_)
      have ok : ¬ okAt l i := fun h => h1 h.1
      rw [decide_eq_false ok, Bool.false_and, Bool.and_false]
theorem spec_TreeOk_ev (l : List S45) (hm : (l.length : Int) ≤ 9223372036854775806) : Ev (fun k => spec_TreeOk.f k l) (treeOk l) := by
  simp only [spec_TreeOk.f]
  rw [okFrom_zero]
  exact spec_TreeOk_l0 l hm l.length 0 (by omega) (fun h => absurd h (Nat.lt_irrefl 0))

/-! #### spec_l3Copy -/
theorem l3Copy_eq (l : List S45) (h : l.length < 8796093022208) : spec_l3Copy.f l = some l := by
  unfold spec_l3Copy.f
  simp only [Option.bind_some, List.nil_append, List.length_nil]
  rw [if_pos (by omega)]

/-! #### _hasB -/
/-- the tree is one, and has a node i -/
def hasB (l : List S45) (i : Int) : Bool := treeOk l && decide (0 ≤ i ∧ i < (l.length : Int))
theorem hasB_iff {l : List S45} {i : Int} : hasB l i = true ↔ treeOk l = true ∧ 0 ≤ i ∧ i < (l.length : Int) := by simp [hasB]
theorem hasB_nat {l : List S45} {i : Int} (h : hasB l i = true) : ∃ j : Nat, i = (j : Int) ∧ j < l.length ∧ treeOk l = true ∧ l.length ≤ 24 ∧ Tree.Vd l.length (dpA l) := by
  obtain ⟨h1, h2, h3⟩ := hasB_iff.1 h
  exact ⟨i.toNat, by omega, by omega, h1, (treeOk_iff.1 h1).1.2, treeOk_vd h1⟩
/-- the end of node i as the program tells it -/
def endI (l : List S45) (i : Int) : Int := if hasB l i = true then (Tree.eo l.length (dpA l) i.toNat : Int) else -1
/-- node i and what is below it as a tree of its own -/
def subT (l : List S45) (i : Int) : List S45 := if hasB l i = true then (List.range' i.toNat (Tree.eo l.length (dpA l) i.toNat - i.toNat)).map (fun (j : Nat) => (⟨lbA l j, dpA l j - dpA l i.toNat⟩ : S45)) else []
theorem subT_length (l : List S45) (i : Int) : (subT l i).length ≤ l.length := by
  unfold subT
  split
  · rename_i h
    obtain ⟨j, rfl, hj, _, _, _⟩ := hasB_nat h
    have := Tree.eo_le (D := dpA l) hj
    simp only [List.length_map, List.length_range', Int.toNat_natCast]
    omega
  · simp
/-- the kids of node i -/
def kidsI (l : List S45) (i : Int) : List Int := if hasB l i = true then (Tree.kids l.length (dpA l) i.toNat).map Int.ofNat else []
theorem kidsI_length (l : List S45) (i : Int) : (kidsI l i).length ≤ l.length := by
  unfold kidsI
  split
  · rename_i h
    obtain ⟨j, rfl, hj, _, _, _⟩ := hasB_nat h
    have := Tree.eo_le (D := dpA l) hj
    have := Tree.kids_length (n := l.length) (D := dpA l) (i := j)
    simp only [List.length_map, Int.toNat_natCast]
    omega
  · simp
theorem dp_range {l : List S45} (h : treeOk l = true) {j : Nat} (hj : j < l.length) : 0 ≤ dpA l j ∧ dpA l j ≤ 12 := ((treeOk_iff.1 h).2 j hj).2.1
theorem lb_range {l : List S45} (h : treeOk l = true) {j : Nat} (hj : j < l.length) : 0 ≤ lbA l j ∧ lbA l j ≤ 5 := ((treeOk_iff.1 h).2 j hj).1
/-- the two lists of nodes are the same -/
noncomputable def sameT (a b : List S45) : Bool := cdec (a = b)
theorem sameT_iff {a b : List S45} : sameT a b = true ↔ a = b := cdec_iff
theorem sameT_self (a : List S45) : sameT a a = true := sameT_iff.2 rfl
/-- .. from place i on -/
noncomputable def sameFrom (a b : List S45) (i : Nat) : Bool := cdec (∀ j, i ≤ j → j < a.length → lbA a j = lbA b j ∧ dpA a j = dpA b j)
theorem sameFrom_end {a b : List S45} {i : Nat} (h : a.length ≤ i) : sameFrom a b i = true := by
  unfold sameFrom
  rw [cdec_iff]
  intro j h1 h2
  omega
theorem sameFrom_step {a b : List S45} {i : Nat} (h : i < a.length) : sameFrom a b i = (decide (lbA a i = lbA b i ∧ dpA a i = dpA b i) && sameFrom a b (i + 1)) := by
  unfold sameFrom
  rw [Bool.eq_iff_iff, Bool.and_eq_true, cdec_iff, decide_eq_true_iff, cdec_iff]
  constructor
  · intro x; exact ⟨x i (Nat.le_refl _) h, fun j h1 h2 => x j (by omega) h2⟩
  · rintro ⟨x, y⟩ j h1 h2
    by_cases e : j = i
    · subst e; exact x
    · exact y j (by omega) h2
theorem sameFrom_zero {a b : List S45} (h : a.length = b.length) : sameFrom a b 0 = sameT a b := by
  unfold sameFrom sameT
  rw [Bool.eq_iff_iff, cdec_iff, cdec_iff]
  constructor
  · intro x; exact nodes_ext h (fun j hj => (x j (Nat.zero_le _) hj).1) (fun j hj => (x j (Nat.zero_le _) hj).2)
  · intro e; subst e; exact fun j _ _ => ⟨rfl, rfl⟩
theorem same_cond (x0 x1 y0 y1 : Int) : ((!(x0 == y0) || !(x1 == y1)) = true) ↔ ¬ (x0 = y0 ∧ x1 = y1) := by
  by_cases h0 : x0 = y0 <;> by_cases h1 : x1 = y1 <;> simp [h0, h1]
/-- node i's parent -/
def parI (l : List S45) (i : Int) : Int := if hasB l i = true then Tree.par (dpA l) i.toNat else -1

/-! #### spec_l3At -/
theorem l3At_ev (l : List S45) (i : Int) (hm : (l.length : Int) ≤ 9223372036854775806) : Ev (fun k => spec_l3At.f k l i) (hasB l i) := by
  simp only [spec_l3At.f]
  refine ev_bind (spec_TreeOk_ev l hm) ?_
  unfold hasB
  by_cases h : treeOk l = true
  · refine ev_pos h ?_
    rw [h, w64 (x := (l.length : Int) - 1) (by omega) (by omega)]
    refine ev_bindc (l1In_eq _ _ _) (ev_some ?_)
    rw [Bool.true_and]
    congr 1
    simp only [eq_iff_iff]
    omega
  · refine ev_neg h (ev_some ?_)
    have : treeOk l = false := by simpa using h
    rw [this, Bool.false_and]

/-! #### spec_EndOf -/
theorem spec_EndOf_l0 (l : List S45) (i : Nat) (hi : i < l.length) (hm : l.length ≤ 24) : ∀ (f j : Nat), l.length ≤ j + f → i < j → Ev (fun k => spec_EndOf.l0 k l (i : Int) (j : Int)) (Tree.eoFrom l.length (dpA l) (dpA l i) f j : Int) := by
  intro f
  induction f with
  | zero =>
    intro j h h1
    refine ev_succ ?_
    simp only [spec_EndOf.l0]
    exact ev_neg (by omega) (Ev.now _)
  | succ f ih =>
    intro j h h1
    refine ev_succ ?_
    simp only [spec_EndOf.l0]
    simp only [rd_f1]
    rw [Tree.eoFrom]
    by_cases h2 : j < l.length
    · refine ev_pos (by omega) (ev_pos (by omega) (ev_pos (by omega) (ev_pos (by omega) ?_)))
      by_cases h3 : dpA l j > dpA l i
      · refine ev_pos h3 ?_
        rw [if_pos ⟨h2, h3⟩, w64 (by omega) (by omega)]
        exact ih (j + 1) (by omega) (by omega)
      · refine ev_neg h3 (ev_some ?_)
        rw [if_neg (by omega)]
    · refine ev_neg (by omega) (ev_some ?_)
      rw [if_neg (by omega)]
theorem spec_EndOf_ev (l : List S45) (i : Int) (hm : (l.length : Int) ≤ 9223372036854775806) : Ev (fun k => spec_EndOf.f k l i) (endI l i) := by
  simp only [spec_EndOf.f]
  refine ev_bind (l3At_ev l i hm) ?_
  unfold endI
  by_cases h : hasB l i = true
  · obtain ⟨j, rfl, hj, h1, h2, hv⟩ := hasB_nat h
    refine ev_pos h ?_
    rw [if_pos h, w64 (by omega) (by omega)]
    exact spec_EndOf_l0 l j hj h2 (l.length - (j + 1)) (j + 1) (by omega) (by omega)
  · refine ev_neg h ?_
    rw [if_neg h]
    exact Ev.now _

/-! #### _kidsTo -/
/-- the kids up to place j -/
def kidsTo (l : List S45) (i j : Nat) : List Int := ((List.range' (i + 1) (j - (i + 1))).filter fun k => decide (dpA l k = dpA l i + 1)).map Int.ofNat
theorem kidsTo_step (l : List S45) (i j : Nat) (h : i < j) : kidsTo l i (j + 1) = kidsTo l i j ++ (if dpA l j = dpA l i + 1 then [(j : Int)] else []) := by
  unfold kidsTo
  have e : j + 1 - (i + 1) = (j - (i + 1)) + 1 := by omega
  have e2 : i + 1 + 1 * (j - (i + 1)) = j := by omega
  rw [e, List.range'_concat, List.filter_append, List.map_append, e2]
  congr 1
  by_cases hd : dpA l j = dpA l i + 1
  · rw [if_pos hd]; simp [hd]
  · rw [if_neg hd]; simp [hd]
theorem kidsTo_length (l : List S45) (i j : Nat) : (kidsTo l i j).length ≤ j := by
  unfold kidsTo
  rw [List.length_map]
  have := List.length_filter_le (fun k => decide (dpA l k = dpA l i + 1)) (List.range' (i + 1) (j - (i + 1)))
  rw [List.length_range'] at this
  omega
theorem kidsI_nat {l : List S45} {i : Nat} (h : hasB l (i : Int) = true) : kidsI l (i : Int) = (Tree.kids l.length (dpA l) i).map Int.ofNat := by unfold kidsI; rw [if_pos h]; rfl

/-! #### spec_KidsOf -/
theorem spec_KidsOf_l0 (l : List S45) (i : Nat) (hh : hasB l (i : Int) = true) (hi : i < l.length) (hm : l.length ≤ 24) (ht : treeOk l = true) : ∀ (d j : Nat), j + d = Tree.eo l.length (dpA l) i → i < j →
    Ev (fun k => spec_KidsOf.l0 k l (i : Int) (kidsTo l i j) (j : Int)) (kidsTo l i (Tree.eo l.length (dpA l) i)) := by
  have he := Tree.eo_le (D := dpA l) hi
  have hE : endI l (i : Int) = (Tree.eo l.length (dpA l) i : Int) := by unfold endI; rw [if_pos hh]; rfl
  intro d
  induction d with
  | zero =>
    intro j h hj
    refine ev_succ ?_
    simp only [spec_KidsOf.l0]
    refine ev_bind (l3At_ev l i (by omega)) (ev_pos hh (ev_bind (spec_EndOf_ev l i (by omega)) (ev_succ ?_)))
    simp only [spec_KidsOf.j1]
    rw [hE]
    refine ev_neg (by simp; omega) (ev_some ?_)
    have : j = Tree.eo l.length (dpA l) i := by omega
    rw [this]
  | succ d ih =>
    intro j h hj
    refine ev_succ ?_
    simp only [spec_KidsOf.l0]
    have d2 := dp_range ht hi
    have hk := kidsTo_length l i j
    refine ev_bind (l3At_ev l i (by omega)) (ev_pos hh (ev_bind (spec_EndOf_ev l i (by omega)) (ev_succ ?_)))
    simp only [spec_KidsOf.j1]
    simp only [rd_f1]
    rw [hE]
    refine ev_pos (by simp; omega) (ev_pos (by omega) (ev_pos (by omega) (ev_pos (by omega) (ev_pos (by omega) ?_))))
    rw [w64 (x := dpA l i + 1) (by omega) (by omega), w64 (x := (j : Int) + 1) (by omega) (by omega)]
    have := ih (j + 1) (by omega) (by omega)
    rw [kidsTo_step l i j hj] at this
    by_cases hd : dpA l j = dpA l i + 1
    · rw [if_pos hd] at this
      exact ev_pos hd (ev_pos (by omega) this)
    · rw [if_neg hd, List.append_nil] at this
      exact ev_neg hd this
theorem spec_KidsOf_ev (l : List S45) (i : Int) (hm : (l.length : Int) ≤ 9223372036854775806) : Ev (fun k => spec_KidsOf.f k l i) (kidsI l i) := by
  simp only [spec_KidsOf.f]
  by_cases h : hasB l i = true
  · obtain ⟨j, rfl, hj, h1, h2, hv⟩ := hasB_nat h
    have g := @Tree.eo_gt l.length (dpA l) j
    rw [w64 (by omega) (by omega), kidsI_nat h]
    have := spec_KidsOf_l0 l j h hj h2 h1 (Tree.eo l.length (dpA l) j - (j + 1)) (j + 1) (by omega) (by omega)
    have e : kidsTo l j (j + 1) = [] := by unfold kidsTo; rw [Nat.sub_self]; rfl
    rw [e] at this
    exact this
  · refine ev_succ ?_
    simp only [spec_KidsOf.l0]
    refine ev_bind (l3At_ev l i hm) (ev_neg h (ev_succ ?_))
    simp only [spec_KidsOf.j1]
    refine ev_neg (by decide) (ev_some ?_)
    unfold kidsI
    rw [if_neg h]

/-! #### _nodeAt -/
/-- the number of what was found, or -1 -/
def optI : Option Nat → Int
  | some k => (k : Int)
  | none => -1
/-- the node that a path leads to, or -1 -/
def nodeI (l : List S45) (p : List Int) : Int := if treeOk l = true then optI (Tree.goDown l.length (dpA l) 0 p) else -1
theorem nodeI_nat {l : List S45} {p : List Int} (h : 0 ≤ nodeI l p) : ∃ k : Nat, nodeI l p = (k : Int) ∧ k < l.length ∧ treeOk l = true ∧ Tree.goDown l.length (dpA l) 0 p = some k := by
  unfold nodeI at h ⊢
  by_cases ht : treeOk l = true
  · rw [if_pos ht] at h ⊢
    have h24 := (treeOk_iff.1 ht).1
    cases hg : Tree.goDown l.length (dpA l) 0 p with
    | none => rw [hg] at h; simp [optI] at h
    | some k => exact ⟨k, rfl, Tree.goDown_lt p 0 k (by omega) hg, ht, rfl⟩
  · rw [if_neg ht] at h; omega
theorem kidsI_ok {l : List S45} {i : Nat} (ht : treeOk l = true) (hi : i < l.length) : kidsI l (i : Int) = (Tree.kids l.length (dpA l) i).map Int.ofNat := by
  unfold kidsI
  rw [if_pos (hasB_iff.2 ⟨ht, by omega, by omega⟩), Int.toNat_natCast]
theorem rd_nat (ks : List Nat) (x : Int) (h0 : 0 ≤ x) (h : x < (ks.length : Int)) : rd (ks.map Int.ofNat) x = ((ks.getD x.toNat 0 : Nat) : Int) := by
  unfold rd
  rw [List.getD_eq_getElem?_getD, List.getElem?_map, List.getD_eq_getElem?_getD, List.getElem?_eq_getElem (by omega)]
  rfl
theorem drop_rd (p : List Int) (j : Nat) (h : j < p.length) : p.drop j = rd p (j : Int) :: p.drop (j + 1) := by
  rw [List.drop_eq_getElem_cons h]
  congr 1
  simp [rd, h]

/-! #### spec_NodeAt -/
theorem spec_NodeAt_l0 (l : List S45) (p : List Int) (ht : treeOk l = true) (hp : (p.length : Int) ≤ 9223372036854775806) : ∀ (d j i : Nat), j + d = p.length → i < l.length → Ev (fun k => spec_NodeAt.l0 k l p (i : Int) (j : Int)) (optI (Tree.goDown l.length (dpA l) i (p.drop j))) := by
  have h24 := (treeOk_iff.1 ht).1
  intro d
  induction d with
  | zero =>
    intro j i h hi
    refine ev_succ ?_
    simp only [spec_NodeAt.l0]
    rw [List.drop_eq_nil_of_le (by omega)]
    exact ev_neg (by omega) (Ev.now _)
  | succ d ih =>
    intro j i h hi
    refine ev_succ ?_
    simp only [spec_NodeAt.l0]
    have hkl := kidsI_length l (i : Int)
    refine ev_pos (by omega) (ev_bind (spec_KidsOf_ev l _ (by omega)) (ev_pos (by omega) (ev_bindc (l1In_eq _ _ _) ?_)))
    rw [w64 (by omega) (by omega), kidsI_ok ht hi, List.length_map, drop_rd p j (by omega), Tree.goDown]
    by_cases hk : 0 ≤ rd p (j : Int) ∧ rd p (j : Int) < ((Tree.kids l.length (dpA l) i).length : Int)
    · rw [if_pos hk]
      refine ev_pos (decide_eq_true (by omega)) (ev_pos hk.1 (ev_pos hk.2 ?_))
      rw [rd_nat _ _ hk.1 hk.2, w64 (x := (j : Int) + 1) (by omega) (by omega)]
      refine ih (j + 1) _ (by omega) (Tree.kids_lt (D := dpA l) hi ?_)
      rw [List.getD_eq_getElem?_getD, List.getElem?_eq_getElem (by omega)]
      exact List.getElem_mem _
    · rw [if_neg hk]
      exact ev_neg (by simp only [decide_eq_true_eq]; omega) (Ev.now _)
theorem spec_NodeAt_ev (l : List S45) (p : List Int) (hm : (l.length : Int) ≤ 9223372036854775806) (hp : (p.length : Int) ≤ 9223372036854775806) : Ev (fun k => spec_NodeAt.f k l p) (nodeI l p) := by
  simp only [spec_NodeAt.f]
  refine ev_bind (spec_TreeOk_ev l hm) ?_
  unfold nodeI
  by_cases h : treeOk l = true
  · rw [if_pos h]
    exact ev_pos h (spec_NodeAt_l0 l p h hp p.length 0 0 (by omega) (by have := (treeOk_iff.1 h).1; omega))
  · rw [if_neg h]
    exact ev_neg h (Ev.now _)

/-! #### _code -/
/-- how deep the nodes from j on would lie, one level further down -/
def deepF (l : List S45) : Nat → Nat → Int → Int
  | 0, _, d => d
  | f + 1, j, d => deepF l f (j + 1) (mx d (dpA l j + 1))
def tailT (l : List S45) (i f t : Nat) : Int × Int × Int := if (l.length : Int) = 24 then (6, 0, 0) else if deepF l (t - f) f (dpA l i + 1) > 12 then (7, 0, 0) else (0, (f : Int), (t : Int))
/-- what is wrong with an operation at a node; from where and up to where an inserted node adopts -/
def codeT (l : List S45) (kind lab fr ct i : Int) : Int × Int × Int :=
  if 1 ≤ kind ∧ kind ≤ 3 then
    if i < 0 then (2, 0, 0)
    else if kind ≠ 2 ∧ ¬ (0 ≤ lab ∧ lab ≤ 5) then (3, 0, 0)
    else if kind = 2 ∧ i = 0 then (4, 0, 0)
    else if kind = 3 then
      if 0 ≤ fr ∧ fr ≤ ((Tree.kids l.length (dpA l) i.toNat).length : Int) ∧ 0 ≤ ct ∧ ct ≤ ((Tree.kids l.length (dpA l) i.toNat).length : Int) - fr then
        tailT l i.toNat ((Tree.bounds l.length (dpA l) i.toNat).getD fr.toNat 0) ((Tree.bounds l.length (dpA l) i.toNat).getD (fr + ct).toNat 0)
      else (5, 0, 0)
    else (0, 0, 0)
  else (1, 0, 0)
theorem bounds_int {l : List S45} {i : Nat} (ht : treeOk l = true) (hi : i < l.length) : kidsI l (i : Int) ++ [((Tree.eo l.length (dpA l) i : Nat) : Int)] = (Tree.bounds l.length (dpA l) i).map Int.ofNat := by
  rw [kidsI_ok ht hi]
  unfold Tree.bounds
  rw [List.map_append]
  rfl
theorem bounds_length (n : Nat) (D : Nat → Int) (i : Nat) : (Tree.bounds n D i).length = (Tree.kids n D i).length + 1 := by simp [Tree.bounds]
theorem bound_le {n : Nat} {D : Nat → Int} {i r : Nat} (hi : i < n) (h : r ≤ (Tree.kids n D i).length) : i < (Tree.bounds n D i).getD r 0 ∧ (Tree.bounds n D i).getD r 0 ≤ Tree.eo n D i := by
  have b := (Tree.bounds_is h).1
  exact ⟨b.1, by rcases b.2 with a | a <;> omega⟩

/-! #### spec_l13Code -/
theorem l13Code_l0 (l : List S45) (f t : Nat) (ht : treeOk l = true) (htl : t ≤ l.length) : ∀ (d j : Nat) (a : Int), j + d = t → Ev (fun k => spec_l13Code.l0 k l (f : Int) (t : Int) a (j : Int)) (if deepF l d j a > 12 then (7, 0, 0) else (0, (f : Int), (t : Int))) := by
  intro d
  induction d with
  | zero =>
    intro j a h
    refine ev_succ ?_
    simp only [spec_l13Code.l0]
    refine ev_neg (by omega) ?_
    show Ev _ (if a > 12 then _ else _)
    exact ev_ite (fun c => by rw [if_pos c]; exact Ev.now _) (fun c => by rw [if_neg c]; exact Ev.now _)
  | succ d ih =>
    intro j a h
    refine ev_succ ?_
    simp only [spec_l13Code.l0]
    have h24 := (treeOk_iff.1 ht).1
    have dj := dp_range ht (j := j) (by omega)
    refine ev_pos (by omega) (ev_pos (by omega) (ev_pos (by omega) ?_))
    rw [rd_f1, w64 (x := dpA l j + 1) (by omega) (by omega), w64 (x := (j : Int) + 1) (by omega) (by omega)]
    exact ih (j + 1) _ (by omega)
theorem l13Code_j1 (l : List S45) (i : Nat) (kind lab fr ct : Int) (p : List Int) (ht : treeOk l = true) (hi : i < l.length) (b : Bool) (hb : b = decide (kind = 2 ∧ (i : Int) = 0)) (hk : 1 ≤ kind ∧ kind ≤ 3) (hl : ¬ (kind ≠ 2 ∧ ¬ (0 ≤ lab ∧ lab ≤ 5))) : Ev (fun k => spec_l13Code.j1 k l (i : Int) b kind p lab fr ct) (codeT l kind lab fr ct (i : Int)) := by
  have h24 := (treeOk_iff.1 ht).1
  have he := Tree.eo_le (D := dpA l) hi
  have di := dp_range ht hi
  have hkl := kidsI_length l (i : Int)
  have hkn : (kidsI l (i : Int)).length = (Tree.kids l.length (dpA l) i).length := by rw [kidsI_ok ht hi, List.length_map]
  have hE : endI l (i : Int) = ((Tree.eo l.length (dpA l) i : Nat) : Int) := by unfold endI; rw [if_pos (hasB_iff.2 ⟨ht, by omega, by omega⟩)]; rfl
  unfold codeT
  rw [if_pos hk, if_neg (by omega), if_neg hl, Int.toNat_natCast]
  refine ev_succ ?_
  simp only [spec_l13Code.j1]
  by_cases h1 : kind = 2 ∧ (i : Int) = 0
  · rw [if_pos h1]
    exact ev_pos (by rw [hb]; exact decide_eq_true h1) (Ev.now _)
  · rw [if_neg h1]
    refine ev_neg (by rw [hb]; simpa using h1) ?_
    by_cases h3 : kind = 3
    · rw [if_pos h3]
      refine ev_pos h3 (ev_bind (spec_KidsOf_ev l _ (by omega)) (ev_bindc (l1In_eq _ _ _) ?_))
      have bad : ¬ (0 ≤ fr ∧ fr ≤ ((Tree.kids l.length (dpA l) i).length : Int) ∧ 0 ≤ ct ∧ ct ≤ ((Tree.kids l.length (dpA l) i).length : Int) - fr) → Ev (fun k => spec_l13Code.j2 k l (i : Int) (kidsI l (i : Int)) true kind p lab fr ct) (if 0 ≤ fr ∧ fr ≤ ((Tree.kids l.length (dpA l) i).length : Int) ∧ 0 ≤ ct ∧ ct ≤ ((Tree.kids l.length (dpA l) i).length : Int) - fr then tailT l i ((Tree.bounds l.length (dpA l) i).getD fr.toNat 0) ((Tree.bounds l.length (dpA l) i).getD (fr + ct).toNat 0) else (5, 0, 0)) := by
        intro c
        rw [if_neg c]
        refine ev_succ ?_
        simp only [spec_l13Code.j2]
        exact ev_pos trivial (Ev.now _)
      by_cases h4 : 0 ≤ fr ∧ fr ≤ ((kidsI l (i : Int)).length : Int)
      · refine ev_pos (decide_eq_true h4) (ev_bindc (l1In_eq _ _ _) ?_)
        rw [w64 (by omega) (by omega)]
        by_cases h5 : 0 ≤ ct ∧ ct ≤ ((kidsI l (i : Int)).length : Int) - fr
        · rw [decide_eq_true h5, if_pos (by omega)]
          refine ev_succ ?_
          simp only [spec_l13Code.j2]
          have hbl := bounds_length l.length (dpA l) i
          refine ev_neg (by decide) (ev_bind (spec_EndOf_ev l _ (by omega)) (ev_pos (by omega) (ev_bindc rfl ?_)))
          rw [hE, bounds_int ht hi, List.length_map, w64 (x := fr + ct) (by omega) (by omega)]
          refine ev_pos (by omega) (ev_pos (by omega) (ev_pos (by omega) (ev_pos (by omega) ?_)))
          rw [rd_nat _ _ (by omega) (by omega), rd_nat _ _ (by omega) (by omega)]
          unfold tailT
          by_cases h6 : (l.length : Int) = 24
          · rw [if_pos h6]
            exact ev_pos h6 (Ev.now _)
          · rw [if_neg h6]
            refine ev_neg h6 (ev_pos (by omega) (ev_pos (by omega) ?_))
            rw [rd_f1, w64 (x := dpA l i + 1) (by omega) (by omega)]
            have m1 := Tree.bounds_mono (n := l.length) (D := dpA l) (i := i) (r := fr.toNat) (s := (fr + ct).toNat) (by omega) (by omega)
            have m2 := bound_le (n := l.length) (D := dpA l) (i := i) (r := (fr + ct).toNat) hi (by omega)
            exact l13Code_l0 l _ _ ht (by omega) _ _ _ (by omega)
        · rw [decide_eq_false h5]
          exact bad (by omega)
      · exact ev_neg (by simpa using h4) (bad (by omega))
    · rw [if_neg h3]
      exact ev_neg h3 (Ev.now _)
theorem l13Code_ev (l : List S45) (kind lab fr ct i : Int) (p : List Int) (hi : i < 0 ∨ ∃ n : Nat, i = (n : Int) ∧ n < l.length ∧ treeOk l = true) : Ev (fun k => spec_l13Code.f k l kind p lab fr ct i) (codeT l kind lab fr ct i) := by
  simp only [spec_l13Code.f]
  refine ev_bindc (l1In_eq _ _ _) ?_
  by_cases hk : 1 ≤ kind ∧ kind ≤ 3
  · refine ev_pos (decide_eq_true hk) ?_
    rcases hi with hi | ⟨n, rfl, hn, ht⟩
    · unfold codeT
      rw [if_pos hk, if_pos hi]
      exact ev_pos hi (Ev.now _)
    · refine ev_neg (by omega) ?_
      by_cases h2 : kind = 2
      · refine ev_pos h2 (ev_succ ?_)
        simp only [spec_l13Code.j0]
        refine ev_neg (by decide) (ev_pos h2 (l13Code_j1 l n kind lab fr ct p ht hn _ ?_ hk (by omega)))
        rw [Bool.eq_iff_iff]; simp [h2]
      · refine ev_neg h2 (ev_bindc (spec_LabelOk_eq _) (ev_succ ?_))
        simp only [spec_l13Code.j0]
        by_cases hl : 0 ≤ lab ∧ lab ≤ 5
        · refine ev_neg (by simp [hl]) (ev_neg h2 (l13Code_j1 l n kind lab fr ct p ht hn _ ?_ hk (by omega)))
          simp [h2]
        · refine ev_pos (by rw [decide_eq_false hl]; rfl) ?_
          unfold codeT
          rw [if_pos hk, if_neg (by omega), if_pos ⟨h2, hl⟩]
          exact Ev.now _
  · refine ev_neg (by simpa using hk) ?_
    unfold codeT
    rw [if_neg hk]
    exact Ev.now _

/-! #### _up -/
/-- a node some levels further down -/
def upN (b : Int) (x : S45) : S45 := ⟨x.f0, x.f1 + b⟩
/-- the nodes from a on, ahead of i, some levels further down -/
def midN (b : Int) (a : Nat) (t : List S45) (i : Nat) : List S45 := t.take a ++ ((t.take i).drop a).map (upN b) ++ t.drop i
theorem midN_self (b : Int) (a : Nat) (t : List S45) : midN b a t a = t := by
  unfold midN
  rw [List.drop_eq_nil_of_le (by rw [List.length_take]; omega), List.map_nil, List.append_nil, List.take_append_drop]
theorem midN_length (b : Int) (a : Nat) (t : List S45) (i : Nat) (h : a ≤ i) (hi : i ≤ t.length) : (midN b a t i).length = t.length := by
  unfold midN
  simp only [List.length_append, List.length_take, List.length_map, List.length_drop]
  omega
theorem midN_rd (b : Int) (a : Nat) (t : List S45) (i : Nat) (h : a ≤ i) (hi : i < t.length) : rd_T45 (midN b a t i) (i : Int) = rd_T45 t (i : Int) := by
  show (midN b a t i).getD i _ = t.getD i _
  have hl : (t.take a ++ ((t.take i).drop a).map (upN b)).length = i := by
    simp only [List.length_append, List.length_take, List.length_map, List.length_drop]
    omega
  unfold midN
  rw [List.getD_eq_getElem?_getD, List.getElem?_append_right (by omega), hl, Nat.sub_self, List.getElem?_drop, Nat.add_zero, List.getD_eq_getElem?_getD]
theorem midN_set (b : Int) (a : Nat) (t : List S45) (i : Nat) (h : a ≤ i) (hi : i < t.length) : (midN b a t i).set i (upN b (t.getD i z45)) = midN b a t (i + 1) := by
  have hl : (t.take a ++ ((t.take i).drop a).map (upN b)).length = i := by
    simp only [List.length_append, List.length_take, List.length_map, List.length_drop]
    omega
  unfold midN
  rw [List.set_append_right _ _ (by omega), hl, Nat.sub_self, List.drop_eq_getElem_cons hi, List.set_cons_zero]
  have e : (t.take (i + 1)).drop a = (t.take i).drop a ++ [t[i]] := by
    rw [List.take_succ_eq_append_getElem hi, List.drop_append_of_le_length (by rw [List.length_take]; omega)]
  rw [e, List.map_append, ← List.append_assoc, List.append_assoc _ (List.map _ [t[i]])]
  have e2 : t.getD i z45 = t[i] := by rw [List.getD_eq_getElem?_getD, List.getElem?_eq_getElem hi]; rfl
  rw [e2]
  rfl
theorem upN_eq {t : List S45} {i : Nat} {b : Int} (h1 : -9223372036854775808 ≤ dpA t i + b) (h2 : dpA t i + b ≤ 9223372036854775807) : (⟨(rd_T45 t (i : Int)).f0, wrap64 ((rd_T45 t (i : Int)).f1 + b)⟩ : S45) = upN b (t.getD i z45) := by
  have : wrap64 ((rd_T45 t (i : Int)).f1 + b) = (rd_T45 t (i : Int)).f1 + b := w64 h1 h2
  rw [this]
  rfl

/-! #### spec_l13Shift -/
theorem l13Shift_l0 (l : List S45) (a e : Nat) (b : Int) (he : e ≤ l.length) (hm : l.length ≤ 1048576) (hd : ∀ j, j < l.length → -4611686018427387904 ≤ dpA l j + b ∧ dpA l j + b ≤ 4611686018427387904) : ∀ (d i : Nat), i + d = e → a ≤ i → Ev (fun k => spec_l13Shift.l0 k l (e : Int) b (((l.take i).drop a).map (upN b)) (i : Int)) (((l.take e).drop a).map (upN b)) := by
  intro d
  induction d with
  | zero =>
    intro i h ha
    refine ev_succ ?_
    simp only [spec_l13Shift.l0]
    have : i = e := by omega
    subst this
    exact ev_neg (by omega) (Ev.now _)
  | succ d ih =>
    intro i h ha
    refine ev_succ ?_
    simp only [spec_l13Shift.l0]
    have hi : i < l.length := by omega
    have hdi := hd i hi
    refine ev_pos (by omega) (ev_pos (by omega) (ev_pos (by omega) (ev_pos (by simp only [List.length_map, List.length_drop, List.length_take]; omega) ?_)))
    rw [upN_eq (by omega) (by omega), w64 (x := (i : Int) + 1) (by omega) (by omega)]
    have := ih (i + 1) (by omega) (by omega)
    have e1 : (l.take (i + 1)).drop a = (l.take i).drop a ++ [l[i]] := by
      rw [List.take_succ_eq_append_getElem hi, List.drop_append_of_le_length (by rw [List.length_take]; omega)]
    have e2 : l.getD i z45 = l[i] := by rw [List.getD_eq_getElem?_getD, List.getElem?_eq_getElem hi]; rfl
    rw [e1, List.map_append] at this
    rw [e2]
    exact this
theorem l13Shift_ev (l : List S45) (a e : Nat) (b : Int) (ha : a ≤ e) (he : e ≤ l.length) (hm : l.length ≤ 1048576) (hd : ∀ j, j < l.length → -4611686018427387904 ≤ dpA l j + b ∧ dpA l j + b ≤ 4611686018427387904) : Ev (fun k => spec_l13Shift.f k l (a : Int) (e : Int) b) (((l.take e).drop a).map (upN b)) := by
  simp only [spec_l13Shift.f]
  have := l13Shift_l0 l a e b he hm hd (e - a) a (by omega) (Nat.le_refl _)
  rw [List.drop_eq_nil_of_le (by rw [List.length_take]; omega), List.map_nil] at this
  exact this

/-! #### _at -/
theorem at_append (a b : List S45) (j : Nat) : (a ++ b).getD j z45 = if j < a.length then a.getD j z45 else b.getD (j - a.length) z45 := by
  simp only [List.getD_eq_getElem?_getD]
  split
  · rename_i h; rw [List.getElem?_append_left h]
  · rename_i h; rw [List.getElem?_append_right (by omega)]
theorem at_take (l : List S45) (e j : Nat) (h : j < e) : (l.take e).getD j z45 = l.getD j z45 := by
  simp only [List.getD_eq_getElem?_getD]
  rw [List.getElem?_take, if_pos h]
theorem at_drop (l : List S45) (e j : Nat) : (l.drop e).getD j z45 = l.getD (e + j) z45 := by
  simp only [List.getD_eq_getElem?_getD]
  rw [List.getElem?_drop]
theorem at_up (b : Int) (t : List S45) (j : Nat) (h : j < t.length) : (t.map (upN b)).getD j z45 = upN b (t.getD j z45) := by
  simp only [List.getD_eq_getElem?_getD]
  rw [List.getElem?_map, List.getElem?_eq_getElem h]
  rfl

/-! #### _apply -/
theorem upN_zero (x : S45) : upN 0 x = x := node_ext rfl (Int.add_zero _)
theorem map_up0 (l : List S45) : l.map (upN 0) = l := by
  have e : (upN 0 : S45 → S45) = id := funext upN_zero
  rw [e, List.map_id]
/-- the tree behind an operation that can be done at node i, where what it adopts lies from f up to t -/
def doneT (l : List S45) (kind lab : Int) (i f t : Nat) : List S45 :=
  if kind = 1 then l.set i ⟨lab, dpA l i⟩
  else if kind = 2 then l.take i ++ ((l.take (Tree.eo l.length (dpA l) i)).drop (i + 1)).map (upN (-1)) ++ l.drop (Tree.eo l.length (dpA l) i)
  else l.take f ++ [(⟨lab, dpA l i + 1⟩ : S45)] ++ ((l.take t).drop f).map (upN 1) ++ l.drop t
/-- the tree behind an operation, and what is wrong with it -/
def applyT (l : List S45) (kind : Int) (p : List Int) (lab fr ct : Int) : List S45 × Int :=
  if treeOk l = true then
    if (codeT l kind lab fr ct (nodeI l p)).1 = 0 then (doneT l kind lab (nodeI l p).toNat (codeT l kind lab fr ct (nodeI l p)).2.1.toNat (codeT l kind lab fr ct (nodeI l p)).2.2.toNat, 0)
    else (l, (codeT l kind lab fr ct (nodeI l p)).1)
  else ([], 2)
/-- an operation that can be done: what follows of its parts -/
theorem codeT_ok {l : List S45} {kind lab fr ct i : Int} (h : (codeT l kind lab fr ct i).1 = 0) :
    (1 ≤ kind ∧ kind ≤ 3) ∧ 0 ≤ i ∧ ¬ (kind ≠ 2 ∧ ¬ (0 ≤ lab ∧ lab ≤ 5)) ∧ ¬ (kind = 2 ∧ i = 0) ∧ (kind ≠ 3 → codeT l kind lab fr ct i = (0, 0, 0)) ∧
    (kind = 3 → (0 ≤ fr ∧ fr ≤ ((Tree.kids l.length (dpA l) i.toNat).length : Int) ∧ 0 ≤ ct ∧ ct ≤ ((Tree.kids l.length (dpA l) i.toNat).length : Int) - fr) ∧
      codeT l kind lab fr ct i = (0, (((Tree.bounds l.length (dpA l) i.toNat).getD fr.toNat 0 : Nat) : Int), (((Tree.bounds l.length (dpA l) i.toNat).getD (fr + ct).toNat 0 : Nat) : Int)) ∧ (l.length : Int) ≠ 24 ∧
      ¬ deepF l ((Tree.bounds l.length (dpA l) i.toNat).getD (fr + ct).toNat 0 - (Tree.bounds l.length (dpA l) i.toNat).getD fr.toNat 0) ((Tree.bounds l.length (dpA l) i.toNat).getD fr.toNat 0) (dpA l i.toNat + 1) > 12) := by
  unfold codeT at h ⊢
  by_cases h1 : 1 ≤ kind ∧ kind ≤ 3
  · rw [if_pos h1] at h ⊢
    by_cases h2 : i < 0
    · rw [if_pos h2] at h; simp at h
    · rw [if_neg h2] at h ⊢
      by_cases h3 : kind ≠ 2 ∧ ¬ (0 ≤ lab ∧ lab ≤ 5)
      · rw [if_pos h3] at h; simp at h
      · rw [if_neg h3] at h ⊢
        by_cases h4 : kind = 2 ∧ i = 0
        · rw [if_pos h4] at h; simp at h
        · rw [if_neg h4] at h ⊢
          by_cases h5 : kind = 3
          · rw [if_pos h5] at h ⊢
            by_cases h6 : 0 ≤ fr ∧ fr ≤ ((Tree.kids l.length (dpA l) i.toNat).length : Int) ∧ 0 ≤ ct ∧ ct ≤ ((Tree.kids l.length (dpA l) i.toNat).length : Int) - fr
            · rw [if_pos h6] at h ⊢
              unfold tailT at h ⊢
              by_cases h7 : (l.length : Int) = 24
              · rw [if_pos h7] at h; simp at h
              · rw [if_neg h7] at h ⊢
                by_cases h8 : deepF l ((Tree.bounds l.length (dpA l) i.toNat).getD (fr + ct).toNat 0 - (Tree.bounds l.length (dpA l) i.toNat).getD fr.toNat 0) ((Tree.bounds l.length (dpA l) i.toNat).getD fr.toNat 0) (dpA l i.toNat + 1) > 12
                · rw [if_pos h8] at h; simp at h
                · rw [if_neg h8]
                  exact ⟨h1, by omega, h3, h4, fun h => absurd h5 h, fun _ => ⟨h6, rfl, h7, h8⟩⟩
            · rw [if_neg h6] at h; simp at h
          · rw [if_neg h5]
            exact ⟨h1, by omega, h3, h4, fun _ => rfl, fun h => absurd h h5⟩
  · rw [if_neg h1] at h; simp at h
theorem nodeI_cases (l : List S45) (p : List Int) : nodeI l p < 0 ∨ ∃ n : Nat, nodeI l p = (n : Int) ∧ n < l.length ∧ treeOk l = true := by
  rcases Int.lt_or_le (nodeI l p) 0 with h | h
  · exact .inl h
  · obtain ⟨k, a, b, c, _⟩ := nodeI_nat h
    exact .inr ⟨k, a, b, c⟩
theorem endI_nat {l : List S45} {i : Nat} (ht : treeOk l = true) (hi : i < l.length) : endI l (i : Int) = ((Tree.eo l.length (dpA l) i : Nat) : Int) := by
  unfold endI
  rw [if_pos (hasB_iff.2 ⟨ht, by omega, by omega⟩)]
  rfl
theorem bounds_facts {l : List S45} {i : Nat} {fr ct : Int} (hi : i < l.length) (h : 0 ≤ fr ∧ fr ≤ ((Tree.kids l.length (dpA l) i).length : Int) ∧ 0 ≤ ct ∧ ct ≤ ((Tree.kids l.length (dpA l) i).length : Int) - fr) :
    i < (Tree.bounds l.length (dpA l) i).getD fr.toNat 0 ∧ (Tree.bounds l.length (dpA l) i).getD fr.toNat 0 ≤ (Tree.bounds l.length (dpA l) i).getD (fr + ct).toNat 0 ∧ (Tree.bounds l.length (dpA l) i).getD (fr + ct).toNat 0 ≤ Tree.eo l.length (dpA l) i ∧ Tree.eo l.length (dpA l) i ≤ l.length := by
  have m1 := Tree.bounds_mono (n := l.length) (D := dpA l) (i := i) (r := fr.toNat) (s := (fr + ct).toNat) (by omega) (by omega)
  have m2 := bound_le (n := l.length) (D := dpA l) (i := i) (r := (fr + ct).toNat) hi (by omega)
  have m3 := bound_le (n := l.length) (D := dpA l) (i := i) (r := fr.toNat) hi (by omega)
  exact ⟨m3.1, m1, m2.2, Tree.eo_le hi⟩
theorem midN_take (b : Int) (a : Nat) (t : List S45) (i : Nat) (h : a ≤ t.length) : (midN b a t i).take a = t.take a := by
  unfold midN
  rw [List.append_assoc, List.take_append_of_le_length (by rw [List.length_take]; omega), List.take_take, Nat.min_self]
theorem midN_drop (b : Int) (a : Nat) (t : List S45) (i : Nat) (h : a ≤ t.length) : (midN b a t i).drop a = ((t.take i).drop a).map (upN b) ++ t.drop i := by
  unfold midN
  have hl : (t.take a).length = a := by rw [List.length_take]; omega
  rw [List.append_assoc, List.drop_append, hl, Nat.sub_self, List.drop_zero, List.drop_eq_nil_of_le (by omega), List.nil_append]
theorem applyT_length (l : List S45) (kind : Int) (p : List Int) (lab fr ct : Int) (n : Nat) (hn : 25 ≤ n) (h : l.length ≤ n) : (applyT l kind p lab fr ct).1.length ≤ n := by
  unfold applyT
  by_cases ht : treeOk l = true
  · rw [if_pos ht]
    have h24 := (treeOk_iff.1 ht).1
    by_cases hc : (codeT l kind lab fr ct (nodeI l p)).1 = 0
    · rw [if_pos hc]
      obtain ⟨hk, hi0, hl, hr, h3', h3⟩ := codeT_ok hc
      obtain ⟨i, hi, hin, _, _⟩ := nodeI_nat hi0
      show (doneT l kind lab _ _ _).length ≤ n
      unfold doneT
      by_cases k1 : kind = 1
      · rw [if_pos k1, List.length_set]; exact h
      · rw [if_neg k1]
        by_cases k2 : kind = 2
        · rw [if_pos k2]
          simp only [List.length_append, List.length_map, List.length_drop, List.length_take]
          rw [hi, Int.toNat_natCast]
          have a := Tree.eo_le (D := dpA l) hin
          have b := @Tree.eo_gt l.length (dpA l) i
          omega
        · rw [if_neg k2]
          obtain ⟨hb, hcode, _⟩ := h3 (by omega)
          rw [hcode]
          rw [hi, Int.toNat_natCast] at hb ⊢
          have f := bounds_facts hin hb
          simp only [List.length_append, List.length_map, List.length_drop, List.length_take, List.length_singleton, Int.toNat_natCast]
          omega
    · rw [if_neg hc]; exact h
  · rw [if_neg ht]; simp

/-! #### spec_ApplyOp -/
theorem spec_ApplyOp_ev (l : List S45) (kind : Int) (p : List Int) (lab fr ct : Int) (hm : (l.length : Int) ≤ 9223372036854775806) (hp : (p.length : Int) ≤ 9223372036854775806) : Ev (fun k => spec_ApplyOp.f k l kind p lab fr ct) (applyT l kind p lab fr ct) := by
  simp only [spec_ApplyOp.f]
  refine ev_bind (spec_TreeOk_ev l hm) ?_
  unfold applyT
  by_cases ht : treeOk l = true
  · rw [if_pos ht]
    have h24 := (treeOk_iff.1 ht).1
    have hdp := fun (b : Int) (hb : -1 ≤ b ∧ b ≤ 1) (j : Nat) (hj : j < l.length) => (show -4611686018427387904 ≤ dpA l j + b ∧ dpA l j + b ≤ 4611686018427387904 by have := dp_range ht hj; omega)
    refine ev_pos ht (ev_bind (spec_NodeAt_ev l p hm hp) (ev_bindc (l3Copy_eq l (by omega)) (ev_bind (l13Code_ev l kind lab fr ct _ p (nodeI_cases l p)) ?_)))
    by_cases hc : (codeT l kind lab fr ct (nodeI l p)).1 = 0
    · rw [if_pos hc]
      refine ev_pos hc ?_
      obtain ⟨hk, hi0, hl, hr, h3', h3⟩ := codeT_ok hc
      obtain ⟨i, hi, hin, _, _⟩ := nodeI_nat hi0
      rw [hi] at hc hr h3' h3 ⊢
      have di := dp_range ht hin
      have el := Tree.eo_le (D := dpA l) hin
      have eg := @Tree.eo_gt l.length (dpA l) i
      by_cases k1 : kind = 1
      · refine ev_pos k1 (ev_pos (by omega) (ev_pos (by omega) (ev_some ?_)))
        rw [hc]
        unfold doneT
        rw [if_pos k1]
        rfl
      · refine ev_neg k1 ?_
        by_cases k2 : kind = 2
        · have s1 := l13Shift_ev l 0 i 0 (by omega) (by omega) (by omega) (hdp 0 (by omega))
          have s2 := l13Shift_ev l (i + 1) (Tree.eo l.length (dpA l) i) (-1) (by omega) el (by omega) (hdp (-1) (by omega))
          have s3 := l13Shift_ev l (Tree.eo l.length (dpA l) i) l.length 0 el (by omega) (by omega) (hdp 0 (by omega))
          have ew : wrap64 ((i : Int) + 1) = ((i + 1 : Nat) : Int) := by rw [w64 (by omega) (by omega)]; omega
          refine ev_pos k2 (ev_bind (spec_EndOf_ev l _ hm) (ev_bind s1 ?_))
          rw [endI_nat ht hin, ew]
          refine ev_bind s2 (ev_pos (by simp only [List.length_map, List.length_drop, List.length_take]; omega) (ev_bindc rfl (ev_bind s3 (ev_pos (by simp only [List.length_append, List.length_map, List.length_drop, List.length_take]; omega) (ev_some ?_)))))
          rw [hc]
          unfold doneT
          rw [if_neg k1, if_pos k2, map_up0, map_up0, List.drop_zero, List.take_length, Int.toNat_natCast]
        · refine ev_neg k2 ?_
          obtain ⟨hb, hcode, h24', _⟩ := h3 (by omega)
          rw [hcode]
          rw [Int.toNat_natCast] at hb ⊢
          obtain ⟨f1, f2, f3, f4⟩ := bounds_facts hin hb
          generalize (Tree.bounds l.length (dpA l) i).getD fr.toNat 0 = f at *
          generalize (Tree.bounds l.length (dpA l) i).getD (fr + ct).toNat 0 = t at *
          have s1 := l13Shift_ev l 0 f 0 (by omega) (by omega) (by omega) (hdp 0 (by omega))
          have s2 := l13Shift_ev l f t 1 (by omega) (by omega) (by omega) (hdp 1 (by omega))
          have s3 := l13Shift_ev l t l.length 0 (by omega) (by omega) (by omega) (hdp 0 (by omega))
          refine ev_bind s1 (ev_pos (by omega) (ev_pos (by omega) (ev_bindc rfl (ev_pos (by simp only [List.length_map, List.length_drop, List.length_take, List.length_singleton]; omega) (ev_bindc rfl (ev_bind s2 (ev_pos (by simp only [List.length_append, List.length_map, List.length_drop, List.length_take, List.length_singleton]; omega) (ev_bindc rfl (ev_bind s3 (ev_pos (by simp only [List.length_append, List.length_map, List.length_drop, List.length_take, List.length_singleton]; omega) (ev_some ?_)))))))))))
          unfold doneT
          rw [if_neg k1, if_neg k2, map_up0, map_up0, List.drop_zero, List.take_length, rd_f1, w64 (x := dpA l i + 1) (by omega) (by omega)]
          simp only [Int.toNat_natCast]
    · rw [if_neg hc]
      exact ev_neg hc (Ev.now _)
  · rw [if_neg ht]
    exact ev_neg ht (Ev.now _)

/-! #### _opsB -/
/-- the operations' paths are short enough to be counted -/
def OpsB (ops : List S100) : Prop := (ops.length : Int) ≤ 1099511627776 ∧ ∀ o ∈ ops, (o.f1.length : Int) ≤ 1099511627776
theorem OpsB.at {ops : List S100} (h : OpsB ops) {j : Nat} (hj : j < ops.length) : ((rd_T100 ops (j : Int)).f1.length : Int) ≤ 1099511627776 := by
  have e : rd_T100 ops (j : Int) = ops[j] := by show ops.getD j _ = _; simp [hj]
  rw [e]
  exact h.2 _ (List.getElem_mem hj)
theorem drop_op (ops : List S100) (j : Nat) (h : j < ops.length) : ops.drop j = rd_T100 ops (j : Int) :: ops.drop (j + 1) := by
  rw [List.drop_eq_getElem_cons h]
  congr 1
  show _ = ops.getD j _
  simp [h]

/-! #### _all -/
/-- one operation, told as a structure -/
def appO (l : List S45) (o : S100) : List S45 × Int := applyT l o.f0 o.f1 o.f2 o.f3 o.f4
/-- one behind the other, up to the first that cannot be done; how many were, and why -/
def allF : List S45 → Int → List S100 → List S45 × Int × Int
  | l, n, [] => (l, n, 0)
  | l, n, o :: r => if (appO l o).2 = 0 then allF (appO l o).1 (n + 1) r else (l, n, (appO l o).2)
def allT (l : List S45) (ops : List S100) : List S45 × Int × Int := if treeOk l = true then allF l 0 ops else ([], 0, 2)
theorem appO_length (l : List S45) (o : S100) (n : Nat) (hn : 25 ≤ n) (h : l.length ≤ n) : (appO l o).1.length ≤ n := applyT_length l _ _ _ _ _ n hn h
theorem allF_length (n : Nat) (hn : 25 ≤ n) : ∀ (ops : List S100) (l : List S45) (c : Int), l.length ≤ n → (allF l c ops).1.length ≤ n := by
  intro ops
  induction ops with
  | nil => intro l c h; exact h
  | cons o r ih =>
    intro l c h
    rw [allF]
    split
    · exact ih _ _ (appO_length l o n hn h)
    · exact h
theorem allT_length (l : List S45) (ops : List S100) (n : Nat) (hn : 25 ≤ n) (h : l.length ≤ n) : (allT l ops).1.length ≤ n := by
  unfold allT
  split
  · exact allF_length n hn ops l 0 h
  · simp
theorem allF_from (ops : List S100) : ∀ (l : List S45) (c : Int), allF l c ops = ((allF l 0 ops).1, c + (allF l 0 ops).2.1, (allF l 0 ops).2.2) := by
  induction ops with
  | nil => intro l c; simp [allF]
  | cons o r ih =>
    intro l c
    rw [allF, allF]
    split
    · rw [ih _ (c + 1), ih _ (0 + 1)]
      simp only [Prod.mk.injEq, true_and, and_true]
      omega
    · simp

/-! #### spec_ApplyAll -/
theorem spec_ApplyAll_l0 (ops : List S100) (hb : OpsB ops) : ∀ (d j : Nat) (l : List S45), j + d = ops.length → l.length ≤ 1099511627776 → Ev (fun k => spec_ApplyAll.l0 k ops l (j : Int)) (allF l (j : Int) (ops.drop j)) := by
  have hl := hb.1
  intro d
  induction d with
  | zero =>
    intro j l h hm
    refine ev_succ ?_
    simp only [spec_ApplyAll.l0]
    rw [List.drop_eq_nil_of_le (by omega)]
    refine ev_neg (by omega) (ev_some ?_)
    have e : j = ops.length := by omega
    rw [allF, e]
  | succ d ih =>
    intro j l h hm
    refine ev_succ ?_
    simp only [spec_ApplyAll.l0]
    have hp := hb.at (j := j) (by omega)
    refine ev_pos (by omega) (ev_pos (by omega) (ev_bind (spec_ApplyOp_ev l _ _ _ _ _ (by omega) (by omega)) ?_))
    rw [drop_op ops j (by omega), allF]
    by_cases hc : (appO l (rd_T100 ops (j : Int))).2 = 0
    · rw [if_pos hc]
      refine ev_pos hc ?_
      rw [w64 (x := (j : Int) + 1) (by omega) (by omega)]
      exact ih (j + 1) _ (by omega) (appO_length l _ _ (by omega) hm)
    · rw [if_neg hc]
      exact ev_neg hc (Ev.now _)
theorem spec_ApplyAll_ev (l : List S45) (ops : List S100) (hb : OpsB ops) (hm : l.length ≤ 1099511627776) : Ev (fun k => spec_ApplyAll.f k l ops) (allT l ops) := by
  simp only [spec_ApplyAll.f]
  refine ev_bind (spec_TreeOk_ev l (by omega)) ?_
  unfold allT
  by_cases ht : treeOk l = true
  · rw [if_pos ht]
    exact ev_pos ht (ev_bindc (l3Copy_eq l (by omega)) (spec_ApplyAll_l0 ops hb ops.length 0 l (by omega) hm))
  · rw [if_neg ht]
    exact ev_neg ht (Ev.now _)

/-! #### impl_within -/
theorem within_eq (a b c : Int) : impl_within.f a b c = some (decide (b ≤ a ∧ a ≤ c)) := by
  unfold impl_within.f
  by_cases h : b ≤ a
  · rw [if_pos h]; simp [h]
  · rw [if_neg h]; simp [h]

/-! #### impl_LabelOk -/
theorem LabelOk_eq (a : Int) : impl_LabelOk.f a = some (decide (0 ≤ a ∧ a ≤ 5)) := by
  unfold impl_LabelOk.f; rw [within_eq]; rfl

/-! #### impl_TreeOk -/
theorem depthOk_eq (l : List S45) (i : Nat) (hi : i < l.length) (hl : l.length ≤ 24) (hp : 0 < i → 0 ≤ dpA l (i - 1) ∧ dpA l (i - 1) ≤ 12) : impl_depthOk.f l (i : Int) = some (decide (if i = 0 then dpA l i = 0 else 1 ≤ dpA l i ∧ dpA l i ≤ dpA l (i - 1) + 1)) := by
  unfold impl_depthOk.f
  by_cases h0 : i = 0
  · subst h0
    conv => lhs; rw [if_pos (show ((0 : Nat) : Int) = 0 from rfl), if_pos (by omega)]
    congr 1
  · have e1 : (i : Int) - 1 = ((i - 1 : Nat) : Int) := by omega
    have hb := hp (by omega)
    conv => lhs; rw [if_neg (by omega), if_pos (by omega), if_pos (by omega), w64 (x := (i : Int) - 1) (by omega) (by omega), e1, if_pos (by omega), if_pos (by omega), rd_f1, rd_f1, w64 (x := dpA l (i - 1) + 1) (by omega) (by omega), within_eq]
    simp only [h0, if_false, Option.bind_some]
theorem impl_TreeOk_l0 (l : List S45) (hl : l.length ≤ 24) : ∀ (d i : Nat), i + d = l.length → (0 < i → okAt l (i - 1)) → Ev (fun k => impl_TreeOk.l0 k l l (l.length : Int) (i : Int)) (okFrom l i) := by
  intro d
  induction d with
  | zero =>
    intro i h hp
    refine ev_succ ?_
    simp only [impl_TreeOk.l0]
    refine ev_neg (by omega) (ev_some ?_)
    rw [okFrom_end (by omega)]
  | succ d ih =>
    intro i h hp
    refine ev_succ ?_
    simp only [impl_TreeOk.l0]
    simp only [rd_f0, rd_f1]
    rw [okFrom_step (by omega)]
    refine ev_pos (by omega) (ev_pos (by omega) (ev_pos (by omega) (ev_bindc (LabelOk_eq _) ?_)))
    simp only [decide_eq_true_eq]
    by_cases h1 : 0 ≤ lbA l i ∧ lbA l i ≤ 5
    · refine ev_pos h1 (ev_bindc (within_eq _ _ _) ?_)
      simp only [decide_eq_true_eq]
      by_cases h2 : 0 ≤ dpA l i ∧ dpA l i ≤ 12
      · refine ev_pos h2 (ev_bindc (depthOk_eq l i (by omega) hl (fun h0 => (hp h0).2.1)) ?_)
        simp only [decide_eq_true_eq]
        by_cases h3 : (if i = 0 then dpA l i = 0 else 1 ≤ dpA l i ∧ dpA l i ≤ dpA l (i - 1) + 1)
        · refine ev_pos h3 ?_
          have ok : okAt l i := ⟨h1, h2, h3⟩
          rw [w64 (x := (i : Int) + 1) (by omega) (by omega), decide_eq_true ok, Bool.true_and]
          exact ih (i + 1) (by omega) (fun _ => ok)
        · refine ev_neg h3 (ev_some ?_)
          have ok : ¬ okAt l i := fun h => h3 h.2.2
          rw [decide_eq_false ok, Bool.false_and]
      · refine ev_neg h2 (ev_some ?_)
        have ok : ¬ okAt l i := fun h => h2 h.2.1
        rw [decide_eq_false ok, Bool.false_and]
    · refine ev_neg h1 (ev_some ?_)
      have ok : ¬ okAt l i := fun h => h1 h.1
      rw [decide_eq_false ok, Bool.false_and]
theorem impl_TreeOk_ev (l : List S45) : Ev (fun k => impl_TreeOk.f k l) (treeOk l) := by
  simp only [impl_TreeOk.f]
  refine ev_bindc (within_eq _ _ _) ?_
  simp only [decide_eq_true_eq]
  rw [okFrom_zero]
  by_cases h : 1 ≤ l.length ∧ l.length ≤ 24
  · refine ev_pos (by omega) ?_
    rw [decide_eq_true h, Bool.true_and]
    exact impl_TreeOk_l0 l h.2 l.length 0 (by omega) (fun h => absurd h (Nat.lt_irrefl 0))
  · refine ev_neg (by omega) (ev_some ?_)
    rw [decide_eq_false h, Bool.false_and]

/-! #### slices_Clone_Node -/
theorem clone_eq (l : List S45) (h : l.length < 8796093022208) : slices_Clone_Node.f l = some l := by
  unfold slices_Clone_Node.f
  simp only [Option.bind_some, List.nil_append, List.length_nil]
  rw [if_pos (by omega)]

/-! #### impl_endOf -/
theorem endOf_l0 (l : List S45) (i : Nat) (hi : i < l.length) (hm : l.length ≤ 24) : ∀ (f j : Nat), l.length ≤ j + f → i < j → Ev (fun k => impl_endOf.l0 k l (i : Int) (j : Int)) (Tree.eoFrom l.length (dpA l) (dpA l i) f j : Int) := by
  intro f
  induction f with
  | zero =>
    intro j h h1
    refine ev_succ ?_
    simp only [impl_endOf.l0]
    exact ev_neg (by omega) (Ev.now _)
  | succ f ih =>
    intro j h h1
    refine ev_succ ?_
    simp only [impl_endOf.l0]
    simp only [rd_f1]
    rw [Tree.eoFrom]
    by_cases h2 : j < l.length
    · refine ev_pos (by omega) (ev_pos (by omega) (ev_pos (by omega) (ev_pos (by omega) ?_)))
      by_cases h3 : dpA l j > dpA l i
      · refine ev_pos h3 ?_
        rw [if_pos ⟨h2, h3⟩, w64 (by omega) (by omega)]
        exact ih (j + 1) (by omega) (by omega)
      · refine ev_neg h3 (ev_some ?_)
        rw [if_neg (by omega)]
    · refine ev_neg (by omega) (ev_some ?_)
      rw [if_neg (by omega)]
theorem endOf_ev (l : List S45) (i : Nat) (hi : i < l.length) (hm : l.length ≤ 24) : Ev (fun k => impl_endOf.f k l (i : Int)) (Tree.eo l.length (dpA l) i : Int) := by
  simp only [impl_endOf.f]
  rw [w64 (by omega) (by omega)]
  exact endOf_l0 l i hi hm (l.length - (i + 1)) (i + 1) (by omega) (by omega)

/-! #### impl_hasNode -/
theorem hasNode_ev (l : List S45) (i : Int) (hm : (l.length : Int) ≤ 9223372036854775806) : Ev (fun k => impl_hasNode.f k l i) (hasB l i) := by
  simp only [impl_hasNode.f]
  refine ev_bind (impl_TreeOk_ev l) ?_
  unfold hasB
  by_cases h : treeOk l = true
  · refine ev_pos h ?_
    rw [h, w64 (x := (l.length : Int) - 1) (by omega) (by omega)]
    refine ev_bindc (within_eq _ _ _) (ev_some ?_)
    rw [Bool.true_and]
    congr 1
    simp only [eq_iff_iff]
    omega
  · refine ev_neg h (ev_some ?_)
    have : treeOk l = false := by simpa using h
    rw [this, Bool.false_and]

/-! #### impl_KidsOf -/
theorem impl_KidsOf_l0 (l : List S45) (i : Nat) (hi : i < l.length) (hm : l.length ≤ 24) (ht : treeOk l = true) : ∀ (d j : Nat), j + d = Tree.eo l.length (dpA l) i → i < j →
    Ev (fun k => impl_KidsOf.l0 k l (i : Int) (kidsTo l i j) (j : Int)) (kidsTo l i (Tree.eo l.length (dpA l) i)) := by
  have he := Tree.eo_le (D := dpA l) hi
  intro d
  induction d with
  | zero =>
    intro j h hj
    refine ev_succ ?_
    simp only [impl_KidsOf.l0]
    refine ev_bind (endOf_ev l i hi hm) (ev_neg (by omega) (ev_some ?_))
    have : j = Tree.eo l.length (dpA l) i := by omega
    rw [this]
  | succ d ih =>
    intro j h hj
    refine ev_succ ?_
    simp only [impl_KidsOf.l0]
    simp only [rd_f1]
    have d2 := dp_range ht hi
    have hk := kidsTo_length l i j
    refine ev_bind (endOf_ev l i hi hm) (ev_pos (by omega) (ev_pos (by omega) (ev_pos (by omega) (ev_pos (by omega) (ev_pos (by omega) ?_)))))
    rw [w64 (x := dpA l i + 1) (by omega) (by omega), w64 (x := (j : Int) + 1) (by omega) (by omega)]
    have := ih (j + 1) (by omega) (by omega)
    rw [kidsTo_step l i j hj] at this
    by_cases hd : dpA l j = dpA l i + 1
    · rw [if_pos hd] at this
      exact ev_pos hd (ev_pos (by omega) this)
    · rw [if_neg hd, List.append_nil] at this
      exact ev_neg hd this
theorem impl_KidsOf_ev (l : List S45) (i : Int) (hm : (l.length : Int) ≤ 9223372036854775806) : Ev (fun k => impl_KidsOf.f k l i) (kidsI l i) := by
  simp only [impl_KidsOf.f, Option.bind_some]
  refine ev_bind (hasNode_ev l i hm) ?_
  by_cases h : hasB l i = true
  · refine ev_pos h ?_
    obtain ⟨j, rfl, hj, h1, h2, hv⟩ := hasB_nat h
    have g := @Tree.eo_gt l.length (dpA l) j
    rw [w64 (by omega) (by omega), kidsI_nat h]
    have := impl_KidsOf_l0 l j hj h2 h1 (Tree.eo l.length (dpA l) j - (j + 1)) (j + 1) (by omega) (by omega)
    have e : kidsTo l j (j + 1) = [] := by unfold kidsTo; rw [Nat.sub_self]; rfl
    rw [e] at this
    exact this
  · refine ev_neg h (ev_some ?_)
    unfold kidsI
    rw [if_neg h]

/-! #### impl_NodeAt -/
theorem impl_NodeAt_l0 (l : List S45) (p : List Int) (ht : treeOk l = true) (hp : (p.length : Int) ≤ 9223372036854775806) : ∀ (d j i : Nat), j + d = p.length → i < l.length → Ev (fun k => impl_NodeAt.l0 k l (i : Int) p (p.length : Int) (j : Int)) (optI (Tree.goDown l.length (dpA l) i (p.drop j))) := by
  have h24 := (treeOk_iff.1 ht).1
  intro d
  induction d with
  | zero =>
    intro j i h hi
    refine ev_succ ?_
    simp only [impl_NodeAt.l0]
    rw [List.drop_eq_nil_of_le (by omega)]
    exact ev_neg (by omega) (Ev.now _)
  | succ d ih =>
    intro j i h hi
    refine ev_succ ?_
    simp only [impl_NodeAt.l0]
    have hkl := kidsI_length l (i : Int)
    refine ev_pos (by omega) (ev_pos (by omega) (ev_pos (by omega) (ev_bind (impl_KidsOf_ev l _ (by omega)) (ev_bindc (within_eq _ _ _) ?_))))
    rw [w64 (by omega) (by omega), kidsI_ok ht hi, List.length_map, drop_rd p j (by omega), Tree.goDown]
    by_cases hk : 0 ≤ rd p (j : Int) ∧ rd p (j : Int) < ((Tree.kids l.length (dpA l) i).length : Int)
    · rw [if_pos hk]
      refine ev_pos (decide_eq_true (by omega)) (ev_pos hk.1 (ev_pos hk.2 ?_))
      rw [rd_nat _ _ hk.1 hk.2, w64 (x := (j : Int) + 1) (by omega) (by omega)]
      refine ih (j + 1) _ (by omega) (Tree.kids_lt (D := dpA l) hi ?_)
      rw [List.getD_eq_getElem?_getD, List.getElem?_eq_getElem (by omega)]
      exact List.getElem_mem _
    · rw [if_neg hk]
      exact ev_neg (by simp only [decide_eq_true_eq]; omega) (Ev.now _)
theorem impl_NodeAt_ev (l : List S45) (p : List Int) (hp : (p.length : Int) ≤ 9223372036854775806) : Ev (fun k => impl_NodeAt.f k l p) (nodeI l p) := by
  simp only [impl_NodeAt.f]
  refine ev_bind (impl_TreeOk_ev l) ?_
  unfold nodeI
  by_cases h : treeOk l = true
  · rw [if_pos h]
    exact ev_pos h (impl_NodeAt_l0 l p h hp p.length 0 0 (by omega) (by have := (treeOk_iff.1 h).1; omega))
  · rw [if_neg h]
    exact ev_neg h (Ev.now _)

end Go.Proofs.Ytbiffnahknkoiaa.QFnExactPatch
