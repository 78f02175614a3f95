/- What the printed functions of the law FnExactGraft come to, function by function, from some number of rounds on; each under the bounds that it names. -/
import Derived.Test.YtbogpdgfghpkeabMFnExactGraftx
import Derived.Test.YtbogpdgfghpkeabMFnExactGraftEvAid
import Derived.Test.YtbogpdgfghpkeabTree
import Derived.Test.YtbogpdgfghpkeabPaths
import Derived.Test.YtbogpdgfghpkeabBounds
import Derived.Test.YtbogpdgfghpkeabMFnExactGraftOpens
namespace Go.Proofs.Ytbogpdgfghpkeab.QFnExactGraft
open Go.RowKit Go.Proofs.Ytbogpdgfghpkeab.PFnExactGraft Go.Proofs.YtbogpdgfghpkeabW.PrintWords Go.Proofs.YtbogpdgfghpkeabW.PrintLast Go.Proofs.YtbogpdgfghpkeabW.PrintMore Go.Proofs.Ytbogpdgfghpkeab.EvAid Go.Proofs.Ytbogpdgfghpkeab
set_option linter.unusedVariables false
set_option linter.unusedSimpArgs false

/-! #### laws_szNodeS -/
theorem szNodeS_eq (l : List S112) (a : Int) (h0 : 0 ≤ a) (h1 : a ≤ 1048576) (hl : l.length ≤ maxLen) : laws_szNodeS.f l a = some (if a < l.length then -1 else a - l.length) := by
  unfold maxLen at hl
  unfold laws_szNodeS.f
  rw [w64 (x := a - (l.length : Int)) (by omega) (by omega)]
  by_cases h : a < l.length
  · rw [if_pos (by omega), if_pos h]
  · rw [if_neg (by omega), if_neg h]

/-! #### spec_l1In -/
theorem l1In_eq (a b c : Int) : spec_l1In.f a b c = some (decide (b ≤ a ∧ a ≤ c)) := by
  unfold spec_l1In.f
  by_cases h : a ≥ b
  · rw [if_pos h]; have h' : b ≤ a := h; simp [h']
  · rw [if_neg h]; have h' : ¬ b ≤ a := h; simp [h']

/-! #### spec_LabelOk -/
theorem spec_LabelOk_eq (a : Int) : spec_LabelOk.f a = some (decide (0 ≤ a ∧ a ≤ 5)) := by
  unfold spec_LabelOk.f; rw [l1In_eq]; rfl

/-! #### _nodes -/
/-- the label and the depth at a place -/
def lbA (l : List S94) (j : Nat) : Int := (l.getD j z94).f0
def dpA (l : List S94) (j : Nat) : Int := (l.getD j z94).f1
theorem rd_f0 (l : List S94) (j : Nat) : (rd_T94 l (j : Int)).f0 = lbA l j := id rfl
theorem rd_f1 (l : List S94) (j : Nat) : (rd_T94 l (j : Int)).f1 = dpA l j := id rfl
theorem node_ext {a b : S94} (h0 : a.f0 = b.f0) (h1 : a.f1 = b.f1) : a = b := by cases a; cases b; simp at h0 h1; rw [h0, h1]
theorem rd_node (l : List S94) (j : Nat) : rd_T94 l (j : Int) = ⟨lbA l j, dpA l j⟩ := id rfl
theorem getD_node (l : List S94) (j : Nat) (h : j < l.length) : l[j] = ⟨lbA l j, dpA l j⟩ := by
  apply node_ext
  · simp [lbA, h]
  · simp [dpA, h]
theorem nodes_ext {a b : List S94} (hl : a.length = b.length) (h0 : ∀ j, j < a.length → lbA a j = lbA b j) (h1 : ∀ j, j < a.length → dpA a j = dpA b j) : a = b := by
  apply List.ext_getElem hl
  intro j h2 h3
  rw [getD_node a j h2, getD_node b j h3, h0 j h2, h1 j h2]
/-- a node may stand at its place -/
def okAt (l : List S94) (j : Nat) : Prop := (0 ≤ lbA l j ∧ lbA l j ≤ 5) ∧ (0 ≤ dpA l j ∧ dpA l j ≤ 12) ∧ (if j = 0 then dpA l j = 0 else 1 ≤ dpA l j ∧ dpA l j ≤ dpA l (j - 1) + 1)
instance okAtDec (l : List S94) (j : Nat) : Decidable (okAt l j) := by unfold okAt; infer_instance
/-- the nodes are those of one tree -/
def treeOk (l : List S94) : Bool := decide (1 ≤ l.length ∧ l.length ≤ 24) && decide (∀ j, j < l.length → okAt l j)
theorem treeOk_iff {l : List S94} : treeOk l = true ↔ (1 ≤ l.length ∧ l.length ≤ 24) ∧ ∀ j, j < l.length → okAt l j := by
  simp [treeOk]
theorem treeOk_vd {l : List S94} (h : treeOk l = true) : Tree.Vd l.length (dpA l) := by
  obtain ⟨h1, h2⟩ := treeOk_iff.1 h
  refine ⟨h1.1, ?_, fun j h0 hj => ?_⟩
  · have := (h2 0 h1.1).2.2
    rwa [if_pos rfl] at this
  · have := (h2 j hj).2.2
    rwa [if_neg (by omega)] at this
/-- from place i on all nodes may stand -/
noncomputable def okFrom (l : List S94) (i : Nat) : Bool := cdec (∀ j, i ≤ j → j < l.length → okAt l j)
theorem okFrom_end {l : List S94} {i : Nat} (h : l.length ≤ i) : okFrom l i = true := by
  unfold okFrom
  rw [cdec_iff]
  intro j h1 h2
  omega
theorem okFrom_step {l : List S94} {i : Nat} (h : i < l.length) : okFrom l i = (decide (okAt l i) && okFrom l (i + 1)) := by
  unfold okFrom
  rw [Bool.eq_iff_iff, Bool.and_eq_true, cdec_iff, decide_eq_true_iff, cdec_iff]
  constructor
  · intro a; exact ⟨a i (Nat.le_refl _) h, fun j h1 h2 => a j (by omega) h2⟩
  · rintro ⟨a, b⟩ j h1 h2
    by_cases e : j = i
    · subst e; exact a
    · exact b j (by omega) h2
theorem okFrom_zero (l : List S94) : treeOk l = (decide (1 ≤ l.length ∧ l.length ≤ 24) && okFrom l 0) := by
  unfold treeOk okFrom
  congr 1
  rw [Bool.eq_iff_iff, decide_eq_true_iff, cdec_iff]
  exact ⟨fun h j _ hj => h j hj, fun h j hj => h j (Nat.zero_le _) hj⟩

/-! #### spec_TreeOk -/
theorem spec_TreeOk_l0 (l : List S94) (hm : (l.length : Int) ≤ 9223372036854775806) : ∀ (d i : Nat), i + d = l.length → (0 < i → okAt l (i - 1)) → Ev (fun k => spec_TreeOk.l0 k l (i : Int)) (decide (1 ≤ l.length ∧ l.length ≤ 24) && okFrom l i) := by
  intro d
  induction d with
  | zero =>
    intro i h hp
    refine ev_succ ?_
    simp only [spec_TreeOk.l0]
    refine ev_neg (by omega) (ev_bindc (l1In_eq _ _ _) (ev_some ?_))
    rw [okFrom_end (by omega), Bool.and_true]
    congr 1
    simp only [eq_iff_iff]
    omega
  | succ d ih =>
    intro i h hp
    refine ev_succ ?_
    simp only [spec_TreeOk.l0]
    simp only [rd_f0, rd_f1]
    refine ev_pos (by omega) (ev_pos (by omega) (ev_bindc (spec_LabelOk_eq _) ?_))
    rw [okFrom_step (by omega)]
    simp only [decide_eq_true_eq]
    by_cases h1 : 0 ≤ lbA l i ∧ lbA l i ≤ 5
    · refine ev_pos h1 (ev_bindc (l1In_eq _ _ _) ?_)
      simp only [decide_eq_true_eq]
      by_cases h2 : 0 ≤ dpA l i ∧ dpA l i ≤ 12
      · refine ev_pos h2 ?_
        by_cases h0 : i = 0
        · subst h0
          by_cases h3 : dpA l 0 = 0
          · refine ev_neg (by rw [h3]; decide) (ev_neg (by omega) ?_)
            rw [w64 (by omega) (by omega)]
            have ok : okAt l 0 := ⟨h1, h2, by rw [if_pos rfl]; exact h3⟩
            have := ih 1 (by omega) (fun _ => ok)
            rw [decide_eq_true ok, Bool.true_and]
            exact this
          · refine ev_pos (by
              have e : (dpA l 0 == 0) = false := by rw [beq_eq_false_iff_ne]; exact h3
              simp only [e]; rfl) (ev_some ?_)
            have ok : ¬ okAt l 0 := fun h => h3 (by have := h.2.2; rwa [if_pos rfl] at this)
            rw [decide_eq_false ok, Bool.false_and, Bool.and_false]
        · have ei : ((i : Int) == 0) = false := by rw [beq_eq_false_iff_ne]; omega
          by_cases h3 : dpA l i = 0
          · refine ev_pos (by rw [ei, h3]; decide) (ev_some ?_)
            have ok : ¬ okAt l i := fun h => by have := h.2.2; rw [if_neg h0] at this; omega
            rw [decide_eq_false ok, Bool.false_and, Bool.and_false]
          · have e : (dpA l i == 0) = false := by rw [beq_eq_false_iff_ne]; exact h3
            have hpp := hp (by omega)
            have e1 : (i : Int) - 1 = ((i - 1 : Nat) : Int) := by omega
            have hb := hpp.2.1
            refine ev_neg (by rw [ei, e]; decide) (ev_pos (by omega) ?_)
            rw [w64 (x := (i : Int) - 1) (by omega) (by omega), e1]
            simp only [rd_f1]
            rw [w64 (x := dpA l (i - 1) + 1) (by omega) (by omega)]
            refine ev_pos (by omega) (ev_pos (by omega) ?_)
            by_cases h4 : dpA l i > dpA l (i - 1) + 1
            · refine ev_pos h4 (ev_some ?_)
              have ok : ¬ okAt l i := fun h => by have := h.2.2; rw [if_neg h0] at this; omega
              rw [decide_eq_false ok, Bool.false_and, Bool.and_false]
            · refine ev_neg h4 ?_
              have ok : okAt l i := ⟨h1, h2, by rw [if_neg h0]; omega⟩
              rw [w64 (x := (i : Int) + 1) (by omega) (by omega), decide_eq_true ok, Bool.true_and]
              exact ih (i + 1) (by omega) (fun _ => ok)
      · refine ev_neg h2 (ev_some ?_)
        have ok : ¬ okAt l i := fun h => h2 h.2.1
        rw [decide_eq_false ok, Bool.false_and, Bool.and_false]
    · refine ev_neg h1 (ev_some ?_)
      have ok : ¬ okAt l i := fun h => h1 h.1
      rw [decide_eq_false ok, Bool.false_and, Bool.and_false]
theorem spec_TreeOk_ev (l : List S94) (hm : (l.length : Int) ≤ 9223372036854775806) : Ev (fun k => spec_TreeOk.f k l) (treeOk l) := by
  simp only [spec_TreeOk.f]
  rw [okFrom_zero]
  exact spec_TreeOk_l0 l hm l.length 0 (by omega) (fun h => absurd h (Nat.lt_irrefl 0))

/-! #### spec_l3Copy -/
theorem l3Copy_eq (l : List S94) (h : l.length < 8796093022208) : spec_l3Copy.f l = some l := by
  unfold spec_l3Copy.f
  simp only [Option.bind_some, List.nil_append, List.length_nil]
  rw [if_pos (by omega)]

/-! #### _hasB -/
/-- the tree is one, and has a node i -/
def hasB (l : List S94) (i : Int) : Bool := treeOk l && decide (0 ≤ i ∧ i < (l.length : Int))
theorem hasB_iff {l : List S94} {i : Int} : hasB l i = true ↔ treeOk l = true ∧ 0 ≤ i ∧ i < (l.length : Int) := by simp [hasB]
theorem hasB_nat {l : List S94} {i : Int} (h : hasB l i = true) : ∃ j : Nat, i = (j : Int) ∧ j < l.length ∧ treeOk l = true ∧ l.length ≤ 24 ∧ Tree.Vd l.length (dpA l) := by
  obtain ⟨h1, h2, h3⟩ := hasB_iff.1 h
  exact ⟨i.toNat, by omega, by omega, h1, (treeOk_iff.1 h1).1.2, treeOk_vd h1⟩
/-- the end of node i as the program tells it -/
def endI (l : List S94) (i : Int) : Int := if hasB l i = true then (Tree.eo l.length (dpA l) i.toNat : Int) else -1
/-- node i and what is below it as a tree of its own -/
def subT (l : List S94) (i : Int) : List S94 := if hasB l i = true then (List.range' i.toNat (Tree.eo l.length (dpA l) i.toNat - i.toNat)).map (fun (j : Nat) => (⟨lbA l j, dpA l j - dpA l i.toNat⟩ : S94)) else []
theorem subT_length (l : List S94) (i : Int) : (subT l i).length ≤ l.length := by
  unfold subT
  split
  · rename_i h
    obtain ⟨j, rfl, hj, _, _, _⟩ := hasB_nat h
    have := Tree.eo_le (D := dpA l) hj
    simp only [List.length_map, List.length_range', Int.toNat_natCast]
    omega
  · simp
/-- the kids of node i -/
def kidsI (l : List S94) (i : Int) : List Int := if hasB l i = true then (Tree.kids l.length (dpA l) i.toNat).map Int.ofNat else []
theorem kidsI_length (l : List S94) (i : Int) : (kidsI l i).length ≤ l.length := by
  unfold kidsI
  split
  · rename_i h
    obtain ⟨j, rfl, hj, _, _, _⟩ := hasB_nat h
    have := Tree.eo_le (D := dpA l) hj
    have := Tree.kids_length (n := l.length) (D := dpA l) (i := j)
    simp only [List.length_map, Int.toNat_natCast]
    omega
  · simp
theorem dp_range {l : List S94} (h : treeOk l = true) {j : Nat} (hj : j < l.length) : 0 ≤ dpA l j ∧ dpA l j ≤ 12 := ((treeOk_iff.1 h).2 j hj).2.1
theorem lb_range {l : List S94} (h : treeOk l = true) {j : Nat} (hj : j < l.length) : 0 ≤ lbA l j ∧ lbA l j ≤ 5 := ((treeOk_iff.1 h).2 j hj).1
/-- the two lists of nodes are the same -/
noncomputable def sameT (a b : List S94) : Bool := cdec (a = b)
theorem sameT_iff {a b : List S94} : sameT a b = true ↔ a = b := cdec_iff
theorem sameT_self (a : List S94) : sameT a a = true := sameT_iff.2 rfl
/-- .. from place i on -/
noncomputable def sameFrom (a b : List S94) (i : Nat) : Bool := cdec (∀ j, i ≤ j → j < a.length → lbA a j = lbA b j ∧ dpA a j = dpA b j)
theorem sameFrom_end {a b : List S94} {i : Nat} (h : a.length ≤ i) : sameFrom a b i = true := by
  unfold sameFrom
  rw [cdec_iff]
  intro j h1 h2
  omega
theorem sameFrom_step {a b : List S94} {i : Nat} (h : i < a.length) : sameFrom a b i = (decide (lbA a i = lbA b i ∧ dpA a i = dpA b i) && sameFrom a b (i + 1)) := by
  unfold sameFrom
  rw [Bool.eq_iff_iff, Bool.and_eq_true, cdec_iff, decide_eq_true_iff, cdec_iff]
  constructor
  · intro x; exact ⟨x i (Nat.le_refl _) h, fun j h1 h2 => x j (by omega) h2⟩
  · rintro ⟨x, y⟩ j h1 h2
    by_cases e : j = i
    · subst e; exact x
    · exact y j (by omega) h2
theorem sameFrom_zero {a b : List S94} (h : a.length = b.length) : sameFrom a b 0 = sameT a b := by
  unfold sameFrom sameT
  rw [Bool.eq_iff_iff, cdec_iff, cdec_iff]
  constructor
  · intro x; exact nodes_ext h (fun j hj => (x j (Nat.zero_le _) hj).1) (fun j hj => (x j (Nat.zero_le _) hj).2)
  · intro e; subst e; exact fun j _ _ => ⟨rfl, rfl⟩
theorem same_cond (x0 x1 y0 y1 : Int) : ((!(x0 == y0) || !(x1 == y1)) = true) ↔ ¬ (x0 = y0 ∧ x1 = y1) := by
  by_cases h0 : x0 = y0 <;> by_cases h1 : x1 = y1 <;> simp [h0, h1]
/-- node i's parent -/
def parI (l : List S94) (i : Int) : Int := if hasB l i = true then Tree.par (dpA l) i.toNat else -1

/-! #### spec_l3At -/
theorem l3At_ev (l : List S94) (i : Int) (hm : (l.length : Int) ≤ 9223372036854775806) : Ev (fun k => spec_l3At.f k l i) (hasB l i) := by
  simp only [spec_l3At.f]
  refine ev_bind (spec_TreeOk_ev l hm) ?_
  unfold hasB
  by_cases h : treeOk l = true
  · refine ev_pos h ?_
    rw [h, w64 (x := (l.length : Int) - 1) (by omega) (by omega)]
    refine ev_bindc (l1In_eq _ _ _) (ev_some ?_)
    rw [Bool.true_and]
    congr 1
    simp only [eq_iff_iff]
    omega
  · refine ev_neg h (ev_some ?_)
    have : treeOk l = false := by simpa using h
    rw [this, Bool.false_and]

/-! #### spec_EndOf -/
theorem spec_EndOf_l0 (l : List S94) (i : Nat) (hi : i < l.length) (hm : l.length ≤ 24) : ∀ (f j : Nat), l.length ≤ j + f → i < j → Ev (fun k => spec_EndOf.l0 k l (i : Int) (j : Int)) (Tree.eoFrom l.length (dpA l) (dpA l i) f j : Int) := by
  intro f
  induction f with
  | zero =>
    intro j h h1
    refine ev_succ ?_
    simp only [spec_EndOf.l0]
    exact ev_neg (by omega) (Ev.now _)
  | succ f ih =>
    intro j h h1
    refine ev_succ ?_
    simp only [spec_EndOf.l0]
    simp only [rd_f1]
    rw [Tree.eoFrom]
    by_cases h2 : j < l.length
    · refine ev_pos (by omega) (ev_pos (by omega) (ev_pos (by omega) (ev_pos (by omega) ?_)))
      by_cases h3 : dpA l j > dpA l i
      · refine ev_pos h3 ?_
        rw [if_pos ⟨h2, h3⟩, w64 (by omega) (by omega)]
        exact ih (j + 1) (by omega) (by omega)
      · refine ev_neg h3 (ev_some ?_)
        rw [if_neg (by omega)]
    · refine ev_neg (by omega) (ev_some ?_)
      rw [if_neg (by omega)]
theorem spec_EndOf_ev (l : List S94) (i : Int) (hm : (l.length : Int) ≤ 9223372036854775806) : Ev (fun k => spec_EndOf.f k l i) (endI l i) := by
  simp only [spec_EndOf.f]
  refine ev_bind (l3At_ev l i hm) ?_
  unfold endI
  by_cases h : hasB l i = true
  · obtain ⟨j, rfl, hj, h1, h2, hv⟩ := hasB_nat h
    refine ev_pos h ?_
    rw [if_pos h, w64 (by omega) (by omega)]
    exact spec_EndOf_l0 l j hj h2 (l.length - (j + 1)) (j + 1) (by omega) (by omega)
  · refine ev_neg h ?_
    rw [if_neg h]
    exact Ev.now _

/-! #### _up -/
/-- a node some levels further down -/
def upN (b : Int) (x : S94) : S94 := ⟨x.f0, x.f1 + b⟩
/-- the nodes from a on, ahead of i, some levels further down -/
def midN (b : Int) (a : Nat) (t : List S94) (i : Nat) : List S94 := t.take a ++ ((t.take i).drop a).map (upN b) ++ t.drop i
theorem midN_self (b : Int) (a : Nat) (t : List S94) : midN b a t a = t := by
  unfold midN
  rw [List.drop_eq_nil_of_le (by rw [List.length_take]; omega), List.map_nil, List.append_nil, List.take_append_drop]
theorem midN_length (b : Int) (a : Nat) (t : List S94) (i : Nat) (h : a ≤ i) (hi : i ≤ t.length) : (midN b a t i).length = t.length := by
  unfold midN
  simp only [List.length_append, List.length_take, List.length_map, List.length_drop]
  omega
theorem midN_rd (b : Int) (a : Nat) (t : List S94) (i : Nat) (h : a ≤ i) (hi : i < t.length) : rd_T94 (midN b a t i) (i : Int) = rd_T94 t (i : Int) := by
  show (midN b a t i).getD i _ = t.getD i _
  have hl : (t.take a ++ ((t.take i).drop a).map (upN b)).length = i := by
    simp only [List.length_append, List.length_take, List.length_map, List.length_drop]
    omega
  unfold midN
  rw [List.getD_eq_getElem?_getD, List.getElem?_append_right (by omega), hl, Nat.sub_self, List.getElem?_drop, Nat.add_zero, List.getD_eq_getElem?_getD]
theorem midN_set (b : Int) (a : Nat) (t : List S94) (i : Nat) (h : a ≤ i) (hi : i < t.length) : (midN b a t i).set i (upN b (t.getD i z94)) = midN b a t (i + 1) := by
  have hl : (t.take a ++ ((t.take i).drop a).map (upN b)).length = i := by
    simp only [List.length_append, List.length_take, List.length_map, List.length_drop]
    omega
  unfold midN
  rw [List.set_append_right _ _ (by omega), hl, Nat.sub_self, List.drop_eq_getElem_cons hi, List.set_cons_zero]
  have e : (t.take (i + 1)).drop a = (t.take i).drop a ++ [t[i]] := by
    rw [List.take_succ_eq_append_getElem hi, List.drop_append_of_le_length (by rw [List.length_take]; omega)]
  rw [e, List.map_append, ← List.append_assoc, List.append_assoc _ (List.map _ [t[i]])]
  have e2 : t.getD i z94 = t[i] := by rw [List.getD_eq_getElem?_getD, List.getElem?_eq_getElem hi]; rfl
  rw [e2]
  rfl
theorem upN_eq {t : List S94} {i : Nat} {b : Int} (h1 : -9223372036854775808 ≤ dpA t i + b) (h2 : dpA t i + b ≤ 9223372036854775807) : (⟨(rd_T94 t (i : Int)).f0, wrap64 ((rd_T94 t (i : Int)).f1 + b)⟩ : S94) = upN b (t.getD i z94) := by
  have : wrap64 ((rd_T94 t (i : Int)).f1 + b) = (rd_T94 t (i : Int)).f1 + b := w64 h1 h2
  rw [this]
  rfl

/-! #### spec_l13Shift -/
theorem l13Shift_l0 (l : List S94) (a e : Nat) (b : Int) (he : e ≤ l.length) (hm : l.length ≤ 1048576) (hd : ∀ j, j < l.length → -4611686018427387904 ≤ dpA l j + b ∧ dpA l j + b ≤ 4611686018427387904) : ∀ (d i : Nat), i + d = e → a ≤ i → Ev (fun k => spec_l13Shift.l0 k l (e : Int) b (((l.take i).drop a).map (upN b)) (i : Int)) (((l.take e).drop a).map (upN b)) := by
  intro d
  induction d with
  | zero =>
    intro i h ha
    refine ev_succ ?_
    simp only [spec_l13Shift.l0]
    have : i = e := by omega
    subst this
    exact ev_neg (by omega) (Ev.now _)
  | succ d ih =>
    intro i h ha
    refine ev_succ ?_
    simp only [spec_l13Shift.l0]
    have hi : i < l.length := by omega
    have hdi := hd i hi
    refine ev_pos (by omega) (ev_pos (by omega) (ev_pos (by omega) (ev_pos (by simp only [List.length_map, List.length_drop, List.length_take]; omega) ?_)))
    rw [upN_eq (by omega) (by omega), w64 (x := (i : Int) + 1) (by omega) (by omega)]
    have := ih (i + 1) (by omega) (by omega)
    have e1 : (l.take (i + 1)).drop a = (l.take i).drop a ++ [l[i]] := by
      rw [List.take_succ_eq_append_getElem hi, List.drop_append_of_le_length (by rw [List.length_take]; omega)]
    have e2 : l.getD i z94 = l[i] := by rw [List.getD_eq_getElem?_getD, List.getElem?_eq_getElem hi]; rfl
    rw [e1, List.map_append] at this
    rw [e2]
    exact this
theorem l13Shift_ev (l : List S94) (a e : Nat) (b : Int) (ha : a ≤ e) (he : e ≤ l.length) (hm : l.length ≤ 1048576) (hd : ∀ j, j < l.length → -4611686018427387904 ≤ dpA l j + b ∧ dpA l j + b ≤ 4611686018427387904) : Ev (fun k => spec_l13Shift.f k l (a : Int) (e : Int) b) (((l.take e).drop a).map (upN b)) := by
  simp only [spec_l13Shift.f]
  have := l13Shift_l0 l a e b he hm hd (e - a) a (by omega) (Nat.le_refl _)
  rw [List.drop_eq_nil_of_le (by rw [List.length_take]; omega), List.map_nil] at this
  exact this

/-! #### _graft -/
/-- t put in as the last kid of node i; no question asked -/
def graftG (l : List S94) (i : Nat) (t : List S94) : List S94 := l.take (Tree.eo l.length (dpA l) i) ++ t.map (upN (dpA l i + 1)) ++ l.drop (Tree.eo l.length (dpA l) i)
/-- t put in as the last kid of node i, if it may be; and whether it was -/
def graftT (l : List S94) (i : Int) (t : List S94) : List S94 × Bool := if hasB l i = true ∧ treeOk t = true then (if treeOk (graftG l i.toNat t) = true then (graftG l i.toNat t, true) else (l, false)) else (l, false)
theorem graftG_length (l : List S94) (i : Nat) (t : List S94) (hi : i < l.length) : (graftG l i t).length = l.length + t.length := by
  unfold graftG
  have := Tree.eo_le (D := dpA l) hi
  simp only [List.length_append, List.length_take, List.length_map, List.length_drop]
  omega
theorem graftT_length (l : List S94) (i : Int) (t : List S94) : (graftT l i t).1.length ≤ l.length + t.length := by
  unfold graftT
  split
  · rename_i h
    obtain ⟨j, rfl, hj, _, _, _⟩ := hasB_nat h.1
    split
    · rw [Int.toNat_natCast, graftG_length l j t hj]; exact Nat.le_refl _
    · simp
  · simp

/-! #### spec_Graft -/
theorem spec_Graft_ev (l : List S94) (i : Int) (t : List S94) (hm : l.length ≤ 1048576) (hmt : t.length ≤ 1048576) : Ev (fun k => spec_Graft.f k l i t) (graftT l i t) := by
  simp only [spec_Graft.f]
  refine ev_bind (l3At_ev l i (by omega)) ?_
  unfold graftT
  by_cases h : hasB l i = true
  · refine ev_pos h (ev_bind (spec_TreeOk_ev t (by omega)) (ev_succ ?_))
    simp only [spec_Graft.j0]
    by_cases h0 : treeOk t = true
    · rw [if_pos ⟨h, h0⟩]
      obtain ⟨j, rfl, hj, ht, hl, hv⟩ := hasB_nat h
      have h24 := (treeOk_iff.1 h0).1
      have := @Tree.eo_gt l.length (dpA l) j
      have he := Tree.eo_le (D := dpA l) hj
      have hE : endI l (j : Int) = (Tree.eo l.length (dpA l) j : Int) := by unfold endI; rw [if_pos h]; rfl
      have dj := dp_range ht hj
      simp only [Int.toNat_natCast]
      refine ev_neg (by simp [h0]) (ev_bind (spec_EndOf_ev l j (by omega)) ?_)
      rw [hE]
      refine ev_pos (by omega) (ev_pos (by omega) (ev_bindc (l3Copy_eq _ (by rw [List.length_take]; omega)) (ev_pos (by omega) (ev_pos (by omega) ?_))))
      simp only [Int.toNat_natCast, rd_f1]
      rw [w64 (x := dpA l j + 1) (by omega) (by omega)]
      have hsh := l13Shift_ev t 0 t.length (dpA l j + 1) (by omega) (by omega) hmt (fun q hq => by have := dp_range h0 hq; omega)
      rw [List.take_length, List.drop_zero] at hsh
      refine ev_bind hsh (ev_pos (by simp only [List.length_take, List.length_map]; omega) (ev_bindc rfl (ev_bindc rfl (ev_pos (by simp only [List.length_take, List.length_map, List.length_append, List.length_drop]; omega) (ev_bindc rfl (ev_bind (spec_TreeOk_ev _ (by simp only [List.length_take, List.length_map, List.length_append, List.length_drop]; omega)) ?_))))))
      by_cases hg : treeOk (graftG l j t) = true
      · rw [if_pos hg]
        exact ev_pos hg (Ev.now _)
      · rw [if_neg hg]
        exact ev_neg hg (ev_bindc (l3Copy_eq l (by omega)) (Ev.now _))
    · rw [if_neg (fun c => h0 c.2)]
      exact ev_pos (by simp [h0]) (ev_bindc (l3Copy_eq l (by omega)) (Ev.now _))
  · refine ev_neg h (ev_succ ?_)
    simp only [spec_Graft.j0]
    rw [if_neg (fun c => h c.1)]
    exact ev_pos trivial (ev_bindc (l3Copy_eq l (by omega)) (Ev.now _))

/-! #### laws_toNodeS -/
/-- a node of the law's as one of the program's -/
def cvN (x : S112) : S94 := ⟨x.f0, x.f1⟩
theorem toNodeS_l0 (a : List S112) (hm : (a.length : Int) ≤ 9223372036854775806) : ∀ (d i : Nat) (out : List S94), i + d = a.length → out.length = a.length → out.take i = (a.map cvN).take i → Ev (fun k => laws_toNodeS.l0 k a out i) (a.map cvN) := by
  intro d
  induction d with
  | zero =>
    intro i out h hl ht
    refine ev_succ ?_
    simp only [laws_toNodeS.l0]
    refine ev_neg (by omega) (ev_some ?_)
    rw [List.take_of_length_le (by omega), List.take_of_length_le (by rw [List.length_map]; omega)] at ht
    exact ht
  | succ d ih =>
    intro i out h hl ht
    refine ev_succ ?_
    simp only [laws_toNodeS.l0]
    refine ev_pos (by omega) (ev_pos (by omega) (ev_bindc rfl (ev_pos (by omega) ?_)))
    rw [w64 (by omega) (by omega)]
    refine ih (i + 1) _ (by omega) (by rw [List.length_set]; exact hl) ?_
    have e : ((i : Int)).toNat = i := Int.toNat_natCast i
    rw [e]
    have hi : i < a.length := by omega
    have hr : rd_T112 a i = a[i] := by simp [rd_T112, hi]
    rw [List.take_succ_eq_append_getElem (by rw [List.length_set]; omega), List.take_succ_eq_append_getElem (by rw [List.length_map]; omega), List.getElem_set_self, List.take_set_of_le (Nat.le_refl _), ht, List.getElem_map, hr]
    rfl
theorem toNodeS_ev (a : List S112) (hm : a.length ≤ 17592186044416) : Ev (fun k => laws_toNodeS.f k a) (a.map cvN) := by
  simp only [laws_toNodeS.f]
  refine ev_pos (by omega) (ev_pos (by omega) ?_)
  exact toNodeS_l0 a (by omega) a.length 0 _ (by omega) (by rw [List.length_replicate]; omega) rfl

/-! #### impl_within -/
theorem within_eq (a b c : Int) : impl_within.f a b c = some (decide (b ≤ a ∧ a ≤ c)) := by
  unfold impl_within.f
  by_cases h : b ≤ a
  · rw [if_pos h]; simp [h]
  · rw [if_neg h]; simp [h]

/-! #### impl_LabelOk -/
theorem LabelOk_eq (a : Int) : impl_LabelOk.f a = some (decide (0 ≤ a ∧ a ≤ 5)) := by
  unfold impl_LabelOk.f; rw [within_eq]; rfl

/-! #### impl_TreeOk -/
theorem depthOk_eq (l : List S94) (i : Nat) (hi : i < l.length) (hl : l.length ≤ 24) (hp : 0 < i → 0 ≤ dpA l (i - 1) ∧ dpA l (i - 1) ≤ 12) : impl_depthOk.f l (i : Int) = some (decide (if i = 0 then dpA l i = 0 else 1 ≤ dpA l i ∧ dpA l i ≤ dpA l (i - 1) + 1)) := by
  unfold impl_depthOk.f
  by_cases h0 : i = 0
  · subst h0
    conv => lhs; rw [if_pos (show ((0 : Nat) : Int) = 0 from rfl), if_pos (by omega)]
    congr 1
  · have e1 : (i : Int) - 1 = ((i - 1 : Nat) : Int) := by omega
    have hb := hp (by omega)
    conv => lhs; rw [if_neg (by omega), if_pos (by omega), if_pos (by omega), w64 (x := (i : Int) - 1) (by omega) (by omega), e1, if_pos (by omega), if_pos (by omega), rd_f1, rd_f1, w64 (x := dpA l (i - 1) + 1) (by omega) (by omega), within_eq]
    simp only [h0, if_false, Option.bind_some]
theorem impl_TreeOk_l0 (l : List S94) (hl : l.length ≤ 24) : ∀ (d i : Nat), i + d = l.length → (0 < i → okAt l (i - 1)) → Ev (fun k => impl_TreeOk.l0 k l l (l.length : Int) (i : Int)) (okFrom l i) := by
  intro d
  induction d with
  | zero =>
    intro i h hp
    refine ev_succ ?_
    simp only [impl_TreeOk.l0]
    refine ev_neg (by omega) (ev_some ?_)
    rw [okFrom_end (by omega)]
  | succ d ih =>
    intro i h hp
    refine ev_succ ?_
    simp only [impl_TreeOk.l0]
    simp only [rd_f0, rd_f1]
    rw [okFrom_step (by omega)]
    refine ev_pos (by omega) (ev_pos (by omega) (ev_pos (by omega) (ev_bindc (LabelOk_eq _) ?_)))
    simp only [decide_eq_true_eq]
    by_cases h1 : 0 ≤ lbA l i ∧ lbA l i ≤ 5
    · refine ev_pos h1 (ev_bindc (within_eq _ _ _) ?_)
      simp only [decide_eq_true_eq]
      by_cases h2 : 0 ≤ dpA l i ∧ dpA l i ≤ 12
      · refine ev_pos h2 (ev_bindc (depthOk_eq l i (by omega) hl (fun h0 => (hp h0).2.1)) ?_)
        simp only [decide_eq_true_eq]
        by_cases h3 : (if i = 0 then dpA l i = 0 else 1 ≤ dpA l i ∧ dpA l i ≤ dpA l (i - 1) + 1)
        · refine ev_pos h3 ?_
          have ok : okAt l i := ⟨h1, h2, h3⟩
          rw [w64 (x := (i : Int) + 1) (by omega) (by omega), decide_eq_true ok, Bool.true_and]
          exact ih (i + 1) (by omega) (fun _ => ok)
        · refine ev_neg h3 (ev_some ?_)
          have ok : ¬ okAt l i := fun h => h3 h.2.2
          rw [decide_eq_false ok, Bool.false_and]
      · refine ev_neg h2 (ev_some ?_)
        have ok : ¬ okAt l i := fun h => h2 h.2.1
        rw [decide_eq_false ok, Bool.false_and]
    · refine ev_neg h1 (ev_some ?_)
      have ok : ¬ okAt l i := fun h => h1 h.1
      rw [decide_eq_false ok, Bool.false_and]
theorem impl_TreeOk_ev (l : List S94) : Ev (fun k => impl_TreeOk.f k l) (treeOk l) := by
  simp only [impl_TreeOk.f]
  refine ev_bindc (within_eq _ _ _) ?_
  simp only [decide_eq_true_eq]
  rw [okFrom_zero]
  by_cases h : 1 ≤ l.length ∧ l.length ≤ 24
  · refine ev_pos (by omega) ?_
    rw [decide_eq_true h, Bool.true_and]
    exact impl_TreeOk_l0 l h.2 l.length 0 (by omega) (fun h => absurd h (Nat.lt_irrefl 0))
  · refine ev_neg (by omega) (ev_some ?_)
    rw [decide_eq_false h, Bool.false_and]

/-! #### impl_hasNode -/
theorem hasNode_ev (l : List S94) (i : Int) (hm : (l.length : Int) ≤ 9223372036854775806) : Ev (fun k => impl_hasNode.f k l i) (hasB l i) := by
  simp only [impl_hasNode.f]
  refine ev_bind (impl_TreeOk_ev l) ?_
  unfold hasB
  by_cases h : treeOk l = true
  · refine ev_pos h ?_
    rw [h, w64 (x := (l.length : Int) - 1) (by omega) (by omega)]
    refine ev_bindc (within_eq _ _ _) (ev_some ?_)
    rw [Bool.true_and]
    congr 1
    simp only [eq_iff_iff]
    omega
  · refine ev_neg h (ev_some ?_)
    have : treeOk l = false := by simpa using h
    rw [this, Bool.false_and]

/-! #### impl_endOf -/
theorem endOf_l0 (l : List S94) (i : Nat) (hi : i < l.length) (hm : l.length ≤ 24) : ∀ (f j : Nat), l.length ≤ j + f → i < j → Ev (fun k => impl_endOf.l0 k l (i : Int) (j : Int)) (Tree.eoFrom l.length (dpA l) (dpA l i) f j : Int) := by
  intro f
  induction f with
  | zero =>
    intro j h h1
    refine ev_succ ?_
    simp only [impl_endOf.l0]
    exact ev_neg (by omega) (Ev.now _)
  | succ f ih =>
    intro j h h1
    refine ev_succ ?_
    simp only [impl_endOf.l0]
    simp only [rd_f1]
    rw [Tree.eoFrom]
    by_cases h2 : j < l.length
    · refine ev_pos (by omega) (ev_pos (by omega) (ev_pos (by omega) (ev_pos (by omega) ?_)))
      by_cases h3 : dpA l j > dpA l i
      · refine ev_pos h3 ?_
        rw [if_pos ⟨h2, h3⟩, w64 (by omega) (by omega)]
        exact ih (j + 1) (by omega) (by omega)
      · refine ev_neg h3 (ev_some ?_)
        rw [if_neg (by omega)]
    · refine ev_neg (by omega) (ev_some ?_)
      rw [if_neg (by omega)]
theorem endOf_ev (l : List S94) (i : Nat) (hi : i < l.length) (hm : l.length ≤ 24) : Ev (fun k => impl_endOf.f k l (i : Int)) (Tree.eo l.length (dpA l) i : Int) := by
  simp only [impl_endOf.f]
  rw [w64 (by omega) (by omega)]
  exact endOf_l0 l i hi hm (l.length - (i + 1)) (i + 1) (by omega) (by omega)

/-! #### slices_Clone_Node -/
theorem clone_eq (l : List S94) (h : l.length < 8796093022208) : slices_Clone_Node.f l = some l := by
  unfold slices_Clone_Node.f
  simp only [Option.bind_some, List.nil_append, List.length_nil]
  rw [if_pos (by omega)]

/-! #### slices_Insert_Node -/
theorem insert_eq (l : List S94) (i : Nat) (v : List S94) (hi : i ≤ l.length) (hv : 0 < v.length) (hl : l.length + v.length < 8796093022208) : slices_Insert_Node.f l (i : Int) v = some (l.take i ++ v ++ l.drop i) := by
  unfold slices_Insert_Node.f
  rw [if_pos (by omega)]
  simp only [Int.toNat_natCast]

/-! #### impl_Graft -/
theorem impl_Graft_l0 (l : List S94) (j : Nat) (t : List S94) (hj : j < l.length) (h : hasB l (j : Int) = true) (h0 : treeOk t = true) : ∀ (d i : Nat), i + d = t.length → Ev (fun k => impl_Graft.l0 k l (j : Int) (midN (dpA l j + 1) 0 t i) (t.length : Int) (i : Int)) (if treeOk (graftG l j t) = true then (graftG l j t, true) else (l, false)) := by
  obtain ⟨_, _, _, ht, hl, hv⟩ := hasB_nat h
  have h24 := (treeOk_iff.1 h0).1
  have he1 := @Tree.eo_gt l.length (dpA l) j
  have he := Tree.eo_le (D := dpA l) hj
  have dj := dp_range ht hj
  intro d
  induction d with
  | zero =>
    intro i hi
    have e : i = t.length := by omega
    subst e
    refine ev_succ ?_
    simp only [impl_Graft.l0]
    have em : midN (dpA l j + 1) 0 t t.length = t.map (upN (dpA l j + 1)) := by
      unfold midN
      rw [List.take_zero, List.take_length, List.drop_zero, List.drop_length, List.nil_append, List.append_nil]
    rw [em]
    refine ev_neg (by omega) (ev_bindc (clone_eq l (by omega)) (ev_bind (endOf_ev l j hj hl) (ev_bindc (insert_eq l _ _ he (by rw [List.length_map]; omega) (by rw [List.length_map]; omega)) (ev_bind (impl_TreeOk_ev _) ?_))))
    by_cases hg : treeOk (graftG l j t) = true
    · rw [if_pos hg]
      exact ev_pos hg (Ev.now _)
    · rw [if_neg hg]
      exact ev_neg hg (ev_bindc (clone_eq l (by omega)) (Ev.now _))
  | succ d ih =>
    intro i hi
    refine ev_succ ?_
    simp only [impl_Graft.l0]
    have hlen := midN_length (dpA l j + 1) 0 t i (by omega) (by omega)
    have di := dp_range h0 (j := i) (by omega)
    refine ev_pos (by omega) (ev_pos (by omega) (ev_pos (by omega) (ev_pos (by omega) (ev_pos (by omega) ?_))))
    rw [midN_rd _ _ _ _ (by omega) (by omega), rd_f1 l j, w64 (x := dpA l j + 1) (by omega) (by omega), upN_eq (by omega) (by omega), w64 (x := (i : Int) + 1) (by omega) (by omega), Int.toNat_natCast, midN_set _ _ _ _ (by omega) (by omega)]
    exact ih (i + 1) (by omega)
theorem impl_Graft_ev (l : List S94) (i : Int) (t : List S94) (hm : l.length ≤ 1048576) (hmt : t.length ≤ 1048576) : Ev (fun k => impl_Graft.f k l i t) (graftT l i t) := by
  simp only [impl_Graft.f]
  refine ev_bind (hasNode_ev l i (by omega)) ?_
  unfold graftT
  by_cases h : hasB l i = true
  · refine ev_pos h (ev_bind (impl_TreeOk_ev t) (ev_succ ?_))
    simp only [impl_Graft.j0]
    by_cases h0 : treeOk t = true
    · rw [if_pos ⟨h, h0⟩]
      obtain ⟨j, rfl, hj, ht, hl, hv⟩ := hasB_nat h
      simp only [Int.toNat_natCast]
      have := impl_Graft_l0 l j t hj h h0 t.length 0 (by omega)
      rw [midN_self] at this
      exact ev_neg (by simp [h0]) (ev_bindc (clone_eq t (by omega)) this)
    · rw [if_neg (fun c => h0 c.2)]
      exact ev_pos (by simp [h0]) (ev_bindc (clone_eq l (by omega)) (Ev.now _))
  · refine ev_neg h (ev_succ ?_)
    simp only [impl_Graft.j0]
    rw [if_neg (fun c => h c.1)]
    exact ev_pos trivial (ev_bindc (clone_eq l (by omega)) (Ev.now _))

/-! #### laws_eqNodeS -/
theorem eqNode_self (a b : Int) : laws_eqNode.f a b a b = some true := by unfold laws_eqNode.f; rw [if_pos rfl, if_pos rfl]
theorem eqNodeS_l0 (a : List S94) (hm : (a.length : Int) ≤ 9223372036854775806) : ∀ (d i : Nat), i + d = a.length → Ev (fun k => laws_eqNodeS.l0 k a a i) true := by
  intro d
  induction d with
  | zero =>
    intro i h
    refine ev_succ ?_
    simp only [laws_eqNodeS.l0]
    exact ev_neg (by omega) (Ev.now _)
  | succ d ih =>
    intro i h
    refine ev_succ ?_
    simp only [laws_eqNodeS.l0]
    refine ev_pos (by omega) (ev_pos (by omega) (ev_pos (by omega) (ev_bindc (eqNode_self _ _) (ev_pos rfl ?_))))
    rw [w64 (by omega) (by omega)]
    exact ih (i + 1) (by omega)
theorem eqNodeS_ev (a : List S94) (hm : (a.length : Int) ≤ 9223372036854775806) : Ev (fun k => laws_eqNodeS.f k a a) true := by
  simp only [laws_eqNodeS.f]
  exact ev_pos trivial (eqNodeS_l0 a hm a.length 0 (by omega))

/-! #### laws_markNodeS -/
/-- the marks of n nodes -/
def seqN (a : Int) (n : Nat) : List S94 := (List.range n).map fun (j : Nat) => ⟨a + 2 * (j : Int), a + 2 * (j : Int) + 1⟩
theorem seqN_length (a : Int) (n : Nat) : (seqN a n).length = n := by simp [seqN]
theorem seqN_succ (a : Int) (n : Nat) : seqN a (n + 1) = seqN a n ++ [⟨a + 2 * (n : Int), a + 2 * (n : Int) + 1⟩] := by simp [seqN, List.range_succ]
theorem seqN_rd (a : Int) (n i : Nat) (h : i < n) : rd_T94 (seqN a n) i = ⟨a + 2 * (i : Int), a + 2 * (i : Int) + 1⟩ := by simp [rd_T94, seqN, h]
theorem markNodeS_l0 (l : List S94) (a : Int) (h0 : 0 ≤ a) (hm : a + 2 * l.length ≤ 9223372036854775805) : ∀ (d i : Nat), i + d = l.length → Ev (fun k => laws_markNodeS.l0 k (seqN a i ++ l.drop i) (a + 2 * i) i) (a + 2 * l.length, seqN a l.length) := by
  intro d
  induction d with
  | zero =>
    intro i h
    refine ev_succ ?_
    simp only [laws_markNodeS.l0]
    have e : i = l.length := by omega
    subst e
    refine ev_neg (by rw [List.length_append, seqN_length, List.length_drop]; omega) (ev_some ?_)
    rw [List.drop_length, List.append_nil]
  | succ d ih =>
    intro i h
    refine ev_succ ?_
    simp only [laws_markNodeS.l0]
    refine ev_pos (by rw [List.length_append, seqN_length, List.length_drop]; omega) (ev_pos (by omega) ?_)
    simp only [Option.bind_some]
    rw [w64 (x := a + 2 * (i : Int) + 1) (by omega) (by omega), w64 (x := a + 2 * (i : Int) + 1 + 1) (by omega) (by omega), w64 (x := (i : Int) + 1) (by omega) (by omega)]
    have hi : i < l.length := by omega
    have e1 : ∀ x : S94, (seqN a i ++ l.drop i).set ((i : Int)).toNat x = seqN a i ++ x :: l.drop (i + 1) := by
      intro x
      rw [Int.toNat_natCast, List.set_append_right _ _ (by rw [seqN_length]; omega), seqN_length, Nat.sub_self, List.drop_eq_getElem_cons hi, List.set_cons_zero]
    have e2 : ∀ (x y : S94), (seqN a i ++ x :: l.drop (i + 1)).set ((i : Int)).toNat y = seqN a i ++ y :: l.drop (i + 1) := by
      intro x y
      rw [Int.toNat_natCast, List.set_append_right _ _ (by rw [seqN_length]; omega), seqN_length, Nat.sub_self, List.set_cons_zero]
    have e3 : ∀ (x : S94), rd_T94 (seqN a i ++ x :: l.drop (i + 1)) (i : Int) = x := by
      intro x; simp [rd_T94, seqN_length]
    rw [e1, e2, e3]
    have := ih (i + 1) (by omega)
    rw [seqN_succ, List.append_assoc] at this
    have e4 : a + 2 * ((i + 1 : Nat) : Int) = a + 2 * (i : Int) + 1 + 1 := by omega
    rw [e4] at this
    exact this
theorem markNodeS_ev (l : List S94) (a : Int) (h0 : 0 ≤ a) (hm : a + 2 * l.length ≤ 9223372036854775805) : Ev (fun k => laws_markNodeS.f k l a) (a + 2 * l.length, seqN a l.length) := by
  simp only [laws_markNodeS.f]
  have := markNodeS_l0 l a h0 hm l.length 0 (by omega)
  simpa [seqN] using this

/-! #### laws_heldNodeS -/
theorem heldNodeS_l0 (a : Int) (n : Nat) (h0 : 0 ≤ a) (hm : a + 2 * n ≤ 9223372036854775805) : ∀ (d i : Nat), i + d = n → Ev (fun k => laws_heldNodeS.l0 k (seqN a n) (a + 2 * i) i) (a + 2 * n) := by
  intro d
  induction d with
  | zero =>
    intro i h
    refine ev_succ ?_
    simp only [laws_heldNodeS.l0]
    refine ev_neg (by rw [seqN_length]; omega) (ev_some (by omega))
  | succ d ih =>
    intro i h
    refine ev_succ ?_
    simp only [laws_heldNodeS.l0]
    rw [seqN_rd a n i (by omega), w64 (x := a + 2 * (i : Int) + 1) (by omega) (by omega), w64 (x := a + 2 * (i : Int) + 1 + 1) (by omega) (by omega), w64 (x := (i : Int) + 1) (by omega) (by omega)]
    refine ev_pos (by rw [seqN_length]; omega) (ev_pos (by omega) (ev_pos rfl ?_))
    first
      | refine ev_pos rfl ?_
      | (refine ev_pos (by omega) (ev_pos rfl ?_))
      | (refine ev_pos (by rw [seqN_length]; omega) (ev_pos (by omega) (ev_pos rfl ?_)))
    have e4 : a + 2 * (i : Int) + 1 + 1 = a + 2 * ((i + 1 : Nat) : Int) := by omega
    rw [e4]
    exact ih (i + 1) (by omega)
theorem heldNodeS_ev (a : Int) (n : Nat) (h0 : 0 ≤ a) (hm : a + 2 * n ≤ 9223372036854775805) : Ev (fun k => laws_heldNodeS.f k (seqN a n) a) (a + 2 * n) := by
  simp only [laws_heldNodeS.f]
  have := heldNodeS_l0 a n h0 hm n 0 (by omega)
  simpa using this

end Go.Proofs.Ytbogpdgfghpkeab.QFnExactGraft
