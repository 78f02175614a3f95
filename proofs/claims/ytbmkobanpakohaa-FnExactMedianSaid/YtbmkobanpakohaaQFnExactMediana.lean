/- What the printed functions of the law FnExactMedian come to, function by function, from some number of rounds on; each under the bounds that it names. -/
import Derived.Test.YtbmkobanpakohaaMFnExactMedianx
import Derived.Test.YtbmkobanpakohaaMFnExactMedianEvAid
import Derived.Test.YtbmkobanpakohaaTree
import Derived.Test.YtbmkobanpakohaaPaths
import Derived.Test.YtbmkobanpakohaaBounds
import Derived.Test.YtbmkobanpakohaaMFnExactMedianOpens
import Derived.Test.YtbmkobanpakohaaDist
import Derived.Test.YtbmkobanpakohaaPos
import Derived.Test.YtbmkobanpakohaaRank
namespace Go.Proofs.Ytbmkobanpakohaa.QFnExactMedian
open Go.RowKit Go.Proofs.Ytbmkobanpakohaa.PFnExactMedian Go.Proofs.YtbmkobanpakohaaW.PrintWords Go.Proofs.YtbmkobanpakohaaW.PrintLast Go.Proofs.YtbmkobanpakohaaW.PrintMore Go.Proofs.Ytbmkobanpakohaa.EvAid Go.Proofs.Ytbmkobanpakohaa
set_option linter.unusedVariables false
set_option linter.unusedSimpArgs false

/-! #### laws_szNodeS -/
theorem szNodeS_eq (l : List S63) (a : Int) (h0 : 0 ≤ a) (h1 : a ≤ 1048576) (hl : l.length ≤ maxLen) : laws_szNodeS.f l a = some (if a < l.length then -1 else a - l.length) := by
  unfold maxLen at hl
  unfold laws_szNodeS.f
  rw [w64 (x := a - (l.length : Int)) (by omega) (by omega)]
  by_cases h : a < l.length
  · rw [if_pos (by omega), if_pos h]
  · rw [if_neg (by omega), if_neg h]

/-! #### laws_szIntS -/
/-- what is left of a size behind so many -/
def szI (n : Nat) (a : Int) : Int := if a < (n : Int) then -1 else a - (n : Int)
theorem szI_cases (n : Nat) (a : Int) : (szI n a = -1 ∧ a < (n : Int)) ∨ (szI n a = a - (n : Int) ∧ (n : Int) ≤ a) := by
  unfold szI
  by_cases h : a < (n : Int)
  · rw [if_pos h]; exact .inl ⟨rfl, h⟩
  · rw [if_neg h]; exact .inr ⟨rfl, by omega⟩
theorem szIntS_eq (l : List Int) (a : Int) (h0 : 0 ≤ a) (h1 : a ≤ 1048576) (hl : l.length ≤ maxLen) : laws_szIntS.f l a = some (szI l.length a) := by
  unfold maxLen at hl
  unfold laws_szIntS.f szI
  rw [w64 (x := a - (l.length : Int)) (by omega) (by omega)]
  by_cases h : a < (l.length : Int)
  · rw [if_pos (by omega), if_pos h]
  · rw [if_neg (by omega), if_neg h]

/-! #### laws_toNodeS -/
/-- a node of the law's as one of the program's -/
def cvN (x : S63) : S61 := ⟨x.f0, x.f1⟩
theorem toNodeS_l0 (a : List S63) (hm : (a.length : Int) ≤ 9223372036854775806) : ∀ (d i : Nat) (out : List S61), i + d = a.length → out.length = a.length → out.take i = (a.map cvN).take i → Ev (fun k => laws_toNodeS.l0 k a out i) (a.map cvN) := by
  intro d
  induction d with
  | zero =>
    intro i out h hl ht
    refine ev_succ ?_
    simp only [laws_toNodeS.l0]
    refine ev_neg (by omega) (ev_some ?_)
    rw [List.take_of_length_le (by omega), List.take_of_length_le (by rw [List.length_map]; omega)] at ht
    exact ht
  | succ d ih =>
    intro i out h hl ht
    refine ev_succ ?_
    simp only [laws_toNodeS.l0]
    refine ev_pos (by omega) (ev_pos (by omega) (ev_bindc rfl (ev_pos (by omega) ?_)))
    rw [w64 (by omega) (by omega)]
    refine ih (i + 1) _ (by omega) (by rw [List.length_set]; exact hl) ?_
    have e : ((i : Int)).toNat = i := Int.toNat_natCast i
    rw [e]
    have hi : i < a.length := by omega
    have hr : rd_T63 a i = a[i] := by simp [rd_T63, hi]
    rw [List.take_succ_eq_append_getElem (by rw [List.length_set]; omega), List.take_succ_eq_append_getElem (by rw [List.length_map]; omega), List.getElem_set_self, List.take_set_of_le (Nat.le_refl _), ht, List.getElem_map, hr]
    rfl
theorem toNodeS_ev (a : List S63) (hm : a.length ≤ 17592186044416) : Ev (fun k => laws_toNodeS.f k a) (a.map cvN) := by
  simp only [laws_toNodeS.f]
  refine ev_pos (by omega) (ev_pos (by omega) ?_)
  exact toNodeS_l0 a (by omega) a.length 0 _ (by omega) (by rw [List.length_replicate]; omega) rfl

/-! #### laws_toIntS -/
theorem toIntS_l0 (a : List Int) (hm : (a.length : Int) ≤ 9223372036854775806) : ∀ (d i : Nat) (out : List Int), i + d = a.length → out.length = a.length → out.take i = a.take i → Ev (fun k => laws_toIntS.l0 k a out i) a := by
  intro d
  induction d with
  | zero =>
    intro i out h hl ht
    refine ev_succ ?_
    simp only [laws_toIntS.l0]
    refine ev_neg (by omega) (ev_some ?_)
    rw [List.take_of_length_le (by omega), List.take_of_length_le (by omega)] at ht
    exact ht
  | succ d ih =>
    intro i out h hl ht
    refine ev_succ ?_
    simp only [laws_toIntS.l0]
    refine ev_pos (by omega) (ev_pos (by omega) (ev_pos (by omega) ?_))
    rw [w64 (by omega) (by omega)]
    refine ih (i + 1) _ (by omega) (by rw [List.length_set]; exact hl) ?_
    have e : ((i : Int)).toNat = i := Int.toNat_natCast i
    rw [e]
    have hi : i < a.length := by omega
    have hr : rd a i = a[i] := by simp [rd, hi]
    rw [List.take_succ_eq_append_getElem (by rw [List.length_set]; omega), List.take_succ_eq_append_getElem hi, List.getElem_set_self, List.take_set_of_le (Nat.le_refl _), ht, hr]

theorem toIntS_ev (a : List Int) (hm : a.length ≤ 35184372088832) : Ev (fun k => laws_toIntS.f k a) a := by
  simp only [laws_toIntS.f]
  refine ev_pos (by omega) (ev_pos (by omega) ?_)
  exact toIntS_l0 a (by omega) a.length 0 _ (by omega) (by rw [List.length_replicate]; omega) rfl

/-! #### laws_eqNodeS -/
theorem eqNode_self (a b : Int) : laws_eqNode.f a b a b = some true := by unfold laws_eqNode.f; rw [if_pos rfl, if_pos rfl]
theorem eqNodeS_l0 (a : List S61) (hm : (a.length : Int) ≤ 9223372036854775806) : ∀ (d i : Nat), i + d = a.length → Ev (fun k => laws_eqNodeS.l0 k a a i) true := by
  intro d
  induction d with
  | zero =>
    intro i h
    refine ev_succ ?_
    simp only [laws_eqNodeS.l0]
    exact ev_neg (by omega) (Ev.now _)
  | succ d ih =>
    intro i h
    refine ev_succ ?_
    simp only [laws_eqNodeS.l0]
    refine ev_pos (by omega) (ev_pos (by omega) (ev_pos (by omega) (ev_bindc (eqNode_self _ _) (ev_pos rfl ?_))))
    rw [w64 (by omega) (by omega)]
    exact ih (i + 1) (by omega)
theorem eqNodeS_ev (a : List S61) (hm : (a.length : Int) ≤ 9223372036854775806) : Ev (fun k => laws_eqNodeS.f k a a) true := by
  simp only [laws_eqNodeS.f]
  exact ev_pos trivial (eqNodeS_l0 a hm a.length 0 (by omega))

/-! #### laws_eqIntS -/
theorem eqIntS_l0 (a : List Int) (hm : (a.length : Int) ≤ 9223372036854775806) : ∀ (d i : Nat), i + d = a.length → Ev (fun k => laws_eqIntS.l0 k a a i) true := by
  intro d
  induction d with
  | zero =>
    intro i h
    refine ev_succ ?_
    simp only [laws_eqIntS.l0]
    exact ev_neg (by omega) (Ev.now _)
  | succ d ih =>
    intro i h
    refine ev_succ ?_
    simp only [laws_eqIntS.l0]
    refine ev_pos (by omega) (ev_pos (by omega) (ev_pos (by omega) (ev_pos trivial ?_)))
    rw [w64 (by omega) (by omega)]
    exact ih (i + 1) (by omega)

theorem eqIntS_ev (a : List Int) (hm : (a.length : Int) ≤ 9223372036854775806) : Ev (fun k => laws_eqIntS.f k a a) true := by
  simp only [laws_eqIntS.f]
  exact ev_pos trivial (eqIntS_l0 a hm a.length 0 (by omega))

/-! #### spec_l1In -/
theorem l1In_eq (a b c : Int) : spec_l1In.f a b c = some (decide (b ≤ a ∧ a ≤ c)) := by
  unfold spec_l1In.f
  by_cases h : a ≥ b
  · rw [if_pos h]; have h' : b ≤ a := h; simp [h']
  · rw [if_neg h]; have h' : ¬ b ≤ a := h; simp [h']

/-! #### spec_LabelOk -/
theorem spec_LabelOk_eq (a : Int) : spec_LabelOk.f a = some (decide (0 ≤ a ∧ a ≤ 5)) := by
  unfold spec_LabelOk.f; rw [l1In_eq]; rfl

/-! #### _nodes -/
/-- the label and the depth at a place -/
def lbA (l : List S61) (j : Nat) : Int := (l.getD j z61).f0
def dpA (l : List S61) (j : Nat) : Int := (l.getD j z61).f1
theorem rd_f0 (l : List S61) (j : Nat) : (rd_T61 l (j : Int)).f0 = lbA l j := id rfl
theorem rd_f1 (l : List S61) (j : Nat) : (rd_T61 l (j : Int)).f1 = dpA l j := id rfl
/-- a node may stand at its place -/
def okAt (l : List S61) (j : Nat) : Prop := (0 ≤ lbA l j ∧ lbA l j ≤ 5) ∧ (0 ≤ dpA l j ∧ dpA l j ≤ 12) ∧ (if j = 0 then dpA l j = 0 else 1 ≤ dpA l j ∧ dpA l j ≤ dpA l (j - 1) + 1)
instance okAtDec (l : List S61) (j : Nat) : Decidable (okAt l j) := by unfold okAt; infer_instance
/-- the nodes are those of one tree -/
def treeOk (l : List S61) : Bool := decide (1 ≤ l.length ∧ l.length ≤ 24) && decide (∀ j, j < l.length → okAt l j)
theorem treeOk_iff {l : List S61} : treeOk l = true ↔ (1 ≤ l.length ∧ l.length ≤ 24) ∧ ∀ j, j < l.length → okAt l j := by
  simp [treeOk]
theorem treeOk_vd {l : List S61} (h : treeOk l = true) : Tree.Vd l.length (dpA l) := by
  obtain ⟨h1, h2⟩ := treeOk_iff.1 h
  refine ⟨h1.1, ?_, fun j h0 hj => ?_⟩
  · have := (h2 0 h1.1).2.2
    rwa [if_pos rfl] at this
  · have := (h2 j hj).2.2
    rwa [if_neg (by omega)] at this
/-- from place i on all nodes may stand -/
noncomputable def okFrom (l : List S61) (i : Nat) : Bool := cdec (∀ j, i ≤ j → j < l.length → okAt l j)
theorem okFrom_end {l : List S61} {i : Nat} (h : l.length ≤ i) : okFrom l i = true := by
  unfold okFrom
  rw [cdec_iff]
  intro j h1 h2
  omega
theorem okFrom_step {l : List S61} {i : Nat} (h : i < l.length) : okFrom l i = (decide (okAt l i) && okFrom l (i + 1)) := by
  unfold okFrom
  rw [Bool.eq_iff_iff, Bool.and_eq_true, cdec_iff, decide_eq_true_iff, cdec_iff]
  constructor
  · intro a; exact ⟨a i (Nat.le_refl _) h, fun j h1 h2 => a j (by omega) h2⟩
  · rintro ⟨a, b⟩ j h1 h2
    by_cases e : j = i
    · subst e; exact a
    · exact b j (by omega) h2
theorem okFrom_zero (l : List S61) : treeOk l = (decide (1 ≤ l.length ∧ l.length ≤ 24) && okFrom l 0) := by
  unfold treeOk okFrom
  congr 1
  rw [Bool.eq_iff_iff, decide_eq_true_iff, cdec_iff]
  exact ⟨fun h j _ hj => h j hj, fun h j hj => h j (Nat.zero_le _) hj⟩

/-! #### spec_TreeOk -/
theorem spec_TreeOk_l0 (l : List S61) (hm : (l.length : Int) ≤ 9223372036854775806) : ∀ (d i : Nat), i + d = l.length → (0 < i → okAt l (i - 1)) → Ev (fun k => spec_TreeOk.l0 k l (i : Int)) (decide (1 ≤ l.length ∧ l.length ≤ 24) && okFrom l i) := by
  intro d
  induction d with
  | zero =>
    intro i h hp
    refine ev_succ ?_
    simp only [spec_TreeOk.l0]
    refine ev_neg (by omega) (ev_bindc (l1In_eq _ _ _) (ev_some ?_))
    rw [okFrom_end (by omega), Bool.and_true]
    congr 1
    simp only [eq_iff_iff]
    omega
  | succ d ih =>
    intro i h hp
    refine ev_succ ?_
    simp only [spec_TreeOk.l0]
    simp only [rd_f0, rd_f1]
    refine ev_pos (by omega) (ev_pos (by omega) (ev_bindc (spec_LabelOk_eq _) ?_))
    rw [okFrom_step (by omega)]
    simp only [decide_eq_true_eq]
    by_cases h1 : 0 ≤ lbA l i ∧ lbA l i ≤ 5
    · refine ev_pos h1 (ev_bindc (l1In_eq _ _ _) ?_)
      simp only [decide_eq_true_eq]
      by_cases h2 : 0 ≤ dpA l i ∧ dpA l i ≤ 12
      · refine ev_pos h2 ?_
        by_cases h0 : i = 0
        · subst h0
          by_cases h3 : dpA l 0 = 0
          · refine ev_neg (by rw [h3]; decide) (ev_neg (by omega) ?_)
            rw [w64 (by omega) (by omega)]
            have ok : okAt l 0 := ⟨h1, h2, by rw [if_pos rfl]; exact h3⟩
            have := ih 1 (by omega) (fun _ => ok)
            rw [decide_eq_true ok, Bool.true_and]
            exact this
          · refine ev_pos (by
              have e : (dpA l 0 == 0) = false := by rw [beq_eq_false_iff_ne]; exact h3
              simp only [e]; rfl) (ev_some ?_)
            have ok : ¬ okAt l 0 := fun h => h3 (by have := h.2.2; rwa [if_pos rfl] at this)
            rw [decide_eq_false ok, Bool.false_and, Bool.and_false]
        · have ei : ((i : Int) == 0) = false := by rw [beq_eq_false_iff_ne]; omega
          by_cases h3 : dpA l i = 0
          · refine ev_pos (by rw [ei, h3]; decide) (ev_some ?_)
            have ok : ¬ okAt l i := fun h => by have := h.2.2; rw [if_neg h0] at this; omega
            rw [decide_eq_false ok, Bool.false_and, Bool.and_false]
          · have e : (dpA l i == 0) = false := by rw [beq_eq_false_iff_ne]; exact h3
            have hpp := hp (by omega)
            have e1 : (i : Int) - 1 = ((i - 1 : Nat) : Int) := by omega
            have hb := hpp.2.1
            refine ev_neg (by rw [ei, e]; decide) (ev_pos (by omega) ?_)
            rw [w64 (x := (i : Int) - 1) (by omega) (by omega), e1]
            simp only [rd_f1]
            rw [w64 (x := dpA l (i - 1) + 1) (by omega) (by omega)]
            refine ev_pos (by omega) (ev_pos (by omega) ?_)
            by_cases h4 : dpA l i > dpA l (i - 1) + 1
            · refine ev_pos h4 (ev_some ?_)
              have ok : ¬ okAt l i := fun h => by have := h.2.2; rw [if_neg h0] at this; omega
              rw [decide_eq_false ok, Bool.false_and, Bool.and_false]
            · refine ev_neg h4 ?_
              have ok : okAt l i := ⟨h1, h2, by rw [if_neg h0]; omega⟩
              rw [w64 (x := (i : Int) + 1) (by omega) (by omega), decide_eq_true ok, Bool.true_and]
              exact ih (i + 1) (by omega) (fun _ => ok)
      · refine ev_neg h2 (ev_some ?_)
        have ok : ¬ okAt l i := fun h => h2 h.2.1
        rw [decide_eq_false ok, Bool.false_and, Bool.and_false]
    · refine ev_neg h1 (ev_some ?_)
      have ok : ¬ okAt l i := fun h => h1 h.1
      rw [decide_eq_false ok, Bool.false_and, Bool.and_false]
theorem spec_TreeOk_ev (l : List S61) (hm : (l.length : Int) ≤ 9223372036854775806) : Ev (fun k => spec_TreeOk.f k l) (treeOk l) := by
  simp only [spec_TreeOk.f]
  rw [okFrom_zero]
  exact spec_TreeOk_l0 l hm l.length 0 (by omega) (fun h => absurd h (Nat.lt_irrefl 0))

/-! #### _hasB -/
/-- the tree is one, and has a node i -/
def hasB (l : List S61) (i : Int) : Bool := treeOk l && decide (0 ≤ i ∧ i < (l.length : Int))
theorem hasB_iff {l : List S61} {i : Int} : hasB l i = true ↔ treeOk l = true ∧ 0 ≤ i ∧ i < (l.length : Int) := by simp [hasB]
theorem hasB_nat {l : List S61} {i : Int} (h : hasB l i = true) : ∃ j : Nat, i = (j : Int) ∧ j < l.length ∧ treeOk l = true ∧ l.length ≤ 24 ∧ Tree.Vd l.length (dpA l) := by
  obtain ⟨h1, h2, h3⟩ := hasB_iff.1 h
  exact ⟨i.toNat, by omega, by omega, h1, (treeOk_iff.1 h1).1.2, treeOk_vd h1⟩
/-- the end of node i as the program tells it -/
def endI (l : List S61) (i : Int) : Int := if hasB l i = true then (Tree.eo l.length (dpA l) i.toNat : Int) else -1
/-- the kids of node i -/
def kidsI (l : List S61) (i : Int) : List Int := if hasB l i = true then (Tree.kids l.length (dpA l) i.toNat).map Int.ofNat else []
theorem dp_range {l : List S61} (h : treeOk l = true) {j : Nat} (hj : j < l.length) : 0 ≤ dpA l j ∧ dpA l j ≤ 12 := ((treeOk_iff.1 h).2 j hj).2.1
theorem lb_range {l : List S61} (h : treeOk l = true) {j : Nat} (hj : j < l.length) : 0 ≤ lbA l j ∧ lbA l j ≤ 5 := ((treeOk_iff.1 h).2 j hj).1
/-! #### spec_l3At -/
theorem l3At_ev (l : List S61) (i : Int) (hm : (l.length : Int) ≤ 9223372036854775806) : Ev (fun k => spec_l3At.f k l i) (hasB l i) := by
  simp only [spec_l3At.f]
  refine ev_bind (spec_TreeOk_ev l hm) ?_
  unfold hasB
  by_cases h : treeOk l = true
  · refine ev_pos h ?_
    rw [h, w64 (x := (l.length : Int) - 1) (by omega) (by omega)]
    refine ev_bindc (l1In_eq _ _ _) (ev_some ?_)
    rw [Bool.true_and]
    congr 1
    simp only [eq_iff_iff]
    omega
  · refine ev_neg h (ev_some ?_)
    have : treeOk l = false := by simpa using h
    rw [this, Bool.false_and]

/-! #### spec_EndOf -/
theorem spec_EndOf_l0 (l : List S61) (i : Nat) (hi : i < l.length) (hm : l.length ≤ 24) : ∀ (f j : Nat), l.length ≤ j + f → i < j → Ev (fun k => spec_EndOf.l0 k l (i : Int) (j : Int)) (Tree.eoFrom l.length (dpA l) (dpA l i) f j : Int) := by
  intro f
  induction f with
  | zero =>
    intro j h h1
    refine ev_succ ?_
    simp only [spec_EndOf.l0]
    exact ev_neg (by omega) (Ev.now _)
  | succ f ih =>
    intro j h h1
    refine ev_succ ?_
    simp only [spec_EndOf.l0]
    simp only [rd_f1]
    rw [Tree.eoFrom]
    by_cases h2 : j < l.length
    · refine ev_pos (by omega) (ev_pos (by omega) (ev_pos (by omega) (ev_pos (by omega) ?_)))
      by_cases h3 : dpA l j > dpA l i
      · refine ev_pos h3 ?_
        rw [if_pos ⟨h2, h3⟩, w64 (by omega) (by omega)]
        exact ih (j + 1) (by omega) (by omega)
      · refine ev_neg h3 (ev_some ?_)
        rw [if_neg (by omega)]
    · refine ev_neg (by omega) (ev_some ?_)
      rw [if_neg (by omega)]
theorem spec_EndOf_ev (l : List S61) (i : Int) (hm : (l.length : Int) ≤ 9223372036854775806) : Ev (fun k => spec_EndOf.f k l i) (endI l i) := by
  simp only [spec_EndOf.f]
  refine ev_bind (l3At_ev l i hm) ?_
  unfold endI
  by_cases h : hasB l i = true
  · obtain ⟨j, rfl, hj, h1, h2, hv⟩ := hasB_nat h
    refine ev_pos h ?_
    rw [if_pos h, w64 (by omega) (by omega)]
    exact spec_EndOf_l0 l j hj h2 (l.length - (j + 1)) (j + 1) (by omega) (by omega)
  · refine ev_neg h ?_
    rw [if_neg h]
    exact Ev.now _

/-! #### _kidsTo -/
/-- the kids up to place j -/
def kidsTo (l : List S61) (i j : Nat) : List Int := ((List.range' (i + 1) (j - (i + 1))).filter fun k => decide (dpA l k = dpA l i + 1)).map Int.ofNat
theorem kidsTo_step (l : List S61) (i j : Nat) (h : i < j) : kidsTo l i (j + 1) = kidsTo l i j ++ (if dpA l j = dpA l i + 1 then [(j : Int)] else []) := by
  unfold kidsTo
  have e : j + 1 - (i + 1) = (j - (i + 1)) + 1 := by omega
  have e2 : i + 1 + 1 * (j - (i + 1)) = j := by omega
  rw [e, List.range'_concat, List.filter_append, List.map_append, e2]
  congr 1
  by_cases hd : dpA l j = dpA l i + 1
  · rw [if_pos hd]; simp [hd]
  · rw [if_neg hd]; simp [hd]
theorem kidsTo_length (l : List S61) (i j : Nat) : (kidsTo l i j).length ≤ j := by
  unfold kidsTo
  rw [List.length_map]
  have := List.length_filter_le (fun k => decide (dpA l k = dpA l i + 1)) (List.range' (i + 1) (j - (i + 1)))
  rw [List.length_range'] at this
  omega
theorem kidsI_nat {l : List S61} {i : Nat} (h : hasB l (i : Int) = true) : kidsI l (i : Int) = (Tree.kids l.length (dpA l) i).map Int.ofNat := by unfold kidsI; rw [if_pos h]; rfl

/-! #### spec_KidsOf -/
theorem spec_KidsOf_l0 (l : List S61) (i : Nat) (hh : hasB l (i : Int) = true) (hi : i < l.length) (hm : l.length ≤ 24) (ht : treeOk l = true) : ∀ (d j : Nat), j + d = Tree.eo l.length (dpA l) i → i < j →
    Ev (fun k => spec_KidsOf.l0 k l (i : Int) (kidsTo l i j) (j : Int)) (kidsTo l i (Tree.eo l.length (dpA l) i)) := by
  have he := Tree.eo_le (D := dpA l) hi
  have hE : endI l (i : Int) = (Tree.eo l.length (dpA l) i : Int) := by unfold endI; rw [if_pos hh]; rfl
  intro d
  induction d with
  | zero =>
    intro j h hj
    refine ev_succ ?_
    simp only [spec_KidsOf.l0]
    refine ev_bind (l3At_ev l i (by omega)) (ev_pos hh (ev_bind (spec_EndOf_ev l i (by omega)) (ev_succ ?_)))
    simp only [spec_KidsOf.j1]
    rw [hE]
    refine ev_neg (by simp; omega) (ev_some ?_)
    have : j = Tree.eo l.length (dpA l) i := by omega
    rw [this]
  | succ d ih =>
    intro j h hj
    refine ev_succ ?_
    simp only [spec_KidsOf.l0]
    have d2 := dp_range ht hi
    have hk := kidsTo_length l i j
    refine ev_bind (l3At_ev l i (by omega)) (ev_pos hh (ev_bind (spec_EndOf_ev l i (by omega)) (ev_succ ?_)))
    simp only [spec_KidsOf.j1]
    simp only [rd_f1]
    rw [hE]
    refine ev_pos (by simp; omega) (ev_pos (by omega) (ev_pos (by omega) (ev_pos (by omega) (ev_pos (by omega) ?_))))
    rw [w64 (x := dpA l i + 1) (by omega) (by omega), w64 (x := (j : Int) + 1) (by omega) (by omega)]
    have := ih (j + 1) (by omega) (by omega)
    rw [kidsTo_step l i j hj] at this
    by_cases hd : dpA l j = dpA l i + 1
    · rw [if_pos hd] at this
      exact ev_pos hd (ev_pos (by omega) this)
    · rw [if_neg hd, List.append_nil] at this
      exact ev_neg hd this
theorem spec_KidsOf_ev (l : List S61) (i : Int) (hm : (l.length : Int) ≤ 9223372036854775806) : Ev (fun k => spec_KidsOf.f k l i) (kidsI l i) := by
  simp only [spec_KidsOf.f]
  by_cases h : hasB l i = true
  · obtain ⟨j, rfl, hj, h1, h2, hv⟩ := hasB_nat h
    have g := @Tree.eo_gt l.length (dpA l) j
    rw [w64 (by omega) (by omega), kidsI_nat h]
    have := spec_KidsOf_l0 l j h hj h2 h1 (Tree.eo l.length (dpA l) j - (j + 1)) (j + 1) (by omega) (by omega)
    have e : kidsTo l j (j + 1) = [] := by unfold kidsTo; rw [Nat.sub_self]; rfl
    rw [e] at this
    exact this
  · refine ev_succ ?_
    simp only [spec_KidsOf.l0]
    refine ev_bind (l3At_ev l i hm) (ev_neg h (ev_succ ?_))
    simp only [spec_KidsOf.j1]
    refine ev_neg (by decide) (ev_some ?_)
    unfold kidsI
    rw [if_neg h]

/-! #### impl_within -/
theorem within_eq (a b c : Int) : impl_within.f a b c = some (decide (b ≤ a ∧ a ≤ c)) := by
  unfold impl_within.f
  by_cases h : b ≤ a
  · rw [if_pos h]; simp [h]
  · rw [if_neg h]; simp [h]

/-! #### impl_LabelOk -/
theorem LabelOk_eq (a : Int) : impl_LabelOk.f a = some (decide (0 ≤ a ∧ a ≤ 5)) := by
  unfold impl_LabelOk.f; rw [within_eq]; rfl

/-! #### impl_TreeOk -/
theorem depthOk_eq (l : List S61) (i : Nat) (hi : i < l.length) (hl : l.length ≤ 24) (hp : 0 < i → 0 ≤ dpA l (i - 1) ∧ dpA l (i - 1) ≤ 12) : impl_depthOk.f l (i : Int) = some (decide (if i = 0 then dpA l i = 0 else 1 ≤ dpA l i ∧ dpA l i ≤ dpA l (i - 1) + 1)) := by
  unfold impl_depthOk.f
  by_cases h0 : i = 0
  · subst h0
    conv => lhs; rw [if_pos (show ((0 : Nat) : Int) = 0 from rfl), if_pos (by omega)]
    congr 1
  · have e1 : (i : Int) - 1 = ((i - 1 : Nat) : Int) := by omega
    have hb := hp (by omega)
    conv => lhs; rw [if_neg (by omega), if_pos (by omega), if_pos (by omega), w64 (x := (i : Int) - 1) (by omega) (by omega), e1, if_pos (by omega), if_pos (by omega), rd_f1, rd_f1, w64 (x := dpA l (i - 1) + 1) (by omega) (by omega), within_eq]
    simp only [h0, if_false, Option.bind_some]
theorem impl_TreeOk_l0 (l : List S61) (hl : l.length ≤ 24) : ∀ (d i : Nat), i + d = l.length → (0 < i → okAt l (i - 1)) → Ev (fun k => impl_TreeOk.l0 k l l (l.length : Int) (i : Int)) (okFrom l i) := by
  intro d
  induction d with
  | zero =>
    intro i h hp
    refine ev_succ ?_
    simp only [impl_TreeOk.l0]
    refine ev_neg (by omega) (ev_some ?_)
    rw [okFrom_end (by omega)]
  | succ d ih =>
    intro i h hp
    refine ev_succ ?_
    simp only [impl_TreeOk.l0]
    simp only [rd_f0, rd_f1]
    rw [okFrom_step (by omega)]
    refine ev_pos (by omega) (ev_pos (by omega) (ev_pos (by omega) (ev_bindc (LabelOk_eq _) ?_)))
    simp only [decide_eq_true_eq]
    by_cases h1 : 0 ≤ lbA l i ∧ lbA l i ≤ 5
    · refine ev_pos h1 (ev_bindc (within_eq _ _ _) ?_)
      simp only [decide_eq_true_eq]
      by_cases h2 : 0 ≤ dpA l i ∧ dpA l i ≤ 12
      · refine ev_pos h2 (ev_bindc (depthOk_eq l i (by omega) hl (fun h0 => (hp h0).2.1)) ?_)
        simp only [decide_eq_true_eq]
        by_cases h3 : (if i = 0 then dpA l i = 0 else 1 ≤ dpA l i ∧ dpA l i ≤ dpA l (i - 1) + 1)
        · refine ev_pos h3 ?_
          have ok : okAt l i := ⟨h1, h2, h3⟩
          rw [w64 (x := (i : Int) + 1) (by omega) (by omega), decide_eq_true ok, Bool.true_and]
          exact ih (i + 1) (by omega) (fun _ => ok)
        · refine ev_neg h3 (ev_some ?_)
          have ok : ¬ okAt l i := fun h => h3 h.2.2
          rw [decide_eq_false ok, Bool.false_and]
      · refine ev_neg h2 (ev_some ?_)
        have ok : ¬ okAt l i := fun h => h2 h.2.1
        rw [decide_eq_false ok, Bool.false_and]
    · refine ev_neg h1 (ev_some ?_)
      have ok : ¬ okAt l i := fun h => h1 h.1
      rw [decide_eq_false ok, Bool.false_and]
theorem impl_TreeOk_ev (l : List S61) : Ev (fun k => impl_TreeOk.f k l) (treeOk l) := by
  simp only [impl_TreeOk.f]
  refine ev_bindc (within_eq _ _ _) ?_
  simp only [decide_eq_true_eq]
  rw [okFrom_zero]
  by_cases h : 1 ≤ l.length ∧ l.length ≤ 24
  · refine ev_pos (by omega) ?_
    rw [decide_eq_true h, Bool.true_and]
    exact impl_TreeOk_l0 l h.2 l.length 0 (by omega) (fun h => absurd h (Nat.lt_irrefl 0))
  · refine ev_neg (by omega) (ev_some ?_)
    rw [decide_eq_false h, Bool.false_and]

/-! #### _allDrop -/
theorem all_drop {α : Type} (l : List α) (f : α → Bool) (i : Nat) (h : i < l.length) : (l.drop i).all f = (f l[i] && (l.drop (i + 1)).all f) := by
  rw [List.drop_eq_getElem_cons h, List.all_cons]

/-! #### _pricesIdx -/
/-- a price is in range -/
def inPrice (x : Int) : Bool := decide (0 ≤ x ∧ x ≤ 1000)
theorem priceLit_eq (x : Int) : impl_pricesOk_lit1.f x = some (!inPrice x) := by
  unfold impl_pricesOk_lit1.f
  rw [within_eq]
  rfl
theorem idxPrice_l0 (p : List Int) (hp : (p.length : Int) ≤ 1099511627776) : ∀ (d i : Nat), i + d = p.length → ∃ r : Int, Ev (fun k => slices_IndexFunc_int_int.l0 k p (p.length : Int) (i : Int)) r ∧ decide (r ≥ 0) = !(p.drop i).all inPrice := by
  intro d
  induction d with
  | zero =>
    intro i h
    refine ⟨-1, ev_succ ?_, ?_⟩
    · simp only [slices_IndexFunc_int_int.l0]
      exact ev_neg (by omega) (Ev.now _)
    · rw [List.drop_eq_nil_of_le (by omega)]; rfl
  | succ d ih =>
    intro i h
    have hi : i < p.length := by omega
    have e : rd p (i : Int) = p[i] := by simp [rd, hi]
    rw [all_drop p inPrice i hi]
    by_cases c : inPrice p[i] = true
    · obtain ⟨r, hr, hd⟩ := ih (i + 1) (by omega)
      refine ⟨r, ev_succ ?_, by rw [c, Bool.true_and]; exact hd⟩
      simp only [slices_IndexFunc_int_int.l0]
      refine ev_pos (by omega) (ev_pos (by omega) (ev_pos (by omega) (ev_bindc (priceLit_eq _) ?_)))
      rw [e, c, w64 (x := (i : Int) + 1) (by omega) (by omega)]
      exact ev_neg (by decide) hr
    · have c' : inPrice p[i] = false := by simpa using c
      refine ⟨(i : Int), ev_succ ?_, by rw [c', Bool.false_and]; simp⟩
      simp only [slices_IndexFunc_int_int.l0]
      refine ev_pos (by omega) (ev_pos (by omega) (ev_pos (by omega) (ev_bindc (priceLit_eq _) ?_)))
      rw [e, c']
      exact ev_pos rfl (Ev.now _)
theorem containsPrice_ev (p : List Int) (hp : (p.length : Int) ≤ 1099511627776) : Ev (fun k => slices_ContainsFunc_int_int.f k p) (!p.all inPrice) := by
  obtain ⟨r, hr, hd⟩ := idxPrice_l0 p hp p.length 0 (by omega)
  rw [List.drop_zero] at hd
  simp only [slices_ContainsFunc_int_int.f, slices_IndexFunc_int_int.f]
  exact ev_bind hr (ev_some hd)

/-! #### impl_pricesOk -/
theorem pricesOk_ev (p : List Int) (hp : (p.length : Int) ≤ 1099511627776) (n : Int) : Ev (fun k => impl_pricesOk.f k p n) (decide ((p.length : Int) = n) && p.all inPrice) := by
  simp only [impl_pricesOk.f]
  by_cases h : (p.length : Int) = n
  · refine ev_pos h (ev_bind (containsPrice_ev p hp) (ev_some ?_))
    rw [decide_eq_true h, Bool.not_not, Bool.true_and]
  · refine ev_neg h (ev_some ?_)
    rw [decide_eq_false h, Bool.false_and]

/-! #### _unit -/
/-! #### impl_CostOk -/
/-! #### impl_endOf -/
theorem endOf_l0 (l : List S61) (i : Nat) (hi : i < l.length) (hm : l.length ≤ 24) : ∀ (f j : Nat), l.length ≤ j + f → i < j → Ev (fun k => impl_endOf.l0 k l (i : Int) (j : Int)) (Tree.eoFrom l.length (dpA l) (dpA l i) f j : Int) := by
  intro f
  induction f with
  | zero =>
    intro j h h1
    refine ev_succ ?_
    simp only [impl_endOf.l0]
    exact ev_neg (by omega) (Ev.now _)
  | succ f ih =>
    intro j h h1
    refine ev_succ ?_
    simp only [impl_endOf.l0]
    simp only [rd_f1]
    rw [Tree.eoFrom]
    by_cases h2 : j < l.length
    · refine ev_pos (by omega) (ev_pos (by omega) (ev_pos (by omega) (ev_pos (by omega) ?_)))
      by_cases h3 : dpA l j > dpA l i
      · refine ev_pos h3 ?_
        rw [if_pos ⟨h2, h3⟩, w64 (by omega) (by omega)]
        exact ih (j + 1) (by omega) (by omega)
      · refine ev_neg h3 (ev_some ?_)
        rw [if_neg (by omega)]
    · refine ev_neg (by omega) (ev_some ?_)
      rw [if_neg (by omega)]
theorem endOf_ev (l : List S61) (i : Nat) (hi : i < l.length) (hm : l.length ≤ 24) : Ev (fun k => impl_endOf.f k l (i : Int)) (Tree.eo l.length (dpA l) i : Int) := by
  simp only [impl_endOf.f]
  rw [w64 (by omega) (by omega)]
  exact endOf_l0 l i hi hm (l.length - (i + 1)) (i + 1) (by omega) (by omega)

/-! #### impl_RelCost -/
/-! #### _forestD -/
theorem mn_min (a b : Int) : mn a b = min a b := by
  unfold mn
  by_cases h : b < a
  · rw [if_pos h]; omega
  · rw [if_neg h]; omega
/-- costs in range -/
structure CostR (C : Dist.Costs) : Prop where
  del : ∀ x, 0 ≤ C.del x ∧ C.del x ≤ 1000
  ins : ∀ x, 0 ≤ C.ins x ∧ C.ins x ≤ 1000
  rel : ∀ x y, 0 ≤ C.rel x y ∧ C.rel x y ≤ 1000
theorem dist_range {C : Dist.Costs} (hC : CostR C) {A B : Dist.PT} (hA : A.n ≤ 24) (hB : B.n ≤ 24) {i j k m : Nat} (hj : j ≤ A.n) (hm : m ≤ B.n) : 0 ≤ Dist.dist C (A.fo i j) (B.fo k m) ∧ Dist.dist C (A.fo i j) (B.fo k m) ≤ 48000 := by
  have sz : ∀ (T : Dist.PT) (a b : Nat), b ≤ T.n → Dist.Fo.size (T.fo a b) ≤ T.n := by
    intro T a b hb
    by_cases h : a ≤ b
    · rw [Dist.PT.size_fo T b a h hb]; omega
    · rw [Dist.PT.fo_nil T (by omega)]; simp [Dist.Fo.size]
  have h1 := sz A i j hj
  have h2 := sz B k m hm
  have h3 := Dist.dist_nonneg C (fun x => (hC.del x).1) (fun x => (hC.ins x).1) (fun x y => (hC.rel x y).1) _ (A.fo i j) (B.fo k m) (Nat.le_refl _)
  have h4 := Dist.dist_le C 1000 (by decide) (fun x => (hC.del x).2) (fun x => (hC.ins x).2) _ (A.fo i j) (B.fo k m) (Nat.le_refl _)
  omega
/-- a row by its places -/
def RowIs (xs : List Int) (n : Nat) (f : Nat → Int) : Prop := xs.length = n ∧ ∀ k, k < n → rd xs (k : Int) = f k
structure MeasIs (C : Dist.Costs) (A B : Dist.PT) (la lb del ins : List Int) (rel : List (List Int)) : Prop where
  la : RowIs la A.n (fun k => (A.la k : Int))
  lb : RowIs lb B.n (fun k => (B.la k : Int))
  del : RowIs del A.n (fun k => C.del (A.lab k))
  ins : RowIs ins B.n (fun k => C.ins (B.lab k))
  relLen : rel.length = A.n
  rel : ∀ p, p < A.n → RowIs (row4 rel (p : Int)) B.n (fun q => C.rel (A.lab p) (B.lab q))
theorem mx4_max (a b : Nat) : mx4 (a : Int) (b : Int) = ((max a b : Nat) : Int) := by
  unfold mx4
  by_cases h : (a : Int) < (b : Int)
  · rw [if_pos h]; omega
  · rw [if_neg h]; omega
theorem wpred (j : Nat) (h : j ≤ 24) : wrap64 (((j + 1 : Nat) : Int) - 1) = (j : Int) := by rw [w64 (by omega) (by omega)]; omega
theorem forest_ev {C : Dist.Costs} (hC : CostR C) {A B : Dist.PT} (hA : A.n ≤ 24) (hB : B.n ≤ 24) {la lb del ins : List Int} {rel : List (List Int)} (hM : MeasIs C A B la lb del ins rel) :
    ∀ (N i j k m : Nat), (j - i) + (m - k) ≤ N → i ≤ j → j ≤ A.n → k ≤ m → m ≤ B.n → Ev (fun f => impl_forest.f la lb del ins rel f (i : Int) (j : Int) (k : Int) (m : Int)) (Dist.dist C (A.fo i j) (B.fo k m)) := by
  intro N
  induction N with
  | zero =>
    intro i j k m h hij hj hkm hm
    refine ev_succ ?_
    simp only [impl_forest.f]
    refine ev_pos (by omega) (ev_pos (by omega) (ev_some ?_))
    rw [Dist.PT.fo_nil A (by omega), Dist.PT.fo_nil B (by omega), Dist.dist_nn]
  | succ N ih =>
    intro i j k m h hij hj hkm hm
    by_cases e1 : i = j
    · by_cases e2 : k = m
      · refine ev_succ ?_
        simp only [impl_forest.f]
        refine ev_pos (by omega) (ev_pos (by omega) (ev_some ?_))
        rw [Dist.PT.fo_nil A (by omega), Dist.PT.fo_nil B (by omega), Dist.dist_nn]
      · obtain ⟨m, rfl⟩ : ∃ m', m = m' + 1 := ⟨m - 1, by omega⟩
        subst e1
        have h1 := ih i i k m (by omega) (Nat.le_refl _) hj (by omega) (by omega)
        have h2 := hM.ins.2 m (by omega)
        have h3 := hM.ins.1
        have h4 := dist_range hC hA hB (i := i) (k := k) hj (show m ≤ B.n by omega)
        have h5 := hC.ins (B.lab m)
        refine ev_succ ?_
        simp only [impl_forest.f]
        rw [wpred m (by omega), h2]
        refine ev_pos (by simp) (ev_neg (by omega) (ev_pos (by omega) (ev_bind h1 (ev_some ?_))))
        dsimp only
        rw [w64 (by omega) (by omega), Dist.PT.d_ins C A B (by omega) (by omega)]
    · obtain ⟨j, rfl⟩ : ∃ j', j = j' + 1 := ⟨j - 1, by omega⟩
      by_cases e2 : k = m
      · subst e2
        have h1 := ih i j k k (by omega) (by omega) (by omega) (Nat.le_refl _) hm
        have h2 := hM.del.2 j (by omega)
        have h3 := hM.del.1
        have h4 := dist_range hC hA hB (i := i) (k := k) (show j ≤ A.n by omega) hm
        have h5 := hC.del (A.lab j)
        refine ev_succ ?_
        simp only [impl_forest.f]
        rw [wpred j (by omega), h2]
        refine ev_neg (by omega) (ev_pos (by simp) (ev_pos (by omega) (ev_bind h1 (ev_some ?_))))
        dsimp only
        rw [w64 (by omega) (by omega), Dist.PT.d_del C A B (by omega) (by omega)]
      · obtain ⟨m, rfl⟩ : ∃ m', m = m' + 1 := ⟨m - 1, by omega⟩
        have lA := A.le j (by omega)
        have lB := B.le m (by omega)
        have h1 := ih i j k (m + 1) (by omega) (by omega) (by omega) hkm hm
        have h2 := ih i (j + 1) k m (by omega) hij hj (by omega) (by omega)
        have h3 := ih (max i (A.la j)) j (max k (B.la m)) m (by omega) (by omega) (by omega) (by omega) (by omega)
        have h4 := ih i (max i (A.la j)) k (max k (B.la m)) (by omega) (by omega) (by omega) (by omega) (by omega)
        have b1 := dist_range hC hA hB (i := i) (k := k) (show j ≤ A.n by omega) hm
        have b2 := dist_range hC hA hB (i := i) (k := k) hj (show m ≤ B.n by omega)
        have b3 := dist_range hC hA hB (i := max i (A.la j)) (k := max k (B.la m)) (show j ≤ A.n by omega) (show m ≤ B.n by omega)
        have b4 := dist_range hC hA hB (i := i) (k := k) (show max i (A.la j) ≤ A.n by omega) (show max k (B.la m) ≤ B.n by omega)
        have d1 := hM.del.2 j (by omega)
        have d2 := hM.ins.2 m (by omega)
        have d3 := (hM.rel j (by omega)).2 m (by omega)
        have d4 := hM.la.2 j (by omega)
        have d5 := hM.lb.2 m (by omega)
        have g1 := hM.del.1
        have g2 := hM.ins.1
        have g3 := (hM.rel j (by omega)).1
        have g4 := hM.la.1
        have g5 := hM.lb.1
        have g6 := hM.relLen
        have c1 := hC.del (A.lab j)
        have c2 := hC.ins (B.lab m)
        have c3 := hC.rel (A.lab j) (B.lab m)
        refine ev_succ ?_
        simp only [impl_forest.f]
        rw [wpred j (by omega), wpred m (by omega), d1, d2, d3, d4, d5, mx4_max, mx4_max]
        refine ev_neg (by omega) (ev_neg (by omega) (ev_pos ⟨by omega, by omega⟩ (ev_bind h1 (ev_bind h2 (ev_bind h3 (ev_bind h4 (ev_some ?_)))))))
        dsimp only
        rw [Dist.PT.d_step C A B (by omega) (by omega) (by omega) (by omega), mn_min, mn_min, w64 (x := _ + C.del (A.lab j)) (by omega) (by omega), w64 (x := _ + C.ins (B.lab m)) (by omega) (by omega), w64 (x := Dist.dist C (A.fo (max i (A.la j)) j) (B.fo (max k (B.la m)) m) + Dist.dist C (A.fo i (max i (A.la j))) (B.fo k (max k (B.la m)))) (by omega) (by omega), w64 (by omega) (by omega)]

/-! #### _pol -/
/-- the nodes of a tree, each behind what is under it -/
def pol (l : List S61) : List Nat := Tree.post l.length (dpA l) l.length 0
def postI (l : List S61) : List Int := if treeOk l = true then (pol l).map Int.ofNat else []
theorem pol_order {l : List S61} (h : treeOk l = true) : Tree.Order l.length (dpA l) (pol l) := Tree.post_order (treeOk_vd h)
theorem pol_len {l : List S61} (h : treeOk l = true) : (pol l).length = l.length := (pol_order h).len
theorem postI_ok {l : List S61} (h : treeOk l = true) : postI l = (pol l).map Int.ofNat := if_pos h
theorem postI_len {l : List S61} (h : treeOk l = true) : (postI l).length = l.length := by rw [postI_ok h, List.length_map, pol_len h]
theorem rd_ofNat (p : List Nat) (k : Nat) : rd (p.map Int.ofNat) (k : Int) = ((p.getD k 0 : Nat) : Int) := by
  show (p.map Int.ofNat).getD (k : Int).toNat _ = _
  rw [Int.toNat_natCast, List.getD_eq_getElem?_getD, List.getD_eq_getElem?_getD, List.getElem?_map]
  cases p[k]? <;> rfl
theorem l6P_loop (l : List S61) (i : Nat) (g : Nat → List Nat) (K : List Nat) (hKl : K.length ≤ 24) (hb : (K.flatMap g).length ≤ 24) (hk : ∀ c ∈ K, Ev (fun k => spec_l6Post.f k l (c : Int)) ((g c).map Int.ofNat)) :
    ∀ (rest done : List Nat), K = done ++ rest → Ev (fun k => spec_l6Post.l0 k l (i : Int) ((done.flatMap g).map Int.ofNat) (K.map Int.ofNat) (done.length : Int)) ((K.flatMap g ++ [i]).map Int.ofNat) := by
  intro rest
  induction rest with
  | nil =>
    intro done hK
    have hl : (K.map Int.ofNat).length = done.length := by rw [hK, List.append_nil, List.length_map]
    have hd : done = K := by rw [hK, List.append_nil]
    refine ev_succ ?_
    simp only [spec_l6Post.l0]
    refine ev_neg (by omega) (ev_pos (by rw [List.length_map, hd]; omega) (ev_some ?_))
    rw [List.map_append, hd]
    rfl
  | cons c rest ih =>
    intro done hK
    have h1 := hk c (by rw [hK]; simp)
    have h2 : (done.flatMap g).length + (g c).length ≤ 24 := by
      rw [hK, List.flatMap_append, List.flatMap_cons, List.length_append, List.length_append] at hb
      omega
    have h3 := ih (done ++ [c]) (by rw [hK]; simp)
    have hl : (K.map Int.ofNat).length = done.length + (rest.length + 1) := by rw [hK, List.length_map, List.length_append, List.length_cons]
    have hl2 : K.length = done.length + (rest.length + 1) := by rw [hK, List.length_append, List.length_cons]
    have hget : rd (K.map Int.ofNat) (done.length : Int) = (c : Int) := by
      rw [rd_ofNat, hK, List.getD_eq_getElem?_getD, List.getElem?_append_right (Nat.le_refl _), Nat.sub_self]
      rfl
    refine ev_succ ?_
    simp only [spec_l6Post.l0]
    rw [hget]
    have e0 : wrap64 ((done.length : Int) + 1) = ((done ++ [c]).length : Int) := by rw [w64 (by omega) (by omega), List.length_append, List.length_singleton]; omega
    rw [e0]
    clear e0
    have e1 : ((done ++ [c]).flatMap g).map Int.ofNat = (done.flatMap g).map Int.ofNat ++ (g c).map Int.ofNat := by rw [List.flatMap_append, List.map_append, List.flatMap_cons, List.flatMap_nil, List.append_nil]
    rw [e1] at h3
    refine ev_pos (by omega) (ev_pos (by omega) (ev_bind h1 (ev_pos (by rw [List.length_map, List.length_map]; omega) h3)))
theorem l6Post_ev (l : List S61) (ht : treeOk l = true) : ∀ (f i : Nat), i < l.length → l.length - i ≤ f → Ev (fun k => spec_l6Post.f k l (i : Int)) ((Tree.post l.length (dpA l) f i).map Int.ofNat) := by
  have hv := treeOk_vd ht
  have h24 := (treeOk_iff.1 ht).1.2
  intro f
  induction f with
  | zero => intro i hi hf; omega
  | succ f ih =>
    intro i hi hf
    have hh : hasB l (i : Int) = true := hasB_iff.2 ⟨ht, by omega, by omega⟩
    have he := Tree.eo_le (D := dpA l) hi
    have hlen := Tree.kids_length (n := l.length) (D := dpA l) (i := i)
    have hk : ∀ c ∈ Tree.kids l.length (dpA l) i, i < c ∧ c < l.length := fun c hc => by
      obtain ⟨a, b, _⟩ := Tree.mem_kids.1 hc
      exact ⟨a, by omega⟩
    have hb := congrArg List.length (Tree.kids_post hv hi (Tree.post l.length (dpA l) f) (fun c hc => Tree.post_rnk hv f c (hk c hc).2 (by have := (hk c hc).1; omega)))
    rw [List.length_map, List.length_range'] at hb
    have h1 := l6P_loop l i (Tree.post l.length (dpA l) f) (Tree.kids l.length (dpA l) i) (by omega) (by omega) (fun c hc => ih c (hk c hc).2 (by have := (hk c hc).1; omega)) _ [] rfl
    refine ev_succ ?_
    simp only [spec_l6Post.f]
    have hko := spec_KidsOf_ev l (i : Int) (by omega)
    rw [kidsI_nat hh] at hko
    exact ev_bind hko h1
theorem spec_PostOrder_ev (l : List S61) (hm : (l.length : Int) ≤ 9223372036854775806) : Ev (fun k => spec_PostOrder.f k l) (postI l) := by
  simp only [spec_PostOrder.f]
  by_cases ht : treeOk l = true
  · rw [postI_ok ht]
    have h1 := (treeOk_iff.1 ht).1
    exact ev_bind (spec_TreeOk_ev l hm) (ev_pos ht (ev_bind (l6Post_ev l ht l.length 0 (by omega) (by omega)) (Ev.now _)))
  · exact ev_bind (spec_TreeOk_ev l hm) (ev_neg ht (ev_some (by unfold postI; rw [if_neg ht])))
/-- what the order tells of two nodes -/
def litV (l : List S61) (x y : Nat) : Int := if Tree.rnk l.length (dpA l) x < Tree.rnk l.length (dpA l) y then -1 else if x = y then 0 else 1
theorem lit_ev (l : List S61) (ht : treeOk l = true) (x y : Nat) (hx : x < l.length) (hy : y < l.length) : Ev (fun k => impl_PostOrder_lit1.f k (x : Int) (y : Int) l) (litV l x y) := by
  have hv := treeOk_vd ht
  have h24 := (treeOk_iff.1 ht).1.2
  have ex := endOf_ev l x hx h24
  have ey := endOf_ev l y hy h24
  have hw : ∀ v : Int, litV l x y = v → Ev (fun k => impl_PostOrder_lit1.f k (x : Int) (y : Int) l) v → Ev (fun k => impl_PostOrder_lit1.f k (x : Int) (y : Int) l) (litV l x y) := fun v e h => by rw [e]; exact h
  by_cases h1 : x < y
  · by_cases h2 : y < Tree.eo l.length (dpA l) x
    · have := Tree.rnk_under hv hx h1 h2
      refine hw 1 (by unfold litV; rw [if_neg (by omega), if_neg (by omega)]) ?_
      simp only [impl_PostOrder_lit1.f]
      refine ev_pos (by omega) (ev_bind ex (ev_pos (by omega) (ev_succ ?_)))
      simp only [impl_PostOrder_lit1.j0]
      exact ev_pos (by simp) (Ev.now _)
    · have := Tree.rnk_left hv hy (show Tree.eo l.length (dpA l) x ≤ y by omega)
      have := Tree.lft_rnk hv hy
      refine hw (-1) (by unfold litV; rw [if_pos (by omega)]) ?_
      simp only [impl_PostOrder_lit1.f]
      refine ev_pos (by omega) (ev_bind ex (ev_neg (by omega) (ev_neg (by omega) (ev_succ ?_))))
      simp only [impl_PostOrder_lit1.j0]
      exact ev_neg (by decide) (ev_neg (by omega) (Ev.now _))
  · by_cases h2 : y < x
    · by_cases h3 : x < Tree.eo l.length (dpA l) y
      · have := Tree.rnk_under hv hy h2 h3
        refine hw (-1) (by unfold litV; rw [if_pos (by omega)]) ?_
        simp only [impl_PostOrder_lit1.f]
        refine ev_neg (by omega) (ev_pos (by omega) (ev_bind ey (ev_succ ?_)))
        simp only [impl_PostOrder_lit1.j0]
        exact ev_neg (by simp only [decide_eq_true_eq]; omega) (ev_neg (by omega) (Ev.now _))
      · have := Tree.rnk_left hv hx (show Tree.eo l.length (dpA l) y ≤ x by omega)
        have := Tree.lft_rnk hv hx
        refine hw 1 (by unfold litV; rw [if_neg (by omega), if_neg (by omega)]) ?_
        simp only [impl_PostOrder_lit1.f]
        refine ev_neg (by omega) (ev_pos (by omega) (ev_bind ey (ev_succ ?_)))
        simp only [impl_PostOrder_lit1.j0]
        exact ev_pos (by simp only [decide_eq_true_eq]; omega) (Ev.now _)
    · have e : x = y := by omega
      refine hw 0 (by unfold litV; rw [if_neg (by rw [e]; exact Nat.lt_irrefl _), if_pos e]) ?_
      simp only [impl_PostOrder_lit1.f]
      refine ev_neg (by omega) (ev_neg (by omega) (ev_succ ?_))
      simp only [impl_PostOrder_lit1.j0]
      exact ev_neg (by decide) (ev_pos (by omega) (Ev.now _))
theorem unif {α : Type} (P : Nat → α → Prop) : ∀ (L : List α), (∀ x ∈ L, ∃ K, ∀ k, K ≤ k → P k x) → ∃ K, ∀ k, K ≤ k → ∀ x ∈ L, P k x
  | [], _ => ⟨0, fun _ _ x hx => by cases hx⟩
  | a :: L, h => by
    obtain ⟨K1, h1⟩ := h a List.mem_cons_self
    obtain ⟨K2, h2⟩ := unif P L (fun x hx => h x (List.mem_cons_of_mem _ hx))
    refine ⟨max K1 K2, fun k hk x hx => ?_⟩
    rcases List.mem_cons.1 hx with rfl | hx
    · exact h1 k (by omega)
    · exact h2 k (by omega) x hx
theorem lt_range (xs : List Nat) (n : Nat) (hl : xs.length = n) (hp : xs.Pairwise (· < ·)) (hn : ∀ x ∈ xs, x < n) : xs = List.range n := by
  rw [List.pairwise_iff_getElem] at hp
  have up : ∀ d i (h : i + d < xs.length), xs[i]'(by omega) + d ≤ xs[i + d] := by
    intro d
    induction d with
    | zero => intro i h; exact Nat.le_refl _
    | succ d ih =>
      intro i h
      have h1 := ih i (by omega)
      have h2 := hp (i + d) (i + d + 1) (by omega) (by omega) (by omega)
      have h3 : xs[i + (d + 1)] = xs[i + d + 1] := rfl
      omega
  apply List.ext_getElem
  · rw [hl, List.length_range]
  · intro k h1 h2
    rw [List.getElem_range]
    have a := up k 0 (by omega)
    simp only [Nat.zero_add] at a
    have b := up (n - 1 - k) k (by omega)
    have c := hn _ (List.getElem_mem (show k + (n - 1 - k) < xs.length by omega))
    omega
theorem sort_ev (l : List S61) (ht : treeOk l = true) : Ev (fun k => impl_PostOrder.sort k l ((List.finRange l.length).map (fun i => (i.val : Int)))) ((pol l).map Int.ofNat) := by
  have hv := treeOk_vd ht
  have h1 := (treeOk_iff.1 ht).1
  obtain ⟨K, hK⟩ := unif (fun k (x : Fin l.length) => ∀ y ∈ List.finRange l.length, impl_PostOrder_lit1.f k (x.val : Int) (y.val : Int) l = some (litV l x.val y.val)) (List.finRange l.length) (fun x _ => unif (fun k (y : Fin l.length) => impl_PostOrder_lit1.f k (x.val : Int) (y.val : Int) l = some (litV l x.val y.val)) (List.finRange l.length) (fun y _ => lit_ev l ht x.val y.val x.isLt y.isLt))
  refine ⟨K, fun k hk => ?_⟩
  have hf : ∀ x y : Fin l.length, impl_PostOrder_lit1.f k (x.val : Int) (y.val : Int) l = some (litV l x.val y.val) := fun x y => hK k hk x (List.mem_finRange x) y (List.mem_finRange y)
  have hlt : ∀ x y : Fin l.length, impl_PostOrder.lt k l x y = decide (Tree.rnk l.length (dpA l) x.val < Tree.rnk l.length (dpA l) y.val) := by
    intro x y
    unfold impl_PostOrder.lt impl_PostOrder.cf
    rw [hf x y, Option.getD_some]
    unfold litV
    by_cases c : Tree.rnk l.length (dpA l) x.val < Tree.rnk l.length (dpA l) y.val
    · rw [if_pos c]; simp [c]
    · rw [if_neg c]
      by_cases e : x.val = y.val
      · rw [if_pos e]; simp [c]
      · rw [if_neg e]; simp [c]
  have hg : impl_PostOrder.Good k l := by
    refine ⟨fun x y => by rw [hf]; rfl, fun x => by rw [hlt]; simp, fun x y z a b => ?_, fun x y z a b => ?_, fun x y a b => ?_⟩
    · rw [hlt, decide_eq_true_eq] at a b ⊢; omega
    · rw [hlt, decide_eq_false_iff_not] at a b ⊢; omega
    · rw [hlt, decide_eq_false_iff_not] at a b
      exact Fin.ext (Tree.rnk_inj hv x.isLt y.isLt (by omega))
  show impl_PostOrder.sort k l _ = some _
  unfold impl_PostOrder.sort
  rw [if_pos ⟨⟨rfl, by omega, by omega⟩, hg⟩]
  refine congrArg some ?_
  obtain ⟨L, hL⟩ : ∃ L, L = (List.finRange l.length).mergeSort (fun a b => !impl_PostOrder.lt k l b a) := ⟨_, rfl⟩
  rw [← hL]
  have hperm : L.Perm (List.finRange l.length) := by rw [hL]; exact List.mergeSort_perm _ _
  have hsort : L.Pairwise (fun a b => (!impl_PostOrder.lt k l b a) = true) := by
    rw [hL]
    refine List.pairwise_mergeSort (fun a b c x y => ?_) (fun a b => ?_) _
    · simp only [hlt, Bool.not_eq_true', decide_eq_false_iff_not] at x y ⊢; omega
    · simp only [hlt, Bool.or_eq_true, Bool.not_eq_true', decide_eq_false_iff_not]; omega
  have hnd : L.Pairwise (· ≠ ·) := (hperm.nodup_iff).2 (List.nodup_finRange _)
  have hord : Tree.Order l.length (dpA l) (L.map Fin.val) := ⟨by
    refine lt_range _ _ ?_ ?_ ?_
    · rw [List.length_map, List.length_map, hperm.length_eq, List.length_finRange]
    · rw [List.pairwise_map, List.pairwise_map]
      refine (hsort.and hnd).imp (fun {a b} h => ?_)
      have h2 := h.1
      simp only [hlt, Bool.not_eq_true', decide_eq_false_iff_not] at h2
      have h3 : Tree.rnk l.length (dpA l) a.val ≠ Tree.rnk l.length (dpA l) b.val := fun e => h.2 (Fin.ext (Tree.rnk_inj hv a.isLt b.isLt e))
      omega
    · intro x hx
      obtain ⟨y, hy, rfl⟩ := List.mem_map.1 hx
      obtain ⟨z, _, rfl⟩ := List.mem_map.1 hy
      exact Tree.rnk_lt hv z.isLt, fun x hx => by
    obtain ⟨z, _, rfl⟩ := List.mem_map.1 hx
    exact z.isLt⟩
  rw [show L.map (fun i => (i.val : Int)) = (L.map Fin.val).map Int.ofNat by rw [List.map_map]; rfl, Tree.Order.one hv hord (pol_order ht)]
theorem impl_PostOrder_ev (l : List S61) : Ev (fun k => impl_PostOrder.f k l) (postI l) := by
  simp only [impl_PostOrder.f]
  refine ev_bindc rfl ?_
  by_cases ht : treeOk l = true
  · rw [postI_ok ht]
    have h1 := (treeOk_iff.1 ht).1
    refine ev_bind (impl_TreeOk_ev l) (ev_pos ht ?_)
    have key : ∀ d i, i + d = l.length → Ev (fun k => impl_PostOrder.l0 k l ((List.range i).map Int.ofNat) (l.length : Int) (i : Int)) ((pol l).map Int.ofNat) := by
      intro d
      induction d with
      | zero =>
        intro i h
        refine ev_succ ?_
        simp only [impl_PostOrder.l0]
        refine ev_neg (by omega) ?_
        have e : (List.range i).map Int.ofNat = (List.finRange l.length).map (fun i => (i.val : Int)) := by
          apply List.ext_getElem
          · simp; omega
          · intro j h1 h2; simp
        rw [e]
        exact sort_ev l ht
      | succ d ih =>
        intro i h
        have h2 := ih (i + 1) (by omega)
        refine ev_succ ?_
        simp only [impl_PostOrder.l0]
        have e0 : wrap64 ((i : Int) + 1) = ((i + 1 : Nat) : Int) := by rw [w64 (by omega) (by omega)]; omega
        rw [e0]
        clear e0
        rw [List.range_succ, List.map_append] at h2
        exact ev_pos (by omega) (ev_pos (by rw [List.length_map, List.length_range]; omega) h2)
    exact key l.length 0 (by omega)
  · exact ev_bind (impl_TreeOk_ev l) (ev_neg ht (ev_some (by unfold postI; rw [if_neg ht])))

end Go.Proofs.Ytbmkobanpakohaa.QFnExactMedian
