/- What the printed functions of the law FnExactDomFrom come to, function by function, from some number of rounds on; each under the bounds that it names. -/
import Derived.Test.YtmbhlfcpdbbogabMFnExactDomFromx
import Derived.Test.YtmbhlfcpdbbogabMFnExactDomFromEvAid
import Derived.Test.YtmbhlfcpdbbogabTree
import Derived.Test.YtmbhlfcpdbbogabPaths
import Derived.Test.YtmbhlfcpdbbogabBounds
import Derived.Test.YtmbhlfcpdbbogabMFnExactDomFromOpens
namespace Go.Proofs.Ytmbhlfcpdbbogab.QFnExactDomFrom
open Go.RowKit Go.Proofs.Ytmbhlfcpdbbogab.PFnExactDomFrom Go.Proofs.YtmbhlfcpdbbogabW.PrintWords Go.Proofs.YtmbhlfcpdbbogabW.PrintLast Go.Proofs.YtmbhlfcpdbbogabW.PrintMore Go.Proofs.Ytmbhlfcpdbbogab.EvAid Go.Proofs.Ytmbhlfcpdbbogab
set_option linter.unusedVariables false
set_option linter.unusedSimpArgs false

/-! #### laws_eqDomNode -/
theorem eqDomNode_self (a0 : Bool) (a1 a2 a3 a4 a5 a6 : Int) : laws_eqDomNode.f a0 a1 a2 a3 a4 a5 a6 a0 a1 a2 a3 a4 a5 a6 = some true := by
  unfold laws_eqDomNode.f
  rw [if_neg (by simp), if_pos rfl, if_pos rfl, if_pos rfl, if_pos rfl, if_pos rfl, if_pos rfl]

/-! #### laws_eqDomNodeS -/
theorem eqDomNodeS_ev (a : List S90) (hm : (a.length : Int) ≤ 9223372036854775806) : Ev (fun k => laws_eqDomNodeS.f k a a) true := by
  have key : ∀ (d i : Nat), i + d = a.length → Ev (fun k => laws_eqDomNodeS.l0 k a a i) true := by
    intro d
    induction d with
    | zero =>
      intro i h
      refine ev_succ ?_
      simp only [laws_eqDomNodeS.l0]
      exact ev_neg (by omega) (Ev.now _)
    | succ d ih =>
      intro i h
      refine ev_succ ?_
      simp only [laws_eqDomNodeS.l0]
      refine ev_pos (by omega) (ev_pos (by omega) (ev_pos (by omega) (ev_bindc (eqDomNode_self _ _ _ _ _ _ _) (ev_pos rfl ?_))))
      rw [w64 (by omega) (by omega)]
      exact ih (i + 1) (by omega)
  simp only [laws_eqDomNodeS.f]
  exact ev_pos trivial (key a.length 0 (by omega))

/-! #### laws_eqDom -/
theorem eqDom_ev (a : List S90) (hm : (a.length : Int) ≤ 9223372036854775806) : Ev (fun k => laws_eqDom.f k a a) true := by
  simp only [laws_eqDom.f]
  exact ev_bind (eqDomNodeS_ev a hm) (ev_pos rfl (Ev.now _))

/-! #### laws_markDomNodeS -/
/-- the marks of one linked node, from a on -/
def mkD (a : Int) : S90 := ⟨(Int.tmod a 3 == 0), a + 1, a + 1 + 1, a + 1 + 1 + 1, a + 1 + 1 + 1 + 1, a + 1 + 1 + 1 + 1 + 1, a + 1 + 1 + 1 + 1 + 1 + 1⟩
theorem mkD_f0 (a : Int) : (mkD a).f0 = (Int.tmod a 3 == 0) := by simp only [mkD]
theorem mkD_f1 (a : Int) : (mkD a).f1 = a + 1 := by simp only [mkD]
theorem mkD_f2 (a : Int) : (mkD a).f2 = a + 1 + 1 := by simp only [mkD]
theorem mkD_f3 (a : Int) : (mkD a).f3 = a + 1 + 1 + 1 := by simp only [mkD]
theorem mkD_f4 (a : Int) : (mkD a).f4 = a + 1 + 1 + 1 + 1 := by simp only [mkD]
theorem mkD_f5 (a : Int) : (mkD a).f5 = a + 1 + 1 + 1 + 1 + 1 := by simp only [mkD]
theorem mkD_f6 (a : Int) : (mkD a).f6 = a + 1 + 1 + 1 + 1 + 1 + 1 := by simp only [mkD]
/-- the marks of n linked nodes -/
def seqD (a : Int) (n : Nat) : List S90 := (List.range n).map fun (j : Nat) => mkD (a + 7 * (j : Int))
theorem seqD_length (a : Int) (n : Nat) : (seqD a n).length = n := by simp [seqD]
theorem seqD_succ (a : Int) (n : Nat) : seqD a (n + 1) = seqD a n ++ [mkD (a + 7 * (n : Int))] := by simp [seqD, List.range_succ]
theorem seqD_rd (a : Int) (n i : Nat) (h : i < n) : rd_T90 (seqD a n) i = mkD (a + 7 * (i : Int)) := by simp [rd_T90, seqD, h]
theorem markDomNodeS_l0 (l : List S90) (a : Int) (h0 : 0 ≤ a) (hm : a + 7 * l.length ≤ 9223372036854775805) : ∀ (d i : Nat), i + d = l.length → Ev (fun k => laws_markDomNodeS.l0 k (seqD a i ++ l.drop i) (a + 7 * i) i) (a + 7 * l.length, seqD a l.length) := by
  intro d
  induction d with
  | zero =>
    intro i h
    refine ev_succ ?_
    simp only [laws_markDomNodeS.l0]
    have e : i = l.length := by omega
    subst e
    refine ev_neg (by rw [List.length_append, seqD_length, List.length_drop]; omega) (ev_some ?_)
    rw [List.drop_length, List.append_nil]
  | succ d ih =>
    intro i h
    refine ev_succ ?_
    simp only [laws_markDomNodeS.l0]
    refine ev_pos (by rw [List.length_append, seqD_length, List.length_drop]; omega) (ev_pos (by omega) ?_)
    simp only [Option.bind_some]
    have hi : i < l.length := by omega
    have e1 : ∀ x : S90, (seqD a i ++ l.drop i).set ((i : Int)).toNat x = seqD a i ++ x :: l.drop (i + 1) := by
      intro x
      rw [Int.toNat_natCast, List.set_append_right _ _ (by rw [seqD_length]; omega), seqD_length, Nat.sub_self, List.drop_eq_getElem_cons hi, List.set_cons_zero]
    have e2 : ∀ (x y : S90), (seqD a i ++ x :: l.drop (i + 1)).set ((i : Int)).toNat y = seqD a i ++ y :: l.drop (i + 1) := by
      intro x y
      rw [Int.toNat_natCast, List.set_append_right _ _ (by rw [seqD_length]; omega), seqD_length, Nat.sub_self, List.set_cons_zero]
    have e3 : ∀ (x : S90), rd_T90 (seqD a i ++ x :: l.drop (i + 1)) (i : Int) = x := by
      intro x; simp [rd_T90, seqD_length]
    have w1 : wrap64 (a + 7 * (i : Int) + 1) = a + 7 * (i : Int) + 1 := w64 (by omega) (by omega)
    have w2 : wrap64 (a + 7 * (i : Int) + 1 + 1) = a + 7 * (i : Int) + 1 + 1 := w64 (by omega) (by omega)
    have w3 : wrap64 (a + 7 * (i : Int) + 1 + 1 + 1) = a + 7 * (i : Int) + 1 + 1 + 1 := w64 (by omega) (by omega)
    have w4 : wrap64 (a + 7 * (i : Int) + 1 + 1 + 1 + 1) = a + 7 * (i : Int) + 1 + 1 + 1 + 1 := w64 (by omega) (by omega)
    have w5 : wrap64 (a + 7 * (i : Int) + 1 + 1 + 1 + 1 + 1) = a + 7 * (i : Int) + 1 + 1 + 1 + 1 + 1 := w64 (by omega) (by omega)
    have w6 : wrap64 (a + 7 * (i : Int) + 1 + 1 + 1 + 1 + 1 + 1) = a + 7 * (i : Int) + 1 + 1 + 1 + 1 + 1 + 1 := w64 (by omega) (by omega)
    have w7 : wrap64 (a + 7 * (i : Int) + 1 + 1 + 1 + 1 + 1 + 1 + 1) = a + 7 * (i : Int) + 1 + 1 + 1 + 1 + 1 + 1 + 1 := w64 (by omega) (by omega)
    have w8 : wrap64 ((i : Int) + 1) = (i : Int) + 1 := w64 (by omega) (by omega)
    simp only [w1, w2, w3, w4, w5, w6, w7, w8, e1, e2, e3]
    clear w1 w2 w3 w4 w5 w6 w7 w8 e1 e2 e3
    have := ih (i + 1) (by omega)
    rw [seqD_succ, List.append_assoc] at this
    have e4 : a + 7 * ((i + 1 : Nat) : Int) = a + 7 * (i : Int) + 1 + 1 + 1 + 1 + 1 + 1 + 1 := by omega
    rw [e4] at this
    exact this
theorem markDomNodeS_ev (l : List S90) (a : Int) (h0 : 0 ≤ a) (hm : a + 7 * l.length ≤ 9223372036854775805) : Ev (fun k => laws_markDomNodeS.f k l a) (a + 7 * l.length, seqD a l.length) := by
  simp only [laws_markDomNodeS.f]
  have := markDomNodeS_l0 l a h0 hm l.length 0 (by omega)
  simpa [seqD] using this

/-! #### laws_markDom -/
theorem markDom_ev (l : List S90) (a : Int) (h0 : 0 ≤ a) (hm : a + 7 * l.length ≤ 9223372036854775805) : Ev (fun k => laws_markDom.f k l a) (a + 7 * l.length, seqD a l.length) := by
  simp only [laws_markDom.f]
  exact ev_bind (markDomNodeS_ev l a h0 hm) (Ev.now _)

/-! #### laws_heldDomNodeS -/
theorem heldDomNodeS_ev (a : Int) (n : Nat) (h0 : 0 ≤ a) (hm : a + 7 * n ≤ 9223372036854775805) : Ev (fun k => laws_heldDomNodeS.f k (seqD a n) a) (a + 7 * n) := by
  have key : ∀ (d i : Nat), i + d = n → Ev (fun k => laws_heldDomNodeS.l0 k (seqD a n) (a + 7 * i) i) (a + 7 * n) := by
    intro d
    induction d with
    | zero =>
      intro i h
      refine ev_succ ?_
      simp only [laws_heldDomNodeS.l0]
      refine ev_neg (by rw [seqD_length]; omega) (ev_some (by omega))
    | succ d ih =>
      intro i h
      refine ev_succ ?_
      simp only [laws_heldDomNodeS.l0]
      have w1 : wrap64 (a + 7 * (i : Int) + 1) = a + 7 * (i : Int) + 1 := w64 (by omega) (by omega)
      have w2 : wrap64 (a + 7 * (i : Int) + 1 + 1) = a + 7 * (i : Int) + 1 + 1 := w64 (by omega) (by omega)
      have w3 : wrap64 (a + 7 * (i : Int) + 1 + 1 + 1) = a + 7 * (i : Int) + 1 + 1 + 1 := w64 (by omega) (by omega)
      have w4 : wrap64 (a + 7 * (i : Int) + 1 + 1 + 1 + 1) = a + 7 * (i : Int) + 1 + 1 + 1 + 1 := w64 (by omega) (by omega)
      have w5 : wrap64 (a + 7 * (i : Int) + 1 + 1 + 1 + 1 + 1) = a + 7 * (i : Int) + 1 + 1 + 1 + 1 + 1 := w64 (by omega) (by omega)
      have w6 : wrap64 (a + 7 * (i : Int) + 1 + 1 + 1 + 1 + 1 + 1) = a + 7 * (i : Int) + 1 + 1 + 1 + 1 + 1 + 1 := w64 (by omega) (by omega)
      have w7 : wrap64 (a + 7 * (i : Int) + 1 + 1 + 1 + 1 + 1 + 1 + 1) = a + 7 * (i : Int) + 1 + 1 + 1 + 1 + 1 + 1 + 1 := w64 (by omega) (by omega)
      have w8 : wrap64 ((i : Int) + 1) = (i : Int) + 1 := w64 (by omega) (by omega)
      simp only [w1, w2, w3, w4, w5, w6, w7, w8, seqD_rd a n i (by omega)]
      clear w1 w2 w3 w4 w5 w6 w7 w8
      refine ev_pos (by rw [seqD_length]; omega) ?_
      refine ev_pos (by omega) ?_
      rw [mkD_f0]
      refine ev_neg (fun h => bne_iff_ne.1 h rfl) ?_
      refine ev_pos (mkD_f1 _) ?_
      refine ev_pos (mkD_f2 _) ?_
      refine ev_pos (mkD_f3 _) ?_
      refine ev_pos (mkD_f4 _) ?_
      refine ev_pos (mkD_f5 _) ?_
      refine ev_pos (mkD_f6 _) ?_
      have e4 : a + 7 * (i : Int) + 1 + 1 + 1 + 1 + 1 + 1 + 1 = a + 7 * ((i + 1 : Nat) : Int) := by omega
      rw [e4]
      exact ih (i + 1) (by omega)
  simp only [laws_heldDomNodeS.f]
  have := key n 0 (by omega)
  simpa using this

/-! #### laws_heldDom -/
theorem heldDom_ev (a : Int) (n : Nat) (h0 : 0 ≤ a) (hm : a + 7 * n ≤ 9223372036854775805) : Ev (fun k => laws_heldDom.f k (seqD a n) a) (a + 7 * n) := by
  simp only [laws_heldDom.f]
  exact ev_bind (heldDomNodeS_ev a n h0 hm) (ev_neg (by omega) (Ev.now _))

/-! #### laws_szNodeS -/
theorem szNodeS_eq (l : List S96) (a : Int) (h0 : 0 ≤ a) (h1 : a ≤ 1048576) (hl : l.length ≤ maxLen) : laws_szNodeS.f l a = some (if a < l.length then -1 else a - l.length) := by
  unfold maxLen at hl
  unfold laws_szNodeS.f
  rw [w64 (x := a - (l.length : Int)) (by omega) (by omega)]
  by_cases h : a < l.length
  · rw [if_pos (by omega), if_pos h]
  · rw [if_neg (by omega), if_neg h]

/-! #### spec_l1In -/
theorem l1In_eq (a b c : Int) : spec_l1In.f a b c = some (decide (b ≤ a ∧ a ≤ c)) := by
  unfold spec_l1In.f
  by_cases h : a ≥ b
  · rw [if_pos h]; have h' : b ≤ a := h; simp [h']
  · rw [if_neg h]; have h' : ¬ b ≤ a := h; simp [h']

/-! #### spec_LabelOk -/
theorem spec_LabelOk_eq (a : Int) : spec_LabelOk.f a = some (decide (0 ≤ a ∧ a ≤ 5)) := by
  unfold spec_LabelOk.f; rw [l1In_eq]; rfl

/-! #### _nodes -/
/-- the label and the depth at a place -/
def lbA (l : List S55) (j : Nat) : Int := (l.getD j z55).f0
def dpA (l : List S55) (j : Nat) : Int := (l.getD j z55).f1
theorem rd_f0 (l : List S55) (j : Nat) : (rd_T55 l (j : Int)).f0 = lbA l j := id rfl
theorem rd_f1 (l : List S55) (j : Nat) : (rd_T55 l (j : Int)).f1 = dpA l j := id rfl
theorem node_ext {a b : S55} (h0 : a.f0 = b.f0) (h1 : a.f1 = b.f1) : a = b := by cases a; cases b; simp at h0 h1; rw [h0, h1]
theorem rd_node (l : List S55) (j : Nat) : rd_T55 l (j : Int) = ⟨lbA l j, dpA l j⟩ := id rfl
theorem getD_node (l : List S55) (j : Nat) (h : j < l.length) : l[j] = ⟨lbA l j, dpA l j⟩ := by
  apply node_ext
  · simp [lbA, h]
  · simp [dpA, h]
theorem nodes_ext {a b : List S55} (hl : a.length = b.length) (h0 : ∀ j, j < a.length → lbA a j = lbA b j) (h1 : ∀ j, j < a.length → dpA a j = dpA b j) : a = b := by
  apply List.ext_getElem hl
  intro j h2 h3
  rw [getD_node a j h2, getD_node b j h3, h0 j h2, h1 j h2]
/-- a node may stand at its place -/
def okAt (l : List S55) (j : Nat) : Prop := (0 ≤ lbA l j ∧ lbA l j ≤ 5) ∧ (0 ≤ dpA l j ∧ dpA l j ≤ 12) ∧ (if j = 0 then dpA l j = 0 else 1 ≤ dpA l j ∧ dpA l j ≤ dpA l (j - 1) + 1)
instance okAtDec (l : List S55) (j : Nat) : Decidable (okAt l j) := by unfold okAt; infer_instance
/-- the nodes are those of one tree -/
def treeOk (l : List S55) : Bool := decide (1 ≤ l.length ∧ l.length ≤ 24) && decide (∀ j, j < l.length → okAt l j)
theorem treeOk_iff {l : List S55} : treeOk l = true ↔ (1 ≤ l.length ∧ l.length ≤ 24) ∧ ∀ j, j < l.length → okAt l j := by
  simp [treeOk]
theorem treeOk_vd {l : List S55} (h : treeOk l = true) : Tree.Vd l.length (dpA l) := by
  obtain ⟨h1, h2⟩ := treeOk_iff.1 h
  refine ⟨h1.1, ?_, fun j h0 hj => ?_⟩
  · have := (h2 0 h1.1).2.2
    rwa [if_pos rfl] at this
  · have := (h2 j hj).2.2
    rwa [if_neg (by omega)] at this
/-- from place i on all nodes may stand -/
noncomputable def okFrom (l : List S55) (i : Nat) : Bool := cdec (∀ j, i ≤ j → j < l.length → okAt l j)
theorem okFrom_end {l : List S55} {i : Nat} (h : l.length ≤ i) : okFrom l i = true := by
  unfold okFrom
  rw [cdec_iff]
  intro j h1 h2
  omega
theorem okFrom_step {l : List S55} {i : Nat} (h : i < l.length) : okFrom l i = (decide (okAt l i) && okFrom l (i + 1)) := by
  unfold okFrom
  rw [Bool.eq_iff_iff, Bool.and_eq_true, cdec_iff, decide_eq_true_iff, cdec_iff]
  constructor
  · intro a; exact ⟨a i (Nat.le_refl _) h, fun j h1 h2 => a j (by omega) h2⟩
  · rintro ⟨a, b⟩ j h1 h2
    by_cases e : j = i
    · subst e; exact a
    · exact b j (by omega) h2
theorem okFrom_zero (l : List S55) : treeOk l = (decide (1 ≤ l.length ∧ l.length ≤ 24) && okFrom l 0) := by
  unfold treeOk okFrom
  congr 1
  rw [Bool.eq_iff_iff, decide_eq_true_iff, cdec_iff]
  exact ⟨fun h j _ hj => h j hj, fun h j hj => h j (Nat.zero_le _) hj⟩

/-! #### spec_TreeOk -/
theorem spec_TreeOk_l0 (l : List S55) (hm : (l.length : Int) ≤ 9223372036854775806) : ∀ (d i : Nat), i + d = l.length → (0 < i → okAt l (i - 1)) → Ev (fun k => spec_TreeOk.l0 k l (i : Int)) (decide (1 ≤ l.length ∧ l.length ≤ 24) && okFrom l i) := by
  intro d
  induction d with
  | zero =>
    intro i h hp
    refine ev_succ ?_
    simp only [spec_TreeOk.l0]
    refine ev_neg (by omega) (ev_bindc (l1In_eq _ _ _) (ev_some ?_))
    rw [okFrom_end (by omega), Bool.and_true]
    congr 1
    simp only [eq_iff_iff]
    omega
  | succ d ih =>
    intro i h hp
    refine ev_succ ?_
    simp only [spec_TreeOk.l0]
    simp only [rd_f0, rd_f1]
    refine ev_pos (by omega) (ev_pos (by omega) (ev_bindc (spec_LabelOk_eq _) ?_))
    rw [okFrom_step (by omega)]
    simp only [decide_eq_true_eq]
    by_cases h1 : 0 ≤ lbA l i ∧ lbA l i ≤ 5
    · refine ev_pos h1 (ev_bindc (l1In_eq _ _ _) ?_)
      simp only [decide_eq_true_eq]
      by_cases h2 : 0 ≤ dpA l i ∧ dpA l i ≤ 12
      · refine ev_pos h2 ?_
        by_cases h0 : i = 0
        · subst h0
          by_cases h3 : dpA l 0 = 0
          · refine ev_neg (by rw [h3]; decide) (ev_neg (by omega) ?_)
            rw [w64 (by omega) (by omega)]
            have ok : okAt l 0 := ⟨h1, h2, by rw [if_pos rfl]; exact h3⟩
            have := ih 1 (by omega) (fun _ => ok)
            rw [decide_eq_true ok, Bool.true_and]
            exact this
          · refine ev_pos (by
              have e : (dpA l 0 == 0) = false := by rw [beq_eq_false_iff_ne]; exact h3
              simp only [e]; rfl) (ev_some ?_)
            have ok : ¬ okAt l 0 := fun h => h3 (by have := h.2.2; rwa [if_pos rfl] at this)
            rw [decide_eq_false ok, Bool.false_and, Bool.and_false]
        · have ei : ((i : Int) == 0) = false := by rw [beq_eq_false_iff_ne]; omega
          by_cases h3 : dpA l i = 0
          · refine ev_pos (by rw [ei, h3]; decide) (ev_some ?_)
            have ok : ¬ okAt l i := fun h => by have := h.2.2; rw [if_neg h0] at this; omega
            rw [decide_eq_false ok, Bool.false_and, Bool.and_false]
          · have e : (dpA l i == 0) = false := by rw [beq_eq_false_iff_ne]; exact h3
            have hpp := hp (by omega)
            have e1 : (i : Int) - 1 = ((i - 1 : Nat) : Int) := by omega
            have hb := hpp.2.1
            refine ev_neg (by rw [ei, e]; decide) (ev_pos (by omega) ?_)
            rw [w64 (x := (i : Int) - 1) (by omega) (by omega), e1]
            simp only [rd_f1]
            rw [w64 (x := dpA l (i - 1) + 1) (by omega) (by omega)]
            refine ev_pos (by omega) (ev_pos (by omega) ?_)
            by_cases h4 : dpA l i > dpA l (i - 1) + 1
            · refine ev_pos h4 (ev_some ?_)
              have ok : ¬ okAt l i := fun h => by have := h.2.2; rw [if_neg h0] at this; omega
              rw [decide_eq_false ok, Bool.false_and, Bool.and_false]
            · refine ev_neg h4 ?_
              have ok : okAt l i := ⟨h1, h2, by rw [if_neg h0]; omega⟩
              rw [w64 (x := (i : Int) + 1) (by omega) (by omega), decide_eq_true ok, Bool.true_and]
              exact ih (i + 1) (by omega) (fun _ => ok)
      · refine ev_neg h2 (ev_some ?_)
        have ok : ¬ okAt l i := fun h => h2 h.2.1
        rw [decide_eq_false ok, Bool.false_and, Bool.and_false]
    · refine ev_neg h1 (ev_some ?_)
      have ok : ¬ okAt l i := fun h => h1 h.1
      rw [decide_eq_false ok, Bool.false_and, Bool.and_false]
theorem spec_TreeOk_ev (l : List S55) (hm : (l.length : Int) ≤ 9223372036854775806) : Ev (fun k => spec_TreeOk.f k l) (treeOk l) := by
  simp only [spec_TreeOk.f]
  rw [okFrom_zero]
  exact spec_TreeOk_l0 l hm l.length 0 (by omega) (fun h => absurd h (Nat.lt_irrefl 0))

/-! #### _hasB -/
/-- the tree is one, and has a node i -/
def hasB (l : List S55) (i : Int) : Bool := treeOk l && decide (0 ≤ i ∧ i < (l.length : Int))
theorem hasB_iff {l : List S55} {i : Int} : hasB l i = true ↔ treeOk l = true ∧ 0 ≤ i ∧ i < (l.length : Int) := by simp [hasB]
theorem hasB_nat {l : List S55} {i : Int} (h : hasB l i = true) : ∃ j : Nat, i = (j : Int) ∧ j < l.length ∧ treeOk l = true ∧ l.length ≤ 24 ∧ Tree.Vd l.length (dpA l) := by
  obtain ⟨h1, h2, h3⟩ := hasB_iff.1 h
  exact ⟨i.toNat, by omega, by omega, h1, (treeOk_iff.1 h1).1.2, treeOk_vd h1⟩
/-- the end of node i as the program tells it -/
def endI (l : List S55) (i : Int) : Int := if hasB l i = true then (Tree.eo l.length (dpA l) i.toNat : Int) else -1
/-- node i and what is below it as a tree of its own -/
def subT (l : List S55) (i : Int) : List S55 := if hasB l i = true then (List.range' i.toNat (Tree.eo l.length (dpA l) i.toNat - i.toNat)).map (fun (j : Nat) => (⟨lbA l j, dpA l j - dpA l i.toNat⟩ : S55)) else []
theorem subT_length (l : List S55) (i : Int) : (subT l i).length ≤ l.length := by
  unfold subT
  split
  · rename_i h
    obtain ⟨j, rfl, hj, _, _, _⟩ := hasB_nat h
    have := Tree.eo_le (D := dpA l) hj
    simp only [List.length_map, List.length_range', Int.toNat_natCast]
    omega
  · simp
/-- the kids of node i -/
def kidsI (l : List S55) (i : Int) : List Int := if hasB l i = true then (Tree.kids l.length (dpA l) i.toNat).map Int.ofNat else []
theorem kidsI_length (l : List S55) (i : Int) : (kidsI l i).length ≤ l.length := by
  unfold kidsI
  split
  · rename_i h
    obtain ⟨j, rfl, hj, _, _, _⟩ := hasB_nat h
    have := Tree.eo_le (D := dpA l) hj
    have := Tree.kids_length (n := l.length) (D := dpA l) (i := j)
    simp only [List.length_map, Int.toNat_natCast]
    omega
  · simp
theorem dp_range {l : List S55} (h : treeOk l = true) {j : Nat} (hj : j < l.length) : 0 ≤ dpA l j ∧ dpA l j ≤ 12 := ((treeOk_iff.1 h).2 j hj).2.1
theorem lb_range {l : List S55} (h : treeOk l = true) {j : Nat} (hj : j < l.length) : 0 ≤ lbA l j ∧ lbA l j ≤ 5 := ((treeOk_iff.1 h).2 j hj).1
/-- the two lists of nodes are the same -/
noncomputable def sameT (a b : List S55) : Bool := cdec (a = b)
theorem sameT_iff {a b : List S55} : sameT a b = true ↔ a = b := cdec_iff
theorem sameT_self (a : List S55) : sameT a a = true := sameT_iff.2 rfl
/-- .. from place i on -/
noncomputable def sameFrom (a b : List S55) (i : Nat) : Bool := cdec (∀ j, i ≤ j → j < a.length → lbA a j = lbA b j ∧ dpA a j = dpA b j)
theorem sameFrom_end {a b : List S55} {i : Nat} (h : a.length ≤ i) : sameFrom a b i = true := by
  unfold sameFrom
  rw [cdec_iff]
  intro j h1 h2
  omega
theorem sameFrom_step {a b : List S55} {i : Nat} (h : i < a.length) : sameFrom a b i = (decide (lbA a i = lbA b i ∧ dpA a i = dpA b i) && sameFrom a b (i + 1)) := by
  unfold sameFrom
  rw [Bool.eq_iff_iff, Bool.and_eq_true, cdec_iff, decide_eq_true_iff, cdec_iff]
  constructor
  · intro x; exact ⟨x i (Nat.le_refl _) h, fun j h1 h2 => x j (by omega) h2⟩
  · rintro ⟨x, y⟩ j h1 h2
    by_cases e : j = i
    · subst e; exact x
    · exact y j (by omega) h2
theorem sameFrom_zero {a b : List S55} (h : a.length = b.length) : sameFrom a b 0 = sameT a b := by
  unfold sameFrom sameT
  rw [Bool.eq_iff_iff, cdec_iff, cdec_iff]
  constructor
  · intro x; exact nodes_ext h (fun j hj => (x j (Nat.zero_le _) hj).1) (fun j hj => (x j (Nat.zero_le _) hj).2)
  · intro e; subst e; exact fun j _ _ => ⟨rfl, rfl⟩
theorem same_cond (x0 x1 y0 y1 : Int) : ((!(x0 == y0) || !(x1 == y1)) = true) ↔ ¬ (x0 = y0 ∧ x1 = y1) := by
  by_cases h0 : x0 = y0 <;> by_cases h1 : x1 = y1 <;> simp [h0, h1]
/-- node i's parent -/
def parI (l : List S55) (i : Int) : Int := if hasB l i = true then Tree.par (dpA l) i.toNat else -1

/-! #### spec_l3At -/
theorem l3At_ev (l : List S55) (i : Int) (hm : (l.length : Int) ≤ 9223372036854775806) : Ev (fun k => spec_l3At.f k l i) (hasB l i) := by
  simp only [spec_l3At.f]
  refine ev_bind (spec_TreeOk_ev l hm) ?_
  unfold hasB
  by_cases h : treeOk l = true
  · refine ev_pos h ?_
    rw [h, w64 (x := (l.length : Int) - 1) (by omega) (by omega)]
    refine ev_bindc (l1In_eq _ _ _) (ev_some ?_)
    rw [Bool.true_and]
    congr 1
    simp only [eq_iff_iff]
    omega
  · refine ev_neg h (ev_some ?_)
    have : treeOk l = false := by simpa using h
    rw [this, Bool.false_and]

/-! #### spec_ParentOf -/
theorem spec_ParentOf_l0 (l : List S55) (i : Nat) (hi : i < l.length) (hm : l.length ≤ 24) : ∀ (j : Nat), j ≤ i → Ev (fun k => spec_ParentOf.l0 k l (i : Int) ((j : Int) - 1)) (Tree.upFrom (dpA l) (dpA l i) j) := by
  intro j
  induction j with
  | zero =>
    intro _
    refine ev_succ ?_
    simp only [spec_ParentOf.l0]
    exact ev_neg (by omega) (ev_some (by rw [Tree.upFrom]; omega))
  | succ j ih =>
    intro hj
    refine ev_succ ?_
    simp only [spec_ParentOf.l0]
    have e : ((j + 1 : Nat) : Int) - 1 = (j : Int) := by omega
    rw [e, Tree.upFrom]
    simp only [rd_f1]
    refine ev_pos (by omega) (ev_pos (by omega) (ev_pos (by omega) (ev_pos (by omega) (ev_pos (by omega) ?_))))
    by_cases h : dpA l j ≥ dpA l i
    · refine ev_pos h ?_
      rw [if_neg (by omega), w64 (by omega) (by omega)]
      exact ih (by omega)
    · refine ev_neg h (ev_some ?_)
      rw [if_pos (by omega)]
theorem spec_ParentOf_ev (l : List S55) (i : Int) (hm : (l.length : Int) ≤ 9223372036854775806) : Ev (fun k => spec_ParentOf.f k l i) (parI l i) := by
  simp only [spec_ParentOf.f]
  refine ev_bind (l3At_ev l i hm) ?_
  unfold parI
  by_cases h : hasB l i = true
  · obtain ⟨j, rfl, hj, h1, h2, hv⟩ := hasB_nat h
    refine ev_pos h ?_
    rw [if_pos h, w64 (by omega) (by omega)]
    exact spec_ParentOf_l0 l j hj h2 j (Nat.le_refl _)
  · refine ev_neg h ?_
    rw [if_neg h]
    exact Ev.now _

/-! #### spec_EndOf -/
theorem spec_EndOf_l0 (l : List S55) (i : Nat) (hi : i < l.length) (hm : l.length ≤ 24) : ∀ (f j : Nat), l.length ≤ j + f → i < j → Ev (fun k => spec_EndOf.l0 k l (i : Int) (j : Int)) (Tree.eoFrom l.length (dpA l) (dpA l i) f j : Int) := by
  intro f
  induction f with
  | zero =>
    intro j h h1
    refine ev_succ ?_
    simp only [spec_EndOf.l0]
    exact ev_neg (by omega) (Ev.now _)
  | succ f ih =>
    intro j h h1
    refine ev_succ ?_
    simp only [spec_EndOf.l0]
    simp only [rd_f1]
    rw [Tree.eoFrom]
    by_cases h2 : j < l.length
    · refine ev_pos (by omega) (ev_pos (by omega) (ev_pos (by omega) (ev_pos (by omega) ?_)))
      by_cases h3 : dpA l j > dpA l i
      · refine ev_pos h3 ?_
        rw [if_pos ⟨h2, h3⟩, w64 (by omega) (by omega)]
        exact ih (j + 1) (by omega) (by omega)
      · refine ev_neg h3 (ev_some ?_)
        rw [if_neg (by omega)]
    · refine ev_neg (by omega) (ev_some ?_)
      rw [if_neg (by omega)]
theorem spec_EndOf_ev (l : List S55) (i : Int) (hm : (l.length : Int) ≤ 9223372036854775806) : Ev (fun k => spec_EndOf.f k l i) (endI l i) := by
  simp only [spec_EndOf.f]
  refine ev_bind (l3At_ev l i hm) ?_
  unfold endI
  by_cases h : hasB l i = true
  · obtain ⟨j, rfl, hj, h1, h2, hv⟩ := hasB_nat h
    refine ev_pos h ?_
    rw [if_pos h, w64 (by omega) (by omega)]
    exact spec_EndOf_l0 l j hj h2 (l.length - (j + 1)) (j + 1) (by omega) (by omega)
  · refine ev_neg h ?_
    rw [if_neg h]
    exact Ev.now _

/-! #### _kidsTo -/
/-- the kids up to place j -/
def kidsTo (l : List S55) (i j : Nat) : List Int := ((List.range' (i + 1) (j - (i + 1))).filter fun k => decide (dpA l k = dpA l i + 1)).map Int.ofNat
theorem kidsTo_step (l : List S55) (i j : Nat) (h : i < j) : kidsTo l i (j + 1) = kidsTo l i j ++ (if dpA l j = dpA l i + 1 then [(j : Int)] else []) := by
  unfold kidsTo
  have e : j + 1 - (i + 1) = (j - (i + 1)) + 1 := by omega
  have e2 : i + 1 + 1 * (j - (i + 1)) = j := by omega
  rw [e, List.range'_concat, List.filter_append, List.map_append, e2]
  congr 1
  by_cases hd : dpA l j = dpA l i + 1
  · rw [if_pos hd]; simp [hd]
  · rw [if_neg hd]; simp [hd]
theorem kidsTo_length (l : List S55) (i j : Nat) : (kidsTo l i j).length ≤ j := by
  unfold kidsTo
  rw [List.length_map]
  have := List.length_filter_le (fun k => decide (dpA l k = dpA l i + 1)) (List.range' (i + 1) (j - (i + 1)))
  rw [List.length_range'] at this
  omega
theorem kidsI_nat {l : List S55} {i : Nat} (h : hasB l (i : Int) = true) : kidsI l (i : Int) = (Tree.kids l.length (dpA l) i).map Int.ofNat := by unfold kidsI; rw [if_pos h]; rfl

/-! #### spec_KidsOf -/
theorem spec_KidsOf_l0 (l : List S55) (i : Nat) (hh : hasB l (i : Int) = true) (hi : i < l.length) (hm : l.length ≤ 24) (ht : treeOk l = true) : ∀ (d j : Nat), j + d = Tree.eo l.length (dpA l) i → i < j →
    Ev (fun k => spec_KidsOf.l0 k l (i : Int) (kidsTo l i j) (j : Int)) (kidsTo l i (Tree.eo l.length (dpA l) i)) := by
  have he := Tree.eo_le (D := dpA l) hi
  have hE : endI l (i : Int) = (Tree.eo l.length (dpA l) i : Int) := by unfold endI; rw [if_pos hh]; rfl
  intro d
  induction d with
  | zero =>
    intro j h hj
    refine ev_succ ?_
    simp only [spec_KidsOf.l0]
    refine ev_bind (l3At_ev l i (by omega)) (ev_pos hh (ev_bind (spec_EndOf_ev l i (by omega)) (ev_succ ?_)))
    simp only [spec_KidsOf.j1]
    rw [hE]
    refine ev_neg (by simp; omega) (ev_some ?_)
    have : j = Tree.eo l.length (dpA l) i := by omega
    rw [this]
  | succ d ih =>
    intro j h hj
    refine ev_succ ?_
    simp only [spec_KidsOf.l0]
    have d2 := dp_range ht hi
    have hk := kidsTo_length l i j
    refine ev_bind (l3At_ev l i (by omega)) (ev_pos hh (ev_bind (spec_EndOf_ev l i (by omega)) (ev_succ ?_)))
    simp only [spec_KidsOf.j1]
    simp only [rd_f1]
    rw [hE]
    refine ev_pos (by simp; omega) (ev_pos (by omega) (ev_pos (by omega) (ev_pos (by omega) (ev_pos (by omega) ?_))))
    rw [w64 (x := dpA l i + 1) (by omega) (by omega), w64 (x := (j : Int) + 1) (by omega) (by omega)]
    have := ih (j + 1) (by omega) (by omega)
    rw [kidsTo_step l i j hj] at this
    by_cases hd : dpA l j = dpA l i + 1
    · rw [if_pos hd] at this
      exact ev_pos hd (ev_pos (by omega) this)
    · rw [if_neg hd, List.append_nil] at this
      exact ev_neg hd this
theorem spec_KidsOf_ev (l : List S55) (i : Int) (hm : (l.length : Int) ≤ 9223372036854775806) : Ev (fun k => spec_KidsOf.f k l i) (kidsI l i) := by
  simp only [spec_KidsOf.f]
  by_cases h : hasB l i = true
  · obtain ⟨j, rfl, hj, h1, h2, hv⟩ := hasB_nat h
    have g := @Tree.eo_gt l.length (dpA l) j
    rw [w64 (by omega) (by omega), kidsI_nat h]
    have := spec_KidsOf_l0 l j h hj h2 h1 (Tree.eo l.length (dpA l) j - (j + 1)) (j + 1) (by omega) (by omega)
    have e : kidsTo l j (j + 1) = [] := by unfold kidsTo; rw [Nat.sub_self]; rfl
    rw [e] at this
    exact this
  · refine ev_succ ?_
    simp only [spec_KidsOf.l0]
    refine ev_bind (l3At_ev l i hm) (ev_neg h (ev_succ ?_))
    simp only [spec_KidsOf.j1]
    refine ev_neg (by decide) (ev_some ?_)
    unfold kidsI
    rw [if_neg h]

/-! #### _rankI -/
/-- where x stands first in l -/
def idxJ (l : List Int) (x : Int) : Int := if x ∈ l then (l.idxOf x : Int) else -1
/-- which kid of its parent a node is -/
def rankI (l : List S55) (i : Int) : Int := if parI l i < 0 then -1 else idxJ (kidsI l (parI l i)) i

/-! #### spec_KidRank -/
theorem spec_KidRank_l0 (l : List Int) (x : Int) (hm : (l.length : Int) ≤ 9223372036854775806) : ∀ (d i : Nat), i + d = l.length → (∀ j, j < i → (hj : j < l.length) → l[j] ≠ x) → Ev (fun k => spec_KidRank.l0 k x l (i : Int)) (idxJ l x) := by
  intro d
  induction d with
  | zero =>
    intro i h hn
    refine ev_succ ?_
    simp only [spec_KidRank.l0]
    refine ev_neg (by omega) (ev_some ?_)
    unfold idxJ
    rw [if_neg]
    intro hm2
    obtain ⟨j, hj, e⟩ := List.getElem_of_mem hm2
    exact hn j (by omega) hj e
  | succ d ih =>
    intro i h hn
    refine ev_succ ?_
    simp only [spec_KidRank.l0]
    have hi : i < l.length := by omega
    have e : rd l (i : Int) = l[i] := by simp [rd, hi]
    refine ev_pos (by omega) (ev_pos (by omega) ?_)
    rw [e]
    by_cases hx : l[i] = x
    · refine ev_pos hx (ev_some ?_)
      unfold idxJ
      have hmem : x ∈ l := by rw [← hx]; exact List.getElem_mem hi
      rw [if_pos hmem]
      have hlt := List.idxOf_lt_length_of_mem hmem
      have hge := List.getElem_idxOf hlt
      have h1 : ¬ l.idxOf x < i := fun hlt2 => hn _ hlt2 hlt hge
      have h2 : ¬ i < l.idxOf x := by
        intro hlt2
        have := List.not_of_lt_findIdx (p := (· == x)) (xs := l) (i := i) hlt2
        simp at this
        exact this hx
      omega
    · refine ev_neg hx ?_
      rw [w64 (by omega) (by omega)]
      refine ih (i + 1) (by omega) (fun j hj hjl => ?_)
      by_cases ej : j = i
      · subst ej; exact hx
      · exact hn j (by omega) hjl
theorem spec_KidRank_ev (l : List S55) (i : Int) (hm : (l.length : Int) ≤ 9223372036854775806) : Ev (fun k => spec_KidRank.f k l i) (rankI l i) := by
  simp only [spec_KidRank.f]
  refine ev_bind (spec_ParentOf_ev l i hm) ?_
  unfold rankI
  have hk := kidsI_length l (parI l i)
  by_cases h : parI l i < 0
  · refine ev_pos h ?_
    rw [if_pos h]
    exact Ev.now _
  · refine ev_neg h (ev_bind (spec_KidsOf_ev l _ hm) ?_)
    rw [if_neg h]
    exact spec_KidRank_l0 _ _ (by omega) (kidsI l (parI l i)).length 0 (by omega) (fun j h => absurd h (Nat.not_lt_zero _))

/-! #### _nodeAt -/
/-- the number of what was found, or -1 -/
def optI : Option Nat → Int
  | some k => (k : Int)
  | none => -1
/-- the node that a path leads to, or -1 -/
def nodeI (l : List S55) (p : List Int) : Int := if treeOk l = true then optI (Tree.goDown l.length (dpA l) 0 p) else -1
theorem nodeI_nat {l : List S55} {p : List Int} (h : 0 ≤ nodeI l p) : ∃ k : Nat, nodeI l p = (k : Int) ∧ k < l.length ∧ treeOk l = true ∧ Tree.goDown l.length (dpA l) 0 p = some k := by
  unfold nodeI at h ⊢
  by_cases ht : treeOk l = true
  · rw [if_pos ht] at h ⊢
    have h24 := (treeOk_iff.1 ht).1
    cases hg : Tree.goDown l.length (dpA l) 0 p with
    | none => rw [hg] at h; simp [optI] at h
    | some k => exact ⟨k, rfl, Tree.goDown_lt p 0 k (by omega) hg, ht, rfl⟩
  · rw [if_neg ht] at h; omega
theorem kidsI_ok {l : List S55} {i : Nat} (ht : treeOk l = true) (hi : i < l.length) : kidsI l (i : Int) = (Tree.kids l.length (dpA l) i).map Int.ofNat := by
  unfold kidsI
  rw [if_pos (hasB_iff.2 ⟨ht, by omega, by omega⟩), Int.toNat_natCast]
theorem rd_nat (ks : List Nat) (x : Int) (h0 : 0 ≤ x) (h : x < (ks.length : Int)) : rd (ks.map Int.ofNat) x = ((ks.getD x.toNat 0 : Nat) : Int) := by
  unfold rd
  rw [List.getD_eq_getElem?_getD, List.getElem?_map, List.getD_eq_getElem?_getD, List.getElem?_eq_getElem (by omega)]
  rfl
theorem drop_rd (p : List Int) (j : Nat) (h : j < p.length) : p.drop j = rd p (j : Int) :: p.drop (j + 1) := by
  rw [List.drop_eq_getElem_cons h]
  congr 1
  simp [rd, h]

/-! #### _domFrom -/
/-- the first and the last of a row, -1 where it is empty -/
def firstI (K : List Int) : Int := if (K.length : Int) > 0 then rd K 0 else -1
def lastI (K : List Int) : Int := if (K.length : Int) > 0 then rd K ((K.length : Int) - 1) else -1
/-- what stands ahead of place r, and behind it -/
def prevI (K : List Int) (r : Int) : Int := if r > 0 then rd K (r - 1) else -1
def nextI (K : List Int) (r : Int) : Int := if r + 1 < (K.length : Int) then rd K (r + 1) else -1
/-- a tree's node with its pointers -/
def nodeD (l : List S55) (j : Nat) : S90 :=
  ⟨true, lbA l j, parI l (j : Int), firstI (kidsI l (j : Int)), lastI (kidsI l (j : Int)),
    if parI l (j : Int) ≥ 0 then prevI (kidsI l (parI l (j : Int))) (rankI l (j : Int)) else -1,
    if parI l (j : Int) ≥ 0 then nextI (kidsI l (parI l (j : Int))) (rankI l (j : Int)) else -1⟩
def domT (l : List S55) : List S90 := if treeOk l = true then (List.range l.length).map (nodeD l) else []
theorem idxJ_range (K : List Int) (x : Int) : idxJ K x = -1 ∨ (0 ≤ idxJ K x ∧ idxJ K x < (K.length : Int)) := by
  unfold idxJ
  by_cases h : x ∈ K
  · rw [if_pos h]
    have := List.idxOf_lt_length_of_mem h
    omega
  · rw [if_neg h]; exact .inl rfl
theorem domFrom_snoc (l : List S55) (i : Nat) : (List.range i).map (nodeD l) ++ [nodeD l i] = (List.range (i + 1)).map (nodeD l) := by
  rw [List.range_succ, List.map_append]; rfl
theorem kidsI_neg (l : List S55) {p : Int} (h : p < 0) : kidsI l p = [] := by
  unfold kidsI
  rw [if_neg]
  intro hh
  have := (hasB_iff.1 hh).2.1
  omega
theorem kids_of_par {l : List S55} {i : Nat} (ht : treeOk l = true) (hi : i < l.length) (h : parI l (i : Int) ≥ 0) : ((kidsI l (parI l (i : Int))).length : Int) > 0 := by
  have hh : hasB l (i : Int) = true := hasB_iff.2 ⟨ht, by omega, by omega⟩
  have e : parI l (i : Int) = Tree.par (dpA l) i := by unfold parI; rw [if_pos hh]; rfl
  have hv := treeOk_vd ht
  by_cases h0 : i = 0
  · subst h0
    rw [e, Tree.par_root] at h
    omega
  · obtain ⟨p, e1, a, _, _, _, m⟩ := Tree.par_spec hv (by omega) hi
    rw [e, e1, kidsI_ok ht (by omega)]
    have := List.length_pos_of_mem m
    simp only [List.length_map]
    omega

/-! #### spec_DomFrom -/
theorem spec_DomFrom_j2 (l : List S55) (i : Nat) (acc : List S90) (f3 f4 : Int) (r : List S90) (h24 : l.length ≤ 24) (hi : i < l.length) (ha : acc.length ≤ i)
    (ih : ∀ x : S90, x = ⟨true, lbA l i, parI l (i : Int), f3, f4, if parI l (i : Int) ≥ 0 then prevI (kidsI l (parI l (i : Int))) (rankI l (i : Int)) else -1, if parI l (i : Int) ≥ 0 then nextI (kidsI l (parI l (i : Int))) (rankI l (i : Int)) else -1⟩ → Ev (fun k => spec_DomFrom.l0 k l ((i : Int) + 1) (acc ++ [x])) r) :
    Ev (fun k => spec_DomFrom.j2 k l (i : Int) acc true (lbA l i) (parI l (i : Int)) f3 f4 (-1) (-1)) r := by
  refine ev_succ ?_
  simp only [spec_DomFrom.j2]
  rw [w64 (x := (i : Int) + 1) (by omega) (by omega)]
  have hkl := kidsI_length l (parI l (i : Int))
  by_cases hp : parI l (i : Int) ≥ 0
  · rw [if_pos hp, if_pos hp] at ih
    refine ev_pos hp (ev_bind (spec_KidsOf_ev l _ (by omega)) (ev_bind (spec_KidRank_ev l _ (by omega)) ?_))
    have hr : rankI l (i : Int) = -1 ∨ (0 ≤ rankI l (i : Int) ∧ rankI l (i : Int) < ((kidsI l (parI l (i : Int))).length : Int)) := by
      unfold rankI; rw [if_neg (by omega)]; exact idxJ_range _ _
    rw [w64 (x := rankI l (i : Int) - 1) (by omega) (by omega), w64 (x := rankI l (i : Int) + 1) (by omega) (by omega)]
    unfold prevI nextI at ih
    by_cases h1 : rankI l (i : Int) > 0
    · rw [if_pos h1] at ih
      refine ev_pos h1 (ev_pos (by omega) (ev_pos (by omega) ?_))
      by_cases h2 : rankI l (i : Int) + 1 < ((kidsI l (parI l (i : Int))).length : Int)
      · rw [if_pos h2] at ih
        exact ev_pos h2 (ev_pos (by omega) (ev_pos (by omega) (ih _ rfl)))
      · rw [if_neg h2] at ih
        exact ev_neg h2 (ev_pos (by omega) (ih _ rfl))
    · rw [if_neg h1] at ih
      refine ev_neg h1 ?_
      by_cases h2 : rankI l (i : Int) + 1 < ((kidsI l (parI l (i : Int))).length : Int)
      · rw [if_pos h2] at ih
        exact ev_pos h2 (ev_pos (by omega) (ev_pos (by omega) (ih _ rfl)))
      · rw [if_neg h2] at ih
        exact ev_neg h2 (ev_pos (by omega) (ih _ rfl))
  · rw [if_neg hp, if_neg hp] at ih
    exact ev_neg hp (ev_pos (by omega) (ih _ rfl))
theorem spec_DomFrom_l0 (l : List S55) (ht : treeOk l = true) : ∀ (d i : Nat), i + d = l.length → Ev (fun k => spec_DomFrom.l0 k l (i : Int) ((List.range i).map (nodeD l))) ((List.range l.length).map (nodeD l)) := by
  have h24 := (treeOk_iff.1 ht).1
  intro d
  induction d with
  | zero =>
    intro i h
    refine ev_succ ?_
    simp only [spec_DomFrom.l0]
    refine ev_neg (by omega) (ev_succ ?_)
    simp only [spec_DomFrom.j1]
    have e : i = l.length := by omega
    subst e
    exact ev_neg (by decide) (Ev.now _)
  | succ d ih =>
    intro i h
    refine ev_succ ?_
    simp only [spec_DomFrom.l0]
    refine ev_pos (by omega) (ev_bind (spec_TreeOk_ev l (by omega)) (ev_succ ?_))
    simp only [spec_DomFrom.j1]
    have hkl := kidsI_length l (i : Int)
    have hi := ih (i + 1) (by omega)
    rw [← domFrom_snoc] at hi
    refine ev_pos ht (ev_bindc rfl (ev_pos (by omega) (ev_pos (by omega) (ev_bind (spec_ParentOf_ev l _ (by omega)) (ev_bind (spec_KidsOf_ev l _ (by omega)) ?_)))))
    rw [rd_f0, w64 (x := ((kidsI l (i : Int)).length : Int) - 1) (by omega) (by omega)]
    by_cases hk : ((kidsI l (i : Int)).length : Int) > 0
    · refine ev_pos hk (ev_pos (by omega) (ev_pos (by omega) (ev_pos (by omega) (spec_DomFrom_j2 l i _ _ _ _ (by omega) (by omega) (by simp) (fun x hx => ?_)))))
      have e : x = nodeD l i := by rw [hx]; unfold nodeD firstI lastI; rw [if_pos hk, if_pos hk]
      rw [e]
      exact hi
    · refine ev_neg hk (spec_DomFrom_j2 l i _ _ _ _ (by omega) (by omega) (by simp) (fun x hx => ?_))
      have e : x = nodeD l i := by rw [hx]; unfold nodeD firstI lastI; rw [if_neg hk, if_neg hk]
      rw [e]
      exact hi
theorem spec_DomFrom_ev (l : List S55) (hm : (l.length : Int) ≤ 9223372036854775806) : Ev (fun k => spec_DomFrom.f k l) (domT l) := by
  simp only [spec_DomFrom.f]
  unfold domT
  by_cases ht : treeOk l = true
  · rw [if_pos ht]
    exact spec_DomFrom_l0 l ht l.length 0 (by omega)
  · rw [if_neg ht]
    refine ev_succ ?_
    simp only [spec_DomFrom.l0]
    by_cases h0 : (0 : Int) < (l.length : Int)
    · refine ev_pos h0 (ev_bind (spec_TreeOk_ev l hm) (ev_succ ?_))
      simp only [spec_DomFrom.j1]
      exact ev_neg ht (Ev.now _)
    · refine ev_neg h0 (ev_succ ?_)
      simp only [spec_DomFrom.j1]
      exact ev_neg (by decide) (Ev.now _)

/-! #### laws_toNodeS -/
/-- a node of the law's as one of the program's -/
def cvN (x : S96) : S55 := ⟨x.f0, x.f1⟩
theorem toNodeS_l0 (a : List S96) (hm : (a.length : Int) ≤ 9223372036854775806) : ∀ (d i : Nat) (out : List S55), i + d = a.length → out.length = a.length → out.take i = (a.map cvN).take i → Ev (fun k => laws_toNodeS.l0 k a out i) (a.map cvN) := by
  intro d
  induction d with
  | zero =>
    intro i out h hl ht
    refine ev_succ ?_
    simp only [laws_toNodeS.l0]
    refine ev_neg (by omega) (ev_some ?_)
    rw [List.take_of_length_le (by omega), List.take_of_length_le (by rw [List.length_map]; omega)] at ht
    exact ht
  | succ d ih =>
    intro i out h hl ht
    refine ev_succ ?_
    simp only [laws_toNodeS.l0]
    refine ev_pos (by omega) (ev_pos (by omega) (ev_bindc rfl (ev_pos (by omega) ?_)))
    rw [w64 (by omega) (by omega)]
    refine ih (i + 1) _ (by omega) (by rw [List.length_set]; exact hl) ?_
    have e : ((i : Int)).toNat = i := Int.toNat_natCast i
    rw [e]
    have hi : i < a.length := by omega
    have hr : rd_T96 a i = a[i] := by simp [rd_T96, hi]
    rw [List.take_succ_eq_append_getElem (by rw [List.length_set]; omega), List.take_succ_eq_append_getElem (by rw [List.length_map]; omega), List.getElem_set_self, List.take_set_of_le (Nat.le_refl _), ht, List.getElem_map, hr]
    rfl
theorem toNodeS_ev (a : List S96) (hm : a.length ≤ 17592186044416) : Ev (fun k => laws_toNodeS.f k a) (a.map cvN) := by
  simp only [laws_toNodeS.f]
  refine ev_pos (by omega) (ev_pos (by omega) ?_)
  exact toNodeS_l0 a (by omega) a.length 0 _ (by omega) (by rw [List.length_replicate]; omega) rfl

/-! #### impl_within -/
theorem within_eq (a b c : Int) : impl_within.f a b c = some (decide (b ≤ a ∧ a ≤ c)) := by
  unfold impl_within.f
  by_cases h : b ≤ a
  · rw [if_pos h]; simp [h]
  · rw [if_neg h]; simp [h]

/-! #### impl_LabelOk -/
theorem LabelOk_eq (a : Int) : impl_LabelOk.f a = some (decide (0 ≤ a ∧ a ≤ 5)) := by
  unfold impl_LabelOk.f; rw [within_eq]; rfl

/-! #### impl_TreeOk -/
theorem depthOk_eq (l : List S55) (i : Nat) (hi : i < l.length) (hl : l.length ≤ 24) (hp : 0 < i → 0 ≤ dpA l (i - 1) ∧ dpA l (i - 1) ≤ 12) : impl_depthOk.f l (i : Int) = some (decide (if i = 0 then dpA l i = 0 else 1 ≤ dpA l i ∧ dpA l i ≤ dpA l (i - 1) + 1)) := by
  unfold impl_depthOk.f
  by_cases h0 : i = 0
  · subst h0
    conv => lhs; rw [if_pos (show ((0 : Nat) : Int) = 0 from rfl), if_pos (by omega)]
    congr 1
  · have e1 : (i : Int) - 1 = ((i - 1 : Nat) : Int) := by omega
    have hb := hp (by omega)
    conv => lhs; rw [if_neg (by omega), if_pos (by omega), if_pos (by omega), w64 (x := (i : Int) - 1) (by omega) (by omega), e1, if_pos (by omega), if_pos (by omega), rd_f1, rd_f1, w64 (x := dpA l (i - 1) + 1) (by omega) (by omega), within_eq]
    simp only [h0, if_false, Option.bind_some]
theorem impl_TreeOk_l0 (l : List S55) (hl : l.length ≤ 24) : ∀ (d i : Nat), i + d = l.length → (0 < i → okAt l (i - 1)) → Ev (fun k => impl_TreeOk.l0 k l l (l.length : Int) (i : Int)) (okFrom l i) := by
  intro d
  induction d with
  | zero =>
    intro i h hp
    refine ev_succ ?_
    simp only [impl_TreeOk.l0]
    refine ev_neg (by omega) (ev_some ?_)
    rw [okFrom_end (by omega)]
  | succ d ih =>
    intro i h hp
    refine ev_succ ?_
    simp only [impl_TreeOk.l0]
    simp only [rd_f0, rd_f1]
    rw [okFrom_step (by omega)]
    refine ev_pos (by omega) (ev_pos (by omega) (ev_pos (by omega) (ev_bindc (LabelOk_eq _) ?_)))
    simp only [decide_eq_true_eq]
    by_cases h1 : 0 ≤ lbA l i ∧ lbA l i ≤ 5
    · refine ev_pos h1 (ev_bindc (within_eq _ _ _) ?_)
      simp only [decide_eq_true_eq]
      by_cases h2 : 0 ≤ dpA l i ∧ dpA l i ≤ 12
      · refine ev_pos h2 (ev_bindc (depthOk_eq l i (by omega) hl (fun h0 => (hp h0).2.1)) ?_)
        simp only [decide_eq_true_eq]
        by_cases h3 : (if i = 0 then dpA l i = 0 else 1 ≤ dpA l i ∧ dpA l i ≤ dpA l (i - 1) + 1)
        · refine ev_pos h3 ?_
          have ok : okAt l i := ⟨h1, h2, h3⟩
          rw [w64 (x := (i : Int) + 1) (by omega) (by omega), decide_eq_true ok, Bool.true_and]
          exact ih (i + 1) (by omega) (fun _ => ok)
        · refine ev_neg h3 (ev_some ?_)
          have ok : ¬ okAt l i := fun h => h3 h.2.2
          rw [decide_eq_false ok, Bool.false_and]
      · refine ev_neg h2 (ev_some ?_)
        have ok : ¬ okAt l i := fun h => h2 h.2.1
        rw [decide_eq_false ok, Bool.false_and]
    · refine ev_neg h1 (ev_some ?_)
      have ok : ¬ okAt l i := fun h => h1 h.1
      rw [decide_eq_false ok, Bool.false_and]
theorem impl_TreeOk_ev (l : List S55) : Ev (fun k => impl_TreeOk.f k l) (treeOk l) := by
  simp only [impl_TreeOk.f]
  refine ev_bindc (within_eq _ _ _) ?_
  simp only [decide_eq_true_eq]
  rw [okFrom_zero]
  by_cases h : 1 ≤ l.length ∧ l.length ≤ 24
  · refine ev_pos (by omega) ?_
    rw [decide_eq_true h, Bool.true_and]
    exact impl_TreeOk_l0 l h.2 l.length 0 (by omega) (fun h => absurd h (Nat.lt_irrefl 0))
  · refine ev_neg (by omega) (ev_some ?_)
    rw [decide_eq_false h, Bool.false_and]

/-! #### impl_hasNode -/
theorem hasNode_ev (l : List S55) (i : Int) (hm : (l.length : Int) ≤ 9223372036854775806) : Ev (fun k => impl_hasNode.f k l i) (hasB l i) := by
  simp only [impl_hasNode.f]
  refine ev_bind (impl_TreeOk_ev l) ?_
  unfold hasB
  by_cases h : treeOk l = true
  · refine ev_pos h ?_
    rw [h, w64 (x := (l.length : Int) - 1) (by omega) (by omega)]
    refine ev_bindc (within_eq _ _ _) (ev_some ?_)
    rw [Bool.true_and]
    congr 1
    simp only [eq_iff_iff]
    omega
  · refine ev_neg h (ev_some ?_)
    have : treeOk l = false := by simpa using h
    rw [this, Bool.false_and]

/-! #### impl_ParentOf -/
theorem impl_ParentOf_l0 (l : List S55) (i : Nat) (hi : i < l.length) (hm : l.length ≤ 24) : ∀ (j : Nat), j ≤ i → Ev (fun k => impl_ParentOf.l0 k l (i : Int) ((j : Int) - 1)) (Tree.upFrom (dpA l) (dpA l i) j) := by
  intro j
  induction j with
  | zero =>
    intro _
    refine ev_succ ?_
    simp only [impl_ParentOf.l0]
    exact ev_neg (by omega) (ev_some (by rw [Tree.upFrom]; omega))
  | succ j ih =>
    intro hj
    refine ev_succ ?_
    simp only [impl_ParentOf.l0]
    have e : ((j + 1 : Nat) : Int) - 1 = (j : Int) := by omega
    rw [e, Tree.upFrom]
    simp only [rd_f1]
    refine ev_pos (by omega) (ev_pos (by omega) (ev_pos (by omega) (ev_pos (by omega) (ev_pos (by omega) ?_))))
    by_cases h : dpA l j ≥ dpA l i
    · refine ev_pos h ?_
      rw [if_neg (by omega), w64 (by omega) (by omega)]
      exact ih (by omega)
    · refine ev_neg h (ev_some ?_)
      rw [if_pos (by omega)]
theorem impl_ParentOf_ev (l : List S55) (i : Int) (hm : (l.length : Int) ≤ 9223372036854775806) : Ev (fun k => impl_ParentOf.f k l i) (parI l i) := by
  simp only [impl_ParentOf.f]
  refine ev_bind (hasNode_ev l i hm) ?_
  unfold parI
  by_cases h : hasB l i = true
  · obtain ⟨j, rfl, hj, h1, h2, hv⟩ := hasB_nat h
    refine ev_pos h ?_
    rw [if_pos h, w64 (by omega) (by omega)]
    exact impl_ParentOf_l0 l j hj h2 j (Nat.le_refl _)
  · refine ev_neg h ?_
    rw [if_neg h]
    exact Ev.now _

/-! #### impl_endOf -/
theorem endOf_l0 (l : List S55) (i : Nat) (hi : i < l.length) (hm : l.length ≤ 24) : ∀ (f j : Nat), l.length ≤ j + f → i < j → Ev (fun k => impl_endOf.l0 k l (i : Int) (j : Int)) (Tree.eoFrom l.length (dpA l) (dpA l i) f j : Int) := by
  intro f
  induction f with
  | zero =>
    intro j h h1
    refine ev_succ ?_
    simp only [impl_endOf.l0]
    exact ev_neg (by omega) (Ev.now _)
  | succ f ih =>
    intro j h h1
    refine ev_succ ?_
    simp only [impl_endOf.l0]
    simp only [rd_f1]
    rw [Tree.eoFrom]
    by_cases h2 : j < l.length
    · refine ev_pos (by omega) (ev_pos (by omega) (ev_pos (by omega) (ev_pos (by omega) ?_)))
      by_cases h3 : dpA l j > dpA l i
      · refine ev_pos h3 ?_
        rw [if_pos ⟨h2, h3⟩, w64 (by omega) (by omega)]
        exact ih (j + 1) (by omega) (by omega)
      · refine ev_neg h3 (ev_some ?_)
        rw [if_neg (by omega)]
    · refine ev_neg (by omega) (ev_some ?_)
      rw [if_neg (by omega)]
theorem endOf_ev (l : List S55) (i : Nat) (hi : i < l.length) (hm : l.length ≤ 24) : Ev (fun k => impl_endOf.f k l (i : Int)) (Tree.eo l.length (dpA l) i : Int) := by
  simp only [impl_endOf.f]
  rw [w64 (by omega) (by omega)]
  exact endOf_l0 l i hi hm (l.length - (i + 1)) (i + 1) (by omega) (by omega)

/-! #### impl_KidsOf -/
theorem impl_KidsOf_l0 (l : List S55) (i : Nat) (hi : i < l.length) (hm : l.length ≤ 24) (ht : treeOk l = true) : ∀ (d j : Nat), j + d = Tree.eo l.length (dpA l) i → i < j →
    Ev (fun k => impl_KidsOf.l0 k l (i : Int) (kidsTo l i j) (j : Int)) (kidsTo l i (Tree.eo l.length (dpA l) i)) := by
  have he := Tree.eo_le (D := dpA l) hi
  intro d
  induction d with
  | zero =>
    intro j h hj
    refine ev_succ ?_
    simp only [impl_KidsOf.l0]
    refine ev_bind (endOf_ev l i hi hm) (ev_neg (by omega) (ev_some ?_))
    have : j = Tree.eo l.length (dpA l) i := by omega
    rw [this]
  | succ d ih =>
    intro j h hj
    refine ev_succ ?_
    simp only [impl_KidsOf.l0]
    simp only [rd_f1]
    have d2 := dp_range ht hi
    have hk := kidsTo_length l i j
    refine ev_bind (endOf_ev l i hi hm) (ev_pos (by omega) (ev_pos (by omega) (ev_pos (by omega) (ev_pos (by omega) (ev_pos (by omega) ?_)))))
    rw [w64 (x := dpA l i + 1) (by omega) (by omega), w64 (x := (j : Int) + 1) (by omega) (by omega)]
    have := ih (j + 1) (by omega) (by omega)
    rw [kidsTo_step l i j hj] at this
    by_cases hd : dpA l j = dpA l i + 1
    · rw [if_pos hd] at this
      exact ev_pos hd (ev_pos (by omega) this)
    · rw [if_neg hd, List.append_nil] at this
      exact ev_neg hd this
theorem impl_KidsOf_ev (l : List S55) (i : Int) (hm : (l.length : Int) ≤ 9223372036854775806) : Ev (fun k => impl_KidsOf.f k l i) (kidsI l i) := by
  simp only [impl_KidsOf.f, Option.bind_some]
  refine ev_bind (hasNode_ev l i hm) ?_
  by_cases h : hasB l i = true
  · refine ev_pos h ?_
    obtain ⟨j, rfl, hj, h1, h2, hv⟩ := hasB_nat h
    have g := @Tree.eo_gt l.length (dpA l) j
    rw [w64 (by omega) (by omega), kidsI_nat h]
    have := impl_KidsOf_l0 l j hj h2 h1 (Tree.eo l.length (dpA l) j - (j + 1)) (j + 1) (by omega) (by omega)
    have e : kidsTo l j (j + 1) = [] := by unfold kidsTo; rw [Nat.sub_self]; rfl
    rw [e] at this
    exact this
  · refine ev_neg h (ev_some ?_)
    unfold kidsI
    rw [if_neg h]

/-! #### slices_Index_int_int -/
theorem idxI_l0 (l : List Int) (x : Int) (hm : (l.length : Int) ≤ 9223372036854775806) : ∀ (d i : Nat), i + d = l.length → (∀ j, j < i → (hj : j < l.length) → l[j] ≠ x) → Ev (fun k => slices_Index_int_int.l0 k l x (l.length : Int) (i : Int)) (idxJ l x) := by
  intro d
  induction d with
  | zero =>
    intro i h hn
    refine ev_succ ?_
    simp only [slices_Index_int_int.l0]
    refine ev_neg (by omega) (ev_some ?_)
    unfold idxJ
    rw [if_neg]
    intro hm2
    obtain ⟨j, hj, e⟩ := List.getElem_of_mem hm2
    exact hn j (by omega) hj e
  | succ d ih =>
    intro i h hn
    refine ev_succ ?_
    simp only [slices_Index_int_int.l0]
    have hi : i < l.length := by omega
    have e : rd l (i : Int) = l[i] := by simp [rd, hi]
    refine ev_pos (by omega) (ev_pos (by omega) (ev_pos (by omega) ?_))
    rw [e]
    by_cases hx : x = l[i]
    · refine ev_pos hx (ev_some ?_)
      unfold idxJ
      have hmem : x ∈ l := by rw [hx]; exact List.getElem_mem hi
      rw [if_pos hmem]
      have hlt := List.idxOf_lt_length_of_mem hmem
      have hge := List.getElem_idxOf hlt
      have h1 : ¬ l.idxOf x < i := fun hlt2 => hn _ hlt2 hlt hge
      have h2 : ¬ i < l.idxOf x := by
        intro hlt2
        have := List.not_of_lt_findIdx (p := (· == x)) (xs := l) (i := i) hlt2
        simp at this
        exact this hx.symm
      omega
    · refine ev_neg hx ?_
      rw [w64 (by omega) (by omega)]
      refine ih (i + 1) (by omega) (fun j hj hjl => ?_)
      by_cases ej : j = i
      · subst ej; exact fun h => hx h.symm
      · exact hn j (by omega) hjl
theorem idxI_ev (l : List Int) (x : Int) (hm : (l.length : Int) ≤ 9223372036854775806) : Ev (fun k => slices_Index_int_int.f k l x) (idxJ l x) := by
  simp only [slices_Index_int_int.f]
  exact idxI_l0 l x hm l.length 0 (by omega) (fun j h => absurd h (Nat.not_lt_zero _))

/-! #### impl_DomFrom -/
theorem impl_DomFrom_j1 (l : List S55) (i : Nat) (acc : List S90) (f3 f4 : Int) (r : List S90) (ht : treeOk l = true) (hi : i < l.length) (ha : acc.length ≤ i)
    (ih : ∀ x : S90, x = ⟨true, lbA l i, parI l (i : Int), f3, f4, if parI l (i : Int) ≥ 0 then prevI (kidsI l (parI l (i : Int))) (rankI l (i : Int)) else -1, if parI l (i : Int) ≥ 0 then nextI (kidsI l (parI l (i : Int))) (rankI l (i : Int)) else -1⟩ → Ev (fun k => impl_DomFrom.l0 k l l (l.length : Int) ((i : Int) + 1) (acc ++ [x])) r) :
    Ev (fun k => impl_DomFrom.j1 k l (i : Int) l (l.length : Int) (i : Int) acc true (lbA l i) (parI l (i : Int)) f3 f4 (-1) (-1)) r := by
  have h24 := (treeOk_iff.1 ht).1
  refine ev_succ ?_
  simp only [impl_DomFrom.j1]
  rw [w64 (x := (i : Int) + 1) (by omega) (by omega)]
  have hkl := kidsI_length l (parI l (i : Int))
  refine ev_bind (impl_KidsOf_ev l _ (by omega)) ?_
  by_cases hp : parI l (i : Int) ≥ 0
  · rw [if_pos hp, if_pos hp] at ih
    have hr0 : rankI l (i : Int) = idxJ (kidsI l (parI l (i : Int))) (i : Int) := by unfold rankI; rw [if_neg (by omega)]
    refine ev_pos (kids_of_par ht hi hp) (ev_bind (idxI_ev _ _ (by omega)) ?_)
    rw [← hr0]
    have hr : rankI l (i : Int) = -1 ∨ (0 ≤ rankI l (i : Int) ∧ rankI l (i : Int) < ((kidsI l (parI l (i : Int))).length : Int)) := by
      rw [hr0]; exact idxJ_range _ _
    rw [w64 (x := rankI l (i : Int) - 1) (by omega) (by omega), w64 (x := rankI l (i : Int) + 1) (by omega) (by omega)]
    unfold prevI nextI at ih
    by_cases h1 : rankI l (i : Int) > 0
    · rw [if_pos h1] at ih
      refine ev_pos h1 (ev_pos (by omega) (ev_pos (by omega) ?_))
      by_cases h2 : rankI l (i : Int) + 1 < ((kidsI l (parI l (i : Int))).length : Int)
      · rw [if_pos h2] at ih
        exact ev_pos h2 (ev_pos (by omega) (ev_pos (by omega) (ih _ rfl)))
      · rw [if_neg h2] at ih
        exact ev_neg h2 (ev_pos (by omega) (ih _ rfl))
    · rw [if_neg h1] at ih
      refine ev_neg h1 ?_
      by_cases h2 : rankI l (i : Int) + 1 < ((kidsI l (parI l (i : Int))).length : Int)
      · rw [if_pos h2] at ih
        exact ev_pos h2 (ev_pos (by omega) (ev_pos (by omega) (ih _ rfl)))
      · rw [if_neg h2] at ih
        exact ev_neg h2 (ev_pos (by omega) (ih _ rfl))
  · rw [if_neg hp, if_neg hp] at ih
    rw [kidsI_neg l (by omega)]
    exact ev_neg (by simp) (ev_pos (by omega) (ih _ rfl))
theorem impl_DomFrom_l0 (l : List S55) (ht : treeOk l = true) : ∀ (d i : Nat), i + d = l.length → Ev (fun k => impl_DomFrom.l0 k l l (l.length : Int) (i : Int) ((List.range i).map (nodeD l))) ((List.range l.length).map (nodeD l)) := by
  have h24 := (treeOk_iff.1 ht).1
  intro d
  induction d with
  | zero =>
    intro i h
    refine ev_succ ?_
    simp only [impl_DomFrom.l0]
    have e : i = l.length := by omega
    subst e
    exact ev_neg (by omega) (Ev.now _)
  | succ d ih =>
    intro i h
    refine ev_succ ?_
    simp only [impl_DomFrom.l0]
    have hkl := kidsI_length l (i : Int)
    have hi := ih (i + 1) (by omega)
    rw [← domFrom_snoc] at hi
    refine ev_pos (by omega) (ev_pos (by omega) (ev_pos (by omega) (ev_bindc rfl (ev_bind (impl_ParentOf_ev l _ (by omega)) (ev_bind (impl_KidsOf_ev l _ (by omega)) ?_)))))
    rw [rd_f0, w64 (x := ((kidsI l (i : Int)).length : Int) - 1) (by omega) (by omega)]
    by_cases hk : ((kidsI l (i : Int)).length : Int) > 0
    · refine ev_pos hk (ev_pos (by omega) (ev_pos (by omega) (ev_pos (by omega) (impl_DomFrom_j1 l i _ _ _ _ ht (by omega) (by simp) (fun x hx => ?_)))))
      have e : x = nodeD l i := by rw [hx]; unfold nodeD firstI lastI; rw [if_pos hk, if_pos hk]
      rw [e]
      exact hi
    · refine ev_neg hk (impl_DomFrom_j1 l i _ _ _ _ ht (by omega) (by simp) (fun x hx => ?_))
      have e : x = nodeD l i := by rw [hx]; unfold nodeD firstI lastI; rw [if_neg hk, if_neg hk]
      rw [e]
      exact hi
theorem impl_DomFrom_ev (l : List S55) : Ev (fun k => impl_DomFrom.f k l) (domT l) := by
  simp only [impl_DomFrom.f]
  refine ev_bind (impl_TreeOk_ev l) ?_
  unfold domT
  by_cases ht : treeOk l = true
  · rw [if_pos ht]
    exact ev_pos ht (impl_DomFrom_l0 l ht l.length 0 (by omega))
  · rw [if_neg ht]
    exact ev_neg ht (Ev.now _)

/-! #### laws_eqNodeS -/
theorem eqNode_self (a b : Int) : laws_eqNode.f a b a b = some true := by unfold laws_eqNode.f; rw [if_pos rfl, if_pos rfl]
theorem eqNodeS_l0 (a : List S55) (hm : (a.length : Int) ≤ 9223372036854775806) : ∀ (d i : Nat), i + d = a.length → Ev (fun k => laws_eqNodeS.l0 k a a i) true := by
  intro d
  induction d with
  | zero =>
    intro i h
    refine ev_succ ?_
    simp only [laws_eqNodeS.l0]
    exact ev_neg (by omega) (Ev.now _)
  | succ d ih =>
    intro i h
    refine ev_succ ?_
    simp only [laws_eqNodeS.l0]
    refine ev_pos (by omega) (ev_pos (by omega) (ev_pos (by omega) (ev_bindc (eqNode_self _ _) (ev_pos rfl ?_))))
    rw [w64 (by omega) (by omega)]
    exact ih (i + 1) (by omega)
theorem eqNodeS_ev (a : List S55) (hm : (a.length : Int) ≤ 9223372036854775806) : Ev (fun k => laws_eqNodeS.f k a a) true := by
  simp only [laws_eqNodeS.f]
  exact ev_pos trivial (eqNodeS_l0 a hm a.length 0 (by omega))

/-! #### laws_markNodeS -/
/-- the marks of n nodes -/
def seqN (a : Int) (n : Nat) : List S55 := (List.range n).map fun (j : Nat) => ⟨a + 2 * (j : Int), a + 2 * (j : Int) + 1⟩
theorem seqN_length (a : Int) (n : Nat) : (seqN a n).length = n := by simp [seqN]
theorem seqN_succ (a : Int) (n : Nat) : seqN a (n + 1) = seqN a n ++ [⟨a + 2 * (n : Int), a + 2 * (n : Int) + 1⟩] := by simp [seqN, List.range_succ]
theorem seqN_rd (a : Int) (n i : Nat) (h : i < n) : rd_T55 (seqN a n) i = ⟨a + 2 * (i : Int), a + 2 * (i : Int) + 1⟩ := by simp [rd_T55, seqN, h]
theorem markNodeS_l0 (l : List S55) (a : Int) (h0 : 0 ≤ a) (hm : a + 2 * l.length ≤ 9223372036854775805) : ∀ (d i : Nat), i + d = l.length → Ev (fun k => laws_markNodeS.l0 k (seqN a i ++ l.drop i) (a + 2 * i) i) (a + 2 * l.length, seqN a l.length) := by
  intro d
  induction d with
  | zero =>
    intro i h
    refine ev_succ ?_
    simp only [laws_markNodeS.l0]
    have e : i = l.length := by omega
    subst e
    refine ev_neg (by rw [List.length_append, seqN_length, List.length_drop]; omega) (ev_some ?_)
    rw [List.drop_length, List.append_nil]
  | succ d ih =>
    intro i h
    refine ev_succ ?_
    simp only [laws_markNodeS.l0]
    refine ev_pos (by rw [List.length_append, seqN_length, List.length_drop]; omega) (ev_pos (by omega) ?_)
    simp only [Option.bind_some]
    rw [w64 (x := a + 2 * (i : Int) + 1) (by omega) (by omega), w64 (x := a + 2 * (i : Int) + 1 + 1) (by omega) (by omega), w64 (x := (i : Int) + 1) (by omega) (by omega)]
    have hi : i < l.length := by omega
    have e1 : ∀ x : S55, (seqN a i ++ l.drop i).set ((i : Int)).toNat x = seqN a i ++ x :: l.drop (i + 1) := by
      intro x
      rw [Int.toNat_natCast, List.set_append_right _ _ (by rw [seqN_length]; omega), seqN_length, Nat.sub_self, List.drop_eq_getElem_cons hi, List.set_cons_zero]
    have e2 : ∀ (x y : S55), (seqN a i ++ x :: l.drop (i + 1)).set ((i : Int)).toNat y = seqN a i ++ y :: l.drop (i + 1) := by
      intro x y
      rw [Int.toNat_natCast, List.set_append_right _ _ (by rw [seqN_length]; omega), seqN_length, Nat.sub_self, List.set_cons_zero]
    have e3 : ∀ (x : S55), rd_T55 (seqN a i ++ x :: l.drop (i + 1)) (i : Int) = x := by
      intro x; simp [rd_T55, seqN_length]
    rw [e1, e2, e3]
    have := ih (i + 1) (by omega)
    rw [seqN_succ, List.append_assoc] at this
    have e4 : a + 2 * ((i + 1 : Nat) : Int) = a + 2 * (i : Int) + 1 + 1 := by omega
    rw [e4] at this
    exact this
theorem markNodeS_ev (l : List S55) (a : Int) (h0 : 0 ≤ a) (hm : a + 2 * l.length ≤ 9223372036854775805) : Ev (fun k => laws_markNodeS.f k l a) (a + 2 * l.length, seqN a l.length) := by
  simp only [laws_markNodeS.f]
  have := markNodeS_l0 l a h0 hm l.length 0 (by omega)
  simpa [seqN] using this

end Go.Proofs.Ytmbhlfcpdbbogab.QFnExactDomFrom
