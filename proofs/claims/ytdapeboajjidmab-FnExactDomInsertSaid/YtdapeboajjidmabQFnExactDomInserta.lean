/- What the printed functions of the law FnExactDomInsert come to, function by function, from some number of rounds on; each under the bounds that it names. -/
import Derived.Test.YtdapeboajjidmabMFnExactDomInsertx
import Derived.Test.YtdapeboajjidmabMFnExactDomInsertEvAid
import Derived.Test.YtdapeboajjidmabLinks
import Derived.Test.YtdapeboajjidmabTree
import Derived.Test.YtdapeboajjidmabPaths
import Derived.Test.YtdapeboajjidmabBounds
import Derived.Test.YtdapeboajjidmabKin
import Derived.Test.YtdapeboajjidmabMFnExactDomInsertOpens
namespace Go.Proofs.Ytdapeboajjidmab.QFnExactDomInsert
open Go.RowKit Go.Proofs.Ytdapeboajjidmab.PFnExactDomInsert Go.Proofs.YtdapeboajjidmabW.PrintWords Go.Proofs.YtdapeboajjidmabW.PrintLast Go.Proofs.YtdapeboajjidmabW.PrintMore Go.Proofs.Ytdapeboajjidmab.EvAid Go.Proofs.Ytdapeboajjidmab
set_option linter.unusedVariables false
set_option linter.unusedSimpArgs false

/-! #### _opS -/
/-- an operation -/
structure S121 where
  f0 : Int
  f1 : List Int
  f2 : Int
  f3 : Int
  f4 : Int

/-! #### laws_szDom -/
theorem szDom_eq (l : List S135) (a : Int) (h0 : 0 ≤ a) (h1 : a ≤ 1048576) (hl : l.length ≤ maxLen) : laws_szDom.f l a = some (if a < l.length then -1 else a - l.length) := by
  unfold maxLen at hl
  unfold laws_szDom.f laws_szDomNodeS.f
  rw [w64 (x := a - (l.length : Int)) (by omega) (by omega)]
  by_cases h : a < l.length
  · rw [if_pos (by omega), if_pos h]; rfl
  · rw [if_neg (by omega), if_neg h]
    simp only [Option.bind_some]
    rw [if_neg (by omega)]

/-! #### laws_toDom -/
/-- a linked node of the law's as one of the program's -/
def cvD (x : S135) : S72 := ⟨x.f0, x.f1, x.f2, x.f3, x.f4, x.f5, x.f6⟩
theorem toDomNodeS_l0 (a : List S135) (hm : (a.length : Int) ≤ 9223372036854775806) : ∀ (d i : Nat) (out : List S72), i + d = a.length → out.length = a.length → out.take i = (a.map cvD).take i → Ev (fun k => laws_toDomNodeS.l0 k a out i) (a.map cvD) := by
  intro d
  induction d with
  | zero =>
    intro i out h hl ht
    refine ev_succ ?_
    simp only [laws_toDomNodeS.l0]
    refine ev_neg (by omega) (ev_some ?_)
    rw [List.take_of_length_le (by omega), List.take_of_length_le (by rw [List.length_map]; omega)] at ht
    exact ht
  | succ d ih =>
    intro i out h hl ht
    refine ev_succ ?_
    simp only [laws_toDomNodeS.l0]
    refine ev_pos (by omega) (ev_pos (by omega) (ev_bindc rfl (ev_pos (by omega) ?_)))
    rw [w64 (by omega) (by omega)]
    refine ih (i + 1) _ (by omega) (by rw [List.length_set]; exact hl) ?_
    have e : ((i : Int)).toNat = i := Int.toNat_natCast i
    rw [e]
    have hi : i < a.length := by omega
    have hr : rd_T135 a i = a[i] := by simp [rd_T135, hi]
    rw [List.take_succ_eq_append_getElem (by rw [List.length_set]; omega), List.take_succ_eq_append_getElem (by rw [List.length_map]; omega), List.getElem_set_self, List.take_set_of_le (Nat.le_refl _), ht, List.getElem_map, hr]
    rfl
theorem toDom_ev (a : List S135) (hm : a.length ≤ 1099511627776) : Ev (fun k => laws_toDom.f k a) (a.map cvD) := by
  simp only [laws_toDom.f, laws_toDomNodeS.f]
  refine ev_bind ?_ (Ev.now _)
  refine ev_pos (by omega) (ev_pos (by omega) ?_)
  exact toDomNodeS_l0 a (by omega) a.length 0 _ (by omega) (by rw [List.length_replicate]; omega) rfl

/-! #### laws_eqDomNode -/
theorem eqDomNode_self (a0 : Bool) (a1 a2 a3 a4 a5 a6 : Int) : laws_eqDomNode.f a0 a1 a2 a3 a4 a5 a6 a0 a1 a2 a3 a4 a5 a6 = some true := by
  unfold laws_eqDomNode.f
  rw [if_neg (by simp), if_pos rfl, if_pos rfl, if_pos rfl, if_pos rfl, if_pos rfl, if_pos rfl]

/-! #### laws_eqDomNodeS -/
theorem eqDomNodeS_ev (a : List S72) (hm : (a.length : Int) ≤ 9223372036854775806) : Ev (fun k => laws_eqDomNodeS.f k a a) true := by
  have key : ∀ (d i : Nat), i + d = a.length → Ev (fun k => laws_eqDomNodeS.l0 k a a i) true := by
    intro d
    induction d with
    | zero =>
      intro i h
      refine ev_succ ?_
      simp only [laws_eqDomNodeS.l0]
      exact ev_neg (by omega) (Ev.now _)
    | succ d ih =>
      intro i h
      refine ev_succ ?_
      simp only [laws_eqDomNodeS.l0]
      refine ev_pos (by omega) (ev_pos (by omega) (ev_pos (by omega) (ev_bindc (eqDomNode_self _ _ _ _ _ _ _) (ev_pos rfl ?_))))
      rw [w64 (by omega) (by omega)]
      exact ih (i + 1) (by omega)
  simp only [laws_eqDomNodeS.f]
  exact ev_pos trivial (key a.length 0 (by omega))

/-! #### laws_eqDom -/
theorem eqDom_ev (a : List S72) (hm : (a.length : Int) ≤ 9223372036854775806) : Ev (fun k => laws_eqDom.f k a a) true := by
  simp only [laws_eqDom.f]
  exact ev_bind (eqDomNodeS_ev a hm) (ev_pos rfl (Ev.now _))

/-! #### laws_markDomNodeS -/
/-- the marks of one linked node, from a on -/
def mkD (a : Int) : S72 := ⟨(Int.tmod a 3 == 0), a + 1, a + 1 + 1, a + 1 + 1 + 1, a + 1 + 1 + 1 + 1, a + 1 + 1 + 1 + 1 + 1, a + 1 + 1 + 1 + 1 + 1 + 1⟩
theorem mkD_f0 (a : Int) : (mkD a).f0 = (Int.tmod a 3 == 0) := by simp only [mkD]
theorem mkD_f1 (a : Int) : (mkD a).f1 = a + 1 := by simp only [mkD]
theorem mkD_f2 (a : Int) : (mkD a).f2 = a + 1 + 1 := by simp only [mkD]
theorem mkD_f3 (a : Int) : (mkD a).f3 = a + 1 + 1 + 1 := by simp only [mkD]
theorem mkD_f4 (a : Int) : (mkD a).f4 = a + 1 + 1 + 1 + 1 := by simp only [mkD]
theorem mkD_f5 (a : Int) : (mkD a).f5 = a + 1 + 1 + 1 + 1 + 1 := by simp only [mkD]
theorem mkD_f6 (a : Int) : (mkD a).f6 = a + 1 + 1 + 1 + 1 + 1 + 1 := by simp only [mkD]
/-- the marks of n linked nodes -/
def seqD (a : Int) (n : Nat) : List S72 := (List.range n).map fun (j : Nat) => mkD (a + 7 * (j : Int))
theorem seqD_length (a : Int) (n : Nat) : (seqD a n).length = n := by simp [seqD]
theorem seqD_succ (a : Int) (n : Nat) : seqD a (n + 1) = seqD a n ++ [mkD (a + 7 * (n : Int))] := by simp [seqD, List.range_succ]
theorem seqD_rd (a : Int) (n i : Nat) (h : i < n) : rd_T72 (seqD a n) i = mkD (a + 7 * (i : Int)) := by simp [rd_T72, seqD, h]
theorem markDomNodeS_l0 (l : List S72) (a : Int) (h0 : 0 ≤ a) (hm : a + 7 * l.length ≤ 9223372036854775805) : ∀ (d i : Nat), i + d = l.length → Ev (fun k => laws_markDomNodeS.l0 k (seqD a i ++ l.drop i) (a + 7 * i) i) (a + 7 * l.length, seqD a l.length) := by
  intro d
  induction d with
  | zero =>
    intro i h
    refine ev_succ ?_
    simp only [laws_markDomNodeS.l0]
    have e : i = l.length := by omega
    subst e
    refine ev_neg (by rw [List.length_append, seqD_length, List.length_drop]; omega) (ev_some ?_)
    rw [List.drop_length, List.append_nil]
  | succ d ih =>
    intro i h
    refine ev_succ ?_
    simp only [laws_markDomNodeS.l0]
    refine ev_pos (by rw [List.length_append, seqD_length, List.length_drop]; omega) (ev_pos (by omega) ?_)
    simp only [Option.bind_some]
    have hi : i < l.length := by omega
    have e1 : ∀ x : S72, (seqD a i ++ l.drop i).set ((i : Int)).toNat x = seqD a i ++ x :: l.drop (i + 1) := by
      intro x
      rw [Int.toNat_natCast, List.set_append_right _ _ (by rw [seqD_length]; omega), seqD_length, Nat.sub_self, List.drop_eq_getElem_cons hi, List.set_cons_zero]
    have e2 : ∀ (x y : S72), (seqD a i ++ x :: l.drop (i + 1)).set ((i : Int)).toNat y = seqD a i ++ y :: l.drop (i + 1) := by
      intro x y
      rw [Int.toNat_natCast, List.set_append_right _ _ (by rw [seqD_length]; omega), seqD_length, Nat.sub_self, List.set_cons_zero]
    have e3 : ∀ (x : S72), rd_T72 (seqD a i ++ x :: l.drop (i + 1)) (i : Int) = x := by
      intro x; simp [rd_T72, seqD_length]
    have w1 : wrap64 (a + 7 * (i : Int) + 1) = a + 7 * (i : Int) + 1 := w64 (by omega) (by omega)
    have w2 : wrap64 (a + 7 * (i : Int) + 1 + 1) = a + 7 * (i : Int) + 1 + 1 := w64 (by omega) (by omega)
    have w3 : wrap64 (a + 7 * (i : Int) + 1 + 1 + 1) = a + 7 * (i : Int) + 1 + 1 + 1 := w64 (by omega) (by omega)
    have w4 : wrap64 (a + 7 * (i : Int) + 1 + 1 + 1 + 1) = a + 7 * (i : Int) + 1 + 1 + 1 + 1 := w64 (by omega) (by omega)
    have w5 : wrap64 (a + 7 * (i : Int) + 1 + 1 + 1 + 1 + 1) = a + 7 * (i : Int) + 1 + 1 + 1 + 1 + 1 := w64 (by omega) (by omega)
    have w6 : wrap64 (a + 7 * (i : Int) + 1 + 1 + 1 + 1 + 1 + 1) = a + 7 * (i : Int) + 1 + 1 + 1 + 1 + 1 + 1 := w64 (by omega) (by omega)
    have w7 : wrap64 (a + 7 * (i : Int) + 1 + 1 + 1 + 1 + 1 + 1 + 1) = a + 7 * (i : Int) + 1 + 1 + 1 + 1 + 1 + 1 + 1 := w64 (by omega) (by omega)
    have w8 : wrap64 ((i : Int) + 1) = (i : Int) + 1 := w64 (by omega) (by omega)
    simp only [w1, w2, w3, w4, w5, w6, w7, w8, e1, e2, e3]
    clear w1 w2 w3 w4 w5 w6 w7 w8 e1 e2 e3
    have := ih (i + 1) (by omega)
    rw [seqD_succ, List.append_assoc] at this
    have e4 : a + 7 * ((i + 1 : Nat) : Int) = a + 7 * (i : Int) + 1 + 1 + 1 + 1 + 1 + 1 + 1 := by omega
    rw [e4] at this
    exact this
theorem markDomNodeS_ev (l : List S72) (a : Int) (h0 : 0 ≤ a) (hm : a + 7 * l.length ≤ 9223372036854775805) : Ev (fun k => laws_markDomNodeS.f k l a) (a + 7 * l.length, seqD a l.length) := by
  simp only [laws_markDomNodeS.f]
  have := markDomNodeS_l0 l a h0 hm l.length 0 (by omega)
  simpa [seqD] using this

/-! #### laws_markDom -/
theorem markDom_ev (l : List S72) (a : Int) (h0 : 0 ≤ a) (hm : a + 7 * l.length ≤ 9223372036854775805) : Ev (fun k => laws_markDom.f k l a) (a + 7 * l.length, seqD a l.length) := by
  simp only [laws_markDom.f]
  exact ev_bind (markDomNodeS_ev l a h0 hm) (Ev.now _)

/-! #### laws_heldDomNodeS -/
theorem heldDomNodeS_ev (a : Int) (n : Nat) (h0 : 0 ≤ a) (hm : a + 7 * n ≤ 9223372036854775805) : Ev (fun k => laws_heldDomNodeS.f k (seqD a n) a) (a + 7 * n) := by
  have key : ∀ (d i : Nat), i + d = n → Ev (fun k => laws_heldDomNodeS.l0 k (seqD a n) (a + 7 * i) i) (a + 7 * n) := by
    intro d
    induction d with
    | zero =>
      intro i h
      refine ev_succ ?_
      simp only [laws_heldDomNodeS.l0]
      refine ev_neg (by rw [seqD_length]; omega) (ev_some (by omega))
    | succ d ih =>
      intro i h
      refine ev_succ ?_
      simp only [laws_heldDomNodeS.l0]
      have w1 : wrap64 (a + 7 * (i : Int) + 1) = a + 7 * (i : Int) + 1 := w64 (by omega) (by omega)
      have w2 : wrap64 (a + 7 * (i : Int) + 1 + 1) = a + 7 * (i : Int) + 1 + 1 := w64 (by omega) (by omega)
      have w3 : wrap64 (a + 7 * (i : Int) + 1 + 1 + 1) = a + 7 * (i : Int) + 1 + 1 + 1 := w64 (by omega) (by omega)
      have w4 : wrap64 (a + 7 * (i : Int) + 1 + 1 + 1 + 1) = a + 7 * (i : Int) + 1 + 1 + 1 + 1 := w64 (by omega) (by omega)
      have w5 : wrap64 (a + 7 * (i : Int) + 1 + 1 + 1 + 1 + 1) = a + 7 * (i : Int) + 1 + 1 + 1 + 1 + 1 := w64 (by omega) (by omega)
      have w6 : wrap64 (a + 7 * (i : Int) + 1 + 1 + 1 + 1 + 1 + 1) = a + 7 * (i : Int) + 1 + 1 + 1 + 1 + 1 + 1 := w64 (by omega) (by omega)
      have w7 : wrap64 (a + 7 * (i : Int) + 1 + 1 + 1 + 1 + 1 + 1 + 1) = a + 7 * (i : Int) + 1 + 1 + 1 + 1 + 1 + 1 + 1 := w64 (by omega) (by omega)
      have w8 : wrap64 ((i : Int) + 1) = (i : Int) + 1 := w64 (by omega) (by omega)
      simp only [w1, w2, w3, w4, w5, w6, w7, w8, seqD_rd a n i (by omega)]
      clear w1 w2 w3 w4 w5 w6 w7 w8
      refine ev_pos (by rw [seqD_length]; omega) ?_
      refine ev_pos (by omega) ?_
      rw [mkD_f0]
      refine ev_neg (fun h => bne_iff_ne.1 h rfl) ?_
      refine ev_pos (mkD_f1 _) ?_
      refine ev_pos (mkD_f2 _) ?_
      refine ev_pos (mkD_f3 _) ?_
      refine ev_pos (mkD_f4 _) ?_
      refine ev_pos (mkD_f5 _) ?_
      refine ev_pos (mkD_f6 _) ?_
      have e4 : a + 7 * (i : Int) + 1 + 1 + 1 + 1 + 1 + 1 + 1 = a + 7 * ((i + 1 : Nat) : Int) := by omega
      rw [e4]
      exact ih (i + 1) (by omega)
  simp only [laws_heldDomNodeS.f]
  have := key n 0 (by omega)
  simpa using this

/-! #### laws_heldDom -/
theorem heldDom_ev (a : Int) (n : Nat) (h0 : 0 ≤ a) (hm : a + 7 * n ≤ 9223372036854775805) : Ev (fun k => laws_heldDom.f k (seqD a n) a) (a + 7 * n) := by
  simp only [laws_heldDom.f]
  exact ev_bind (heldDomNodeS_ev a n h0 hm) (ev_neg (by omega) (Ev.now _))

/-! #### spec_l1In -/
theorem l1In_eq (a b c : Int) : spec_l1In.f a b c = some (decide (b ≤ a ∧ a ≤ c)) := by
  unfold spec_l1In.f
  by_cases h : a ≥ b
  · rw [if_pos h]; have h' : b ≤ a := h; simp [h']
  · rw [if_neg h]; have h' : ¬ b ≤ a := h; simp [h']

/-! #### spec_LabelOk -/
theorem spec_LabelOk_eq (a : Int) : spec_LabelOk.f a = some (decide (0 ≤ a ∧ a ≤ 5)) := by
  unfold spec_LabelOk.f; rw [l1In_eq]; rfl

/-! #### _nodes -/
/-- the label and the depth at a place -/
def lbA (l : List S62) (j : Nat) : Int := (l.getD j z62).f0
def dpA (l : List S62) (j : Nat) : Int := (l.getD j z62).f1
theorem rd_f0 (l : List S62) (j : Nat) : (rd_T62 l (j : Int)).f0 = lbA l j := id rfl
theorem rd_f1 (l : List S62) (j : Nat) : (rd_T62 l (j : Int)).f1 = dpA l j := id rfl
theorem node_ext {a b : S62} (h0 : a.f0 = b.f0) (h1 : a.f1 = b.f1) : a = b := by cases a; cases b; simp at h0 h1; rw [h0, h1]
theorem rd_node (l : List S62) (j : Nat) : rd_T62 l (j : Int) = ⟨lbA l j, dpA l j⟩ := id rfl
theorem getD_node (l : List S62) (j : Nat) (h : j < l.length) : l[j] = ⟨lbA l j, dpA l j⟩ := by
  apply node_ext
  · simp [lbA, h]
  · simp [dpA, h]
theorem nodes_ext {a b : List S62} (hl : a.length = b.length) (h0 : ∀ j, j < a.length → lbA a j = lbA b j) (h1 : ∀ j, j < a.length → dpA a j = dpA b j) : a = b := by
  apply List.ext_getElem hl
  intro j h2 h3
  rw [getD_node a j h2, getD_node b j h3, h0 j h2, h1 j h2]
/-- a node may stand at its place -/
def okAt (l : List S62) (j : Nat) : Prop := (0 ≤ lbA l j ∧ lbA l j ≤ 5) ∧ (0 ≤ dpA l j ∧ dpA l j ≤ 12) ∧ (if j = 0 then dpA l j = 0 else 1 ≤ dpA l j ∧ dpA l j ≤ dpA l (j - 1) + 1)
instance okAtDec (l : List S62) (j : Nat) : Decidable (okAt l j) := by unfold okAt; infer_instance
/-- the nodes are those of one tree -/
def treeOk (l : List S62) : Bool := decide (1 ≤ l.length ∧ l.length ≤ 24) && decide (∀ j, j < l.length → okAt l j)
theorem treeOk_iff {l : List S62} : treeOk l = true ↔ (1 ≤ l.length ∧ l.length ≤ 24) ∧ ∀ j, j < l.length → okAt l j := by
  simp [treeOk]
theorem treeOk_vd {l : List S62} (h : treeOk l = true) : Tree.Vd l.length (dpA l) := by
  obtain ⟨h1, h2⟩ := treeOk_iff.1 h
  refine ⟨h1.1, ?_, fun j h0 hj => ?_⟩
  · have := (h2 0 h1.1).2.2
    rwa [if_pos rfl] at this
  · have := (h2 j hj).2.2
    rwa [if_neg (by omega)] at this
/-- from place i on all nodes may stand -/
noncomputable def okFrom (l : List S62) (i : Nat) : Bool := cdec (∀ j, i ≤ j → j < l.length → okAt l j)
theorem okFrom_end {l : List S62} {i : Nat} (h : l.length ≤ i) : okFrom l i = true := by
  unfold okFrom
  rw [cdec_iff]
  intro j h1 h2
  omega
theorem okFrom_step {l : List S62} {i : Nat} (h : i < l.length) : okFrom l i = (decide (okAt l i) && okFrom l (i + 1)) := by
  unfold okFrom
  rw [Bool.eq_iff_iff, Bool.and_eq_true, cdec_iff, decide_eq_true_iff, cdec_iff]
  constructor
  · intro a; exact ⟨a i (Nat.le_refl _) h, fun j h1 h2 => a j (by omega) h2⟩
  · rintro ⟨a, b⟩ j h1 h2
    by_cases e : j = i
    · subst e; exact a
    · exact b j (by omega) h2
theorem okFrom_zero (l : List S62) : treeOk l = (decide (1 ≤ l.length ∧ l.length ≤ 24) && okFrom l 0) := by
  unfold treeOk okFrom
  congr 1
  rw [Bool.eq_iff_iff, decide_eq_true_iff, cdec_iff]
  exact ⟨fun h j _ hj => h j hj, fun h j hj => h j (Nat.zero_le _) hj⟩

/-! #### _domPtr -/
/-- node j of a linked tree -/
def dn (D : List S72) (j : Nat) : S72 := D.getD j z72
theorem rd_dn (D : List S72) (j : Nat) : rd_T72 D (j : Int) = dn D j := id rfl
/-- its pointers -/
def ptr (D : List S72) : Links.Ptr := ⟨D.length, fun j => (dn D j).f0, fun j => decide (0 ≤ (dn D j).f1 ∧ (dn D j).f1 ≤ 5), fun j => (dn D j).f2, fun j => (dn D j).f3, fun j => (dn D j).f4, fun j => (dn D j).f5, fun j => (dn D j).f6⟩
def emptyN : S72 := ⟨false, 0, -1, -1, -1, -1, -1⟩
def isEmpty (D : List S72) (j : Nat) : Prop := dn D j = emptyN
theorem emptyN_iff (x : S72) : ((!((x.f0) == false) || (!((x.f1) == 0) || (!((x.f2) == (-1)) || (!((x.f3) == (-1)) || (!((x.f4) == (-1)) || (!((x.f5) == (-1)) || (!((x.f6) == (-1))))))))) = true) ↔ x ≠ emptyN := by
  cases x
  simp only [emptyN, ne_eq, S72.mk.injEq]
  simp only [Bool.or_eq_true, Bool.not_eq_true', beq_eq_false_iff_ne, ne_eq]
  constructor
  · intro h he
    obtain ⟨a, b, c, d, e, f, g⟩ := he
    rcases h with h | h | h | h | h | h | h
    · exact h a
    · exact h b
    · exact h c
    · exact h d
    · exact h e
    · exact h f
    · exact h g
  · intro h
    apply Classical.byContradiction
    intro hn
    simp only [not_or, Classical.not_not] at hn
    exact h ⟨hn.1, hn.2.1, hn.2.2.1, hn.2.2.2.1, hn.2.2.2.2.1, hn.2.2.2.2.2.1, hn.2.2.2.2.2.2⟩
def ofN (S : List Nat) : List Int := S.map Int.ofNat
theorem ofN_length (S : List Nat) : (ofN S).length = S.length := by simp [ofN]
theorem ofN_snoc (S : List Nat) (i : Nat) : ofN S ++ [(i : Int)] = ofN (S ++ [i]) := by unfold ofN; rw [List.map_append]; rfl
theorem mem_ofN {S : List Nat} {c : Nat} : (c : Int) ∈ ofN S ↔ c ∈ S := by
  unfold ofN
  rw [List.mem_map]
  constructor
  · rintro ⟨a, ha, e⟩
    have : a = c := Int.ofNat.inj e
    exact this ▸ ha
  · exact fun h => ⟨c, h, rfl⟩
theorem ofN_rd {S : List Nat} {j : Nat} (h : j < S.length) : rd (ofN S) (j : Int) = ((S.getD j 0 : Nat) : Int) := by
  unfold ofN rd
  rw [Int.toNat_natCast, List.getD_eq_getElem?_getD, List.getElem?_map, List.getD_eq_getElem?_getD, List.getElem?_eq_getElem h]
  rfl
/-- a linked tree's node as a tree's -/
def nodeOf (D : List S72) (x : Nat × Int) : S62 := ⟨(dn D x.1).f1, x.2⟩

/-! #### spec_l16Walk -/
def wbad : List Int := List.replicate 25 0
theorem wbad_length : wbad.length = 25 := by simp [wbad]
/-- what the walk over a node's kids from kid on answers -/
def WKids (D : List S72) (dep kid : Int) (out deps O Dp : List Int) : Prop :=
  out.length ≤ O.length ∧ O.length ≤ 25 ∧ Dp.length = O.length ∧
    ((O.length ≤ 24 ∧ ∃ L, Links.WC (ptr D) kid dep L ∧ O = out ++ ofN (L.map Prod.fst) ∧ Dp = deps ++ L.map Prod.snd) ∨ (24 < O.length ∧ ∀ L, Links.WC (ptr D) kid dep L → 24 < out.length + L.length))
/-- what the walk from node i on answers -/
def WOne (D : List S72) (i dep : Int) (out deps O Dp : List Int) : Prop :=
  out.length < O.length ∧ O.length ≤ 25 ∧ Dp.length = O.length ∧
    ((O.length ≤ 24 ∧ ∃ (c : Nat) (L1 : List (Nat × Int)), i = (c : Int) ∧ c < D.length ∧ dep ≤ 12 ∧ Links.WC (ptr D) (dn D c).f3 (dep + 1) L1 ∧ O = out ++ ofN (c :: L1.map Prod.fst) ∧ Dp = deps ++ dep :: L1.map Prod.snd) ∨
     (24 < O.length ∧ ∀ (c : Nat) (L1 : List (Nat × Int)), i = (c : Int) → c < D.length → dep ≤ 12 → Links.WC (ptr D) (dn D c).f3 (dep + 1) L1 → 24 < out.length + 1 + L1.length))
theorem walk_j0_bad (D : List S72) (a b : Int) (out deps : List Int) : Ev (fun q => spec_l16Walk.j0 q a b out deps true D) (wbad, wbad) := by
  refine ev_succ ?_
  simp only [spec_l16Walk.j0]
  exact ev_pos trivial (ev_pos (by omega) (Ev.now _))
theorem walkF_of (D : List S72) (h1 : 1 ≤ D.length) (h24 : D.length ≤ 24) (out deps : List Int) (ho : out.length ≤ 24) (hd : deps.length = out.length)
    (ih : ∀ i dep : Int, 0 ≤ dep → dep ≤ 12 → ∃ O Dp, Ev (fun q => spec_l16Walk.l0 q dep (out ++ [i]) (deps ++ [dep]) (rd_T72 D i).f3 D) (O, Dp) ∧ WKids D (dep + 1) (rd_T72 D i).f3 (out ++ [i]) (deps ++ [dep]) O Dp)
    (i dep : Int) (d0 : 0 ≤ dep) (d1 : dep ≤ 13) : ∃ O Dp, Ev (fun q => spec_l16Walk.f q D i dep out deps) (O, Dp) ∧ WOne D i dep out deps O Dp := by
  have bad : (∀ (c : Nat) (L1 : List (Nat × Int)), i = (c : Int) → c < D.length → dep ≤ 12 → False) → WOne D i dep out deps wbad wbad := fun h =>
    ⟨by rw [wbad_length]; omega, by rw [wbad_length]; omega, rfl, .inr ⟨by rw [wbad_length]; omega, fun c L1 a b d _ => (h c L1 a b d).elim⟩⟩
  by_cases hp : dep > 12
  · refine ⟨wbad, wbad, ev_succ ?_, bad (fun c L1 _ _ h => by omega)⟩
    simp only [spec_l16Walk.f]
    exact ev_neg (by omega) (ev_pos hp (walk_j0_bad D _ _ _ _))
  · by_cases hr : 0 ≤ i ∧ i ≤ (D.length : Int) - 1
    · obtain ⟨O, Dp, he, k1, k2, k3, hc⟩ := ih i dep d0 (by omega)
      obtain ⟨c, rfl⟩ : ∃ c : Nat, i = (c : Int) := ⟨i.toNat, by omega⟩
      rw [rd_dn] at he hc
      rw [List.length_append, List.length_singleton] at k1
      refine ⟨O, Dp, ev_succ ?_, by omega, k2, k3, ?_⟩
      · simp only [spec_l16Walk.f]
        rw [w64 (x := (D.length : Int) - 1) (by omega) (by omega)]
        refine ev_neg (by omega) (ev_neg hp (ev_bindc (l1In_eq _ _ _) ?_))
        rw [decide_eq_true hr]
        refine ev_succ ?_
        simp only [spec_l16Walk.j0]
        rw [rd_dn]
        exact ev_neg (by simp) (ev_pos (by omega) (ev_pos (by omega) (ev_pos (by omega) (ev_pos (by omega) he))))
      · rcases hc with ⟨h, L, hW, eO, eD⟩ | ⟨h, hno⟩
        · refine .inl ⟨h, c, L, rfl, by omega, by omega, hW, ?_, ?_⟩
          · rw [eO, List.append_assoc]; rfl
          · rw [eD, List.append_assoc]; rfl
        · refine .inr ⟨h, fun c' L1 e _ _ hW => ?_⟩
          have ec : c' = c := by omega
          subst ec
          have := hno L1 hW
          rw [List.length_append, List.length_singleton] at this
          exact this
    · refine ⟨wbad, wbad, ev_succ ?_, bad (fun c L1 e hc _ => by omega)⟩
      simp only [spec_l16Walk.f]
      rw [w64 (x := (D.length : Int) - 1) (by omega) (by omega)]
      refine ev_neg (by omega) (ev_neg hp (ev_bindc (l1In_eq _ _ _) ?_))
      rw [decide_eq_false hr]
      exact walk_j0_bad D _ _ _ _
theorem walk_l0 (D : List S72) (h1 : 1 ≤ D.length) (h24 : D.length ≤ 24) : ∀ (m : Nat) (out deps : List Int), out.length + m = 25 → deps.length = out.length → ∀ (dep kid : Int), 0 ≤ dep → dep ≤ 12 → ∃ O Dp, Ev (fun q => spec_l16Walk.l0 q dep out deps kid D) (O, Dp) ∧ WKids D (dep + 1) kid out deps O Dp := by
  intro m
  induction m using Nat.strongRecOn with
  | ind m ih =>
    intro out deps hm hd dep kid d0 d1
    by_cases hk : kid = -1
    · refine ⟨out, deps, ev_succ ?_, Nat.le_refl _, by omega, hd, ?_⟩
      · simp only [spec_l16Walk.l0]
        refine ev_pos hk (ev_succ ?_)
        simp only [spec_l16Walk.j2]
        exact ev_neg (by simp) (Ev.now _)
      · by_cases ho : out.length ≤ 24
        · exact .inl ⟨ho, [], .nil hk, by simp [ofN], by simp⟩
        · exact .inr ⟨by omega, fun L _ => by omega⟩
    · by_cases ho : out.length ≤ 24
      · by_cases hr : 0 ≤ kid ∧ kid ≤ (D.length : Int) - 1
        · obtain ⟨O1, D1, he1, g1, g2, g3, hc1⟩ := walkF_of D h1 h24 out deps ho hd (fun i dp e0 e1 => ih (m - 1) (by omega) (out ++ [i]) (deps ++ [dp]) (by rw [List.length_append, List.length_singleton]; omega) (by rw [List.length_append, List.length_append, hd]; rfl) dp _ e0 e1) kid (dep + 1) (by omega) (by omega)
          obtain ⟨c, rfl⟩ : ∃ c : Nat, kid = (c : Int) := ⟨kid.toNat, by omega⟩
          obtain ⟨O, Dp, he, k1, k2, k3, hc⟩ := ih (25 - O1.length) (by omega) O1 D1 (by omega) g3 dep (dn D c).f6 d0 d1
          refine ⟨O, Dp, ev_succ ?_, by omega, k2, k3, ?_⟩
          · simp only [spec_l16Walk.l0]
            refine ev_neg hk ?_
            rw [decide_eq_true (show (out.length : Int) ≤ 24 by omega)]
            refine ev_succ ?_
            simp only [spec_l16Walk.j2]
            rw [w64 (x := (D.length : Int) - 1) (by omega) (by omega), w64 (x := dep + 1) (by omega) (by omega), rd_dn]
            refine ev_pos trivial (ev_bindc (l1In_eq _ _ _) ?_)
            rw [decide_eq_true hr]
            exact ev_pos rfl (ev_bind he1 (ev_pos (by omega) (ev_pos (by omega) he)))
          · rcases hc with ⟨hO, L2, hW2, eO, eD⟩ | ⟨hO, hno⟩
            · rcases hc1 with ⟨_, c', L1, ec, hc', hd', hW1, eO1, eD1⟩ | ⟨h, _⟩
              · have e' : c' = c := by omega
                subst e'
                refine .inl ⟨hO, (c', dep + 1) :: (L1 ++ L2), .cons c' rfl hc' hd' hW1 hW2, ?_, ?_⟩
                · rw [eO, eO1]; simp [ofN]
                · rw [eD, eD1]; simp
              · omega
            · refine .inr ⟨hO, fun L hW => ?_⟩
              cases hW with
              | nil hk' => exact absurd hk' hk
              | cons c'' e hn hdd hW1' hW2' =>
                have e'' : c'' = c := by omega
                subst e''
                rw [List.length_cons, List.length_append]
                rcases hc1 with ⟨_, c', L1, ec, hc', hd', hW1, eO1, eD1⟩ | ⟨h, hno1⟩
                · have e' : c' = c'' := by omega
                  subst e'
                  have eL := hW1.det hW1'
                  have a := hno _ hW2'
                  have b : O1.length = out.length + (1 + L1.length) := by rw [eO1, List.length_append, ofN_length, List.length_cons, List.length_map]; omega
                  rw [eL] at b
                  omega
                · have a := hno1 c'' _ rfl hn hdd hW1'
                  omega
        · refine ⟨wbad, wbad, ev_succ ?_, by rw [wbad_length]; omega, by rw [wbad_length]; omega, rfl, .inr ⟨by rw [wbad_length]; omega, fun L hW => ?_⟩⟩
          · simp only [spec_l16Walk.l0]
            refine ev_neg hk ?_
            rw [decide_eq_true (show (out.length : Int) ≤ 24 by omega)]
            refine ev_succ ?_
            simp only [spec_l16Walk.j2]
            rw [w64 (x := (D.length : Int) - 1) (by omega) (by omega)]
            refine ev_pos trivial (ev_bindc (l1In_eq _ _ _) ?_)
            rw [decide_eq_false hr]
            exact ev_neg (by decide) (ev_pos (by omega) (Ev.now _))
          · cases hW with
            | nil hk' => exact absurd hk' hk
            | cons c e hn _ _ _ =>
              have hn' : c < D.length := hn
              omega
      · refine ⟨out, deps, ev_succ ?_, Nat.le_refl _, by omega, hd, .inr ⟨by omega, fun L _ => by omega⟩⟩
        simp only [spec_l16Walk.l0]
        refine ev_neg hk ?_
        rw [decide_eq_false (show ¬ (out.length : Int) ≤ 24 by omega)]
        refine ev_succ ?_
        simp only [spec_l16Walk.j2]
        exact ev_neg (by simp) (Ev.now _)
theorem walk_all (D : List S72) (h1 : 1 ≤ D.length) (h24 : D.length ≤ 24) : ∃ O Dp, Ev (fun q => spec_l16Walk.f q D 0 0 ([] : List Int) ([] : List Int)) (O, Dp) ∧ O.length ≤ 25 ∧ ((O.length ≤ 24 ∧ ∃ L1, Links.WT (ptr D) 0 0 L1 ∧ O = ofN (0 :: L1.map Prod.fst)) ∨ (24 < O.length ∧ ∀ L1, Links.WT (ptr D) 0 0 L1 → 24 < 1 + L1.length)) := by
  obtain ⟨O, Dp, he, _, k2, _, hc⟩ := walkF_of D h1 h24 [] [] (by simp) rfl (fun i dp e0 e1 => walk_l0 D h1 h24 24 _ _ (by simp) (by simp) dp _ e0 e1) 0 0 (by omega) (by omega)
  refine ⟨O, Dp, he, k2, ?_⟩
  rcases hc with ⟨h, c, L1, e, hcn, hd, hW, eO, _⟩ | ⟨h, hno⟩
  · have ec : c = 0 := by omega
    subst ec
    exact .inl ⟨h, L1, ⟨hcn, hd, hW⟩, by rw [eO, List.nil_append]⟩
  · refine .inr ⟨h, fun L1 hW => ?_⟩
    have := hno 0 L1 rfl hW.1 hW.2.1 hW.2.2
    simpa using this

/-! #### spec_l16Links -/
theorem links_l0 (D : List S72) (hm : D.length ≤ 24) (i : Int) (a0 : Bool) (a1 a2 a3 a4 a5 a6 : Int) : ∀ {k dep : Int} {L : List (Nat × Int)}, Links.WC (ptr D) k dep L → ∀ lst : Int, ∃ b, Ev (fun q => spec_l16Links.l0 q i lst k D a0 a1 a2 a3 a4 a5 a6) b ∧ (b = true ↔ Links.LC (ptr D) i lst k a4) := by
  intro k dep L h
  induction h with
  | nil hk =>
    intro lst
    refine ⟨a4 == lst, ev_succ ?_, ?_⟩
    · simp only [spec_l16Links.l0]
      exact ev_pos hk (Ev.now _)
    · rw [beq_iff_eq]
      constructor
      · intro e; subst e; exact .nil hk
      · intro h
        cases h with
        | nil _ => rfl
        | cons c hc _ _ _ _ => omega
  | cons c hc hn hd h1 h2 ih1 ih2 =>
    intro lst
    subst hc
    have hn' : c < D.length := hn
    by_cases p : (dn D c).f2 = i
    · by_cases v : (dn D c).f5 = lst
      · obtain ⟨b, he, hb⟩ := ih2 (c : Int)
        refine ⟨b, ev_succ ?_, hb.trans ⟨fun h => .cons c rfl hn p v h, fun h => ?_⟩⟩
        · simp only [spec_l16Links.l0]
          rw [rd_dn]
          exact ev_neg (by omega) (ev_pos (by omega) (ev_pos (by omega) (ev_pos p (ev_pos v he))))
        · cases h with
          | nil hk => omega
          | cons c' hc' _ _ _ hr =>
            have e : c' = c := by omega
            subst e
            exact hr
      · refine ⟨false, ev_succ ?_, ⟨fun h => (by cases h), fun h => ?_⟩⟩
        · simp only [spec_l16Links.l0]
          rw [rd_dn]
          exact ev_neg (by omega) (ev_pos (by omega) (ev_pos (by omega) (ev_pos p (ev_neg v (Ev.now _)))))
        · cases h with
          | nil hk => omega
          | cons c' hc' _ _ hv _ =>
            have e : c' = c := by omega
            subst e
            exact absurd hv v
    · refine ⟨false, ev_succ ?_, ⟨fun h => (by cases h), fun h => ?_⟩⟩
      · simp only [spec_l16Links.l0]
        rw [rd_dn]
        exact ev_neg (by omega) (ev_pos (by omega) (ev_pos (by omega) (ev_neg p (Ev.now _))))
      · cases h with
        | nil hk => omega
        | cons c' hc' _ hp _ _ =>
          have e : c' = c := by omega
          subst e
          exact absurd hp p
theorem links_ev (D : List S72) (hm : D.length ≤ 24) (i : Nat) (hi : i < D.length) {d : Int} {L : List (Nat × Int)} (h : Links.WC (ptr D) ((ptr D).first i) d L) : ∃ b, Ev (fun q => spec_l16Links.f q D (i : Int)) b ∧ (b = true ↔ Links.Links (ptr D) i) := by
  obtain ⟨b, he, hb⟩ := links_l0 D hm (i : Int) (dn D i).f0 (dn D i).f1 (dn D i).f2 (dn D i).f3 (dn D i).f4 (dn D i).f5 (dn D i).f6 h (-1)
  refine ⟨b, ?_, hb⟩
  simp only [spec_l16Links.f]
  rw [rd_dn]
  exact ev_pos (by omega) (ev_pos (by omega) he)

/-! #### impl_within -/
theorem within_eq (a b c : Int) : impl_within.f a b c = some (decide (b ≤ a ∧ a ≤ c)) := by
  unfold impl_within.f
  by_cases h : b ≤ a
  · rw [if_pos h]; simp [h]
  · rw [if_neg h]; simp [h]

/-! #### impl_LabelOk -/
theorem LabelOk_eq (a : Int) : impl_LabelOk.f a = some (decide (0 ≤ a ∧ a ≤ 5)) := by
  unfold impl_LabelOk.f; rw [within_eq]; rfl

/-! #### _hasB -/
/-- the tree is one, and has a node i -/
def hasB (l : List S62) (i : Int) : Bool := treeOk l && decide (0 ≤ i ∧ i < (l.length : Int))
theorem hasB_iff {l : List S62} {i : Int} : hasB l i = true ↔ treeOk l = true ∧ 0 ≤ i ∧ i < (l.length : Int) := by simp [hasB]
theorem hasB_nat {l : List S62} {i : Int} (h : hasB l i = true) : ∃ j : Nat, i = (j : Int) ∧ j < l.length ∧ treeOk l = true ∧ l.length ≤ 24 ∧ Tree.Vd l.length (dpA l) := by
  obtain ⟨h1, h2, h3⟩ := hasB_iff.1 h
  exact ⟨i.toNat, by omega, by omega, h1, (treeOk_iff.1 h1).1.2, treeOk_vd h1⟩
/-- the end of node i as the program tells it -/
def endI (l : List S62) (i : Int) : Int := if hasB l i = true then (Tree.eo l.length (dpA l) i.toNat : Int) else -1
/-- node i and what is below it as a tree of its own -/
def subT (l : List S62) (i : Int) : List S62 := if hasB l i = true then (List.range' i.toNat (Tree.eo l.length (dpA l) i.toNat - i.toNat)).map (fun (j : Nat) => (⟨lbA l j, dpA l j - dpA l i.toNat⟩ : S62)) else []
theorem subT_length (l : List S62) (i : Int) : (subT l i).length ≤ l.length := by
  unfold subT
  split
  · rename_i h
    obtain ⟨j, rfl, hj, _, _, _⟩ := hasB_nat h
    have := Tree.eo_le (D := dpA l) hj
    simp only [List.length_map, List.length_range', Int.toNat_natCast]
    omega
  · simp
/-- the kids of node i -/
def kidsI (l : List S62) (i : Int) : List Int := if hasB l i = true then (Tree.kids l.length (dpA l) i.toNat).map Int.ofNat else []
theorem kidsI_length (l : List S62) (i : Int) : (kidsI l i).length ≤ l.length := by
  unfold kidsI
  split
  · rename_i h
    obtain ⟨j, rfl, hj, _, _, _⟩ := hasB_nat h
    have := Tree.eo_le (D := dpA l) hj
    have := Tree.kids_length (n := l.length) (D := dpA l) (i := j)
    simp only [List.length_map, Int.toNat_natCast]
    omega
  · simp
theorem dp_range {l : List S62} (h : treeOk l = true) {j : Nat} (hj : j < l.length) : 0 ≤ dpA l j ∧ dpA l j ≤ 12 := ((treeOk_iff.1 h).2 j hj).2.1
theorem lb_range {l : List S62} (h : treeOk l = true) {j : Nat} (hj : j < l.length) : 0 ≤ lbA l j ∧ lbA l j ≤ 5 := ((treeOk_iff.1 h).2 j hj).1
/-- the two lists of nodes are the same -/
noncomputable def sameT (a b : List S62) : Bool := cdec (a = b)
theorem sameT_iff {a b : List S62} : sameT a b = true ↔ a = b := cdec_iff
theorem sameT_self (a : List S62) : sameT a a = true := sameT_iff.2 rfl
/-- .. from place i on -/
noncomputable def sameFrom (a b : List S62) (i : Nat) : Bool := cdec (∀ j, i ≤ j → j < a.length → lbA a j = lbA b j ∧ dpA a j = dpA b j)
theorem sameFrom_end {a b : List S62} {i : Nat} (h : a.length ≤ i) : sameFrom a b i = true := by
  unfold sameFrom
  rw [cdec_iff]
  intro j h1 h2
  omega
theorem sameFrom_step {a b : List S62} {i : Nat} (h : i < a.length) : sameFrom a b i = (decide (lbA a i = lbA b i ∧ dpA a i = dpA b i) && sameFrom a b (i + 1)) := by
  unfold sameFrom
  rw [Bool.eq_iff_iff, Bool.and_eq_true, cdec_iff, decide_eq_true_iff, cdec_iff]
  constructor
  · intro x; exact ⟨x i (Nat.le_refl _) h, fun j h1 h2 => x j (by omega) h2⟩
  · rintro ⟨x, y⟩ j h1 h2
    by_cases e : j = i
    · subst e; exact x
    · exact y j (by omega) h2
theorem sameFrom_zero {a b : List S62} (h : a.length = b.length) : sameFrom a b 0 = sameT a b := by
  unfold sameFrom sameT
  rw [Bool.eq_iff_iff, cdec_iff, cdec_iff]
  constructor
  · intro x; exact nodes_ext h (fun j hj => (x j (Nat.zero_le _) hj).1) (fun j hj => (x j (Nat.zero_le _) hj).2)
  · intro e; subst e; exact fun j _ _ => ⟨rfl, rfl⟩
theorem same_cond (x0 x1 y0 y1 : Int) : ((!(x0 == y0) || !(x1 == y1)) = true) ↔ ¬ (x0 = y0 ∧ x1 = y1) := by
  by_cases h0 : x0 = y0 <;> by_cases h1 : x1 = y1 <;> simp [h0, h1]
/-- node i's parent -/
def parI (l : List S62) (i : Int) : Int := if hasB l i = true then Tree.par (dpA l) i.toNat else -1

/-! #### _rankI -/
/-- where x stands first in l -/
def idxJ (l : List Int) (x : Int) : Int := if x ∈ l then (l.idxOf x : Int) else -1
/-- which kid of its parent a node is -/
def rankI (l : List S62) (i : Int) : Int := if parI l i < 0 then -1 else idxJ (kidsI l (parI l i)) i

/-! #### slices_Index_int_int -/
theorem idxI_l0 (l : List Int) (x : Int) (hm : (l.length : Int) ≤ 9223372036854775806) : ∀ (d i : Nat), i + d = l.length → (∀ j, j < i → (hj : j < l.length) → l[j] ≠ x) → Ev (fun k => slices_Index_int_int.l0 k l x (l.length : Int) (i : Int)) (idxJ l x) := by
  intro d
  induction d with
  | zero =>
    intro i h hn
    refine ev_succ ?_
    simp only [slices_Index_int_int.l0]
    refine ev_neg (by omega) (ev_some ?_)
    unfold idxJ
    rw [if_neg]
    intro hm2
    obtain ⟨j, hj, e⟩ := List.getElem_of_mem hm2
    exact hn j (by omega) hj e
  | succ d ih =>
    intro i h hn
    refine ev_succ ?_
    simp only [slices_Index_int_int.l0]
    have hi : i < l.length := by omega
    have e : rd l (i : Int) = l[i] := by simp [rd, hi]
    refine ev_pos (by omega) (ev_pos (by omega) (ev_pos (by omega) ?_))
    rw [e]
    by_cases hx : x = l[i]
    · refine ev_pos hx (ev_some ?_)
      unfold idxJ
      have hmem : x ∈ l := by rw [hx]; exact List.getElem_mem hi
      rw [if_pos hmem]
      have hlt := List.idxOf_lt_length_of_mem hmem
      have hge := List.getElem_idxOf hlt
      have h1 : ¬ l.idxOf x < i := fun hlt2 => hn _ hlt2 hlt hge
      have h2 : ¬ i < l.idxOf x := by
        intro hlt2
        have := List.not_of_lt_findIdx (p := (· == x)) (xs := l) (i := i) hlt2
        simp at this
        exact this hx.symm
      omega
    · refine ev_neg hx ?_
      rw [w64 (by omega) (by omega)]
      refine ih (i + 1) (by omega) (fun j hj hjl => ?_)
      by_cases ej : j = i
      · subst ej; exact fun h => hx h.symm
      · exact hn j (by omega) hjl
theorem idxI_ev (l : List Int) (x : Int) (hm : (l.length : Int) ≤ 9223372036854775806) : Ev (fun k => slices_Index_int_int.f k l x) (idxJ l x) := by
  simp only [slices_Index_int_int.f]
  exact idxI_l0 l x hm l.length 0 (by omega) (fun j h => absurd h (Nat.not_lt_zero _))

/-! #### slices_Contains_int_int -/
theorem containsI_ev (l : List Int) (x : Int) (hm : (l.length : Int) ≤ 9223372036854775806) : Ev (fun k => slices_Contains_int_int.f k l x) (decide (x ∈ l)) := by
  simp only [slices_Contains_int_int.f]
  refine ev_bind (idxI_ev l x hm) (ev_some ?_)
  congr 1
  unfold idxJ
  by_cases h : x ∈ l
  · rw [if_pos h]
    simp only [ge_iff_le, h, eq_iff_iff, iff_true]
    omega
  · rw [if_neg h]
    simp [h]

/-! #### _visitAll -/
section
variable (D : List S72)
def VisitL (m : Nat) : Prop := ∀ (S : List Nat) (T : List S62) (i : Nat) (dep lst k : Int), S.Nodup → (∀ x ∈ S, x < D.length) → S.length + m = D.length → T.length = S.length → 0 ≤ dep → dep ≤ 12 →
  ∃ T' S' b, Ev (fun q => impl_Dom_visit.l0 q (i : Int) dep T (ofN S) lst k D (dn D i).f0 (dn D i).f1 (dn D i).f2 (dn D i).f3 (dn D i).f4 (dn D i).f5 (dn D i).f6) (T', S', b) ∧
    (b = true → ∃ L out, Links.GC (ptr D) (i : Int) lst k (dep + 1) L out ∧ out = (dn D i).f4 ∧ S' = ofN (S ++ L.map Prod.fst) ∧ T' = T ++ L.map (nodeOf D) ∧ (S ++ L.map Prod.fst).Nodup) ∧
    (b = false → ¬ ∃ L out, Links.GC (ptr D) (i : Int) lst k (dep + 1) L out ∧ out = (dn D i).f4 ∧ (S ++ L.map Prod.fst).Nodup)
def VisitF (m : Nat) : Prop := ∀ (S : List Nat) (T : List S62) (i : Nat) (dep : Int), S.Nodup → (∀ x ∈ S, x < D.length) → S.length + m = D.length → T.length = S.length → 0 ≤ dep → i < D.length → i ∉ S →
  ∃ T' S' b, Ev (fun q => impl_Dom_visit.f q D (i : Int) dep T (ofN S)) (T', S', b) ∧
    (b = true → ∃ L, Links.GT (ptr D) i dep L ∧ S' = ofN (S ++ i :: L.map Prod.fst) ∧ T' = T ++ nodeOf D (i, dep) :: L.map (nodeOf D) ∧ (S ++ i :: L.map Prod.fst).Nodup) ∧
    (b = false → ¬ ∃ L, Links.GT (ptr D) i dep L ∧ (S ++ i :: L.map Prod.fst).Nodup)
theorem visitF_of (hn : D.length ≤ 24) (m : Nat) (hl : ∀ m', m' < m → VisitL D m') : VisitF D m := by
  intro S T i dep hS hr hm hT hd hi hiS
  have hlt : S.length < D.length := by
    have h1 : (i :: S).Nodup := List.nodup_cons.2 ⟨hiS, hS⟩
    have := Links.nodup_le h1 (n := D.length) (fun x hx => by rcases List.mem_cons.1 hx with rfl | hx; exact hi; exact hr x hx)
    simp only [List.length_cons] at this
    omega
  have bad : (¬ ∃ L, Links.GT (ptr D) i dep L ∧ (S ++ i :: L.map Prod.fst).Nodup) → Ev (fun q => impl_Dom_visit.j0 q (i : Int) dep T (ofN S) true D (dn D i).f0 (dn D i).f1 (dn D i).f2 (dn D i).f3 (dn D i).f4 (dn D i).f5 (dn D i).f6) (T, ofN S, false) := by
    intro _
    refine ev_succ ?_
    simp only [impl_Dom_visit.j0]
    exact ev_pos trivial (Ev.now _)
  by_cases hlive : (dn D i).f0 = true
  · by_cases hlab : 0 ≤ (dn D i).f1 ∧ (dn D i).f1 ≤ 5
    · by_cases hdep : dep > 12
      · have hno : ¬ ∃ L, Links.GT (ptr D) i dep L ∧ (S ++ i :: L.map Prod.fst).Nodup := by
          rintro ⟨L, ⟨_, h, _⟩, _⟩; omega
        refine ⟨T, ofN S, false, ev_succ ?_, (fun h => by cases h), fun _ => hno⟩
        simp only [impl_Dom_visit.f]
        rw [rd_dn]
        refine ev_pos (by omega) (ev_pos (by omega) (ev_pos hlive (ev_bindc (LabelOk_eq _) (ev_pos (decide_eq_true hlab) ?_))))
        rw [decide_eq_true hdep]
        exact bad hno
      · have hS2 : (S ++ [i]).Nodup := by
          rw [List.nodup_append]
          exact ⟨hS, by simp, fun a ha b hb e => by rw [List.mem_singleton.1 hb] at e; exact hiS (e ▸ ha)⟩
        obtain ⟨T', S', b, he, ht, hf⟩ := hl (m - 1) (by omega) (S ++ [i]) (T ++ [nodeOf D (i, dep)]) i dep (-1) (dn D i).f3 hS2 (fun x hx => by rcases List.mem_append.1 hx with hx | hx; exact hr x hx; rw [List.mem_singleton.1 hx]; exact hi) (by simp only [List.length_append, List.length_singleton]; omega) (by simp only [List.length_append, List.length_singleton]; omega) hd (by omega)
        refine ⟨T', S', b, ev_succ ?_, fun hb => ?_, fun hb => ?_⟩
        · simp only [impl_Dom_visit.f]
          rw [rd_dn]
          refine ev_pos (by omega) (ev_pos (by omega) (ev_pos hlive (ev_bindc (LabelOk_eq _) (ev_pos (decide_eq_true hlab) ?_))))
          rw [decide_eq_false hdep]
          refine ev_succ ?_
          simp only [impl_Dom_visit.j0]
          refine ev_neg (by decide) (ev_pos (by omega) (ev_pos (by rw [ofN_length]; omega) ?_))
          rw [ofN_snoc]
          exact he
        · obtain ⟨L, out, hg, ho, h1, h2, h3⟩ := ht hb
          subst ho
          refine ⟨L, ⟨hi, by omega, hlive, decide_eq_true hlab, hg⟩, ?_, ?_, ?_⟩
          · rw [h1, List.append_assoc]; rfl
          · rw [h2, List.append_assoc]; rfl
          · rw [List.append_assoc] at h3; exact h3
        · rintro ⟨L, ⟨_, _, _, _, hg⟩, h3⟩
          refine hf hb ⟨L, _, hg, rfl, ?_⟩
          rw [List.append_assoc]; exact h3
    · have hno : ¬ ∃ L, Links.GT (ptr D) i dep L ∧ (S ++ i :: L.map Prod.fst).Nodup := by
        rintro ⟨L, ⟨_, _, _, h, _⟩, _⟩; exact hlab (of_decide_eq_true h)
      refine ⟨T, ofN S, false, ev_succ ?_, (fun h => by cases h), fun _ => hno⟩
      simp only [impl_Dom_visit.f]
      rw [rd_dn]
      exact ev_pos (by omega) (ev_pos (by omega) (ev_pos hlive (ev_bindc (LabelOk_eq _) (ev_neg (by rw [decide_eq_false hlab]; decide) (bad hno)))))
  · have hno : ¬ ∃ L, Links.GT (ptr D) i dep L ∧ (S ++ i :: L.map Prod.fst).Nodup := by
      rintro ⟨L, ⟨_, _, h, _⟩, _⟩; exact hlive h
    refine ⟨T, ofN S, false, ev_succ ?_, (fun h => by cases h), fun _ => hno⟩
    simp only [impl_Dom_visit.f]
    rw [rd_dn]
    exact ev_pos (by omega) (ev_pos (by omega) (ev_neg hlive (bad hno)))
theorem visitL_of (hn : D.length ≤ 24) (m : Nat) (hF : VisitF D m) (hl : ∀ m', m' < m → VisitL D m') : VisitL D m := by
  intro S T i dep lst k hS hr hm hT hd hd2
  have bad : ∀ (b : Bool), b = true → Ev (fun q => impl_Dom_visit.j2 q (i : Int) dep T (ofN S) k b D (dn D i).f0 (dn D i).f1 (dn D i).f2 (dn D i).f3 (dn D i).f4 (dn D i).f5 (dn D i).f6) (T, ofN S, false) := by
    intro b hb
    refine ev_succ ?_
    simp only [impl_Dom_visit.j2]
    exact ev_pos hb (Ev.now _)
  by_cases hk : k = -1
  · refine ⟨T, ofN S, (dn D i).f4 == lst, ev_succ ?_, fun hb => ?_, fun hb => ?_⟩
    · simp only [impl_Dom_visit.l0]
      exact ev_pos hk (Ev.now _)
    · exact ⟨[], lst, .nil hk, (beq_iff_eq.1 hb).symm, by simp, by simp, by simpa using hS⟩
    · rintro ⟨L, out, hg, ho, _⟩
      cases hg with
      | nil _ => rw [ho] at hb; simp at hb
      | cons c hc _ _ _ _ _ _ _ _ => omega
  · have hin : impl_within.f k 0 (wrap64 ((D.length : Int) - 1)) = some (decide (0 ≤ k ∧ k ≤ (D.length : Int) - 1)) := by rw [within_eq, w64 (by omega) (by omega)]
    by_cases hrange : 0 ≤ k ∧ k ≤ (D.length : Int) - 1
    · obtain ⟨c, rfl⟩ : ∃ c : Nat, k = (c : Int) := ⟨k.toNat, by omega⟩
      have hc : c < D.length := by omega
      by_cases hcS : c ∈ S
      · refine ⟨T, ofN S, false, ev_succ ?_, (fun h => by cases h), fun _ => ?_⟩
        · simp only [impl_Dom_visit.l0]
          exact ev_neg hk (ev_bindc hin (ev_pos (decide_eq_true hrange) (ev_bind (containsI_ev _ _ (by rw [ofN_length]; omega)) (ev_pos (decide_eq_true (mem_ofN.2 hcS)) (bad true rfl)))))
        · rintro ⟨L, out, hg, _, hnd⟩
          cases hg with
          | nil h => omega
          | cons c' hc' _ _ _ _ _ _ _ _ =>
            have e : c' = c := by omega
            subst e
            rw [List.map_cons, List.nodup_append] at hnd
            exact hnd.2.2 _ hcS _ List.mem_cons_self rfl
      · have hstart : ∀ (r : List S62 × List Int × Bool), Ev (fun q => if (dn D c).f2 = (i : Int) then impl_Dom_visit.j2 q (i : Int) dep T (ofN S) (c : Int) ((dn D c).f5 != lst) D (dn D i).f0 (dn D i).f1 (dn D i).f2 (dn D i).f3 (dn D i).f4 (dn D i).f5 (dn D i).f6 else impl_Dom_visit.j2 q (i : Int) dep T (ofN S) (c : Int) true D (dn D i).f0 (dn D i).f1 (dn D i).f2 (dn D i).f3 (dn D i).f4 (dn D i).f5 (dn D i).f6) r → Ev (fun q => impl_Dom_visit.l0 q (i : Int) dep T (ofN S) lst (c : Int) D (dn D i).f0 (dn D i).f1 (dn D i).f2 (dn D i).f3 (dn D i).f4 (dn D i).f5 (dn D i).f6) r := by
          intro r h
          refine ev_succ ?_
          simp only [impl_Dom_visit.l0]
          exact ev_neg hk (ev_bindc hin (ev_pos (decide_eq_true hrange) (ev_bind (containsI_ev _ _ (by rw [ofN_length]; omega)) (ev_neg (by simpa [mem_ofN] using hcS) (ev_pos (by omega) (ev_pos (by omega) h))))))
        by_cases hpar : (dn D c).f2 = (i : Int)
        · by_cases hprev : (dn D c).f5 = lst
          · obtain ⟨T1, S1, b1, he1, ht1, hf1⟩ := hF S T c (dep + 1) hS hr hm hT (by omega) hc hcS
            have hj : ∀ (r : List S62 × List Int × Bool), Ev (fun q => if b1 = true then impl_Dom_visit.l0 q (i : Int) dep T1 S1 (c : Int) (dn D c).f6 D (dn D i).f0 (dn D i).f1 (dn D i).f2 (dn D i).f3 (dn D i).f4 (dn D i).f5 (dn D i).f6 else some (T1, S1, false)) r → Ev (fun q => impl_Dom_visit.l0 q (i : Int) dep T (ofN S) lst (c : Int) D (dn D i).f0 (dn D i).f1 (dn D i).f2 (dn D i).f3 (dn D i).f4 (dn D i).f5 (dn D i).f6) r := by
              intro r h
              refine hstart r (ev_pos hpar ?_)
              have e : ((dn D c).f5 != lst) = false := by rw [hprev]; simp
              rw [e]
              refine ev_succ ?_
              simp only [impl_Dom_visit.j2]
              rw [w64 (x := dep + 1) (by omega) (by omega)]
              refine ev_neg (by decide) (ev_bind he1 ?_)
              by_cases hb1 : b1 = true
              · simp only [if_pos hb1] at h ⊢
                exact ev_pos (by omega) (ev_pos (by omega) h)
              · simp only [if_neg hb1] at h ⊢
                exact h
            by_cases hb1 : b1 = true
            · obtain ⟨L1, hg1, hS1, hT1, hnd1⟩ := ht1 hb1
              have hr1 : ∀ x ∈ S ++ c :: L1.map Prod.fst, x < D.length := by
                intro x hx
                rcases List.mem_append.1 hx with hx | hx
                · exact hr x hx
                · rcases List.mem_cons.1 hx with rfl | hx
                  · exact hc
                  · obtain ⟨y, hy, rfl⟩ := Links.mem_fst hx
                    exact hg1.2.2.2.2.walk.1.range y hy
              have hle := Links.nodup_le hnd1 hr1
              have hlen : (S ++ c :: L1.map Prod.fst).length = S.length + L1.length + 1 := by simp only [List.length_append, List.length_cons, List.length_map]; omega
              obtain ⟨T2, S2, b2, he2, ht2, hf2⟩ := hl (D.length - (S ++ c :: L1.map Prod.fst).length) (by omega) (S ++ c :: L1.map Prod.fst) T1 i dep (c : Int) (dn D c).f6 hnd1 hr1 (by omega) (by rw [hT1]; simp only [List.length_append, List.length_cons, List.length_map]; omega) hd hd2
              rw [← hS1] at he2
              refine ⟨T2, S2, b2, hj _ (ev_pos hb1 he2), fun hb => ?_, fun hb => ?_⟩
              · obtain ⟨L2, out, hg2, ho, h1, h2, h3⟩ := ht2 hb
                refine ⟨(c, dep + 1) :: (L1 ++ L2), out, .cons c rfl hc hpar hprev hg1.2.2.1 hg1.2.2.2.1 hg1.2.1 hg1.2.2.2.2 hg2, ho, ?_, ?_, ?_⟩
                · rw [h1]; simp
                · rw [h2, hT1]; simp
                · simpa using h3
              · rintro ⟨L, out, hg, ho, hnd⟩
                cases hg with
                | nil h => omega
                | @cons _ _ _ _ _ L1' L2' c' hc' _ _ _ _ _ _ hga hgb =>
                  have e : c' = c := by omega
                  subst e
                  have eL : L1' = L1 := hga.walk.1.det hg1.2.2.2.2.walk.1
                  subst eL
                  refine hf2 hb ⟨L2', out, hgb, ho, ?_⟩
                  simpa using hnd
            · have hb1' : b1 = false := by simpa using hb1
              refine ⟨T1, S1, false, hj _ (ev_neg hb1 (Ev.now _)), (fun h => by cases h), fun _ => ?_⟩
              rintro ⟨L, out, hg, ho, hnd⟩
              cases hg with
              | nil h => omega
              | @cons _ _ _ _ _ L1' L2' c' hc' hn' _ _ hl' hb' hd' hga hgb =>
                have e : c' = c := by omega
                subst e
                refine hf1 hb1' ⟨L1', ⟨hn', hd', hl', hb', hga⟩, ?_⟩
                have : S ++ ((c', dep + 1) :: (L1' ++ L2')).map Prod.fst = (S ++ c' :: L1'.map Prod.fst) ++ L2'.map Prod.fst := by simp
                rw [this, List.nodup_append] at hnd
                exact hnd.1
          · refine ⟨T, ofN S, false, hstart _ (ev_pos hpar (bad _ (bne_iff_ne.2 hprev))), (fun h => by cases h), fun _ => ?_⟩
            rintro ⟨L, out, hg, ho, hnd⟩
            cases hg with
            | nil h => omega
            | cons c' hc' _ _ hv _ _ _ _ _ =>
              have e : c' = c := by omega
              subst e
              exact hprev hv
        · refine ⟨T, ofN S, false, hstart _ (ev_neg hpar (bad true rfl)), (fun h => by cases h), fun _ => ?_⟩
          rintro ⟨L, out, hg, ho, hnd⟩
          cases hg with
          | nil h => omega
          | cons c' hc' _ hp _ _ _ _ _ _ =>
            have e : c' = c := by omega
            subst e
            exact hpar hp
    · refine ⟨T, ofN S, false, ev_succ ?_, (fun h => by cases h), fun _ => ?_⟩
      · simp only [impl_Dom_visit.l0]
        exact ev_neg hk (ev_bindc hin (ev_neg (by rw [decide_eq_false hrange]; decide) (bad true rfl)))
      · rintro ⟨L, out, hg, ho, hnd⟩
        cases hg with
        | nil h => omega
        | cons c' hc' hn' _ _ _ _ _ _ _ =>
          have : c' < D.length := hn'
          omega
theorem visit_all (hn : D.length ≤ 24) : ∀ m, VisitL D m := by
  intro m
  induction m using Nat.strongRecOn with
  | _ m ih => exact visitL_of D hn m (visitF_of D hn m ih) ih
end

/-! #### _walkedAll -/
/-- what a linked tree must be, as the program's walk tells it -/
def DomG (D : List S72) : Prop := (1 ≤ D.length ∧ D.length ≤ 24) ∧ (dn D 0).f2 = -1 ∧ (dn D 0).f5 = -1 ∧ (dn D 0).f6 = -1 ∧ Links.OkG (ptr D) (isEmpty D)
theorem walked_l0 (D : List S72) (hn : D.length ≤ 24) (T : List S62) (S : List Nat) (hS : S.length ≤ 24) : ∀ (d i : Nat) (b : Bool), i + d = D.length → ∃ b', Ev (fun q => impl_Dom_walked.l0 q T (ofN S) b D (D.length : Int) (i : Int)) (T, ofN S, b') ∧ (b' = true ↔ b = true ∧ ∀ j, i ≤ j → j < D.length → j ∉ S → isEmpty D j) := by
  intro d
  induction d with
  | zero =>
    intro i b h
    refine ⟨b, ev_succ ?_, ?_⟩
    · simp only [impl_Dom_walked.l0]
      exact ev_neg (by omega) (Ev.now _)
    · exact ⟨fun h => ⟨h, fun j h1 h2 => by omega⟩, fun h => h.1⟩
  | succ d ih =>
    intro i b h
    have step : ∀ (b1 : Bool), (b1 = true ↔ b = true ∧ (i ∉ S → isEmpty D i)) → ∃ b', Ev (fun q => impl_Dom_walked.l0 q T (ofN S) b1 D (D.length : Int) ((i : Int) + 1)) (T, ofN S, b') ∧ (b' = true ↔ b = true ∧ ∀ j, i ≤ j → j < D.length → j ∉ S → isEmpty D j) := by
      intro b1 h1
      obtain ⟨b', he, hb⟩ := ih (i + 1) b1 (by omega)
      refine ⟨b', he, hb.trans ⟨fun h2 => ?_, fun h2 => ?_⟩⟩
      · obtain ⟨h3, h4⟩ := h2
        obtain ⟨h5, h6⟩ := h1.1 h3
        refine ⟨h5, fun j j1 j2 j3 => ?_⟩
        by_cases e : j = i
        · subst e; exact h6 j3
        · exact h4 j (by omega) j2 j3
      · exact ⟨h1.2 ⟨h2.1, fun h3 => h2.2 i (Nat.le_refl _) (by omega) h3⟩, fun j j1 j2 j3 => h2.2 j (by omega) j2 j3⟩
    by_cases hb : b = true
    · by_cases hi : i ∈ S
      · obtain ⟨b', he, hb'⟩ := step b ⟨fun h => ⟨h, fun h2 => absurd hi h2⟩, fun h => h.1⟩
        refine ⟨b', ev_succ ?_, hb'⟩
        simp only [impl_Dom_walked.l0]
        rw [w64 (x := (i : Int) + 1) (by omega) (by omega)]
        exact ev_pos (by omega) (ev_pos (by omega) (ev_pos (by omega) (ev_pos hb (ev_bind (containsI_ev _ _ (by rw [ofN_length]; omega)) (ev_pos (decide_eq_true (mem_ofN.2 hi)) he)))))
      · by_cases hem : isEmpty D i
        · obtain ⟨b', he, hb'⟩ := step b ⟨fun h => ⟨h, fun _ => hem⟩, fun h => h.1⟩
          refine ⟨b', ev_succ ?_, hb'⟩
          simp only [impl_Dom_walked.l0]
          rw [w64 (x := (i : Int) + 1) (by omega) (by omega), rd_dn]
          refine ev_pos (by omega) (ev_pos (by omega) (ev_pos (by omega) (ev_pos hb (ev_bind (containsI_ev _ _ (by rw [ofN_length]; omega)) (ev_neg (by simpa [mem_ofN] using hi) (ev_bindc rfl (ev_neg ?_ he)))))))
          exact fun hc => (emptyN_iff (dn D i)).1 hc hem
        · obtain ⟨b', he, hb'⟩ := step false ⟨fun h => (by cases h), fun h => absurd (h.2 hi) hem⟩
          refine ⟨b', ev_succ ?_, hb'⟩
          simp only [impl_Dom_walked.l0]
          rw [w64 (x := (i : Int) + 1) (by omega) (by omega), rd_dn]
          refine ev_pos (by omega) (ev_pos (by omega) (ev_pos (by omega) (ev_pos hb (ev_bind (containsI_ev _ _ (by rw [ofN_length]; omega)) (ev_neg (by simpa [mem_ofN] using hi) (ev_bindc rfl (ev_pos ?_ he)))))))
          exact (emptyN_iff (dn D i)).2 hem
    · obtain ⟨b', he, hb'⟩ := step b ⟨fun h => absurd h hb, fun h => h.1⟩
      refine ⟨b', ev_succ ?_, hb'⟩
      simp only [impl_Dom_walked.l0]
      rw [w64 (x := (i : Int) + 1) (by omega) (by omega)]
      exact ev_pos (by omega) (ev_pos (by omega) (ev_pos (by omega) (ev_neg hb he)))
theorem walked_all (D : List S72) (hm : D.length ≤ 1099511627776) : ∃ T S b, Ev (fun q => impl_Dom_walked.f q D) (T, S, b) ∧ (b = true ↔ DomG D) ∧ (b = true → ∃ L, Links.GT (ptr D) 0 0 L ∧ S = ofN (0 :: L.map Prod.fst) ∧ T = nodeOf D (0, 0) :: L.map (nodeOf D)) := by
  by_cases hn : 1 ≤ D.length ∧ D.length ≤ 24
  · have e0 : rd_T72 D 0 = dn D 0 := id rfl
    have bad : ¬ DomG D → Ev (fun q => impl_Dom_walked.j0 q true D) (([] : List S62), ([] : List Int), false) := by
      intro _
      refine ev_succ ?_
      simp only [impl_Dom_walked.j0]
      exact ev_pos trivial (Ev.now _)
    by_cases h2 : (dn D 0).f2 = -1
    · by_cases h5 : (dn D 0).f5 = -1
      · by_cases h6 : (dn D 0).f6 = -1
        · obtain ⟨T1, S1, b1, he1, ht1, hf1⟩ := visitF_of D hn.2 D.length (fun m' _ => visit_all D hn.2 m') [] [] 0 0 (by simp) (fun x hx => by cases hx) (by simp) rfl (by omega) (by omega) (by simp)
          by_cases hb1 : b1 = true
          · obtain ⟨L, hg, hS1, hT1, hnd⟩ := ht1 hb1
            rw [List.nil_append] at hS1 hT1 hnd
            have hr : ∀ x ∈ 0 :: L.map Prod.fst, x < D.length := by
              intro x hx
              rcases List.mem_cons.1 hx with rfl | hx
              · omega
              · obtain ⟨y, hy, rfl⟩ := Links.mem_fst hx
                exact hg.2.2.2.2.walk.1.range y hy
            have hle := Links.nodup_le hnd hr
            obtain ⟨b', he, hb'⟩ := walked_l0 D hn.2 T1 (0 :: L.map Prod.fst) (by omega) D.length 0 b1 (by omega)
            rw [← hS1] at he
            refine ⟨T1, S1, b', ?_, hb'.trans ⟨fun h => ?_, fun h => ?_⟩, fun _ => ⟨L, hg, hS1, hT1⟩⟩
            · simp only [impl_Dom_walked.f]
              rw [e0]
              refine ev_bindc (within_eq _ _ _) (ev_pos (decide_eq_true (by omega)) (ev_pos (by omega) (ev_pos h2 (ev_pos h5 (ev_succ ?_)))))
              simp only [impl_Dom_walked.j0]
              rw [h6]
              exact ev_neg (by decide) (ev_bind he1 he)
            · exact ⟨hn, h2, h5, h6, L, hg, hnd, fun i hi hiL => h.2 i (Nat.zero_le _) hi hiL⟩
            · obtain ⟨_, _, _, _, L', hg', _, hem⟩ := h
              have eL : L' = L := hg'.2.2.2.2.walk.1.det hg.2.2.2.2.walk.1
              subst eL
              exact ⟨hb1, fun j _ j2 j3 => hem j j2 j3⟩
          · have hb1' : b1 = false := by simpa using hb1
            have hno : ¬ DomG D := by
              rintro ⟨_, _, _, _, L, hg, hnd, _⟩
              exact hf1 hb1' ⟨L, hg, by simpa using hnd⟩
            have hfin : ∀ (d i : Nat), i + d = D.length → Ev (fun q => impl_Dom_walked.l0 q T1 S1 false D (D.length : Int) (i : Int)) (T1, S1, false) := by
              intro d
              induction d with
              | zero =>
                intro i h
                refine ev_succ ?_
                simp only [impl_Dom_walked.l0]
                exact ev_neg (by omega) (Ev.now _)
              | succ d ih =>
                intro i h
                refine ev_succ ?_
                simp only [impl_Dom_walked.l0]
                rw [w64 (x := (i : Int) + 1) (by omega) (by omega)]
                exact ev_pos (by omega) (ev_pos (by omega) (ev_pos (by omega) (ev_neg (by decide) (ih (i + 1) (by omega)))))
            refine ⟨T1, S1, false, ?_, ⟨fun h => (by cases h), fun h => absurd h hno⟩, fun h => (by cases h)⟩
            simp only [impl_Dom_walked.f]
            rw [e0]
            refine ev_bindc (within_eq _ _ _) (ev_pos (decide_eq_true (by omega)) (ev_pos (by omega) (ev_pos h2 (ev_pos h5 (ev_succ ?_)))))
            simp only [impl_Dom_walked.j0]
            rw [h6]
            subst hb1'
            exact ev_neg (by decide) (ev_bind he1 (hfin D.length 0 (by omega)))
        · have hno : ¬ DomG D := fun h => h6 h.2.2.2.1
          refine ⟨[], [], false, ?_, ⟨fun h => (by cases h), fun h => absurd h hno⟩, fun h => (by cases h)⟩
          simp only [impl_Dom_walked.f]
          rw [e0]
          have e : ((dn D 0).f6 != -1) = true := bne_iff_ne.2 h6
          rw [e]
          exact ev_bindc (within_eq _ _ _) (ev_pos (decide_eq_true (by omega)) (ev_pos (by omega) (ev_pos h2 (ev_pos h5 (bad hno)))))
      · have hno : ¬ DomG D := fun h => h5 h.2.2.1
        refine ⟨[], [], false, ?_, ⟨fun h => (by cases h), fun h => absurd h hno⟩, fun h => (by cases h)⟩
        simp only [impl_Dom_walked.f]
        rw [e0]
        exact ev_bindc (within_eq _ _ _) (ev_pos (decide_eq_true (by omega)) (ev_pos (by omega) (ev_pos h2 (ev_neg h5 (bad hno)))))
    · have hno : ¬ DomG D := fun h => h2 h.2.1
      refine ⟨[], [], false, ?_, ⟨fun h => (by cases h), fun h => absurd h hno⟩, fun h => (by cases h)⟩
      simp only [impl_Dom_walked.f]
      rw [e0]
      exact ev_bindc (within_eq _ _ _) (ev_pos (decide_eq_true (by omega)) (ev_pos (by omega) (ev_neg h2 (bad hno))))
  · have hno : ¬ DomG D := fun h => hn h.1
    refine ⟨[], [], false, ?_, ⟨fun h => (by cases h), fun h => absurd h hno⟩, fun h => (by cases h)⟩
    simp only [impl_Dom_walked.f]
    exact ev_bindc (within_eq _ _ _) (ev_neg (by rw [decide_eq_false (by omega)]; decide) (Ev.now _))

end Go.Proofs.Ytdapeboajjidmab.QFnExactDomInsert
