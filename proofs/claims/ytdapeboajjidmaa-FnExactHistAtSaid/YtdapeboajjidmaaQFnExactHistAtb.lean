/- What the printed functions of the law FnExactHistAt come to, function by function, from some number of rounds on; each under the bounds that it names. -/
import Derived.Test.YtdapeboajjidmaaQFnExactHistAta
namespace Go.Proofs.Ytdapeboajjidmaa.QFnExactHistAt
open Go.RowKit Go.Proofs.Ytdapeboajjidmaa.PFnExactHistAt Go.Proofs.YtdapeboajjidmaaW.PrintWords Go.Proofs.YtdapeboajjidmaaW.PrintLast Go.Proofs.YtdapeboajjidmaaW.PrintMore Go.Proofs.Ytdapeboajjidmaa.EvAid Go.Proofs.Ytdapeboajjidmaa
set_option linter.unusedVariables false
set_option linter.unusedSimpArgs false

/-! #### _opOk -/
/-- the numbers of a path are in range -/
def inPath (x : Int) : Bool := decide (0 ≤ x ∧ x ≤ 24)
def pathB (p : List Int) : Bool := p.all inPath && decide ((p.length : Int) ≤ 12)
/-- an operation is one, whatever tree it is for -/
def restB (kind lab fr ct : Int) : Bool :=
  if kind = 1 then decide (0 ≤ lab ∧ lab ≤ 5) && (fr == 0 && ct == 0)
  else if kind = 2 then lab == 0 && (fr == 0 && ct == 0)
  else if kind = 3 then decide (0 ≤ lab ∧ lab ≤ 5) && (decide (0 ≤ fr ∧ fr ≤ 24) && decide (0 ≤ ct ∧ ct ≤ 24))
  else false
def opB (o : S78) : Bool := pathB o.f1 && restB o.f0 o.f2 o.f3 o.f4
def scriptB (ops : List S78) : Bool := ops.all opB && decide ((ops.length : Int) ≤ 60)
theorem all_drop {α : Type} (l : List α) (f : α → Bool) (i : Nat) (h : i < l.length) : (l.drop i).all f = (f l[i] && (l.drop (i + 1)).all f) := by
  rw [List.drop_eq_getElem_cons h, List.all_cons]

/-! #### spec_l15Path -/
theorem l15Path_ev (p : List Int) (hp : (p.length : Int) ≤ 1099511627776) : Ev (fun k => spec_l15Path.f k p) (pathB p) := by
  have key : ∀ (d i : Nat), i + d = p.length → Ev (fun k => spec_l15Path.l0 k p (i : Int)) ((p.drop i).all inPath && decide ((p.length : Int) ≤ 12)) := by
    intro d
    induction d with
    | zero =>
      intro i h
      refine ev_succ ?_
      simp only [spec_l15Path.l0]
      rw [List.drop_eq_nil_of_le (by omega)]
      exact ev_neg (by omega) (ev_some (by simp))
    | succ d ih =>
      intro i h
      have hi : i < p.length := by omega
      have e : rd p (i : Int) = p[i] := by simp [rd, hi]
      refine ev_succ ?_
      simp only [spec_l15Path.l0]
      rw [all_drop p inPath i hi, e]
      refine ev_pos (by omega) (ev_pos (by omega) (ev_bindc (l1In_eq _ _ _) ?_))
      by_cases c : 0 ≤ p[i] ∧ p[i] ≤ 24
      · rw [w64 (x := (i : Int) + 1) (by omega) (by omega)]
        have : inPath p[i] = true := decide_eq_true c
        rw [this, Bool.true_and]
        exact ev_pos (decide_eq_true c) (ih (i + 1) (by omega))
      · have : inPath p[i] = false := decide_eq_false c
        rw [this, Bool.false_and, Bool.false_and]
        exact ev_neg (by simpa using c) (Ev.now _)
  simp only [spec_l15Path.f]
  have := key p.length 0 (by omega)
  rwa [List.drop_zero] at this

/-! #### spec_OpOk -/
theorem spec_OpOk_ev (o : S78) (hp : (o.f1.length : Int) ≤ 1099511627776) : Ev (fun k => spec_OpOk.f k o.f0 o.f1 o.f2 o.f3 o.f4) (opB o) := by
  simp only [spec_OpOk.f]
  refine ev_bind (l15Path_ev o.f1 hp) ?_
  unfold opB
  by_cases h : pathB o.f1 = true
  · refine ev_pos h ?_
    rw [h, Bool.true_and]
    unfold restB
    by_cases k1 : o.f0 = 1
    · refine ev_pos k1 ?_
      rw [if_pos k1]
      refine ev_bindc (spec_LabelOk_eq _) ?_
      by_cases l : 0 ≤ o.f2 ∧ o.f2 ≤ 5
      · rw [decide_eq_true l]
        refine ev_pos rfl ?_
        by_cases f : o.f3 = 0
        · exact ev_pos f (ev_some (by simp [f]))
        · exact ev_neg f (ev_some (by simp [f]))
      · rw [decide_eq_false l]
        exact ev_neg (by decide) (ev_some (by simp))
    · refine ev_neg k1 ?_
      rw [if_neg k1]
      by_cases k2 : o.f0 = 2
      · refine ev_pos k2 ?_
        rw [if_pos k2]
        by_cases l : o.f2 = 0
        · refine ev_pos l ?_
          by_cases f : o.f3 = 0
          · exact ev_pos f (ev_some (by simp [f, l]))
          · exact ev_neg f (ev_some (by simp [f]))
        · exact ev_neg l (ev_some (by simp [l]))
      · refine ev_neg k2 ?_
        rw [if_neg k2]
        by_cases k3 : o.f0 = 3
        · refine ev_pos k3 ?_
          rw [if_pos k3]
          refine ev_bindc (spec_LabelOk_eq _) ?_
          by_cases l : 0 ≤ o.f2 ∧ o.f2 ≤ 5
          · rw [decide_eq_true l]
            refine ev_pos rfl (ev_bindc (l1In_eq _ _ _) ?_)
            by_cases f : 0 ≤ o.f3 ∧ o.f3 ≤ 24
            · rw [decide_eq_true f]
              exact ev_pos rfl (ev_bindc (l1In_eq _ _ _) (ev_some (by simp)))
            · rw [decide_eq_false f]
              exact ev_neg (by decide) (ev_some (by simp))
          · rw [decide_eq_false l]
            exact ev_neg (by decide) (ev_some (by simp))
        · refine ev_neg k3 ?_
          rw [if_neg k3]
          exact Ev.now _
  · refine ev_neg h (ev_some ?_)
    have : pathB o.f1 = false := by simpa using h
    rw [this, Bool.false_and]

/-! #### spec_ScriptOk -/
theorem spec_ScriptOk_ev (ops : List S78) (hb : OpsB ops) : Ev (fun k => spec_ScriptOk.f k ops) (scriptB ops) := by
  have hl := hb.1
  have key : ∀ (d i : Nat), i + d = ops.length → Ev (fun k => spec_ScriptOk.l0 k ops (i : Int)) ((ops.drop i).all opB && decide ((ops.length : Int) ≤ 60)) := by
    intro d
    induction d with
    | zero =>
      intro i h
      refine ev_succ ?_
      simp only [spec_ScriptOk.l0]
      rw [List.drop_eq_nil_of_le (by omega)]
      exact ev_neg (by omega) (ev_some (by simp))
    | succ d ih =>
      intro i h
      have hi : i < ops.length := by omega
      have e : rd_T78 ops (i : Int) = ops[i] := by show ops.getD i _ = _; simp [hi]
      have hp := hb.2 _ (List.getElem_mem hi)
      refine ev_succ ?_
      simp only [spec_ScriptOk.l0]
      rw [all_drop ops opB i hi, e]
      refine ev_pos (by omega) (ev_pos (by omega) (ev_bind (spec_OpOk_ev ops[i] hp) ?_))
      by_cases c : opB ops[i] = true
      · rw [w64 (x := (i : Int) + 1) (by omega) (by omega), c, Bool.true_and]
        exact ev_pos rfl (ih (i + 1) (by omega))
      · have : opB ops[i] = false := by simpa using c
        rw [this, Bool.false_and, Bool.false_and]
        exact ev_neg (by decide) (Ev.now _)
  simp only [spec_ScriptOk.f]
  have := key ops.length 0 (by omega)
  rwa [List.drop_zero] at this

/-! #### _hist -/
/-- all steps can be done, one behind the other -/
def histF : List S80 → List (List S78) → Bool
  | _, [] => true
  | l, s :: r => if (allT l s).2.2 = 0 then (if scriptB s = true then histF (allT l s).1 r else false) else false
def histB (b : List S80) (steps : List (List S78)) : Bool := if treeOk b = true then (if (steps.length : Int) > 6 then false else histF b steps) else false

/-! #### spec_HistOk -/
theorem spec_HistOk_l0 (b : List S80) (steps : List (List S78)) (hm : steps.length ≤ 1048576) (hb : ∀ x ∈ steps, OpsB x) : ∀ (d i : Nat) (l : List S80), i + d = steps.length → l.length ≤ 1099511627776 → Ev (fun k => spec_HistOk.l0 k l (i : Int) b steps) (histF l (steps.drop i)) := by
  intro d
  induction d with
  | zero =>
    intro i l h hl
    refine ev_succ ?_
    simp only [spec_HistOk.l0]
    rw [List.drop_eq_nil_of_le (by omega)]
    exact ev_neg (by omega) (Ev.now _)
  | succ d ih =>
    intro i l h hl
    have hi : i < steps.length := by omega
    have hx := hb _ (List.getElem_mem hi)
    have eg : steps.getD i [] = steps[i] := by simp [hi]
    rw [← eg] at hx
    have hal := allT_length l (steps.getD i []) 1099511627776 (by omega) hl
    refine ev_succ ?_
    simp only [spec_HistOk.l0]
    rw [List.drop_eq_getElem_cons hi, histF, ← eg]
    refine ev_pos (by omega) (ev_pos (by omega) (ev_bind (spec_ApplyAll_ev l _ hx hl) ?_))
    by_cases c : (allT l (steps.getD i [])).2.2 = 0
    · rw [if_pos c]
      refine ev_pos c (ev_bind (spec_ScriptOk_ev _ hx) ?_)
      by_cases s : scriptB (steps.getD i []) = true
      · rw [if_pos s, w64 (x := (i : Int) + 1) (by omega) (by omega)]
        exact ev_pos s (ih (i + 1) _ (by omega) hal)
      · rw [if_neg s]
        exact ev_neg s (Ev.now _)
    · rw [if_neg c]
      exact ev_neg c (Ev.now _)
theorem spec_HistOk_ev (b : List S80) (steps : List (List S78)) (hl : b.length ≤ 1048576) (hm : steps.length ≤ 1048576) (hb : ∀ x ∈ steps, OpsB x) : Ev (fun k => spec_HistOk.f k b steps) (histB b steps) := by
  simp only [spec_HistOk.f]
  refine ev_bind (spec_TreeOk_ev b (by omega)) ?_
  unfold histB
  by_cases ht : treeOk b = true
  · rw [if_pos ht]
    refine ev_pos ht (ev_succ ?_)
    simp only [spec_HistOk.j0]
    by_cases h6 : (steps.length : Int) > 6
    · rw [if_pos h6]
      exact ev_pos (decide_eq_true h6) (Ev.now _)
    · rw [if_neg h6]
      exact ev_neg (by simpa using h6) (ev_bindc (l3Copy_eq b (by omega)) (spec_HistOk_l0 b steps hm hb steps.length 0 b (by omega) (by omega)))
  · rw [if_neg ht]
    refine ev_neg ht (ev_succ ?_)
    simp only [spec_HistOk.j0]
    exact ev_pos trivial (Ev.now _)

/-! #### _histAt -/
/-- the trees of a history, one behind each step, the first ahead -/
noncomputable def statesF : List S80 → List (List S78) → List (List S80)
  | l, [] => [l]
  | l, s :: r => l :: statesF (allT l s).1 r
noncomputable def nthF : List S80 → List (List S78) → Nat → List S80
  | l, [], _ => l
  | l, _ :: _, 0 => l
  | l, s :: r, n + 1 => nthF (allT l s).1 r n
theorem statesF_length : ∀ (r : List (List S78)) (l : List S80), (statesF l r).length = r.length + 1 := by
  intro r
  induction r with
  | nil => intro l; rfl
  | cons s r ih => intro l; rw [statesF, List.length_cons, ih, List.length_cons]
theorem nthF_zero (l : List S80) (r : List (List S78)) : nthF l r 0 = l := by cases r <;> rfl
theorem statesF_get : ∀ (r : List (List S78)) (l : List S80) (n : Nat), n ≤ r.length → (statesF l r).getD n [] = nthF l r n := by
  intro r
  induction r with
  | nil =>
    intro l n h
    have : n = 0 := by simpa using h
    subst this
    rfl
  | cons s r ih =>
    intro l n h
    rw [statesF]
    cases n with
    | zero => rfl
    | succ n =>
      rw [List.length_cons] at h
      rw [List.getD_cons_succ, ih _ n (by omega), nthF]
theorem nthF_length : ∀ (r : List (List S78)) (l : List S80) (n : Nat), l.length ≤ 1099511627776 → (nthF l r n).length ≤ 1099511627776 := by
  intro r
  induction r with
  | nil => intro l n h; exact h
  | cons s r ih =>
    intro l n h
    cases n with
    | zero => exact h
    | succ n => exact ih _ n (allT_length l s 1099511627776 (by omega) h)
noncomputable def histAtT (b : List S80) (steps : List (List S78)) (n : Int) : List S80 := if histB b steps = true then (if 0 ≤ n ∧ n ≤ (steps.length : Int) then nthF b steps n.toNat else []) else []
theorem histAtT_length (b : List S80) (steps : List (List S78)) (n : Int) (h : b.length ≤ 1099511627776) : (histAtT b steps n).length ≤ 1099511627776 := by
  unfold histAtT
  split
  · split
    · exact nthF_length _ _ _ h
    · simp
  · simp

/-! #### spec_HistAt -/
theorem spec_HistAt_l0 (b : List S80) (steps : List (List S78)) (n : Nat) (hn : n ≤ steps.length) (hm : steps.length ≤ 1048576) (hb : ∀ x ∈ steps, OpsB x) : ∀ (d i : Nat) (l : List S80), i + d = n → l.length ≤ 1099511627776 → Ev (fun k => spec_HistAt.l0 k (n : Int) l (i : Int) b steps) (nthF l (steps.drop i) d) := by
  intro d
  induction d with
  | zero =>
    intro i l h hl
    refine ev_succ ?_
    simp only [spec_HistAt.l0]
    rw [nthF_zero]
    exact ev_neg (by omega) (Ev.now _)
  | succ d ih =>
    intro i l h hl
    have hi : i < steps.length := by omega
    have hx := hb _ (List.getElem_mem hi)
    have eg : steps.getD i [] = steps[i] := by simp [hi]
    rw [← eg] at hx
    have hal := allT_length l (steps.getD i []) 1099511627776 (by omega) hl
    refine ev_succ ?_
    simp only [spec_HistAt.l0]
    rw [List.drop_eq_getElem_cons hi, nthF, ← eg]
    refine ev_pos (by omega) (ev_pos (by omega) (ev_pos (by omega) (ev_bind (spec_ApplyAll_ev l _ hx hl) ?_)))
    rw [w64 (x := (i : Int) + 1) (by omega) (by omega)]
    exact ih (i + 1) _ (by omega) hal
theorem spec_HistAt_ev (b : List S80) (steps : List (List S78)) (n : Int) (hl : b.length ≤ 1048576) (hm : steps.length ≤ 1048576) (hb : ∀ x ∈ steps, OpsB x) : Ev (fun k => spec_HistAt.f k b steps n) (histAtT b steps n) := by
  simp only [spec_HistAt.f]
  refine ev_bind (spec_HistOk_ev b steps hl hm hb) ?_
  unfold histAtT
  by_cases h : histB b steps = true
  · rw [if_pos h]
    refine ev_pos h (ev_bindc (l1In_eq _ _ _) (ev_succ ?_))
    simp only [spec_HistAt.j0]
    by_cases hn : 0 ≤ n ∧ n ≤ (steps.length : Int)
    · rw [if_pos hn]
      refine ev_neg (by simp [hn]) (ev_bindc (l3Copy_eq b (by omega)) ?_)
      have := spec_HistAt_l0 b steps n.toNat (by omega) hm hb n.toNat 0 b (by omega) (by omega)
      rw [show ((n.toNat : Nat) : Int) = n by omega] at this
      exact this
    · rw [if_neg hn]
      exact ev_pos (by simp; omega) (Ev.now _)
  · rw [if_neg h]
    refine ev_neg h (ev_succ ?_)
    simp only [spec_HistAt.j0]
    exact ev_pos trivial (Ev.now _)

/-! #### laws_toNodeS -/
/-- a node of the law's as one of the program's -/
def cvN (x : S82) : S80 := ⟨x.f0, x.f1⟩
theorem toNodeS_l0 (a : List S82) (hm : (a.length : Int) ≤ 9223372036854775806) : ∀ (d i : Nat) (out : List S80), i + d = a.length → out.length = a.length → out.take i = (a.map cvN).take i → Ev (fun k => laws_toNodeS.l0 k a out i) (a.map cvN) := by
  intro d
  induction d with
  | zero =>
    intro i out h hl ht
    refine ev_succ ?_
    simp only [laws_toNodeS.l0]
    refine ev_neg (by omega) (ev_some ?_)
    rw [List.take_of_length_le (by omega), List.take_of_length_le (by rw [List.length_map]; omega)] at ht
    exact ht
  | succ d ih =>
    intro i out h hl ht
    refine ev_succ ?_
    simp only [laws_toNodeS.l0]
    refine ev_pos (by omega) (ev_pos (by omega) (ev_bindc rfl (ev_pos (by omega) ?_)))
    rw [w64 (by omega) (by omega)]
    refine ih (i + 1) _ (by omega) (by rw [List.length_set]; exact hl) ?_
    have e : ((i : Int)).toNat = i := Int.toNat_natCast i
    rw [e]
    have hi : i < a.length := by omega
    have hr : rd_T82 a i = a[i] := by simp [rd_T82, hi]
    rw [List.take_succ_eq_append_getElem (by rw [List.length_set]; omega), List.take_succ_eq_append_getElem (by rw [List.length_map]; omega), List.getElem_set_self, List.take_set_of_le (Nat.le_refl _), ht, List.getElem_map, hr]
    rfl
theorem toNodeS_ev (a : List S82) (hm : a.length ≤ 17592186044416) : Ev (fun k => laws_toNodeS.f k a) (a.map cvN) := by
  simp only [laws_toNodeS.f]
  refine ev_pos (by omega) (ev_pos (by omega) ?_)
  exact toNodeS_l0 a (by omega) a.length 0 _ (by omega) (by rw [List.length_replicate]; omega) rfl

/-! #### laws_toIntS -/
theorem toIntS_l0 (a : List Int) (hm : (a.length : Int) ≤ 9223372036854775806) : ∀ (d i : Nat) (out : List Int), i + d = a.length → out.length = a.length → out.take i = a.take i → Ev (fun k => laws_toIntS.l0 k a out i) a := by
  intro d
  induction d with
  | zero =>
    intro i out h hl ht
    refine ev_succ ?_
    simp only [laws_toIntS.l0]
    refine ev_neg (by omega) (ev_some ?_)
    rw [List.take_of_length_le (by omega), List.take_of_length_le (by omega)] at ht
    exact ht
  | succ d ih =>
    intro i out h hl ht
    refine ev_succ ?_
    simp only [laws_toIntS.l0]
    refine ev_pos (by omega) (ev_pos (by omega) (ev_pos (by omega) ?_))
    rw [w64 (by omega) (by omega)]
    refine ih (i + 1) _ (by omega) (by rw [List.length_set]; exact hl) ?_
    have e : ((i : Int)).toNat = i := Int.toNat_natCast i
    rw [e]
    have hi : i < a.length := by omega
    have hr : rd a i = a[i] := by simp [rd, hi]
    rw [List.take_succ_eq_append_getElem (by rw [List.length_set]; omega), List.take_succ_eq_append_getElem hi, List.getElem_set_self, List.take_set_of_le (Nat.le_refl _), ht, hr]

theorem toIntS_ev (a : List Int) (hm : a.length ≤ 35184372088832) : Ev (fun k => laws_toIntS.f k a) a := by
  simp only [laws_toIntS.f]
  refine ev_pos (by omega) (ev_pos (by omega) ?_)
  exact toIntS_l0 a (by omega) a.length 0 _ (by omega) (by rw [List.length_replicate]; omega) rfl

/-! #### laws_toOp -/
theorem toOp_ev (a0 : Int) (p : List Int) (a2 a3 a4 : Int) (h : p.length ≤ 1099511627776) : Ev (fun k => laws_toOp.f k a0 p a2 a3 a4) (a0, p, a2, a3, a4) := by
  simp only [laws_toOp.f]
  exact ev_bind (toIntS_ev p (by omega)) (Ev.now _)

/-! #### laws_toOpS -/
/-- an operation of the law's as one of the program's -/
def cvO (x : S73) : S78 := ⟨x.f0, x.f1, x.f2, x.f3, x.f4⟩
theorem toOpS_l0 (a : List S73) (hm : a.length ≤ 1099511627776) (hp : ∀ o ∈ a, o.f1.length ≤ 1099511627776) : ∀ (d i : Nat) (out : List S78), i + d = a.length → out.length = a.length → out.take i = (a.map cvO).take i → Ev (fun k => laws_toOpS.l0 k a out i) (a.map cvO) := by
  intro d
  induction d with
  | zero =>
    intro i out h hl ht
    refine ev_succ ?_
    simp only [laws_toOpS.l0]
    refine ev_neg (by omega) (ev_some ?_)
    rw [List.take_of_length_le (by omega), List.take_of_length_le (by rw [List.length_map]; omega)] at ht
    exact ht
  | succ d ih =>
    intro i out h hl ht
    have hi : i < a.length := by omega
    have hr : rd_T73 a i = a[i] := by simp [rd_T73, hi]
    refine ev_succ ?_
    simp only [laws_toOpS.l0]
    refine ev_pos (by omega) (ev_pos (by omega) ?_)
    rw [hr]
    refine ev_bind (toOp_ev _ _ _ _ _ (hp _ (List.getElem_mem hi))) (ev_pos (by omega) ?_)
    rw [w64 (by omega) (by omega)]
    refine ih (i + 1) _ (by omega) (by rw [List.length_set]; exact hl) ?_
    have e : ((i : Int)).toNat = i := Int.toNat_natCast i
    rw [e]
    rw [List.take_succ_eq_append_getElem (by rw [List.length_set]; omega), List.take_succ_eq_append_getElem (by rw [List.length_map]; omega), List.getElem_set_self, List.take_set_of_le (Nat.le_refl _), ht, List.getElem_map]
    rfl
theorem toOpS_ev (a : List S73) (hm : a.length ≤ 1099511627776) (hp : ∀ o ∈ a, o.f1.length ≤ 1099511627776) : Ev (fun k => laws_toOpS.f k a) (a.map cvO) := by
  simp only [laws_toOpS.f]
  refine ev_pos (by omega) (ev_pos (by omega) ?_)
  exact toOpS_l0 a hm hp a.length 0 _ (by omega) (by rw [List.length_replicate]; omega) rfl

/-! #### laws_toOpSS -/
theorem toOpSS_l0 (a : List (List S73)) (hm : a.length ≤ 1048576) (hp : ∀ x ∈ a, x.length ≤ 1048576 ∧ ∀ o ∈ x, o.f1.length ≤ 1048576) : ∀ (d i : Nat) (out : List (List S78)), i + d = a.length → out.length = a.length → out.take i = (a.map (List.map cvO)).take i → Ev (fun k => laws_toOpSS.l0 k a out i) (a.map (List.map cvO)) := by
  intro d
  induction d with
  | zero =>
    intro i out h hl ht
    refine ev_succ ?_
    simp only [laws_toOpSS.l0]
    refine ev_neg (by omega) (ev_some ?_)
    rw [List.take_of_length_le (by omega), List.take_of_length_le (by rw [List.length_map]; omega)] at ht
    exact ht
  | succ d ih =>
    intro i out h hl ht
    have hi : i < a.length := by omega
    have hx := hp _ (List.getElem_mem hi)
    have hs := toOpS_ev a[i] (by omega) (fun o ho => by have := hx.2 o ho; omega)
    have eg : a.getD i [] = a[i] := by simp [hi]
    rw [← eg] at hs
    refine ev_succ ?_
    simp only [laws_toOpSS.l0]
    refine ev_pos (by omega) (ev_pos (by omega) (ev_bind hs (ev_pos (by omega) ?_)))
    rw [w64 (by omega) (by omega)]
    refine ih (i + 1) _ (by omega) (by rw [List.length_set]; exact hl) ?_
    have e : ((i : Int)).toNat = i := Int.toNat_natCast i
    rw [e]
    rw [List.take_succ_eq_append_getElem (by rw [List.length_set]; omega), List.take_succ_eq_append_getElem (by rw [List.length_map]; omega), List.getElem_set_self, List.take_set_of_le (Nat.le_refl _), ht, List.getElem_map, eg]
theorem toOpSS_ev (a : List (List S73)) (hm : a.length ≤ 1048576) (hp : ∀ x ∈ a, x.length ≤ 1048576 ∧ ∀ o ∈ x, o.f1.length ≤ 1048576) : Ev (fun k => laws_toOpSS.f k a) (a.map (List.map cvO)) := by
  simp only [laws_toOpSS.f]
  refine ev_pos (by omega) (ev_pos (by omega) ?_)
  exact toOpSS_l0 a hm hp a.length 0 _ (by omega) (by rw [List.length_replicate]; omega) rfl

/-! #### laws_toHist -/
theorem toHist_ev (b : List S82) (a : List (List S73)) (hn : b.length ≤ 1048576) (hm : a.length ≤ 1048576) (hp : ∀ x ∈ a, x.length ≤ 1048576 ∧ ∀ o ∈ x, o.f1.length ≤ 1048576) : Ev (fun k => laws_toHist.f k b a) (b.map cvN, a.map (List.map cvO)) := by
  simp only [laws_toHist.f]
  exact ev_bind (toNodeS_ev b (by omega)) (ev_bind (toOpSS_ev a hm hp) (Ev.now _))

/-! #### impl_within -/
theorem within_eq (a b c : Int) : impl_within.f a b c = some (decide (b ≤ a ∧ a ≤ c)) := by
  unfold impl_within.f
  by_cases h : b ≤ a
  · rw [if_pos h]; simp [h]
  · rw [if_neg h]; simp [h]

/-! #### impl_LabelOk -/
theorem LabelOk_eq (a : Int) : impl_LabelOk.f a = some (decide (0 ≤ a ∧ a ≤ 5)) := by
  unfold impl_LabelOk.f; rw [within_eq]; rfl

/-! #### impl_TreeOk -/
theorem depthOk_eq (l : List S80) (i : Nat) (hi : i < l.length) (hl : l.length ≤ 24) (hp : 0 < i → 0 ≤ dpA l (i - 1) ∧ dpA l (i - 1) ≤ 12) : impl_depthOk.f l (i : Int) = some (decide (if i = 0 then dpA l i = 0 else 1 ≤ dpA l i ∧ dpA l i ≤ dpA l (i - 1) + 1)) := by
  unfold impl_depthOk.f
  by_cases h0 : i = 0
  · subst h0
    conv => lhs; rw [if_pos (show ((0 : Nat) : Int) = 0 from rfl), if_pos (by omega)]
    congr 1
  · have e1 : (i : Int) - 1 = ((i - 1 : Nat) : Int) := by omega
    have hb := hp (by omega)
    conv => lhs; rw [if_neg (by omega), if_pos (by omega), if_pos (by omega), w64 (x := (i : Int) - 1) (by omega) (by omega), e1, if_pos (by omega), if_pos (by omega), rd_f1, rd_f1, w64 (x := dpA l (i - 1) + 1) (by omega) (by omega), within_eq]
    simp only [h0, if_false, Option.bind_some]
theorem impl_TreeOk_l0 (l : List S80) (hl : l.length ≤ 24) : ∀ (d i : Nat), i + d = l.length → (0 < i → okAt l (i - 1)) → Ev (fun k => impl_TreeOk.l0 k l l (l.length : Int) (i : Int)) (okFrom l i) := by
  intro d
  induction d with
  | zero =>
    intro i h hp
    refine ev_succ ?_
    simp only [impl_TreeOk.l0]
    refine ev_neg (by omega) (ev_some ?_)
    rw [okFrom_end (by omega)]
  | succ d ih =>
    intro i h hp
    refine ev_succ ?_
    simp only [impl_TreeOk.l0]
    simp only [rd_f0, rd_f1]
    rw [okFrom_step (by omega)]
    refine ev_pos (by omega) (ev_pos (by omega) (ev_pos (by omega) (ev_bindc (LabelOk_eq _) ?_)))
    simp only [decide_eq_true_eq]
    by_cases h1 : 0 ≤ lbA l i ∧ lbA l i ≤ 5
    · refine ev_pos h1 (ev_bindc (within_eq _ _ _) ?_)
      simp only [decide_eq_true_eq]
      by_cases h2 : 0 ≤ dpA l i ∧ dpA l i ≤ 12
      · refine ev_pos h2 (ev_bindc (depthOk_eq l i (by omega) hl (fun h0 => (hp h0).2.1)) ?_)
        simp only [decide_eq_true_eq]
        by_cases h3 : (if i = 0 then dpA l i = 0 else 1 ≤ dpA l i ∧ dpA l i ≤ dpA l (i - 1) + 1)
        · refine ev_pos h3 ?_
          have ok : okAt l i := ⟨h1, h2, h3⟩
          rw [w64 (x := (i : Int) + 1) (by omega) (by omega), decide_eq_true ok, Bool.true_and]
          exact ih (i + 1) (by omega) (fun _ => ok)
        · refine ev_neg h3 (ev_some ?_)
          have ok : ¬ okAt l i := fun h => h3 h.2.2
          rw [decide_eq_false ok, Bool.false_and]
      · refine ev_neg h2 (ev_some ?_)
        have ok : ¬ okAt l i := fun h => h2 h.2.1
        rw [decide_eq_false ok, Bool.false_and]
    · refine ev_neg h1 (ev_some ?_)
      have ok : ¬ okAt l i := fun h => h1 h.1
      rw [decide_eq_false ok, Bool.false_and]
theorem impl_TreeOk_ev (l : List S80) : Ev (fun k => impl_TreeOk.f k l) (treeOk l) := by
  simp only [impl_TreeOk.f]
  refine ev_bindc (within_eq _ _ _) ?_
  simp only [decide_eq_true_eq]
  rw [okFrom_zero]
  by_cases h : 1 ≤ l.length ∧ l.length ≤ 24
  · refine ev_pos (by omega) ?_
    rw [decide_eq_true h, Bool.true_and]
    exact impl_TreeOk_l0 l h.2 l.length 0 (by omega) (fun h => absurd h (Nat.lt_irrefl 0))
  · refine ev_neg (by omega) (ev_some ?_)
    rw [decide_eq_false h, Bool.false_and]

/-! #### slices_Clone_Node -/
theorem clone_eq (l : List S80) (h : l.length < 8796093022208) : slices_Clone_Node.f l = some l := by
  unfold slices_Clone_Node.f
  simp only [Option.bind_some, List.nil_append, List.length_nil]
  rw [if_pos (by omega)]

/-! #### impl_endOf -/
theorem endOf_l0 (l : List S80) (i : Nat) (hi : i < l.length) (hm : l.length ≤ 24) : ∀ (f j : Nat), l.length ≤ j + f → i < j → Ev (fun k => impl_endOf.l0 k l (i : Int) (j : Int)) (Tree.eoFrom l.length (dpA l) (dpA l i) f j : Int) := by
  intro f
  induction f with
  | zero =>
    intro j h h1
    refine ev_succ ?_
    simp only [impl_endOf.l0]
    exact ev_neg (by omega) (Ev.now _)
  | succ f ih =>
    intro j h h1
    refine ev_succ ?_
    simp only [impl_endOf.l0]
    simp only [rd_f1]
    rw [Tree.eoFrom]
    by_cases h2 : j < l.length
    · refine ev_pos (by omega) (ev_pos (by omega) (ev_pos (by omega) (ev_pos (by omega) ?_)))
      by_cases h3 : dpA l j > dpA l i
      · refine ev_pos h3 ?_
        rw [if_pos ⟨h2, h3⟩, w64 (by omega) (by omega)]
        exact ih (j + 1) (by omega) (by omega)
      · refine ev_neg h3 (ev_some ?_)
        rw [if_neg (by omega)]
    · refine ev_neg (by omega) (ev_some ?_)
      rw [if_neg (by omega)]
theorem endOf_ev (l : List S80) (i : Nat) (hi : i < l.length) (hm : l.length ≤ 24) : Ev (fun k => impl_endOf.f k l (i : Int)) (Tree.eo l.length (dpA l) i : Int) := by
  simp only [impl_endOf.f]
  rw [w64 (by omega) (by omega)]
  exact endOf_l0 l i hi hm (l.length - (i + 1)) (i + 1) (by omega) (by omega)

/-! #### impl_hasNode -/
theorem hasNode_ev (l : List S80) (i : Int) (hm : (l.length : Int) ≤ 9223372036854775806) : Ev (fun k => impl_hasNode.f k l i) (hasB l i) := by
  simp only [impl_hasNode.f]
  refine ev_bind (impl_TreeOk_ev l) ?_
  unfold hasB
  by_cases h : treeOk l = true
  · refine ev_pos h ?_
    rw [h, w64 (x := (l.length : Int) - 1) (by omega) (by omega)]
    refine ev_bindc (within_eq _ _ _) (ev_some ?_)
    rw [Bool.true_and]
    congr 1
    simp only [eq_iff_iff]
    omega
  · refine ev_neg h (ev_some ?_)
    have : treeOk l = false := by simpa using h
    rw [this, Bool.false_and]

/-! #### impl_KidsOf -/
theorem impl_KidsOf_l0 (l : List S80) (i : Nat) (hi : i < l.length) (hm : l.length ≤ 24) (ht : treeOk l = true) : ∀ (d j : Nat), j + d = Tree.eo l.length (dpA l) i → i < j →
    Ev (fun k => impl_KidsOf.l0 k l (i : Int) (kidsTo l i j) (j : Int)) (kidsTo l i (Tree.eo l.length (dpA l) i)) := by
  have he := Tree.eo_le (D := dpA l) hi
  intro d
  induction d with
  | zero =>
    intro j h hj
    refine ev_succ ?_
    simp only [impl_KidsOf.l0]
    refine ev_bind (endOf_ev l i hi hm) (ev_neg (by omega) (ev_some ?_))
    have : j = Tree.eo l.length (dpA l) i := by omega
    rw [this]
  | succ d ih =>
    intro j h hj
    refine ev_succ ?_
    simp only [impl_KidsOf.l0]
    simp only [rd_f1]
    have d2 := dp_range ht hi
    have hk := kidsTo_length l i j
    refine ev_bind (endOf_ev l i hi hm) (ev_pos (by omega) (ev_pos (by omega) (ev_pos (by omega) (ev_pos (by omega) (ev_pos (by omega) ?_)))))
    rw [w64 (x := dpA l i + 1) (by omega) (by omega), w64 (x := (j : Int) + 1) (by omega) (by omega)]
    have := ih (j + 1) (by omega) (by omega)
    rw [kidsTo_step l i j hj] at this
    by_cases hd : dpA l j = dpA l i + 1
    · rw [if_pos hd] at this
      exact ev_pos hd (ev_pos (by omega) this)
    · rw [if_neg hd, List.append_nil] at this
      exact ev_neg hd this
theorem impl_KidsOf_ev (l : List S80) (i : Int) (hm : (l.length : Int) ≤ 9223372036854775806) : Ev (fun k => impl_KidsOf.f k l i) (kidsI l i) := by
  simp only [impl_KidsOf.f, Option.bind_some]
  refine ev_bind (hasNode_ev l i hm) ?_
  by_cases h : hasB l i = true
  · refine ev_pos h ?_
    obtain ⟨j, rfl, hj, h1, h2, hv⟩ := hasB_nat h
    have g := @Tree.eo_gt l.length (dpA l) j
    rw [w64 (by omega) (by omega), kidsI_nat h]
    have := impl_KidsOf_l0 l j hj h2 h1 (Tree.eo l.length (dpA l) j - (j + 1)) (j + 1) (by omega) (by omega)
    have e : kidsTo l j (j + 1) = [] := by unfold kidsTo; rw [Nat.sub_self]; rfl
    rw [e] at this
    exact this
  · refine ev_neg h (ev_some ?_)
    unfold kidsI
    rw [if_neg h]

/-! #### impl_NodeAt -/
theorem impl_NodeAt_l0 (l : List S80) (p : List Int) (ht : treeOk l = true) (hp : (p.length : Int) ≤ 9223372036854775806) : ∀ (d j i : Nat), j + d = p.length → i < l.length → Ev (fun k => impl_NodeAt.l0 k l (i : Int) p (p.length : Int) (j : Int)) (optI (Tree.goDown l.length (dpA l) i (p.drop j))) := by
  have h24 := (treeOk_iff.1 ht).1
  intro d
  induction d with
  | zero =>
    intro j i h hi
    refine ev_succ ?_
    simp only [impl_NodeAt.l0]
    rw [List.drop_eq_nil_of_le (by omega)]
    exact ev_neg (by omega) (Ev.now _)
  | succ d ih =>
    intro j i h hi
    refine ev_succ ?_
    simp only [impl_NodeAt.l0]
    have hkl := kidsI_length l (i : Int)
    refine ev_pos (by omega) (ev_pos (by omega) (ev_pos (by omega) (ev_bind (impl_KidsOf_ev l _ (by omega)) (ev_bindc (within_eq _ _ _) ?_))))
    rw [w64 (by omega) (by omega), kidsI_ok ht hi, List.length_map, drop_rd p j (by omega), Tree.goDown]
    by_cases hk : 0 ≤ rd p (j : Int) ∧ rd p (j : Int) < ((Tree.kids l.length (dpA l) i).length : Int)
    · rw [if_pos hk]
      refine ev_pos (decide_eq_true (by omega)) (ev_pos hk.1 (ev_pos hk.2 ?_))
      rw [rd_nat _ _ hk.1 hk.2, w64 (x := (j : Int) + 1) (by omega) (by omega)]
      refine ih (j + 1) _ (by omega) (Tree.kids_lt (D := dpA l) hi ?_)
      rw [List.getD_eq_getElem?_getD, List.getElem?_eq_getElem (by omega)]
      exact List.getElem_mem _
    · rw [if_neg hk]
      exact ev_neg (by simp only [decide_eq_true_eq]; omega) (Ev.now _)
theorem impl_NodeAt_ev (l : List S80) (p : List Int) (hp : (p.length : Int) ≤ 9223372036854775806) : Ev (fun k => impl_NodeAt.f k l p) (nodeI l p) := by
  simp only [impl_NodeAt.f]
  refine ev_bind (impl_TreeOk_ev l) ?_
  unfold nodeI
  by_cases h : treeOk l = true
  · rw [if_pos h]
    exact ev_pos h (impl_NodeAt_l0 l p h hp p.length 0 0 (by omega) (by have := (treeOk_iff.1 h).1; omega))
  · rw [if_neg h]
    exact ev_neg h (Ev.now _)

/-! #### impl_opCode -/
theorem opCode_l0 (l : List S80) (f t : Nat) (ht : treeOk l = true) (hft : f ≤ t) (htl : t ≤ l.length) : ∀ (d j : Nat) (a : Int), f + j + d = t → Ev (fun k => impl_opCode.l0 k l (f : Int) (t : Int) a ((l.take t).drop f) (((l.take t).drop f).length : Int) (j : Int)) (if (l.length : Int) = 24 then (6, 0, 0) else if deepF l d (f + j) a > 12 then (7, 0, 0) else (0, (f : Int), (t : Int))) := by
  have hlen : ((l.take t).drop f).length = t - f := by rw [List.length_drop, List.length_take]; omega
  have h24 := (treeOk_iff.1 ht).1
  intro d
  induction d with
  | zero =>
    intro j a h
    refine ev_succ ?_
    simp only [impl_opCode.l0]
    refine ev_neg (by omega) ?_
    refine ev_ite (fun c => by rw [if_pos c]; exact Ev.now _) (fun c => ?_)
    rw [if_neg c]
    show Ev _ (if a > 12 then _ else _)
    exact ev_ite (fun c => by rw [if_pos c]; exact Ev.now _) (fun c => by rw [if_neg c]; exact Ev.now _)
  | succ d ih =>
    intro j a h
    refine ev_succ ?_
    simp only [impl_opCode.l0]
    have dj := dp_range ht (j := f + j) (by omega)
    have ed : dpA ((l.take t).drop f) j = dpA l (f + j) := by unfold dpA; rw [at_drop, at_take _ _ _ (by omega)]
    refine ev_pos (by omega) (ev_pos (by omega) (ev_pos (by omega) ?_))
    rw [rd_f1, ed, w64 (x := dpA l (f + j) + 1) (by omega) (by omega), w64 (x := (j : Int) + 1) (by omega) (by omega)]
    exact ih (j + 1) _ (by omega)
theorem opCode_j1 (l : List S80) (i : Nat) (kind lab fr ct : Int) (p : List Int) (ht : treeOk l = true) (hi : i < l.length) (b : Bool) (hb : b = decide (kind = 2 ∧ (i : Int) = 0)) (hk : 1 ≤ kind ∧ kind ≤ 3) (hl : ¬ (kind ≠ 2 ∧ ¬ (0 ≤ lab ∧ lab ≤ 5))) : Ev (fun k => impl_opCode.j1 k l (i : Int) b kind p lab fr ct) (codeT l kind lab fr ct (i : Int)) := by
  have h24 := (treeOk_iff.1 ht).1
  have he := Tree.eo_le (D := dpA l) hi
  have di := dp_range ht hi
  have hkl := kidsI_length l (i : Int)
  have hkn : (kidsI l (i : Int)).length = (Tree.kids l.length (dpA l) i).length := by rw [kidsI_ok ht hi, List.length_map]
  unfold codeT
  rw [if_pos hk, if_neg (by omega), if_neg hl, Int.toNat_natCast]
  refine ev_succ ?_
  simp only [impl_opCode.j1]
  by_cases h1 : kind = 2 ∧ (i : Int) = 0
  · rw [if_pos h1]
    exact ev_pos (by rw [hb]; exact decide_eq_true h1) (Ev.now _)
  · rw [if_neg h1]
    refine ev_neg (by rw [hb]; simpa using h1) ?_
    by_cases h3 : kind = 3
    · rw [if_pos h3]
      refine ev_pos h3 (ev_bind (impl_KidsOf_ev l _ (by omega)) (ev_bindc (within_eq _ _ _) ?_))
      have bad : ¬ (0 ≤ fr ∧ fr ≤ ((Tree.kids l.length (dpA l) i).length : Int) ∧ 0 ≤ ct ∧ ct ≤ ((Tree.kids l.length (dpA l) i).length : Int) - fr) → Ev (fun k => impl_opCode.j2 k l (i : Int) (kidsI l (i : Int)) true kind p lab fr ct) (if 0 ≤ fr ∧ fr ≤ ((Tree.kids l.length (dpA l) i).length : Int) ∧ 0 ≤ ct ∧ ct ≤ ((Tree.kids l.length (dpA l) i).length : Int) - fr then tailT l i ((Tree.bounds l.length (dpA l) i).getD fr.toNat 0) ((Tree.bounds l.length (dpA l) i).getD (fr + ct).toNat 0) else (5, 0, 0)) := by
        intro c
        rw [if_neg c]
        refine ev_succ ?_
        simp only [impl_opCode.j2]
        exact ev_pos trivial (Ev.now _)
      by_cases h4 : 0 ≤ fr ∧ fr ≤ ((kidsI l (i : Int)).length : Int)
      · refine ev_pos (decide_eq_true h4) (ev_bindc (within_eq _ _ _) ?_)
        rw [w64 (by omega) (by omega)]
        by_cases h5 : 0 ≤ ct ∧ ct ≤ ((kidsI l (i : Int)).length : Int) - fr
        · have hall : 0 ≤ fr ∧ fr ≤ ((Tree.kids l.length (dpA l) i).length : Int) ∧ 0 ≤ ct ∧ ct ≤ ((Tree.kids l.length (dpA l) i).length : Int) - fr := by omega
          obtain ⟨f1, f2, f3, f4⟩ := bounds_facts hi hall
          rw [decide_eq_true h5, if_pos hall]
          refine ev_succ ?_
          simp only [impl_opCode.j2]
          have hbl := bounds_length l.length (dpA l) i
          refine ev_neg (by decide) (ev_bind (endOf_ev l i hi (by omega)) (ev_pos (by omega) (ev_bindc rfl ?_)))
          rw [bounds_int ht hi, List.length_map, w64 (x := fr + ct) (by omega) (by omega)]
          refine ev_pos (by omega) (ev_pos (by omega) (ev_pos (by omega) (ev_pos (by omega) ?_)))
          rw [rd_nat _ _ (by omega) (by omega), rd_nat _ _ (by omega) (by omega)]
          refine ev_pos (by omega) (ev_pos (by omega) (ev_pos (by omega) (ev_pos (by omega) (ev_pos (by omega) (ev_bindc rfl ?_)))))
          rw [rd_f1, w64 (x := dpA l i + 1) (by omega) (by omega)]
          simp only [Int.toNat_natCast]
          unfold tailT
          have := opCode_l0 l ((Tree.bounds l.length (dpA l) i).getD fr.toNat 0) ((Tree.bounds l.length (dpA l) i).getD (fr + ct).toNat 0) ht f2 (by omega) ((Tree.bounds l.length (dpA l) i).getD (fr + ct).toNat 0 - (Tree.bounds l.length (dpA l) i).getD fr.toNat 0) 0 (dpA l i + 1) (by omega)
          exact this
        · rw [decide_eq_false h5]
          exact bad (by omega)
      · exact ev_neg (by simpa using h4) (bad (by omega))
    · rw [if_neg h3]
      exact ev_neg h3 (Ev.now _)
theorem opCode_ev (l : List S80) (kind lab fr ct i : Int) (p : List Int) (hi : i < 0 ∨ ∃ n : Nat, i = (n : Int) ∧ n < l.length ∧ treeOk l = true) : Ev (fun k => impl_opCode.f k l kind p lab fr ct i) (codeT l kind lab fr ct i) := by
  simp only [impl_opCode.f]
  refine ev_bindc (within_eq _ _ _) ?_
  by_cases hk : 1 ≤ kind ∧ kind ≤ 3
  · refine ev_pos (decide_eq_true hk) ?_
    rcases hi with hi | ⟨n, rfl, hn, ht⟩
    · unfold codeT
      rw [if_pos hk, if_pos hi]
      exact ev_pos hi (Ev.now _)
    · refine ev_neg (by omega) ?_
      by_cases h2 : kind = 2
      · refine ev_pos h2 (ev_succ ?_)
        simp only [impl_opCode.j0]
        refine ev_neg (by decide) (ev_pos h2 (opCode_j1 l n kind lab fr ct p ht hn _ ?_ hk (by omega)))
        rw [Bool.eq_iff_iff]; simp [h2]
      · refine ev_neg h2 (ev_bindc (LabelOk_eq _) (ev_succ ?_))
        simp only [impl_opCode.j0]
        by_cases hl : 0 ≤ lab ∧ lab ≤ 5
        · refine ev_neg (by simp [hl]) (ev_neg h2 (opCode_j1 l n kind lab fr ct p ht hn _ ?_ hk (by omega)))
          simp [h2]
        · refine ev_pos (by rw [decide_eq_false hl]; rfl) ?_
          unfold codeT
          rw [if_pos hk, if_neg (by omega), if_pos ⟨h2, hl⟩]
          exact Ev.now _
  · refine ev_neg (by simpa using hk) ?_
    unfold codeT
    rw [if_neg hk]
    exact Ev.now _

/-! #### slices_Delete_Node -/
theorem delete_eq (l : List S80) (i j : Nat) (hij : i ≤ j) (hj : j ≤ l.length) : slices_Delete_Node.f l (i : Int) (j : Int) = some (l.take i ++ l.drop j) := by
  unfold slices_Delete_Node.f
  rw [if_pos (by omega)]
  simp only [Int.toNat_natCast]

/-! #### slices_Insert_Node -/
theorem insert_eq (l : List S80) (i : Nat) (v : List S80) (hi : i ≤ l.length) (hv : 0 < v.length) (hl : l.length + v.length < 8796093022208) : slices_Insert_Node.f l (i : Int) v = some (l.take i ++ v ++ l.drop i) := by
  unfold slices_Insert_Node.f
  rw [if_pos (by omega)]
  simp only [Int.toNat_natCast]

/-! #### impl_ApplyOp -/
theorem impl_ApplyOp_l0 (l : List S80) (i : Nat) (ht : treeOk l = true) (hi : i < l.length) : ∀ (d j : Nat), j + d = Tree.eo l.length (dpA l) i → i < j → Ev (fun k => impl_ApplyOp.l0 k l (midN (-1) (i + 1) l j) (i : Int) (j : Int)) (l.take i ++ ((l.take (Tree.eo l.length (dpA l) i)).drop (i + 1)).map (upN (-1)) ++ l.drop (Tree.eo l.length (dpA l) i), 0) := by
  have h24 := (treeOk_iff.1 ht).1
  have el := Tree.eo_le (D := dpA l) hi
  intro d
  induction d with
  | zero =>
    intro j h hj
    refine ev_succ ?_
    simp only [impl_ApplyOp.l0]
    have ew : wrap64 ((i : Int) + 1) = ((i + 1 : Nat) : Int) := by rw [w64 (by omega) (by omega)]; omega
    have hml := midN_length (-1) (i + 1) l j (by omega) (by omega)
    refine ev_bind (endOf_ev l i hi (by omega)) (ev_neg (by omega) ?_)
    rw [ew]
    refine ev_bindc (delete_eq _ i (i + 1) (by omega) (by omega)) (ev_some ?_)
    have e : j = Tree.eo l.length (dpA l) i := by omega
    rw [midN_drop _ _ _ _ (by omega), ← e]
    have e2 : (midN (-1) (i + 1) l j).take i = l.take i := by
      have := congrArg (List.take i) (midN_take (-1) (i + 1) l j (by omega))
      rw [List.take_take, List.take_take, Nat.min_eq_left (by omega)] at this
      exact this
    rw [e2, List.append_assoc]
  | succ d ih =>
    intro j h hj
    refine ev_succ ?_
    simp only [impl_ApplyOp.l0]
    have dj := dp_range ht (j := j) (by omega)
    have hml := midN_length (-1) (i + 1) l j (by omega) (by omega)
    refine ev_bind (endOf_ev l i hi (by omega)) (ev_pos (by omega) (ev_pos (by omega) (ev_pos (by omega) ?_)))
    rw [midN_rd _ _ _ _ (by omega) (by omega), Int.sub_eq_add_neg, upN_eq (t := l) (i := j) (b := -1) (by omega) (by omega), Int.toNat_natCast, midN_set _ _ _ _ (by omega) (by omega), w64 (x := (j : Int) + 1) (by omega) (by omega)]
    exact ih (j + 1) (by omega) (by omega)
theorem impl_ApplyOp_l1 (l : List S80) (i f t : Nat) (kind : Int) (p : List Int) (lab fr ct : Int) (ht : treeOk l = true) (hi : i < l.length) (hft : f ≤ t) (htl : t ≤ l.length) : ∀ (d j : Nat), j + d = t → f ≤ j → Ev (fun k => impl_ApplyOp.l1 k l (midN 1 f l j) (i : Int) (f : Int) (t : Int) (j : Int) kind p lab fr ct) (l.take f ++ [(⟨lab, dpA l i + 1⟩ : S80)] ++ ((l.take t).drop f).map (upN 1) ++ l.drop t, 0) := by
  have h24 := (treeOk_iff.1 ht).1
  have di := dp_range ht hi
  intro d
  induction d with
  | zero =>
    intro j h hj
    refine ev_succ ?_
    simp only [impl_ApplyOp.l1]
    have hml := midN_length 1 f l j (by omega) (by omega)
    have e : j = t := by omega
    subst e
    refine ev_neg (by omega) (ev_pos (by omega) (ev_pos (by omega) ?_))
    refine ev_bindc (insert_eq _ f _ (by omega) (by simp) (by simp only [List.length_singleton]; omega)) (ev_some ?_)
    rw [midN_take _ _ _ _ (by omega), midN_drop _ _ _ _ (by omega), rd_f1, w64 (x := dpA l i + 1) (by omega) (by omega)]
    simp only [List.append_assoc]
  | succ d ih =>
    intro j h hj
    refine ev_succ ?_
    simp only [impl_ApplyOp.l1]
    have dj := dp_range ht (j := j) (by omega)
    have hml := midN_length 1 f l j (by omega) (by omega)
    refine ev_pos (by omega) (ev_pos (by omega) (ev_pos (by omega) ?_))
    rw [midN_rd _ _ _ _ (by omega) (by omega), upN_eq (t := l) (i := j) (b := 1) (by omega) (by omega), Int.toNat_natCast, midN_set _ _ _ _ (by omega) (by omega), w64 (x := (j : Int) + 1) (by omega) (by omega)]
    exact ih (j + 1) (by omega) (by omega)
theorem impl_ApplyOp_ev (l : List S80) (kind : Int) (p : List Int) (lab fr ct : Int) (hp : (p.length : Int) ≤ 9223372036854775806) : Ev (fun k => impl_ApplyOp.f k l kind p lab fr ct) (applyT l kind p lab fr ct) := by
  simp only [impl_ApplyOp.f]
  refine ev_bind (impl_TreeOk_ev l) ?_
  unfold applyT
  by_cases ht : treeOk l = true
  · rw [if_pos ht]
    have h24 := (treeOk_iff.1 ht).1
    refine ev_pos ht (ev_bindc (clone_eq l (by omega)) (ev_bind (impl_NodeAt_ev l p hp) (ev_bind (opCode_ev l kind lab fr ct _ p (nodeI_cases l p)) ?_)))
    by_cases hc : (codeT l kind lab fr ct (nodeI l p)).1 = 0
    · rw [if_pos hc]
      refine ev_pos hc ?_
      obtain ⟨hk, hi0, hl, hr, h3', h3⟩ := codeT_ok hc
      obtain ⟨i, hi, hin, _, _⟩ := nodeI_nat hi0
      rw [hi] at hc hr h3' h3 ⊢
      have di := dp_range ht hin
      have el := Tree.eo_le (D := dpA l) hin
      have eg := @Tree.eo_gt l.length (dpA l) i
      by_cases k1 : kind = 1
      · refine ev_pos k1 (ev_pos (by omega) (ev_pos (by omega) (ev_some ?_)))
        unfold doneT
        rw [if_pos k1]
        rfl
      · refine ev_neg k1 ?_
        by_cases k2 : kind = 2
        · have ew : wrap64 ((i : Int) + 1) = ((i + 1 : Nat) : Int) := by rw [w64 (by omega) (by omega)]; omega
          refine ev_pos k2 ?_
          unfold doneT
          rw [if_neg k1, if_pos k2, ew, Int.toNat_natCast]
          have := impl_ApplyOp_l0 l i ht hin (Tree.eo l.length (dpA l) i - (i + 1)) (i + 1) (by omega) (by omega)
          rw [midN_self] at this
          exact this
        · refine ev_neg k2 ?_
          obtain ⟨hb, hcode, h24', _⟩ := h3 (by omega)
          rw [hcode]
          rw [Int.toNat_natCast] at hb ⊢
          obtain ⟨f1, f2, f3, f4⟩ := bounds_facts hin hb
          generalize (Tree.bounds l.length (dpA l) i).getD fr.toNat 0 = f at *
          generalize (Tree.bounds l.length (dpA l) i).getD (fr + ct).toNat 0 = t at *
          unfold doneT
          rw [if_neg k1, if_neg k2]
          simp only [Int.toNat_natCast]
          have := impl_ApplyOp_l1 l i f t kind p lab fr ct ht hin f2 (by omega) (t - f) f (by omega) (Nat.le_refl _)
          rw [midN_self] at this
          exact this
    · rw [if_neg hc]
      exact ev_neg hc (Ev.now _)
  · rw [if_neg ht]
    exact ev_neg ht (Ev.now _)

/-! #### impl_ApplyAll -/
theorem impl_ApplyAll_l0 (ops : List S78) (hb : OpsB ops) : ∀ (d j : Nat) (l : List S80), j + d = ops.length → Ev (fun k => impl_ApplyAll.l0 k ops l ops (ops.length : Int) (j : Int)) (allF l (j : Int) (ops.drop j)) := by
  have hl := hb.1
  intro d
  induction d with
  | zero =>
    intro j l h
    refine ev_succ ?_
    simp only [impl_ApplyAll.l0]
    rw [List.drop_eq_nil_of_le (by omega)]
    refine ev_neg (by omega) (ev_some ?_)
    have e : j = ops.length := by omega
    rw [allF, e]
  | succ d ih =>
    intro j l h
    refine ev_succ ?_
    simp only [impl_ApplyAll.l0]
    have hp := hb.at (j := j) (by omega)
    refine ev_pos (by omega) (ev_pos (by omega) (ev_pos (by omega) (ev_bind (impl_ApplyOp_ev l _ _ _ _ _ (by omega)) ?_)))
    rw [drop_op ops j (by omega), allF]
    by_cases hc : (appO l (rd_T78 ops (j : Int))).2 = 0
    · rw [if_pos hc]
      refine ev_pos hc ?_
      rw [w64 (x := (j : Int) + 1) (by omega) (by omega)]
      exact ih (j + 1) _ (by omega)
    · rw [if_neg hc]
      exact ev_neg hc (Ev.now _)
theorem impl_ApplyAll_ev (l : List S80) (ops : List S78) (hb : OpsB ops) (hm : l.length ≤ 1099511627776) : Ev (fun k => impl_ApplyAll.f k l ops) (allT l ops) := by
  simp only [impl_ApplyAll.f]
  refine ev_bind (impl_TreeOk_ev l) ?_
  unfold allT
  by_cases ht : treeOk l = true
  · rw [if_pos ht]
    exact ev_pos ht (ev_bindc (clone_eq l (by omega)) (impl_ApplyAll_l0 ops hb ops.length 0 l (by omega)))
  · rw [if_neg ht]
    exact ev_neg ht (Ev.now _)

/-! #### slices_ContainsFunc_int_int -/
theorem opLit_eq (x : Int) : impl_OpOk_lit1.f x = some (!inPath x) := by
  unfold impl_OpOk_lit1.f
  rw [within_eq]
  rfl
theorem idxBad_l0 (p : List Int) (hp : (p.length : Int) ≤ 1099511627776) : ∀ (d i : Nat), i + d = p.length → ∃ r : Int, Ev (fun k => slices_IndexFunc_int_int.l0 k p (p.length : Int) (i : Int)) r ∧ decide (r ≥ 0) = !(p.drop i).all inPath := by
  intro d
  induction d with
  | zero =>
    intro i h
    refine ⟨-1, ev_succ ?_, ?_⟩
    · simp only [slices_IndexFunc_int_int.l0]
      exact ev_neg (by omega) (Ev.now _)
    · rw [List.drop_eq_nil_of_le (by omega)]; rfl
  | succ d ih =>
    intro i h
    have hi : i < p.length := by omega
    have e : rd p (i : Int) = p[i] := by simp [rd, hi]
    rw [all_drop p inPath i hi]
    by_cases c : inPath p[i] = true
    · obtain ⟨r, hr, hd⟩ := ih (i + 1) (by omega)
      refine ⟨r, ev_succ ?_, by rw [c, Bool.true_and]; exact hd⟩
      simp only [slices_IndexFunc_int_int.l0]
      refine ev_pos (by omega) (ev_pos (by omega) (ev_pos (by omega) (ev_bindc (opLit_eq _) ?_)))
      rw [e, c, w64 (x := (i : Int) + 1) (by omega) (by omega)]
      exact ev_neg (by decide) hr
    · have c' : inPath p[i] = false := by simpa using c
      refine ⟨(i : Int), ev_succ ?_, by rw [c', Bool.false_and]; simp⟩
      simp only [slices_IndexFunc_int_int.l0]
      refine ev_pos (by omega) (ev_pos (by omega) (ev_pos (by omega) (ev_bindc (opLit_eq _) ?_)))
      rw [e, c']
      exact ev_pos rfl (Ev.now _)
theorem containsBad_ev (p : List Int) (hp : (p.length : Int) ≤ 1099511627776) : Ev (fun k => slices_ContainsFunc_int_int.f k p) (!p.all inPath) := by
  obtain ⟨r, hr, hd⟩ := idxBad_l0 p hp p.length 0 (by omega)
  rw [List.drop_zero] at hd
  simp only [slices_ContainsFunc_int_int.f, slices_IndexFunc_int_int.f]
  exact ev_bind hr (ev_some hd)

/-! #### impl_OpOk -/
theorem impl_OpOk_j0 (b : Bool) (o : S78) : Ev (fun k => impl_OpOk.j0 k b o.f0 o.f1 o.f2 o.f3 o.f4) (!b && restB o.f0 o.f2 o.f3 o.f4) := by
  refine ev_succ ?_
  simp only [impl_OpOk.j0]
  cases b with
  | true => exact ev_pos rfl (Ev.now _)
  | false =>
    refine ev_neg (by decide) ?_
    rw [Bool.not_false, Bool.true_and]
    unfold restB
    by_cases k1 : o.f0 = 1
    · refine ev_pos k1 ?_
      rw [if_pos k1]
      refine ev_bindc (LabelOk_eq _) ?_
      by_cases l : 0 ≤ o.f2 ∧ o.f2 ≤ 5
      · rw [decide_eq_true l]
        refine ev_pos rfl ?_
        by_cases f : o.f3 = 0
        · exact ev_pos f (ev_some (by simp [f]))
        · exact ev_neg f (ev_some (by simp [f]))
      · rw [decide_eq_false l]
        exact ev_neg (by decide) (ev_some (by simp))
    · refine ev_neg k1 ?_
      rw [if_neg k1]
      by_cases k2 : o.f0 = 2
      · refine ev_pos k2 ?_
        rw [if_pos k2]
        by_cases l : o.f2 = 0
        · refine ev_pos l ?_
          by_cases f : o.f3 = 0
          · exact ev_pos f (ev_some (by simp [f, l]))
          · exact ev_neg f (ev_some (by simp [f]))
        · exact ev_neg l (ev_some (by simp [l]))
      · refine ev_neg k2 ?_
        rw [if_neg k2]
        by_cases k3 : o.f0 = 3
        · refine ev_pos k3 ?_
          rw [if_pos k3]
          refine ev_bindc (LabelOk_eq _) ?_
          by_cases l : 0 ≤ o.f2 ∧ o.f2 ≤ 5
          · rw [decide_eq_true l]
            refine ev_pos rfl (ev_bindc (within_eq _ _ _) ?_)
            by_cases f : 0 ≤ o.f3 ∧ o.f3 ≤ 24
            · rw [decide_eq_true f]
              exact ev_pos rfl (ev_bindc (within_eq _ _ _) (ev_some (by simp)))
            · rw [decide_eq_false f]
              exact ev_neg (by decide) (ev_some (by simp))
          · rw [decide_eq_false l]
            exact ev_neg (by decide) (ev_some (by simp))
        · refine ev_neg k3 ?_
          rw [if_neg k3]
          exact Ev.now _
theorem impl_OpOk_ev (o : S78) (hp : (o.f1.length : Int) ≤ 1099511627776) : Ev (fun k => impl_OpOk.f k o.f0 o.f1 o.f2 o.f3 o.f4) (opB o) := by
  simp only [impl_OpOk.f]
  unfold opB pathB
  by_cases h : (o.f1.length : Int) > 12
  · refine ev_pos h (ev_eq (impl_OpOk_j0 true o) ?_)
    rw [decide_eq_false (by omega), Bool.and_false, Bool.false_and]
    rfl
  · refine ev_neg h (ev_bind (containsBad_ev o.f1 hp) (ev_eq (impl_OpOk_j0 _ o) ?_))
    rw [decide_eq_true (by omega), Bool.and_true, Bool.not_not]

/-! #### impl_ScriptOk -/
theorem scriptLit_ev (o : S78) (hp : (o.f1.length : Int) ≤ 1099511627776) : Ev (fun k => impl_ScriptOk_lit1.f k o.f0 o.f1 o.f2 o.f3 o.f4) (!opB o) := by
  simp only [impl_ScriptOk_lit1.f]
  exact ev_bind (impl_OpOk_ev o hp) (Ev.now _)
theorem idxOps_l0 (ops : List S78) (hb : OpsB ops) : ∀ (d i : Nat), i + d = ops.length → ∃ r : Int, Ev (fun k => slices_IndexFunc_Op.l0 k ops (ops.length : Int) (i : Int)) r ∧ decide (r ≥ 0) = !(ops.drop i).all opB := by
  have hl := hb.1
  intro d
  induction d with
  | zero =>
    intro i h
    refine ⟨-1, ev_succ ?_, ?_⟩
    · simp only [slices_IndexFunc_Op.l0]
      exact ev_neg (by omega) (Ev.now _)
    · rw [List.drop_eq_nil_of_le (by omega)]; rfl
  | succ d ih =>
    intro i h
    have hi : i < ops.length := by omega
    have e : rd_T78 ops (i : Int) = ops[i] := by show ops.getD i _ = _; simp [hi]
    have hp := hb.2 _ (List.getElem_mem hi)
    rw [all_drop ops opB i hi]
    by_cases c : opB ops[i] = true
    · obtain ⟨r, hr, hd⟩ := ih (i + 1) (by omega)
      refine ⟨r, ev_succ ?_, by rw [c, Bool.true_and]; exact hd⟩
      simp only [slices_IndexFunc_Op.l0]
      rw [e]
      refine ev_pos (by omega) (ev_pos (by omega) (ev_pos (by omega) (ev_bind (scriptLit_ev _ hp) ?_)))
      rw [c, w64 (x := (i : Int) + 1) (by omega) (by omega)]
      exact ev_neg (by decide) hr
    · have c' : opB ops[i] = false := by simpa using c
      refine ⟨(i : Int), ev_succ ?_, by rw [c', Bool.false_and]; simp⟩
      simp only [slices_IndexFunc_Op.l0]
      rw [e]
      refine ev_pos (by omega) (ev_pos (by omega) (ev_pos (by omega) (ev_bind (scriptLit_ev _ hp) ?_)))
      rw [c']
      exact ev_pos rfl (Ev.now _)
theorem impl_ScriptOk_ev (ops : List S78) (hb : OpsB ops) : Ev (fun k => impl_ScriptOk.f k ops) (scriptB ops) := by
  obtain ⟨r, hr, hd⟩ := idxOps_l0 ops hb ops.length 0 (by omega)
  rw [List.drop_zero] at hd
  simp only [impl_ScriptOk.f, slices_ContainsFunc_Op.f, slices_IndexFunc_Op.f]
  unfold scriptB
  by_cases h : (ops.length : Int) ≤ 60
  · refine ev_pos h (ev_bind (ev_bind hr (Ev.now _)) (ev_some ?_))
    rw [hd, Bool.not_not, decide_eq_true h, Bool.and_true]
  · refine ev_neg h (ev_some ?_)
    rw [decide_eq_false h, Bool.and_false]

/-! #### impl_Hist_trees -/
theorem impl_trees_l0 (steps : List (List S78)) (hm : steps.length ≤ 1048576) (hb : ∀ x ∈ steps, OpsB x) : ∀ (d i : Nat) (pre : List (List S80)) (l : List S80), i + d = steps.length → pre.length = i → l.length ≤ 1099511627776 →
    Ev (fun k => impl_Hist_trees.l0 k (pre ++ [l]) steps (steps.length : Int) (i : Int)) (if histF l (steps.drop i) = true then pre ++ statesF l (steps.drop i) else [], histF l (steps.drop i)) := by
  intro d
  induction d with
  | zero =>
    intro i pre l h hp hl
    refine ev_succ ?_
    simp only [impl_Hist_trees.l0]
    rw [List.drop_eq_nil_of_le (by omega)]
    exact ev_neg (by omega) (Ev.now _)
  | succ d ih =>
    intro i pre l h hp hl
    have hi : i < steps.length := by omega
    have hx := hb _ (List.getElem_mem hi)
    have eg : steps.getD i [] = steps[i] := by simp [hi]
    rw [← eg] at hx
    have hal := allT_length l (steps.getD i []) 1099511627776 (by omega) hl
    have hlen : (pre ++ [l]).length = i + 1 := by rw [List.length_append, List.length_singleton, hp]
    have el : (pre ++ [l]).getD i [] = l := by rw [List.getD_eq_getElem?_getD, List.getElem?_append_right (by omega), hp, Nat.sub_self]; rfl
    have hap := impl_ApplyAll_ev l (steps.getD i []) hx hl
    have hap2 : Ev (fun k => impl_ApplyAll.f k ((pre ++ [l]).getD i []) (steps.getD i [])) (allT l (steps.getD i [])) := by rw [el]; exact hap
    rw [List.drop_eq_getElem_cons hi, histF, statesF, ← eg]
    by_cases c : (allT l (steps.getD i [])).2.2 = 0
    · rw [if_pos c]
      by_cases s : scriptB (steps.getD i []) = true
      · rw [if_pos s]
        have hT := ih (i + 1) (pre ++ [l]) (allT l (steps.getD i [])).1 (by omega) hlen hal
        refine ev_succ ?_
        simp only [impl_Hist_trees.l0]
        refine ev_pos (by omega) (ev_pos (by omega) (ev_pos (by omega) (ev_pos (by omega) (ev_bind hap2 (ev_pos c (ev_bind (impl_ScriptOk_ev _ hx) (ev_pos s (ev_pos (by omega) ?_))))))))
        rw [w64 (x := (i : Int) + 1) (by omega) (by omega)]
        refine ev_eq hT ?_
        simp only [List.append_assoc, List.singleton_append]
      · rw [if_neg s]
        rw [if_neg (by simp)]
        refine ev_succ ?_
        simp only [impl_Hist_trees.l0]
        exact ev_pos (by omega) (ev_pos (by omega) (ev_pos (by omega) (ev_pos (by omega) (ev_bind hap2 (ev_pos c (ev_bind (impl_ScriptOk_ev _ hx) (ev_neg s (Ev.now _))))))))
    · rw [if_neg c]
      rw [if_neg (by simp)]
      refine ev_succ ?_
      simp only [impl_Hist_trees.l0]
      exact ev_pos (by omega) (ev_pos (by omega) (ev_pos (by omega) (ev_pos (by omega) (ev_bind hap2 (ev_neg c (Ev.now _))))))
theorem impl_trees_at (b : List S80) (steps : List (List S78)) (hl : b.length ≤ 1048576) (hm : steps.length ≤ 1048576) (hb : ∀ x ∈ steps, OpsB x) : Ev (fun k => impl_Hist_trees.f k b steps) (if histB b steps = true then statesF b steps else [], histB b steps) := by
  unfold histB
  by_cases ht : treeOk b = true
  · rw [if_pos ht]
    by_cases h6 : (steps.length : Int) > 6
    · rw [if_pos h6]
      rw [if_neg (by simp)]
      simp only [impl_Hist_trees.f]
      refine ev_bind (impl_TreeOk_ev b) (ev_pos ht (ev_succ ?_))
      simp only [impl_Hist_trees.j0]
      exact ev_pos (decide_eq_true h6) (Ev.now _)
    · rw [if_neg h6]
      have hT := impl_trees_l0 steps hm hb steps.length 0 [] b (by omega) rfl (by omega)
      rw [List.drop_zero, List.nil_append] at hT
      simp only [impl_Hist_trees.f]
      refine ev_bind (impl_TreeOk_ev b) (ev_pos ht (ev_succ ?_))
      simp only [impl_Hist_trees.j0]
      exact ev_neg (by simpa using h6) (ev_bindc (clone_eq b (by omega)) hT)
  · rw [if_neg ht]
    rw [if_neg (by simp)]
    simp only [impl_Hist_trees.f]
    refine ev_bind (impl_TreeOk_ev b) (ev_neg ht (ev_succ ?_))
    simp only [impl_Hist_trees.j0]
    exact ev_pos trivial (Ev.now _)
theorem impl_trees_ev (b : List S80) (steps : List (List S78)) (hl : b.length ≤ 1048576) (hm : steps.length ≤ 1048576) (hb : ∀ x ∈ steps, OpsB x) : ∃ T, Ev (fun k => impl_Hist_trees.f k b steps) (T, histB b steps) := ⟨_, impl_trees_at b steps hl hm hb⟩

/-! #### impl_HistAt -/
theorem impl_HistAt_ev (b : List S80) (steps : List (List S78)) (n : Int) (hl : b.length ≤ 1048576) (hm : steps.length ≤ 1048576) (hb : ∀ x ∈ steps, OpsB x) : Ev (fun k => impl_HistAt.f k b steps n) (histAtT b steps n) := by
  simp only [impl_HistAt.f]
  refine ev_bind (impl_trees_at b steps hl hm hb) ?_
  unfold histAtT
  by_cases h : histB b steps = true
  · rw [if_pos h, if_pos h]
    dsimp only
    have hs := statesF_length steps b
    rw [w64 (x := ((statesF b steps).length : Int) - 1) (by omega) (by omega)]
    refine ev_bindc (within_eq _ _ _) ?_
    by_cases hn : 0 ≤ n ∧ n ≤ (steps.length : Int)
    · rw [if_pos hn]
      refine ev_pos (by simp; omega) (ev_pos (by omega) (ev_pos (by omega) (ev_some ?_)))
      have := statesF_get steps b n.toNat (by omega)
      exact this
    · rw [if_neg hn]
      exact ev_neg (by simp; omega) (Ev.now _)
  · rw [if_neg h, if_neg h]
    dsimp only
    rw [List.length_nil, w64 (x := ((0 : Nat) : Int) - 1) (by omega) (by omega)]
    refine ev_bindc (within_eq _ _ _) ?_
    exact ev_neg (by simp; omega) (Ev.now _)

/-! #### laws_eqIntS -/
theorem eqIntS_l0 (a : List Int) (hm : (a.length : Int) ≤ 9223372036854775806) : ∀ (d i : Nat), i + d = a.length → Ev (fun k => laws_eqIntS.l0 k a a i) true := by
  intro d
  induction d with
  | zero =>
    intro i h
    refine ev_succ ?_
    simp only [laws_eqIntS.l0]
    exact ev_neg (by omega) (Ev.now _)
  | succ d ih =>
    intro i h
    refine ev_succ ?_
    simp only [laws_eqIntS.l0]
    refine ev_pos (by omega) (ev_pos (by omega) (ev_pos (by omega) (ev_pos trivial ?_)))
    rw [w64 (by omega) (by omega)]
    exact ih (i + 1) (by omega)

theorem eqIntS_ev (a : List Int) (hm : (a.length : Int) ≤ 9223372036854775806) : Ev (fun k => laws_eqIntS.f k a a) true := by
  simp only [laws_eqIntS.f]
  exact ev_pos trivial (eqIntS_l0 a hm a.length 0 (by omega))

/-! #### laws_eqOp -/
theorem eqOp_self (a0 : Int) (p : List Int) (a2 a3 a4 : Int) (hp : (p.length : Int) ≤ 1099511627776) : Ev (fun k => laws_eqOp.f k a0 p a2 a3 a4 a0 p a2 a3 a4) true := by
  simp only [laws_eqOp.f]
  exact ev_pos trivial (ev_bind (eqIntS_ev p (by omega)) (ev_pos rfl (ev_pos trivial (ev_pos trivial (ev_pos trivial (Ev.now _))))))

/-! #### laws_eqOpS -/
theorem eqOpS_ev (ops : List S78) (hb : OpsB ops) : Ev (fun k => laws_eqOpS.f k ops ops) true := by
  have hl := hb.1
  have key : ∀ (d j : Nat), j + d = ops.length → Ev (fun k => laws_eqOpS.l0 k ops ops (j : Int)) true := by
    intro d
    induction d with
    | zero =>
      intro j h
      refine ev_succ ?_
      simp only [laws_eqOpS.l0]
      exact ev_neg (by omega) (Ev.now _)
    | succ d ih =>
      intro j h
      refine ev_succ ?_
      simp only [laws_eqOpS.l0]
      have hp := hb.at (j := j) (by omega)
      refine ev_pos (by omega) (ev_pos (by omega) (ev_pos (by omega) (ev_bind (eqOp_self _ _ _ _ _ hp) (ev_pos rfl ?_))))
      rw [w64 (x := (j : Int) + 1) (by omega) (by omega)]
      exact ih (j + 1) (by omega)
  simp only [laws_eqOpS.f]
  exact ev_pos trivial (key ops.length 0 (by omega))

/-! #### laws_eqOpSS -/
theorem eqOpSS_ev (a : List (List S78)) (hm : a.length ≤ 1048576) (hb : ∀ x ∈ a, OpsB x) : Ev (fun k => laws_eqOpSS.f k a a) true := by
  have key : ∀ (d j : Nat), j + d = a.length → Ev (fun k => laws_eqOpSS.l0 k a a (j : Int)) true := by
    intro d
    induction d with
    | zero =>
      intro j h
      refine ev_succ ?_
      simp only [laws_eqOpSS.l0]
      exact ev_neg (by omega) (Ev.now _)
    | succ d ih =>
      intro j h
      have hi : j < a.length := by omega
      have hs := eqOpS_ev a[j] (hb _ (List.getElem_mem hi))
      have eg : a.getD j [] = a[j] := by simp [hi]
      rw [← eg] at hs
      refine ev_succ ?_
      simp only [laws_eqOpSS.l0]
      refine ev_pos (by omega) (ev_pos (by omega) (ev_pos (by omega) (ev_bind hs (ev_pos rfl ?_))))
      rw [w64 (x := (j : Int) + 1) (by omega) (by omega)]
      exact ih (j + 1) (by omega)
  simp only [laws_eqOpSS.f]
  exact ev_pos trivial (key a.length 0 (by omega))

/-! #### laws_eqHist -/
theorem eqHist_ev (b : List S80) (a : List (List S78)) (hn : b.length ≤ 1048576) (hm : a.length ≤ 1048576) (hb : ∀ x ∈ a, OpsB x) : Ev (fun k => laws_eqHist.f k b a b a) true := by
  simp only [laws_eqHist.f]
  exact ev_bind (eqNodeS_ev b (by omega)) (ev_pos rfl (ev_bind (eqOpSS_ev a hm hb) (ev_pos rfl (Ev.now _))))

/-! #### laws_markIntS -/
/-- a, a + 1, ..: n of them -/
def seqI (a : Int) (n : Nat) : List Int := (List.range n).map fun (j : Nat) => a + (j : Int)
theorem seqI_length (a : Int) (n : Nat) : (seqI a n).length = n := by simp [seqI]
theorem seqI_succ (a : Int) (n : Nat) : seqI a (n + 1) = seqI a n ++ [a + (n : Int)] := by simp [seqI, List.range_succ]
theorem seqI_rd (a : Int) (n i : Nat) (h : i < n) : rd (seqI a n) i = a + (i : Int) := by simp [rd, seqI, h]

theorem markIntS_l0 (l : List Int) (a : Int) (h0 : 0 ≤ a) (hm : a + l.length ≤ 9223372036854775806) : ∀ (d i : Nat), i + d = l.length → Ev (fun k => laws_markIntS.l0 k (seqI a i ++ l.drop i) (a + i) i) (a + l.length, seqI a l.length) := by
  intro d
  induction d with
  | zero =>
    intro i h
    refine ev_succ ?_
    simp only [laws_markIntS.l0]
    have e : i = l.length := by omega
    subst e
    refine ev_neg (by rw [List.length_append, seqI_length, List.length_drop]; omega) (ev_some ?_)
    rw [List.drop_length, List.append_nil]
  | succ d ih =>
    intro i h
    refine ev_succ ?_
    simp only [laws_markIntS.l0]
    refine ev_pos (by rw [List.length_append, seqI_length, List.length_drop]; omega) (ev_pos (by omega) ?_)
    rw [w64 (by omega) (by omega), w64 (by omega) (by omega)]
    have hi : i < l.length := by omega
    have e1 : (seqI a i ++ l.drop i).set ((i : Int)).toNat (a + i) = seqI a (i + 1) ++ l.drop (i + 1) := by
      rw [Int.toNat_natCast, List.set_append_right _ _ (by rw [seqI_length]; omega), seqI_length, Nat.sub_self, List.drop_eq_getElem_cons hi, List.set_cons_zero, seqI_succ, List.append_assoc]
      rfl
    rw [e1]
    have e2 : a + (i : Int) + 1 = a + ((i + 1 : Nat) : Int) := by omega
    rw [e2]
    exact ih (i + 1) (by omega)

theorem markIntS_ev (l : List Int) (a : Int) (h0 : 0 ≤ a) (hm : a + l.length ≤ 9223372036854775806) : Ev (fun k => laws_markIntS.f k l a) (a + l.length, seqI a l.length) := by
  simp only [laws_markIntS.f]
  have := markIntS_l0 l a h0 hm l.length 0 (by omega)
  simpa [seqI] using this

end Go.Proofs.Ytdapeboajjidmaa.QFnExactHistAt
