/- What the printed functions of the law FnInverted come to, function by function, from some number of rounds on; each under the bounds that it names. -/
import Derived.Test.YtdapeboajjidmabQFnInverteda
namespace Go.Proofs.Ytdapeboajjidmab.QFnInverted
open Go.RowKit Go.Proofs.Ytdapeboajjidmab.PFnInverted Go.Proofs.YtdapeboajjidmabW.PrintWords Go.Proofs.YtdapeboajjidmabW.PrintLast Go.Proofs.YtdapeboajjidmabW.PrintMore Go.Proofs.Ytdapeboajjidmab.EvAid Go.Proofs.Ytdapeboajjidmab
set_option linter.unusedVariables false
set_option linter.unusedSimpArgs false

/-! #### spec_ParentOf -/
theorem spec_ParentOf_l0 (l : List S62) (i : Nat) (hi : i < l.length) (hm : l.length ≤ 24) : ∀ (j : Nat), j ≤ i → Ev (fun k => spec_ParentOf.l0 k l (i : Int) ((j : Int) - 1)) (Tree.upFrom (dpA l) (dpA l i) j) := by
  intro j
  induction j with
  | zero =>
    intro _
    refine ev_succ ?_
    simp only [spec_ParentOf.l0]
    exact ev_neg (by omega) (ev_some (by rw [Tree.upFrom]; omega))
  | succ j ih =>
    intro hj
    refine ev_succ ?_
    simp only [spec_ParentOf.l0]
    have e : ((j + 1 : Nat) : Int) - 1 = (j : Int) := by omega
    rw [e, Tree.upFrom]
    simp only [rd_f1]
    refine ev_pos (by omega) (ev_pos (by omega) (ev_pos (by omega) (ev_pos (by omega) (ev_pos (by omega) ?_))))
    by_cases h : dpA l j ≥ dpA l i
    · refine ev_pos h ?_
      rw [if_neg (by omega), w64 (by omega) (by omega)]
      exact ih (by omega)
    · refine ev_neg h (ev_some ?_)
      rw [if_pos (by omega)]
theorem spec_ParentOf_ev (l : List S62) (i : Int) (hm : (l.length : Int) ≤ 9223372036854775806) : Ev (fun k => spec_ParentOf.f k l i) (parI l i) := by
  simp only [spec_ParentOf.f]
  refine ev_bind (l3At_ev l i hm) ?_
  unfold parI
  by_cases h : hasB l i = true
  · obtain ⟨j, rfl, hj, h1, h2, hv⟩ := hasB_nat h
    refine ev_pos h ?_
    rw [if_pos h, w64 (by omega) (by omega)]
    exact spec_ParentOf_l0 l j hj h2 j (Nat.le_refl _)
  · refine ev_neg h ?_
    rw [if_neg h]
    exact Ev.now _

/-! #### _rankI -/
/-- where x stands first in l -/
def idxJ (l : List Int) (x : Int) : Int := if x ∈ l then (l.idxOf x : Int) else -1
/-- which kid of its parent a node is -/
def rankI (l : List S62) (i : Int) : Int := if parI l i < 0 then -1 else idxJ (kidsI l (parI l i)) i

/-! #### spec_KidRank -/
theorem spec_KidRank_l0 (l : List Int) (x : Int) (hm : (l.length : Int) ≤ 9223372036854775806) : ∀ (d i : Nat), i + d = l.length → (∀ j, j < i → (hj : j < l.length) → l[j] ≠ x) → Ev (fun k => spec_KidRank.l0 k x l (i : Int)) (idxJ l x) := by
  intro d
  induction d with
  | zero =>
    intro i h hn
    refine ev_succ ?_
    simp only [spec_KidRank.l0]
    refine ev_neg (by omega) (ev_some ?_)
    unfold idxJ
    rw [if_neg]
    intro hm2
    obtain ⟨j, hj, e⟩ := List.getElem_of_mem hm2
    exact hn j (by omega) hj e
  | succ d ih =>
    intro i h hn
    refine ev_succ ?_
    simp only [spec_KidRank.l0]
    have hi : i < l.length := by omega
    have e : rd l (i : Int) = l[i] := by simp [rd, hi]
    refine ev_pos (by omega) (ev_pos (by omega) ?_)
    rw [e]
    by_cases hx : l[i] = x
    · refine ev_pos hx (ev_some ?_)
      unfold idxJ
      have hmem : x ∈ l := by rw [← hx]; exact List.getElem_mem hi
      rw [if_pos hmem]
      have hlt := List.idxOf_lt_length_of_mem hmem
      have hge := List.getElem_idxOf hlt
      have h1 : ¬ l.idxOf x < i := fun hlt2 => hn _ hlt2 hlt hge
      have h2 : ¬ i < l.idxOf x := by
        intro hlt2
        have := List.not_of_lt_findIdx (p := (· == x)) (xs := l) (i := i) hlt2
        simp at this
        exact this hx
      omega
    · refine ev_neg hx ?_
      rw [w64 (by omega) (by omega)]
      refine ih (i + 1) (by omega) (fun j hj hjl => ?_)
      by_cases ej : j = i
      · subst ej; exact hx
      · exact hn j (by omega) hjl
theorem spec_KidRank_ev (l : List S62) (i : Int) (hm : (l.length : Int) ≤ 9223372036854775806) : Ev (fun k => spec_KidRank.f k l i) (rankI l i) := by
  simp only [spec_KidRank.f]
  refine ev_bind (spec_ParentOf_ev l i hm) ?_
  unfold rankI
  have hk := kidsI_length l (parI l i)
  by_cases h : parI l i < 0
  · refine ev_pos h ?_
    rw [if_pos h]
    exact Ev.now _
  · refine ev_neg h (ev_bind (spec_KidsOf_ev l _ hm) ?_)
    rw [if_neg h]
    exact spec_KidRank_l0 _ _ (by omega) (kidsI l (parI l i)).length 0 (by omega) (fun j h => absurd h (Nat.not_lt_zero _))

/-! #### spec_PathOf -/
theorem parI_lt {l : List S62} {i : Int} (h : ¬ parI l i < 0) : parI l i < i ∧ 0 ≤ i := by
  unfold parI at h ⊢
  by_cases hh : hasB l i = true
  · rw [if_pos hh] at h ⊢
    obtain ⟨j, rfl, hj, _⟩ := hasB_nat hh
    rw [Int.toNat_natCast] at h ⊢
    unfold Tree.par at h ⊢
    rcases Tree.upFrom_spec (dpA l) (dpA l j) j with ⟨e, _⟩ | ⟨p, e, a, _⟩
    · rw [e] at h; omega
    · rw [e]; omega
  · rw [if_neg hh] at h; omega
theorem rankI_par {l : List S62} {i : Int} (h : rankI l i ≥ 0) : ¬ parI l i < 0 := by
  intro hp
  unfold rankI at h
  rw [if_pos hp] at h
  omega
/-- the path of a node, its numbers put ahead of what is there -/
def pathUp (l : List S62) : Nat → Int → List Int → List Int
  | 0, _, acc => acc
  | n + 1, i, acc => if rankI l i ≥ 0 then pathUp l n (parI l i) (rankI l i :: acc) else acc
/-- the path of a node -/
def pathI (l : List S62) (i : Int) : List Int := pathUp l (i + 1).toNat i []
theorem pathUp_length (l : List S62) : ∀ (n : Nat) (i : Int) (acc : List Int), (pathUp l n i acc).length ≤ acc.length + n := by
  intro n
  induction n with
  | zero => intro i acc; exact Nat.le_refl _
  | succ n ih =>
    intro i acc
    rw [pathUp]
    split
    · have := ih (parI l i) (rankI l i :: acc)
      simp only [List.length_cons] at this
      omega
    · omega
theorem spec_PathOf_l0 (l : List S62) (hm : (l.length : Int) ≤ 1099511627776) : ∀ (n : Nat) (i : Int) (acc : List Int), i < (n : Int) → acc.length + n ≤ 1099511627776 → Ev (fun k => spec_PathOf.l0 k l acc i) (pathUp l n i acc) := by
  intro n
  induction n with
  | zero =>
    intro i acc hi ha
    refine ev_succ ?_
    simp only [spec_PathOf.l0]
    have hr : ¬ rankI l i ≥ 0 := fun h => by have := (parI_lt (rankI_par h)).2; omega
    exact ev_bind (spec_KidRank_ev l i (by omega)) (ev_neg hr (Ev.now _))
  | succ n ih =>
    intro i acc hi ha
    refine ev_succ ?_
    simp only [spec_PathOf.l0]
    rw [pathUp]
    refine ev_bind (spec_KidRank_ev l i (by omega)) ?_
    by_cases hr : rankI l i ≥ 0
    · rw [if_pos hr]
      have hp := parI_lt (rankI_par hr)
      refine ev_pos hr (ev_bind (spec_KidRank_ev l i (by omega)) (ev_bindc rfl (ev_pos (by simp only [List.length_singleton]; omega) (ev_bind (spec_ParentOf_ev l i (by omega)) ?_))))
      exact ih (parI l i) (rankI l i :: acc) (by omega) (by simp only [List.length_cons]; omega)
    · rw [if_neg hr]
      exact ev_neg hr (Ev.now _)
theorem pathUp_more (l : List S62) : ∀ (n m : Nat) (i : Int) (acc : List Int), i < (n : Int) → i < (m : Int) → pathUp l n i acc = pathUp l m i acc := by
  intro n
  induction n with
  | zero =>
    intro m i acc h1 h2
    have hr : ¬ rankI l i ≥ 0 := fun h => by have := (parI_lt (rankI_par h)).2; omega
    cases m with
    | zero => rfl
    | succ m => rw [pathUp, pathUp, if_neg hr]
  | succ n ih =>
    intro m i acc h1 h2
    by_cases hr : rankI l i ≥ 0
    · have hp := parI_lt (rankI_par hr)
      cases m with
      | zero => omega
      | succ m => rw [pathUp, pathUp, if_pos hr, if_pos hr]; exact ih m _ _ (by omega) (by omega)
    · cases m with
      | zero => rw [pathUp, pathUp, if_neg hr]
      | succ m => rw [pathUp, pathUp, if_neg hr, if_neg hr]
theorem spec_PathOf_ev (l : List S62) (i : Int) (hm : (l.length : Int) ≤ 1099511627775) : Ev (fun k => spec_PathOf.f k l i) (pathI l i) := by
  simp only [spec_PathOf.f]
  unfold pathI
  by_cases hi : i < (l.length : Int)
  · have := spec_PathOf_l0 l (by omega) (l.length + 1) i [] (by omega) (by simp only [List.length_nil]; omega)
    rw [pathUp_more l (l.length + 1) (i + 1).toNat i [] (by omega) (by omega)] at this
    exact this
  · have hr : ¬ rankI l i ≥ 0 := by
      intro h
      have h2 := rankI_par h
      unfold parI at h2
      have : ¬ hasB l i = true := fun hh => by have := (hasB_iff.1 hh).2.2; omega
      rw [if_neg this] at h2
      omega
    have e : pathUp l (i + 1).toNat i [] = [] := by
      cases (i + 1).toNat with
      | zero => rfl
      | succ m => rw [pathUp, if_neg hr]
    rw [e]
    refine ev_succ ?_
    simp only [spec_PathOf.l0]
    exact ev_bind (spec_KidRank_ev l i (by omega)) (ev_neg hr (Ev.now _))
theorem pathI_length (l : List S62) (i : Int) : (pathI l i).length ≤ l.length + 1 := by
  unfold pathI
  by_cases hi : i < (l.length : Int)
  · have := pathUp_length l (i + 1).toNat i []
    simp only [List.length_nil] at this
    omega
  · have hr : ¬ rankI l i ≥ 0 := by
      intro h
      have h2 := rankI_par h
      unfold parI at h2
      have : ¬ hasB l i = true := fun hh => by have := (hasB_iff.1 hh).2.2; omega
      rw [if_neg this] at h2
      omega
    cases (i + 1).toNat with
    | zero => simp [pathUp]
    | succ m => rw [pathUp, if_neg hr]; simp

/-! #### spec_l13Op -/
theorem l13Op_j1 (s : List Int) (i h0 a0 : Int) (p : List Int) (a2 a3 a4 : Int) (hp : p.length ≤ 2000) (hc : Cur s i) : ∃ k0 q k2 k3 k4 i' h, Ev (fun k => spec_l13Op.j1 k s i h0 a0 p a2 a3 a4) (k0, q, k2, k3, k4, i', h) ∧ q.length ≤ 2001 ∧ Cur s i' := by
  obtain ⟨x, i1, h1, b1, _, _, _, hc1⟩ := l1Below_ok s i h0 14 hc
  by_cases x0 : x = 0
  · obtain ⟨y, i2, h2, b2, _, _, _, hc2⟩ := l1Below_ok s i1 h1 5 hc1
    refine ⟨y, p, a2, a3, a4, i2, h2, ev_succ ?_, by omega, hc2⟩
    simp only [spec_l13Op.j1]
    exact ev_bindc b1 (ev_pos x0 (ev_bindc b2 (Ev.now _)))
  · by_cases x1 : x = 1
    · obtain ⟨y, i2, h2, b2, _, _, _, hc2⟩ := l1Below_ok s i1 h1 3 hc1
      refine ⟨a0, p ++ [wrap64 (y - 1)], a2, a3, a4, i2, h2, ev_succ ?_, by simp only [List.length_append, List.length_singleton]; omega, hc2⟩
      simp only [spec_l13Op.j1]
      exact ev_bindc b1 (ev_neg x0 (ev_pos x1 (ev_bindc b2 (ev_pos (by omega) (Ev.now _)))))
    · by_cases x2 : x = 2
      · obtain ⟨y, i2, h2, b2, hc2⟩ := l2Any_ok s i1 h1 hc1
        refine ⟨a0, p, y, a3, a4, i2, h2, ev_succ ?_, by omega, hc2⟩
        simp only [spec_l13Op.j1]
        exact ev_bindc b1 (ev_neg x0 (ev_neg x1 (ev_pos x2 (ev_bindc b2 (Ev.now _)))))
      · by_cases x3 : x = 3
        · obtain ⟨j, i2, h2, b2, _, hc2⟩ := l1PickInt_ok s i1 h1 [(-1), 1, 9, 9223372036854775807] (by simp) hc1
          refine ⟨a0, p, a2, rd [(-1), 1, 9, 9223372036854775807] (j : Int), a4, i2, h2, ev_succ ?_, by omega, hc2⟩
          simp only [spec_l13Op.j1]
          exact ev_bindc b1 (ev_neg x0 (ev_neg x1 (ev_neg x2 (ev_pos x3 (ev_bindc b2 (Ev.now _))))))
        · by_cases x4 : x = 4
          · obtain ⟨j, i2, h2, b2, _, hc2⟩ := l1PickInt_ok s i1 h1 [(-1), 1, 9, 9223372036854775807] (by simp) hc1
            refine ⟨a0, p, a2, a3, rd [(-1), 1, 9, 9223372036854775807] (j : Int), i2, h2, ev_succ ?_, by omega, hc2⟩
            simp only [spec_l13Op.j1]
            exact ev_bindc b1 (ev_neg x0 (ev_neg x1 (ev_neg x2 (ev_neg x3 (ev_pos x4 (ev_bindc b2 (Ev.now _)))))))
          · refine ⟨a0, p, a2, a3, a4, i1, h1, ev_succ ?_, by omega, hc1⟩
            simp only [spec_l13Op.j1]
            exact ev_bindc b1 (ev_neg x0 (ev_neg x1 (ev_neg x2 (ev_neg x3 (ev_neg x4 (Ev.now _))))))
theorem l13Op_j0 (l : List S62) (s : List Int) (i h0 a0 : Int) (p : List Int) (a2 a3 a4 : Int) (hl : l.length ≤ 1000) (hp : p.length ≤ 2000) (hc : Cur s i) : ∃ k0 q k2 k3 k4 i' h, Ev (fun k => spec_l13Op.j0 k l s i h0 a0 p a2 a3 a4) (k0, q, k2, k3, k4, i', h) ∧ q.length ≤ 2001 ∧ Cur s i' := by
  by_cases h3 : a0 = 3
  · obtain ⟨x, i1, h1, b1, _, _, _, hc1⟩ := l1Below_ok s i h0 (wrap64 (((kidsI l (nodeI l p)).length : Int) + 1)) hc
    obtain ⟨y, i2, h2, b2, _, _, _, hc2⟩ := l1Below_ok s i1 h1 (wrap64 ((wrap64 (((kidsI l (nodeI l p)).length : Int) - x)) + 1)) hc1
    obtain ⟨k0, q, k2, k3, k4, i', h, he, hq, hc'⟩ := l13Op_j1 s i2 h2 a0 p a2 x y hp hc2
    refine ⟨k0, q, k2, k3, k4, i', h, ev_succ ?_, hq, hc'⟩
    simp only [spec_l13Op.j0]
    exact ev_pos h3 (ev_bind (spec_NodeAt_ev l p (by omega) (by omega)) (ev_bind (spec_KidsOf_ev l _ (by omega)) (ev_bindc b1 (ev_bindc b2 he))))
  · obtain ⟨k0, q, k2, k3, k4, i', h, he, hq, hc'⟩ := l13Op_j1 s i h0 a0 p a2 a3 a4 hp hc
    refine ⟨k0, q, k2, k3, k4, i', h, ev_succ ?_, hq, hc'⟩
    simp only [spec_l13Op.j0]
    exact ev_neg h3 he
theorem l13Op_ok (s : List Int) (i h0 : Int) (l : List S62) (hl : l.length ≤ 1000) (hc : Cur s i) : ∃ k0 q k2 k3 k4 i' h, Ev (fun k => spec_l13Op.f k s i h0 l) (k0, q, k2, k3, k4, i', h) ∧ q.length ≤ 2001 ∧ Cur s i' := by
  obtain ⟨x, i1, h1, b1, _, _, _, hc1⟩ := l1Below_ok s i h0 3 hc
  obtain ⟨y, i2, h2, b2, _, _, _, hc2⟩ := l1Below_ok s i1 h1 (mx 1 (l.length : Int)) hc1
  have hpl := pathI_length l y
  by_cases h : wrap64 (1 + x) = 2
  · obtain ⟨k0, q, k2, k3, k4, i', h', he, hq, hc'⟩ := l13Op_j0 l s i2 h2 (wrap64 (1 + x)) (pathI l y) 0 0 0 hl (by omega) hc2
    refine ⟨k0, q, k2, k3, k4, i', h', ?_, hq, hc'⟩
    simp only [spec_l13Op.f]
    exact ev_bindc b1 (ev_bindc b2 (ev_bind (spec_PathOf_ev l y (by omega)) (ev_pos h he)))
  · obtain ⟨z, i3, h3, b3, _, hc3⟩ := l2Label_ok s i2 h2 hc2
    obtain ⟨k0, q, k2, k3, k4, i', h', he, hq, hc'⟩ := l13Op_j0 l s i3 h3 (wrap64 (1 + x)) (pathI l y) z 0 0 hl (by omega) hc3
    refine ⟨k0, q, k2, k3, k4, i', h', ?_, hq, hc'⟩
    simp only [spec_l13Op.f]
    exact ev_bindc b1 (ev_bindc b2 (ev_bind (spec_PathOf_ev l y (by omega)) (ev_neg h (ev_bindc b3 he))))

/-! #### _opsB -/
/-- the operations' paths are short enough to be counted -/
def OpsB (ops : List S121) : Prop := (ops.length : Int) ≤ 1099511627776 ∧ ∀ o ∈ ops, (o.f1.length : Int) ≤ 1099511627776
theorem OpsB.at {ops : List S121} (h : OpsB ops) {j : Nat} (hj : j < ops.length) : ((rd_T121 ops (j : Int)).f1.length : Int) ≤ 1099511627776 := by
  have e : rd_T121 ops (j : Int) = ops[j] := by show ops.getD j _ = _; simp [hj]
  rw [e]
  exact h.2 _ (List.getElem_mem hj)
theorem drop_op (ops : List S121) (j : Nat) (h : j < ops.length) : ops.drop j = rd_T121 ops (j : Int) :: ops.drop (j + 1) := by
  rw [List.drop_eq_getElem_cons h]
  congr 1
  show _ = ops.getD j _
  simp [h]

/-! #### _all -/
/-- one operation, told as a structure -/
def appO (l : List S62) (o : S121) : List S62 × Int := applyT l o.f0 o.f1 o.f2 o.f3 o.f4
/-- one behind the other, up to the first that cannot be done; how many were, and why -/
def allF : List S62 → Int → List S121 → List S62 × Int × Int
  | l, n, [] => (l, n, 0)
  | l, n, o :: r => if (appO l o).2 = 0 then allF (appO l o).1 (n + 1) r else (l, n, (appO l o).2)
def allT (l : List S62) (ops : List S121) : List S62 × Int × Int := if treeOk l = true then allF l 0 ops else ([], 0, 2)
theorem appO_length (l : List S62) (o : S121) (n : Nat) (hn : 25 ≤ n) (h : l.length ≤ n) : (appO l o).1.length ≤ n := applyT_length l _ _ _ _ _ n hn h
theorem allF_length (n : Nat) (hn : 25 ≤ n) : ∀ (ops : List S121) (l : List S62) (c : Int), l.length ≤ n → (allF l c ops).1.length ≤ n := by
  intro ops
  induction ops with
  | nil => intro l c h; exact h
  | cons o r ih =>
    intro l c h
    rw [allF]
    split
    · exact ih _ _ (appO_length l o n hn h)
    · exact h
theorem allT_length (l : List S62) (ops : List S121) (n : Nat) (hn : 25 ≤ n) (h : l.length ≤ n) : (allT l ops).1.length ≤ n := by
  unfold allT
  split
  · exact allF_length n hn ops l 0 h
  · simp
theorem allF_from (ops : List S121) : ∀ (l : List S62) (c : Int), allF l c ops = ((allF l 0 ops).1, c + (allF l 0 ops).2.1, (allF l 0 ops).2.2) := by
  induction ops with
  | nil => intro l c; simp [allF]
  | cons o r ih =>
    intro l c
    rw [allF, allF]
    split
    · rw [ih _ (c + 1), ih _ (0 + 1)]
      simp only [Prod.mk.injEq, true_and, and_true]
      omega
    · simp

/-! #### spec_l13Script -/
/-- drawn operations: at most so many, their paths short -/
def OpsD (ops : List S121) (n : Nat) : Prop := ops.length ≤ n ∧ ∀ o ∈ ops, o.f1.length ≤ 2001
theorem OpsD.snoc {ops : List S121} {n : Nat} (h : OpsD ops n) {o : S121} (ho : o.f1.length ≤ 2001) : OpsD (ops ++ [o]) (n + 1) := by
  refine ⟨by have := h.1; simp only [List.length_append, List.length_singleton]; omega, fun x hx => ?_⟩
  rcases List.mem_append.1 hx with hx | hx
  · exact h.2 x hx
  · rw [List.mem_singleton.1 hx]; exact ho
theorem OpsD.cons {ops : List S121} {n : Nat} (h : OpsD ops n) {o : S121} (ho : o.f1.length ≤ 2001) : OpsD (o :: ops) (n + 1) := by
  refine ⟨by have := h.1; simp only [List.length_cons]; omega, fun x hx => ?_⟩
  rcases List.mem_cons.1 hx with rfl | hx
  · exact ho
  · exact h.2 x hx
theorem OpsD.le {ops : List S121} {n m : Nat} (h : OpsD ops n) (hm : n ≤ m) : OpsD ops m := ⟨Nat.le_trans h.1 hm, h.2⟩
theorem OpsD.b {ops : List S121} {n : Nat} (h : OpsD ops n) (hn : n ≤ 1000000) : OpsB ops := ⟨by have := h.1; omega, fun o ho => by have := h.2 o ho; omega⟩
theorem l13Script_l0 (s : List Int) : ∀ (d : Nat) (ops : List S121) (l : List S62) (i h0 : Int) (m : Nat), OpsD ops m → m + d ≤ 100000 → l.length ≤ 1000 → Cur s i →
    ∃ r i' h, Ev (fun k => spec_l13Script.l0 k ops l (d : Int) s i h0) (r, i', h) ∧ OpsD r (m + d) ∧ Cur s i' := by
  intro d
  induction d with
  | zero =>
    intro ops l i h0 m ho hm hl hc
    refine ⟨ops, i, h0, ev_succ ?_, ho, hc⟩
    simp only [spec_l13Script.l0]
    exact ev_neg (by omega) (Ev.now _)
  | succ d ih =>
    intro ops l i h0 m ho hm hl hc
    obtain ⟨k0, q, k2, k3, k4, i1, h1, he, hq, hc1⟩ := l13Op_ok s i h0 l hl hc
    have hap := spec_ApplyOp_ev l k0 q k2 k3 k4 (by omega) (by omega)
    have hal := applyT_length l k0 q k2 k3 k4 1000 (by omega) hl
    have hed : wrap64 (((d + 1 : Nat) : Int) - 1) = (d : Int) := by rw [w64 (by omega) (by omega)]; omega
    have hol := ho.1
    have em : m + 1 + d = m + (d + 1) := by omega
    by_cases hz : (applyT l k0 q k2 k3 k4).2 = 0
    · obtain ⟨r, i', h, hr, hor, hcr⟩ := ih (ops ++ [⟨k0, q, k2, k3, k4⟩]) _ i1 h1 (m + 1) (ho.snoc hq) (by omega) hal hc1
      refine ⟨r, i', h, ev_succ ?_, by rw [← em]; exact hor, hcr⟩
      simp only [spec_l13Script.l0]
      refine ev_pos (by omega) (ev_bind he (ev_bind hap (ev_pos hz (ev_succ ?_))))
      simp only [spec_l13Script.j1, hed]
      exact ev_pos trivial (ev_pos (by omega) (ev_bindc rfl (ev_pos hz hr)))
    · obtain ⟨o, i2, h2, b2, hc2⟩ := l1Once_ok s i1 h1 3 hc1
      by_cases hoo : o = true
      · obtain ⟨r, i', h, hr, hor, hcr⟩ := ih (ops ++ [⟨k0, q, k2, k3, k4⟩]) l i2 h2 (m + 1) (ho.snoc hq) (by omega) hl hc2
        refine ⟨r, i', h, ev_succ ?_, by rw [← em]; exact hor, hcr⟩
        simp only [spec_l13Script.l0]
        refine ev_pos (by omega) (ev_bind he (ev_bind hap (ev_neg hz (ev_bindc b2 (ev_succ ?_)))))
        simp only [spec_l13Script.j1, hed]
        exact ev_pos hoo (ev_pos (by omega) (ev_bindc rfl (ev_neg hz hr)))
      · obtain ⟨r, i', h, hr, hor, hcr⟩ := ih ops l i2 h2 m ho (by omega) hl hc2
        refine ⟨r, i', h, ev_succ ?_, hor.le (by omega), hcr⟩
        simp only [spec_l13Script.l0]
        refine ev_pos (by omega) (ev_bind he (ev_bind hap (ev_neg hz (ev_bindc b2 (ev_succ ?_)))))
        simp only [spec_l13Script.j1, hed]
        exact ev_neg hoo (ev_neg hz hr)
theorem l13Script_ok (s : List Int) (i h0 : Int) (l : List S62) (most : Int) (h1 : 0 < most) (h2 : most ≤ 90000) (hl : l.length ≤ 1000) (hc : Cur s i) : ∃ r i' h, Ev (fun k => spec_l13Script.f k s i h0 l most) (r, i', h) ∧ OpsD r most.toNat ∧ Cur s i' := by
  obtain ⟨x, i1, h1', b1, hx0, hx1, _, hc1⟩ := l1Below_ok s i h0 most hc
  have hx := hx1 h1
  obtain ⟨n, rfl⟩ : ∃ n : Nat, x = (n : Int) := ⟨x.toNat, by omega⟩
  obtain ⟨r, i', h, hr, hor, hcr⟩ := l13Script_l0 s n [] l i1 h1' 0 ⟨Nat.le_refl _, fun o ho => absurd ho List.not_mem_nil⟩ (by omega) hl hc1
  refine ⟨r, i', h, ?_, hor.le (by omega), hcr⟩
  simp only [spec_l13Script.f]
  exact ev_bindc (l3Copy_eq l (by omega)) (ev_bindc b1 hr)

/-! #### spec_DrawApplyAll -/
theorem DrawApplyAll_ok (l : List Int) (hl : (l.length : Int) ≤ 4611686018427387904) : ∃ a ops, Ev (fun k => spec_DrawApplyAll.f k l) (a, ops) ∧ a.length ≤ 1000 ∧ OpsD ops 7 := by
  obtain ⟨h, hn⟩ := l1New_ev l hl
  obtain ⟨t, i1, h1, b1, ht, hc1⟩ := l3Any_ok l 0 h 8 (by omega) ⟨⟨by omega, by omega⟩, hl⟩
  obtain ⟨r, i2, h2, b2, hr, hc2⟩ := l13Script_ok l i1 h1 t 7 (by omega) (by omega) ht hc1
  refine ⟨t, r, ?_, ht, hr⟩
  simp only [spec_DrawApplyAll.f]
  exact ev_bind hn (ev_bind b1 (ev_bind b2 (Ev.now _)))

/-! #### spec_DrawInvert -/
theorem DrawInvert_ok (l : List Int) (hl : (l.length : Int) ≤ 4611686018427387904) : ∃ a ops, Ev (fun k => spec_DrawInvert.f k l) (a, ops) ∧ a.length ≤ 1000 ∧ OpsD ops 7 := by
  obtain ⟨a, ops, hd, ha, ho⟩ := DrawApplyAll_ok l hl
  refine ⟨a, ops, ?_, ha, ho⟩
  simp only [spec_DrawInvert.f]
  exact ev_bind hd (Ev.now _)

/-! #### impl_within -/
theorem within_eq (a b c : Int) : impl_within.f a b c = some (decide (b ≤ a ∧ a ≤ c)) := by
  unfold impl_within.f
  by_cases h : b ≤ a
  · rw [if_pos h]; simp [h]
  · rw [if_neg h]; simp [h]

/-! #### impl_LabelOk -/
theorem LabelOk_eq (a : Int) : impl_LabelOk.f a = some (decide (0 ≤ a ∧ a ≤ 5)) := by
  unfold impl_LabelOk.f; rw [within_eq]; rfl

/-! #### impl_TreeOk -/
theorem depthOk_eq (l : List S62) (i : Nat) (hi : i < l.length) (hl : l.length ≤ 24) (hp : 0 < i → 0 ≤ dpA l (i - 1) ∧ dpA l (i - 1) ≤ 12) : impl_depthOk.f l (i : Int) = some (decide (if i = 0 then dpA l i = 0 else 1 ≤ dpA l i ∧ dpA l i ≤ dpA l (i - 1) + 1)) := by
  unfold impl_depthOk.f
  by_cases h0 : i = 0
  · subst h0
    conv => lhs; rw [if_pos (show ((0 : Nat) : Int) = 0 from rfl), if_pos (by omega)]
    congr 1
  · have e1 : (i : Int) - 1 = ((i - 1 : Nat) : Int) := by omega
    have hb := hp (by omega)
    conv => lhs; rw [if_neg (by omega), if_pos (by omega), if_pos (by omega), w64 (x := (i : Int) - 1) (by omega) (by omega), e1, if_pos (by omega), if_pos (by omega), rd_f1, rd_f1, w64 (x := dpA l (i - 1) + 1) (by omega) (by omega), within_eq]
    simp only [h0, if_false, Option.bind_some]
theorem impl_TreeOk_l0 (l : List S62) (hl : l.length ≤ 24) : ∀ (d i : Nat), i + d = l.length → (0 < i → okAt l (i - 1)) → Ev (fun k => impl_TreeOk.l0 k l l (l.length : Int) (i : Int)) (okFrom l i) := by
  intro d
  induction d with
  | zero =>
    intro i h hp
    refine ev_succ ?_
    simp only [impl_TreeOk.l0]
    refine ev_neg (by omega) (ev_some ?_)
    rw [okFrom_end (by omega)]
  | succ d ih =>
    intro i h hp
    refine ev_succ ?_
    simp only [impl_TreeOk.l0]
    simp only [rd_f0, rd_f1]
    rw [okFrom_step (by omega)]
    refine ev_pos (by omega) (ev_pos (by omega) (ev_pos (by omega) (ev_bindc (LabelOk_eq _) ?_)))
    simp only [decide_eq_true_eq]
    by_cases h1 : 0 ≤ lbA l i ∧ lbA l i ≤ 5
    · refine ev_pos h1 (ev_bindc (within_eq _ _ _) ?_)
      simp only [decide_eq_true_eq]
      by_cases h2 : 0 ≤ dpA l i ∧ dpA l i ≤ 12
      · refine ev_pos h2 (ev_bindc (depthOk_eq l i (by omega) hl (fun h0 => (hp h0).2.1)) ?_)
        simp only [decide_eq_true_eq]
        by_cases h3 : (if i = 0 then dpA l i = 0 else 1 ≤ dpA l i ∧ dpA l i ≤ dpA l (i - 1) + 1)
        · refine ev_pos h3 ?_
          have ok : okAt l i := ⟨h1, h2, h3⟩
          rw [w64 (x := (i : Int) + 1) (by omega) (by omega), decide_eq_true ok, Bool.true_and]
          exact ih (i + 1) (by omega) (fun _ => ok)
        · refine ev_neg h3 (ev_some ?_)
          have ok : ¬ okAt l i := fun h => h3 h.2.2
          rw [decide_eq_false ok, Bool.false_and]
      · refine ev_neg h2 (ev_some ?_)
        have ok : ¬ okAt l i := fun h => h2 h.2.1
        rw [decide_eq_false ok, Bool.false_and]
    · refine ev_neg h1 (ev_some ?_)
      have ok : ¬ okAt l i := fun h => h1 h.1
      rw [decide_eq_false ok, Bool.false_and]
theorem impl_TreeOk_ev (l : List S62) : Ev (fun k => impl_TreeOk.f k l) (treeOk l) := by
  simp only [impl_TreeOk.f]
  refine ev_bindc (within_eq _ _ _) ?_
  simp only [decide_eq_true_eq]
  rw [okFrom_zero]
  by_cases h : 1 ≤ l.length ∧ l.length ≤ 24
  · refine ev_pos (by omega) ?_
    rw [decide_eq_true h, Bool.true_and]
    exact impl_TreeOk_l0 l h.2 l.length 0 (by omega) (fun h => absurd h (Nat.lt_irrefl 0))
  · refine ev_neg (by omega) (ev_some ?_)
    rw [decide_eq_false h, Bool.false_and]

/-! #### slices_Clone_Node -/
theorem clone_eq (l : List S62) (h : l.length < 8796093022208) : slices_Clone_Node.f l = some l := by
  unfold slices_Clone_Node.f
  simp only [Option.bind_some, List.nil_append, List.length_nil]
  rw [if_pos (by omega)]

/-! #### impl_hasNode -/
theorem hasNode_ev (l : List S62) (i : Int) (hm : (l.length : Int) ≤ 9223372036854775806) : Ev (fun k => impl_hasNode.f k l i) (hasB l i) := by
  simp only [impl_hasNode.f]
  refine ev_bind (impl_TreeOk_ev l) ?_
  unfold hasB
  by_cases h : treeOk l = true
  · refine ev_pos h ?_
    rw [h, w64 (x := (l.length : Int) - 1) (by omega) (by omega)]
    refine ev_bindc (within_eq _ _ _) (ev_some ?_)
    rw [Bool.true_and]
    congr 1
    simp only [eq_iff_iff]
    omega
  · refine ev_neg h (ev_some ?_)
    have : treeOk l = false := by simpa using h
    rw [this, Bool.false_and]

/-! #### impl_endOf -/
theorem endOf_l0 (l : List S62) (i : Nat) (hi : i < l.length) (hm : l.length ≤ 24) : ∀ (f j : Nat), l.length ≤ j + f → i < j → Ev (fun k => impl_endOf.l0 k l (i : Int) (j : Int)) (Tree.eoFrom l.length (dpA l) (dpA l i) f j : Int) := by
  intro f
  induction f with
  | zero =>
    intro j h h1
    refine ev_succ ?_
    simp only [impl_endOf.l0]
    exact ev_neg (by omega) (Ev.now _)
  | succ f ih =>
    intro j h h1
    refine ev_succ ?_
    simp only [impl_endOf.l0]
    simp only [rd_f1]
    rw [Tree.eoFrom]
    by_cases h2 : j < l.length
    · refine ev_pos (by omega) (ev_pos (by omega) (ev_pos (by omega) (ev_pos (by omega) ?_)))
      by_cases h3 : dpA l j > dpA l i
      · refine ev_pos h3 ?_
        rw [if_pos ⟨h2, h3⟩, w64 (by omega) (by omega)]
        exact ih (j + 1) (by omega) (by omega)
      · refine ev_neg h3 (ev_some ?_)
        rw [if_neg (by omega)]
    · refine ev_neg (by omega) (ev_some ?_)
      rw [if_neg (by omega)]
theorem endOf_ev (l : List S62) (i : Nat) (hi : i < l.length) (hm : l.length ≤ 24) : Ev (fun k => impl_endOf.f k l (i : Int)) (Tree.eo l.length (dpA l) i : Int) := by
  simp only [impl_endOf.f]
  rw [w64 (by omega) (by omega)]
  exact endOf_l0 l i hi hm (l.length - (i + 1)) (i + 1) (by omega) (by omega)

/-! #### impl_KidsOf -/
theorem impl_KidsOf_l0 (l : List S62) (i : Nat) (hi : i < l.length) (hm : l.length ≤ 24) (ht : treeOk l = true) : ∀ (d j : Nat), j + d = Tree.eo l.length (dpA l) i → i < j →
    Ev (fun k => impl_KidsOf.l0 k l (i : Int) (kidsTo l i j) (j : Int)) (kidsTo l i (Tree.eo l.length (dpA l) i)) := by
  have he := Tree.eo_le (D := dpA l) hi
  intro d
  induction d with
  | zero =>
    intro j h hj
    refine ev_succ ?_
    simp only [impl_KidsOf.l0]
    refine ev_bind (endOf_ev l i hi hm) (ev_neg (by omega) (ev_some ?_))
    have : j = Tree.eo l.length (dpA l) i := by omega
    rw [this]
  | succ d ih =>
    intro j h hj
    refine ev_succ ?_
    simp only [impl_KidsOf.l0]
    simp only [rd_f1]
    have d2 := dp_range ht hi
    have hk := kidsTo_length l i j
    refine ev_bind (endOf_ev l i hi hm) (ev_pos (by omega) (ev_pos (by omega) (ev_pos (by omega) (ev_pos (by omega) (ev_pos (by omega) ?_)))))
    rw [w64 (x := dpA l i + 1) (by omega) (by omega), w64 (x := (j : Int) + 1) (by omega) (by omega)]
    have := ih (j + 1) (by omega) (by omega)
    rw [kidsTo_step l i j hj] at this
    by_cases hd : dpA l j = dpA l i + 1
    · rw [if_pos hd] at this
      exact ev_pos hd (ev_pos (by omega) this)
    · rw [if_neg hd, List.append_nil] at this
      exact ev_neg hd this
theorem impl_KidsOf_ev (l : List S62) (i : Int) (hm : (l.length : Int) ≤ 9223372036854775806) : Ev (fun k => impl_KidsOf.f k l i) (kidsI l i) := by
  simp only [impl_KidsOf.f, Option.bind_some]
  refine ev_bind (hasNode_ev l i hm) ?_
  by_cases h : hasB l i = true
  · refine ev_pos h ?_
    obtain ⟨j, rfl, hj, h1, h2, hv⟩ := hasB_nat h
    have g := @Tree.eo_gt l.length (dpA l) j
    rw [w64 (by omega) (by omega), kidsI_nat h]
    have := impl_KidsOf_l0 l j hj h2 h1 (Tree.eo l.length (dpA l) j - (j + 1)) (j + 1) (by omega) (by omega)
    have e : kidsTo l j (j + 1) = [] := by unfold kidsTo; rw [Nat.sub_self]; rfl
    rw [e] at this
    exact this
  · refine ev_neg h (ev_some ?_)
    unfold kidsI
    rw [if_neg h]

/-! #### impl_NodeAt -/
theorem impl_NodeAt_l0 (l : List S62) (p : List Int) (ht : treeOk l = true) (hp : (p.length : Int) ≤ 9223372036854775806) : ∀ (d j i : Nat), j + d = p.length → i < l.length → Ev (fun k => impl_NodeAt.l0 k l (i : Int) p (p.length : Int) (j : Int)) (optI (Tree.goDown l.length (dpA l) i (p.drop j))) := by
  have h24 := (treeOk_iff.1 ht).1
  intro d
  induction d with
  | zero =>
    intro j i h hi
    refine ev_succ ?_
    simp only [impl_NodeAt.l0]
    rw [List.drop_eq_nil_of_le (by omega)]
    exact ev_neg (by omega) (Ev.now _)
  | succ d ih =>
    intro j i h hi
    refine ev_succ ?_
    simp only [impl_NodeAt.l0]
    have hkl := kidsI_length l (i : Int)
    refine ev_pos (by omega) (ev_pos (by omega) (ev_pos (by omega) (ev_bind (impl_KidsOf_ev l _ (by omega)) (ev_bindc (within_eq _ _ _) ?_))))
    rw [w64 (by omega) (by omega), kidsI_ok ht hi, List.length_map, drop_rd p j (by omega), Tree.goDown]
    by_cases hk : 0 ≤ rd p (j : Int) ∧ rd p (j : Int) < ((Tree.kids l.length (dpA l) i).length : Int)
    · rw [if_pos hk]
      refine ev_pos (decide_eq_true (by omega)) (ev_pos hk.1 (ev_pos hk.2 ?_))
      rw [rd_nat _ _ hk.1 hk.2, w64 (x := (j : Int) + 1) (by omega) (by omega)]
      refine ih (j + 1) _ (by omega) (Tree.kids_lt (D := dpA l) hi ?_)
      rw [List.getD_eq_getElem?_getD, List.getElem?_eq_getElem (by omega)]
      exact List.getElem_mem _
    · rw [if_neg hk]
      exact ev_neg (by simp only [decide_eq_true_eq]; omega) (Ev.now _)
theorem impl_NodeAt_ev (l : List S62) (p : List Int) (hp : (p.length : Int) ≤ 9223372036854775806) : Ev (fun k => impl_NodeAt.f k l p) (nodeI l p) := by
  simp only [impl_NodeAt.f]
  refine ev_bind (impl_TreeOk_ev l) ?_
  unfold nodeI
  by_cases h : treeOk l = true
  · rw [if_pos h]
    exact ev_pos h (impl_NodeAt_l0 l p h hp p.length 0 0 (by omega) (by have := (treeOk_iff.1 h).1; omega))
  · rw [if_neg h]
    exact ev_neg h (Ev.now _)

/-! #### impl_opCode -/
theorem opCode_l0 (l : List S62) (f t : Nat) (ht : treeOk l = true) (hft : f ≤ t) (htl : t ≤ l.length) : ∀ (d j : Nat) (a : Int), f + j + d = t → Ev (fun k => impl_opCode.l0 k l (f : Int) (t : Int) a ((l.take t).drop f) (((l.take t).drop f).length : Int) (j : Int)) (if (l.length : Int) = 24 then (6, 0, 0) else if deepF l d (f + j) a > 12 then (7, 0, 0) else (0, (f : Int), (t : Int))) := by
  have hlen : ((l.take t).drop f).length = t - f := by rw [List.length_drop, List.length_take]; omega
  have h24 := (treeOk_iff.1 ht).1
  intro d
  induction d with
  | zero =>
    intro j a h
    refine ev_succ ?_
    simp only [impl_opCode.l0]
    refine ev_neg (by omega) ?_
    refine ev_ite (fun c => by rw [if_pos c]; exact Ev.now _) (fun c => ?_)
    rw [if_neg c]
    show Ev _ (if a > 12 then _ else _)
    exact ev_ite (fun c => by rw [if_pos c]; exact Ev.now _) (fun c => by rw [if_neg c]; exact Ev.now _)
  | succ d ih =>
    intro j a h
    refine ev_succ ?_
    simp only [impl_opCode.l0]
    have dj := dp_range ht (j := f + j) (by omega)
    have ed : dpA ((l.take t).drop f) j = dpA l (f + j) := by unfold dpA; rw [at_drop, at_take _ _ _ (by omega)]
    refine ev_pos (by omega) (ev_pos (by omega) (ev_pos (by omega) ?_))
    rw [rd_f1, ed, w64 (x := dpA l (f + j) + 1) (by omega) (by omega), w64 (x := (j : Int) + 1) (by omega) (by omega)]
    exact ih (j + 1) _ (by omega)
theorem opCode_j1 (l : List S62) (i : Nat) (kind lab fr ct : Int) (p : List Int) (ht : treeOk l = true) (hi : i < l.length) (b : Bool) (hb : b = decide (kind = 2 ∧ (i : Int) = 0)) (hk : 1 ≤ kind ∧ kind ≤ 3) (hl : ¬ (kind ≠ 2 ∧ ¬ (0 ≤ lab ∧ lab ≤ 5))) : Ev (fun k => impl_opCode.j1 k l (i : Int) b kind p lab fr ct) (codeT l kind lab fr ct (i : Int)) := by
  have h24 := (treeOk_iff.1 ht).1
  have he := Tree.eo_le (D := dpA l) hi
  have di := dp_range ht hi
  have hkl := kidsI_length l (i : Int)
  have hkn : (kidsI l (i : Int)).length = (Tree.kids l.length (dpA l) i).length := by rw [kidsI_ok ht hi, List.length_map]
  unfold codeT
  rw [if_pos hk, if_neg (by omega), if_neg hl, Int.toNat_natCast]
  refine ev_succ ?_
  simp only [impl_opCode.j1]
  by_cases h1 : kind = 2 ∧ (i : Int) = 0
  · rw [if_pos h1]
    exact ev_pos (by rw [hb]; exact decide_eq_true h1) (Ev.now _)
  · rw [if_neg h1]
    refine ev_neg (by rw [hb]; simpa using h1) ?_
    by_cases h3 : kind = 3
    · rw [if_pos h3]
      refine ev_pos h3 (ev_bind (impl_KidsOf_ev l _ (by omega)) (ev_bindc (within_eq _ _ _) ?_))
      have bad : ¬ (0 ≤ fr ∧ fr ≤ ((Tree.kids l.length (dpA l) i).length : Int) ∧ 0 ≤ ct ∧ ct ≤ ((Tree.kids l.length (dpA l) i).length : Int) - fr) → Ev (fun k => impl_opCode.j2 k l (i : Int) (kidsI l (i : Int)) true kind p lab fr ct) (if 0 ≤ fr ∧ fr ≤ ((Tree.kids l.length (dpA l) i).length : Int) ∧ 0 ≤ ct ∧ ct ≤ ((Tree.kids l.length (dpA l) i).length : Int) - fr then tailT l i ((Tree.bounds l.length (dpA l) i).getD fr.toNat 0) ((Tree.bounds l.length (dpA l) i).getD (fr + ct).toNat 0) else (5, 0, 0)) := by
        intro c
        rw [if_neg c]
        refine ev_succ ?_
        simp only [impl_opCode.j2]
        exact ev_pos trivial (Ev.now _)
      by_cases h4 : 0 ≤ fr ∧ fr ≤ ((kidsI l (i : Int)).length : Int)
      · refine ev_pos (decide_eq_true h4) (ev_bindc (within_eq _ _ _) ?_)
        rw [w64 (by omega) (by omega)]
        by_cases h5 : 0 ≤ ct ∧ ct ≤ ((kidsI l (i : Int)).length : Int) - fr
        · have hall : 0 ≤ fr ∧ fr ≤ ((Tree.kids l.length (dpA l) i).length : Int) ∧ 0 ≤ ct ∧ ct ≤ ((Tree.kids l.length (dpA l) i).length : Int) - fr := by omega
          obtain ⟨f1, f2, f3, f4⟩ := bounds_facts hi hall
          rw [decide_eq_true h5, if_pos hall]
          refine ev_succ ?_
          simp only [impl_opCode.j2]
          have hbl := bounds_length l.length (dpA l) i
          refine ev_neg (by decide) (ev_bind (endOf_ev l i hi (by omega)) (ev_pos (by omega) (ev_bindc rfl ?_)))
          rw [bounds_int ht hi, List.length_map, w64 (x := fr + ct) (by omega) (by omega)]
          refine ev_pos (by omega) (ev_pos (by omega) (ev_pos (by omega) (ev_pos (by omega) ?_)))
          rw [rd_nat _ _ (by omega) (by omega), rd_nat _ _ (by omega) (by omega)]
          refine ev_pos (by omega) (ev_pos (by omega) (ev_pos (by omega) (ev_pos (by omega) (ev_pos (by omega) (ev_bindc rfl ?_)))))
          rw [rd_f1, w64 (x := dpA l i + 1) (by omega) (by omega)]
          simp only [Int.toNat_natCast]
          unfold tailT
          have := opCode_l0 l ((Tree.bounds l.length (dpA l) i).getD fr.toNat 0) ((Tree.bounds l.length (dpA l) i).getD (fr + ct).toNat 0) ht f2 (by omega) ((Tree.bounds l.length (dpA l) i).getD (fr + ct).toNat 0 - (Tree.bounds l.length (dpA l) i).getD fr.toNat 0) 0 (dpA l i + 1) (by omega)
          exact this
        · rw [decide_eq_false h5]
          exact bad (by omega)
      · exact ev_neg (by simpa using h4) (bad (by omega))
    · rw [if_neg h3]
      exact ev_neg h3 (Ev.now _)
theorem opCode_ev (l : List S62) (kind lab fr ct i : Int) (p : List Int) (hi : i < 0 ∨ ∃ n : Nat, i = (n : Int) ∧ n < l.length ∧ treeOk l = true) : Ev (fun k => impl_opCode.f k l kind p lab fr ct i) (codeT l kind lab fr ct i) := by
  simp only [impl_opCode.f]
  refine ev_bindc (within_eq _ _ _) ?_
  by_cases hk : 1 ≤ kind ∧ kind ≤ 3
  · refine ev_pos (decide_eq_true hk) ?_
    rcases hi with hi | ⟨n, rfl, hn, ht⟩
    · unfold codeT
      rw [if_pos hk, if_pos hi]
      exact ev_pos hi (Ev.now _)
    · refine ev_neg (by omega) ?_
      by_cases h2 : kind = 2
      · refine ev_pos h2 (ev_succ ?_)
        simp only [impl_opCode.j0]
        refine ev_neg (by decide) (ev_pos h2 (opCode_j1 l n kind lab fr ct p ht hn _ ?_ hk (by omega)))
        rw [Bool.eq_iff_iff]; simp [h2]
      · refine ev_neg h2 (ev_bindc (LabelOk_eq _) (ev_succ ?_))
        simp only [impl_opCode.j0]
        by_cases hl : 0 ≤ lab ∧ lab ≤ 5
        · refine ev_neg (by simp [hl]) (ev_neg h2 (opCode_j1 l n kind lab fr ct p ht hn _ ?_ hk (by omega)))
          simp [h2]
        · refine ev_pos (by rw [decide_eq_false hl]; rfl) ?_
          unfold codeT
          rw [if_pos hk, if_neg (by omega), if_pos ⟨h2, hl⟩]
          exact Ev.now _
  · refine ev_neg (by simpa using hk) ?_
    unfold codeT
    rw [if_neg hk]
    exact Ev.now _

/-! #### slices_Delete_Node -/
theorem delete_eq (l : List S62) (i j : Nat) (hij : i ≤ j) (hj : j ≤ l.length) : slices_Delete_Node.f l (i : Int) (j : Int) = some (l.take i ++ l.drop j) := by
  unfold slices_Delete_Node.f
  rw [if_pos (by omega)]
  simp only [Int.toNat_natCast]

/-! #### slices_Insert_Node -/
theorem insert_eq (l : List S62) (i : Nat) (v : List S62) (hi : i ≤ l.length) (hv : 0 < v.length) (hl : l.length + v.length < 8796093022208) : slices_Insert_Node.f l (i : Int) v = some (l.take i ++ v ++ l.drop i) := by
  unfold slices_Insert_Node.f
  rw [if_pos (by omega)]
  simp only [Int.toNat_natCast]

/-! #### impl_ApplyOp -/
theorem impl_ApplyOp_l0 (l : List S62) (i : Nat) (ht : treeOk l = true) (hi : i < l.length) : ∀ (d j : Nat), j + d = Tree.eo l.length (dpA l) i → i < j → Ev (fun k => impl_ApplyOp.l0 k l (midN (-1) (i + 1) l j) (i : Int) (j : Int)) (l.take i ++ ((l.take (Tree.eo l.length (dpA l) i)).drop (i + 1)).map (upN (-1)) ++ l.drop (Tree.eo l.length (dpA l) i), 0) := by
  have h24 := (treeOk_iff.1 ht).1
  have el := Tree.eo_le (D := dpA l) hi
  intro d
  induction d with
  | zero =>
    intro j h hj
    refine ev_succ ?_
    simp only [impl_ApplyOp.l0]
    have ew : wrap64 ((i : Int) + 1) = ((i + 1 : Nat) : Int) := by rw [w64 (by omega) (by omega)]; omega
    have hml := midN_length (-1) (i + 1) l j (by omega) (by omega)
    refine ev_bind (endOf_ev l i hi (by omega)) (ev_neg (by omega) ?_)
    rw [ew]
    refine ev_bindc (delete_eq _ i (i + 1) (by omega) (by omega)) (ev_some ?_)
    have e : j = Tree.eo l.length (dpA l) i := by omega
    rw [midN_drop _ _ _ _ (by omega), ← e]
    have e2 : (midN (-1) (i + 1) l j).take i = l.take i := by
      have := congrArg (List.take i) (midN_take (-1) (i + 1) l j (by omega))
      rw [List.take_take, List.take_take, Nat.min_eq_left (by omega)] at this
      exact this
    rw [e2, List.append_assoc]
  | succ d ih =>
    intro j h hj
    refine ev_succ ?_
    simp only [impl_ApplyOp.l0]
    have dj := dp_range ht (j := j) (by omega)
    have hml := midN_length (-1) (i + 1) l j (by omega) (by omega)
    refine ev_bind (endOf_ev l i hi (by omega)) (ev_pos (by omega) (ev_pos (by omega) (ev_pos (by omega) ?_)))
    rw [midN_rd _ _ _ _ (by omega) (by omega), Int.sub_eq_add_neg, upN_eq (t := l) (i := j) (b := -1) (by omega) (by omega), Int.toNat_natCast, midN_set _ _ _ _ (by omega) (by omega), w64 (x := (j : Int) + 1) (by omega) (by omega)]
    exact ih (j + 1) (by omega) (by omega)
theorem impl_ApplyOp_l1 (l : List S62) (i f t : Nat) (kind : Int) (p : List Int) (lab fr ct : Int) (ht : treeOk l = true) (hi : i < l.length) (hft : f ≤ t) (htl : t ≤ l.length) : ∀ (d j : Nat), j + d = t → f ≤ j → Ev (fun k => impl_ApplyOp.l1 k l (midN 1 f l j) (i : Int) (f : Int) (t : Int) (j : Int) kind p lab fr ct) (l.take f ++ [(⟨lab, dpA l i + 1⟩ : S62)] ++ ((l.take t).drop f).map (upN 1) ++ l.drop t, 0) := by
  have h24 := (treeOk_iff.1 ht).1
  have di := dp_range ht hi
  intro d
  induction d with
  | zero =>
    intro j h hj
    refine ev_succ ?_
    simp only [impl_ApplyOp.l1]
    have hml := midN_length 1 f l j (by omega) (by omega)
    have e : j = t := by omega
    subst e
    refine ev_neg (by omega) (ev_pos (by omega) (ev_pos (by omega) ?_))
    refine ev_bindc (insert_eq _ f _ (by omega) (by simp) (by simp only [List.length_singleton]; omega)) (ev_some ?_)
    rw [midN_take _ _ _ _ (by omega), midN_drop _ _ _ _ (by omega), rd_f1, w64 (x := dpA l i + 1) (by omega) (by omega)]
    simp only [List.append_assoc]
  | succ d ih =>
    intro j h hj
    refine ev_succ ?_
    simp only [impl_ApplyOp.l1]
    have dj := dp_range ht (j := j) (by omega)
    have hml := midN_length 1 f l j (by omega) (by omega)
    refine ev_pos (by omega) (ev_pos (by omega) (ev_pos (by omega) ?_))
    rw [midN_rd _ _ _ _ (by omega) (by omega), upN_eq (t := l) (i := j) (b := 1) (by omega) (by omega), Int.toNat_natCast, midN_set _ _ _ _ (by omega) (by omega), w64 (x := (j : Int) + 1) (by omega) (by omega)]
    exact ih (j + 1) (by omega) (by omega)
theorem impl_ApplyOp_ev (l : List S62) (kind : Int) (p : List Int) (lab fr ct : Int) (hp : (p.length : Int) ≤ 9223372036854775806) : Ev (fun k => impl_ApplyOp.f k l kind p lab fr ct) (applyT l kind p lab fr ct) := by
  simp only [impl_ApplyOp.f]
  refine ev_bind (impl_TreeOk_ev l) ?_
  unfold applyT
  by_cases ht : treeOk l = true
  · rw [if_pos ht]
    have h24 := (treeOk_iff.1 ht).1
    refine ev_pos ht (ev_bindc (clone_eq l (by omega)) (ev_bind (impl_NodeAt_ev l p hp) (ev_bind (opCode_ev l kind lab fr ct _ p (nodeI_cases l p)) ?_)))
    by_cases hc : (codeT l kind lab fr ct (nodeI l p)).1 = 0
    · rw [if_pos hc]
      refine ev_pos hc ?_
      obtain ⟨hk, hi0, hl, hr, h3', h3⟩ := codeT_ok hc
      obtain ⟨i, hi, hin, _, _⟩ := nodeI_nat hi0
      rw [hi] at hc hr h3' h3 ⊢
      have di := dp_range ht hin
      have el := Tree.eo_le (D := dpA l) hin
      have eg := @Tree.eo_gt l.length (dpA l) i
      by_cases k1 : kind = 1
      · refine ev_pos k1 (ev_pos (by omega) (ev_pos (by omega) (ev_some ?_)))
        unfold doneT
        rw [if_pos k1]
        rfl
      · refine ev_neg k1 ?_
        by_cases k2 : kind = 2
        · have ew : wrap64 ((i : Int) + 1) = ((i + 1 : Nat) : Int) := by rw [w64 (by omega) (by omega)]; omega
          refine ev_pos k2 ?_
          unfold doneT
          rw [if_neg k1, if_pos k2, ew, Int.toNat_natCast]
          have := impl_ApplyOp_l0 l i ht hin (Tree.eo l.length (dpA l) i - (i + 1)) (i + 1) (by omega) (by omega)
          rw [midN_self] at this
          exact this
        · refine ev_neg k2 ?_
          obtain ⟨hb, hcode, h24', _⟩ := h3 (by omega)
          rw [hcode]
          rw [Int.toNat_natCast] at hb ⊢
          obtain ⟨f1, f2, f3, f4⟩ := bounds_facts hin hb
          generalize (Tree.bounds l.length (dpA l) i).getD fr.toNat 0 = f at *
          generalize (Tree.bounds l.length (dpA l) i).getD (fr + ct).toNat 0 = t at *
          unfold doneT
          rw [if_neg k1, if_neg k2]
          simp only [Int.toNat_natCast]
          have := impl_ApplyOp_l1 l i f t kind p lab fr ct ht hin f2 (by omega) (t - f) f (by omega) (Nat.le_refl _)
          rw [midN_self] at this
          exact this
    · rw [if_neg hc]
      exact ev_neg hc (Ev.now _)
  · rw [if_neg ht]
    exact ev_neg ht (Ev.now _)

/-! #### slices_Clone_int -/
theorem cloneI_eq (l : List Int) (h : l.length < 17592186044416) : slices_Clone_int.f l = some l := by
  unfold slices_Clone_int.f
  simp only [Option.bind_some, List.length_nil, Nat.zero_add, List.nil_append]
  rw [if_pos h]

/-! #### _applyOk -/
/-- what stands where behind a deletion -/
theorem del_getD (l : List S62) (i e j : Nat) (hi : i < e) (he : e ≤ l.length) : (l.take i ++ ((l.take e).drop (i + 1)).map (upN (-1)) ++ l.drop e).getD j z62 = if j < i then l.getD j z62 else if j + 1 < e then upN (-1) (l.getD (j + 1) z62) else l.getD (j + 1) z62 := by
  have h1 : (l.take i).length = i := by rw [List.length_take]; omega
  have h2 : (((l.take e).drop (i + 1)).map (upN (-1))).length = e - (i + 1) := by rw [List.length_map, List.length_drop, List.length_take]; omega
  rw [List.append_assoc, at_append, h1]
  by_cases a : j < i
  · rw [if_pos a, if_pos a, at_take _ _ _ a]
  · rw [if_neg a, if_neg a, at_append, h2]
    by_cases b : j + 1 < e
    · rw [if_pos (by omega), if_pos b, at_up _ _ _ (by rw [List.length_drop, List.length_take]; omega), at_drop, at_take _ _ _ (by omega), show i + 1 + (j - i) = j + 1 by omega]
    · rw [if_neg (by omega), if_neg b, at_drop, show e + (j - i - (e - (i + 1))) = j + 1 by omega]
/-- what stands where behind an insertion -/
theorem ins_getD (l : List S62) (x : S62) (f t j : Nat) (hft : f ≤ t) (ht : t ≤ l.length) : (l.take f ++ [x] ++ ((l.take t).drop f).map (upN 1) ++ l.drop t).getD j z62 = if j < f then l.getD j z62 else if j = f then x else if j - 1 < t then upN 1 (l.getD (j - 1) z62) else l.getD (j - 1) z62 := by
  have h1 : (l.take f).length = f := by rw [List.length_take]; omega
  have h2 : (((l.take t).drop f).map (upN 1)).length = t - f := by rw [List.length_map, List.length_drop, List.length_take]; omega
  rw [List.append_assoc, List.append_assoc, at_append, h1]
  by_cases a : j < f
  · rw [if_pos a, if_pos a, at_take _ _ _ a]
  · rw [if_neg a, if_neg a]
    by_cases b : j = f
    · rw [if_pos b, b, Nat.sub_self]; rfl
    · rw [if_neg b, show j - f = (j - 1 - f) + 1 by omega]
      show (((l.take t).drop f).map (upN 1) ++ l.drop t).getD (j - 1 - f) z62 = _
      rw [at_append, h2]
      by_cases c : j - 1 < t
      · rw [if_pos (by omega), if_pos c, at_up _ _ _ (by rw [List.length_drop, List.length_take]; omega), at_drop, at_take _ _ _ (by omega), show f + (j - 1 - f) = j - 1 by omega]
      · rw [if_neg (by omega), if_neg c, at_drop, show t + (j - 1 - f - (t - f)) = j - 1 by omega]
theorem deepF_ge (l : List S62) : ∀ (k f : Nat) (d : Int), d ≤ deepF l k f d ∧ ∀ j, f ≤ j → j < f + k → dpA l j + 1 ≤ deepF l k f d := by
  intro k
  induction k with
  | zero => intro f d; exact ⟨Int.le_refl _, fun j h1 h2 => by omega⟩
  | succ k ih =>
    intro f d
    obtain ⟨a, b⟩ := ih (f + 1) (mx d (dpA l f + 1))
    rw [deepF]
    have m1 : d ≤ mx d (dpA l f + 1) ∧ dpA l f + 1 ≤ mx d (dpA l f + 1) := by unfold mx; omega
    refine ⟨by omega, fun j h1 h2 => ?_⟩
    rcases Nat.eq_or_lt_of_le h1 with h | h
    · subst h; omega
    · exact b j h (by omega)
theorem Vd_congr {n : Nat} {D D' : Nat → Int} (h : ∀ j, j < n → D j = D' j) (hv : Tree.Vd n D) : Tree.Vd n D' := by
  obtain ⟨a, b, c⟩ := hv
  refine ⟨a, by rw [← h 0 (by omega)]; exact b, fun j h1 h2 => ?_⟩
  rw [← h j h2, ← h (j - 1) (by omega)]
  exact c j h1 h2
theorem treeOk_of {l : List S62} (h1 : 1 ≤ l.length ∧ l.length ≤ 24) (hl : ∀ j, j < l.length → 0 ≤ lbA l j ∧ lbA l j ≤ 5) (hd : ∀ j, j < l.length → dpA l j ≤ 12) (hv : Tree.Vd l.length (dpA l)) : treeOk l = true := by
  refine treeOk_iff.2 ⟨h1, fun j hj => ⟨hl j hj, ⟨?_, hd j hj⟩, ?_⟩⟩
  · by_cases h0 : j = 0
    · subst h0; rw [hv.2.1]; omega
    · have := (hv.2.2 j (by omega) hj).1; omega
  · by_cases h0 : j = 0
    · subst h0; rw [if_pos rfl]; exact hv.2.1
    · rw [if_neg h0]; exact hv.2.2 j (by omega) hj
/-- a deletion, told by labels and depths -/
theorem del_facts {l : List S62} {i : Nat} (ht : treeOk l = true) (h0 : 0 < i) (hi : i < l.length) {X : List S62} (hX : X = l.take i ++ ((l.take (Tree.eo l.length (dpA l) i)).drop (i + 1)).map (upN (-1)) ++ l.drop (Tree.eo l.length (dpA l) i)) :
    X.length = l.length - 1 ∧ (∀ j, lbA X j = if j < i then lbA l j else lbA l (j + 1)) ∧ (∀ j, dpA X j = Tree.delD (dpA l) i (Tree.eo l.length (dpA l) i) j) ∧ treeOk X = true := by
  have g := @Tree.eo_gt l.length (dpA l) i
  have le := Tree.eo_le (D := dpA l) hi
  have hlen : X.length = l.length - 1 := by
    rw [hX]
    simp only [List.length_append, List.length_map, List.length_drop, List.length_take]
    omega
  have hat := del_getD l i (Tree.eo l.length (dpA l) i) (he := le) (hi := g)
  have hlb : ∀ j, lbA X j = if j < i then lbA l j else lbA l (j + 1) := by
    intro j
    unfold lbA
    rw [hX, hat j]
    split
    · rfl
    · split <;> rfl
  have hdp : ∀ j, dpA X j = Tree.delD (dpA l) i (Tree.eo l.length (dpA l) i) j := by
    intro j
    show (X.getD j z62).f1 = _
    rw [hX, hat j]
    unfold Tree.delD
    by_cases a : j < i
    · rw [if_pos a, if_pos a]; rfl
    · rw [if_neg a, if_neg a]
      by_cases b : j + 1 < Tree.eo l.length (dpA l) i
      · rw [if_pos b, if_pos b]
        show (l.getD (j + 1) z62).f1 + -1 = (l.getD (j + 1) z62).f1 - 1
        omega
      · rw [if_neg b, if_neg b]; rfl
  obtain ⟨h1, h2⟩ := treeOk_iff.1 ht
  refine ⟨hlen, hlb, hdp, treeOk_of ⟨by omega, by omega⟩ (fun j hj => ?_) (fun j hj => ?_) ?_⟩
  · rw [hlb j]
    split
    · exact (h2 j (by omega)).1
    · exact (h2 (j + 1) (by omega)).1
  · rw [hdp j]
    unfold Tree.delD
    split
    · exact (h2 j (by omega)).2.1.2
    · have := (h2 (j + 1) (by omega)).2.1.2
      split <;> omega
  · rw [hlen]
    exact Vd_congr (fun j hj => (hdp j).symm) (Tree.del_valid (treeOk_vd ht) h0 hi)
/-- an insertion, told by labels and depths -/
theorem ins_facts {l : List S62} {i f t : Nat} {lab : Int} (ht : treeOk l = true) (hi : i < l.length) (hf : Tree.IsB l.length (dpA l) i f) (hb : Tree.IsB l.length (dpA l) i t) (hft : f ≤ t) (hlab : 0 ≤ lab ∧ lab ≤ 5) (h24 : (l.length : Int) ≠ 24) (hdeep : ¬ deepF l (t - f) f (dpA l i + 1) > 12)
    {X : List S62} (hX : X = l.take f ++ [(⟨lab, dpA l i + 1⟩ : S62)] ++ ((l.take t).drop f).map (upN 1) ++ l.drop t) :
    X.length = l.length + 1 ∧ (∀ j, lbA X j = if j < f then lbA l j else if j = f then lab else lbA l (j - 1)) ∧ (∀ j, dpA X j = Tree.insD (dpA l) i f t j) ∧ treeOk X = true := by
  have le := Tree.eo_le (D := dpA l) hi
  have lf := Tree.IsB_le hf
  have lt := Tree.IsB_le hb
  have hlen : X.length = l.length + 1 := by
    rw [hX]
    simp only [List.length_append, List.length_map, List.length_drop, List.length_take, List.length_singleton]
    omega
  have hat := ins_getD l (⟨lab, dpA l i + 1⟩ : S62) f t (hft := hft) (ht := by omega)
  have hlb : ∀ j, lbA X j = if j < f then lbA l j else if j = f then lab else lbA l (j - 1) := by
    intro j
    unfold lbA
    rw [hX, hat j]
    split
    · rfl
    · split
      · rfl
      · split <;> rfl
  have hdp : ∀ j, dpA X j = Tree.insD (dpA l) i f t j := by
    intro j
    unfold Tree.insD
    show (X.getD j _).f1 = _
    rw [hX, hat j]
    split
    · rfl
    · split
      · rfl
      · split <;> rfl
  obtain ⟨h1, h2⟩ := treeOk_iff.1 ht
  have dg := deepF_ge l (t - f) f (dpA l i + 1)
  refine ⟨hlen, hlb, hdp, treeOk_of ⟨by omega, by omega⟩ (fun j hj => ?_) (fun j hj => ?_) ?_⟩
  · rw [hlb j]
    split
    · exact (h2 j (by omega)).1
    · split
      · exact hlab
      · exact (h2 (j - 1) (by omega)).1
  · rw [hdp j]
    unfold Tree.insD
    split
    · exact (h2 j (by omega)).2.1.2
    · split
      · have := dg.1; omega
      · split
        · have := dg.2 (j - 1) (by omega) (by omega); omega
        · exact (h2 (j - 1) (by omega)).2.1.2
  · rw [hlen]
    exact Vd_congr (fun j hj => (hdp j).symm) (Tree.ins_valid (treeOk_vd ht) hi hf hb hft)
/-- a new label, told by labels and depths -/
theorem rel_facts {l : List S62} {i : Nat} {lab : Int} (ht : treeOk l = true) (hi : i < l.length) (hlab : 0 ≤ lab ∧ lab ≤ 5) {X : List S62} (hX : X = l.set i ⟨lab, dpA l i⟩) :
    X.length = l.length ∧ (∀ j, lbA X j = if j = i then lab else lbA l j) ∧ (∀ j, dpA X j = dpA l j) ∧ treeOk X = true := by
  have hlen : X.length = l.length := by rw [hX, List.length_set]
  have hat : ∀ j, X.getD j z62 = if j = i then ⟨lab, dpA l i⟩ else l.getD j z62 := by
    intro j
    rw [hX, List.getD_eq_getElem?_getD, List.getElem?_set]
    by_cases h : i = j
    · subst h
      rw [if_pos rfl, if_pos hi, if_pos rfl]; rfl
    · rw [if_neg h, if_neg (Ne.symm h), List.getD_eq_getElem?_getD]
  have hlb : ∀ j, lbA X j = if j = i then lab else lbA l j := by
    intro j
    unfold lbA
    rw [hat j]
    split <;> rfl
  have hdp : ∀ j, dpA X j = dpA l j := by
    intro j
    show (X.getD j _).f1 = _
    rw [hat j]
    split
    · next h => subst h; rfl
    · rfl
  obtain ⟨h1, h2⟩ := treeOk_iff.1 ht
  refine ⟨hlen, hlb, hdp, treeOk_of ⟨by omega, by omega⟩ (fun j hj => ?_) (fun j hj => ?_) ?_⟩
  · rw [hlb j]
    split
    · exact hlab
    · exact (h2 j (by omega)).1
  · rw [hdp j]; exact (h2 j (by omega)).2.1.2
  · rw [hlen]
    exact Vd_congr (fun j hj => (hdp j).symm) (treeOk_vd ht)
/-- what an operation that can be done rests on, and what it makes: one of three -/
theorem appO_cases {l : List S62} {o : S121} (h : (appO l o).2 = 0) : treeOk l = true ∧ ∃ i : Nat, i < l.length ∧ nodeI l o.f1 = (i : Int) ∧ Tree.goDown l.length (dpA l) 0 o.f1 = some i ∧
    ((o.f0 = 1 ∧ (0 ≤ o.f2 ∧ o.f2 ≤ 5) ∧ (appO l o).1 = l.set i ⟨o.f2, dpA l i⟩) ∨
     (o.f0 = 2 ∧ 0 < i ∧ (appO l o).1 = l.take i ++ ((l.take (Tree.eo l.length (dpA l) i)).drop (i + 1)).map (upN (-1)) ++ l.drop (Tree.eo l.length (dpA l) i)) ∨
     (o.f0 = 3 ∧ (0 ≤ o.f2 ∧ o.f2 ≤ 5) ∧ (0 ≤ o.f3 ∧ o.f3 ≤ ((Tree.kids l.length (dpA l) i).length : Int) ∧ 0 ≤ o.f4 ∧ o.f4 ≤ ((Tree.kids l.length (dpA l) i).length : Int) - o.f3) ∧ ∃ f t : Nat, f = (Tree.bounds l.length (dpA l) i).getD o.f3.toNat 0 ∧ t = (Tree.bounds l.length (dpA l) i).getD (o.f3 + o.f4).toNat 0 ∧
        f ≤ t ∧ (l.length : Int) ≠ 24 ∧ ¬ deepF l (t - f) f (dpA l i + 1) > 12 ∧ (appO l o).1 = l.take f ++ [(⟨o.f2, dpA l i + 1⟩ : S62)] ++ ((l.take t).drop f).map (upN 1) ++ l.drop t)) := by
  unfold appO applyT at h ⊢
  by_cases ht : treeOk l = true
  · rw [if_pos ht] at h ⊢
    by_cases hc : (codeT l o.f0 o.f2 o.f3 o.f4 (nodeI l o.f1)).1 = 0
    · rw [if_pos hc] at h ⊢
      obtain ⟨hk, hi0, hl, hr, h3', h3⟩ := codeT_ok hc
      obtain ⟨i, hi, hin, _, hgo⟩ := nodeI_nat hi0
      refine ⟨ht, i, hin, hi, hgo, ?_⟩
      rw [hi] at hr h3' h3 ⊢
      rw [Int.toNat_natCast] at h3 ⊢
      show _ ∨ _ ∨ _
      unfold doneT
      by_cases k1 : o.f0 = 1
      · rw [if_pos k1]
        exact .inl ⟨k1, by omega, rfl⟩
      · rw [if_neg k1]
        by_cases k2 : o.f0 = 2
        · rw [if_pos k2]
          exact .inr (.inl ⟨k2, by omega, rfl⟩)
        · rw [if_neg k2]
          obtain ⟨hb, hcode, h24, hdeep⟩ := h3 (by omega)
          have f := bounds_facts hin hb
          refine .inr (.inr ⟨by omega, by omega, hb, _, _, rfl, rfl, f.2.1, h24, hdeep, ?_⟩)
          rw [hcode]
          simp only [Int.toNat_natCast]
    · rw [if_neg hc] at h
      exact absurd h hc
  · rw [if_neg ht] at h
    simp at h
theorem appO_ok {l : List S62} {o : S121} (h : (appO l o).2 = 0) : treeOk (appO l o).1 = true := by
  obtain ⟨ht, i, hin, hi, hgo, hc⟩ := appO_cases h
  rcases hc with ⟨k, hl, e⟩ | ⟨k, h0, e⟩ | ⟨k, hl, hb, f, t, hf, htt, hft, h24, hdeep, e⟩
  · exact (rel_facts ht hin hl e).2.2.2
  · exact (del_facts ht h0 hin e).2.2.2
  · have b1 := (Tree.bounds_is (n := l.length) (D := dpA l) (i := i) (r := o.f3.toNat) (by omega)).1
    have b2 := (Tree.bounds_is (n := l.length) (D := dpA l) (i := i) (r := (o.f3 + o.f4).toNat) (by omega)).1
    rw [← hf] at b1
    rw [← htt] at b2
    exact (ins_facts ht hin b1 b2 hft hl h24 hdeep e).2.2.2
theorem allF_ok : ∀ (ops : List S121) (l : List S62) (c : Int), treeOk l = true → treeOk (allF l c ops).1 = true := by
  intro ops
  induction ops with
  | nil => intro l c h; exact h
  | cons o r ih =>
    intro l c h
    rw [allF]
    by_cases hc : (appO l o).2 = 0
    · rw [if_pos hc]; exact ih _ _ (appO_ok hc)
    · rw [if_neg hc]; exact h
/-- one script behind the other -/
theorem allF_append (b : List S121) : ∀ (a : List S121) (l : List S62) (c : Int), allF l c (a ++ b) = if (allF l c a).2.2 = 0 then allF (allF l c a).1 (allF l c a).2.1 b else allF l c a := by
  intro a
  induction a with
  | nil => intro l c; rw [List.nil_append, allF, if_pos rfl]
  | cons o r ih =>
    intro l c
    rw [List.cons_append, allF, allF]
    by_cases hc : (appO l o).2 = 0
    · rw [if_pos hc, if_pos hc]; exact ih _ _
    · rw [if_neg hc, if_neg hc, if_neg hc]
theorem allF_count : ∀ (ops : List S121) (l : List S62) (c : Int), c ≤ (allF l c ops).2.1 ∧ (allF l c ops).2.1 ≤ c + (ops.length : Int) := by
  intro ops
  induction ops with
  | nil => intro l c; simp [allF]
  | cons o r ih =>
    intro l c
    rw [allF, List.length_cons]
    split
    · have := ih (appO l o).1 (c + 1); omega
    · dsimp only; omega

/-! #### _opOk -/
/-- the numbers of a path are in range -/
def inPath (x : Int) : Bool := decide (0 ≤ x ∧ x ≤ 24)
def pathB (p : List Int) : Bool := p.all inPath && decide ((p.length : Int) ≤ 12)
/-- an operation is one, whatever tree it is for -/
def restB (kind lab fr ct : Int) : Bool :=
  if kind = 1 then decide (0 ≤ lab ∧ lab ≤ 5) && (fr == 0 && ct == 0)
  else if kind = 2 then lab == 0 && (fr == 0 && ct == 0)
  else if kind = 3 then decide (0 ≤ lab ∧ lab ≤ 5) && (decide (0 ≤ fr ∧ fr ≤ 24) && decide (0 ≤ ct ∧ ct ≤ 24))
  else false
def opB (o : S121) : Bool := pathB o.f1 && restB o.f0 o.f2 o.f3 o.f4
def scriptB (ops : List S121) : Bool := ops.all opB && decide ((ops.length : Int) ≤ 60)
theorem all_drop {α : Type} (l : List α) (f : α → Bool) (i : Nat) (h : i < l.length) : (l.drop i).all f = (f l[i] && (l.drop (i + 1)).all f) := by
  rw [List.drop_eq_getElem_cons h, List.all_cons]

/-! #### _pricesIdx -/
/-- a price is in range -/
def inPrice (x : Int) : Bool := decide (0 ≤ x ∧ x ≤ 1000)
theorem priceLit_eq (x : Int) : impl_pricesOk_lit1.f x = some (!inPrice x) := by
  unfold impl_pricesOk_lit1.f
  rw [within_eq]
  rfl
theorem idxPrice_l0 (p : List Int) (hp : (p.length : Int) ≤ 1099511627776) : ∀ (d i : Nat), i + d = p.length → ∃ r : Int, Ev (fun k => slices_IndexFunc_int_int.l0 k p (p.length : Int) (i : Int)) r ∧ decide (r ≥ 0) = !(p.drop i).all inPrice := by
  intro d
  induction d with
  | zero =>
    intro i h
    refine ⟨-1, ev_succ ?_, ?_⟩
    · simp only [slices_IndexFunc_int_int.l0]
      exact ev_neg (by omega) (Ev.now _)
    · rw [List.drop_eq_nil_of_le (by omega)]; rfl
  | succ d ih =>
    intro i h
    have hi : i < p.length := by omega
    have e : rd p (i : Int) = p[i] := by simp [rd, hi]
    rw [all_drop p inPrice i hi]
    by_cases c : inPrice p[i] = true
    · obtain ⟨r, hr, hd⟩ := ih (i + 1) (by omega)
      refine ⟨r, ev_succ ?_, by rw [c, Bool.true_and]; exact hd⟩
      simp only [slices_IndexFunc_int_int.l0]
      refine ev_pos (by omega) (ev_pos (by omega) (ev_pos (by omega) (ev_bindc (priceLit_eq _) ?_)))
      rw [e, c, w64 (x := (i : Int) + 1) (by omega) (by omega)]
      exact ev_neg (by decide) hr
    · have c' : inPrice p[i] = false := by simpa using c
      refine ⟨(i : Int), ev_succ ?_, by rw [c', Bool.false_and]; simp⟩
      simp only [slices_IndexFunc_int_int.l0]
      refine ev_pos (by omega) (ev_pos (by omega) (ev_pos (by omega) (ev_bindc (priceLit_eq _) ?_)))
      rw [e, c']
      exact ev_pos rfl (Ev.now _)
theorem containsPrice_ev (p : List Int) (hp : (p.length : Int) ≤ 1099511627776) : Ev (fun k => slices_ContainsFunc_int_int.f k p) (!p.all inPrice) := by
  obtain ⟨r, hr, hd⟩ := idxPrice_l0 p hp p.length 0 (by omega)
  rw [List.drop_zero] at hd
  simp only [slices_ContainsFunc_int_int.f, slices_IndexFunc_int_int.f]
  exact ev_bind hr (ev_some hd)

/-! #### impl_pricesOk -/
theorem pricesOk_ev (p : List Int) (hp : (p.length : Int) ≤ 1099511627776) (n : Int) : Ev (fun k => impl_pricesOk.f k p n) (decide ((p.length : Int) = n) && p.all inPrice) := by
  simp only [impl_pricesOk.f]
  by_cases h : (p.length : Int) = n
  · refine ev_pos h (ev_bind (containsPrice_ev p hp) (ev_some ?_))
    rw [decide_eq_true h, Bool.not_not, Bool.true_and]
  · refine ev_neg h (ev_some ?_)
    rw [decide_eq_false h, Bool.false_and]

/-! #### _unit -/
/-- the costs where each change costs 1 -/
def unitD : List Int := [1, 1, 1, 1, 1, 1]
def unitR : List Int := [0, 1, 1, 1, 1, 1, 1, 0, 1, 1, 1, 1, 1, 1, 0, 1, 1, 1, 1, 1, 1, 0, 1, 1, 1, 1, 1, 1, 0, 1, 1, 1, 1, 1, 1, 0]
theorem unitD_at (a : Int) (h0 : 0 ≤ a) (h1 : a ≤ 5) : rd unitD a = 1 := by
  have key : ∀ n : Fin 6, rd unitD ((n.1 : Nat) : Int) = 1 := by decide
  have := key ⟨a.toNat, by omega⟩
  rwa [Int.toNat_of_nonneg h0] at this
theorem unitR_at (a b : Int) (h0 : 0 ≤ a) (h1 : a ≤ 5) (g0 : 0 ≤ b) (g1 : b ≤ 5) : rd unitR (a * 6 + b) = if a = b then 0 else 1 := by
  have key : ∀ n m : Fin 6, rd unitR (((n.1 * 6 + m.1 : Nat)) : Int) = if n.1 = m.1 then 0 else 1 := by decide
  obtain ⟨n, rfl⟩ : ∃ n : Nat, a = (n : Int) := ⟨a.toNat, by omega⟩
  obtain ⟨m, rfl⟩ : ∃ m : Nat, b = (m : Int) := ⟨b.toNat, by omega⟩
  have := key ⟨n, by omega⟩ ⟨m, by omega⟩
  dsimp only at this
  rw [show ((n * 6 + m : Nat) : Int) = (n : Int) * 6 + (m : Int) by omega] at this
  rw [this]
  by_cases h : n = m
  · rw [if_pos h, if_pos (by rw [h])]
  · rw [if_neg h, if_neg (by omega)]

end Go.Proofs.Ytdapeboajjidmab.QFnInverted
