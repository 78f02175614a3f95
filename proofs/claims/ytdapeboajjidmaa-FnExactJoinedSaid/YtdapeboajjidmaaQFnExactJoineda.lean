/- What the printed functions of the law FnExactJoined come to, function by function, from some number of rounds on; each under the bounds that it names. -/
import Derived.Test.YtdapeboajjidmaaMFnExactJoinedx
import Derived.Test.YtdapeboajjidmaaMFnExactJoinedEvAid
import Derived.Test.YtdapeboajjidmaaMFnExactJoinedOpens
namespace Go.Proofs.Ytdapeboajjidmaa.QFnExactJoined
open Go.RowKit Go.Proofs.Ytdapeboajjidmaa.PFnExactJoined Go.Proofs.YtdapeboajjidmaaW.PrintWords Go.Proofs.YtdapeboajjidmaaW.PrintLast Go.Proofs.YtdapeboajjidmaaW.PrintMore Go.Proofs.Ytdapeboajjidmaa.EvAid Go.Proofs.Ytdapeboajjidmaa
set_option linter.unusedVariables false
set_option linter.unusedSimpArgs false

/-! #### laws_szIntS -/
/-- what is left of a size behind so many -/
def szI (n : Nat) (a : Int) : Int := if a < (n : Int) then -1 else a - (n : Int)
theorem szI_cases (n : Nat) (a : Int) : (szI n a = -1 ∧ a < (n : Int)) ∨ (szI n a = a - (n : Int) ∧ (n : Int) ≤ a) := by
  unfold szI
  by_cases h : a < (n : Int)
  · rw [if_pos h]; exact .inl ⟨rfl, h⟩
  · rw [if_neg h]; exact .inr ⟨rfl, by omega⟩
theorem szIntS_eq (l : List Int) (a : Int) (h0 : 0 ≤ a) (h1 : a ≤ 1048576) (hl : l.length ≤ maxLen) : laws_szIntS.f l a = some (szI l.length a) := by
  unfold maxLen at hl
  unfold laws_szIntS.f szI
  rw [w64 (x := a - (l.length : Int)) (by omega) (by omega)]
  by_cases h : a < (l.length : Int)
  · rw [if_pos (by omega), if_pos h]
  · rw [if_neg (by omega), if_neg h]

/-! #### laws_szOp -/
theorem szOp_eq (a0 : Int) (p : List Int) (a2 a3 a4 a : Int) (h0 : 0 ≤ a) (h1 : a ≤ 1048576) (hl : p.length ≤ maxLen) : laws_szOp.f a0 p a2 a3 a4 a = some (szI p.length a) := by
  unfold laws_szOp.f
  rw [szIntS_eq p a h0 h1 hl, Option.bind_some]
  rcases szI_cases p.length a with ⟨e, _⟩ | ⟨e, h⟩
  · rw [e]; rfl
  · rw [e, if_neg (by omega)]

/-! #### laws_szOpS -/
def szOF : List S73 → Int → Int
  | [], a => a
  | o :: r, a => if szI o.f1.length a < 0 then -1 else szOF r (szI o.f1.length a)
def szOT (l : List S73) (a : Int) : Int := if szI l.length a < 0 then -1 else szOF l (szI l.length a)
theorem szOF_facts : ∀ (l : List S73) (a : Int), 0 ≤ a → szOF l a = -1 ∨ (0 ≤ szOF l a ∧ szOF l a ≤ a ∧ ∀ o ∈ l, (o.f1.length : Int) ≤ a) := by
  intro l
  induction l with
  | nil => intro a h; exact .inr ⟨h, Int.le_refl _, fun o h => by cases h⟩
  | cons o r ih =>
    intro a h
    rw [szOF]
    rcases szI_cases o.f1.length a with ⟨e, _⟩ | ⟨e, hle⟩
    · rw [e]; exact .inl rfl
    · rw [e, if_neg (by omega)]
      rcases ih (a - (o.f1.length : Int)) (by omega) with h1 | ⟨h1, h2, h3⟩
      · exact .inl h1
      · refine .inr ⟨h1, by omega, fun x hx => ?_⟩
        rcases List.mem_cons.1 hx with rfl | hx
        · exact hle
        · have := h3 x hx; omega
theorem szOT_facts (l : List S73) (a : Int) (h : 0 ≤ a) : szOT l a = -1 ∨ (0 ≤ szOT l a ∧ szOT l a ≤ a ∧ (l.length : Int) ≤ a ∧ ∀ o ∈ l, (o.f1.length : Int) ≤ a) := by
  unfold szOT
  rcases szI_cases l.length a with ⟨e, _⟩ | ⟨e, hle⟩
  · rw [e]; exact .inl rfl
  · rw [e, if_neg (by omega)]
    rcases szOF_facts l (a - (l.length : Int)) (by omega) with h1 | ⟨h1, h2, h3⟩
    · exact .inl h1
    · exact .inr ⟨h1, by omega, hle, fun o ho => by have := h3 o ho; omega⟩
theorem szOpS_l0 (l : List S73) (hl : l.length ≤ maxLen) (hp : ∀ o ∈ l, o.f1.length ≤ maxLen) : ∀ (d i : Nat) (a : Int), i + d = l.length → 0 ≤ a → a ≤ 1048576 → l.length ≤ 1048576 → Ev (fun k => laws_szOpS.l0 k l a (i : Int)) (szOF (l.drop i) a) := by
  intro d
  induction d with
  | zero =>
    intro i a h h0 h1 h2
    refine ev_succ ?_
    simp only [laws_szOpS.l0]
    rw [List.drop_eq_nil_of_le (by omega)]
    exact ev_neg (by omega) (Ev.now _)
  | succ d ih =>
    intro i a h h0 h1 h2
    refine ev_succ ?_
    simp only [laws_szOpS.l0]
    have hi : i < l.length := by omega
    have er : rd_T73 l (i : Int) = l[i] := by show l.getD i _ = _; simp [hi]
    rw [er, List.drop_eq_getElem_cons hi, szOF]
    refine ev_pos (by omega) (ev_pos (by omega) (ev_bindc (szOp_eq _ _ _ _ _ _ h0 h1 (hp _ (List.getElem_mem hi))) ?_))
    rcases szI_cases (l[i]).f1.length a with ⟨e, _⟩ | ⟨e, hle⟩
    · rw [e]; exact ev_pos (by omega) (Ev.now _)
    · rw [e, if_neg (by omega)]
      refine ev_neg (by omega) ?_
      rw [w64 (x := (i : Int) + 1) (by omega) (by omega)]
      exact ih (i + 1) _ (by omega) (by omega) (by omega) h2
theorem szOpS_ev (l : List S73) (a : Int) (h0 : 0 ≤ a) (h1 : a ≤ 1048576) (hl : l.length ≤ maxLen) (hp : ∀ o ∈ l, o.f1.length ≤ maxLen) : Ev (fun k => laws_szOpS.f k l a) (szOT l a) := by
  simp only [laws_szOpS.f]
  unfold szOT
  have hl2 := hl
  unfold maxLen at hl2
  rw [w64 (x := a - (l.length : Int)) (by omega) (by omega)]
  rcases szI_cases l.length a with ⟨e, h⟩ | ⟨e, h⟩
  · rw [e]; exact ev_pos (by omega) (Ev.now _)
  · rw [e, if_neg (by omega)]
    exact ev_neg (by omega) (szOpS_l0 l hl hp l.length 0 _ (by omega) (by omega) (by omega) (by omega))

/-! #### laws_toIntS -/
theorem toIntS_l0 (a : List Int) (hm : (a.length : Int) ≤ 9223372036854775806) : ∀ (d i : Nat) (out : List Int), i + d = a.length → out.length = a.length → out.take i = a.take i → Ev (fun k => laws_toIntS.l0 k a out i) a := by
  intro d
  induction d with
  | zero =>
    intro i out h hl ht
    refine ev_succ ?_
    simp only [laws_toIntS.l0]
    refine ev_neg (by omega) (ev_some ?_)
    rw [List.take_of_length_le (by omega), List.take_of_length_le (by omega)] at ht
    exact ht
  | succ d ih =>
    intro i out h hl ht
    refine ev_succ ?_
    simp only [laws_toIntS.l0]
    refine ev_pos (by omega) (ev_pos (by omega) (ev_pos (by omega) ?_))
    rw [w64 (by omega) (by omega)]
    refine ih (i + 1) _ (by omega) (by rw [List.length_set]; exact hl) ?_
    have e : ((i : Int)).toNat = i := Int.toNat_natCast i
    rw [e]
    have hi : i < a.length := by omega
    have hr : rd a i = a[i] := by simp [rd, hi]
    rw [List.take_succ_eq_append_getElem (by rw [List.length_set]; omega), List.take_succ_eq_append_getElem hi, List.getElem_set_self, List.take_set_of_le (Nat.le_refl _), ht, hr]

theorem toIntS_ev (a : List Int) (hm : a.length ≤ 35184372088832) : Ev (fun k => laws_toIntS.f k a) a := by
  simp only [laws_toIntS.f]
  refine ev_pos (by omega) (ev_pos (by omega) ?_)
  exact toIntS_l0 a (by omega) a.length 0 _ (by omega) (by rw [List.length_replicate]; omega) rfl

/-! #### laws_toOp -/
theorem toOp_ev (a0 : Int) (p : List Int) (a2 a3 a4 : Int) (h : p.length ≤ 1099511627776) : Ev (fun k => laws_toOp.f k a0 p a2 a3 a4) (a0, p, a2, a3, a4) := by
  simp only [laws_toOp.f]
  exact ev_bind (toIntS_ev p (by omega)) (Ev.now _)

/-! #### laws_toOpS -/
/-- an operation of the law's as one of the program's -/
def cvO (x : S73) : S78 := ⟨x.f0, x.f1, x.f2, x.f3, x.f4⟩
theorem toOpS_l0 (a : List S73) (hm : a.length ≤ 1099511627776) (hp : ∀ o ∈ a, o.f1.length ≤ 1099511627776) : ∀ (d i : Nat) (out : List S78), i + d = a.length → out.length = a.length → out.take i = (a.map cvO).take i → Ev (fun k => laws_toOpS.l0 k a out i) (a.map cvO) := by
  intro d
  induction d with
  | zero =>
    intro i out h hl ht
    refine ev_succ ?_
    simp only [laws_toOpS.l0]
    refine ev_neg (by omega) (ev_some ?_)
    rw [List.take_of_length_le (by omega), List.take_of_length_le (by rw [List.length_map]; omega)] at ht
    exact ht
  | succ d ih =>
    intro i out h hl ht
    have hi : i < a.length := by omega
    have hr : rd_T73 a i = a[i] := by simp [rd_T73, hi]
    refine ev_succ ?_
    simp only [laws_toOpS.l0]
    refine ev_pos (by omega) (ev_pos (by omega) ?_)
    rw [hr]
    refine ev_bind (toOp_ev _ _ _ _ _ (hp _ (List.getElem_mem hi))) (ev_pos (by omega) ?_)
    rw [w64 (by omega) (by omega)]
    refine ih (i + 1) _ (by omega) (by rw [List.length_set]; exact hl) ?_
    have e : ((i : Int)).toNat = i := Int.toNat_natCast i
    rw [e]
    rw [List.take_succ_eq_append_getElem (by rw [List.length_set]; omega), List.take_succ_eq_append_getElem (by rw [List.length_map]; omega), List.getElem_set_self, List.take_set_of_le (Nat.le_refl _), ht, List.getElem_map]
    rfl
theorem toOpS_ev (a : List S73) (hm : a.length ≤ 1099511627776) (hp : ∀ o ∈ a, o.f1.length ≤ 1099511627776) : Ev (fun k => laws_toOpS.f k a) (a.map cvO) := by
  simp only [laws_toOpS.f]
  refine ev_pos (by omega) (ev_pos (by omega) ?_)
  exact toOpS_l0 a hm hp a.length 0 _ (by omega) (by rw [List.length_replicate]; omega) rfl

/-! #### laws_eqIntS -/
theorem eqIntS_l0 (a : List Int) (hm : (a.length : Int) ≤ 9223372036854775806) : ∀ (d i : Nat), i + d = a.length → Ev (fun k => laws_eqIntS.l0 k a a i) true := by
  intro d
  induction d with
  | zero =>
    intro i h
    refine ev_succ ?_
    simp only [laws_eqIntS.l0]
    exact ev_neg (by omega) (Ev.now _)
  | succ d ih =>
    intro i h
    refine ev_succ ?_
    simp only [laws_eqIntS.l0]
    refine ev_pos (by omega) (ev_pos (by omega) (ev_pos (by omega) (ev_pos trivial ?_)))
    rw [w64 (by omega) (by omega)]
    exact ih (i + 1) (by omega)

theorem eqIntS_ev (a : List Int) (hm : (a.length : Int) ≤ 9223372036854775806) : Ev (fun k => laws_eqIntS.f k a a) true := by
  simp only [laws_eqIntS.f]
  exact ev_pos trivial (eqIntS_l0 a hm a.length 0 (by omega))

/-! #### laws_eqOp -/
theorem eqOp_self (a0 : Int) (p : List Int) (a2 a3 a4 : Int) (hp : (p.length : Int) ≤ 1099511627776) : Ev (fun k => laws_eqOp.f k a0 p a2 a3 a4 a0 p a2 a3 a4) true := by
  simp only [laws_eqOp.f]
  exact ev_pos trivial (ev_bind (eqIntS_ev p (by omega)) (ev_pos rfl (ev_pos trivial (ev_pos trivial (ev_pos trivial (Ev.now _))))))

/-! #### _opsB -/
/-- the operations' paths are short enough to be counted -/
def OpsB (ops : List S78) : Prop := (ops.length : Int) ≤ 1099511627776 ∧ ∀ o ∈ ops, (o.f1.length : Int) ≤ 1099511627776
theorem OpsB.at {ops : List S78} (h : OpsB ops) {j : Nat} (hj : j < ops.length) : ((rd_T78 ops (j : Int)).f1.length : Int) ≤ 1099511627776 := by
  have e : rd_T78 ops (j : Int) = ops[j] := by show ops.getD j _ = _; simp [hj]
  rw [e]
  exact h.2 _ (List.getElem_mem hj)
theorem drop_op (ops : List S78) (j : Nat) (h : j < ops.length) : ops.drop j = rd_T78 ops (j : Int) :: ops.drop (j + 1) := by
  rw [List.drop_eq_getElem_cons h]
  congr 1
  show _ = ops.getD j _
  simp [h]

/-! #### laws_eqOpS -/
theorem eqOpS_ev (ops : List S78) (hb : OpsB ops) : Ev (fun k => laws_eqOpS.f k ops ops) true := by
  have hl := hb.1
  have key : ∀ (d j : Nat), j + d = ops.length → Ev (fun k => laws_eqOpS.l0 k ops ops (j : Int)) true := by
    intro d
    induction d with
    | zero =>
      intro j h
      refine ev_succ ?_
      simp only [laws_eqOpS.l0]
      exact ev_neg (by omega) (Ev.now _)
    | succ d ih =>
      intro j h
      refine ev_succ ?_
      simp only [laws_eqOpS.l0]
      have hp := hb.at (j := j) (by omega)
      refine ev_pos (by omega) (ev_pos (by omega) (ev_pos (by omega) (ev_bind (eqOp_self _ _ _ _ _ hp) (ev_pos rfl ?_))))
      rw [w64 (x := (j : Int) + 1) (by omega) (by omega)]
      exact ih (j + 1) (by omega)
  simp only [laws_eqOpS.f]
  exact ev_pos trivial (key ops.length 0 (by omega))

/-! #### laws_markIntS -/
/-- a, a + 1, ..: n of them -/
def seqI (a : Int) (n : Nat) : List Int := (List.range n).map fun (j : Nat) => a + (j : Int)
theorem seqI_length (a : Int) (n : Nat) : (seqI a n).length = n := by simp [seqI]
theorem seqI_succ (a : Int) (n : Nat) : seqI a (n + 1) = seqI a n ++ [a + (n : Int)] := by simp [seqI, List.range_succ]
theorem seqI_rd (a : Int) (n i : Nat) (h : i < n) : rd (seqI a n) i = a + (i : Int) := by simp [rd, seqI, h]

theorem markIntS_l0 (l : List Int) (a : Int) (h0 : 0 ≤ a) (hm : a + l.length ≤ 9223372036854775806) : ∀ (d i : Nat), i + d = l.length → Ev (fun k => laws_markIntS.l0 k (seqI a i ++ l.drop i) (a + i) i) (a + l.length, seqI a l.length) := by
  intro d
  induction d with
  | zero =>
    intro i h
    refine ev_succ ?_
    simp only [laws_markIntS.l0]
    have e : i = l.length := by omega
    subst e
    refine ev_neg (by rw [List.length_append, seqI_length, List.length_drop]; omega) (ev_some ?_)
    rw [List.drop_length, List.append_nil]
  | succ d ih =>
    intro i h
    refine ev_succ ?_
    simp only [laws_markIntS.l0]
    refine ev_pos (by rw [List.length_append, seqI_length, List.length_drop]; omega) (ev_pos (by omega) ?_)
    rw [w64 (by omega) (by omega), w64 (by omega) (by omega)]
    have hi : i < l.length := by omega
    have e1 : (seqI a i ++ l.drop i).set ((i : Int)).toNat (a + i) = seqI a (i + 1) ++ l.drop (i + 1) := by
      rw [Int.toNat_natCast, List.set_append_right _ _ (by rw [seqI_length]; omega), seqI_length, Nat.sub_self, List.drop_eq_getElem_cons hi, List.set_cons_zero, seqI_succ, List.append_assoc]
      rfl
    rw [e1]
    have e2 : a + (i : Int) + 1 = a + ((i + 1 : Nat) : Int) := by omega
    rw [e2]
    exact ih (i + 1) (by omega)

theorem markIntS_ev (l : List Int) (a : Int) (h0 : 0 ≤ a) (hm : a + l.length ≤ 9223372036854775806) : Ev (fun k => laws_markIntS.f k l a) (a + l.length, seqI a l.length) := by
  simp only [laws_markIntS.f]
  have := markIntS_l0 l a h0 hm l.length 0 (by omega)
  simpa [seqI] using this

/-! #### laws_markOpS -/
/-- how many marks operations take -/
def opSz : List S78 → Nat
  | [] => 0
  | o :: r => o.f1.length + 4 + opSz r
/-- operations with the marks a, a + 1, .. -/
def mkO : Int → List S78 → List S78
  | _, [] => []
  | a, o :: r => ⟨a, seqI (a + 1) o.f1.length, a + 1 + o.f1.length, a + 1 + o.f1.length + 1, a + 1 + o.f1.length + 2⟩ :: mkO (a + 4 + o.f1.length) r
theorem mkO_length : ∀ (l : List S78) (a : Int), (mkO a l).length = l.length := by
  intro l
  induction l with
  | nil => intro a; rfl
  | cons o r ih => intro a; rw [mkO, List.length_cons, List.length_cons, ih]
theorem opSz_le (M : Nat) : ∀ (l : List S78), (∀ o ∈ l, o.f1.length ≤ M) → opSz l ≤ l.length * (M + 4) := by
  intro l
  induction l with
  | nil => intro _; simp [opSz]
  | cons o r ih =>
    intro h
    have h1 := ih (fun x hx => h x (List.mem_cons_of_mem _ hx))
    have h2 := h o List.mem_cons_self
    rw [opSz, List.length_cons, Nat.succ_mul]
    omega
theorem opSz_length : ∀ (l : List S78), l.length ≤ opSz l := by
  intro l
  induction l with
  | nil => exact Nat.zero_le _
  | cons o r ih => rw [opSz, List.length_cons]; omega
theorem rd_mid (P R : List S78) (o : S78) : rd_T78 (P ++ o :: R) (P.length : Int) = o := by
  show (P ++ o :: R).getD ((P.length : Int)).toNat _ = o
  rw [Int.toNat_natCast]
  simp
theorem set_mid (P R : List S78) (o x : S78) : (P ++ o :: R).set ((P.length : Int)).toNat x = P ++ x :: R := by
  rw [Int.toNat_natCast]
  simp
theorem markOpS_l0 : ∀ (R P : List S78) (a : Int), 0 ≤ a → a + opSz R ≤ 9223372036854775000 → (P.length + R.length : Int) ≤ 9223372036854775000 → Ev (fun k => laws_markOpS.l0 k (P ++ R) a (P.length : Int)) (a + opSz R, P ++ mkO a R) := by
  intro R
  induction R with
  | nil =>
    intro P a h0 h1 h2
    refine ev_succ ?_
    simp only [laws_markOpS.l0]
    refine ev_neg (by simp) (ev_some ?_)
    simp [opSz, mkO]
  | cons o r ih =>
    intro P a h0 h1 h2
    rw [opSz] at h1
    rw [List.length_cons] at h2
    refine ev_succ ?_
    simp only [laws_markOpS.l0]
    refine ev_pos (by rw [List.length_append, List.length_cons]; omega) (ev_pos (by omega) ?_)
    rw [rd_mid, w64 (x := a + 1) (by omega) (by omega)]
    refine ev_bind (markIntS_ev o.f1 (a + 1) (by omega) (by omega)) ?_
    dsimp only
    rw [w64 (x := a + 1 + (o.f1.length : Int) + 1) (by omega) (by omega), w64 (x := a + 1 + (o.f1.length : Int) + 1 + 1) (by omega) (by omega), w64 (x := a + 1 + (o.f1.length : Int) + 1 + 1 + 1) (by omega) (by omega), w64 (x := (P.length : Int) + 1) (by omega) (by omega), set_mid]
    have := ih (P ++ [⟨a, seqI (a + 1) o.f1.length, a + 1 + o.f1.length, a + 1 + o.f1.length + 1, a + 1 + o.f1.length + 2⟩]) (a + 4 + o.f1.length) (by omega) (by omega) (by rw [List.length_append, List.length_singleton]; omega)
    rw [List.length_append, List.length_singleton, List.append_assoc, List.append_assoc, List.singleton_append, List.singleton_append] at this
    have e1 : a + 4 + (o.f1.length : Int) = a + 1 + (o.f1.length : Int) + 1 + 1 + 1 := by omega
    have e2 : ((P.length + 1 : Nat) : Int) = (P.length : Int) + 1 := by omega
    have e3 : a + 1 + (o.f1.length : Int) + 1 + 1 = a + 1 + (o.f1.length : Int) + 2 := by omega
    rw [e2] at this
    rw [← e1, e3]
    refine ev_eq this ?_
    rw [mkO, opSz]
    congr 1
    omega
theorem markOpS_ev (l : List S78) (a : Int) (h0 : 0 ≤ a) (h1 : a + opSz l ≤ 9223372036854775000) : Ev (fun k => laws_markOpS.f k l a) (a + opSz l, mkO a l) := by
  simp only [laws_markOpS.f]
  have := markOpS_l0 l [] a h0 h1 (by have := opSz_length l; simp only [List.length_nil]; omega)
  simpa using this

/-! #### laws_heldIntS -/
theorem heldIntS_l0 (a : Int) (n : Nat) (h0 : 0 ≤ a) (hm : a + n ≤ 9223372036854775806) : ∀ (d i : Nat), i + d = n → Ev (fun k => laws_heldIntS.l0 k (seqI a n) (a + i) i) (a + n) := by
  intro d
  induction d with
  | zero =>
    intro i h
    refine ev_succ ?_
    simp only [laws_heldIntS.l0]
    refine ev_neg (by rw [seqI_length]; omega) (ev_some (by omega))
  | succ d ih =>
    intro i h
    refine ev_succ ?_
    simp only [laws_heldIntS.l0]
    refine ev_pos (by rw [seqI_length]; omega) (ev_pos (by omega) (ev_pos (seqI_rd a n i (by omega)) ?_))
    rw [w64 (by omega) (by omega), w64 (by omega) (by omega)]
    have e2 : a + (i : Int) + 1 = a + ((i + 1 : Nat) : Int) := by omega
    rw [e2]
    exact ih (i + 1) (by omega)

theorem heldIntS_ev (a : Int) (n : Nat) (h0 : 0 ≤ a) (hm : a + n ≤ 9223372036854775806) : Ev (fun k => laws_heldIntS.f k (seqI a n) a) (a + n) := by
  simp only [laws_heldIntS.f]
  have := heldIntS_l0 a n h0 hm n 0 (by omega)
  simpa using this

/-! #### laws_heldOpS -/
theorem heldOpS_l0 : ∀ (R P : List S78) (a : Int), 0 ≤ a → a + opSz R ≤ 9223372036854775000 → (P.length + R.length : Int) ≤ 9223372036854775000 → Ev (fun k => laws_heldOpS.l0 k (P ++ mkO a R) a (P.length : Int)) (a + opSz R) := by
  intro R
  induction R with
  | nil =>
    intro P a h0 h1 h2
    refine ev_succ ?_
    simp only [laws_heldOpS.l0]
    refine ev_neg (by simp [mkO]) (ev_some ?_)
    simp [opSz]
  | cons o r ih =>
    intro P a h0 h1 h2
    rw [opSz] at h1
    rw [List.length_cons] at h2
    refine ev_succ ?_
    simp only [laws_heldOpS.l0]
    rw [mkO]
    refine ev_pos (by rw [List.length_append, List.length_cons]; omega) (ev_pos (by omega) ?_)
    rw [rd_mid]
    dsimp only
    rw [w64 (x := a + 1) (by omega) (by omega)]
    refine ev_pos rfl (ev_bind (heldIntS_ev (a + 1) o.f1.length (by omega) (by omega)) (ev_neg (by omega) (ev_pos rfl ?_)))
    rw [w64 (x := a + 1 + (o.f1.length : Int) + 1) (by omega) (by omega), w64 (x := a + 1 + (o.f1.length : Int) + 1 + 1) (by omega) (by omega), w64 (x := a + 1 + (o.f1.length : Int) + 1 + 1 + 1) (by omega) (by omega), w64 (x := (P.length : Int) + 1) (by omega) (by omega)]
    refine ev_pos rfl (ev_pos (by omega) ?_)
    have := ih (P ++ [⟨a, seqI (a + 1) o.f1.length, a + 1 + o.f1.length, a + 1 + o.f1.length + 1, a + 1 + o.f1.length + 2⟩]) (a + 4 + o.f1.length) (by omega) (by omega) (by rw [List.length_append, List.length_singleton]; omega)
    rw [List.length_append, List.length_singleton, List.append_assoc, List.singleton_append] at this
    have e1 : a + 4 + (o.f1.length : Int) = a + 1 + (o.f1.length : Int) + 1 + 1 + 1 := by omega
    have e2 : ((P.length + 1 : Nat) : Int) = (P.length : Int) + 1 := by omega
    rw [e2] at this
    rw [← e1]
    refine ev_eq this ?_
    rw [opSz]
    omega
theorem heldOpS_ev (l : List S78) (a : Int) (h0 : 0 ≤ a) (h1 : a + opSz l ≤ 9223372036854775000) : Ev (fun k => laws_heldOpS.f k (mkO a l) a) (a + opSz l) := by
  simp only [laws_heldOpS.f]
  have := heldOpS_l0 l [] a h0 h1 (by have := opSz_length l; simp only [List.length_nil]; omega)
  simpa using this

/-! #### spec_l19Copy -/
theorem l19Copy_l0 (ops : List S78) (hb : OpsB ops) : ∀ (d j : Nat), j + d = ops.length → Ev (fun k => spec_l19Copy.l0 k ops (ops.take j) (j : Int)) ops := by
  have hl := hb.1
  intro d
  induction d with
  | zero =>
    intro j h
    refine ev_succ ?_
    simp only [spec_l19Copy.l0]
    refine ev_neg (by omega) (ev_some (List.take_of_length_le (by omega)))
  | succ d ih =>
    intro j h
    refine ev_succ ?_
    simp only [spec_l19Copy.l0]
    have hp := hb.at (j := j) (by omega)
    have ht : (ops.take j).length = j := by rw [List.length_take]; omega
    refine ev_pos (by omega) (ev_pos (by omega) (ev_bindc rfl (ev_pos (by rw [List.length_nil]; omega) (ev_pos (by omega) ?_))))
    rw [w64 (x := (j : Int) + 1) (by omega) (by omega), List.nil_append]
    have := ih (j + 1) (by omega)
    have e : ops.take j ++ [rd_T78 ops (j : Int)] = ops.take (j + 1) := by
      rw [List.take_succ_eq_append_getElem (by omega)]
      congr 2
      show ops.getD j _ = _
      simp [show j < ops.length by omega]
    rw [← e] at this
    exact this
theorem l19Copy_ev (ops : List S78) (hb : OpsB ops) : Ev (fun k => spec_l19Copy.f k ops) ops := by
  simp only [spec_l19Copy.f]
  exact l19Copy_l0 ops hb ops.length 0 (by omega)

/-! #### spec_Joined -/
theorem spec_Joined_ev (a b : List S78) (ha : OpsB a) (hb : OpsB b) (h : (a.length : Int) + b.length ≤ 1099511627776) : Ev (fun k => spec_Joined.f k a b) (a ++ b) := by
  simp only [spec_Joined.f]
  exact ev_bind (l19Copy_ev a ha) (ev_bind (l19Copy_ev b hb) (ev_pos (by omega) (Ev.now _)))

/-! #### slices_Clone_int -/
theorem cloneI_eq (l : List Int) (h : l.length < 17592186044416) : slices_Clone_int.f l = some l := by
  unfold slices_Clone_int.f
  simp only [Option.bind_some, List.length_nil, Nat.zero_add, List.nil_append]
  rw [if_pos h]

/-! #### impl_opCopy -/
theorem opCopy_eq (a0 : Int) (p : List Int) (a2 a3 a4 : Int) (h : p.length < 17592186044416) : impl_opCopy.f a0 p a2 a3 a4 = some (a0, p, a2, a3, a4) := by
  unfold impl_opCopy.f
  rw [cloneI_eq p h]
  rfl

/-! #### slices_Grow_Op -/
theorem Grow_Op_eq (n : Int) (h0 : 0 ≤ n) (h1 : n ≤ 2513169434916) : slices_Grow_Op.f [] n = some [] := by
  unfold slices_Grow_Op.f
  rw [if_pos ⟨rfl, h0, h1⟩]

/-! #### _flat -/
theorem flat_take_le {α : Type} (ls : List (List α)) (i : Nat) : (ls.take i).flatten.length ≤ ls.flatten.length := by
  conv => rhs; rw [← List.take_append_drop i ls]
  rw [List.flatten_append, List.length_append]
  omega
theorem flat_succ {α : Type} (ls : List (List α)) (i : Nat) (h : i < ls.length) : (ls.take (i + 1)).flatten = (ls.take i).flatten ++ ls[i] := by
  rw [List.take_succ_eq_append_getElem h, List.flatten_append]
  simp

/-! #### slices_Concat_Op -/
theorem Concat_Op_rd (ls : List (List S78)) (i : Nat) (h : i < ls.length) : rd_L4 ls (i : Int) = ls[i] := by
  show ls.getD ((i : Int)).toNat _ = _
  rw [Int.toNat_natCast]
  simp [h]
theorem Concat_Op_l1 (ls : List (List S78)) (hb : ls.flatten.length ≤ 1099511627776) (hl : ls.length ≤ 1048576) : ∀ (d i : Nat), i + d = ls.length → Ev (fun k => slices_Concat_Op.l1 k (ls.take i).flatten ls (ls.length : Int) (i : Int)) ls.flatten := by
  intro d
  induction d with
  | zero =>
    intro i h
    refine ev_succ ?_
    simp only [slices_Concat_Op.l1]
    exact ev_neg (by omega) (ev_some (by rw [List.take_of_length_le (by omega)]))
  | succ d ih =>
    intro i h
    refine ev_succ ?_
    simp only [slices_Concat_Op.l1]
    have hi : i < ls.length := by omega
    rw [Concat_Op_rd ls i hi]
    have e := flat_succ ls i hi
    have hle := flat_take_le ls (i + 1)
    rw [e, List.length_append] at hle
    refine ev_pos (by omega) (ev_pos (by omega) (ev_pos (by omega) (ev_pos (by omega) ?_)))
    rw [w64 (x := (i : Int) + 1) (by omega) (by omega), ← e]
    exact ih (i + 1) (by omega)
theorem Concat_Op_l0 (ls : List (List S78)) (hb : ls.flatten.length ≤ 1099511627776) (hl : ls.length ≤ 1048576) : ∀ (d i : Nat), i + d = ls.length → Ev (fun k => slices_Concat_Op.l0 k ls ((ls.take i).flatten.length : Int) ls (ls.length : Int) (i : Int)) ls.flatten := by
  intro d
  induction d with
  | zero =>
    intro i h
    refine ev_succ ?_
    simp only [slices_Concat_Op.l0]
    have hle := flat_take_le ls i
    refine ev_neg (by omega) (ev_bindc (Grow_Op_eq _ (by omega) (by omega)) ?_)
    have := Concat_Op_l1 ls hb hl ls.length 0 (by omega)
    exact this
  | succ d ih =>
    intro i h
    refine ev_succ ?_
    simp only [slices_Concat_Op.l0]
    have hi : i < ls.length := by omega
    rw [Concat_Op_rd ls i hi]
    have e := flat_succ ls i hi
    have hle := flat_take_le ls (i + 1)
    rw [e, List.length_append] at hle
    rw [w64 (x := ((ls.take i).flatten.length : Int) + (ls[i].length : Int)) (by omega) (by omega), w64 (x := (i : Int) + 1) (by omega) (by omega)]
    refine ev_pos (by omega) (ev_pos (by omega) (ev_pos (by omega) (ev_neg (by omega) ?_)))
    have := ih (i + 1) (by omega)
    rw [e, List.length_append] at this
    have e2 : (((ls.take i).flatten.length + ls[i].length : Nat) : Int) = ((ls.take i).flatten.length : Int) + (ls[i].length : Int) := by omega
    have e3 : ((i + 1 : Nat) : Int) = (i : Int) + 1 := by omega
    rw [e2, e3] at this
    exact this
theorem Concat_Op_ev (ls : List (List S78)) (hb : ls.flatten.length ≤ 1099511627776) (hl : ls.length ≤ 1048576) : Ev (fun k => slices_Concat_Op.f k ls) ls.flatten := by
  simp only [slices_Concat_Op.f]
  exact Concat_Op_l0 ls hb hl ls.length 0 (by omega)

/-! #### impl_Joined -/
theorem impl_Joined_l0 (ops : List S78) (hb : OpsB ops) : ∀ (d j : Nat), j + d = ops.length → Ev (fun k => impl_Joined.l0 k (ops.take j) ops (ops.length : Int) (j : Int)) ops := by
  have hl := hb.1
  intro d
  induction d with
  | zero =>
    intro j h
    refine ev_succ ?_
    simp only [impl_Joined.l0]
    exact ev_neg (by omega) (ev_some (List.take_of_length_le (by omega)))
  | succ d ih =>
    intro j h
    refine ev_succ ?_
    simp only [impl_Joined.l0]
    have hp := hb.at (j := j) (by omega)
    have ht : (ops.take j).length = j := by rw [List.length_take]; omega
    refine ev_pos (by omega) (ev_pos (by omega) (ev_pos (by omega) (ev_bindc (opCopy_eq _ _ _ _ _ (by omega)) (ev_pos (by omega) ?_))))
    rw [w64 (x := (j : Int) + 1) (by omega) (by omega)]
    have := ih (j + 1) (by omega)
    have e : ops.take j ++ [rd_T78 ops (j : Int)] = ops.take (j + 1) := by
      rw [List.take_succ_eq_append_getElem (by omega)]
      congr 2
      show ops.getD j _ = _
      simp [show j < ops.length by omega]
    rw [← e] at this
    exact this
theorem OpsB.append {a b : List S78} (ha : OpsB a) (hb : OpsB b) (h : (a.length : Int) + b.length ≤ 1099511627776) : OpsB (a ++ b) := ⟨by rw [List.length_append]; omega, fun o ho => by
  rcases List.mem_append.1 ho with ho | ho
  · exact ha.2 o ho
  · exact hb.2 o ho⟩
theorem impl_Joined_ev (a b : List S78) (ha : OpsB a) (hb : OpsB b) (h : (a.length : Int) + b.length ≤ 1099511627776) : Ev (fun k => impl_Joined.f k a b) (a ++ b) := by
  simp only [impl_Joined.f]
  have e : [a, b].flatten = a ++ b := by simp
  have hc := Concat_Op_ev [a, b] (by rw [e, List.length_append]; omega) (by simp)
  rw [e] at hc
  exact ev_bind hc (impl_Joined_l0 (a ++ b) (ha.append hb h) (a ++ b).length 0 (by omega))

end Go.Proofs.Ytdapeboajjidmaa.QFnExactJoined
