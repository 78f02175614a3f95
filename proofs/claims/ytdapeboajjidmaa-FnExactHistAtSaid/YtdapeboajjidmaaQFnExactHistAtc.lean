/- What the printed functions of the law FnExactHistAt come to, function by function, from some number of rounds on; each under the bounds that it names. -/
import Derived.Test.YtdapeboajjidmaaQFnExactHistAtb
namespace Go.Proofs.Ytdapeboajjidmaa.QFnExactHistAt
open Go.RowKit Go.Proofs.Ytdapeboajjidmaa.PFnExactHistAt Go.Proofs.YtdapeboajjidmaaW.PrintWords Go.Proofs.YtdapeboajjidmaaW.PrintLast Go.Proofs.YtdapeboajjidmaaW.PrintMore Go.Proofs.Ytdapeboajjidmaa.EvAid Go.Proofs.Ytdapeboajjidmaa
set_option linter.unusedVariables false
set_option linter.unusedSimpArgs false

/-! #### laws_markOpS -/
/-- how many marks operations take -/
def opSz : List S78 → Nat
  | [] => 0
  | o :: r => o.f1.length + 4 + opSz r
/-- operations with the marks a, a + 1, .. -/
def mkO : Int → List S78 → List S78
  | _, [] => []
  | a, o :: r => ⟨a, seqI (a + 1) o.f1.length, a + 1 + o.f1.length, a + 1 + o.f1.length + 1, a + 1 + o.f1.length + 2⟩ :: mkO (a + 4 + o.f1.length) r
theorem mkO_length : ∀ (l : List S78) (a : Int), (mkO a l).length = l.length := by
  intro l
  induction l with
  | nil => intro a; rfl
  | cons o r ih => intro a; rw [mkO, List.length_cons, List.length_cons, ih]
theorem opSz_le (M : Nat) : ∀ (l : List S78), (∀ o ∈ l, o.f1.length ≤ M) → opSz l ≤ l.length * (M + 4) := by
  intro l
  induction l with
  | nil => intro _; simp [opSz]
  | cons o r ih =>
    intro h
    have h1 := ih (fun x hx => h x (List.mem_cons_of_mem _ hx))
    have h2 := h o List.mem_cons_self
    rw [opSz, List.length_cons, Nat.succ_mul]
    omega
theorem opSz_length : ∀ (l : List S78), l.length ≤ opSz l := by
  intro l
  induction l with
  | nil => exact Nat.zero_le _
  | cons o r ih => rw [opSz, List.length_cons]; omega
theorem rd_mid (P R : List S78) (o : S78) : rd_T78 (P ++ o :: R) (P.length : Int) = o := by
  show (P ++ o :: R).getD ((P.length : Int)).toNat _ = o
  rw [Int.toNat_natCast]
  simp
theorem set_mid (P R : List S78) (o x : S78) : (P ++ o :: R).set ((P.length : Int)).toNat x = P ++ x :: R := by
  rw [Int.toNat_natCast]
  simp
theorem markOpS_l0 : ∀ (R P : List S78) (a : Int), 0 ≤ a → a + opSz R ≤ 9223372036854775000 → (P.length + R.length : Int) ≤ 9223372036854775000 → Ev (fun k => laws_markOpS.l0 k (P ++ R) a (P.length : Int)) (a + opSz R, P ++ mkO a R) := by
  intro R
  induction R with
  | nil =>
    intro P a h0 h1 h2
    refine ev_succ ?_
    simp only [laws_markOpS.l0]
    refine ev_neg (by simp) (ev_some ?_)
    simp [opSz, mkO]
  | cons o r ih =>
    intro P a h0 h1 h2
    rw [opSz] at h1
    rw [List.length_cons] at h2
    refine ev_succ ?_
    simp only [laws_markOpS.l0]
    refine ev_pos (by rw [List.length_append, List.length_cons]; omega) (ev_pos (by omega) ?_)
    rw [rd_mid, w64 (x := a + 1) (by omega) (by omega)]
    refine ev_bind (markIntS_ev o.f1 (a + 1) (by omega) (by omega)) ?_
    dsimp only
    rw [w64 (x := a + 1 + (o.f1.length : Int) + 1) (by omega) (by omega), w64 (x := a + 1 + (o.f1.length : Int) + 1 + 1) (by omega) (by omega), w64 (x := a + 1 + (o.f1.length : Int) + 1 + 1 + 1) (by omega) (by omega), w64 (x := (P.length : Int) + 1) (by omega) (by omega), set_mid]
    have := ih (P ++ [⟨a, seqI (a + 1) o.f1.length, a + 1 + o.f1.length, a + 1 + o.f1.length + 1, a + 1 + o.f1.length + 2⟩]) (a + 4 + o.f1.length) (by omega) (by omega) (by rw [List.length_append, List.length_singleton]; omega)
    rw [List.length_append, List.length_singleton, List.append_assoc, List.append_assoc, List.singleton_append, List.singleton_append] at this
    have e1 : a + 4 + (o.f1.length : Int) = a + 1 + (o.f1.length : Int) + 1 + 1 + 1 := by omega
    have e2 : ((P.length + 1 : Nat) : Int) = (P.length : Int) + 1 := by omega
    have e3 : a + 1 + (o.f1.length : Int) + 1 + 1 = a + 1 + (o.f1.length : Int) + 2 := by omega
    rw [e2] at this
    rw [← e1, e3]
    refine ev_eq this ?_
    rw [mkO, opSz]
    congr 1
    omega
theorem markOpS_ev (l : List S78) (a : Int) (h0 : 0 ≤ a) (h1 : a + opSz l ≤ 9223372036854775000) : Ev (fun k => laws_markOpS.f k l a) (a + opSz l, mkO a l) := by
  simp only [laws_markOpS.f]
  have := markOpS_l0 l [] a h0 h1 (by have := opSz_length l; simp only [List.length_nil]; omega)
  simpa using this

/-! #### laws_markOpSS -/
/-- how many marks rows of operations take -/
def hSz : List (List S78) → Nat
  | [] => 0
  | x :: r => opSz x + hSz r
def mkSS : Int → List (List S78) → List (List S78)
  | _, [] => []
  | a, x :: r => mkO a x :: mkSS (a + opSz x) r
theorem hSz_le (M : Nat) : ∀ (l : List (List S78)), (∀ x ∈ l, opSz x ≤ M) → hSz l ≤ l.length * M := by
  intro l
  induction l with
  | nil => intro _; simp [hSz]
  | cons o r ih =>
    intro h
    have h1 := ih (fun x hx => h x (List.mem_cons_of_mem _ hx))
    have h2 := h o List.mem_cons_self
    rw [hSz, List.length_cons, Nat.succ_mul]
    omega
theorem markOpSS_l0 : ∀ (R P : List (List S78)) (a : Int), 0 ≤ a → a + hSz R ≤ 9223372036854775000 → (P.length + R.length : Int) ≤ 9223372036854775000 → Ev (fun k => laws_markOpSS.l0 k (P ++ R) a (P.length : Int)) (a + hSz R, P ++ mkSS a R) := by
  intro R
  induction R with
  | nil =>
    intro P a h0 h1 h2
    refine ev_succ ?_
    simp only [laws_markOpSS.l0]
    refine ev_neg (by simp) (ev_some ?_)
    simp [hSz, mkSS]
  | cons o r ih =>
    intro P a h0 h1 h2
    rw [hSz] at h1
    rw [List.length_cons] at h2
    refine ev_succ ?_
    simp only [laws_markOpSS.l0]
    refine ev_pos (by rw [List.length_append, List.length_cons]; omega) (ev_pos (by omega) ?_)
    have eg : (P ++ o :: r).getD ((P.length : Nat) : Int).toNat [] = o := by rw [Int.toNat_natCast]; simp
    have es : (P ++ o :: r).set ((P.length : Nat) : Int).toNat (mkO a o) = P ++ mkO a o :: r := by rw [Int.toNat_natCast]; simp
    rw [eg]
    refine ev_bind (markOpS_ev o a h0 (by omega)) ?_
    dsimp only
    rw [w64 (x := (P.length : Int) + 1) (by omega) (by omega), es]
    have := ih (P ++ [mkO a o]) (a + opSz o) (by omega) (by omega) (by rw [List.length_append, List.length_singleton]; omega)
    rw [List.length_append, List.length_singleton, List.append_assoc, List.append_assoc, List.singleton_append, List.singleton_append] at this
    have e2 : ((P.length + 1 : Nat) : Int) = (P.length : Int) + 1 := by omega
    rw [e2] at this
    refine ev_eq this ?_
    rw [mkSS, hSz]
    congr 1
    omega
theorem markOpSS_ev (l : List (List S78)) (a : Int) (h0 : 0 ≤ a) (h1 : a + hSz l ≤ 9223372036854775000) (h2 : l.length ≤ 1048576) : Ev (fun k => laws_markOpSS.f k l a) (a + hSz l, mkSS a l) := by
  simp only [laws_markOpSS.f]
  have := markOpSS_l0 l [] a h0 h1 (by simp only [List.length_nil]; omega)
  simpa using this

/-! #### laws_markHist -/
theorem markHist_ev (b : List S80) (l : List (List S78)) (hb : b.length ≤ 1048576) (h2 : l.length ≤ 1048576) (h3 : ∀ x ∈ l, x.length ≤ 1048576 ∧ ∀ o ∈ x, o.f1.length ≤ 1048576) : ∃ r, 0 ≤ r ∧ Ev (fun k => laws_markHist.f k b l 1) r := by
  have h4 : hSz l ≤ l.length * 1099515822080 := hSz_le 1099515822080 l (fun x hx => by
    have h5 := opSz_le 1048576 x (h3 x hx).2
    have h6 := (h3 x hx).1
    omega)
  refine ⟨1 + 2 * (b.length : Int) + hSz l, by omega, ?_⟩
  simp only [laws_markHist.f]
  exact ev_bind (markNodeS_ev b 1 (by omega) (by omega)) (ev_bind (markOpSS_ev l _ (by dsimp only; omega) (by dsimp only; omega) h2) (Ev.now _))

/-! #### laws_heldNodeS -/
theorem heldNodeS_l0 (a : Int) (n : Nat) (h0 : 0 ≤ a) (hm : a + 2 * n ≤ 9223372036854775805) : ∀ (d i : Nat), i + d = n → Ev (fun k => laws_heldNodeS.l0 k (seqN a n) (a + 2 * i) i) (a + 2 * n) := by
  intro d
  induction d with
  | zero =>
    intro i h
    refine ev_succ ?_
    simp only [laws_heldNodeS.l0]
    refine ev_neg (by rw [seqN_length]; omega) (ev_some (by omega))
  | succ d ih =>
    intro i h
    refine ev_succ ?_
    simp only [laws_heldNodeS.l0]
    rw [seqN_rd a n i (by omega), w64 (x := a + 2 * (i : Int) + 1) (by omega) (by omega), w64 (x := a + 2 * (i : Int) + 1 + 1) (by omega) (by omega), w64 (x := (i : Int) + 1) (by omega) (by omega)]
    refine ev_pos (by rw [seqN_length]; omega) (ev_pos (by omega) (ev_pos rfl ?_))
    first
      | refine ev_pos rfl ?_
      | (refine ev_pos (by omega) (ev_pos rfl ?_))
      | (refine ev_pos (by rw [seqN_length]; omega) (ev_pos (by omega) (ev_pos rfl ?_)))
    have e4 : a + 2 * (i : Int) + 1 + 1 = a + 2 * ((i + 1 : Nat) : Int) := by omega
    rw [e4]
    exact ih (i + 1) (by omega)
theorem heldNodeS_ev (a : Int) (n : Nat) (h0 : 0 ≤ a) (hm : a + 2 * n ≤ 9223372036854775805) : Ev (fun k => laws_heldNodeS.f k (seqN a n) a) (a + 2 * n) := by
  simp only [laws_heldNodeS.f]
  have := heldNodeS_l0 a n h0 hm n 0 (by omega)
  simpa using this

end Go.Proofs.Ytdapeboajjidmaa.QFnExactHistAt
