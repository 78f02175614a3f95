/- What the printed functions of the law FnExactReadScript come to, function by function, from some number of rounds on; each under the bounds that it names. -/
import Derived.Test.YtlfmlagdnebkiaaDoorQFnExactReadScripta
namespace Go.Proofs.YtlfmlagdnebkiaaDoor.QFnExactReadScript
open Go.RowKit Go.Proofs.YtlfmlagdnebkiaaDoor.PFnExactReadScript Go.Proofs.YtlfmlagdnebkiaaDoorW.PrintWords Go.Proofs.YtlfmlagdnebkiaaDoorW.PrintLast Go.Proofs.YtlfmlagdnebkiaaDoorW.PrintMore Go.Proofs.YtlfmlagdnebkiaaDoor.EvAid Go.Proofs.YtlfmlagdnebkiaaDoor
set_option linter.unusedVariables false
set_option linter.unusedSimpArgs false

/-! #### _readDec -/
theorem dig_small (u : Nat) (h : u < 10) : Lib.decDigits u = [UInt8.ofNat (48 + u)] := by rw [Lib.decDigits, dif_pos h]
theorem dig_two (u : Nat) (h : 10 ≤ u) (h2 : u < 100) : Lib.decDigits u = [UInt8.ofNat (48 + u / 10), UInt8.ofNat (48 + u % 10)] := by
  rw [Lib.decDigits, dif_neg (by omega), dig_small _ (by omega)]
  rfl
/-- what digits come to, behind a number -/
def valD : Int → List UInt8 → Int
  | a, [] => a
  | a, b :: l => valD (10 * a + ((b.toNat : Int) - 48)) l
theorem dig_nat (u : Nat) (h : u < 10) : (UInt8.ofNat (48 + u)).toNat = 48 + u := by
  rw [UInt8.toNat_ofNat']
  omega
theorem dec_digits (n : Int) (h0 : 0 ≤ n) (h1 : n < 100) : (∀ b ∈ (decT n).data.toList, 48 ≤ b.toNat ∧ b.toNat ≤ 57) ∧ valD 0 (decT n).data.toList = n ∧ 1 ≤ (decT n).size ∧ (decT n).size ≤ 9 := by
  have e : (decT n).data.toList = Lib.decDigits n.toNat := rfl
  have e2 : (decT n).size = (Lib.decDigits n.toNat).length := by rw [Lib.size_eq, e]
  rw [e, e2]
  by_cases h : n < 10
  · rw [dig_small _ (by omega)]
    have d := dig_nat n.toNat (by omega)
    refine ⟨?_, ?_, by simp, by simp⟩
    · intro b hb
      rw [List.mem_singleton.1 hb, d]
      omega
    · show 10 * 0 + (((UInt8.ofNat (48 + n.toNat)).toNat : Int) - 48) = n
      rw [d]
      omega
  · rw [dig_two _ (by omega) (by omega)]
    have d1 := dig_nat (n.toNat / 10) (by omega)
    have d2 := dig_nat (n.toNat % 10) (by omega)
    refine ⟨?_, ?_, by simp, by simp⟩
    · intro b hb
      rcases List.mem_cons.1 hb with hb | hb
      · rw [hb, d1]; omega
      · rw [List.mem_singleton.1 hb, d2]; omega
    · show 10 * (10 * 0 + (((UInt8.ofNat (48 + n.toNat / 10)).toNat : Int) - 48)) + (((UInt8.ofNat (48 + n.toNat % 10)).toNat : Int) - 48) = n
      rw [d1, d2]
      omega
/-- a number's text, any number -/
def itT (x : Int) : ByteArray := ⟨(Lib.itoa x).toArray⟩
theorem itT_dec (n : Int) (h0 : 0 ≤ n) : itT n = decT n := by
  unfold itT Lib.itoa
  rw [if_neg (by omega)]
  rfl
/-- the end of a reading: the number, if the text is its own -/
def finD (s : ByteArray) (x : Int) : Int × Bool := if itT x = s then (x, true) else (0, false)
theorem impl_Dec_it (k : Nat) (x : Int) (h0 : -1000000000000 ≤ x) (h1 : x ≤ 1000000000000) : impl_Dec.f k x = some (itT x) := by
  unfold impl_Dec.f
  rw [if_pos h0, if_pos h1]
  rfl
theorem fin_ev (s : ByteArray) (x : Int) (g : Nat → Option ByteArray) (hg : Ev g (itT x)) : Ev (fun k => (g k).bind fun t => if t.toList = s.toList then some (x, true) else some (0, false)) (finD s x) := by
  refine ev_bind hg ?_
  unfold finD
  by_cases h : itT x = s
  · rw [if_pos h]
    exact ev_pos (list_eq.2 h) (Ev.now _)
  · rw [if_neg h]
    exact ev_neg (fun e => h (list_eq.1 e)) (Ev.now _)
theorem implDec_l0 (s t : ByteArray) (sg : Int) (hsg : sg = 1 ∨ sg = -1) (ht : t.size ≤ 9) : ∀ (d i : Nat) (n : Int), i + d = t.size → 0 ≤ n → n < ((10 ^ i : Nat) : Int) → ∃ v, Ev (fun k => impl_ReadDec.l0 k s t sg n (t.size : Int) (i : Int)) v ∧ ((∀ b ∈ t.data.toList.drop i, 48 ≤ b.toNat ∧ b.toNat ≤ 57) → v = finD s (sg * valD n (t.data.toList.drop i))) := by
  intro d
  have hL := Lib.size_eq t
  induction d with
  | zero =>
    intro i n h1 h2 h3
    have hp : 10 ^ i ≤ 10 ^ 9 := Nat.pow_le_pow_right (by decide) (by omega)
    have hn : n < 1000000000 := by omega
    have hx : -1000000000 ≤ sg * n ∧ sg * n ≤ 1000000000 := by rcases hsg with rfl | rfl <;> omega
    have e : t.data.toList.drop i = [] := List.drop_eq_nil_of_le (by omega)
    refine ⟨finD s (sg * n), ev_succ ?_, fun _ => by rw [e]; rfl⟩
    simp only [impl_ReadDec.l0]
    rw [w64 (x := sg * n) (by omega) (by omega)]
    exact ev_neg (by omega) (fin_ev s (sg * n) _ ⟨0, fun k _ => impl_Dec_it k _ (by omega) (by omega)⟩)
  | succ d ih =>
    intro i n h1 h2 h3
    have hi : i < t.data.toList.length := by omega
    have hp : 10 ^ i ≤ 10 ^ 9 := Nat.pow_le_pow_right (by decide) (by omega)
    have hq : 10 ^ (i + 1) = 10 ^ i * 10 := Nat.pow_succ ..
    have hd : t.data.toList.drop i = t.data.toList[i] :: t.data.toList.drop (i + 1) := List.drop_eq_getElem_cons hi
    have hb := bt_get t i hi
    have hlt := t.data.toList[i].toNat_lt
    generalize hbb : t.data.toList[i] = b at hd hb hlt
    by_cases c1 : b.toNat < 48
    · refine ⟨(0, false), ev_succ ?_, fun h => absurd (h b (by rw [hd]; exact List.mem_cons_self)).1 (by omega)⟩
      simp only [impl_ReadDec.l0]
      rw [hb]
      exact ev_pos (by omega) (ev_pos (by omega) (ev_pos (by omega) (ev_pos (by omega) (Ev.now _))))
    · by_cases c2 : 57 < b.toNat
      · refine ⟨(0, false), ev_succ ?_, fun h => absurd (h b (by rw [hd]; exact List.mem_cons_self)).2 (by omega)⟩
        simp only [impl_ReadDec.l0]
        rw [hb]
        exact ev_pos (by omega) (ev_pos (by omega) (ev_pos (by omega) (ev_neg (by omega) (ev_pos (by omega) (Ev.now _)))))
      · obtain ⟨v, hv, hc⟩ := ih (i + 1) (10 * n + ((b.toNat : Int) - 48)) (by omega) (by omega) (by omega)
        refine ⟨v, ev_succ ?_, fun h => by rw [hd]; exact hc (fun x hx => h x (by rw [hd]; exact List.mem_cons_of_mem _ hx))⟩
        simp only [impl_ReadDec.l0]
        rw [hb, w64 (x := 10 * n) (by omega) (by omega), show ((b.toNat : Int) - 48) % 256 = (b.toNat : Int) - 48 by omega, w64 (x := 10 * n + ((b.toNat : Int) - 48)) (by omega) (by omega), w64 (x := (i : Int) + 1) (by omega) (by omega)]
        exact ev_pos (by omega) (ev_pos (by omega) (ev_pos (by omega) (ev_neg (by omega) (ev_neg (by omega) hv))))
theorem implDec_j1 (s t : ByteArray) (sg : Int) (hsg : sg = 1 ∨ sg = -1) : ∃ v, Ev (fun k => impl_ReadDec.j1 k s t sg) v ∧ (1 ≤ t.size → t.size ≤ 9 → (∀ b ∈ t.data.toList, 48 ≤ b.toNat ∧ b.toNat ≤ 57) → v = finD s (sg * valD 0 t.data.toList)) := by
  by_cases h : 1 ≤ t.size ∧ t.size ≤ 9
  · obtain ⟨v, hv, hc⟩ := implDec_l0 s t sg hsg h.2 t.size 0 0 (by omega) (by omega) (by simp)
    refine ⟨v, ev_succ ?_, fun _ _ hd => hc hd⟩
    simp only [impl_ReadDec.j1]
    have e : impl_within.f (t.size : Int) 1 9 = some true := by unfold impl_within.f; rw [if_pos (by omega), decide_eq_true (by omega)]
    exact ev_bindc e (ev_pos (by first | trivial | rfl) hv)
  · refine ⟨(0, false), ev_succ ?_, fun h1 h2 _ => absurd ⟨h1, h2⟩ h⟩
    simp only [impl_ReadDec.j1]
    have e : impl_within.f (t.size : Int) 1 9 = some false := by
      unfold impl_within.f
      by_cases h1 : 1 ≤ t.size
      · rw [if_pos (by omega), decide_eq_false (by omega)]
      · rw [if_neg (by omega)]
    exact ev_bindc e (ev_neg (by decide) (Ev.now _))
theorem bt_first (s : ByteArray) (h : 1 ≤ s.size) (hd : ∀ b ∈ s.data.toList, 48 ≤ b.toNat ∧ b.toNat ≤ 57) : (bt s 0 == 45) = false := by
  have hL := Lib.size_eq s
  have h1 := bt_get s 0 (by omega)
  have h2 := hd s.data.toList[0] (List.getElem_mem _)
  rw [Int.natCast_zero] at h1
  rw [h1, beq_eq_false_iff_ne]
  omega
theorem implReadDec (s : ByteArray) : ∃ v, Ev (fun k => impl_ReadDec.f k s) v ∧ ∀ n, 0 ≤ n ∧ n < 100 → s = decT n → v = (n, true) := by
  by_cases h : 1 ≤ s.size
  · by_cases hb : (bt s 0 == 45) = true
    · obtain ⟨v, hv, _⟩ := implDec_j1 s (s.extract 1 s.size) (-1) (.inr rfl)
      refine ⟨v, ?_, fun n hn e => ?_⟩
      · simp only [impl_ReadDec.f]
        rw [hb]
        refine ev_pos (by omega) (ev_pos (by omega) (ev_succ ?_))
        simp only [impl_ReadDec.j0]
        exact ev_pos (by first | trivial | rfl) (ev_pos (by omega) hv)
      · have hh := (dec_digits n hn.1 hn.2).1
        rw [← e] at hh
        rw [bt_first s h hh] at hb
        cases hb
    · obtain ⟨v, hv, hc⟩ := implDec_j1 s s 1 (.inl rfl)
      refine ⟨v, ?_, fun n hn e => ?_⟩
      · simp only [impl_ReadDec.f]
        rw [Bool.eq_false_iff.2 hb]
        refine ev_pos (by omega) (ev_pos (by omega) (ev_succ ?_))
        simp only [impl_ReadDec.j0]
        exact ev_neg (by decide) hv
      · obtain ⟨d1, d2, d3, d4⟩ := dec_digits n hn.1 hn.2
        rw [← e] at d1 d2 d3 d4
        rw [hc d3 d4 d1, d2, Int.one_mul]
        unfold finD
        rw [if_pos (by rw [itT_dec n hn.1, e])]
  · obtain ⟨v, hv, hc⟩ := implDec_j1 s s 1 (.inl rfl)
    refine ⟨v, ?_, fun n hn e => ?_⟩
    · simp only [impl_ReadDec.f]
      refine ev_neg (by omega) (ev_succ ?_)
      simp only [impl_ReadDec.j0]
      exact ev_neg (by decide) hv
    · have := (dec_digits n hn.1 hn.2).2.2.1
      rw [← e] at this
      exact absurd this h
theorem specDec_end (s : ByteArray) (n c i : Int) (hn : -1000000000000 ≤ n ∧ n ≤ 1000000000000) : ∃ v, Ev (fun k => spec_ReadDec.j1 k s n c i false) v ∧ (1 ≤ s.size → s.size ≤ 9 → c ≤ 9 → (∀ b ∈ s.data.toList, 48 ≤ b.toNat ∧ b.toNat ≤ 57) → v = finD s n) := by
  have neg : ∃ v, Ev (fun k => spec_ReadDec.j2 k s n c true) v := by
    by_cases h1 : c > 9
    · refine ⟨(0, false), ev_succ ?_⟩
      simp only [spec_ReadDec.j2]
      exact ev_pos (by first | trivial | rfl) (ev_pos h1 (Ev.now _))
    · by_cases h2 : (s.size : Int) > 10
      · refine ⟨(0, false), ev_succ ?_⟩
        simp only [spec_ReadDec.j2]
        exact ev_pos (by first | trivial | rfl) (ev_neg h1 (ev_pos h2 (Ev.now _)))
      · refine ⟨finD s (-n), ev_succ ?_⟩
        simp only [spec_ReadDec.j2]
        rw [w64 (x := -n) (by omega) (by omega)]
        exact ev_pos (by first | trivial | rfl) (ev_neg h1 (ev_neg h2 (fin_ev s (-n) _ (spec_Dec_ev (-n) (by omega) (by omega)))))
  have pos : ∃ v, Ev (fun k => spec_ReadDec.j2 k s n c false) v ∧ (s.size ≤ 9 → c ≤ 9 → v = finD s n) := by
    by_cases h1 : c > 9
    · refine ⟨(0, false), ev_succ ?_, fun _ h => absurd h (by omega)⟩
      simp only [spec_ReadDec.j2]
      exact ev_neg (by decide) (ev_pos h1 (Ev.now _))
    · by_cases h2 : (s.size : Int) > 10
      · refine ⟨(0, false), ev_succ ?_, fun h => absurd h (by omega)⟩
        simp only [spec_ReadDec.j2]
        exact ev_neg (by decide) (ev_neg h1 (ev_pos h2 (Ev.now _)))
      · refine ⟨finD s n, ev_succ ?_, fun _ _ => rfl⟩
        simp only [spec_ReadDec.j2]
        exact ev_neg (by decide) (ev_neg h1 (ev_neg h2 (fin_ev s n _ (spec_Dec_ev n (by omega) (by omega)))))
  obtain ⟨v, hv, hc⟩ := pos
  by_cases h : 1 ≤ s.size
  · by_cases hb : (bt s 0 == 45) = true
    · obtain ⟨v', hv'⟩ := neg
      refine ⟨v', ev_succ ?_, fun _ _ _ hd => ?_⟩
      · simp only [spec_ReadDec.j1]
        rw [hb]
        exact ev_neg (by decide) (ev_pos (by omega) (ev_pos (by omega) hv'))
      · rw [bt_first s h hd] at hb
        cases hb
    · refine ⟨v, ev_succ ?_, fun _ h9 hc9 _ => hc h9 hc9⟩
      simp only [spec_ReadDec.j1]
      rw [Bool.eq_false_iff.2 hb]
      exact ev_neg (by decide) (ev_pos (by omega) (ev_pos (by omega) hv))
  · refine ⟨v, ev_succ ?_, fun h1 => absurd h1 h⟩
    simp only [spec_ReadDec.j1]
    exact ev_neg (by decide) (ev_neg (by omega) hv)
theorem specDec_l0 (s : ByteArray) : ∀ (d i : Nat) (n c : Int), i + d = 11 → i ≤ s.size → 0 ≤ n → n < ((10 ^ i : Nat) : Int) → 0 ≤ c → c ≤ (i : Int) → ∃ v, Ev (fun k => spec_ReadDec.l0 k s n c (i : Int)) v ∧ (1 ≤ s.size → s.size ≤ 9 → (∀ b ∈ s.data.toList, 48 ≤ b.toNat ∧ b.toNat ≤ 57) → v = finD s (valD n (s.data.toList.drop i))) := by
  intro d
  have hL := Lib.size_eq s
  induction d with
  | zero =>
    intro i n c h1 h2 h3 h4 h5 h6
    have hp : 10 ^ i ≤ 10 ^ 11 := Nat.pow_le_pow_right (by decide) (by omega)
    obtain ⟨v, hv, _⟩ := specDec_end s n c (i : Int) (by omega)
    refine ⟨v, ev_succ ?_, fun _ h9 => absurd h9 (by omega)⟩
    simp only [spec_ReadDec.l0]
    by_cases h : (i : Int) < (s.size : Int)
    · rw [decide_eq_false (show ¬ (i : Int) < 11 by omega)]
      exact ev_pos h hv
    · exact ev_neg h hv
  | succ d ih =>
    intro i n c h1 h2 h3 h4 h5 h6
    have hp : 10 ^ i ≤ 10 ^ 11 := Nat.pow_le_pow_right (by decide) (by omega)
    have hq : 10 ^ (i + 1) = 10 ^ i * 10 := Nat.pow_succ ..
    by_cases h : i < s.size
    · have hi : i < s.data.toList.length := by omega
      have hd : s.data.toList.drop i = s.data.toList[i] :: s.data.toList.drop (i + 1) := List.drop_eq_getElem_cons hi
      have hb := bt_get s i hi
      have hm : s.data.toList[i] ∈ s.data.toList := List.getElem_mem _
      generalize hbb : s.data.toList[i] = b at hd hb hm
      by_cases c1 : 48 ≤ b.toNat ∧ b.toNat ≤ 57
      · obtain ⟨v, hv, hc⟩ := ih (i + 1) (10 * n + ((b.toNat : Int) - 48)) (c + 1) (by omega) (by omega) (by omega) (by omega) (by omega) (by omega)
        refine ⟨v, ev_succ ?_, fun a1 a2 a3 => by rw [hd]; exact hc a1 a2 a3⟩
        simp only [spec_ReadDec.l0]
        rw [decide_eq_true (show (i : Int) < 11 by omega)]
        refine ev_pos (by omega) (ev_succ ?_)
        simp only [spec_ReadDec.j1]
        rw [hb, w64 (x := n * 10) (by omega) (by omega), show ((b.toNat : Int) - 48) % 256 = (b.toNat : Int) - 48 by omega, Int.mul_comm n 10, w64 (x := 10 * n + ((b.toNat : Int) - 48)) (by omega) (by omega), w64 (x := (i : Int) + 1) (by omega) (by omega), w64 (x := c + 1) (by omega) (by omega)]
        exact ev_pos (by first | trivial | rfl) (ev_pos (by omega) (ev_pos (by omega) (ev_pos (by omega) (ev_pos (by omega) hv))))
      · obtain ⟨v, hv, hc⟩ := ih (i + 1) n c (by omega) (by omega) (by omega) (by omega) (by omega) (by omega)
        refine ⟨v, ev_succ ?_, fun a1 a2 a3 => absurd (a3 b hm) c1⟩
        simp only [spec_ReadDec.l0]
        rw [decide_eq_true (show (i : Int) < 11 by omega)]
        refine ev_pos (by omega) (ev_succ ?_)
        simp only [spec_ReadDec.j1]
        rw [hb, w64 (x := (i : Int) + 1) (by omega) (by omega)]
        refine ev_pos (by first | trivial | rfl) (ev_pos (by omega) (ev_pos (by omega) ?_))
        by_cases c2 : 48 ≤ b.toNat
        · exact ev_pos (by omega) (ev_neg (by omega) hv)
        · exact ev_neg (by omega) hv
    · obtain ⟨v, hv, hc⟩ := specDec_end s n c (i : Int) (by omega)
      have e : s.data.toList.drop i = [] := List.drop_eq_nil_of_le (by omega)
      refine ⟨v, ev_succ ?_, fun a1 a2 a3 => by rw [e]; exact hc a1 a2 (by omega) a3⟩
      simp only [spec_ReadDec.l0]
      exact ev_neg (by omega) hv
theorem specReadDec (s : ByteArray) : ∃ v, Ev (fun k => spec_ReadDec.f k s) v ∧ ∀ n, 0 ≤ n ∧ n < 100 → s = decT n → v = (n, true) := by
  obtain ⟨v, hv, hc⟩ := specDec_l0 s 11 0 0 0 (by omega) (by omega) (by omega) (by simp) (by omega) (by omega)
  refine ⟨v, hv, fun n hn e => ?_⟩
  obtain ⟨d1, d2, d3, d4⟩ := dec_digits n hn.1 hn.2
  rw [← e] at d1 d2 d3 d4
  rw [hc d3 d4 d1, List.drop_zero, d2]
  unfold finD
  rw [if_pos (by rw [itT_dec n hn.1, e])]

/-! #### _readOp -/
open Go.Proofs.YtlfmlagdnebkiaaDoor.Cut
/-- the word at a place -/
def wd (W : List (List UInt8)) (j : Nat) : List UInt8 := W.getD j []
theorem rdOf_wd (W : List (List UInt8)) (j : Nat) : rdOf ByteArray.empty (W.map mkB) (j : Int) = mkB (wd W j) := by
  unfold rdOf wd
  rw [Int.toNat_natCast, List.getD_eq_getElem?_getD, List.getD_eq_getElem?_getD, List.getElem?_map]
  cases W[j]? <;> rfl
def none0   : Int × List Int × Int × Int × Int × Bool := (0, [], 0, 0, 0, false)
def tup (o : S24)   : Int × List Int × Int × Int × Int × Bool := (o.f0, o.f1, o.f2, o.f3, o.f4, true)
def finO (s : ByteArray) (o : S24)   : Int × List Int × Int × Int × Int × Bool := if opT o = s ∧ s ≠ ⟨#[]⟩ then tup o else none0
/-- the text of an operation that is one -/
def good (s : ByteArray) : Prop := ∃ o, opB o = true ∧ opT o = s
theorem fin_bad (s : ByteArray) (h : ¬ good s) (o : S24) : finO s o = none0 := by
  unfold finO
  rw [if_neg]
  rintro ⟨h1, h2⟩
  by_cases hb : opB o = true
  · exact h ⟨o, hb, h1⟩
  · unfold opT at h1
    rw [if_neg hb] at h1
    exact h2 h1.symm
theorem opT_size (o : S24) (hb : opB o = true) : 1 ≤ (opT o).size := by
  unfold opT opForm
  rw [if_pos hb]
  split
  · simp only [ByteArray.size_append, sz_mk, List.size_toArray, List.length_cons, List.length_nil]; omega
  · split
    · simp only [ByteArray.size_append, sz_mk, List.size_toArray, List.length_cons, List.length_nil]; omega
    · simp only [ByteArray.size_append, sz_mk, List.size_toArray, List.length_cons, List.length_nil]; omega
theorem opT_ne (o : S24) (hb : opB o = true) : opT o ≠ ⟨#[]⟩ := by
  intro e
  have := opT_size o hb
  rw [e] at this
  exact absurd this (by decide)
theorem fin_good (o : S24) (hb : opB o = true) : finO (opT o) o = tup o := by
  unfold finO
  rw [if_pos ⟨rfl, opT_ne o hb⟩]
theorem fin_yes (s : ByteArray) (o : S24) (h : opT o = s) (hs : s ≠ ⟨#[]⟩) : finO s o = tup o := by
  unfold finO
  rw [if_pos ⟨h, hs⟩]
theorem fin_no (s : ByteArray) (o : S24) (h : ¬ (opT o = s ∧ s ≠ ⟨#[]⟩)) : finO s o = none0 := by
  unfold finO
  rw [if_neg h]
theorem implEnd (s : ByteArray) (hs : s ≠ ⟨#[]⟩) (a : Int) (p : List Int) (b c d : Int) (hp : (p.length : Int) ≤ 1099511627776) : Ev (fun k => (impl_OpText.f k a p b c d).bind fun t => if t.toList = s.toList then some (a, p, b, c, d, true) else some (0, ([] : List Int), 0, 0, 0, false)) (finO s ⟨a, p, b, c, d⟩) := by
  refine ev_bind (OpText_form ⟨a, p, b, c, d⟩ hp).2.2 ?_
  by_cases h : opT ⟨a, p, b, c, d⟩ = s
  · rw [fin_yes _ _ h hs]
    exact ev_pos (list_eq.2 h) (Ev.now _)
  · rw [fin_no _ _ (fun e => h e.1)]
    exact ev_neg (fun e => h (list_eq.1 e)) (Ev.now _)
theorem specEnd (s : ByteArray) (a : Int) (p : List Int) (b c d : Int) (hp : (p.length : Int) ≤ 1099511627776) : Ev (fun k => if s.toList = ([] : List UInt8) then some (0, ([] : List Int), 0, 0, 0, false) else (spec_OpText.f k a p b c d).bind fun t => if t.toList = s.toList then some (a, p, b, c, d, true) else some (0, ([] : List Int), 0, 0, 0, false)) (finO s ⟨a, p, b, c, d⟩) := by
  by_cases hs : s = ⟨#[]⟩
  · rw [fin_no _ _ (fun e => e.2 hs)]
    refine ev_pos ?_ (Ev.now _)
    rw [hs]
    exact (Lib.toList_data _)
  · refine ev_neg ?_ ?_
    · intro e
      apply hs
      rw [Lib.toList_data] at e
      apply ByteArray.ext
      exact Array.toList_inj.mp e
    · refine ev_bind (OpText_form ⟨a, p, b, c, d⟩ hp).2.1 ?_
      by_cases h : opT ⟨a, p, b, c, d⟩ = s
      · rw [fin_yes _ _ h hs]
        exact ev_pos (list_eq.2 h) (Ev.now _)
      · rw [fin_no _ _ (fun e => h e.1)]
        exact ev_neg (fun e => h (list_eq.1 e)) (Ev.now _)
/-- the path out of its word -/
def pathW (rd : ByteArray → Int × Bool) (w : List UInt8) : List Int := if 1 < w.length then (cutL 46 (w.drop 1)).map (fun x => (rd (mkB x)).1) else []
theorem pathW_len (rd : ByteArray → Int × Bool) (w : List UInt8) : (pathW rd w).length ≤ w.length := by
  unfold pathW
  split
  · have := cutL_len 46 (w.drop 1)
    rw [List.length_drop] at this
    rw [List.length_map]
    omega
  · exact Nat.zero_le _
theorem implReadOp_l0 (rd : ByteArray → Int × Bool) (hrd : ∀ s, Ev (fun k => impl_ReadDec.f k s) (rd s)) (s : ByteArray) (T : List ByteArray) (X : List (List UInt8)) (hX : X.length ≤ 4294967296) (a b c d : Int) (r : Int × List Int × Int × Int × Int × Bool) : ∀ (n i : Nat) (acc : List Int), i + n = X.length → acc.length = i → Ev (fun k => impl_ReadOp.j2 k s T a (acc ++ (X.drop i).map (fun x => (rd (mkB x)).1)) b c d) r → Ev (fun k => impl_ReadOp.l0 k s T (X.map mkB) (X.length : Int) (i : Int) a acc b c d) r := by
  intro n
  induction n with
  | zero =>
    intro i acc h1 h2 h3
    rw [List.drop_eq_nil_of_le (by omega), List.map_nil, List.append_nil] at h3
    refine ev_succ ?_
    simp only [impl_ReadOp.l0]
    exact ev_neg (by omega) h3
  | succ n ih =>
    intro i acc h1 h2 h3
    have hi : i < X.length := by omega
    rw [List.drop_eq_getElem_cons hi, List.map_cons] at h3
    have hw : wd X i = X[i] := by unfold wd; rw [List.getD_eq_getElem?_getD, List.getElem?_eq_getElem hi]; rfl
    refine ev_succ ?_
    simp only [impl_ReadOp.l0]
    rw [rdOf_wd, hw, List.length_map, w64 (x := (i : Int) + 1) (by omega) (by omega)]
    refine ev_pos (by omega) (ev_pos (by omega) (ev_pos (by omega) (ev_bind (hrd _) (ev_pos (by omega) (ih (i + 1) _ (by omega) (by simp; omega) ?_)))))
    rw [List.append_assoc]
    exact h3
theorem specReadOp_l1 (rd : ByteArray → Int × Bool) (hrd : ∀ s, Ev (fun k => spec_ReadDec.f k s) (rd s)) (s : ByteArray) (T : List ByteArray) (X : List (List UInt8)) (hX : X.length ≤ 4294967296) (a b c d : Int) (r : Int × List Int × Int × Int × Int × Bool) : ∀ (n i : Nat) (acc : List Int), i + n = X.length → acc.length = i → Ev (fun k => spec_ReadOp.j3 k s T a (acc ++ (X.drop i).map (fun x => (rd (mkB x)).1)) b c d) r → Ev (fun k => spec_ReadOp.l1 k s T (X.map mkB) (i : Int) a acc b c d) r := by
  intro n
  induction n with
  | zero =>
    intro i acc h1 h2 h3
    rw [List.drop_eq_nil_of_le (by omega), List.map_nil, List.append_nil] at h3
    refine ev_succ ?_
    simp only [spec_ReadOp.l1, List.length_map]
    exact ev_neg (by omega) h3
  | succ n ih =>
    intro i acc h1 h2 h3
    have hi : i < X.length := by omega
    rw [List.drop_eq_getElem_cons hi, List.map_cons] at h3
    have hw : wd X i = X[i] := by unfold wd; rw [List.getD_eq_getElem?_getD, List.getElem?_eq_getElem hi]; rfl
    refine ev_succ ?_
    simp only [spec_ReadOp.l1, List.length_map]
    rw [rdOf_wd, hw, w64 (x := (i : Int) + 1) (by omega) (by omega)]
    refine ev_pos (by omega) (ev_pos (by omega) (ev_bind (hrd _) (ev_pos (by omega) (ih (i + 1) _ (by omega) (by simp; omega) ?_))))
    rw [List.append_assoc]
    exact h3
/-- what the program reads out of the words -/
def opI (rd : ByteArray → Int × Bool) (lb : ByteArray → Int) (W : List (List UInt8)) : S24 :=
  if 4 < W.length then ⟨3, pathW rd (wd W 1), lb (mkB (wd W 2)), (rd (mkB (wd W 3))).1, (rd (mkB (wd W 4))).1⟩
  else if 2 < W.length then ⟨1, pathW rd (wd W 1), lb (mkB (wd W 2)), 0, 0⟩ else ⟨2, pathW rd (wd W 1), 0, 0, 0⟩
theorem impl_j3 (rd : ByteArray → Int × Bool) (hrd : ∀ s, Ev (fun k => impl_ReadDec.f k s) (rd s)) (s : ByteArray) (hs : s ≠ ⟨#[]⟩) (W : List (List UInt8)) (a : Int) (p : List Int) (b : Int) (hp : (p.length : Int) ≤ 1099511627776) : Ev (fun k => impl_ReadOp.j3 k s (W.map mkB) a p b 0 0) (if 4 < W.length then finO s ⟨3, p, b, (rd (mkB (wd W 3))).1, (rd (mkB (wd W 4))).1⟩ else finO s ⟨a, p, b, 0, 0⟩) := by
  refine ev_succ ?_
  simp only [impl_ReadOp.j3, List.length_map]
  rw [show rdOf ByteArray.empty (W.map mkB) 3 = mkB (wd W 3) from rdOf_wd W 3, show rdOf ByteArray.empty (W.map mkB) 4 = mkB (wd W 4) from rdOf_wd W 4]
  by_cases h : 4 < W.length
  · rw [if_pos h]
    exact ev_pos (by omega) (ev_pos (by omega) (ev_bind (hrd _) (ev_pos (by omega) (ev_bind (hrd _) (implEnd s hs 3 p b _ _ hp)))))
  · rw [if_neg h]
    exact ev_neg (by omega) (implEnd s hs a p b 0 0 hp)
theorem impl_j2 (rd : ByteArray → Int × Bool) (hrd : ∀ s, Ev (fun k => impl_ReadDec.f k s) (rd s)) (lb : ByteArray → Int) (hlb : ∀ s, Ev (fun k => impl_LabelOf.f k s) (lb s)) (s : ByteArray) (hs : s ≠ ⟨#[]⟩) (W : List (List UInt8)) (hp : ((pathW rd (wd W 1)).length : Int) ≤ 1099511627776) : Ev (fun k => impl_ReadOp.j2 k s (W.map mkB) 2 (pathW rd (wd W 1)) 0 0 0) (finO s (opI rd lb W)) := by
  refine ev_succ ?_
  simp only [impl_ReadOp.j2, List.length_map]
  rw [show rdOf ByteArray.empty (W.map mkB) 2 = mkB (wd W 2) from rdOf_wd W 2]
  unfold opI
  by_cases h : 2 < W.length
  · refine ev_pos (by omega) (ev_pos (by omega) (ev_bind (hlb _) ?_))
    refine ev_eq (impl_j3 rd hrd s hs W 1 _ _ hp) ?_
    by_cases h4 : 4 < W.length
    · rw [if_pos h4, if_pos h4]
    · rw [if_neg h4, if_neg h4, if_pos h]
  · refine ev_neg (by omega) ?_
    refine ev_eq (impl_j3 rd hrd s hs W 2 _ _ hp) ?_
    rw [if_neg (by omega), if_neg (by omega), if_neg h]
theorem implReadOp (rd : ByteArray → Int × Bool) (hrd : ∀ s, Ev (fun k => impl_ReadDec.f k s) (rd s)) (lb : ByteArray → Int) (hlb : ∀ s, Ev (fun k => impl_LabelOf.f k s) (lb s)) (s : ByteArray) (hz : s.size ≤ 1048576) : Ev (fun k => impl_ReadOp.f k s) (if 2 ≤ (cutL 32 s.data.toList).length ∧ 1 ≤ (wd (cutL 32 s.data.toList) 1).length then finO s (opI rd lb (cutL 32 s.data.toList)) else none0) := by
  have hL := Lib.size_eq s
  simp only [impl_ReadOp.f]
  refine ev_bindc (split_eq 0 s 32 (by omega)) ?_
  have hwl : (wd (cutL 32 s.data.toList) 1).length ≤ s.data.toList.length := by
    unfold wd
    rw [List.getD_eq_getElem?_getD]
    cases h : (cutL 32 s.data.toList)[1]? with
    | none => exact Nat.zero_le _
    | some x => exact mem_le 32 _ x (List.mem_of_getElem? h)
  generalize hW : cutL 32 s.data.toList = W at hwl
  simp only [List.length_map]
  by_cases h2 : 2 ≤ W.length
  · refine ev_neg (by omega) (ev_pos (by omega) ?_)
    rw [show rdOf ByteArray.empty (W.map mkB) 1 = mkB (wd W 1) from rdOf_wd W 1, mkB_size]
    have hs : s ≠ ⟨#[]⟩ := by
      intro e
      rw [e] at hW
      rw [← hW] at h2
      exact absurd h2 (by decide)
    by_cases h1 : 1 ≤ (wd W 1).length
    · rw [if_pos ⟨h2, h1⟩, show (((wd W 1).length : Int) == 0) = false by rw [beq_eq_false_iff_ne]; omega]
      have hp : ((pathW rd (wd W 1)).length : Int) ≤ 1099511627776 := by have := pathW_len rd (wd W 1); omega
      refine ev_succ ?_
      simp only [impl_ReadOp.j0, List.length_map]
      rw [show rdOf ByteArray.empty (W.map mkB) 1 = mkB (wd W 1) from rdOf_wd W 1]
      simp only [mkB_size]
      refine ev_neg (by decide) (ev_pos (by omega) ?_)
      by_cases h3 : 1 < (wd W 1).length
      · have e1 : (mkB (wd W 1)).extract 1 (mkB (wd W 1)).size = mkB ((wd W 1).drop 1) := by rw [ext_to, mkB_list]
        rw [mkB_size] at e1
        rw [e1]
        refine ev_pos (by omega) (ev_pos (by omega) (ev_bindc (split_eq 0 _ 46 (by rw [mkB_size, List.length_drop]; omega)) ?_))
        rw [mkB_list, List.length_map]
        have hcl := cutL_len 46 ((wd W 1).drop 1)
        rw [List.length_drop] at hcl
        refine implReadOp_l0 rd hrd s _ _ (by omega) 2 0 0 0 _ _ 0 [] (Nat.zero_add _) rfl ?_
        have e2 : [] ++ ((cutL 46 ((wd W 1).drop 1)).drop 0).map (fun x => (rd (mkB x)).1) = pathW rd (wd W 1) := by
          unfold pathW
          rw [if_pos h3]
          rfl
        rw [e2]
        exact impl_j2 rd hrd lb hlb s hs W hp
      · have e2 : ([] : List Int) = pathW rd (wd W 1) := by unfold pathW; rw [if_neg h3]
        refine ev_neg (by omega) ?_
        have hj := impl_j2 rd hrd lb hlb s hs W hp
        rw [← e2] at hj
        exact hj
    · rw [if_neg (fun e => h1 e.2), show (((wd W 1).length : Int) == 0) = true by rw [beq_iff_eq]; omega]
      refine ev_succ ?_
      simp only [impl_ReadOp.j0]
      exact ev_pos (by first | trivial | rfl) (Ev.now _)
  · rw [if_neg (fun e => h2 e.1)]
    refine ev_pos (by omega) (ev_succ ?_)
    simp only [impl_ReadOp.j0]
    exact ev_pos (by first | trivial | rfl) (Ev.now _)

/-! #### _readOp2 -/
open Go.Proofs.YtlfmlagdnebkiaaDoor.Cut
/-- what the reference reads out of the words, told the kind -/
def opK (a : Int) (rd : ByteArray → Int × Bool) (lb : ByteArray → Int) (W : List (List UInt8)) : S24 :=
  ⟨a, pathW rd (wd W 1), if a = 2 then 0 else lb (mkB (wd W 2)), if a = 3 then (rd (mkB (wd W 3))).1 else 0, if a = 3 then (rd (mkB (wd W 4))).1 else 0⟩
def kdS (W : List (List UInt8)) : Int := if wd W 0 = [114, 101, 108, 97, 98, 101, 108] then 1 else if wd W 0 = [105, 110, 115, 101, 114, 116] then 3 else ((wd W 0).length : Int) - 6 + 2
theorem wd_ext (W : List (List UInt8)) (j : Nat) : wd (W ++ [[]]) j = wd W j := by
  unfold wd
  rw [List.getD_eq_getElem?_getD, List.getD_eq_getElem?_getD, List.getElem?_append]
  by_cases h : j < W.length
  · rw [if_pos h]
  · rw [if_neg h, List.getElem?_eq_none (l := W) (by omega)]
    cases h2 : ([[]] : List (List UInt8))[j - W.length]? with
    | none => rfl
    | some x => have := List.mem_of_getElem? h2; rw [List.mem_singleton.1 this]; rfl
theorem spec_j4 (rd : ByteArray → Int × Bool) (hrd : ∀ s, Ev (fun k => spec_ReadDec.f k s) (rd s)) (s : ByteArray) (W : List (List UInt8)) (hW : 5 ≤ W.length) (a : Int) (p : List Int) (b : Int) (hp : (p.length : Int) ≤ 1099511627776) : Ev (fun k => spec_ReadOp.j4 k s (W.map mkB) a p b 0 0) (finO s ⟨a, p, b, if a = 3 then (rd (mkB (wd W 3))).1 else 0, if a = 3 then (rd (mkB (wd W 4))).1 else 0⟩) := by
  refine ev_succ ?_
  simp only [spec_ReadOp.j4, List.length_map]
  rw [show rdOf ByteArray.empty (W.map mkB) 3 = mkB (wd W 3) from rdOf_wd W 3, show rdOf ByteArray.empty (W.map mkB) 4 = mkB (wd W 4) from rdOf_wd W 4]
  by_cases h : a = 3
  · rw [if_pos h, if_pos h]
    exact ev_pos h (ev_pos (by omega) (ev_bind (hrd _) (ev_pos (by omega) (ev_bind (hrd _) (specEnd s a p b _ _ hp)))))
  · rw [if_neg h, if_neg h]
    exact ev_neg h (specEnd s a p b 0 0 hp)
theorem spec_j3 (rd : ByteArray → Int × Bool) (hrd : ∀ s, Ev (fun k => spec_ReadDec.f k s) (rd s)) (lb : ByteArray → Int) (hlb : ∀ s, Ev (fun k => spec_LabelOf.f k s) (lb s)) (s : ByteArray) (W : List (List UInt8)) (hW : 5 ≤ W.length) (a : Int) (hp : ((pathW rd (wd W 1)).length : Int) ≤ 1099511627776) : Ev (fun k => spec_ReadOp.j3 k s (W.map mkB) a (pathW rd (wd W 1)) 0 0 0) (finO s (opK a rd lb W)) := by
  refine ev_succ ?_
  simp only [spec_ReadOp.j3, List.length_map]
  rw [show rdOf ByteArray.empty (W.map mkB) 2 = mkB (wd W 2) from rdOf_wd W 2]
  unfold opK
  by_cases h : a = 2
  · refine ev_pos h ?_
    refine ev_eq (spec_j4 rd hrd s W hW a _ 0 hp) ?_
    rw [if_pos h]
  · refine ev_neg h (ev_pos (by omega) (ev_bind (hlb _) ?_))
    refine ev_eq (spec_j4 rd hrd s W hW a _ _ hp) ?_
    rw [if_neg h]
theorem specReadOp_five (rd : ByteArray → Int × Bool) (hrd : ∀ s, Ev (fun k => spec_ReadDec.f k s) (rd s)) (lb : ByteArray → Int) (hlb : ∀ s, Ev (fun k => spec_LabelOf.f k s) (lb s)) (s : ByteArray) (a : Int) (W : List (List UInt8)) (h1 : 5 ≤ W.length) (h2 : (wd W 1).length ≤ 1048576) : Ev (fun k => spec_ReadOp.l0 k s (W.map mkB) a 0 0 0) (finO s (opK a rd lb W)) := by
  refine ev_succ ?_
  simp only [spec_ReadOp.l0, List.length_map]
  rw [show rdOf ByteArray.empty (W.map mkB) 1 = mkB (wd W 1) from rdOf_wd W 1]
  simp only [mkB_size]
  refine ev_neg (by omega) (ev_pos (by omega) ?_)
  have hp : ((pathW rd (wd W 1)).length : Int) ≤ 1099511627776 := by have := pathW_len rd (wd W 1); omega
  have hj := spec_j3 rd hrd lb hlb s W (by omega) a hp
  by_cases h3 : 1 < (wd W 1).length
  · have e1 : (mkB (wd W 1)).extract 1 (mkB (wd W 1)).size = mkB ((wd W 1).drop 1) := by rw [ext_to, mkB_list]
    rw [mkB_size] at e1
    rw [e1]
    refine ev_pos (by omega) (ev_pos (by omega) (ev_bind (l23Cut_ev _ 46 (by rw [mkB_size, List.length_drop]; omega)) ?_))
    rw [mkB_list]
    have hcl := cutL_len 46 ((wd W 1).drop 1)
    rw [List.length_drop] at hcl
    refine specReadOp_l1 rd hrd s _ _ (by omega) a 0 0 0 _ _ 0 [] (Nat.zero_add _) rfl ?_
    have e2 : [] ++ ((cutL 46 ((wd W 1).drop 1)).drop 0).map (fun x => (rd (mkB x)).1) = pathW rd (wd W 1) := by
      unfold pathW
      rw [if_pos h3]
      rfl
    rw [e2]
    exact hj
  · have e2 : ([] : List Int) = pathW rd (wd W 1) := by unfold pathW; rw [if_neg h3]
    refine ev_neg (by omega) ?_
    rw [← e2] at hj
    exact hj
theorem specReadOp_l0 (rd : ByteArray → Int × Bool) (hrd : ∀ s, Ev (fun k => spec_ReadDec.f k s) (rd s)) (lb : ByteArray → Int) (hlb : ∀ s, Ev (fun k => spec_LabelOf.f k s) (lb s)) (s : ByteArray) (a : Int) : ∀ (n : Nat) (W : List (List UInt8)), 5 ≤ W.length + n → (wd W 1).length ≤ 1048576 → Ev (fun k => spec_ReadOp.l0 k s (W.map mkB) a 0 0 0) (finO s (opK a rd lb W)) := by
  intro n
  induction n with
  | zero =>
    intro W h1 h2
    exact specReadOp_five rd hrd lb hlb s a W (by omega) h2
  | succ n ih =>
    intro W h1 h2
    by_cases h5 : 5 ≤ W.length
    · exact specReadOp_five rd hrd lb hlb s a W h5 h2
    · have hh := ih (W ++ [[]]) (by simp; omega) (by rw [wd_ext]; exact h2)
      have e : opK a rd lb (W ++ [[]]) = opK a rd lb W := by unfold opK; simp only [wd_ext]
      rw [e, List.map_append] at hh
      refine ev_succ ?_
      simp only [spec_ReadOp.l0, List.length_map]
      exact ev_pos (by omega) (ev_pos (by omega) hh)
theorem specReadOp (rd : ByteArray → Int × Bool) (hrd : ∀ s, Ev (fun k => spec_ReadDec.f k s) (rd s)) (lb : ByteArray → Int) (hlb : ∀ s, Ev (fun k => spec_LabelOf.f k s) (lb s)) (s : ByteArray) (hz : s.size ≤ 1048576) : Ev (fun k => spec_ReadOp.f k s) (finO s (opK (kdS (cutL 32 s.data.toList)) rd lb (cutL 32 s.data.toList))) := by
  have hL := Lib.size_eq s
  simp only [spec_ReadOp.f]
  refine ev_bind (l23Cut_ev s 32 (by omega)) ?_
  have hwl : ∀ j, (wd (cutL 32 s.data.toList) j).length ≤ s.data.toList.length := by
    intro j
    unfold wd
    rw [List.getD_eq_getElem?_getD]
    cases h : (cutL 32 s.data.toList)[j]? with
    | none => exact Nat.zero_le _
    | some x => exact mem_le 32 _ x (List.mem_of_getElem? h)
  have hne := cutL_ne 32 s.data.toList
  generalize cutL 32 s.data.toList = W at hwl hne
  have hpos : 0 < W.length := List.length_pos_iff.2 hne
  have h0 := hwl 0
  have h1 := hwl 1
  simp only [List.length_map]
  rw [show rdOf ByteArray.empty (W.map mkB) 0 = mkB (wd W 0) from rdOf_wd W 0]
  simp only [mkB_size, Lib.toList_data, mkB_list]
  refine ev_pos (by omega) ?_
  have go : ∀ a, Ev (fun k => spec_ReadOp.j0 k s (W.map mkB) a 0 0 0) (finO s (opK a rd lb W)) := by
    intro a
    refine ev_succ ?_
    simp only [spec_ReadOp.j0]
    exact specReadOp_l0 rd hrd lb hlb s a 5 W (by omega) (by omega)
  unfold kdS
  by_cases c1 : wd W 0 = [114, 101, 108, 97, 98, 101, 108]
  · rw [if_pos c1]
    exact ev_pos c1 (go 1)
  · rw [if_neg c1]
    refine ev_neg c1 ?_
    by_cases c2 : wd W 0 = [105, 110, 115, 101, 114, 116]
    · rw [if_pos c2]
      exact ev_pos c2 (go 3)
    · rw [if_neg c2, w64 (x := ((wd W 0).length : Int) - 6) (by omega) (by omega), w64 (x := ((wd W 0).length : Int) - 6 + 2) (by omega) (by omega)]
      exact ev_neg c2 (go _)

/-! #### _readOp3 -/
open Go.Proofs.YtlfmlagdnebkiaaDoor.Cut
theorem data_app (a b : ByteArray) : (a ++ b).data.toList = a.data.toList ++ b.data.toList := by simp
theorem join_cons2 (c : UInt8) (x y : List UInt8) (r : List (List UInt8)) : Lib.join (x :: y :: r) [c] = x ++ c :: Lib.join (y :: r) [c] := by simp [Lib.join_cons, Lib.joinTail]
theorem join_mem (c : UInt8) : ∀ (x : List UInt8) (r : List (List UInt8)) (b : UInt8), b ∈ Lib.join (x :: r) [c] → b = c ∨ ∃ l ∈ x :: r, b ∈ l
  | x, [], b, h => by rw [Lib.join_one] at h; exact .inr ⟨x, List.mem_singleton.2 rfl, h⟩
  | x, y :: r, b, h => by
    rw [join_cons2] at h
    rcases List.mem_append.1 h with h | h
    · exact .inr ⟨x, List.mem_cons_self, h⟩
    · rcases List.mem_cons.1 h with h | h
      · exact .inl h
      · rcases join_mem c y r b h with h | ⟨l, hl, hb⟩
        · exact .inl h
        · exact .inr ⟨l, List.mem_cons_of_mem _ hl, hb⟩
/-- the digits of a number -/
def dL (n : Int) : List UInt8 := (decT n).data.toList
theorem dL_no (n : Int) (h : 0 ≤ n ∧ n < 100) (c : UInt8) (hc : c.toNat < 48) : c ∉ dL n := fun hm => by
  have := ((dec_digits n h.1 h.2).1 c hm).1
  omega
theorem dL_len (n : Int) (h : 0 ≤ n ∧ n < 100) : 1 ≤ (dL n).length := by
  have := (dec_digits n h.1 h.2).2.2.1
  rw [Lib.size_eq] at this
  exact this
theorem lab_no (n : Int) (h : 0 ≤ n ∧ n ≤ 5) : (32 : UInt8) ∉ (labT n).data.toList := by
  have h1 : n = 0 ∨ n = 1 ∨ n = 2 ∨ n = 3 ∨ n = 4 ∨ n = 5 := by omega
  rcases h1 with rfl | rfl | rfl | rfl | rfl | rfl <;> decide
/-- the path's word -/
def pL (p : List Int) : List UInt8 := 46 :: Lib.join (p.map dL) [46]
theorem pL_no (p : List Int) (hp : ∀ x ∈ p, 0 ≤ x ∧ x < 100) : (32 : UInt8) ∉ pL p := by
  intro hm
  rcases List.mem_cons.1 hm with h | h
  · exact absurd h (by decide)
  · cases p with
    | nil => cases h
    | cons x r =>
      rw [List.map_cons] at h
      rcases join_mem 46 _ _ _ h with h | ⟨l, hl, hb⟩
      · exact absurd h (by decide)
      · rw [← List.map_cons (f := dL)] at hl
        obtain ⟨y, hy, rfl⟩ := List.mem_map.1 hl
        exact dL_no y (hp y hy) 32 (by decide) hb
theorem path_back (rd : ByteArray → Int × Bool) (hrd : ∀ n, 0 ≤ n ∧ n < 100 → rd (decT n) = (n, true)) (p : List Int) (hp : ∀ x ∈ p, 0 ≤ x ∧ x < 100) : pathW rd (pL p) = p := by
  cases p with
  | nil => rfl
  | cons x r =>
    have hd : (pL (x :: r)).drop 1 = Lib.join (dL x :: r.map dL) [46] := rfl
    have hl : 1 < (pL (x :: r)).length := by
      have h1 := dL_len x (hp x List.mem_cons_self)
      show 1 < (Lib.join (dL x :: r.map dL) [46]).length + 1
      rw [Lib.join_cons, List.length_append]
      omega
    unfold pathW
    rw [if_pos hl, hd, cutL_join 46 _ _ (dL_no x (hp x List.mem_cons_self) 46 (by decide)) (fun y hy => by
      obtain ⟨z, hz, rfl⟩ := List.mem_map.1 hy
      exact dL_no z (hp z (List.mem_cons_of_mem _ hz)) 46 (by decide))]
    rw [← List.map_cons (f := dL), List.map_map]
    have e : ∀ y ∈ x :: r, ((fun x => (rd (mkB x)).1) ∘ dL) y = y := by
      intro y hy
      show (rd (mkB (dL y))).1 = y
      unfold dL
      rw [mkB_of, hrd y (hp y hy)]
    exact (List.map_congr_left e).trans (List.map_id' _)
theorem jT_list (p : List Int) : (jT (p.map decT)).data.toList = Lib.join (p.map dL) [46] := by
  unfold jT
  rw [List.map_map]
  rfl
theorem canon (o : S24) (hb : opB o = true) (rd : ByteArray → Int × Bool) (hrd : ∀ n, 0 ≤ n ∧ n < 100 → rd (decT n) = (n, true)) (lb : ByteArray → Int) (hlb : ∀ n, 0 ≤ n ∧ n ≤ 5 → lb (labT n) = n) : 2 ≤ (cutL 32 (opT o).data.toList).length ∧ 1 ≤ (wd (cutL 32 (opT o).data.toList) 1).length ∧ opI rd lb (cutL 32 (opT o).data.toList) = o ∧ opK (kdS (cutL 32 (opT o).data.toList)) rd lb (cutL 32 (opT o).data.toList) = o := by
  obtain ⟨a, p, b, c, d⟩ := o
  have eT : opT ⟨a, p, b, c, d⟩ = opForm a p b c d := by unfold opT; rw [if_pos hb]
  rw [eT]
  clear eT
  simp only [opB, Bool.and_eq_true, pathB, decide_eq_true_eq] at hb
  obtain ⟨⟨ha, hl⟩, hR⟩ := hb
  have hq : ∀ x ∈ p, 0 ≤ x ∧ x < 100 := by
    intro x hx
    have := of_decide_eq_true (List.all_eq_true.1 ha x hx)
    omega
  have hpath := path_back rd hrd p hq
  have hno := pL_no p hq
  have h1p : 1 ≤ (pL p).length := by show 1 ≤ _ + 1; omega
  by_cases k1 : a = 1
  · subst k1
    unfold restB at hR
    rw [if_pos rfl] at hR
    simp only [Bool.and_eq_true, decide_eq_true_eq, beq_iff_eq] at hR
    obtain ⟨hbb, rfl, rfl⟩ := hR
    have e : (opForm 1 p b 0 0).data.toList = [114, 101, 108, 97, 98, 101, 108] ++ 32 :: (pL p ++ 32 :: (labT b).data.toList) := by
      unfold opForm pL
      rw [if_pos rfl]
      simp only [data_app, jT_list]
      simp
    have hW : cutL 32 (opForm 1 p b 0 0).data.toList = [[114, 101, 108, 97, 98, 101, 108], pL p, (labT b).data.toList] := by
      rw [e, cutL_app 32 _ _ (by decide), cutL_app 32 _ _ hno, cutL_free 32 _ (lab_no b hbb)]
    rw [hW]
    have hlab : lb (mkB (labT b).data.toList) = b := by rw [mkB_of, hlb b hbb]
    refine ⟨by simp, h1p, ?_, ?_⟩
    · unfold opI
      rw [if_neg (by simp), if_pos (by simp)]
      show (⟨1, pathW rd (pL p), lb (mkB (labT b).data.toList), 0, 0⟩ : S24) = _
      rw [hpath, hlab]
    · have hk : kdS [[114, 101, 108, 97, 98, 101, 108], pL p, (labT b).data.toList] = 1 := by unfold kdS; exact if_pos rfl
      rw [hk]
      unfold opK
      rw [if_neg (by decide), if_neg (by decide), if_neg (by decide)]
      show (⟨1, pathW rd (pL p), lb (mkB (labT b).data.toList), 0, 0⟩ : S24) = _
      rw [hpath, hlab]
  · by_cases k2 : a = 2
    · subst k2
      unfold restB at hR
      rw [if_neg (by omega), if_pos rfl] at hR
      simp only [Bool.and_eq_true, beq_iff_eq] at hR
      obtain ⟨rfl, rfl, rfl⟩ := hR
      have e : (opForm 2 p 0 0 0).data.toList = [100, 101, 108, 101, 116, 101] ++ 32 :: pL p := by
        unfold opForm pL
        rw [if_neg (by omega), if_pos rfl]
        simp only [data_app, jT_list]
        simp
      have hW : cutL 32 (opForm 2 p 0 0 0).data.toList = [[100, 101, 108, 101, 116, 101], pL p] := by
        rw [e, cutL_app 32 _ _ (by decide), cutL_free 32 _ hno]
      rw [hW]
      refine ⟨by simp, h1p, ?_, ?_⟩
      · unfold opI
        rw [if_neg (by simp), if_neg (by simp)]
        show (⟨2, pathW rd (pL p), 0, 0, 0⟩ : S24) = _
        rw [hpath]
      · have hk : kdS [[100, 101, 108, 101, 116, 101], pL p] = 2 := by
          unfold kdS
          rw [if_neg (by show ¬ ([100, 101, 108, 101, 116, 101] : List UInt8) = _; decide), if_neg (by show ¬ ([100, 101, 108, 101, 116, 101] : List UInt8) = _; decide)]
          rfl
        rw [hk]
        unfold opK
        rw [if_pos rfl, if_neg (by decide), if_neg (by decide)]
        show (⟨2, pathW rd (pL p), 0, 0, 0⟩ : S24) = _
        rw [hpath]
    · by_cases k3 : a = 3
      · subst k3
        unfold restB at hR
        rw [if_neg (by omega), if_neg (by omega), if_pos rfl] at hR
        simp only [Bool.and_eq_true, decide_eq_true_eq] at hR
        obtain ⟨hbb, hcc, hdd⟩ := hR
        have hc1 : 0 ≤ c ∧ c < 100 := by omega
        have hd1 : 0 ≤ d ∧ d < 100 := by omega
        have e : (opForm 3 p b c d).data.toList = [105, 110, 115, 101, 114, 116] ++ 32 :: (pL p ++ 32 :: ((labT b).data.toList ++ 32 :: (dL c ++ 32 :: dL d))) := by
          unfold opForm pL dL
          rw [if_neg (by omega), if_neg (by omega)]
          simp only [data_app, jT_list]
          simp
          rfl
        have hW : cutL 32 (opForm 3 p b c d).data.toList = [[105, 110, 115, 101, 114, 116], pL p, (labT b).data.toList, dL c, dL d] := by
          rw [e, cutL_app 32 _ _ (by decide), cutL_app 32 _ _ hno, cutL_app 32 _ _ (lab_no b hbb), cutL_app 32 _ _ (dL_no c hc1 32 (by decide)), cutL_free 32 _ (dL_no d hd1 32 (by decide))]
        rw [hW]
        have hlab : lb (mkB (labT b).data.toList) = b := by rw [mkB_of, hlb b hbb]
        have hrc : (rd (mkB (dL c))).1 = c := by unfold dL; rw [mkB_of, hrd c hc1]
        have hrD : (rd (mkB (dL d))).1 = d := by unfold dL; rw [mkB_of, hrd d hd1]
        refine ⟨by simp, h1p, ?_, ?_⟩
        · unfold opI
          rw [if_pos (by simp)]
          show (⟨3, pathW rd (pL p), lb (mkB (labT b).data.toList), (rd (mkB (dL c))).1, (rd (mkB (dL d))).1⟩ : S24) = _
          rw [hpath, hlab, hrc, hrD]
        · have hk : kdS [[105, 110, 115, 101, 114, 116], pL p, (labT b).data.toList, dL c, dL d] = 3 := by
            unfold kdS
            rw [if_neg (by show ¬ ([105, 110, 115, 101, 114, 116] : List UInt8) = _; decide)]
            exact if_pos rfl
          rw [hk]
          unfold opK
          rw [if_neg (by decide), if_pos rfl, if_pos rfl]
          show (⟨3, pathW rd (pL p), lb (mkB (labT b).data.toList), (rd (mkB (dL c))).1, (rd (mkB (dL d))).1⟩ : S24) = _
          rw [hpath, hlab, hrc, hrD]
      · simp only [restB, if_neg k1, if_neg k2, if_neg k3] at hR
        cases hR
theorem ReadOp_form (s : ByteArray) (hz : s.size ≤ 1048576) : ∃ R : Int × List Int × Int × Int × Int × Bool, ((∃ o, opB o = true ∧ R = tup o) ∨ R = none0) ∧ Ev (fun k => spec_ReadOp.f k s) R ∧ Ev (fun k => impl_ReadOp.f k s) R := by
  obtain ⟨rdI, hI⟩ := Classical.axiomOfChoice implReadDec
  obtain ⟨rdS, hS⟩ := Classical.axiomOfChoice specReadDec
  obtain ⟨lbI, hlI⟩ := Classical.axiomOfChoice implLabelOf
  obtain ⟨lbS, hlS⟩ := Classical.axiomOfChoice specLabelOf
  have h1 := specReadOp rdS (fun x => (hS x).1) lbS (fun x => (hlS x).1) s hz
  have h2 := implReadOp rdI (fun x => (hI x).1) lbI (fun x => (hlI x).1) s hz
  by_cases hg : good s
  · obtain ⟨o, hb, rfl⟩ := hg
    have c1 := canon o hb rdS (fun n hn => (hS (decT n)).2 n hn rfl) lbS (fun n hn => (hlS (labT n)).2 n hn rfl)
    have c2 := canon o hb rdI (fun n hn => (hI (decT n)).2 n hn rfl) lbI (fun n hn => (hlI (labT n)).2 n hn rfl)
    rw [c1.2.2.2, fin_good o hb] at h1
    rw [if_pos ⟨c2.1, c2.2.1⟩, c2.2.2.1, fin_good o hb] at h2
    exact ⟨tup o, .inl ⟨o, hb, rfl⟩, h1, h2⟩
  · rw [fin_bad s hg] at h1
    refine ⟨none0, .inr rfl, h1, ?_⟩
    split at h2
    · rw [fin_bad s hg] at h2
      exact h2
    · exact h2
theorem ReadOp_both (s : ByteArray) (hz : s.size ≤ 1048576) : ∃ R : Int × List Int × Int × Int × Int × Bool, (R.2.1.length : Int) ≤ 1048577 ∧ Ev (fun k => spec_ReadOp.f k s) R ∧ Ev (fun k => impl_ReadOp.f k s) R := by
  obtain ⟨R, hR, h1, h2⟩ := ReadOp_form s hz
  refine ⟨R, ?_, h1, h2⟩
  rcases hR with ⟨o, hb, rfl⟩ | rfl
  · have hb' := hb
    simp only [opB, Bool.and_eq_true, pathB, decide_eq_true_eq] at hb'
    show (o.f1.length : Int) ≤ _
    have := hb'.1.2
    omega
  · decide

/-! #### _scriptText -/
theorem scriptText_l0 (ops : List S24) (hb : OpsB ops) (hl : ops.length ≤ 60) (hs : scriptB ops = true) : ∀ (d i : Nat) (x : ByteArray), i + d = ops.length → x.size ≤ 201 * i → ∃ r, (r = x ∨ ∃ y, r.data.toList = y ++ [10]) ∧ Ev (fun k => spec_ScriptText.l0 k ops x (i : Int)) r ∧ Ev (fun k => impl_ScriptText.l0 k x ops (ops.length : Int) (i : Int)) r := by
  have hok := spec_ScriptOk_ev ops hb
  rw [hs] at hok
  intro d
  induction d with
  | zero =>
    intro i x h hx
    refine ⟨x, .inl rfl, ev_succ ?_, ev_succ ?_⟩
    · simp only [spec_ScriptText.l0]
      exact ev_neg (by omega) (Ev.now _)
    · simp only [impl_ScriptText.l0]
      exact ev_neg (by omega) (Ev.now _)
  | succ d ih =>
    intro i x h hx
    have hi : i < ops.length := by omega
    obtain ⟨t, ht, h1, h2⟩ := OpText_both (rd_T24 ops (i : Int)) (hb.at hi)
    obtain ⟨r, r0, r1, r2⟩ := ih (i + 1) ((x ++ t) ++ ⟨#[10]⟩) (by omega) (by simp only [ByteArray.size_append, sz_mk, List.size_toArray, List.length_cons, List.length_nil]; omega)
    refine ⟨r, .inr ?_, ev_succ ?_, ev_succ ?_⟩
    · rcases r0 with rfl | h
      · exact ⟨(x ++ t).data.toList, by simp⟩
      · exact h
    · simp only [spec_ScriptText.l0]
      rw [w64 (x := (i : Int) + 1) (by omega) (by omega)]
      refine ev_pos (by omega) (ev_bind hok (ev_pos rfl (ev_pos (by omega) (ev_bind h1 (ev_pos (by omega) (ev_pos ?_ r1))))))
      simp only [ByteArray.size_append]; omega
    · simp only [impl_ScriptText.l0]
      rw [w64 (x := (i : Int) + 1) (by omega) (by omega)]
      refine ev_pos (by omega) (ev_pos (by omega) (ev_pos (by omega) (ev_bind h2 (ev_pos (by omega) (ev_pos ?_ ?_)))))
      · simp only [ByteArray.size_append, sz_mk, List.size_toArray, List.length_cons, List.length_nil]; omega
      · rw [ByteArray.append_assoc] at r2
        exact r2
theorem ScriptText_form (ops : List S24) (hb : OpsB ops) : ∃ r, (scriptB ops = false → r = ⟨#[]⟩) ∧ (r = ⟨#[]⟩ ∨ ∃ y, r.data.toList = y ++ [10]) ∧ (ops = [] → r = ⟨#[]⟩) ∧ Ev (fun k => spec_ScriptText.f k ops) r ∧ Ev (fun k => impl_ScriptText.f k ops) r := by
  have h1 := spec_ScriptOk_ev ops hb
  have h2 := impl_ScriptOk_ev ops hb
  by_cases hs : scriptB ops = true
  · have hl : ops.length ≤ 60 := by
      have h3 := hs
      unfold scriptB at h3
      rw [Bool.and_eq_true, decide_eq_true_eq] at h3
      omega
    obtain ⟨r, r0, r1, r2⟩ := scriptText_l0 ops hb hl hs ops.length 0 ⟨#[]⟩ (by omega) (by decide)
    refine ⟨r, fun h => absurd hs (by rw [h]; exact Bool.false_ne_true), r0, ?_, ?_, ?_⟩
    · rintro rfl
      obtain ⟨k, hk⟩ := r1
      have h2 := hk (k + 1) (Nat.le_succ k)
      simp only [spec_ScriptText.l0] at h2
      rw [if_neg (by decide)] at h2
      exact (Option.some.inj h2).symm
    · simp only [spec_ScriptText.f]
      exact r1
    · simp only [impl_ScriptText.f]
      exact ev_bind h2 (ev_pos hs r2)
  · have hn : 0 < ops.length := by
      rcases Nat.eq_zero_or_pos ops.length with h | h
      · exfalso
        have e : ops = [] := List.eq_nil_of_length_eq_zero h
        subst e
        exact hs rfl
      · exact h
    refine ⟨⟨#[]⟩, fun _ => rfl, .inl rfl, fun _ => rfl, ?_, ?_⟩
    · simp only [spec_ScriptText.f]
      refine ev_succ ?_
      simp only [spec_ScriptText.l0]
      exact ev_pos (by omega) (ev_bind h1 (ev_neg hs (Ev.now _)))
    · simp only [impl_ScriptText.f]
      exact ev_bind h2 (ev_neg hs (Ev.now _))
theorem ScriptText_both (ops : List S24) (hb : OpsB ops) : ∃ r, Ev (fun k => spec_ScriptText.f k ops) r ∧ Ev (fun k => impl_ScriptText.f k ops) r := by
  obtain ⟨r, _, _, _, h1, h2⟩ := ScriptText_form ops hb
  exact ⟨r, h1, h2⟩

end Go.Proofs.YtlfmlagdnebkiaaDoor.QFnExactReadScript
