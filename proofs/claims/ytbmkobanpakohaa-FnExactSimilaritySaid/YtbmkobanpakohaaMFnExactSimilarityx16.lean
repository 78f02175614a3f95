/- Laid by a program of this session out of the kit's print for the law FnExactSimilarity: what it says of the machine is proved here, function by function; each contract under the conditions that it names. -/
import Derived.Test.YtbmkobanpakohaaMFnExactSimilarityx0
import Derived.Test.YtbmkobanpakohaaMFnExactSimilarityx1
import Derived.Test.YtbmkobanpakohaaMFnExactSimilarityx9
import Derived.Test.YtbmkobanpakohaaMFnExactSimilarityx10
import Derived.Test.YtbmkobanpakohaaMFnExactSimilarityx15
namespace Go.Proofs.Ytbmkobanpakohaa.PFnExactSimilarity
open Go.RowKit Go.Proofs.YtbmkobanpakohaaW.PrintWords Go.Proofs.YtbmkobanpakohaaW.PrintLast Go.Proofs.YtbmkobanpakohaaW.PrintMore
attribute [local go_sem] max2_int min2_int max_two min_two max_three min_three max_four min_four   -- for this text's walks alone
set_option linter.unusedVariables false
set_option linter.unusedSimpArgs false

/-! ### laws_eqNodeS: function 13 -/
def laws_eqNodeS.l0 : Nat → List (S61) → List (S61) → Int → Option (Bool)
 | 0, _, _, _ => none
 | k + 1, x0, x1, x5 => if x5 < (x0.length : Int) then (if 0 ≤ x5 then (if x5 < (x1.length : Int) then ((laws_eqNode.f ((rd_T61 x0 x5).f0) ((rd_T61 x0 x5).f1) ((rd_T61 x1 x5).f0) ((rd_T61 x1 x5).f1)).bind fun t521 => (if t521 = true then (laws_eqNodeS.l0 k x0 x1 (wrap64 (x5 + 1))) else (some false))) else (none)) else (none)) else (some true)
def laws_eqNodeS.f (k : Nat) (l0 : List (S61)) (l1 : List (S61)) : Option (Bool) := if (l0.length : Int) = (l1.length : Int) then (laws_eqNodeS.l0 k l0 l1 0) else (some false)
def laws_eqNodeS.T6 : Bool × List (List Nat × List Nat) := (true, [([], []), ([], []), ([0, 1], [0, 1]), ([2], [2]), ([], []), ([], []), ([4, 5], [4, 5]), ([6], [6]), ([3, 7], [3, 7]), ([8], [8])])
def laws_eqNodeS.B6 : List Nat := [0, 0, 3, 7, 0, 0, 48, 112, 255, 511]
theorem laws_eqNodeS.tab6 : rtab .any (opsOf Try.f13 6) = laws_eqNodeS.T6 := by kernel_rfl
theorem laws_eqNodeS.bits6 : waitsOk laws_eqNodeS.T6.2 laws_eqNodeS.B6 = true := by kernel_rfl
set_option maxHeartbeats 8000000 in
set_option maxRecDepth 100000 in
theorem laws_eqNodeS.calls (k : Nat) (A0 : Option Addr) (c0 : Nat) (l0 : List (S61)) (A1 : Option Addr) (c1 : Nat) (l1 : List (S61)) (r : Bool) (w : World) (hr0 : Kd.C k61 w A0 l0.length l0) (hc0 : l0.length ≤ c0) (hr1 : Kd.C k61 w A1 l1.length l1) (hc1 : l1.length ≤ c1) (h : laws_eqNodeS.f k l0 l1 = some r) :
  Calls Try.prog 13 #[.slice A0 l0.length c0, .slice A1 l1.length c1] w fun e w' => e = .returned (.bool r) ∧ Below w.heap.size w w' := by
 have hu61 := Try.underlying61
 have HR0 := Aside0.mk hr0
 have HC0 := Aside0.mk hc0
 clear hr0 hc0
 have HR1 := Aside0.mk hr1
 have HC1 := Aside0.mk hc1
 clear hr1 hc1
 have HB := Aside0.mk (Below.refl w.heap.size w)
 have H : (if (l0.length : Int) = (l1.length : Int) then (laws_eqNodeS.l0 k l0 l1 0) else (some false)) = some r := h
 clear h
 by_cases c3 : (l0.length : Int) = (l1.length : Int)
 ·rw [if_pos c3] at H
  have c3b0 : ((l0.length : Int) == (l1.length : Int)) = true := beq_iff_eq.mpr c3
  have c3b1 : ((l0.length : Int) != (l1.length : Int)) = false := bne_eq_false_iff_eq.mpr c3
  have c3b2 : (l0.length == l1.length) = true := by first | simpa using c3 | (simp at c3 ⊢; omega)
  clear c3
  have H' := Aside0.mk H
  clear H
  go_enter Try.func13, Try.ntmps13
  go_wp2
  go_loopg [5] k (fun kq v5 w' => ∃ (x5_1 : Int), v5 = .int .i64 x5_1 ∧ Aside0 (laws_eqNodeS.l0 kq l0 l1 x5_1 = some r) ∧ Aside0 (kq ≤ k) ∧ Aside0 (Below w.heap.size w w'))
  case atStart => exact ⟨(0), z7_, H', ⟨Nat.le_refl _⟩, ⟨z0_⟩⟩
  case round =>
   clear H'
   try clear c1
   try clear p2
   try clear c3
   try clear c3b0
   try clear c3b1
   try clear c3b2
   obtain ⟨x5_1, rfl, HA, HK1, HB⟩ := hrel
   cases gk with
   | zero => exact absurd HA.out (by simp [laws_eqNodeS.l0])
   | succ k1 =>
    have H := HA.out
    clear HA
    simp only [laws_eqNodeS.l0] at H
    by_cases c4 : x5_1 < (l0.length : Int)
    ·rw [if_pos c4] at H
     have c4b0 := decide_eq_true c4
     clear c4
     obtain ⟨c5b0, H⟩ := ifd_ H
     obtain ⟨c6b0, H⟩ := ifd_ H
     obtain ⟨t521, A7, H⟩ := bnd_ H
     by_cases c8 : t521 = true
     ·subst c8
      replace H := ift_ H
      have H' := Aside0.mk H
      clear H
      try go_wp2
      have n0_ := Aside0.mk (below_drew1 HB.out)
      clear HB
      have HB := n0_
      clear n0_
      obtain ⟨p519, q519, ad519, e519, hw519_0, hw519_1, hx519_0, hx519_1⟩ := atw61_ HR0 HB x5_1
      cases e519
      obtain ⟨p520, q520, ad520, e520, hw520_0, hw520_1, hx520_0, hx520_1⟩ := atw61_ HR1 HB x5_1
      cases e520
      refine start_ (n := 10) (S := fun w' => w'.cell? (ad519.add ((x5_1).toNat * 2)) = some (.int .i64 ((rd_T61 l0 x5_1).f0)) ∧ w'.cell? ⟨(ad519.add ((x5_1).toNat * 2)).block, (ad519.add ((x5_1).toNat * 2)).off + 1, none⟩ = some (.int .i64 ((rd_T61 l0 x5_1).f1)) ∧ w'.cell? (ad520.add ((x5_1).toNat * 2)) = some (.int .i64 ((rd_T61 l1 x5_1).f0)) ∧ w'.cell? ⟨(ad520.add ((x5_1).toNat * 2)).block, (ad520.add ((x5_1).toNat * 2)).off + 1, none⟩ = some (.int .i64 ((rd_T61 l1 x5_1).f1))) (ds := []) (fl_ 10 0) (by kernel_rfl) rfl (fl_zero _) ⟨((HB.out.cell (World.block_lt_of_cell? w _ hw519_0)).trans hw519_0), ((HB.out.cell (World.block_lt_of_cell? w _ hw519_1)).trans hw519_1), ((HB.out.cell (World.block_lt_of_cell? w _ hw520_0)).trans hw520_0), ((HB.out.cell (World.block_lt_of_cell? w _ hw520_1)).trans hw520_1)⟩ (fun hHeld => ?_); refine with_tabW laws_eqNodeS.tab6 laws_eqNodeS.bits6 (fun HT_ HW_ => ?_)
      generalize wr.drew = w9 at HB hx519_0 hx519_1 hx520_0 hx520_1 hHeld ⊢
      iterate 3 refine zp_ HT_ rfl rfl (by kernel_rfl) (fun _ _ _ h => h) (by rfl) ?_
      refine zpg_ (i := 4) (ra_ [3, 1, 1, 5]) HT_ rfl rfl (by kernel_rfl) (fun _ _ _ h => h) (by rfl) ?_
      refine zpg_ (i := 5) (ra_ [3, 1, 2, 4]) HT_ rfl rfl (by kernel_rfl) (fun _ _ _ h => h) (by rfl) ?_
      refine zpg_ (i := 6) (ra_ [3, 1, 3, 3]) HT_ rfl rfl (by kernel_rfl) (fun _ _ _ h => h) (by rfl) ?_
      refine ztg_ (i := 3) (fl_ 10 7) HT_ HW_ rfl rfl (by kernel_rfl) (fun _ _ _ h => h) (by rfl) hHeld ?_ z117_
      refine zt_ HT_ HW_ rfl rfl (by kernel_rfl) (fun _ _ _ h => h) (by rfl) hHeld ?_ z117_
      refine one_ (i := 8) (N := some 25) (fl_ 10 9) rfl rfl (one_of HT_.out (by kernel_rfl)) (by decide) (fun K hK => ?_)
      refine goes_ Try.func41 (by kernel_rfl) rfl #[.agg #[.int .i64 ((rd_T61 l0 x5_1).f0), .int .i64 ((rd_T61 l0 x5_1).f1)], .agg #[.int .i64 ((rd_T61 l1 x5_1).f0), .int .i64 ((rd_T61 l1 x5_1).f1)]] (by rfl) rfl rfl z1_ ?_
      with_reducible refine (laws_eqNode.calls ((rd_T61 l0 x5_1).f0) ((rd_T61 l0 x5_1).f1) ((rd_T61 l1 x5_1).f0) ((rd_T61 l1 x5_1).f1) true _ A7.out).mono ?_
      rintro e w10 ⟨rfl, hb⟩
      refine ⟨_, rfl, ?_⟩
      have n0_ := Aside0.mk (below_step z0_ hb)
      clear HB
      have HB := n0_
      clear n0_
      (try clear hb)
      (try clear hb2)
      (try clear hk)
      (try clear hi)
      refine hK.out _ _ ⟨((HB.out.cell (World.block_lt_of_cell? w _ hw519_0)).trans hw519_0), ((HB.out.cell (World.block_lt_of_cell? w _ hw519_1)).trans hw519_1), ((HB.out.cell (World.block_lt_of_cell? w _ hw520_0)).trans hw520_0), ((HB.out.cell (World.block_lt_of_cell? w _ hw520_1)).trans hw520_1)⟩ (fun hHeld => ?_)
      clear hK K
      refine zn_ rfl ?_
      refine zp_ HT_ rfl rfl (by kernel_rfl) (fun _ _ _ h => h) (by rfl) ?_
      refine done_ (done_of HT_.out (by kernel_rfl)) ?_
      try go_wp2
      go_roundg k1
      case measure => have := HK1.out; omega
      case rel => exact ⟨(wrap64 (x5_1 + 1)), z7_, H', ⟨z180_⟩, ⟨z0_⟩⟩
     ·replace c8 := Bool.eq_false_iff.mpr c8
      subst c8
      replace H := iff_ H
      obtain rfl := Option.some.inj H
      try go_wp2
      have n0_ := Aside0.mk (below_drew1 HB.out)
      clear HB
      have HB := n0_
      clear n0_
      obtain ⟨p519, q519, ad519, e519, hw519_0, hw519_1, hx519_0, hx519_1⟩ := atw61_ HR0 HB x5_1
      cases e519
      obtain ⟨p520, q520, ad520, e520, hw520_0, hw520_1, hx520_0, hx520_1⟩ := atw61_ HR1 HB x5_1
      cases e520
      refine start_ (n := 10) (S := fun w' => w'.cell? (ad519.add ((x5_1).toNat * 2)) = some (.int .i64 ((rd_T61 l0 x5_1).f0)) ∧ w'.cell? ⟨(ad519.add ((x5_1).toNat * 2)).block, (ad519.add ((x5_1).toNat * 2)).off + 1, none⟩ = some (.int .i64 ((rd_T61 l0 x5_1).f1)) ∧ w'.cell? (ad520.add ((x5_1).toNat * 2)) = some (.int .i64 ((rd_T61 l1 x5_1).f0)) ∧ w'.cell? ⟨(ad520.add ((x5_1).toNat * 2)).block, (ad520.add ((x5_1).toNat * 2)).off + 1, none⟩ = some (.int .i64 ((rd_T61 l1 x5_1).f1))) (ds := []) (fl_ 10 0) (by kernel_rfl) rfl (fl_zero _) ⟨((HB.out.cell (World.block_lt_of_cell? w _ hw519_0)).trans hw519_0), ((HB.out.cell (World.block_lt_of_cell? w _ hw519_1)).trans hw519_1), ((HB.out.cell (World.block_lt_of_cell? w _ hw520_0)).trans hw520_0), ((HB.out.cell (World.block_lt_of_cell? w _ hw520_1)).trans hw520_1)⟩ (fun hHeld => ?_); refine with_tabW laws_eqNodeS.tab6 laws_eqNodeS.bits6 (fun HT_ HW_ => ?_)
      generalize wr.drew = w11 at HB hx519_0 hx519_1 hx520_0 hx520_1 hHeld ⊢
      iterate 3 refine zp_ HT_ rfl rfl (by kernel_rfl) (fun _ _ _ h => h) (by rfl) ?_
      refine zpg_ (i := 4) (ra_ [3, 1, 1, 5]) HT_ rfl rfl (by kernel_rfl) (fun _ _ _ h => h) (by rfl) ?_
      refine zpg_ (i := 5) (ra_ [3, 1, 2, 4]) HT_ rfl rfl (by kernel_rfl) (fun _ _ _ h => h) (by rfl) ?_
      refine zpg_ (i := 6) (ra_ [3, 1, 3, 3]) HT_ rfl rfl (by kernel_rfl) (fun _ _ _ h => h) (by rfl) ?_
      refine ztg_ (i := 3) (fl_ 10 7) HT_ HW_ rfl rfl (by kernel_rfl) (fun _ _ _ h => h) (by rfl) hHeld ?_ z117_
      refine zt_ HT_ HW_ rfl rfl (by kernel_rfl) (fun _ _ _ h => h) (by rfl) hHeld ?_ z117_
      refine one_ (i := 8) (N := some 25) (fl_ 10 9) rfl rfl (one_of HT_.out (by kernel_rfl)) (by decide) (fun K hK => ?_)
      refine goes_ Try.func41 (by kernel_rfl) rfl #[.agg #[.int .i64 ((rd_T61 l0 x5_1).f0), .int .i64 ((rd_T61 l0 x5_1).f1)], .agg #[.int .i64 ((rd_T61 l1 x5_1).f0), .int .i64 ((rd_T61 l1 x5_1).f1)]] (by rfl) rfl rfl z1_ ?_
      with_reducible refine (laws_eqNode.calls ((rd_T61 l0 x5_1).f0) ((rd_T61 l0 x5_1).f1) ((rd_T61 l1 x5_1).f0) ((rd_T61 l1 x5_1).f1) false _ A7.out).mono ?_
      rintro e w12 ⟨rfl, hb⟩
      refine ⟨_, rfl, ?_⟩
      have n0_ := Aside0.mk (below_step z0_ hb)
      clear HB
      have HB := n0_
      clear n0_
      (try clear hb)
      (try clear hb2)
      (try clear hk)
      (try clear hi)
      refine hK.out _ _ ⟨((HB.out.cell (World.block_lt_of_cell? w _ hw519_0)).trans hw519_0), ((HB.out.cell (World.block_lt_of_cell? w _ hw519_1)).trans hw519_1), ((HB.out.cell (World.block_lt_of_cell? w _ hw520_0)).trans hw520_0), ((HB.out.cell (World.block_lt_of_cell? w _ hw520_1)).trans hw520_1)⟩ (fun hHeld => ?_)
      clear hK K
      refine zn_ rfl ?_
      refine zp_ HT_ rfl rfl (by kernel_rfl) (fun _ _ _ h => h) (by rfl) ?_
      refine done_ (done_of HT_.out (by kernel_rfl)) ?_
      try go_wp2
      go_ret
      exact ⟨z5_, z0_⟩
    ·rw [if_neg c4] at H
     have c4b0 := decide_eq_false c4
     clear c4
     obtain rfl := Option.some.inj H
     go_wp2
     go_ret
     exact ⟨z5_, z0_⟩
 ·rw [if_neg c3] at H
  have c3b0 : ((l0.length : Int) == (l1.length : Int)) = false := beq_eq_false_iff_ne.mpr c3
  have c3b1 : ((l0.length : Int) != (l1.length : Int)) = true := bne_iff_ne.mpr c3
  have c3b2 : (l0.length == l1.length) = false := by first | simpa using c3 | (simp at c3 ⊢; omega)
  obtain rfl := Option.some.inj H
  go_enter Try.func13, Try.ntmps13
  go_wp2
  go_ret
  exact ⟨z5_, z0_⟩

/-! ### laws_FnExactSimilarity: function 3 -/
def laws_FnExactSimilarity.f (k : Nat) (l0 : List (S63)) (l1 : List (S63)) : Option (Bool) := (laws_szNodeS.f l0 1048576).bind fun t522 => (if t522 < 0 then (some true) else ((laws_szNodeS.f l1 t522).bind fun t523 => (if t523 < 0 then (some true) else ((laws_toNodeS.f k l0).bind fun t524 => ((laws_toNodeS.f k l1).bind fun t527 => ((spec_Similarity.f k t524 t527).bind fun t530 => ((laws_toNodeS.f k l0).bind fun t531 => ((laws_toNodeS.f k l1).bind fun t534 => ((impl_Similarity.f k t531 t534).bind fun t537 => (if t537 = t530 then ((laws_toNodeS.f k l0).bind fun t538 => ((laws_eqNodeS.f k t531 t538).bind fun t541 => (if t541 = true then ((laws_toNodeS.f k l1).bind fun t542 => ((laws_eqNodeS.f k t534 t542).bind fun t545 => (if t545 = true then (some true) else (some false)))) else (some false)))) else (some false)))))))))))
set_option maxHeartbeats 8000000 in
set_option maxRecDepth 100000 in
theorem laws_FnExactSimilarity.calls (k : Nat) (A0 : Option Addr) (c0 : Nat) (l0 : List (S63)) (A1 : Option Addr) (c1 : Nat) (l1 : List (S63)) (r : Bool) (w : World) (hr0 : Kd.C k63 w A0 l0.length l0) (hc0 : l0.length ≤ c0) (hr1 : Kd.C k63 w A1 l1.length l1) (hc1 : l1.length ≤ c1) (h : laws_FnExactSimilarity.f k l0 l1 = some r) :
  Calls Try.prog 3 #[.slice A0 l0.length c0, .slice A1 l1.length c1] w fun e w' => e = .returned (.bool r) ∧ Below w.heap.size w w' := by
 have HR0 := Aside0.mk hr0
 have HC0 := Aside0.mk hc0
 clear hr0 hc0
 have HR1 := Aside0.mk hr1
 have HC1 := Aside0.mk hc1
 clear hr1 hc1
 have HB := Aside0.mk (Below.refl w.heap.size w)
 have H : ((laws_szNodeS.f l0 1048576).bind fun t522 => (if t522 < 0 then (some true) else ((laws_szNodeS.f l1 t522).bind fun t523 => (if t523 < 0 then (some true) else ((laws_toNodeS.f k l0).bind fun t524 => ((laws_toNodeS.f k l1).bind fun t527 => ((spec_Similarity.f k t524 t527).bind fun t530 => ((laws_toNodeS.f k l0).bind fun t531 => ((laws_toNodeS.f k l1).bind fun t534 => ((impl_Similarity.f k t531 t534).bind fun t537 => (if t537 = t530 then ((laws_toNodeS.f k l0).bind fun t538 => ((laws_eqNodeS.f k t531 t538).bind fun t541 => (if t541 = true then ((laws_toNodeS.f k l1).bind fun t542 => ((laws_eqNodeS.f k t534 t542).bind fun t545 => (if t545 = true then (some true) else (some false)))) else (some false)))) else (some false)))))))))))) = some r := h
 clear h
 obtain ⟨t522, A3, H⟩ := bnd_ H
 by_cases c4 : t522 < 0
 ·rw [if_pos c4] at H
  have c4b0 := decide_eq_true c4
  clear c4
  obtain rfl := Option.some.inj H
  go_enter Try.func3, Try.ntmps3
  go_wp2_with (first | ((with_reducible refine gate_callee (f := 9) rfl ?_); refine goesL_ (some 12) rfl rfl Try.func9 (by kernel_rfl) rfl #[.slice A0 l0.length c0, .int .i64 1048576] rfl z1_ ?_; (with_reducible refine (laws_szNodeS.calls _ _ l0 1048576 t522 _ ?side1 ?side2 A3.out).mono ?_); (case side1 => exact z17_); (case side2 => exact HC0.out); rintro e w' ⟨rfl, ⟨nd, rfl⟩⟩; refine ⟨_, rfl, ?_⟩))
  go_ret
  exact ⟨z5_, z0_⟩
 ·rw [if_neg c4] at H
  have c4b0 := decide_eq_false c4
  clear c4
  obtain ⟨t523, A5, H⟩ := bnd_ H
  by_cases c6 : t523 < 0
  ·rw [if_pos c6] at H
   have c6b0 := decide_eq_true c6
   clear c6
   obtain rfl := Option.some.inj H
   go_enter Try.func3, Try.ntmps3
   go_wp2_with (first | ((with_reducible refine gate_callee (f := 9) rfl ?_); refine goesL_ (some 12) rfl rfl Try.func9 (by kernel_rfl) rfl #[.slice A0 l0.length c0, .int .i64 1048576] rfl z1_ ?_; (with_reducible refine (laws_szNodeS.calls _ _ l0 1048576 t522 _ ?side1 ?side2 A3.out).mono ?_); (case side1 => exact z17_); (case side2 => exact HC0.out); rintro e w' ⟨rfl, ⟨nd, rfl⟩⟩; refine ⟨_, rfl, ?_⟩) | ((with_reducible refine gate_callee (f := 9) rfl ?_); refine goesL_ (some 17) rfl rfl Try.func9 (by kernel_rfl) rfl #[.slice A1 l1.length c1, .int .i64 t522] rfl z1_ ?_; (with_reducible refine (laws_szNodeS.calls _ _ l1 t522 t523 _ ?side1 ?side2 A5.out).mono ?_); (case side1 => exact z96_); (case side2 => exact HC1.out); rintro e w' ⟨rfl, ⟨nd, rfl⟩⟩; refine ⟨_, rfl, ?_⟩))
   go_ret
   exact ⟨z5_, z0_⟩
  ·rw [if_neg c6] at H
   have c6b0 := decide_eq_false c6
   clear c6
   obtain ⟨t524, A7, H⟩ := bnd_ H
   obtain ⟨t527, A8, H⟩ := bnd_ H
   obtain ⟨t530, A9, H⟩ := bnd_ H
   obtain ⟨t531, A10, H⟩ := bnd_ H
   obtain ⟨t534, A11, H⟩ := bnd_ H
   obtain ⟨t537, A12, H⟩ := bnd_ H
   by_cases c13 : t537 = t530
   ·rw [if_pos c13] at H
    have c13b0 : (t537 == t530) = true := beq_iff_eq.mpr c13
    have c13b1 : (t537 != t530) = false := bne_eq_false_iff_eq.mpr c13
    clear c13
    obtain ⟨t538, A14, H⟩ := bnd_ H
    obtain ⟨t541, A15, H⟩ := bnd_ H
    by_cases c16 : t541 = true
    ·subst c16
     replace H := ift_ H
     obtain ⟨t542, A17, H⟩ := bnd_ H
     obtain ⟨t545, A18, H⟩ := bnd_ H
     by_cases c19 : t545 = true
     ·subst c19
      replace H := ift_ H
      obtain rfl := Option.some.inj H
      go_enter Try.func3, Try.ntmps3
      go_wp2_with (first | ((with_reducible refine gate_callee (f := 9) rfl ?_); refine goesL_ (some 12) rfl rfl Try.func9 (by kernel_rfl) rfl #[.slice A0 l0.length c0, .int .i64 1048576] rfl z1_ ?_; (with_reducible refine (laws_szNodeS.calls _ _ l0 1048576 t522 _ ?side1 ?side2 A3.out).mono ?_); (case side1 => exact z17_); (case side2 => exact HC0.out); rintro e w' ⟨rfl, ⟨nd, rfl⟩⟩; refine ⟨_, rfl, ?_⟩) | ((with_reducible refine gate_callee (f := 9) rfl ?_); refine goesL_ (some 17) rfl rfl Try.func9 (by kernel_rfl) rfl #[.slice A1 l1.length c1, .int .i64 t522] rfl z1_ ?_; (with_reducible refine (laws_szNodeS.calls _ _ l1 t522 t523 _ ?side1 ?side2 A5.out).mono ?_); (case side1 => exact z96_); (case side2 => exact HC1.out); rintro e w' ⟨rfl, ⟨nd, rfl⟩⟩; refine ⟨_, rfl, ?_⟩) | ((with_reducible refine gate_callee (f := 11) rfl ?_); refine goesL_ (some 21) rfl rfl Try.func11 (by kernel_rfl) rfl #[.slice A0 l0.length c0] rfl z1_ ?_; (with_reducible refine (laws_toNodeS.calls k _ _ l0 t524 _ ?side1 ?side2 A7.out).mono ?_); (case side1 => exact z17_); (case side2 => exact HC0.out); rintro e w20 ⟨v525, rfl, ho0, hb⟩; refine ⟨_, rfl, ?_⟩; have HO526 := Aside0.mk (Kd.R_lower ho0 (below_size z0_)); replace HB := Aside0.mk (below_step z0_ hb); (try clear hb ho0)) | ((with_reducible refine gate_callee (f := 11) rfl ?_); refine goesL_ (some 23) rfl rfl Try.func11 (by kernel_rfl) rfl #[.slice A1 l1.length c1] rfl z1_ ?_; (with_reducible refine (laws_toNodeS.calls k _ _ l1 t527 _ ?side1 ?side2 A8.out).mono ?_); (case side1 => exact z8_); (case side2 => exact HC1.out); rintro e w21 ⟨v528, rfl, ho0, hb⟩; refine ⟨_, rfl, ?_⟩; have HO529 := Aside0.mk (Kd.R_lower (Kd.R_new' ho0 (Kd.R_lt z11_)) (below_size z0_)); replace HO526 := Aside0.mk (Kd.R_elder' z11_ (Kd.R_base ho0) hb); replace HB := Aside0.mk (below_step z0_ hb); (try clear hb ho0); obtain ⟨Ao22, co22, eo22⟩ := Kd.R_slice HO526.out; subst eo22; obtain ⟨Ao23, co23, eo23⟩ := Kd.R_slice HO529.out; subst eo23) | ((with_reducible refine gate_callee (f := 10) rfl ?_); refine goesL_ (some 24) rfl rfl Try.func10 (by kernel_rfl) rfl #[.slice Ao22 t524.length co22, .slice Ao23 t527.length co23] rfl z1_ ?_; (with_reducible refine (spec_Similarity.calls k _ _ t524 _ _ t527 t530 _ ?side1 ?side2 ?side3 ?side4 A9.out).mono ?_); (case side1 => exact z111_); (case side2 => exact z264_); (case side3 => exact z112_); (case side4 => exact z265_); rintro e w24 ⟨rfl, hb⟩; refine ⟨_, rfl, ?_⟩; replace HO526 := Aside0.mk (Kd.R_below z11_ hb); replace HO529 := Aside0.mk (Kd.R_below z15_ hb); replace HB := Aside0.mk (below_step z0_ hb); (try clear hb)) | ((with_reducible refine gate_callee (f := 11) rfl ?_); refine goesL_ (some 26) rfl rfl Try.func11 (by kernel_rfl) rfl #[.slice A0 l0.length c0] rfl z1_ ?_; (with_reducible refine (laws_toNodeS.calls k _ _ l0 t531 _ ?side1 ?side2 A10.out).mono ?_); (case side1 => exact z3_); (case side2 => exact HC0.out); rintro e w25 ⟨v532, rfl, ho0, hb⟩; refine ⟨_, rfl, ?_⟩; have HO533 := Aside0.mk (Kd.R_lower (Kd.R_new' (Kd.R_new' ho0 (Kd.R_lt z11_)) (Kd.R_lt z15_)) (below_size z0_)); replace HO526 := Aside0.mk (Kd.R_elder' z11_ (Kd.R_base ho0) hb); replace HO529 := Aside0.mk (Kd.R_elder' z15_ (Kd.R_base ho0) hb); replace HB := Aside0.mk (below_step z0_ hb); (try clear hb ho0)) | ((with_reducible refine gate_callee (f := 11) rfl ?_); refine goesL_ (some 28) rfl rfl Try.func11 (by kernel_rfl) rfl #[.slice A1 l1.length c1] rfl z1_ ?_; (with_reducible refine (laws_toNodeS.calls k _ _ l1 t534 _ ?side1 ?side2 A11.out).mono ?_); (case side1 => exact z8_); (case side2 => exact HC1.out); rintro e w26 ⟨v535, rfl, ho0, hb⟩; refine ⟨_, rfl, ?_⟩; have HO536 := Aside0.mk (Kd.R_lower (Kd.R_new' (Kd.R_new' (Kd.R_new' ho0 (Kd.R_lt z11_)) (Kd.R_lt z15_)) (Kd.R_lt z24_)) (below_size z0_)); replace HO526 := Aside0.mk (Kd.R_elder' z11_ (Kd.R_base ho0) hb); replace HO529 := Aside0.mk (Kd.R_elder' z15_ (Kd.R_base ho0) hb); replace HO533 := Aside0.mk (Kd.R_elder' z24_ (Kd.R_base ho0) hb); replace HB := Aside0.mk (below_step z0_ hb); (try clear hb ho0); obtain ⟨Ao27, co27, eo27⟩ := Kd.R_slice HO533.out; subst eo27; obtain ⟨Ao28, co28, eo28⟩ := Kd.R_slice HO536.out; subst eo28) | ((with_reducible refine gate_callee (f := 12) rfl ?_); refine goesL_ (some 31) rfl rfl Try.func12 (by kernel_rfl) rfl #[.slice Ao27 t531.length co27, .slice Ao28 t534.length co28] rfl z1_ ?_; (with_reducible refine (impl_Similarity.calls k _ _ t531 _ _ t534 t537 _ ?side1 ?side2 ?side3 ?side4 A12.out).mono ?_); (case side1 => exact z76_); (case side2 => exact z242_); (case side3 => exact z80_); (case side4 => exact z260_); rintro e w29 ⟨rfl, hb⟩; refine ⟨_, rfl, ?_⟩; replace HO526 := Aside0.mk (Kd.R_below z11_ hb); replace HO529 := Aside0.mk (Kd.R_below z15_ hb); replace HO533 := Aside0.mk (Kd.R_below z24_ hb); replace HO536 := Aside0.mk (Kd.R_below z40_ hb); replace HB := Aside0.mk (below_step z0_ hb); (try clear hb)) | ((with_reducible refine gate_callee (f := 11) rfl ?_); refine goesL_ (some 37) rfl rfl Try.func11 (by kernel_rfl) rfl #[.slice A0 l0.length c0] rfl z1_ ?_; (with_reducible refine (laws_toNodeS.calls k _ _ l0 t538 _ ?side1 ?side2 A14.out).mono ?_); (case side1 => exact z3_); (case side2 => exact HC0.out); rintro e w30 ⟨v539, rfl, ho0, hb⟩; refine ⟨_, rfl, ?_⟩; have HO540 := Aside0.mk (Kd.R_lower (Kd.R_new' (Kd.R_new' (Kd.R_new' (Kd.R_new' ho0 (Kd.R_lt z11_)) (Kd.R_lt z15_)) (Kd.R_lt z24_)) (Kd.R_lt z40_)) (below_size z0_)); replace HO526 := Aside0.mk (Kd.R_elder' z11_ (Kd.R_base ho0) hb); replace HO529 := Aside0.mk (Kd.R_elder' z15_ (Kd.R_base ho0) hb); replace HO533 := Aside0.mk (Kd.R_elder' z24_ (Kd.R_base ho0) hb); replace HO536 := Aside0.mk (Kd.R_elder' z40_ (Kd.R_base ho0) hb); replace HB := Aside0.mk (below_step z0_ hb); (try clear hb ho0); obtain ⟨Ao31, co31, eo31⟩ := Kd.R_slice HO540.out; subst eo31) | ((with_reducible refine gate_callee (f := 13) rfl ?_); refine goesL_ (some 38) rfl rfl Try.func13 (by kernel_rfl) rfl #[.slice Ao27 t531.length co27, .slice Ao31 t538.length co31] rfl z1_ ?_; (with_reducible refine (laws_eqNodeS.calls k _ _ t531 _ _ t538 true _ ?side1 ?side2 ?side3 ?side4 A15.out).mono ?_); (case side1 => exact z76_); (case side2 => exact z242_); (case side3 => exact z147_); (case side4 => exact (Kd.R_reads' HO540.out).2.1); rintro e w32 ⟨rfl, hb⟩; refine ⟨_, rfl, ?_⟩; replace HO526 := Aside0.mk (Kd.R_below z11_ hb); replace HO529 := Aside0.mk (Kd.R_below z15_ hb); replace HO533 := Aside0.mk (Kd.R_below z24_ hb); replace HO536 := Aside0.mk (Kd.R_below z40_ hb); replace HO540 := Aside0.mk (Kd.R_below z85_ hb); replace HB := Aside0.mk (below_step z0_ hb); (try clear hb)) | ((with_reducible refine gate_callee (f := 11) rfl ?_); refine goesL_ (some 42) rfl rfl Try.func11 (by kernel_rfl) rfl #[.slice A1 l1.length c1] rfl z1_ ?_; (with_reducible refine (laws_toNodeS.calls k _ _ l1 t542 _ ?side1 ?side2 A17.out).mono ?_); (case side1 => exact z8_); (case side2 => exact HC1.out); rintro e w33 ⟨v543, rfl, ho0, hb⟩; refine ⟨_, rfl, ?_⟩; have HO544 := Aside0.mk (Kd.R_lower (Kd.R_new' (Kd.R_new' (Kd.R_new' (Kd.R_new' (Kd.R_new' ho0 (Kd.R_lt z11_)) (Kd.R_lt z15_)) (Kd.R_lt z24_)) (Kd.R_lt z40_)) (Kd.R_lt z85_)) (below_size z0_)); replace HO526 := Aside0.mk (Kd.R_elder' z11_ (Kd.R_base ho0) hb); replace HO529 := Aside0.mk (Kd.R_elder' z15_ (Kd.R_base ho0) hb); replace HO533 := Aside0.mk (Kd.R_elder' z24_ (Kd.R_base ho0) hb); replace HO536 := Aside0.mk (Kd.R_elder' z40_ (Kd.R_base ho0) hb); replace HO540 := Aside0.mk (Kd.R_elder' z85_ (Kd.R_base ho0) hb); replace HB := Aside0.mk (below_step z0_ hb); (try clear hb ho0); obtain ⟨Ao34, co34, eo34⟩ := Kd.R_slice HO544.out; subst eo34) | ((with_reducible refine gate_callee (f := 13) rfl ?_); refine goesL_ (some 43) rfl rfl Try.func13 (by kernel_rfl) rfl #[.slice Ao28 t534.length co28, .slice Ao34 t542.length co34] rfl z1_ ?_; (with_reducible refine (laws_eqNodeS.calls k _ _ t534 _ _ t542 true _ ?side1 ?side2 ?side3 ?side4 A18.out).mono ?_); (case side1 => exact z80_); (case side2 => exact z260_); (case side3 => exact z199_); (case side4 => exact (Kd.R_reads' HO544.out).2.1); rintro e w35 ⟨rfl, hb⟩; refine ⟨_, rfl, ?_⟩; replace HO526 := Aside0.mk (Kd.R_below z11_ hb); replace HO529 := Aside0.mk (Kd.R_below z15_ hb); replace HO533 := Aside0.mk (Kd.R_below z24_ hb); replace HO536 := Aside0.mk (Kd.R_below z40_ hb); replace HO540 := Aside0.mk (Kd.R_below z85_ hb); replace HO544 := Aside0.mk (Kd.R_below z257_ hb); replace HB := Aside0.mk (below_step z0_ hb); (try clear hb)))
      go_ret
      exact ⟨z5_, z0_⟩
     ·replace c19 := Bool.eq_false_iff.mpr c19
      subst c19
      replace H := iff_ H
      obtain rfl := Option.some.inj H
      go_enter Try.func3, Try.ntmps3
      go_wp2_with (first | ((with_reducible refine gate_callee (f := 9) rfl ?_); refine goesL_ (some 12) rfl rfl Try.func9 (by kernel_rfl) rfl #[.slice A0 l0.length c0, .int .i64 1048576] rfl z1_ ?_; (with_reducible refine (laws_szNodeS.calls _ _ l0 1048576 t522 _ ?side1 ?side2 A3.out).mono ?_); (case side1 => exact z17_); (case side2 => exact HC0.out); rintro e w' ⟨rfl, ⟨nd, rfl⟩⟩; refine ⟨_, rfl, ?_⟩) | ((with_reducible refine gate_callee (f := 9) rfl ?_); refine goesL_ (some 17) rfl rfl Try.func9 (by kernel_rfl) rfl #[.slice A1 l1.length c1, .int .i64 t522] rfl z1_ ?_; (with_reducible refine (laws_szNodeS.calls _ _ l1 t522 t523 _ ?side1 ?side2 A5.out).mono ?_); (case side1 => exact z96_); (case side2 => exact HC1.out); rintro e w' ⟨rfl, ⟨nd, rfl⟩⟩; refine ⟨_, rfl, ?_⟩) | ((with_reducible refine gate_callee (f := 11) rfl ?_); refine goesL_ (some 21) rfl rfl Try.func11 (by kernel_rfl) rfl #[.slice A0 l0.length c0] rfl z1_ ?_; (with_reducible refine (laws_toNodeS.calls k _ _ l0 t524 _ ?side1 ?side2 A7.out).mono ?_); (case side1 => exact z17_); (case side2 => exact HC0.out); rintro e w36 ⟨v525, rfl, ho0, hb⟩; refine ⟨_, rfl, ?_⟩; have HO526 := Aside0.mk (Kd.R_lower ho0 (below_size z0_)); replace HB := Aside0.mk (below_step z0_ hb); (try clear hb ho0)) | ((with_reducible refine gate_callee (f := 11) rfl ?_); refine goesL_ (some 23) rfl rfl Try.func11 (by kernel_rfl) rfl #[.slice A1 l1.length c1] rfl z1_ ?_; (with_reducible refine (laws_toNodeS.calls k _ _ l1 t527 _ ?side1 ?side2 A8.out).mono ?_); (case side1 => exact z8_); (case side2 => exact HC1.out); rintro e w37 ⟨v528, rfl, ho0, hb⟩; refine ⟨_, rfl, ?_⟩; have HO529 := Aside0.mk (Kd.R_lower (Kd.R_new' ho0 (Kd.R_lt z11_)) (below_size z0_)); replace HO526 := Aside0.mk (Kd.R_elder' z11_ (Kd.R_base ho0) hb); replace HB := Aside0.mk (below_step z0_ hb); (try clear hb ho0); obtain ⟨Ao38, co38, eo38⟩ := Kd.R_slice HO526.out; subst eo38; obtain ⟨Ao39, co39, eo39⟩ := Kd.R_slice HO529.out; subst eo39) | ((with_reducible refine gate_callee (f := 10) rfl ?_); refine goesL_ (some 24) rfl rfl Try.func10 (by kernel_rfl) rfl #[.slice Ao38 t524.length co38, .slice Ao39 t527.length co39] rfl z1_ ?_; (with_reducible refine (spec_Similarity.calls k _ _ t524 _ _ t527 t530 _ ?side1 ?side2 ?side3 ?side4 A9.out).mono ?_); (case side1 => exact z111_); (case side2 => exact z264_); (case side3 => exact z112_); (case side4 => exact z265_); rintro e w40 ⟨rfl, hb⟩; refine ⟨_, rfl, ?_⟩; replace HO526 := Aside0.mk (Kd.R_below z11_ hb); replace HO529 := Aside0.mk (Kd.R_below z15_ hb); replace HB := Aside0.mk (below_step z0_ hb); (try clear hb)) | ((with_reducible refine gate_callee (f := 11) rfl ?_); refine goesL_ (some 26) rfl rfl Try.func11 (by kernel_rfl) rfl #[.slice A0 l0.length c0] rfl z1_ ?_; (with_reducible refine (laws_toNodeS.calls k _ _ l0 t531 _ ?side1 ?side2 A10.out).mono ?_); (case side1 => exact z3_); (case side2 => exact HC0.out); rintro e w41 ⟨v532, rfl, ho0, hb⟩; refine ⟨_, rfl, ?_⟩; have HO533 := Aside0.mk (Kd.R_lower (Kd.R_new' (Kd.R_new' ho0 (Kd.R_lt z11_)) (Kd.R_lt z15_)) (below_size z0_)); replace HO526 := Aside0.mk (Kd.R_elder' z11_ (Kd.R_base ho0) hb); replace HO529 := Aside0.mk (Kd.R_elder' z15_ (Kd.R_base ho0) hb); replace HB := Aside0.mk (below_step z0_ hb); (try clear hb ho0)) | ((with_reducible refine gate_callee (f := 11) rfl ?_); refine goesL_ (some 28) rfl rfl Try.func11 (by kernel_rfl) rfl #[.slice A1 l1.length c1] rfl z1_ ?_; (with_reducible refine (laws_toNodeS.calls k _ _ l1 t534 _ ?side1 ?side2 A11.out).mono ?_); (case side1 => exact z8_); (case side2 => exact HC1.out); rintro e w42 ⟨v535, rfl, ho0, hb⟩; refine ⟨_, rfl, ?_⟩; have HO536 := Aside0.mk (Kd.R_lower (Kd.R_new' (Kd.R_new' (Kd.R_new' ho0 (Kd.R_lt z11_)) (Kd.R_lt z15_)) (Kd.R_lt z24_)) (below_size z0_)); replace HO526 := Aside0.mk (Kd.R_elder' z11_ (Kd.R_base ho0) hb); replace HO529 := Aside0.mk (Kd.R_elder' z15_ (Kd.R_base ho0) hb); replace HO533 := Aside0.mk (Kd.R_elder' z24_ (Kd.R_base ho0) hb); replace HB := Aside0.mk (below_step z0_ hb); (try clear hb ho0); obtain ⟨Ao43, co43, eo43⟩ := Kd.R_slice HO533.out; subst eo43; obtain ⟨Ao44, co44, eo44⟩ := Kd.R_slice HO536.out; subst eo44) | ((with_reducible refine gate_callee (f := 12) rfl ?_); refine goesL_ (some 31) rfl rfl Try.func12 (by kernel_rfl) rfl #[.slice Ao43 t531.length co43, .slice Ao44 t534.length co44] rfl z1_ ?_; (with_reducible refine (impl_Similarity.calls k _ _ t531 _ _ t534 t537 _ ?side1 ?side2 ?side3 ?side4 A12.out).mono ?_); (case side1 => exact z76_); (case side2 => exact z242_); (case side3 => exact z80_); (case side4 => exact z260_); rintro e w45 ⟨rfl, hb⟩; refine ⟨_, rfl, ?_⟩; replace HO526 := Aside0.mk (Kd.R_below z11_ hb); replace HO529 := Aside0.mk (Kd.R_below z15_ hb); replace HO533 := Aside0.mk (Kd.R_below z24_ hb); replace HO536 := Aside0.mk (Kd.R_below z40_ hb); replace HB := Aside0.mk (below_step z0_ hb); (try clear hb)) | ((with_reducible refine gate_callee (f := 11) rfl ?_); refine goesL_ (some 37) rfl rfl Try.func11 (by kernel_rfl) rfl #[.slice A0 l0.length c0] rfl z1_ ?_; (with_reducible refine (laws_toNodeS.calls k _ _ l0 t538 _ ?side1 ?side2 A14.out).mono ?_); (case side1 => exact z3_); (case side2 => exact HC0.out); rintro e w46 ⟨v539, rfl, ho0, hb⟩; refine ⟨_, rfl, ?_⟩; have HO540 := Aside0.mk (Kd.R_lower (Kd.R_new' (Kd.R_new' (Kd.R_new' (Kd.R_new' ho0 (Kd.R_lt z11_)) (Kd.R_lt z15_)) (Kd.R_lt z24_)) (Kd.R_lt z40_)) (below_size z0_)); replace HO526 := Aside0.mk (Kd.R_elder' z11_ (Kd.R_base ho0) hb); replace HO529 := Aside0.mk (Kd.R_elder' z15_ (Kd.R_base ho0) hb); replace HO533 := Aside0.mk (Kd.R_elder' z24_ (Kd.R_base ho0) hb); replace HO536 := Aside0.mk (Kd.R_elder' z40_ (Kd.R_base ho0) hb); replace HB := Aside0.mk (below_step z0_ hb); (try clear hb ho0); obtain ⟨Ao47, co47, eo47⟩ := Kd.R_slice HO540.out; subst eo47) | ((with_reducible refine gate_callee (f := 13) rfl ?_); refine goesL_ (some 38) rfl rfl Try.func13 (by kernel_rfl) rfl #[.slice Ao43 t531.length co43, .slice Ao47 t538.length co47] rfl z1_ ?_; (with_reducible refine (laws_eqNodeS.calls k _ _ t531 _ _ t538 true _ ?side1 ?side2 ?side3 ?side4 A15.out).mono ?_); (case side1 => exact z76_); (case side2 => exact z242_); (case side3 => exact z147_); (case side4 => exact (Kd.R_reads' HO540.out).2.1); rintro e w48 ⟨rfl, hb⟩; refine ⟨_, rfl, ?_⟩; replace HO526 := Aside0.mk (Kd.R_below z11_ hb); replace HO529 := Aside0.mk (Kd.R_below z15_ hb); replace HO533 := Aside0.mk (Kd.R_below z24_ hb); replace HO536 := Aside0.mk (Kd.R_below z40_ hb); replace HO540 := Aside0.mk (Kd.R_below z85_ hb); replace HB := Aside0.mk (below_step z0_ hb); (try clear hb)) | ((with_reducible refine gate_callee (f := 11) rfl ?_); refine goesL_ (some 42) rfl rfl Try.func11 (by kernel_rfl) rfl #[.slice A1 l1.length c1] rfl z1_ ?_; (with_reducible refine (laws_toNodeS.calls k _ _ l1 t542 _ ?side1 ?side2 A17.out).mono ?_); (case side1 => exact z8_); (case side2 => exact HC1.out); rintro e w49 ⟨v543, rfl, ho0, hb⟩; refine ⟨_, rfl, ?_⟩; have HO544 := Aside0.mk (Kd.R_lower (Kd.R_new' (Kd.R_new' (Kd.R_new' (Kd.R_new' (Kd.R_new' ho0 (Kd.R_lt z11_)) (Kd.R_lt z15_)) (Kd.R_lt z24_)) (Kd.R_lt z40_)) (Kd.R_lt z85_)) (below_size z0_)); replace HO526 := Aside0.mk (Kd.R_elder' z11_ (Kd.R_base ho0) hb); replace HO529 := Aside0.mk (Kd.R_elder' z15_ (Kd.R_base ho0) hb); replace HO533 := Aside0.mk (Kd.R_elder' z24_ (Kd.R_base ho0) hb); replace HO536 := Aside0.mk (Kd.R_elder' z40_ (Kd.R_base ho0) hb); replace HO540 := Aside0.mk (Kd.R_elder' z85_ (Kd.R_base ho0) hb); replace HB := Aside0.mk (below_step z0_ hb); (try clear hb ho0); obtain ⟨Ao50, co50, eo50⟩ := Kd.R_slice HO544.out; subst eo50) | ((with_reducible refine gate_callee (f := 13) rfl ?_); refine goesL_ (some 43) rfl rfl Try.func13 (by kernel_rfl) rfl #[.slice Ao44 t534.length co44, .slice Ao50 t542.length co50] rfl z1_ ?_; (with_reducible refine (laws_eqNodeS.calls k _ _ t534 _ _ t542 false _ ?side1 ?side2 ?side3 ?side4 A18.out).mono ?_); (case side1 => exact z80_); (case side2 => exact z260_); (case side3 => exact z199_); (case side4 => exact (Kd.R_reads' HO544.out).2.1); rintro e w51 ⟨rfl, hb⟩; refine ⟨_, rfl, ?_⟩; replace HO526 := Aside0.mk (Kd.R_below z11_ hb); replace HO529 := Aside0.mk (Kd.R_below z15_ hb); replace HO533 := Aside0.mk (Kd.R_below z24_ hb); replace HO536 := Aside0.mk (Kd.R_below z40_ hb); replace HO540 := Aside0.mk (Kd.R_below z85_ hb); replace HO544 := Aside0.mk (Kd.R_below z257_ hb); replace HB := Aside0.mk (below_step z0_ hb); (try clear hb)))
      go_ret
      exact ⟨z5_, z0_⟩
    ·replace c16 := Bool.eq_false_iff.mpr c16
     subst c16
     replace H := iff_ H
     obtain rfl := Option.some.inj H
     go_enter Try.func3, Try.ntmps3
     go_wp2_with (first | ((with_reducible refine gate_callee (f := 9) rfl ?_); refine goesL_ (some 12) rfl rfl Try.func9 (by kernel_rfl) rfl #[.slice A0 l0.length c0, .int .i64 1048576] rfl z1_ ?_; (with_reducible refine (laws_szNodeS.calls _ _ l0 1048576 t522 _ ?side1 ?side2 A3.out).mono ?_); (case side1 => exact z17_); (case side2 => exact HC0.out); rintro e w' ⟨rfl, ⟨nd, rfl⟩⟩; refine ⟨_, rfl, ?_⟩) | ((with_reducible refine gate_callee (f := 9) rfl ?_); refine goesL_ (some 17) rfl rfl Try.func9 (by kernel_rfl) rfl #[.slice A1 l1.length c1, .int .i64 t522] rfl z1_ ?_; (with_reducible refine (laws_szNodeS.calls _ _ l1 t522 t523 _ ?side1 ?side2 A5.out).mono ?_); (case side1 => exact z96_); (case side2 => exact HC1.out); rintro e w' ⟨rfl, ⟨nd, rfl⟩⟩; refine ⟨_, rfl, ?_⟩) | ((with_reducible refine gate_callee (f := 11) rfl ?_); refine goesL_ (some 21) rfl rfl Try.func11 (by kernel_rfl) rfl #[.slice A0 l0.length c0] rfl z1_ ?_; (with_reducible refine (laws_toNodeS.calls k _ _ l0 t524 _ ?side1 ?side2 A7.out).mono ?_); (case side1 => exact z17_); (case side2 => exact HC0.out); rintro e w52 ⟨v525, rfl, ho0, hb⟩; refine ⟨_, rfl, ?_⟩; have HO526 := Aside0.mk (Kd.R_lower ho0 (below_size z0_)); replace HB := Aside0.mk (below_step z0_ hb); (try clear hb ho0)) | ((with_reducible refine gate_callee (f := 11) rfl ?_); refine goesL_ (some 23) rfl rfl Try.func11 (by kernel_rfl) rfl #[.slice A1 l1.length c1] rfl z1_ ?_; (with_reducible refine (laws_toNodeS.calls k _ _ l1 t527 _ ?side1 ?side2 A8.out).mono ?_); (case side1 => exact z8_); (case side2 => exact HC1.out); rintro e w53 ⟨v528, rfl, ho0, hb⟩; refine ⟨_, rfl, ?_⟩; have HO529 := Aside0.mk (Kd.R_lower (Kd.R_new' ho0 (Kd.R_lt z11_)) (below_size z0_)); replace HO526 := Aside0.mk (Kd.R_elder' z11_ (Kd.R_base ho0) hb); replace HB := Aside0.mk (below_step z0_ hb); (try clear hb ho0); obtain ⟨Ao54, co54, eo54⟩ := Kd.R_slice HO526.out; subst eo54; obtain ⟨Ao55, co55, eo55⟩ := Kd.R_slice HO529.out; subst eo55) | ((with_reducible refine gate_callee (f := 10) rfl ?_); refine goesL_ (some 24) rfl rfl Try.func10 (by kernel_rfl) rfl #[.slice Ao54 t524.length co54, .slice Ao55 t527.length co55] rfl z1_ ?_; (with_reducible refine (spec_Similarity.calls k _ _ t524 _ _ t527 t530 _ ?side1 ?side2 ?side3 ?side4 A9.out).mono ?_); (case side1 => exact z111_); (case side2 => exact z264_); (case side3 => exact z112_); (case side4 => exact z265_); rintro e w56 ⟨rfl, hb⟩; refine ⟨_, rfl, ?_⟩; replace HO526 := Aside0.mk (Kd.R_below z11_ hb); replace HO529 := Aside0.mk (Kd.R_below z15_ hb); replace HB := Aside0.mk (below_step z0_ hb); (try clear hb)) | ((with_reducible refine gate_callee (f := 11) rfl ?_); refine goesL_ (some 26) rfl rfl Try.func11 (by kernel_rfl) rfl #[.slice A0 l0.length c0] rfl z1_ ?_; (with_reducible refine (laws_toNodeS.calls k _ _ l0 t531 _ ?side1 ?side2 A10.out).mono ?_); (case side1 => exact z3_); (case side2 => exact HC0.out); rintro e w57 ⟨v532, rfl, ho0, hb⟩; refine ⟨_, rfl, ?_⟩; have HO533 := Aside0.mk (Kd.R_lower (Kd.R_new' (Kd.R_new' ho0 (Kd.R_lt z11_)) (Kd.R_lt z15_)) (below_size z0_)); replace HO526 := Aside0.mk (Kd.R_elder' z11_ (Kd.R_base ho0) hb); replace HO529 := Aside0.mk (Kd.R_elder' z15_ (Kd.R_base ho0) hb); replace HB := Aside0.mk (below_step z0_ hb); (try clear hb ho0)) | ((with_reducible refine gate_callee (f := 11) rfl ?_); refine goesL_ (some 28) rfl rfl Try.func11 (by kernel_rfl) rfl #[.slice A1 l1.length c1] rfl z1_ ?_; (with_reducible refine (laws_toNodeS.calls k _ _ l1 t534 _ ?side1 ?side2 A11.out).mono ?_); (case side1 => exact z8_); (case side2 => exact HC1.out); rintro e w58 ⟨v535, rfl, ho0, hb⟩; refine ⟨_, rfl, ?_⟩; have HO536 := Aside0.mk (Kd.R_lower (Kd.R_new' (Kd.R_new' (Kd.R_new' ho0 (Kd.R_lt z11_)) (Kd.R_lt z15_)) (Kd.R_lt z24_)) (below_size z0_)); replace HO526 := Aside0.mk (Kd.R_elder' z11_ (Kd.R_base ho0) hb); replace HO529 := Aside0.mk (Kd.R_elder' z15_ (Kd.R_base ho0) hb); replace HO533 := Aside0.mk (Kd.R_elder' z24_ (Kd.R_base ho0) hb); replace HB := Aside0.mk (below_step z0_ hb); (try clear hb ho0); obtain ⟨Ao59, co59, eo59⟩ := Kd.R_slice HO533.out; subst eo59; obtain ⟨Ao60, co60, eo60⟩ := Kd.R_slice HO536.out; subst eo60) | ((with_reducible refine gate_callee (f := 12) rfl ?_); refine goesL_ (some 31) rfl rfl Try.func12 (by kernel_rfl) rfl #[.slice Ao59 t531.length co59, .slice Ao60 t534.length co60] rfl z1_ ?_; (with_reducible refine (impl_Similarity.calls k _ _ t531 _ _ t534 t537 _ ?side1 ?side2 ?side3 ?side4 A12.out).mono ?_); (case side1 => exact z76_); (case side2 => exact z242_); (case side3 => exact z80_); (case side4 => exact z260_); rintro e w61 ⟨rfl, hb⟩; refine ⟨_, rfl, ?_⟩; replace HO526 := Aside0.mk (Kd.R_below z11_ hb); replace HO529 := Aside0.mk (Kd.R_below z15_ hb); replace HO533 := Aside0.mk (Kd.R_below z24_ hb); replace HO536 := Aside0.mk (Kd.R_below z40_ hb); replace HB := Aside0.mk (below_step z0_ hb); (try clear hb)) | ((with_reducible refine gate_callee (f := 11) rfl ?_); refine goesL_ (some 37) rfl rfl Try.func11 (by kernel_rfl) rfl #[.slice A0 l0.length c0] rfl z1_ ?_; (with_reducible refine (laws_toNodeS.calls k _ _ l0 t538 _ ?side1 ?side2 A14.out).mono ?_); (case side1 => exact z3_); (case side2 => exact HC0.out); rintro e w62 ⟨v539, rfl, ho0, hb⟩; refine ⟨_, rfl, ?_⟩; have HO540 := Aside0.mk (Kd.R_lower (Kd.R_new' (Kd.R_new' (Kd.R_new' (Kd.R_new' ho0 (Kd.R_lt z11_)) (Kd.R_lt z15_)) (Kd.R_lt z24_)) (Kd.R_lt z40_)) (below_size z0_)); replace HO526 := Aside0.mk (Kd.R_elder' z11_ (Kd.R_base ho0) hb); replace HO529 := Aside0.mk (Kd.R_elder' z15_ (Kd.R_base ho0) hb); replace HO533 := Aside0.mk (Kd.R_elder' z24_ (Kd.R_base ho0) hb); replace HO536 := Aside0.mk (Kd.R_elder' z40_ (Kd.R_base ho0) hb); replace HB := Aside0.mk (below_step z0_ hb); (try clear hb ho0); obtain ⟨Ao63, co63, eo63⟩ := Kd.R_slice HO540.out; subst eo63) | ((with_reducible refine gate_callee (f := 13) rfl ?_); refine goesL_ (some 38) rfl rfl Try.func13 (by kernel_rfl) rfl #[.slice Ao59 t531.length co59, .slice Ao63 t538.length co63] rfl z1_ ?_; (with_reducible refine (laws_eqNodeS.calls k _ _ t531 _ _ t538 false _ ?side1 ?side2 ?side3 ?side4 A15.out).mono ?_); (case side1 => exact z76_); (case side2 => exact z242_); (case side3 => exact z147_); (case side4 => exact (Kd.R_reads' HO540.out).2.1); rintro e w64 ⟨rfl, hb⟩; refine ⟨_, rfl, ?_⟩; replace HO526 := Aside0.mk (Kd.R_below z11_ hb); replace HO529 := Aside0.mk (Kd.R_below z15_ hb); replace HO533 := Aside0.mk (Kd.R_below z24_ hb); replace HO536 := Aside0.mk (Kd.R_below z40_ hb); replace HO540 := Aside0.mk (Kd.R_below z85_ hb); replace HB := Aside0.mk (below_step z0_ hb); (try clear hb)))
     go_ret
     exact ⟨z5_, z0_⟩
   ·rw [if_neg c13] at H
    have c13b0 : (t537 == t530) = false := beq_eq_false_iff_ne.mpr c13
    have c13b1 : (t537 != t530) = true := bne_iff_ne.mpr c13
    obtain rfl := Option.some.inj H
    go_enter Try.func3, Try.ntmps3
    go_wp2_with (first | ((with_reducible refine gate_callee (f := 9) rfl ?_); refine goesL_ (some 12) rfl rfl Try.func9 (by kernel_rfl) rfl #[.slice A0 l0.length c0, .int .i64 1048576] rfl z1_ ?_; (with_reducible refine (laws_szNodeS.calls _ _ l0 1048576 t522 _ ?side1 ?side2 A3.out).mono ?_); (case side1 => exact z17_); (case side2 => exact HC0.out); rintro e w' ⟨rfl, ⟨nd, rfl⟩⟩; refine ⟨_, rfl, ?_⟩) | ((with_reducible refine gate_callee (f := 9) rfl ?_); refine goesL_ (some 17) rfl rfl Try.func9 (by kernel_rfl) rfl #[.slice A1 l1.length c1, .int .i64 t522] rfl z1_ ?_; (with_reducible refine (laws_szNodeS.calls _ _ l1 t522 t523 _ ?side1 ?side2 A5.out).mono ?_); (case side1 => exact z96_); (case side2 => exact HC1.out); rintro e w' ⟨rfl, ⟨nd, rfl⟩⟩; refine ⟨_, rfl, ?_⟩) | ((with_reducible refine gate_callee (f := 11) rfl ?_); refine goesL_ (some 21) rfl rfl Try.func11 (by kernel_rfl) rfl #[.slice A0 l0.length c0] rfl z1_ ?_; (with_reducible refine (laws_toNodeS.calls k _ _ l0 t524 _ ?side1 ?side2 A7.out).mono ?_); (case side1 => exact z17_); (case side2 => exact HC0.out); rintro e w65 ⟨v525, rfl, ho0, hb⟩; refine ⟨_, rfl, ?_⟩; have HO526 := Aside0.mk (Kd.R_lower ho0 (below_size z0_)); replace HB := Aside0.mk (below_step z0_ hb); (try clear hb ho0)) | ((with_reducible refine gate_callee (f := 11) rfl ?_); refine goesL_ (some 23) rfl rfl Try.func11 (by kernel_rfl) rfl #[.slice A1 l1.length c1] rfl z1_ ?_; (with_reducible refine (laws_toNodeS.calls k _ _ l1 t527 _ ?side1 ?side2 A8.out).mono ?_); (case side1 => exact z8_); (case side2 => exact HC1.out); rintro e w66 ⟨v528, rfl, ho0, hb⟩; refine ⟨_, rfl, ?_⟩; have HO529 := Aside0.mk (Kd.R_lower (Kd.R_new' ho0 (Kd.R_lt z11_)) (below_size z0_)); replace HO526 := Aside0.mk (Kd.R_elder' z11_ (Kd.R_base ho0) hb); replace HB := Aside0.mk (below_step z0_ hb); (try clear hb ho0); obtain ⟨Ao67, co67, eo67⟩ := Kd.R_slice HO526.out; subst eo67; obtain ⟨Ao68, co68, eo68⟩ := Kd.R_slice HO529.out; subst eo68) | ((with_reducible refine gate_callee (f := 10) rfl ?_); refine goesL_ (some 24) rfl rfl Try.func10 (by kernel_rfl) rfl #[.slice Ao67 t524.length co67, .slice Ao68 t527.length co68] rfl z1_ ?_; (with_reducible refine (spec_Similarity.calls k _ _ t524 _ _ t527 t530 _ ?side1 ?side2 ?side3 ?side4 A9.out).mono ?_); (case side1 => exact z111_); (case side2 => exact z264_); (case side3 => exact z112_); (case side4 => exact z265_); rintro e w69 ⟨rfl, hb⟩; refine ⟨_, rfl, ?_⟩; replace HO526 := Aside0.mk (Kd.R_below z11_ hb); replace HO529 := Aside0.mk (Kd.R_below z15_ hb); replace HB := Aside0.mk (below_step z0_ hb); (try clear hb)) | ((with_reducible refine gate_callee (f := 11) rfl ?_); refine goesL_ (some 26) rfl rfl Try.func11 (by kernel_rfl) rfl #[.slice A0 l0.length c0] rfl z1_ ?_; (with_reducible refine (laws_toNodeS.calls k _ _ l0 t531 _ ?side1 ?side2 A10.out).mono ?_); (case side1 => exact z3_); (case side2 => exact HC0.out); rintro e w70 ⟨v532, rfl, ho0, hb⟩; refine ⟨_, rfl, ?_⟩; have HO533 := Aside0.mk (Kd.R_lower (Kd.R_new' (Kd.R_new' ho0 (Kd.R_lt z11_)) (Kd.R_lt z15_)) (below_size z0_)); replace HO526 := Aside0.mk (Kd.R_elder' z11_ (Kd.R_base ho0) hb); replace HO529 := Aside0.mk (Kd.R_elder' z15_ (Kd.R_base ho0) hb); replace HB := Aside0.mk (below_step z0_ hb); (try clear hb ho0)) | ((with_reducible refine gate_callee (f := 11) rfl ?_); refine goesL_ (some 28) rfl rfl Try.func11 (by kernel_rfl) rfl #[.slice A1 l1.length c1] rfl z1_ ?_; (with_reducible refine (laws_toNodeS.calls k _ _ l1 t534 _ ?side1 ?side2 A11.out).mono ?_); (case side1 => exact z8_); (case side2 => exact HC1.out); rintro e w71 ⟨v535, rfl, ho0, hb⟩; refine ⟨_, rfl, ?_⟩; have HO536 := Aside0.mk (Kd.R_lower (Kd.R_new' (Kd.R_new' (Kd.R_new' ho0 (Kd.R_lt z11_)) (Kd.R_lt z15_)) (Kd.R_lt z24_)) (below_size z0_)); replace HO526 := Aside0.mk (Kd.R_elder' z11_ (Kd.R_base ho0) hb); replace HO529 := Aside0.mk (Kd.R_elder' z15_ (Kd.R_base ho0) hb); replace HO533 := Aside0.mk (Kd.R_elder' z24_ (Kd.R_base ho0) hb); replace HB := Aside0.mk (below_step z0_ hb); (try clear hb ho0); obtain ⟨Ao72, co72, eo72⟩ := Kd.R_slice HO533.out; subst eo72; obtain ⟨Ao73, co73, eo73⟩ := Kd.R_slice HO536.out; subst eo73) | ((with_reducible refine gate_callee (f := 12) rfl ?_); refine goesL_ (some 31) rfl rfl Try.func12 (by kernel_rfl) rfl #[.slice Ao72 t531.length co72, .slice Ao73 t534.length co73] rfl z1_ ?_; (with_reducible refine (impl_Similarity.calls k _ _ t531 _ _ t534 t537 _ ?side1 ?side2 ?side3 ?side4 A12.out).mono ?_); (case side1 => exact z76_); (case side2 => exact z242_); (case side3 => exact z80_); (case side4 => exact z260_); rintro e w74 ⟨rfl, hb⟩; refine ⟨_, rfl, ?_⟩; replace HO526 := Aside0.mk (Kd.R_below z11_ hb); replace HO529 := Aside0.mk (Kd.R_below z15_ hb); replace HO533 := Aside0.mk (Kd.R_below z24_ hb); replace HO536 := Aside0.mk (Kd.R_below z40_ hb); replace HB := Aside0.mk (below_step z0_ hb); (try clear hb)))
    go_ret
    exact ⟨z5_, z0_⟩

end Go.Proofs.Ytbmkobanpakohaa.PFnExactSimilarity
