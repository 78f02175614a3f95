/- Laid by a program of this session out of the kit's print for the law FnKept: what it says of the machine is proved here, function by function; each contract under the conditions that it names. -/
import Derived.Test.YtbiffnahknkoiaaMFnKeptx0
import Derived.Test.YtbiffnahknkoiaaMFnKeptx4
import Derived.Test.YtbiffnahknkoiaaMFnKeptx10
namespace Go.Proofs.Ytbiffnahknkoiaa.PFnKept
open Go.RowKit Go.Proofs.YtbiffnahknkoiaaW.PrintWords Go.Proofs.YtbiffnahknkoiaaW.PrintLast Go.Proofs.YtbiffnahknkoiaaW.PrintMore
attribute [local go_sem] max2_int min2_int max_two min_two max_three min_three max_four min_four   -- for this text's walks alone
set_option linter.unusedVariables false
set_option linter.unusedSimpArgs false

/-! ### spec_MapOk: function 13 -/
mutual
def spec_MapOk.l0 : Nat → List (S45) → List (S45) → List (S47) → Int → Option (Bool)
 | 0, _, _, _, _ => none
 | k + 1, x0, x1, x2, x7 => if x7 < (x2.length : Int) then (if 0 ≤ x7 then ((spec_l3At.f k x0 ((rd_T47 x2 x7).f0)).bind fun t417 => (if t417 = true then ((spec_l3At.f k x1 ((rd_T47 x2 x7).f1)).bind fun t419 => (if t419 = true then (if x7 > 0 then (if 0 ≤ (wrap64 (x7 - 1)) then (if (wrap64 (x7 - 1)) < (x2.length : Int) then (spec_MapOk.j1 k x0 x1 x2 x7 (decide (((rd_T47 x2 x7).f0) ≤ ((rd_T47 x2 (wrap64 (x7 - 1))).f0)))) else (none)) else (none)) else (spec_MapOk.j1 k x0 x1 x2 x7 false)) else (spec_MapOk.j1 k x0 x1 x2 x7 true))) else (spec_MapOk.j1 k x0 x1 x2 x7 true))) else (none)) else ((spec_TreeOk.f k x0).bind fun t414 => (if t414 = true then ((spec_TreeOk.f k x1).bind fun t415 => (some t415)) else (some false)))
def spec_MapOk.j1 : Nat → List (S45) → List (S45) → List (S47) → Int → Bool → Option (Bool)
 | 0, _, _, _, _, _ => none
 | k + 1, x0, x1, x2, x7, x50 => if x50 = true then (some false) else (spec_MapOk.l1 k x0 x1 x2 x7 0)
def spec_MapOk.l1 : Nat → List (S45) → List (S45) → List (S47) → Int → Int → Option (Bool)
 | 0, _, _, _, _, _ => none
 | k + 1, x0, x1, x2, x7, x8 => if x8 < x7 then (if 0 ≤ x8 then (if x8 < (x2.length : Int) then (if 0 ≤ x7 then (if x7 < (x2.length : Int) then (if ((rd_T47 x2 x8).f1) ≥ ((rd_T47 x2 x7).f1) then (some false) else ((spec_Under.f k x0 ((rd_T47 x2 x8).f0) ((rd_T47 x2 x7).f0)).bind fun t426 => ((spec_Under.f k x1 ((rd_T47 x2 x8).f1) ((rd_T47 x2 x7).f1)).bind fun t429 => (if (t426 != t429) = true then (some false) else (spec_MapOk.l1 k x0 x1 x2 x7 (wrap64 (x8 + 1))))))) else (none)) else (none)) else (none)) else (none)) else (spec_MapOk.l0 k x0 x1 x2 (wrap64 (x7 + 1)))
end
def spec_MapOk.f (k : Nat) (l0 : List (S45)) (l1 : List (S45)) (l2 : List (S47)) : Option (Bool) := spec_MapOk.l0 k l0 l1 l2 0
def spec_MapOk.T4 : Bool × List (List Nat × List Nat) := (true, [([], []), ([], []), ([], []), ([1, 2], [1, 2]), ([3], [3]), ([4], [4]), ([0, 5], [0, 5]), ([6], [6]), ([7, 6], [7]), ([8], [8]), ([8], [8]), ([8], [8]), ([10, 11, 8], [8, 10, 11]), ([12, 8], [8, 12]), ([13, 8], [8, 13]), ([9, 14, 8, 8], [8, 9, 14]), ([15, 8], [8, 15]), ([8, 16], [8, 16]), ([17, 15], [17]), ([18], [18]), ([19, 18], [18, 19]), ([20, 18, 18], [18, 20]), ([21], [21]), ([21], [21]), ([22, 23, 21], [21, 22, 23]), ([24, 21], [21, 24]), ([25, 21], [21, 25]), ([21], [21]), ([21], [21]), ([28, 21], [21, 28]), ([27, 29, 21], [21, 27, 29]), ([30, 21], [21, 30]), ([31, 21], [21, 31]), ([26, 32, 21], [21, 26, 32]), ([21, 33, 18], [18, 21, 33]), ([18, 34], [18, 34])])
def spec_MapOk.B4 : List Nat := [0, 0, 0, 6, 14, 30, 63, 127, 255, 511, 511, 511, 3583, 7679, 15871, 32767, 65535, 131071, 262143, 524287, 1048575, 2097151, 4194303, 4194303, 16777215, 33554431, 67108863, 4194303, 4194303, 272629759, 943718399, 2017460223, 4164943871, 8589934591, 17179869183, 34359738367]
theorem spec_MapOk.tab4 : rtab .any (opsOf Try.f13 4) = spec_MapOk.T4 := by kernel_rfl
theorem spec_MapOk.bits4 : waitsOk spec_MapOk.T4.2 spec_MapOk.B4 = true := by kernel_rfl
def spec_MapOk.T9 : Bool × List (List Nat × List Nat) := (true, [([], []), ([], []), ([0, 1], [0, 1]), ([2], [2]), ([3], [3]), ([], []), ([], []), ([5, 6], [5, 6]), ([7], [7]), ([8], [8]), ([4, 9], [4, 9]), ([10], [10]), ([11], [11]), ([11], [11]), ([11], [11]), ([13, 14, 11], [11, 13, 14]), ([15, 11], [11, 15]), ([16, 11], [11, 16]), ([11], [11]), ([11], [11]), ([18, 19, 11], [11, 18, 19]), ([20, 11], [11, 20]), ([21, 11], [11, 21]), ([12, 17, 22, 11, 11], [11, 12, 17, 22]), ([11], [11]), ([11], [11]), ([11], [11]), ([25, 26, 11], [11, 25, 26]), ([27, 11], [11, 27]), ([28, 11], [11, 28]), ([11], [11]), ([11], [11]), ([30, 31, 11], [11, 30, 31]), ([32, 11], [11, 32]), ([33, 11], [11, 33]), ([24, 29, 34, 23, 11], [11, 24, 29, 34]), ([23, 35, 11], [11, 23, 35]), ([11, 36], [11, 36])])
def spec_MapOk.B9 : List Nat := [0, 0, 3, 7, 15, 0, 0, 96, 224, 480, 1023, 2047, 4095, 4095, 4095, 28671, 61439, 126975, 4095, 4095, 790527, 1839103, 3936255, 8388607, 4095, 4095, 4095, 100667391, 234885119, 503320575, 4095, 4095, 3221229567, 7516196863, 16106131455, 34359738367, 68719476735, 137438953471]
theorem spec_MapOk.tab9 : rtab .any (opsOf Try.f13 9) = spec_MapOk.T9 := by kernel_rfl
theorem spec_MapOk.bits9 : waitsOk spec_MapOk.T9.2 spec_MapOk.B9 = true := by kernel_rfl
set_option maxHeartbeats 8000000 in
set_option maxRecDepth 100000 in
theorem spec_MapOk.calls (k : Nat) (A0 : Option Addr) (c0 : Nat) (l0 : List (S45)) (A1 : Option Addr) (c1 : Nat) (l1 : List (S45)) (A2 : Option Addr) (c2 : Nat) (l2 : List (S47)) (r : Bool) (w : World) (hr0 : Kd.C k45 w A0 l0.length l0) (hc0 : l0.length ≤ c0) (hr1 : Kd.C k45 w A1 l1.length l1) (hc1 : l1.length ≤ c1) (hr2 : Kd.C k47 w A2 l2.length l2) (hc2 : l2.length ≤ c2) (h : spec_MapOk.f k l0 l1 l2 = some r) :
  Calls Try.prog 13 #[.slice A0 l0.length c0, .slice A1 l1.length c1, .slice A2 l2.length c2] w fun e w' => e = .returned (.bool r) ∧ Below w.heap.size w w' := by
 have HR0 := Aside0.mk hr0
 have HC0 := Aside0.mk hc0
 clear hr0 hc0
 have HR1 := Aside0.mk hr1
 have HC1 := Aside0.mk hc1
 clear hr1 hc1
 have HR2 := Aside0.mk hr2
 have HC2 := Aside0.mk hc2
 clear hr2 hc2
 have HB := Aside0.mk (Below.refl w.heap.size w)
 have H : (spec_MapOk.l0 k l0 l1 l2 0) = some r := h
 clear h
 have H' := Aside0.mk H
 clear H
 go_enter Try.func13, Try.ntmps13
 go_wp2
 go_loopg [7] k (fun kq v7 w' => ∃ (x7_1 : Int), v7 = .int .i64 x7_1 ∧ Aside0 (spec_MapOk.l0 kq l0 l1 l2 x7_1 = some r) ∧ Aside0 (kq ≤ k) ∧ Aside0 (Below w.heap.size w w'))
 case atStart => exact ⟨(0), z9_, H', ⟨Nat.le_refl _⟩, ⟨z0_⟩⟩
 case round =>
  clear H'
  try clear c1
  try clear c2
  try clear p2
  obtain ⟨x7_1, rfl, HA, HK1, HB⟩ := hrel
  cases gk with
  | zero => exact absurd HA.out (by simp [spec_MapOk.l0])
  | succ k1 =>
   have H := HA.out
   clear HA
   simp only [spec_MapOk.l0] at H
   by_cases c4 : x7_1 < (l2.length : Int)
   ·rw [if_pos c4] at H
    have c4b0 := decide_eq_true c4
    clear c4
    have HC5 := Aside0.mk H
    clear H
    go_upto_region 4 with (fail)
    go_cut [50] (fun v50 wc => ∃ (kq : Nat) (x50_4 : Bool), v50 = .bool x50_4 ∧ Aside0 (spec_MapOk.j1 kq l0 l1 l2 x7_1 x50_4 = some r) ∧ Aside0 (kq ≤ k1) ∧ Aside0 (Below w.heap.size w wc))
    case first =>
     have H := HC5.out
     clear HC5
     obtain ⟨c6b0, H⟩ := ifd_ H
     (first | rw [c6b0] | rw [c6b1] | (simp only [i64_w, i32_w]; rw [c6b0]) | skip)
     obtain ⟨t417, A7, H⟩ := bnd_ H
     by_cases c8 : t417 = true
     ·subst c8
      replace H := ift_ H
      obtain ⟨t419, A9, H⟩ := bnd_ H
      by_cases c10 : t419 = true
      ·subst c10
       replace H := ift_ H
       by_cases c11 : x7_1 > 0
       ·rw [if_pos c11] at H
        have c11b0 := decide_eq_true c11
        clear c11
        obtain ⟨ji12, hji12⟩ : ∃ j_ : Int, (wrap64 (x7_1 - 1)) = j_ := ⟨_, rfl⟩
        first | rw [hji12] at H | simp only [hji12] at H
        (try rw [hji12] at A7)
        (try rw [hji12] at A9)
        have hji12w : (IntKind.i64.wrap (x7_1 - 1)) = ji12 := (i64_w _).trans hji12
        obtain ⟨c13b0, H⟩ := ifd_ H
        obtain ⟨c14b0, H⟩ := ifd_ H
        have H' := Aside0.mk H
        clear H
        try go_wp2
        have n0_ := Aside0.mk (below_drew1 HB.out)
        clear HB
        have HB := n0_
        clear n0_
        obtain ⟨p416, q416, ad416, e416, hw416_0, hw416_1, hx416_0, hx416_1⟩ := atw47_ HR2 HB x7_1
        cases e416
        obtain ⟨p418, q418, ad418, e418, hw418_0, hw418_1, hx418_0, hx418_1⟩ := atw47_ HR2 HB x7_1
        obtain rfl : ad416 = ad418 := (by injection e418)
        obtain ⟨p420, q420, ad420, e420, hw420_0, hw420_1, hx420_0, hx420_1⟩ := atw47_ HR2 HB x7_1
        obtain rfl : ad416 = ad420 := (by injection e420)
        obtain ⟨p421, q421, ad421, e421, hw421_0, hw421_1, hx421_0, hx421_1⟩ := atw47_ HR2 HB (ji12)
        obtain rfl : ad416 = ad421 := (by injection e421)
        refine start_ (n := 36) (S := fun w' => w'.cell? (ad416.add ((x7_1).toNat * 2)) = some (.int .i64 ((rd_T47 l2 x7_1).f0)) ∧ w'.cell? ⟨(ad416.add ((x7_1).toNat * 2)).block, (ad416.add ((x7_1).toNat * 2)).off + 1, none⟩ = some (.int .i64 ((rd_T47 l2 x7_1).f1)) ∧ w'.cell? (ad416.add (((ji12)).toNat * 2)) = some (.int .i64 ((rd_T47 l2 (ji12)).f0)) ∧ w'.cell? ⟨(ad416.add (((ji12)).toNat * 2)).block, (ad416.add (((ji12)).toNat * 2)).off + 1, none⟩ = some (.int .i64 ((rd_T47 l2 (ji12)).f1))) (ds := []) (fl_ 36 0) (by kernel_rfl) rfl (fl_zero _) ⟨((HB.out.cell (World.block_lt_of_cell? w _ hw416_0)).trans hw416_0), ((HB.out.cell (World.block_lt_of_cell? w _ hw416_1)).trans hw416_1), ((HB.out.cell (World.block_lt_of_cell? w _ hw421_0)).trans hw421_0), ((HB.out.cell (World.block_lt_of_cell? w _ hw421_1)).trans hw421_1)⟩ (fun hHeld => ?_); refine with_tabW spec_MapOk.tab4 spec_MapOk.bits4 (fun HT_ HW_ => ?_)
        generalize wr.drew = w15 at HB hx416_0 hx416_1 hx418_0 hx418_1 hx420_0 hx420_1 hx421_0 hx421_1 hHeld ⊢
        iterate 5 refine zp_ HT_ rfl rfl (by kernel_rfl) (fun _ _ _ h => h) (by rfl) ?_
        refine zt_ HT_ HW_ rfl rfl (by kernel_rfl) (fun _ _ _ h => h) (by rfl) hHeld ?_ z195_
        refine one_ (i := 6) (N := some 21) (fl_ 36 7) rfl rfl (one_of HT_.out (by kernel_rfl)) (by decide) (fun K hK => ?_)
        refine goes_ Try.func43 (by kernel_rfl) rfl #[.slice A0 l0.length c0, .int .i64 ((rd_T47 l2 x7_1).f0)] (by rfl) rfl rfl z4_ ?_
        with_reducible refine (spec_l3At.calls k1 _ _ l0 ((rd_T47 l2 x7_1).f0) true _ ?side1 ?side2 A7.out).mono ?_
        (case side1 => exact z8_)
        (case side2 => exact HC0.out)
        rintro e w16 ⟨rfl, hb⟩
        refine ⟨_, rfl, ?_⟩
        have n0_ := Aside0.mk (below_step z0_ hb)
        clear HB
        have HB := n0_
        clear n0_
        (try clear hb)
        (try clear hb2)
        (try clear hk)
        (try clear hi)
        refine hK.out _ _ ⟨((HB.out.cell (World.block_lt_of_cell? w _ hw416_0)).trans hw416_0), ((HB.out.cell (World.block_lt_of_cell? w _ hw416_1)).trans hw416_1), ((HB.out.cell (World.block_lt_of_cell? w _ hw421_0)).trans hw421_0), ((HB.out.cell (World.block_lt_of_cell? w _ hw421_1)).trans hw421_1)⟩ (fun hHeld => ?_)
        clear hK K
        refine zn_ rfl ?_
        iterate 7 refine zp_ HT_ rfl rfl (by kernel_rfl) (fun _ _ _ h => h) (by rfl) ?_
        refine zt_ HT_ HW_ rfl rfl (by kernel_rfl) (fun _ _ _ h => h) (by rfl) hHeld ?_ z195_
        refine one_ (i := 15) (N := some 30) (fl_ 36 16) rfl rfl (one_of HT_.out (by kernel_rfl)) (by decide) (fun K hK => ?_)
        refine goes_ Try.func43 (by kernel_rfl) rfl #[.slice A1 l1.length c1, .int .i64 ((rd_T47 l2 x7_1).f1)] (by rfl) rfl rfl z4_ ?_
        with_reducible refine (spec_l3At.calls k1 _ _ l1 ((rd_T47 l2 x7_1).f1) true _ ?side1 ?side2 A9.out).mono ?_
        (case side1 => exact z24_)
        (case side2 => exact HC1.out)
        rintro e w17 ⟨rfl, hb⟩
        refine ⟨_, rfl, ?_⟩
        have n0_ := Aside0.mk (below_step z0_ hb)
        clear HB
        have HB := n0_
        clear n0_
        (try clear hb)
        (try clear hb2)
        (try clear hk)
        (try clear hi)
        refine hK.out _ _ ⟨((HB.out.cell (World.block_lt_of_cell? w _ hw416_0)).trans hw416_0), ((HB.out.cell (World.block_lt_of_cell? w _ hw416_1)).trans hw416_1), ((HB.out.cell (World.block_lt_of_cell? w _ hw421_0)).trans hw421_0), ((HB.out.cell (World.block_lt_of_cell? w _ hw421_1)).trans hw421_1)⟩ (fun hHeld => ?_)
        clear hK K
        refine zn_ rfl ?_
        iterate 10 refine zp_ HT_ rfl rfl (by kernel_rfl) (fun _ _ _ h => h) (by rfl) ?_
        refine zpg_ (i := 27) (ra_ [26, 1, 1, 8]) HT_ rfl rfl (by kernel_rfl) (fun _ _ _ h => h) (by rfl) ?_
        refine zpg_ (i := 28) (ra_ [26, 1, 2, 7]) HT_ rfl rfl (by kernel_rfl) (fun _ _ _ h => h) (by rfl) ?_
        refine zpg_ (i := 29) (ra_ [26, 1, 3, 6]) HT_ rfl rfl (by kernel_rfl) (fun _ _ _ h => h) (by rfl) ?_
        refine zpg_ (i := 30) (ra_ [26, 1, 4, 5]) HT_ rfl rfl (by kernel_rfl) (fun _ _ _ h => h) (by rfl) ?_
        refine zpg_ (i := 31) (ra_ [26, 1, 5, 4]) HT_ rfl rfl (by kernel_rfl) (fun _ _ _ h => h) (by rfl) ?_
        refine ztg_ (i := 26) (fl_ 36 32) HT_ HW_ rfl rfl (by kernel_rfl) (fun _ _ _ h => h) (by rfl) hHeld ?_ z195_
        refine zt_ HT_ HW_ rfl rfl (by kernel_rfl) (fun _ _ _ h => h) (by rfl) hHeld ?_ z195_
        iterate 3 refine zp_ HT_ rfl rfl (by kernel_rfl) (fun _ _ _ h => h) (by rfl) ?_
        refine done_ (done_of HT_.out (by kernel_rfl)) ?_
        try go_wp2
        go_meet
        case rel => exact ⟨_, (decide (((rd_T47 l2 x7_1).f0) ≤ ((rd_T47 l2 (ji12)).f0))), (by first | rfl | (simp; done) | (simp only [← hji12] <;> (first | rfl | simp)) | (simp [*]; done)), H', ⟨z153_⟩, ⟨z0_⟩⟩
       ·rw [if_neg c11] at H
        have c11b0 := decide_eq_false c11
        clear c11
        have H' := Aside0.mk H
        clear H
        try go_wp2
        have n0_ := Aside0.mk (below_drew1 HB.out)
        clear HB
        have HB := n0_
        clear n0_
        obtain ⟨p416, q416, ad416, e416, hw416_0, hw416_1, hx416_0, hx416_1⟩ := atw47_ HR2 HB x7_1
        cases e416
        obtain ⟨p418, q418, ad418, e418, hw418_0, hw418_1, hx418_0, hx418_1⟩ := atw47_ HR2 HB x7_1
        obtain rfl : ad416 = ad418 := (by injection e418)
        refine start_ (n := 36) (S := fun w' => w'.cell? (ad416.add ((x7_1).toNat * 2)) = some (.int .i64 ((rd_T47 l2 x7_1).f0)) ∧ w'.cell? ⟨(ad416.add ((x7_1).toNat * 2)).block, (ad416.add ((x7_1).toNat * 2)).off + 1, none⟩ = some (.int .i64 ((rd_T47 l2 x7_1).f1))) (ds := []) (fl_ 36 0) (by kernel_rfl) rfl (fl_zero _) ⟨((HB.out.cell (World.block_lt_of_cell? w _ hw416_0)).trans hw416_0), ((HB.out.cell (World.block_lt_of_cell? w _ hw416_1)).trans hw416_1)⟩ (fun hHeld => ?_); refine with_tabW spec_MapOk.tab4 spec_MapOk.bits4 (fun HT_ HW_ => ?_)
        generalize wr.drew = w18 at HB hx416_0 hx416_1 hx418_0 hx418_1 hHeld ⊢
        iterate 5 refine zp_ HT_ rfl rfl (by kernel_rfl) (fun _ _ _ h => h) (by rfl) ?_
        refine zt_ HT_ HW_ rfl rfl (by kernel_rfl) (fun _ _ _ h => h) (by rfl) hHeld ?_ z111_
        refine one_ (i := 6) (N := some 21) (fl_ 36 7) rfl rfl (one_of HT_.out (by kernel_rfl)) (by decide) (fun K hK => ?_)
        refine goes_ Try.func43 (by kernel_rfl) rfl #[.slice A0 l0.length c0, .int .i64 ((rd_T47 l2 x7_1).f0)] (by rfl) rfl rfl z4_ ?_
        with_reducible refine (spec_l3At.calls k1 _ _ l0 ((rd_T47 l2 x7_1).f0) true _ ?side1 ?side2 A7.out).mono ?_
        (case side1 => exact z8_)
        (case side2 => exact HC0.out)
        rintro e w19 ⟨rfl, hb⟩
        refine ⟨_, rfl, ?_⟩
        have n0_ := Aside0.mk (below_step z0_ hb)
        clear HB
        have HB := n0_
        clear n0_
        (try clear hb)
        (try clear hb2)
        (try clear hk)
        (try clear hi)
        refine hK.out _ _ ⟨((HB.out.cell (World.block_lt_of_cell? w _ hw416_0)).trans hw416_0), ((HB.out.cell (World.block_lt_of_cell? w _ hw416_1)).trans hw416_1)⟩ (fun hHeld => ?_)
        clear hK K
        refine zn_ rfl ?_
        iterate 7 refine zp_ HT_ rfl rfl (by kernel_rfl) (fun _ _ _ h => h) (by rfl) ?_
        refine zt_ HT_ HW_ rfl rfl (by kernel_rfl) (fun _ _ _ h => h) (by rfl) hHeld ?_ z111_
        refine one_ (i := 15) (N := some 30) (fl_ 36 16) rfl rfl (one_of HT_.out (by kernel_rfl)) (by decide) (fun K hK => ?_)
        refine goes_ Try.func43 (by kernel_rfl) rfl #[.slice A1 l1.length c1, .int .i64 ((rd_T47 l2 x7_1).f1)] (by rfl) rfl rfl z4_ ?_
        with_reducible refine (spec_l3At.calls k1 _ _ l1 ((rd_T47 l2 x7_1).f1) true _ ?side1 ?side2 A9.out).mono ?_
        (case side1 => exact z24_)
        (case side2 => exact HC1.out)
        rintro e w20 ⟨rfl, hb⟩
        refine ⟨_, rfl, ?_⟩
        have n0_ := Aside0.mk (below_step z0_ hb)
        clear HB
        have HB := n0_
        clear n0_
        (try clear hb)
        (try clear hb2)
        (try clear hk)
        (try clear hi)
        refine hK.out _ _ ⟨((HB.out.cell (World.block_lt_of_cell? w _ hw416_0)).trans hw416_0), ((HB.out.cell (World.block_lt_of_cell? w _ hw416_1)).trans hw416_1)⟩ (fun hHeld => ?_)
        clear hK K
        refine zn_ rfl ?_
        iterate 6 refine zp_ HT_ rfl rfl (by kernel_rfl) (fun _ _ _ h => h) (by rfl) ?_
        iterate 12 refine zu_ HT_ rfl rfl (by kernel_rfl) (fun _ _ _ h => h) (by rfl) ?_
        iterate 2 refine zp_ HT_ rfl rfl (by kernel_rfl) (fun _ _ _ h => h) (by rfl) ?_
        refine done_ (done_of HT_.out (by kernel_rfl)) ?_
        try go_wp2
        go_meet
        case rel => exact ⟨_, (false), z9_, H', ⟨z153_⟩, ⟨z0_⟩⟩
      ·replace c10 := Bool.eq_false_iff.mpr c10
       subst c10
       replace H := iff_ H
       have H' := Aside0.mk H
       clear H
       try go_wp2
       have n0_ := Aside0.mk (below_drew1 HB.out)
       clear HB
       have HB := n0_
       clear n0_
       obtain ⟨p416, q416, ad416, e416, hw416_0, hw416_1, hx416_0, hx416_1⟩ := atw47_ HR2 HB x7_1
       cases e416
       obtain ⟨p418, q418, ad418, e418, hw418_0, hw418_1, hx418_0, hx418_1⟩ := atw47_ HR2 HB x7_1
       obtain rfl : ad416 = ad418 := (by injection e418)
       refine start_ (n := 36) (S := fun w' => w'.cell? (ad416.add ((x7_1).toNat * 2)) = some (.int .i64 ((rd_T47 l2 x7_1).f0)) ∧ w'.cell? ⟨(ad416.add ((x7_1).toNat * 2)).block, (ad416.add ((x7_1).toNat * 2)).off + 1, none⟩ = some (.int .i64 ((rd_T47 l2 x7_1).f1))) (ds := []) (fl_ 36 0) (by kernel_rfl) rfl (fl_zero _) ⟨((HB.out.cell (World.block_lt_of_cell? w _ hw416_0)).trans hw416_0), ((HB.out.cell (World.block_lt_of_cell? w _ hw416_1)).trans hw416_1)⟩ (fun hHeld => ?_); refine with_tabW spec_MapOk.tab4 spec_MapOk.bits4 (fun HT_ HW_ => ?_)
       generalize wr.drew = w21 at HB hx416_0 hx416_1 hx418_0 hx418_1 hHeld ⊢
       iterate 5 refine zp_ HT_ rfl rfl (by kernel_rfl) (fun _ _ _ h => h) (by rfl) ?_
       refine zt_ HT_ HW_ rfl rfl (by kernel_rfl) (fun _ _ _ h => h) (by rfl) hHeld ?_ z111_
       refine one_ (i := 6) (N := some 21) (fl_ 36 7) rfl rfl (one_of HT_.out (by kernel_rfl)) (by decide) (fun K hK => ?_)
       refine goes_ Try.func43 (by kernel_rfl) rfl #[.slice A0 l0.length c0, .int .i64 ((rd_T47 l2 x7_1).f0)] (by rfl) rfl rfl z4_ ?_
       with_reducible refine (spec_l3At.calls k1 _ _ l0 ((rd_T47 l2 x7_1).f0) true _ ?side1 ?side2 A7.out).mono ?_
       (case side1 => exact z8_)
       (case side2 => exact HC0.out)
       rintro e w22 ⟨rfl, hb⟩
       refine ⟨_, rfl, ?_⟩
       have n0_ := Aside0.mk (below_step z0_ hb)
       clear HB
       have HB := n0_
       clear n0_
       (try clear hb)
       (try clear hb2)
       (try clear hk)
       (try clear hi)
       refine hK.out _ _ ⟨((HB.out.cell (World.block_lt_of_cell? w _ hw416_0)).trans hw416_0), ((HB.out.cell (World.block_lt_of_cell? w _ hw416_1)).trans hw416_1)⟩ (fun hHeld => ?_)
       clear hK K
       refine zn_ rfl ?_
       iterate 7 refine zp_ HT_ rfl rfl (by kernel_rfl) (fun _ _ _ h => h) (by rfl) ?_
       refine zt_ HT_ HW_ rfl rfl (by kernel_rfl) (fun _ _ _ h => h) (by rfl) hHeld ?_ z111_
       refine one_ (i := 15) (N := some 30) (fl_ 36 16) rfl rfl (one_of HT_.out (by kernel_rfl)) (by decide) (fun K hK => ?_)
       refine goes_ Try.func43 (by kernel_rfl) rfl #[.slice A1 l1.length c1, .int .i64 ((rd_T47 l2 x7_1).f1)] (by rfl) rfl rfl z4_ ?_
       with_reducible refine (spec_l3At.calls k1 _ _ l1 ((rd_T47 l2 x7_1).f1) false _ ?side1 ?side2 A9.out).mono ?_
       (case side1 => exact z24_)
       (case side2 => exact HC1.out)
       rintro e w23 ⟨rfl, hb⟩
       refine ⟨_, rfl, ?_⟩
       have n0_ := Aside0.mk (below_step z0_ hb)
       clear HB
       have HB := n0_
       clear n0_
       (try clear hb)
       (try clear hb2)
       (try clear hk)
       (try clear hi)
       refine hK.out _ _ ⟨((HB.out.cell (World.block_lt_of_cell? w _ hw416_0)).trans hw416_0), ((HB.out.cell (World.block_lt_of_cell? w _ hw416_1)).trans hw416_1)⟩ (fun hHeld => ?_)
       clear hK K
       refine zn_ rfl ?_
       iterate 3 refine zp_ HT_ rfl rfl (by kernel_rfl) (fun _ _ _ h => h) (by rfl) ?_
       iterate 16 refine zu_ HT_ rfl rfl (by kernel_rfl) (fun _ _ _ h => h) (by rfl) ?_
       refine zp_ HT_ rfl rfl (by kernel_rfl) (fun _ _ _ h => h) (by rfl) ?_
       refine done_ (done_of HT_.out (by kernel_rfl)) ?_
       try go_wp2
       go_meet
       case rel => exact ⟨_, (true), z9_, H', ⟨z153_⟩, ⟨z0_⟩⟩
     ·replace c8 := Bool.eq_false_iff.mpr c8
      subst c8
      replace H := iff_ H
      have H' := Aside0.mk H
      clear H
      try go_wp2
      have n0_ := Aside0.mk (below_drew1 HB.out)
      clear HB
      have HB := n0_
      clear n0_
      obtain ⟨p416, q416, ad416, e416, hw416_0, hw416_1, hx416_0, hx416_1⟩ := atw47_ HR2 HB x7_1
      cases e416
      refine start_ (n := 36) (S := fun w' => w'.cell? (ad416.add ((x7_1).toNat * 2)) = some (.int .i64 ((rd_T47 l2 x7_1).f0)) ∧ w'.cell? ⟨(ad416.add ((x7_1).toNat * 2)).block, (ad416.add ((x7_1).toNat * 2)).off + 1, none⟩ = some (.int .i64 ((rd_T47 l2 x7_1).f1))) (ds := []) (fl_ 36 0) (by kernel_rfl) rfl (fl_zero _) ⟨((HB.out.cell (World.block_lt_of_cell? w _ hw416_0)).trans hw416_0), ((HB.out.cell (World.block_lt_of_cell? w _ hw416_1)).trans hw416_1)⟩ (fun hHeld => ?_); refine with_tabW spec_MapOk.tab4 spec_MapOk.bits4 (fun HT_ HW_ => ?_)
      generalize wr.drew = w24 at HB hx416_0 hx416_1 hHeld ⊢
      iterate 5 refine zp_ HT_ rfl rfl (by kernel_rfl) (fun _ _ _ h => h) (by rfl) ?_
      refine zt_ HT_ HW_ rfl rfl (by kernel_rfl) (fun _ _ _ h => h) (by rfl) hHeld ?_ z111_
      refine one_ (i := 6) (N := some 21) (fl_ 36 7) rfl rfl (one_of HT_.out (by kernel_rfl)) (by decide) (fun K hK => ?_)
      refine goes_ Try.func43 (by kernel_rfl) rfl #[.slice A0 l0.length c0, .int .i64 ((rd_T47 l2 x7_1).f0)] (by rfl) rfl rfl z4_ ?_
      with_reducible refine (spec_l3At.calls k1 _ _ l0 ((rd_T47 l2 x7_1).f0) false _ ?side1 ?side2 A7.out).mono ?_
      (case side1 => exact z8_)
      (case side2 => exact HC0.out)
      rintro e w25 ⟨rfl, hb⟩
      refine ⟨_, rfl, ?_⟩
      have n0_ := Aside0.mk (below_step z0_ hb)
      clear HB
      have HB := n0_
      clear n0_
      (try clear hb)
      (try clear hb2)
      (try clear hk)
      (try clear hi)
      refine hK.out _ _ ⟨((HB.out.cell (World.block_lt_of_cell? w _ hw416_0)).trans hw416_0), ((HB.out.cell (World.block_lt_of_cell? w _ hw416_1)).trans hw416_1)⟩ (fun hHeld => ?_)
      clear hK K
      refine zn_ rfl ?_
      iterate 2 refine zp_ HT_ rfl rfl (by kernel_rfl) (fun _ _ _ h => h) (by rfl) ?_
      iterate 8 refine zu_ HT_ rfl rfl (by kernel_rfl) (fun _ _ _ h => h) (by rfl) ?_
      iterate 2 refine zp_ HT_ rfl rfl (by kernel_rfl) (fun _ _ _ h => h) (by rfl) ?_
      iterate 16 refine zu_ HT_ rfl rfl (by kernel_rfl) (fun _ _ _ h => h) (by rfl) ?_
      refine zp_ HT_ rfl rfl (by kernel_rfl) (fun _ _ _ h => h) (by rfl) ?_
      refine done_ (done_of HT_.out (by kernel_rfl)) ?_
      try go_wp2
      go_meet
      case rel => exact ⟨_, (true), z9_, H', ⟨z153_⟩, ⟨z0_⟩⟩
    case rest =>
     clear HC5
     try clear c1
     try clear p2
     try clear c4
     try clear p4
     try clear q4
     try clear hx4
     try clear c6
     try clear c8
     try clear c10
     try clear hx416_0
     try clear hx416_1
     try clear hx418_0
     try clear hx418_1
     try clear p416
     try clear p418
     try clear q416
     try clear q418
     obtain ⟨kq, x50_4, rfl, HA, HJ4, HB⟩ := hcut
     cases kq with
     | zero => exact absurd HA.out (by simp [spec_MapOk.j1])
     | succ kj4 =>
      have H := HA.out
      clear HA
      simp only [spec_MapOk.j1] at H
      by_cases c26 : x50_4 = true
      ·subst c26
       replace H := ift_ H
       obtain rfl := Option.some.inj H
       go_wp2
       go_ret
       exact ⟨z7_, z0_⟩
      ·replace c26 := Bool.eq_false_iff.mpr c26
       subst c26
       replace H := iff_ H
       have H' := Aside0.mk H
       clear H
       go_wp2
       go_loopg [8] kj4 (fun kq v8 w' => ∃ (x8_3 : Int), v8 = .int .i64 x8_3 ∧ Aside0 (spec_MapOk.l1 kq l0 l1 l2 x7_1 x8_3 = some r) ∧ Aside0 (kq ≤ kj4) ∧ Aside0 (Below w.heap.size w w'))
       case atStart => exact ⟨(0), z9_, H', ⟨Nat.le_refl _⟩, ⟨z0_⟩⟩
       case round =>
        clear H'
        try clear c1
        try clear c2
        try clear p2
        try clear c4
        try clear p4
        try clear q4
        try clear hx4
        try clear c6
        try clear c8
        try clear c10
        try clear c26
        try clear hx416_0
        try clear hx416_1
        try clear hx418_0
        try clear hx418_1
        try clear p2
        try clear p4
        try clear p416
        try clear p418
        try clear q4
        try clear q416
        try clear q418
        obtain ⟨x8_3, rfl, HA, HK3, HB⟩ := hrel
        cases gk with
        | zero => exact absurd HA.out (by simp [spec_MapOk.l1])
        | succ k3 =>
         have H := HA.out
         clear HA
         simp only [spec_MapOk.l1] at H
         by_cases c27 : x8_3 < x7_1
         ·rw [if_pos c27] at H
          have c27b0 := decide_eq_true c27
          clear c27
          obtain ⟨c28b0, H⟩ := ifd_ H
          obtain ⟨c29b0, H⟩ := ifd_ H
          obtain ⟨c30b0, H⟩ := ifd_ H
          obtain ⟨c31b0, H⟩ := ifd_ H
          by_cases c32 : ((rd_T47 l2 x8_3).f1) ≥ ((rd_T47 l2 x7_1).f1)
          ·rw [if_pos c32] at H
           have c32b0 := decide_eq_true c32
           clear c32
           obtain rfl := Option.some.inj H
           try go_wp2
           have n0_ := Aside0.mk (below_drew1 HB.out)
           clear HB
           have HB := n0_
           clear n0_
           obtain ⟨p422, q422, ad422, e422, hw422_0, hw422_1, hx422_0, hx422_1⟩ := atw47_ HR2 HB x8_3
           cases e422
           obtain ⟨p423, q423, ad423, e423, hw423_0, hw423_1, hx423_0, hx423_1⟩ := atw47_ HR2 HB x7_1
           obtain rfl : ad422 = ad423 := (by injection e423)
           refine start_ (n := 38) (S := fun w' => w'.cell? (ad422.add ((x8_3).toNat * 2)) = some (.int .i64 ((rd_T47 l2 x8_3).f0)) ∧ w'.cell? ⟨(ad422.add ((x8_3).toNat * 2)).block, (ad422.add ((x8_3).toNat * 2)).off + 1, none⟩ = some (.int .i64 ((rd_T47 l2 x8_3).f1)) ∧ w'.cell? (ad422.add ((x7_1).toNat * 2)) = some (.int .i64 ((rd_T47 l2 x7_1).f0)) ∧ w'.cell? ⟨(ad422.add ((x7_1).toNat * 2)).block, (ad422.add ((x7_1).toNat * 2)).off + 1, none⟩ = some (.int .i64 ((rd_T47 l2 x7_1).f1))) (ds := []) (fl_ 38 0) (by kernel_rfl) rfl (fl_zero _) ⟨((HB.out.cell (World.block_lt_of_cell? w _ hw422_0)).trans hw422_0), ((HB.out.cell (World.block_lt_of_cell? w _ hw422_1)).trans hw422_1), ((HB.out.cell (World.block_lt_of_cell? w _ hw423_0)).trans hw423_0), ((HB.out.cell (World.block_lt_of_cell? w _ hw423_1)).trans hw423_1)⟩ (fun hHeld => ?_); refine with_tabW spec_MapOk.tab9 spec_MapOk.bits9 (fun HT_ HW_ => ?_)
           generalize wr.drew = w33 at HB hx422_0 hx422_1 hx423_0 hx423_1 hHeld ⊢
           iterate 4 refine zp_ HT_ rfl rfl (by kernel_rfl) (fun _ _ _ h => h) (by rfl) ?_
           refine zpg_ (i := 5) (ra_ [4, 1, 1, 32]) HT_ rfl rfl (by kernel_rfl) (fun _ _ _ h => h) (by rfl) ?_
           refine zpg_ (i := 6) (ra_ [4, 1, 2, 31]) HT_ rfl rfl (by kernel_rfl) (fun _ _ _ h => h) (by rfl) ?_
           refine zpg_ (i := 7) (ra_ [4, 1, 3, 30]) HT_ rfl rfl (by kernel_rfl) (fun _ _ _ h => h) (by rfl) ?_
           refine zpg_ (i := 8) (ra_ [4, 1, 4, 29]) HT_ rfl rfl (by kernel_rfl) (fun _ _ _ h => h) (by rfl) ?_
           refine ztg_ (i := 4) (fl_ 38 9) HT_ HW_ rfl rfl (by kernel_rfl) (fun _ _ _ h => h) (by rfl) hHeld ?_ z90_
           refine zt_ HT_ HW_ rfl rfl (by kernel_rfl) (fun _ _ _ h => h) (by rfl) hHeld ?_ z90_
           iterate 2 refine zp_ HT_ rfl rfl (by kernel_rfl) (fun _ _ _ h => h) (by rfl) ?_
           iterate 25 refine zu_ HT_ rfl rfl (by kernel_rfl) (fun _ _ _ h => h) (by rfl) ?_
           refine zp_ HT_ rfl rfl (by kernel_rfl) (fun _ _ _ h => h) (by rfl) ?_
           refine done_ (done_of HT_.out (by kernel_rfl)) ?_
           try go_wp2
           go_ret
           exact ⟨z7_, z0_⟩
          ·rw [if_neg c32] at H
           have c32b0 := decide_eq_false c32
           clear c32
           obtain ⟨t426, A34, H⟩ := bnd_ H
           obtain ⟨t429, A35, H⟩ := bnd_ H
           by_cases c36 : (t426 != t429) = true
           ·rw [if_pos c36] at H
            have c36b0 : (t426 != t429) = true := c36
            (try (have c36b1 : decide (t426 = t429) = false := by simpa using c36))
            (try (have c36b2 : (t426 == t429) = false := by simpa using c36))
            (try (have c36b3 : ¬ (t426 = t429) := by simpa using c36))
            clear c36
            obtain rfl := Option.some.inj H
            try go_wp2
            have n0_ := Aside0.mk (below_drew1 HB.out)
            clear HB
            have HB := n0_
            clear n0_
            obtain ⟨p422, q422, ad422, e422, hw422_0, hw422_1, hx422_0, hx422_1⟩ := atw47_ HR2 HB x8_3
            cases e422
            obtain ⟨p423, q423, ad423, e423, hw423_0, hw423_1, hx423_0, hx423_1⟩ := atw47_ HR2 HB x7_1
            obtain rfl : ad422 = ad423 := (by injection e423)
            obtain ⟨p424, q424, ad424, e424, hw424_0, hw424_1, hx424_0, hx424_1⟩ := atw47_ HR2 HB x8_3
            obtain rfl : ad422 = ad424 := (by injection e424)
            obtain ⟨p425, q425, ad425, e425, hw425_0, hw425_1, hx425_0, hx425_1⟩ := atw47_ HR2 HB x7_1
            obtain rfl : ad422 = ad425 := (by injection e425)
            obtain ⟨p427, q427, ad427, e427, hw427_0, hw427_1, hx427_0, hx427_1⟩ := atw47_ HR2 HB x8_3
            obtain rfl : ad422 = ad427 := (by injection e427)
            obtain ⟨p428, q428, ad428, e428, hw428_0, hw428_1, hx428_0, hx428_1⟩ := atw47_ HR2 HB x7_1
            obtain rfl : ad422 = ad428 := (by injection e428)
            refine start_ (n := 38) (S := fun w' => w'.cell? (ad422.add ((x8_3).toNat * 2)) = some (.int .i64 ((rd_T47 l2 x8_3).f0)) ∧ w'.cell? ⟨(ad422.add ((x8_3).toNat * 2)).block, (ad422.add ((x8_3).toNat * 2)).off + 1, none⟩ = some (.int .i64 ((rd_T47 l2 x8_3).f1)) ∧ w'.cell? (ad422.add ((x7_1).toNat * 2)) = some (.int .i64 ((rd_T47 l2 x7_1).f0)) ∧ w'.cell? ⟨(ad422.add ((x7_1).toNat * 2)).block, (ad422.add ((x7_1).toNat * 2)).off + 1, none⟩ = some (.int .i64 ((rd_T47 l2 x7_1).f1))) (ds := []) (fl_ 38 0) (by kernel_rfl) rfl (fl_zero _) ⟨((HB.out.cell (World.block_lt_of_cell? w _ hw422_0)).trans hw422_0), ((HB.out.cell (World.block_lt_of_cell? w _ hw422_1)).trans hw422_1), ((HB.out.cell (World.block_lt_of_cell? w _ hw423_0)).trans hw423_0), ((HB.out.cell (World.block_lt_of_cell? w _ hw423_1)).trans hw423_1)⟩ (fun hHeld => ?_); refine with_tabW spec_MapOk.tab9 spec_MapOk.bits9 (fun HT_ HW_ => ?_)
            generalize wr.drew = w37 at HB hx422_0 hx422_1 hx423_0 hx423_1 hx424_0 hx424_1 hx425_0 hx425_1 hx427_0 hx427_1 hx428_0 hx428_1 hHeld ⊢
            iterate 4 refine zp_ HT_ rfl rfl (by kernel_rfl) (fun _ _ _ h => h) (by rfl) ?_
            refine zpg_ (i := 5) (ra_ [4, 1, 1, 32]) HT_ rfl rfl (by kernel_rfl) (fun _ _ _ h => h) (by rfl) ?_
            refine zpg_ (i := 6) (ra_ [4, 1, 2, 31]) HT_ rfl rfl (by kernel_rfl) (fun _ _ _ h => h) (by rfl) ?_
            refine zpg_ (i := 7) (ra_ [4, 1, 3, 30]) HT_ rfl rfl (by kernel_rfl) (fun _ _ _ h => h) (by rfl) ?_
            refine zpg_ (i := 8) (ra_ [4, 1, 4, 29]) HT_ rfl rfl (by kernel_rfl) (fun _ _ _ h => h) (by rfl) ?_
            refine ztg_ (i := 4) (fl_ 38 9) HT_ HW_ rfl rfl (by kernel_rfl) (fun _ _ _ h => h) (by rfl) hHeld ?_ z90_
            refine zt_ HT_ HW_ rfl rfl (by kernel_rfl) (fun _ _ _ h => h) (by rfl) hHeld ?_ z90_
            iterate 7 refine zp_ HT_ rfl rfl (by kernel_rfl) (fun _ _ _ h => h) (by rfl) ?_
            refine zpg_ (i := 18) (ra_ [17, 1, 1, 19]) HT_ rfl rfl (by kernel_rfl) (fun _ _ _ h => h) (by rfl) ?_
            refine zpg_ (i := 19) (ra_ [17, 1, 2, 18]) HT_ rfl rfl (by kernel_rfl) (fun _ _ _ h => h) (by rfl) ?_
            refine zpg_ (i := 20) (ra_ [17, 1, 3, 17]) HT_ rfl rfl (by kernel_rfl) (fun _ _ _ h => h) (by rfl) ?_
            refine zpg_ (i := 21) (ra_ [17, 1, 4, 16]) HT_ rfl rfl (by kernel_rfl) (fun _ _ _ h => h) (by rfl) ?_
            refine zpg_ (i := 24) (ra_ [17, 1, 4, 2, 1, 13]) HT_ rfl rfl (by kernel_rfl) (fun _ _ _ h => h) (by rfl) ?_
            refine zpg_ (i := 25) (ra_ [17, 1, 4, 2, 2, 12]) HT_ rfl rfl (by kernel_rfl) (fun _ _ _ h => h) (by rfl) ?_
            refine zpg_ (i := 26) (ra_ [17, 1, 4, 2, 3, 11]) HT_ rfl rfl (by kernel_rfl) (fun _ _ _ h => h) (by rfl) ?_
            refine zpg_ (i := 27) (ra_ [17, 1, 4, 2, 4, 10]) HT_ rfl rfl (by kernel_rfl) (fun _ _ _ h => h) (by rfl) ?_
            refine zpg_ (i := 28) (ra_ [17, 1, 4, 2, 5, 9]) HT_ rfl rfl (by kernel_rfl) (fun _ _ _ h => h) (by rfl) ?_
            refine zpg_ (i := 30) (ra_ [17, 1, 4, 2, 5, 1, 1, 7]) HT_ rfl rfl (by kernel_rfl) (fun _ _ _ h => h) (by rfl) ?_
            refine zpg_ (i := 31) (ra_ [17, 1, 4, 2, 5, 1, 2, 6]) HT_ rfl rfl (by kernel_rfl) (fun _ _ _ h => h) (by rfl) ?_
            refine zpg_ (i := 32) (ra_ [17, 1, 4, 2, 5, 1, 3, 5]) HT_ rfl rfl (by kernel_rfl) (fun _ _ _ h => h) (by rfl) ?_
            refine zpg_ (i := 33) (ra_ [17, 1, 4, 2, 5, 1, 4, 4]) HT_ rfl rfl (by kernel_rfl) (fun _ _ _ h => h) (by rfl) ?_
            refine ztg_ (i := 17) (ra_ [22, 2, 5, 1, 4, 4]) HT_ HW_ rfl rfl (by kernel_rfl) (fun _ _ _ h => h) (by rfl) hHeld ?_ z90_
            refine ztg_ (i := 22) (ra_ [23, 1, 5, 1, 4, 4]) HT_ HW_ rfl rfl (by kernel_rfl) (fun _ _ _ h => h) (by rfl) hHeld ?_ z90_
            refine ztg_ (i := 29) (ra_ [23, 1, 10, 4]) HT_ HW_ rfl rfl (by kernel_rfl) (fun _ _ _ h => h) (by rfl) hHeld ?_ z90_
            refine ztg_ (i := 34) (ra_ [23, 1, 11, 3]) HT_ HW_ rfl rfl (by kernel_rfl) (fun _ _ _ h => h) (by rfl) hHeld ?_ z90_
            refine one_ (i := 23) (N := some 79) (fl_ 38 35) rfl rfl (one_of HT_.out (by kernel_rfl)) (by decide) (fun K hK => ?_)
            refine goes_ Try.func44 (by kernel_rfl) rfl #[.slice A0 l0.length c0, .int .i64 ((rd_T47 l2 x8_3).f0), .int .i64 ((rd_T47 l2 x7_1).f0)] (by rfl) rfl rfl z4_ ?_
            with_reducible refine (spec_Under.calls k3 _ _ l0 ((rd_T47 l2 x8_3).f0) ((rd_T47 l2 x7_1).f0) t426 _ ?side1 ?side2 A34.out).mono ?_
            (case side1 => exact z8_)
            (case side2 => exact HC0.out)
            rintro e w38 ⟨rfl, hb⟩
            refine ⟨_, rfl, ?_⟩
            have n0_ := Aside0.mk (below_step z0_ hb)
            clear HB
            have HB := n0_
            clear n0_
            (try clear hb)
            (try clear hb2)
            (try clear hk)
            (try clear hi)
            refine hK.out _ _ ⟨((HB.out.cell (World.block_lt_of_cell? w _ hw422_0)).trans hw422_0), ((HB.out.cell (World.block_lt_of_cell? w _ hw422_1)).trans hw422_1), ((HB.out.cell (World.block_lt_of_cell? w _ hw423_0)).trans hw423_0), ((HB.out.cell (World.block_lt_of_cell? w _ hw423_1)).trans hw423_1)⟩ (fun hHeld => ?_)
            clear hK K
            refine zn_ rfl ?_
            refine one_ (i := 35) (N := some 91) (fl_ 38 36) rfl rfl (one_of HT_.out (by kernel_rfl)) (by decide) (fun K hK => ?_)
            refine goes_ Try.func44 (by kernel_rfl) rfl #[.slice A1 l1.length c1, .int .i64 ((rd_T47 l2 x8_3).f1), .int .i64 ((rd_T47 l2 x7_1).f1)] (by rfl) rfl rfl z4_ ?_
            with_reducible refine (spec_Under.calls k3 _ _ l1 ((rd_T47 l2 x8_3).f1) ((rd_T47 l2 x7_1).f1) t429 _ ?side1 ?side2 A35.out).mono ?_
            (case side1 => exact z24_)
            (case side2 => exact HC1.out)
            rintro e w39 ⟨rfl, hb⟩
            refine ⟨_, rfl, ?_⟩
            have n0_ := Aside0.mk (below_step z0_ hb)
            clear HB
            have HB := n0_
            clear n0_
            (try clear hb)
            (try clear hb2)
            (try clear hk)
            (try clear hi)
            refine hK.out _ _ ⟨((HB.out.cell (World.block_lt_of_cell? w _ hw422_0)).trans hw422_0), ((HB.out.cell (World.block_lt_of_cell? w _ hw422_1)).trans hw422_1), ((HB.out.cell (World.block_lt_of_cell? w _ hw423_0)).trans hw423_0), ((HB.out.cell (World.block_lt_of_cell? w _ hw423_1)).trans hw423_1)⟩ (fun hHeld => ?_)
            clear hK K
            refine zn_ rfl ?_
            iterate 2 refine zp_ HT_ rfl rfl (by kernel_rfl) (fun _ _ _ h => h) (by rfl) ?_
            refine done_ (done_of HT_.out (by kernel_rfl)) ?_
            try go_wp2
            go_ret
            exact ⟨z7_, z0_⟩
           ·rw [if_neg c36] at H
            have c36b0 : (t426 != t429) = false := by simpa using c36
            (try (have c36b1 : decide (t426 = t429) = true := by simpa using c36))
            (try (have c36b2 : (t426 == t429) = true := by simpa using c36))
            clear c36
            have H' := Aside0.mk H
            clear H
            try go_wp2
            have n0_ := Aside0.mk (below_drew1 HB.out)
            clear HB
            have HB := n0_
            clear n0_
            obtain ⟨p422, q422, ad422, e422, hw422_0, hw422_1, hx422_0, hx422_1⟩ := atw47_ HR2 HB x8_3
            cases e422
            obtain ⟨p423, q423, ad423, e423, hw423_0, hw423_1, hx423_0, hx423_1⟩ := atw47_ HR2 HB x7_1
            obtain rfl : ad422 = ad423 := (by injection e423)
            obtain ⟨p424, q424, ad424, e424, hw424_0, hw424_1, hx424_0, hx424_1⟩ := atw47_ HR2 HB x8_3
            obtain rfl : ad422 = ad424 := (by injection e424)
            obtain ⟨p425, q425, ad425, e425, hw425_0, hw425_1, hx425_0, hx425_1⟩ := atw47_ HR2 HB x7_1
            obtain rfl : ad422 = ad425 := (by injection e425)
            obtain ⟨p427, q427, ad427, e427, hw427_0, hw427_1, hx427_0, hx427_1⟩ := atw47_ HR2 HB x8_3
            obtain rfl : ad422 = ad427 := (by injection e427)
            obtain ⟨p428, q428, ad428, e428, hw428_0, hw428_1, hx428_0, hx428_1⟩ := atw47_ HR2 HB x7_1
            obtain rfl : ad422 = ad428 := (by injection e428)
            refine start_ (n := 38) (S := fun w' => w'.cell? (ad422.add ((x8_3).toNat * 2)) = some (.int .i64 ((rd_T47 l2 x8_3).f0)) ∧ w'.cell? ⟨(ad422.add ((x8_3).toNat * 2)).block, (ad422.add ((x8_3).toNat * 2)).off + 1, none⟩ = some (.int .i64 ((rd_T47 l2 x8_3).f1)) ∧ w'.cell? (ad422.add ((x7_1).toNat * 2)) = some (.int .i64 ((rd_T47 l2 x7_1).f0)) ∧ w'.cell? ⟨(ad422.add ((x7_1).toNat * 2)).block, (ad422.add ((x7_1).toNat * 2)).off + 1, none⟩ = some (.int .i64 ((rd_T47 l2 x7_1).f1))) (ds := []) (fl_ 38 0) (by kernel_rfl) rfl (fl_zero _) ⟨((HB.out.cell (World.block_lt_of_cell? w _ hw422_0)).trans hw422_0), ((HB.out.cell (World.block_lt_of_cell? w _ hw422_1)).trans hw422_1), ((HB.out.cell (World.block_lt_of_cell? w _ hw423_0)).trans hw423_0), ((HB.out.cell (World.block_lt_of_cell? w _ hw423_1)).trans hw423_1)⟩ (fun hHeld => ?_); refine with_tabW spec_MapOk.tab9 spec_MapOk.bits9 (fun HT_ HW_ => ?_)
            generalize wr.drew = w40 at HB hx422_0 hx422_1 hx423_0 hx423_1 hx424_0 hx424_1 hx425_0 hx425_1 hx427_0 hx427_1 hx428_0 hx428_1 hHeld ⊢
            iterate 4 refine zp_ HT_ rfl rfl (by kernel_rfl) (fun _ _ _ h => h) (by rfl) ?_
            refine zpg_ (i := 5) (ra_ [4, 1, 1, 32]) HT_ rfl rfl (by kernel_rfl) (fun _ _ _ h => h) (by rfl) ?_
            refine zpg_ (i := 6) (ra_ [4, 1, 2, 31]) HT_ rfl rfl (by kernel_rfl) (fun _ _ _ h => h) (by rfl) ?_
            refine zpg_ (i := 7) (ra_ [4, 1, 3, 30]) HT_ rfl rfl (by kernel_rfl) (fun _ _ _ h => h) (by rfl) ?_
            refine zpg_ (i := 8) (ra_ [4, 1, 4, 29]) HT_ rfl rfl (by kernel_rfl) (fun _ _ _ h => h) (by rfl) ?_
            refine ztg_ (i := 4) (fl_ 38 9) HT_ HW_ rfl rfl (by kernel_rfl) (fun _ _ _ h => h) (by rfl) hHeld ?_ z90_
            refine zt_ HT_ HW_ rfl rfl (by kernel_rfl) (fun _ _ _ h => h) (by rfl) hHeld ?_ z90_
            iterate 7 refine zp_ HT_ rfl rfl (by kernel_rfl) (fun _ _ _ h => h) (by rfl) ?_
            refine zpg_ (i := 18) (ra_ [17, 1, 1, 19]) HT_ rfl rfl (by kernel_rfl) (fun _ _ _ h => h) (by rfl) ?_
            refine zpg_ (i := 19) (ra_ [17, 1, 2, 18]) HT_ rfl rfl (by kernel_rfl) (fun _ _ _ h => h) (by rfl) ?_
            refine zpg_ (i := 20) (ra_ [17, 1, 3, 17]) HT_ rfl rfl (by kernel_rfl) (fun _ _ _ h => h) (by rfl) ?_
            refine zpg_ (i := 21) (ra_ [17, 1, 4, 16]) HT_ rfl rfl (by kernel_rfl) (fun _ _ _ h => h) (by rfl) ?_
            refine zpg_ (i := 24) (ra_ [17, 1, 4, 2, 1, 13]) HT_ rfl rfl (by kernel_rfl) (fun _ _ _ h => h) (by rfl) ?_
            refine zpg_ (i := 25) (ra_ [17, 1, 4, 2, 2, 12]) HT_ rfl rfl (by kernel_rfl) (fun _ _ _ h => h) (by rfl) ?_
            refine zpg_ (i := 26) (ra_ [17, 1, 4, 2, 3, 11]) HT_ rfl rfl (by kernel_rfl) (fun _ _ _ h => h) (by rfl) ?_
            refine zpg_ (i := 27) (ra_ [17, 1, 4, 2, 4, 10]) HT_ rfl rfl (by kernel_rfl) (fun _ _ _ h => h) (by rfl) ?_
            refine zpg_ (i := 28) (ra_ [17, 1, 4, 2, 5, 9]) HT_ rfl rfl (by kernel_rfl) (fun _ _ _ h => h) (by rfl) ?_
            refine zpg_ (i := 30) (ra_ [17, 1, 4, 2, 5, 1, 1, 7]) HT_ rfl rfl (by kernel_rfl) (fun _ _ _ h => h) (by rfl) ?_
            refine zpg_ (i := 31) (ra_ [17, 1, 4, 2, 5, 1, 2, 6]) HT_ rfl rfl (by kernel_rfl) (fun _ _ _ h => h) (by rfl) ?_
            refine zpg_ (i := 32) (ra_ [17, 1, 4, 2, 5, 1, 3, 5]) HT_ rfl rfl (by kernel_rfl) (fun _ _ _ h => h) (by rfl) ?_
            refine zpg_ (i := 33) (ra_ [17, 1, 4, 2, 5, 1, 4, 4]) HT_ rfl rfl (by kernel_rfl) (fun _ _ _ h => h) (by rfl) ?_
            refine ztg_ (i := 17) (ra_ [22, 2, 5, 1, 4, 4]) HT_ HW_ rfl rfl (by kernel_rfl) (fun _ _ _ h => h) (by rfl) hHeld ?_ z90_
            refine ztg_ (i := 22) (ra_ [23, 1, 5, 1, 4, 4]) HT_ HW_ rfl rfl (by kernel_rfl) (fun _ _ _ h => h) (by rfl) hHeld ?_ z90_
            refine ztg_ (i := 29) (ra_ [23, 1, 10, 4]) HT_ HW_ rfl rfl (by kernel_rfl) (fun _ _ _ h => h) (by rfl) hHeld ?_ z90_
            refine ztg_ (i := 34) (ra_ [23, 1, 11, 3]) HT_ HW_ rfl rfl (by kernel_rfl) (fun _ _ _ h => h) (by rfl) hHeld ?_ z90_
            refine one_ (i := 23) (N := some 79) (fl_ 38 35) rfl rfl (one_of HT_.out (by kernel_rfl)) (by decide) (fun K hK => ?_)
            refine goes_ Try.func44 (by kernel_rfl) rfl #[.slice A0 l0.length c0, .int .i64 ((rd_T47 l2 x8_3).f0), .int .i64 ((rd_T47 l2 x7_1).f0)] (by rfl) rfl rfl z4_ ?_
            with_reducible refine (spec_Under.calls k3 _ _ l0 ((rd_T47 l2 x8_3).f0) ((rd_T47 l2 x7_1).f0) t426 _ ?side1 ?side2 A34.out).mono ?_
            (case side1 => exact z8_)
            (case side2 => exact HC0.out)
            rintro e w41 ⟨rfl, hb⟩
            refine ⟨_, rfl, ?_⟩
            have n0_ := Aside0.mk (below_step z0_ hb)
            clear HB
            have HB := n0_
            clear n0_
            (try clear hb)
            (try clear hb2)
            (try clear hk)
            (try clear hi)
            refine hK.out _ _ ⟨((HB.out.cell (World.block_lt_of_cell? w _ hw422_0)).trans hw422_0), ((HB.out.cell (World.block_lt_of_cell? w _ hw422_1)).trans hw422_1), ((HB.out.cell (World.block_lt_of_cell? w _ hw423_0)).trans hw423_0), ((HB.out.cell (World.block_lt_of_cell? w _ hw423_1)).trans hw423_1)⟩ (fun hHeld => ?_)
            clear hK K
            refine zn_ rfl ?_
            refine one_ (i := 35) (N := some 91) (fl_ 38 36) rfl rfl (one_of HT_.out (by kernel_rfl)) (by decide) (fun K hK => ?_)
            refine goes_ Try.func44 (by kernel_rfl) rfl #[.slice A1 l1.length c1, .int .i64 ((rd_T47 l2 x8_3).f1), .int .i64 ((rd_T47 l2 x7_1).f1)] (by rfl) rfl rfl z4_ ?_
            with_reducible refine (spec_Under.calls k3 _ _ l1 ((rd_T47 l2 x8_3).f1) ((rd_T47 l2 x7_1).f1) t429 _ ?side1 ?side2 A35.out).mono ?_
            (case side1 => exact z24_)
            (case side2 => exact HC1.out)
            rintro e w42 ⟨rfl, hb⟩
            refine ⟨_, rfl, ?_⟩
            have n0_ := Aside0.mk (below_step z0_ hb)
            clear HB
            have HB := n0_
            clear n0_
            (try clear hb)
            (try clear hb2)
            (try clear hk)
            (try clear hi)
            refine hK.out _ _ ⟨((HB.out.cell (World.block_lt_of_cell? w _ hw422_0)).trans hw422_0), ((HB.out.cell (World.block_lt_of_cell? w _ hw422_1)).trans hw422_1), ((HB.out.cell (World.block_lt_of_cell? w _ hw423_0)).trans hw423_0), ((HB.out.cell (World.block_lt_of_cell? w _ hw423_1)).trans hw423_1)⟩ (fun hHeld => ?_)
            clear hK K
            refine zn_ rfl ?_
            iterate 2 refine zp_ HT_ rfl rfl (by kernel_rfl) (fun _ _ _ h => h) (by rfl) ?_
            refine done_ (done_of HT_.out (by kernel_rfl)) ?_
            try go_wp2
            go_roundg k3
            case measure => have := HK1.out; have := HJ4.out; have := HK3.out; omega
            case rel => exact ⟨(wrap64 (x8_3 + 1)), z9_, H', ⟨by have := HK1.out; have := HJ4.out; have := HK3.out; omega⟩, ⟨z0_⟩⟩
         ·rw [if_neg c27] at H
          have c27b0 := decide_eq_false c27
          clear c27
          have H' := Aside0.mk H
          clear H
          go_wp2
          go_roundg k3
          case measure => have := HK1.out; have := HJ4.out; have := HK3.out; omega
          case rel => exact ⟨(wrap64 (x7_1 + 1)), z9_, H', ⟨by have := HK1.out; have := HJ4.out; have := HK3.out; omega⟩, ⟨z0_⟩⟩
   ·rw [if_neg c4] at H
    have c4b0 := decide_eq_false c4
    clear c4
    obtain ⟨t414, A43, H⟩ := bnd_ H
    by_cases c44 : t414 = true
    ·subst c44
     replace H := ift_ H
     obtain ⟨t415, A45, H⟩ := bnd_ H
     obtain rfl := Option.some.inj H
     go_wp2_with (first | ((with_reducible refine gate_callee (f := 16) rfl ?_); refine goesL_ (some 95) rfl rfl Try.func16 (by kernel_rfl) rfl #[.slice A0 l0.length c0] rfl z4_ ?_; (with_reducible refine (spec_TreeOk.calls k1 _ _ l0 true _ ?side1 ?side2 A43.out).mono ?_); (case side1 => exact z8_); (case side2 => exact HC0.out); rintro e w46 ⟨rfl, hb⟩; refine ⟨_, rfl, ?_⟩; replace HB := Aside0.mk (below_step z0_ hb); (try clear hb)) | (go_at_call 16; (with_reducible refine (spec_TreeOk.calls k1 _ _ l1 t415 _ ?side1 ?side2 A45.out).mono ?_); (case side1 => exact z24_); (case side2 => exact HC1.out); rintro e w47 ⟨rfl, hb⟩; replace HB := Aside0.mk (below_step z0_ hb); (try clear hb)))
     go_ret
     exact ⟨z7_, z0_⟩
    ·replace c44 := Bool.eq_false_iff.mpr c44
     subst c44
     replace H := iff_ H
     obtain rfl := Option.some.inj H
     go_wp2_with (first | ((with_reducible refine gate_callee (f := 16) rfl ?_); refine goesL_ (some 95) rfl rfl Try.func16 (by kernel_rfl) rfl #[.slice A0 l0.length c0] rfl z4_ ?_; (with_reducible refine (spec_TreeOk.calls k1 _ _ l0 false _ ?side1 ?side2 A43.out).mono ?_); (case side1 => exact z8_); (case side2 => exact HC0.out); rintro e w48 ⟨rfl, hb⟩; refine ⟨_, rfl, ?_⟩; replace HB := Aside0.mk (below_step z0_ hb); (try clear hb)))
     go_ret
     exact ⟨z7_, z0_⟩

end Go.Proofs.Ytbiffnahknkoiaa.PFnKept
