/- Laid by a program of this session out of the kit's print for the law FnExactPatch: what it says of the machine is proved here, function by function; each contract under the conditions that it names. -/
import Derived.Test.YtbiffnahknkoiaaMFnExactPatchx0
import Derived.Test.YtbiffnahknkoiaaMFnExactPatchx1
import Derived.Test.YtbiffnahknkoiaaMFnExactPatchx2
import Derived.Test.YtbiffnahknkoiaaMFnExactPatchx4
import Derived.Test.YtbiffnahknkoiaaMFnExactPatchx5
import Derived.Test.YtbiffnahknkoiaaMFnExactPatchx6
import Derived.Test.YtbiffnahknkoiaaMFnExactPatchx8
namespace Go.Proofs.Ytbiffnahknkoiaa.PFnExactPatch
open Go.RowKit Go.Proofs.YtbiffnahknkoiaaW.PrintWords Go.Proofs.YtbiffnahknkoiaaW.PrintLast Go.Proofs.YtbiffnahknkoiaaW.PrintMore
attribute [local go_sem] max2_int min2_int max_two min_two max_three min_three max_four min_four   -- for this text's walks alone
set_option linter.unusedVariables false
set_option linter.unusedSimpArgs false

/-! ### spec_ApplyAll: function 31 -/
def spec_ApplyAll.l0 : Nat → List (S100) → List (S45) → Int → Option ((List (S45)) × Int × Int)
 | 0, _, _, _ => none
 | k + 1, x1, x7, x8 => if x8 < (x1.length : Int) then (if 0 ≤ x8 then ((spec_ApplyOp.f k x7 ((rd_T100 x1 x8).f0) ((rd_T100 x1 x8).f1) ((rd_T100 x1 x8).f2) ((rd_T100 x1 x8).f3) ((rd_T100 x1 x8).f4)).bind fun bt336 => (if bt336.2 = 0 then (spec_ApplyAll.l0 k x1 bt336.1 (wrap64 (x8 + 1))) else (some (x7, x8, bt336.2)))) else (none)) else (some (x7, (x1.length : Int), 0))
def spec_ApplyAll.f (k : Nat) (l0 : List (S45)) (l1 : List (S100)) : Option ((List (S45)) × Int × Int) := (spec_TreeOk.f k l0).bind fun t328 => (if t328 = true then ((spec_l3Copy.f l0).bind fun t332 => (spec_ApplyAll.l0 k l1 t332 0)) else (some ((([] : List (S45))), 0, 2)))
set_option maxHeartbeats 8000000 in
set_option maxRecDepth 100000 in
theorem spec_ApplyAll.calls (k : Nat) (A0 : Option Addr) (c0 : Nat) (l0 : List (S45)) (A1 : Option Addr) (c1 : Nat) (l1 : List (S100)) (r1 : List (S45)) (r2 : Int) (r3 : Int) (w : World) (hr0 : Kd.C k45 w A0 l0.length l0) (hc0 : l0.length ≤ c0) (hr1 : Kd.C k100 w A1 l1.length l1) (hc1 : l1.length ≤ c1) (h : spec_ApplyAll.f k l0 l1 = some (r1, r2, r3)) :
  Calls Try.prog 31 #[.slice A0 l0.length c0, .slice A1 l1.length c1] w fun e w' => ∃ v0_ : Value, e = .returned (.tuple #[v0_, .int .i64 r2, .int .i64 r3]) ∧ Kd.R k45 45 w' w.heap.size (fun _ => True) v0_ r1 ∧ Below w.heap.size w w' := by
 have hu100 := Try.underlying100
 have HR0 := Aside0.mk hr0
 have HC0 := Aside0.mk hc0
 clear hr0 hc0
 have HR1 := Aside0.mk hr1
 have HC1 := Aside0.mk hc1
 clear hr1 hc1
 have HB := Aside0.mk (Below.refl w.heap.size w)
 have H : ((spec_TreeOk.f k l0).bind fun t328 => (if t328 = true then ((spec_l3Copy.f l0).bind fun t332 => (spec_ApplyAll.l0 k l1 t332 0)) else (some ((([] : List (S45))), 0, 2)))) = some (r1, r2, r3) := h
 clear h
 obtain ⟨t328, A3, H⟩ := bnd_ H
 by_cases c4 : t328 = true
 ·subst c4
  replace H := ift_ H
  obtain ⟨t332, A5, H⟩ := bnd_ H
  have H' := Aside0.mk H
  clear H
  go_enter Try.func31, Try.ntmps31
  go_wp2_with (first | ((with_reducible refine gate_callee (f := 16) rfl ?_); refine goesL_ (some 12) rfl rfl Try.func16 (by kernel_rfl) rfl #[.slice A0 l0.length c0] rfl z1_ ?_; (with_reducible refine (spec_TreeOk.calls k _ _ l0 true _ ?side1 ?side2 A3.out).mono ?_); (case side1 => exact z24_); (case side2 => exact HC0.out); rintro e w6 ⟨rfl, hb⟩; refine ⟨_, rfl, ?_⟩; replace HB := Aside0.mk (below_step z0_ hb); (try clear hb)) | ((with_reducible refine gate_callee (f := 45) rfl ?_); refine goesL_ (some 16) rfl rfl Try.func45 (by kernel_rfl) rfl #[.slice A0 l0.length c0] rfl z1_ ?_; (with_reducible refine (spec_l3Copy.calls _ _ l0 t332 _ ?side1 ?side2 A5.out).mono ?_); (case side1 => exact z2_); (case side2 => exact HC0.out); rintro e w7 ⟨v333, rfl, ho0, hb⟩; refine ⟨_, rfl, ?_⟩; have HO334 := Aside0.mk (Kd.R_lower ho0 (below_size z0_)); replace HB := Aside0.mk (below_step z0_ hb); (try clear hb ho0)))
  go_loopg [7, 8] k (fun kq v7 v8 w' => ∃ (x7_1 : List (S45)) (x8_1 : Int), v8 = .int .i64 x8_1 ∧ Aside0 (spec_ApplyAll.l0 kq l1 x7_1 x8_1 = some (r1, r2, r3)) ∧ Aside0 (kq ≤ k) ∧ Aside0 (Kd.R k45 45 w' w.heap.size (fun _ => True) v7 x7_1) ∧ Aside0 (Below w.heap.size w w'))
  case atStart => exact ⟨(t332), (0), z8_, H', ⟨Nat.le_refl _⟩, ⟨by (with_reducible repeat (first | apply Kd.R_alloc | apply Kd.R_drewN | apply Kd.R_drew)); exact HO334.out⟩, ⟨z0_⟩⟩
  case round =>
   clear H'
   try clear c1
   try clear p2
   try clear c3
   try clear c4
   obtain ⟨x7_1, x8_1, rfl, HA, HK1, HO_7, HB⟩ := hrel
   cases gk with
   | zero => exact absurd HA.out (by simp [spec_ApplyAll.l0])
   | succ k1 =>
    have H := HA.out
    clear HA
    simp only [spec_ApplyAll.l0] at H
    by_cases c8 : x8_1 < (l1.length : Int)
    ·rw [if_pos c8] at H
     have c8b0 := decide_eq_true c8
     clear c8
     obtain ⟨c9b0, H⟩ := ifd_ H
     replace H := Option.bind_eq_some_iff.mp H
     obtain ⟨⟨t336, t339⟩, A100, H⟩ := H
     try dsimp only at H
     have A10 := Aside0.mk A100
     clear A100
     by_cases c11 : t339 = 0
     ·rw [if_pos c11] at H
      have c11b0 : (t339 == 0) = true := beq_iff_eq.mpr c11
      have c11b1 : (t339 != 0) = false := bne_eq_false_iff_eq.mpr c11
      clear c11
      have H' := Aside0.mk H
      clear H
      have p335 : 0 ≤ (x8_1 : Int) := odt_
      have q335 : x8_1 < (l1.length : Int) := odt_
      obtain ⟨ad335, A335_1, c335_1, e335, hx335_0, hx335_1, hx335_2, hx335_3, hx335_4, hl335_1, hi335_1⟩ := at_T100 HR1.out x8_1 p335 q335
      cases e335
      replace hx335_0 := (HB.out.cell (World.block_lt_of_cell? w _ hx335_0)).trans hx335_0
      replace hx335_1 := (HB.out.cell (World.block_lt_of_cell? w _ hx335_1)).trans hx335_1
      replace hx335_2 := (HB.out.cell (World.block_lt_of_cell? w _ hx335_2)).trans hx335_2
      replace hx335_3 := (HB.out.cell (World.block_lt_of_cell? w _ hx335_3)).trans hx335_3
      replace hx335_4 := (HB.out.cell (World.block_lt_of_cell? w _ hx335_4)).trans hx335_4
      have HR335_1 := Aside0.mk hi335_1
      have HC335_1 := Aside0.mk hl335_1
      clear hi335_1 hl335_1
      replace p335 := eq_true p335
      replace q335 := eq_true q335
      obtain ⟨Ao12, co12, eo12⟩ := Kd.R_slice HO_7.out
      subst eo12
      go_wp2_with (first | ((with_reducible refine gate_callee (f := 64) rfl ?_); refine goesL_ (some 29) rfl rfl Try.func64 (by kernel_rfl) rfl #[.slice Ao12 x7_1.length co12, .agg #[.int .i64 ((rd_T100 l1 x8_1).f0), .slice A335_1 ((rd_T100 l1 x8_1).f1).length c335_1, .int .i64 ((rd_T100 l1 x8_1).f2), .int .i64 ((rd_T100 l1 x8_1).f3), .int .i64 ((rd_T100 l1 x8_1).f4)]] rfl z1_ ?_; (with_reducible refine (spec_ApplyOp.calls k1 _ _ x7_1 ((rd_T100 l1 x8_1).f0) _ _ ((rd_T100 l1 x8_1).f1) ((rd_T100 l1 x8_1).f2) ((rd_T100 l1 x8_1).f3) ((rd_T100 l1 x8_1).f4) t336 t339 _ ?side1 ?side2 ?side3 ?side4 A10.out).mono ?_); (case side1 => exact z117_); (case side2 => exact z153_); (case side3 => exact z111_); (case side4 => exact HC335_1.out); rintro e w13 ⟨v337, rfl, ho0, hb⟩; refine ⟨_, rfl, ?_⟩; have HO338 := Aside0.mk (Kd.R_lower (Kd.R_new' ho0 (Kd.R_lt z74_)) (below_size z0_)); replace HO_7 := Aside0.mk (Kd.R_elder' z74_ (Kd.R_base ho0) hb); replace HB := Aside0.mk (below_step z0_ hb); (try clear hb ho0)))
      go_roundg k1
      case measure => have := HK1.out; omega
      case rel => exact ⟨(t336), (wrap64 (x8_1 + 1)), z8_, H', ⟨z93_⟩, ⟨by (with_reducible repeat (first | apply Kd.R_alloc | apply Kd.R_drewN | apply Kd.R_drew)); exact Kd.R_mono HO338.out (fun _ hk => trivial)⟩, ⟨z0_⟩⟩
     ·rw [if_neg c11] at H
      have c11b0 : (t339 == 0) = false := beq_eq_false_iff_ne.mpr c11
      have c11b1 : (t339 != 0) = true := bne_iff_ne.mpr c11
      simp only [Option.some.injEq, Prod.mk.injEq] at H
      obtain ⟨rfl, rfl, rfl⟩ := H
      have p335 : 0 ≤ (x8_1 : Int) := odt_
      have q335 : x8_1 < (l1.length : Int) := odt_
      obtain ⟨ad335, A335_1, c335_1, e335, hx335_0, hx335_1, hx335_2, hx335_3, hx335_4, hl335_1, hi335_1⟩ := at_T100 HR1.out x8_1 p335 q335
      cases e335
      replace hx335_0 := (HB.out.cell (World.block_lt_of_cell? w _ hx335_0)).trans hx335_0
      replace hx335_1 := (HB.out.cell (World.block_lt_of_cell? w _ hx335_1)).trans hx335_1
      replace hx335_2 := (HB.out.cell (World.block_lt_of_cell? w _ hx335_2)).trans hx335_2
      replace hx335_3 := (HB.out.cell (World.block_lt_of_cell? w _ hx335_3)).trans hx335_3
      replace hx335_4 := (HB.out.cell (World.block_lt_of_cell? w _ hx335_4)).trans hx335_4
      have HR335_1 := Aside0.mk hi335_1
      have HC335_1 := Aside0.mk hl335_1
      clear hi335_1 hl335_1
      replace p335 := eq_true p335
      replace q335 := eq_true q335
      obtain ⟨Ao14, co14, eo14⟩ := Kd.R_slice HO_7.out
      subst eo14
      go_wp2_with (first | ((with_reducible refine gate_callee (f := 64) rfl ?_); refine goesL_ (some 29) rfl rfl Try.func64 (by kernel_rfl) rfl #[.slice Ao14 x7_1.length co14, .agg #[.int .i64 ((rd_T100 l1 x8_1).f0), .slice A335_1 ((rd_T100 l1 x8_1).f1).length c335_1, .int .i64 ((rd_T100 l1 x8_1).f2), .int .i64 ((rd_T100 l1 x8_1).f3), .int .i64 ((rd_T100 l1 x8_1).f4)]] rfl z1_ ?_; (with_reducible refine (spec_ApplyOp.calls k1 _ _ x7_1 ((rd_T100 l1 x8_1).f0) _ _ ((rd_T100 l1 x8_1).f1) ((rd_T100 l1 x8_1).f2) ((rd_T100 l1 x8_1).f3) ((rd_T100 l1 x8_1).f4) t336 t339 _ ?side1 ?side2 ?side3 ?side4 A10.out).mono ?_); (case side1 => exact z117_); (case side2 => exact z153_); (case side3 => exact z111_); (case side4 => exact HC335_1.out); rintro e w15 ⟨v337, rfl, ho0, hb⟩; refine ⟨_, rfl, ?_⟩; have HO338 := Aside0.mk (Kd.R_lower (Kd.R_new' ho0 (Kd.R_lt z74_)) (below_size z0_)); replace HO_7 := Aside0.mk (Kd.R_elder' z74_ (Kd.R_base ho0) hb); replace HB := Aside0.mk (below_step z0_ hb); (try clear hb ho0)))
      go_ret3
      exact ⟨_, z3_, z132_, z0_⟩
    ·rw [if_neg c8] at H
     have c8b0 := decide_eq_false c8
     clear c8
     simp only [Option.some.injEq, Prod.mk.injEq] at H
     obtain ⟨rfl, rfl, rfl⟩ := H
     go_wp2
     go_ret3
     exact ⟨_, z3_, z74_, z0_⟩
 ·replace c4 := Bool.eq_false_iff.mpr c4
  subst c4
  replace H := iff_ H
  first | ((with_reducible have hz_ := gy_ H); obtain ⟨y329, Ny329, H⟩ := hz_) | (generalize hy_ : ((([] : List (S45))) : List (S45)) = y329 at H; have Ny329 := Aside0.mk hy_.symm; clear hy_)
  simp only [Option.some.injEq, Prod.mk.injEq] at H
  obtain ⟨rfl, rfl, rfl⟩ := H
  go_enter Try.func31, Try.ntmps31
  go_wp2_with (first | ((with_reducible refine gate_callee (f := 16) rfl ?_); refine goesL_ (some 12) rfl rfl Try.func16 (by kernel_rfl) rfl #[.slice A0 l0.length c0] rfl z1_ ?_; (with_reducible refine (spec_TreeOk.calls k _ _ l0 false _ ?side1 ?side2 A3.out).mono ?_); (case side1 => exact z24_); (case side2 => exact HC0.out); rintro e w16 ⟨rfl, hb⟩; refine ⟨_, rfl, ?_⟩; replace HB := Aside0.mk (below_step z0_ hb); (try clear hb)) | ((with_reducible refine gate_dst (N := 14) rfl ?_); refine Kd.R_lit k45 _ 45 ?hg (N := 14) ?hd (xs := ([] : List (S45))) (inner := []) (ok := fun _ => True) (okp := fun _ => True) ?hr ?hp (fun _ hk => hk) trivial (Below.refl _ _) (Nat.le_refl _) (by simp) ?_; (case hd => rfl); (case hg => rfl); (case hr => exact z10_); (case hp => exact z75_); intro v330 w17 ho18 hb hg_ hnew_; clear hg_ hnew_; (first | rw [← Ny329.out] at ho18 | (simp only [Int.reduceToNat] at ho18; rw [← Ny329.out] at ho18)); have HO331 := Aside0.mk (Kd.R_lower ho18 (below_size z0_)); replace HB := Aside0.mk (below_step z0_ hb); clear hb ho18))
  go_ret3
  exact ⟨_, z3_, by (with_reducible repeat (first | apply Kd.R_alloc | apply Kd.R_drewN | apply Kd.R_drew)); exact HO331.out, z0_⟩

/-! ### spec_PutTree: function 32 -/
def spec_PutTree.l0 : Nat → List (S45) → ByteArray → Int → Option (ByteArray)
 | 0, _, _, _ => none
 | k + 1, x0, x3, x4 => if x4 < (x0.length : Int) then (if 0 ≤ x4 then ((spec_Var.f k ((rd_T45 x0 x4).f0)).bind fun t343 => (if x3.size + t343.size ≤ 9223372036854775807 then ((spec_Var.f k ((rd_T45 x0 x4).f1)).bind fun t345 => (if (x3 ++ t343).size + t345.size ≤ 9223372036854775807 then (spec_PutTree.l0 k x0 ((x3 ++ t343) ++ t345) (wrap64 (x4 + 1))) else (none))) else (none))) else (none)) else (some x3)
def spec_PutTree.f (k : Nat) (l0 : List (S45)) : Option (ByteArray) := (spec_TreeOk.f k l0).bind fun t340 => (if t340 = true then ((spec_Var.f k (l0.length : Int)).bind fun t341 => (spec_PutTree.l0 k l0 t341 0)) else (some (⟨#[]⟩ : ByteArray)))
def spec_PutTree.T7 : Bool × List (List Nat × List Nat) := (true, [([], []), ([], []), ([], []), ([1, 2], [1, 2]), ([3], [3]), ([4], [4]), ([5], [5]), ([0, 6], [0, 6]), ([], []), ([], []), ([8, 9], [8, 9]), ([10], [10]), ([11], [11]), ([12, 6], [12]), ([7, 13], [7, 13]), ([14, 13, 0, 1, 2, 3, 4, 5, 6, 7, 8, 9, 10, 11, 12, 13, 14], [0, 14])])
def spec_PutTree.B7 : List Nat := [0, 0, 0, 6, 14, 30, 62, 127, 0, 0, 768, 1792, 3840, 8062, 16383, 32767]
theorem spec_PutTree.tab7 : rtab .any (opsOf Try.f32 7) = spec_PutTree.T7 := by kernel_rfl
theorem spec_PutTree.bits7 : waitsOk spec_PutTree.T7.2 spec_PutTree.B7 = true := by kernel_rfl
set_option maxHeartbeats 8000000 in
set_option maxRecDepth 100000 in
theorem spec_PutTree.calls (k : Nat) (A0 : Option Addr) (c0 : Nat) (l0 : List (S45)) (r : ByteArray) (w : World) (hr0 : Kd.C k45 w A0 l0.length l0) (hc0 : l0.length ≤ c0) (h : spec_PutTree.f k l0 = some r) :
  Calls Try.prog 32 #[.slice A0 l0.length c0] w fun e w' => e = .returned (.string r) ∧ Below w.heap.size w w' := by
 have HR0 := Aside0.mk hr0
 have HC0 := Aside0.mk hc0
 clear hr0 hc0
 have HB := Aside0.mk (Below.refl w.heap.size w)
 have H : ((spec_TreeOk.f k l0).bind fun t340 => (if t340 = true then ((spec_Var.f k (l0.length : Int)).bind fun t341 => (spec_PutTree.l0 k l0 t341 0)) else (some (⟨#[]⟩ : ByteArray)))) = some r := h
 clear h
 obtain ⟨t340, A2, H⟩ := bnd_ H
 by_cases c3 : t340 = true
 ·subst c3
  replace H := ift_ H
  obtain ⟨t341, A4, H⟩ := bnd_ H
  have H' := Aside0.mk H
  clear H
  go_enter Try.func32, Try.ntmps32
  go_wp2_with (first | ((with_reducible refine gate_callee (f := 16) rfl ?_); refine goesL_ (some 6) rfl rfl Try.func16 (by kernel_rfl) rfl #[.slice A0 l0.length c0] rfl z1_ ?_; (with_reducible refine (spec_TreeOk.calls k _ _ l0 true _ ?side1 ?side2 A2.out).mono ?_); (case side1 => exact z24_); (case side2 => exact HC0.out); rintro e w5 ⟨rfl, hb⟩; refine ⟨_, rfl, ?_⟩; replace HB := Aside0.mk (below_step z0_ hb); (try clear hb)) | ((with_reducible refine gate_callee (f := 65) rfl ?_); refine goesL_ (some 10) rfl rfl Try.func65 (by kernel_rfl) rfl #[.int .i64 (l0.length : Int)] rfl z1_ ?_; (with_reducible refine (spec_Var.calls k (l0.length : Int) t341 _ A4.out).mono ?_); rintro e w6 ⟨rfl, hb⟩; refine ⟨_, rfl, ?_⟩; replace HB := Aside0.mk (below_step z0_ hb); (try clear hb)))
  go_loopg [3, 4] k (fun kq v3 v4 w' => ∃ (x3_1 : ByteArray) (x4_1 : Int), v3 = .string x3_1 ∧ v4 = .int .i64 x4_1 ∧ Aside0 (spec_PutTree.l0 kq l0 x3_1 x4_1 = some r) ∧ Aside0 (kq ≤ k) ∧ Aside0 (Below w.heap.size w w'))
  case atStart => exact ⟨(t341), (0), z8_, z8_, H', ⟨Nat.le_refl _⟩, ⟨z0_⟩⟩
  case round =>
   clear H'
   try clear c1
   try clear p2
   try clear c3
   try clear c6
   obtain ⟨x3_1, x4_1, rfl, rfl, HA, HK1, HB⟩ := hrel
   cases gk with
   | zero => exact absurd HA.out (by simp [spec_PutTree.l0])
   | succ k1 =>
    have H := HA.out
    clear HA
    simp only [spec_PutTree.l0] at H
    by_cases c7 : x4_1 < (l0.length : Int)
    ·rw [if_pos c7] at H
     have c7b0 := decide_eq_true c7
     clear c7
     obtain ⟨c8b0, H⟩ := ifd_ H
     obtain ⟨t343, A9, H⟩ := bnd_ H
     obtain ⟨c10, H⟩ := ifs_ H
     have c10b0 := eq_true c10
     have c10b1 := decide_eq_true c10
     try have c10b2 : (9223372036854775807 < x3_1.size + t343.size) = False := eq_false (Nat.not_lt.2 c10)
     obtain ⟨t345, A11, H⟩ := bnd_ H
     obtain ⟨c12, H⟩ := ifs_ H
     have c12b0 := eq_true c12
     have c12b1 := decide_eq_true c12
     try have c12b2 : (9223372036854775807 < (x3_1 ++ t343).size + t345.size) = False := eq_false (Nat.not_lt.2 c12)
     have c12s : x3_1.size + t343.size + t345.size ≤ 9223372036854775807 := by have e_ := c12; simp only [ByteArray.size_append] at e_; exact e_
     have c12sb : (9223372036854775807 < x3_1.size + t343.size + t345.size) = False := eq_false (Nat.not_lt.2 c12s)
     have H' := Aside0.mk H
     clear H
     try go_wp2
     have n0_ := Aside0.mk (below_drew1 HB.out)
     clear HB
     have HB := n0_
     clear n0_
     obtain ⟨p342, q342, ad342, e342, hw342_0, hw342_1, hx342_0, hx342_1⟩ := atw45_ HR0 HB x4_1
     cases e342
     obtain ⟨p344, q344, ad344, e344, hw344_0, hw344_1, hx344_0, hx344_1⟩ := atw45_ HR0 HB x4_1
     obtain rfl : ad342 = ad344 := (by injection e344)
     refine start_ (n := 16) (S := fun w' => w'.cell? (ad342.add ((x4_1).toNat * 2)) = some (.int .i64 ((rd_T45 l0 x4_1).f0)) ∧ w'.cell? ⟨(ad342.add ((x4_1).toNat * 2)).block, (ad342.add ((x4_1).toNat * 2)).off + 1, none⟩ = some (.int .i64 ((rd_T45 l0 x4_1).f1))) (ds := []) (fl_ 16 0) (by kernel_rfl) rfl (fl_zero _) ⟨((HB.out.cell (World.block_lt_of_cell? w _ hw342_0)).trans hw342_0), ((HB.out.cell (World.block_lt_of_cell? w _ hw342_1)).trans hw342_1)⟩ (fun hHeld => ?_); refine with_tabW spec_PutTree.tab7 spec_PutTree.bits7 (fun HT_ HW_ => ?_)
     generalize wr.drew = w13 at HB hx342_0 hx342_1 hx344_0 hx344_1 hHeld ⊢
     iterate 5 refine zp_ HT_ rfl rfl (by kernel_rfl) (fun _ _ _ h => h) (by rfl) ?_
     refine zpg_ (i := 8) (ra_ [5, 3, 1, 7]) HT_ rfl rfl (by kernel_rfl) (fun _ _ _ h => h) (by rfl) ?_
     refine zpg_ (i := 9) (ra_ [5, 3, 2, 6]) HT_ rfl rfl (by kernel_rfl) (fun _ _ _ h => h) (by rfl) ?_
     refine zpg_ (i := 10) (ra_ [5, 3, 3, 5]) HT_ rfl rfl (by kernel_rfl) (fun _ _ _ h => h) (by rfl) ?_
     refine zpg_ (i := 11) (ra_ [5, 3, 4, 4]) HT_ rfl rfl (by kernel_rfl) (fun _ _ _ h => h) (by rfl) ?_
     refine ztg_ (i := 5) (ra_ [6, 2, 4, 4]) HT_ HW_ rfl rfl (by kernel_rfl) (fun _ _ _ h => h) (by rfl) hHeld ?_ z79_
     refine ztg_ (i := 12) (ra_ [6, 2, 5, 3]) HT_ HW_ rfl rfl (by kernel_rfl) (fun _ _ _ h => h) (by rfl) hHeld ?_ z79_
     refine one_ (i := 6) (N := some 23) (ra_ [7, 1, 5, 3]) rfl rfl (one_of HT_.out (by kernel_rfl)) (by decide) (fun K hK => ?_)
     refine goes_ Try.func65 (by kernel_rfl) rfl #[.int .i64 ((rd_T45 l0 x4_1).f0)] (by rfl) rfl rfl z1_ ?_
     with_reducible refine (spec_Var.calls k1 ((rd_T45 l0 x4_1).f0) t343 _ A9.out).mono ?_
     rintro e w14 ⟨rfl, hb⟩
     refine ⟨_, rfl, ?_⟩
     have n0_ := Aside0.mk (below_step z0_ hb)
     clear HB
     have HB := n0_
     clear n0_
     (try clear hb)
     (try clear hb2)
     (try clear hk)
     (try clear hi)
     refine hK.out _ _ ⟨((HB.out.cell (World.block_lt_of_cell? w _ hw342_0)).trans hw342_0), ((HB.out.cell (World.block_lt_of_cell? w _ hw342_1)).trans hw342_1)⟩ (fun hHeld => ?_)
     clear hK K
     refine zn_ rfl ?_
     refine zpg_ (i := 7) (fl_ 16 13) HT_ rfl rfl (by kernel_rfl) (fun _ _ _ h => h) (by rfl) ?_
     refine one_ (i := 13) (N := some 30) (fl_ 16 14) rfl rfl (one_of HT_.out (by kernel_rfl)) (by decide) (fun K hK => ?_)
     refine goes_ Try.func65 (by kernel_rfl) rfl #[.int .i64 ((rd_T45 l0 x4_1).f1)] (by rfl) rfl rfl z1_ ?_
     with_reducible refine (spec_Var.calls k1 ((rd_T45 l0 x4_1).f1) t345 _ A11.out).mono ?_
     rintro e w15 ⟨rfl, hb⟩
     refine ⟨_, rfl, ?_⟩
     have n0_ := Aside0.mk (below_step z0_ hb)
     clear HB
     have HB := n0_
     clear n0_
     (try clear hb)
     (try clear hb2)
     (try clear hk)
     (try clear hi)
     refine hK.out _ _ ⟨((HB.out.cell (World.block_lt_of_cell? w _ hw342_0)).trans hw342_0), ((HB.out.cell (World.block_lt_of_cell? w _ hw342_1)).trans hw342_1)⟩ (fun hHeld => ?_)
     clear hK K
     refine zn_ rfl ?_
     iterate 2 refine zp_ HT_ rfl rfl (by kernel_rfl) (fun _ _ _ h => h) (by rfl) ?_
     refine done_ (done_of HT_.out (by kernel_rfl)) ?_
     try go_wp2
     go_roundg k1
     case measure => have := HK1.out; omega
     case rel => exact ⟨((x3_1 ++ t343) ++ t345), (wrap64 (x4_1 + 1)), z8_, z8_, H', ⟨z93_⟩, ⟨z0_⟩⟩
    ·rw [if_neg c7] at H
     have c7b0 := decide_eq_false c7
     clear c7
     obtain rfl := Option.some.inj H
     go_wp2
     go_ret
     exact ⟨z3_, z0_⟩
 ·replace c3 := Bool.eq_false_iff.mpr c3
  subst c3
  replace H := iff_ H
  obtain rfl := Option.some.inj H
  go_enter Try.func32, Try.ntmps32
  go_wp2_with (first | ((with_reducible refine gate_callee (f := 16) rfl ?_); refine goesL_ (some 6) rfl rfl Try.func16 (by kernel_rfl) rfl #[.slice A0 l0.length c0] rfl z1_ ?_; (with_reducible refine (spec_TreeOk.calls k _ _ l0 false _ ?side1 ?side2 A2.out).mono ?_); (case side1 => exact z24_); (case side2 => exact HC0.out); rintro e w16 ⟨rfl, hb⟩; refine ⟨_, rfl, ?_⟩; replace HB := Aside0.mk (below_step z0_ hb); (try clear hb)))
  go_ret
  exact ⟨z3_, z0_⟩

/-! ### spec_Patch: function 6 -/
def spec_Patch.f (k : Nat) (a0 : ByteArray) (a1 : ByteArray) : Option (ByteArray × Int × Int × Int) := (spec_GetTree.f k a0).bind fun bt347 => (if bt347.2 = 0 then ((spec_GetScript.f k a1).bind fun bt351 => (if bt351.2 = 0 then ((spec_ApplyAll.f k bt347.1 bt351.1).bind fun bt355 => (if bt355.2.2 = 0 then ((spec_PutTree.f k bt355.1).bind fun t360 => (some (t360, 0, 0, 0))) else (some ((⟨#[]⟩ : ByteArray), 5, bt355.2.2, bt355.2.1)))) else (some ((⟨#[]⟩ : ByteArray), 4, bt351.2, 0)))) else (some ((⟨#[]⟩ : ByteArray), 1, bt347.2, 0)))
set_option maxHeartbeats 8000000 in
set_option maxRecDepth 100000 in
theorem spec_Patch.calls (k : Nat) (a0 : ByteArray) (a1 : ByteArray) (r1 : ByteArray) (r2 : Int) (r3 : Int) (r4 : Int) (w : World) (h : spec_Patch.f k a0 a1 = some (r1, r2, r3, r4)) :
  Calls Try.prog 6 #[.string a0, .string a1] w fun e w' => e = .returned (.tuple #[.string r1, .agg #[.int .i64 r2, .int .i64 r3, .int .i64 r4]]) ∧ Below w.heap.size w w' := by
 have hu23 := Try.underlying23
 have HB := Aside0.mk (Below.refl w.heap.size w)
 have H : ((spec_GetTree.f k a0).bind fun bt347 => (if bt347.2 = 0 then ((spec_GetScript.f k a1).bind fun bt351 => (if bt351.2 = 0 then ((spec_ApplyAll.f k bt347.1 bt351.1).bind fun bt355 => (if bt355.2.2 = 0 then ((spec_PutTree.f k bt355.1).bind fun t360 => (some (t360, 0, 0, 0))) else (some ((⟨#[]⟩ : ByteArray), 5, bt355.2.2, bt355.2.1)))) else (some ((⟨#[]⟩ : ByteArray), 4, bt351.2, 0)))) else (some ((⟨#[]⟩ : ByteArray), 1, bt347.2, 0)))) = some (r1, r2, r3, r4) := h
 clear h
 replace H := Option.bind_eq_some_iff.mp H
 obtain ⟨⟨t347, t348⟩, A30, H⟩ := H
 try dsimp only at H
 have A3 := Aside0.mk A30
 clear A30
 by_cases c4 : t348 = 0
 ·rw [if_pos c4] at H
  have c4b0 : (t348 == 0) = true := beq_iff_eq.mpr c4
  have c4b1 : (t348 != 0) = false := bne_eq_false_iff_eq.mpr c4
  clear c4
  replace H := Option.bind_eq_some_iff.mp H
  obtain ⟨⟨t351, t352⟩, A50, H⟩ := H
  try dsimp only at H
  have A5 := Aside0.mk A50
  clear A50
  by_cases c6 : t352 = 0
  ·rw [if_pos c6] at H
   have c6b0 : (t352 == 0) = true := beq_iff_eq.mpr c6
   have c6b1 : (t352 != 0) = false := bne_eq_false_iff_eq.mpr c6
   clear c6
   replace H := Option.bind_eq_some_iff.mp H
   obtain ⟨⟨t355, t356, t357⟩, A70, H⟩ := H
   try dsimp only at H
   have A7 := Aside0.mk A70
   clear A70
   by_cases c8 : t357 = 0
   ·rw [if_pos c8] at H
    have c8b0 : (t357 == 0) = true := beq_iff_eq.mpr c8
    have c8b1 : (t357 != 0) = false := bne_eq_false_iff_eq.mpr c8
    clear c8
    obtain ⟨t360, A9, H⟩ := bnd_ H
    simp only [Option.some.injEq, Prod.mk.injEq] at H
    obtain ⟨rfl, rfl, rfl, rfl⟩ := H
    go_enter Try.func6, Try.ntmps6
    go_wp2_with (first | ((with_reducible refine gate_dst (N := 5) rfl ?_); refine box_event ?hg (N := 5) ?hd (cs := #[.int .i64 0, .int .i64 0, .int .i64 0]) (t := 23) ?hr ?_; (case hd => rfl); (case hg => rfl); (case hr => exact z10_); intro gb346 hg w10 hbox hb; have BK346 := Aside0.mk (hbox); have GW346 := Aside0.mk ((by rw [hg]; exact (below_size z0_) : w.heap.size ≤ gb346)); have GE346 := Aside0.mk ((by rw [hg]; exact (below_size z0_) : w.heap.size ≤ gb346)); replace HB := Aside0.mk (below_step z0_ hb); clear hb hbox hg) | ((with_reducible refine gate_callee (f := 29) rfl ?_); refine goesL_ (some 15) rfl rfl Try.func29 (by kernel_rfl) rfl #[.string a0] rfl z1_ ?_; (with_reducible refine (spec_GetTree.calls k a0 t347 t348 _ A3.out).mono ?_); rintro e w11 ⟨v349, rfl, ho0, hb⟩; refine ⟨_, rfl, ?_⟩; have HO350 := Aside0.mk (Kd.R_lower ho0 (below_size z19_)); replace BK346 := Aside0.mk (blk_below (g := gb346) (o := .cells #[.int .i64 0, .int .i64 0, .int .i64 0] 23 (0, 0)) z56_ hb); replace HB := Aside0.mk (below_step z19_ hb); (try clear hb ho0)) | ((with_reducible refine gate_callee (f := 30) rfl ?_); refine goesL_ (some 24) rfl rfl Try.func30 (by kernel_rfl) rfl #[.string a1] rfl z1_ ?_; (with_reducible refine (spec_GetScript.calls k a1 t351 t352 _ A5.out).mono ?_); rintro e w12 ⟨v353, rfl, ho0, hb⟩; refine ⟨_, rfl, ?_⟩; replace HO350 := Aside0.mk (Kd.R_below z72_ hb); have HO354 := Aside0.mk (Kd.S_lower ho0 (below_size z19_)); replace BK346 := Aside0.mk (blk_below (g := gb346) (o := .cells #[.int .i64 0, .int .i64 0, .int .i64 0] 23 (0, 0)) z56_ hb); replace HB := Aside0.mk (below_step z19_ hb); (try clear hb ho0); obtain ⟨Ao13, co13, eo13⟩ := Kd.R_slice HO350.out; subst eo13; obtain ⟨Ao14, co14, eo14⟩ := Kd.S_slice HO354.out; subst eo14) | ((with_reducible refine gate_callee (f := 31) rfl ?_); refine goesL_ (some 34) rfl rfl Try.func31 (by kernel_rfl) rfl #[.slice Ao13 t347.length co13, .slice Ao14 t351.length co14] rfl z1_ ?_; (with_reducible refine (spec_ApplyAll.calls k _ _ t347 _ _ t351 t355 t356 t357 _ ?side1 ?side2 ?side3 ?side4 A7.out).mono ?_); (case side1 => exact z113_); (case side2 => exact (Kd.R_reads' HO350.out).2.1); (case side3 => exact z114_); (case side4 => exact (Kd.S_reads' HO354.out).2.1); rintro e w15 ⟨v358, rfl, ho0, hb⟩; refine ⟨_, rfl, ?_⟩; replace HO354 := Aside0.mk (Kd.S_below z121_ hb); have HO359 := Aside0.mk (Kd.R_lower (Kd.R_new' ho0 (Kd.R_lt z72_)) (below_size z19_)); replace HO350 := Aside0.mk (Kd.R_elder' z72_ (Kd.R_base ho0) hb); replace BK346 := Aside0.mk (blk_below (g := gb346) (o := .cells #[.int .i64 0, .int .i64 0, .int .i64 0] 23 (0, 0)) z56_ hb); replace HB := Aside0.mk (below_step z19_ hb); (try clear hb ho0); obtain ⟨Ao16, co16, eo16⟩ := Kd.R_slice HO359.out; subst eo16) | ((with_reducible refine gate_callee (f := 32) rfl ?_); refine goesL_ (some 44) rfl rfl Try.func32 (by kernel_rfl) rfl #[.slice Ao16 t355.length co16] rfl z1_ ?_; (with_reducible refine (spec_PutTree.calls k _ _ t355 t360 _ ?side1 ?side2 A9.out).mono ?_); (case side1 => repeat (first | exact (Kd.R_reads' HO359.out).2.2 | (with_reducible refine Kd.C_alloc ?_ _) | (with_reducible refine Kd.C_drewN ?_ _) | (with_reducible refine Kd.C_drew ?_))); (case side2 => exact (Kd.R_reads' HO359.out).2.1); rintro e w17 ⟨rfl, hb⟩; refine ⟨_, rfl, ?_⟩; replace HO350 := Aside0.mk (Kd.R_below z72_ hb); replace HO354 := Aside0.mk (Kd.S_below z121_ hb); replace HO359 := Aside0.mk (Kd.R_below (by (with_reducible repeat (first | apply Kd.R_alloc | apply Kd.R_drewN | apply Kd.R_drew)); exact HO359.out) hb); replace BK346 := Aside0.mk (blk_below (g := gb346) (o := .cells #[.int .i64 0, .int .i64 0, .int .i64 0] 23 (0, 0)) z56_ hb); replace HB := Aside0.mk (below_step z19_ hb); (try clear hb); obtain ⟨hcz18_0, hcz18_1, hcz18_2, hfz18_0, hfz18_1, hfz18_2⟩ := bx3_ BK346.out))
    refine bodyPost_ret (results_tc rfl _ _ gb346 23 #[.int .i64 0, .int .i64 0, .int .i64 0] (0, 0) _ rfl (by (with_reducible repeat (first | refine blk_drewN ?_ _ | refine blk_drew ?_ | refine blk_alloc ?_ _)); refine blk_put (cs := #[.int .i64 0, .int .i64 0, .int .i64 0]) ?_ 2 _ rfl; (with_reducible repeat (first | refine blk_drewN ?_ _ | refine blk_drew ?_ | refine blk_alloc ?_ _)); refine blk_put (cs := #[.int .i64 0, .int .i64 0, .int .i64 0]) ?_ 1 _ rfl; (with_reducible repeat (first | refine blk_drewN ?_ _ | refine blk_drew ?_ | refine blk_alloc ?_ _)); refine blk_put (cs := #[.int .i64 0, .int .i64 0, .int .i64 0]) ?_ 0 _ rfl; (with_reducible repeat (first | refine blk_drewN ?_ _ | refine blk_drew ?_ | refine blk_alloc ?_ _)); exact BK346.out) Try.underlying23 rfl (by kernel_rfl)) rfl ?_
    exact ⟨z3_, z19_⟩
   ·rw [if_neg c8] at H
    have c8b0 : (t357 == 0) = false := beq_eq_false_iff_ne.mpr c8
    have c8b1 : (t357 != 0) = true := bne_iff_ne.mpr c8
    simp only [Option.some.injEq, Prod.mk.injEq] at H
    obtain ⟨rfl, rfl, rfl, rfl⟩ := H
    go_enter Try.func6, Try.ntmps6
    go_wp2_with (first | ((with_reducible refine gate_dst (N := 5) rfl ?_); refine box_event ?hg (N := 5) ?hd (cs := #[.int .i64 0, .int .i64 0, .int .i64 0]) (t := 23) ?hr ?_; (case hd => rfl); (case hg => rfl); (case hr => exact z10_); intro gb346 hg w19 hbox hb; have BK346 := Aside0.mk (hbox); have GW346 := Aside0.mk ((by rw [hg]; exact (below_size z0_) : w.heap.size ≤ gb346)); have GE346 := Aside0.mk ((by rw [hg]; exact (below_size z0_) : w.heap.size ≤ gb346)); replace HB := Aside0.mk (below_step z0_ hb); clear hb hbox hg) | ((with_reducible refine gate_callee (f := 29) rfl ?_); refine goesL_ (some 15) rfl rfl Try.func29 (by kernel_rfl) rfl #[.string a0] rfl z1_ ?_; (with_reducible refine (spec_GetTree.calls k a0 t347 t348 _ A3.out).mono ?_); rintro e w20 ⟨v349, rfl, ho0, hb⟩; refine ⟨_, rfl, ?_⟩; have HO350 := Aside0.mk (Kd.R_lower ho0 (below_size z19_)); replace BK346 := Aside0.mk (blk_below (g := gb346) (o := .cells #[.int .i64 0, .int .i64 0, .int .i64 0] 23 (0, 0)) z56_ hb); replace HB := Aside0.mk (below_step z19_ hb); (try clear hb ho0)) | ((with_reducible refine gate_callee (f := 30) rfl ?_); refine goesL_ (some 24) rfl rfl Try.func30 (by kernel_rfl) rfl #[.string a1] rfl z1_ ?_; (with_reducible refine (spec_GetScript.calls k a1 t351 t352 _ A5.out).mono ?_); rintro e w21 ⟨v353, rfl, ho0, hb⟩; refine ⟨_, rfl, ?_⟩; replace HO350 := Aside0.mk (Kd.R_below z72_ hb); have HO354 := Aside0.mk (Kd.S_lower ho0 (below_size z19_)); replace BK346 := Aside0.mk (blk_below (g := gb346) (o := .cells #[.int .i64 0, .int .i64 0, .int .i64 0] 23 (0, 0)) z56_ hb); replace HB := Aside0.mk (below_step z19_ hb); (try clear hb ho0); obtain ⟨Ao22, co22, eo22⟩ := Kd.R_slice HO350.out; subst eo22; obtain ⟨Ao23, co23, eo23⟩ := Kd.S_slice HO354.out; subst eo23) | ((with_reducible refine gate_callee (f := 31) rfl ?_); refine goesL_ (some 34) rfl rfl Try.func31 (by kernel_rfl) rfl #[.slice Ao22 t347.length co22, .slice Ao23 t351.length co23] rfl z1_ ?_; (with_reducible refine (spec_ApplyAll.calls k _ _ t347 _ _ t351 t355 t356 t357 _ ?side1 ?side2 ?side3 ?side4 A7.out).mono ?_); (case side1 => exact z113_); (case side2 => exact (Kd.R_reads' HO350.out).2.1); (case side3 => exact z114_); (case side4 => exact (Kd.S_reads' HO354.out).2.1); rintro e w24 ⟨v358, rfl, ho0, hb⟩; refine ⟨_, rfl, ?_⟩; replace HO354 := Aside0.mk (Kd.S_below z121_ hb); have HO359 := Aside0.mk (Kd.R_lower (Kd.R_new' ho0 (Kd.R_lt z72_)) (below_size z19_)); replace HO350 := Aside0.mk (Kd.R_elder' z72_ (Kd.R_base ho0) hb); replace BK346 := Aside0.mk (blk_below (g := gb346) (o := .cells #[.int .i64 0, .int .i64 0, .int .i64 0] 23 (0, 0)) z56_ hb); replace HB := Aside0.mk (below_step z19_ hb); (try clear hb ho0); obtain ⟨hcz25_0, hcz25_1, hcz25_2, hfz25_0, hfz25_1, hfz25_2⟩ := bx3_ BK346.out))
    refine bodyPost_ret (results_tc rfl _ _ gb346 23 #[.int .i64 5, .int .i64 t357, .int .i64 t356] (0, 0) _ rfl (by (with_reducible repeat (first | refine blk_drewN ?_ _ | refine blk_drew ?_ | refine blk_alloc ?_ _)); refine blk_put (cs := #[.int .i64 5, .int .i64 t357, .int .i64 0]) ?_ 2 _ rfl; (with_reducible repeat (first | refine blk_drewN ?_ _ | refine blk_drew ?_ | refine blk_alloc ?_ _)); refine blk_put (cs := #[.int .i64 5, .int .i64 0, .int .i64 0]) ?_ 1 _ rfl; (with_reducible repeat (first | refine blk_drewN ?_ _ | refine blk_drew ?_ | refine blk_alloc ?_ _)); refine blk_put (cs := #[.int .i64 0, .int .i64 0, .int .i64 0]) ?_ 0 _ rfl; (with_reducible repeat (first | refine blk_drewN ?_ _ | refine blk_drew ?_ | refine blk_alloc ?_ _)); exact BK346.out) Try.underlying23 rfl (by kernel_rfl)) rfl ?_
    exact ⟨z3_, z19_⟩
  ·rw [if_neg c6] at H
   have c6b0 : (t352 == 0) = false := beq_eq_false_iff_ne.mpr c6
   have c6b1 : (t352 != 0) = true := bne_iff_ne.mpr c6
   simp only [Option.some.injEq, Prod.mk.injEq] at H
   obtain ⟨rfl, rfl, rfl, rfl⟩ := H
   go_enter Try.func6, Try.ntmps6
   go_wp2_with (first | ((with_reducible refine gate_dst (N := 5) rfl ?_); refine box_event ?hg (N := 5) ?hd (cs := #[.int .i64 0, .int .i64 0, .int .i64 0]) (t := 23) ?hr ?_; (case hd => rfl); (case hg => rfl); (case hr => exact z10_); intro gb346 hg w26 hbox hb; have BK346 := Aside0.mk (hbox); have GW346 := Aside0.mk ((by rw [hg]; exact (below_size z0_) : w.heap.size ≤ gb346)); have GE346 := Aside0.mk ((by rw [hg]; exact (below_size z0_) : w.heap.size ≤ gb346)); replace HB := Aside0.mk (below_step z0_ hb); clear hb hbox hg) | ((with_reducible refine gate_callee (f := 29) rfl ?_); refine goesL_ (some 15) rfl rfl Try.func29 (by kernel_rfl) rfl #[.string a0] rfl z1_ ?_; (with_reducible refine (spec_GetTree.calls k a0 t347 t348 _ A3.out).mono ?_); rintro e w27 ⟨v349, rfl, ho0, hb⟩; refine ⟨_, rfl, ?_⟩; have HO350 := Aside0.mk (Kd.R_lower ho0 (below_size z19_)); replace BK346 := Aside0.mk (blk_below (g := gb346) (o := .cells #[.int .i64 0, .int .i64 0, .int .i64 0] 23 (0, 0)) z56_ hb); replace HB := Aside0.mk (below_step z19_ hb); (try clear hb ho0)) | ((with_reducible refine gate_callee (f := 30) rfl ?_); refine goesL_ (some 24) rfl rfl Try.func30 (by kernel_rfl) rfl #[.string a1] rfl z1_ ?_; (with_reducible refine (spec_GetScript.calls k a1 t351 t352 _ A5.out).mono ?_); rintro e w28 ⟨v353, rfl, ho0, hb⟩; refine ⟨_, rfl, ?_⟩; replace HO350 := Aside0.mk (Kd.R_below z72_ hb); have HO354 := Aside0.mk (Kd.S_lower ho0 (below_size z19_)); replace BK346 := Aside0.mk (blk_below (g := gb346) (o := .cells #[.int .i64 0, .int .i64 0, .int .i64 0] 23 (0, 0)) z56_ hb); replace HB := Aside0.mk (below_step z19_ hb); (try clear hb ho0); obtain ⟨hcz29_0, hcz29_1, hcz29_2, hfz29_0, hfz29_1, hfz29_2⟩ := bx3_ BK346.out))
   refine bodyPost_ret (results_tc rfl _ _ gb346 23 #[.int .i64 4, .int .i64 t352, .int .i64 0] (0, 0) _ rfl (by (with_reducible repeat (first | refine blk_drewN ?_ _ | refine blk_drew ?_ | refine blk_alloc ?_ _)); refine blk_put (cs := #[.int .i64 4, .int .i64 t352, .int .i64 0]) ?_ 2 _ rfl; (with_reducible repeat (first | refine blk_drewN ?_ _ | refine blk_drew ?_ | refine blk_alloc ?_ _)); refine blk_put (cs := #[.int .i64 4, .int .i64 0, .int .i64 0]) ?_ 1 _ rfl; (with_reducible repeat (first | refine blk_drewN ?_ _ | refine blk_drew ?_ | refine blk_alloc ?_ _)); refine blk_put (cs := #[.int .i64 0, .int .i64 0, .int .i64 0]) ?_ 0 _ rfl; (with_reducible repeat (first | refine blk_drewN ?_ _ | refine blk_drew ?_ | refine blk_alloc ?_ _)); exact BK346.out) Try.underlying23 rfl (by kernel_rfl)) rfl ?_
   exact ⟨z3_, z19_⟩
 ·rw [if_neg c4] at H
  have c4b0 : (t348 == 0) = false := beq_eq_false_iff_ne.mpr c4
  have c4b1 : (t348 != 0) = true := bne_iff_ne.mpr c4
  simp only [Option.some.injEq, Prod.mk.injEq] at H
  obtain ⟨rfl, rfl, rfl, rfl⟩ := H
  go_enter Try.func6, Try.ntmps6
  go_wp2_with (first | ((with_reducible refine gate_dst (N := 5) rfl ?_); refine box_event ?hg (N := 5) ?hd (cs := #[.int .i64 0, .int .i64 0, .int .i64 0]) (t := 23) ?hr ?_; (case hd => rfl); (case hg => rfl); (case hr => exact z10_); intro gb346 hg w30 hbox hb; have BK346 := Aside0.mk (hbox); have GW346 := Aside0.mk ((by rw [hg]; exact (below_size z0_) : w.heap.size ≤ gb346)); have GE346 := Aside0.mk ((by rw [hg]; exact (below_size z0_) : w.heap.size ≤ gb346)); replace HB := Aside0.mk (below_step z0_ hb); clear hb hbox hg) | ((with_reducible refine gate_callee (f := 29) rfl ?_); refine goesL_ (some 15) rfl rfl Try.func29 (by kernel_rfl) rfl #[.string a0] rfl z1_ ?_; (with_reducible refine (spec_GetTree.calls k a0 t347 t348 _ A3.out).mono ?_); rintro e w31 ⟨v349, rfl, ho0, hb⟩; refine ⟨_, rfl, ?_⟩; have HO350 := Aside0.mk (Kd.R_lower ho0 (below_size z19_)); replace BK346 := Aside0.mk (blk_below (g := gb346) (o := .cells #[.int .i64 0, .int .i64 0, .int .i64 0] 23 (0, 0)) z56_ hb); replace HB := Aside0.mk (below_step z19_ hb); (try clear hb ho0); obtain ⟨hcz32_0, hcz32_1, hcz32_2, hfz32_0, hfz32_1, hfz32_2⟩ := bx3_ BK346.out))
  refine bodyPost_ret (results_tc rfl _ _ gb346 23 #[.int .i64 1, .int .i64 t348, .int .i64 0] (0, 0) _ rfl (by (with_reducible repeat (first | refine blk_drewN ?_ _ | refine blk_drew ?_ | refine blk_alloc ?_ _)); refine blk_put (cs := #[.int .i64 1, .int .i64 t348, .int .i64 0]) ?_ 2 _ rfl; (with_reducible repeat (first | refine blk_drewN ?_ _ | refine blk_drew ?_ | refine blk_alloc ?_ _)); refine blk_put (cs := #[.int .i64 1, .int .i64 0, .int .i64 0]) ?_ 1 _ rfl; (with_reducible repeat (first | refine blk_drewN ?_ _ | refine blk_drew ?_ | refine blk_alloc ?_ _)); refine blk_put (cs := #[.int .i64 0, .int .i64 0, .int .i64 0]) ?_ 0 _ rfl; (with_reducible repeat (first | refine blk_drewN ?_ _ | refine blk_drew ?_ | refine blk_alloc ?_ _)); exact BK346.out) Try.underlying23 rfl (by kernel_rfl)) rfl ?_
  exact ⟨z3_, z19_⟩

/-! ### impl_ReadVar: function 66 -/
def impl_ReadVar.l0 : Nat → ByteArray → Int → Int → Int → Option (Int × Int)
 | 0, _, _, _, _ => none
 | k + 1, x0, x4, x8, x9 => if x9 < x8 then (if 0 ≤ x9 then (if x9 < (x0.size : Int) then (if 0 ≤ (wrap64 (7 * x9)) then (if (bt x0 x9) < 128 then (if x9 > 0 then (if (bt x0 x9) = 0 then (some (0, 0)) else (if (Go.bits .or .i64 x4 (shl .i64 (wrap64 (Go.bits .and .u8 (bt x0 x9) 127)) (wrap64 (7 * x9)))) > 562949953421311 then (some (0, 0)) else (some (Go.bits .or .i64 x4 (shl .i64 (wrap64 (Go.bits .and .u8 (bt x0 x9) 127)) (wrap64 (7 * x9))), wrap64 (x9 + 1))))) else (if (Go.bits .or .i64 x4 (shl .i64 (wrap64 (Go.bits .and .u8 (bt x0 x9) 127)) (wrap64 (7 * x9)))) > 562949953421311 then (some (0, 0)) else (some (Go.bits .or .i64 x4 (shl .i64 (wrap64 (Go.bits .and .u8 (bt x0 x9) 127)) (wrap64 (7 * x9))), wrap64 (x9 + 1))))) else (impl_ReadVar.l0 k x0 (Go.bits .or .i64 x4 (shl .i64 (wrap64 (Go.bits .and .u8 (bt x0 x9) 127)) (wrap64 (7 * x9)))) x8 (wrap64 (x9 + 1)))) else (none)) else (none)) else (none)) else (some (0, 0))
def impl_ReadVar.f (k : Nat) (a0 : ByteArray) : Option (Int × Int) := impl_ReadVar.l0 k a0 0 (mn (a0.size : Int) 7) 0
set_option maxHeartbeats 8000000 in
set_option maxRecDepth 100000 in
theorem impl_ReadVar.calls (k : Nat) (a0 : ByteArray) (r1 : Int) (r2 : Int) (w : World) (h : impl_ReadVar.f k a0 = some (r1, r2)) :
  Calls Try.prog 66 #[.string a0] w fun e w' => e = .returned (.tuple #[.int .i64 r1, .int .i64 r2]) ∧ Below w.heap.size w w' := by
 have HB := Aside0.mk (Below.refl w.heap.size w)
 have H : (impl_ReadVar.l0 k a0 0 (mn (a0.size : Int) 7) 0) = some (r1, r2) := h
 clear h
 obtain ⟨ji2, hji2⟩ : ∃ j_ : Int, (mn (a0.size : Int) 7) = j_ := ⟨_, rfl⟩
 first | rw [hji2] at H | simp only [hji2] at H
 (try (have hji2h : ji2 ≤ 7 := by (rw [← hji2]; unfold mn; (repeat' split) <;> omega)))
 (try (have hji2g : ji2 ≤ 64 := by omega))
 (try (have hji2l : 0 ≤ ji2 := by (rw [← hji2]; unfold mn; (repeat' split) <;> omega)))
 (try (have hji2m : 0 ≤ ji2 := by omega))
 have hji2_ : (if 7 < (a0.size : Int) then 7 else (a0.size : Int)) = ji2 := hji2
 have H' := Aside0.mk H
 clear H
 go_enter Try.func66, Try.ntmps66
 go_wp2
 go_loopg [4, 9] k (fun kq v4 v9 w' => ∃ (x4_1 : Int) (x9_1 : Int), v4 = .int .i64 x4_1 ∧ v9 = .int .i64 x9_1 ∧ Aside0 (impl_ReadVar.l0 kq a0 x4_1 ji2 x9_1 = some (r1, r2)) ∧ Aside0 (kq ≤ k) ∧ Aside0 (Below w.heap.size w w'))
 case atStart => exact ⟨(0), (0), z8_, z8_, H', ⟨Nat.le_refl _⟩, ⟨z0_⟩⟩
 case round =>
  clear H'
  try clear p2
  obtain ⟨x4_1, x9_1, rfl, rfl, HA, HK1, HB⟩ := hrel
  cases gk with
  | zero => exact absurd HA.out (by simp [impl_ReadVar.l0])
  | succ k1 =>
   have H := HA.out
   clear HA
   simp only [impl_ReadVar.l0] at H
   by_cases c3 : x9_1 < ji2
   ·rw [if_pos c3] at H
    have c3b0 := decide_eq_true c3
    clear c3
    obtain ⟨c4b0, H⟩ := ifd_ H
    obtain ⟨c5b0, H⟩ := ifd_ H
    obtain ⟨ji7, hji7⟩ : ∃ j_ : Int, (wrap64 (7 * x9_1)) = j_ := ⟨_, rfl⟩
    first | rw [hji7] at H | simp only [hji7] at H
    have hji7w : (IntKind.i64.wrap (7 * x9_1)) = ji7 := (i64_w _).trans hji7
    obtain ⟨c8b0, c8b1, H⟩ := ife_ H
    obtain ⟨ji9, hji9⟩ : ∃ j_ : Int, (shl .i64 (wrap64 (Go.bits .and .u8 (bt a0 x9_1) 127)) (ji7)) = j_ := ⟨_, rfl⟩
    first | rw [hji9] at H | simp only [hji9] at H
    have hji9_ : (IntKind.i64.wrap ((wrap64 (Go.bits .and .u8 (bt a0 x9_1) 127)) * 2 ^ min (ji7).toNat 64)) = ji9 := hji9
    have hji9z : (ji7) ≤ 64 → (IntKind.i64.wrap ((wrap64 (Go.bits .and .u8 (bt a0 x9_1) 127)) * 2 ^ (ji7).toNat)) = ji9 := shl_small hji9
    have hji9y : (wrap64 ((wrap64 (Go.bits .and .u8 (bt a0 x9_1) 127)) * 2 ^ min (ji7).toNat 64)) = ji9 := (i64_w _).symm.trans hji9_
    have hji9x : (ji7) ≤ 64 → (wrap64 ((wrap64 (Go.bits .and .u8 (bt a0 x9_1) 127)) * 2 ^ (ji7).toNat)) = ji9 := fun h_ => (i64_w _).symm.trans (hji9z h_)
    by_cases c11 : (bt a0 x9_1) < 128
    ·rw [if_pos c11] at H
     have c11b0 := decide_eq_true c11
     clear c11
     by_cases c12 : x9_1 > 0
     ·rw [if_pos c12] at H
      have c12b0 := decide_eq_true c12
      clear c12
      by_cases c14 : (bt a0 x9_1) = 0
      ·rw [if_pos c14] at H
       have c14b0 : ((bt a0 x9_1) == 0) = true := beq_iff_eq.mpr c14
       have c14b1 : ((bt a0 x9_1) != 0) = false := bne_eq_false_iff_eq.mpr c14
       clear c14
       simp only [Option.some.injEq, Prod.mk.injEq] at H
       obtain ⟨rfl, rfl⟩ := H
       have p6 : 0 ≤ (x9_1 : Int) := odt_
       have q6 : x9_1 < (a0.size : Int) := odt_
       have hx6 := bt_at a0 x9_1
       replace p6 := eq_true p6
       replace q6 := eq_true q6
       have p10 : 0 ≤ (x9_1 : Int) := odt_
       have q10 : x9_1 < (a0.size : Int) := odt_
       have hx10 := bt_at a0 x9_1
       replace p10 := eq_true p10
       replace q10 := eq_true q10
       have p13 : 0 ≤ (x9_1 : Int) := odt_
       have q13 : x9_1 < (a0.size : Int) := odt_
       have hx13 := bt_at a0 x9_1
       replace p13 := eq_true p13
       replace q13 := eq_true q13
       go_wp2
       go_ret2
       exact ⟨z69_, z0_⟩
      ·rw [if_neg c14] at H
       have c14b0 : ((bt a0 x9_1) == 0) = false := beq_eq_false_iff_ne.mpr c14
       have c14b1 : ((bt a0 x9_1) != 0) = true := bne_iff_ne.mpr c14
       by_cases c15 : (Go.bits .or .i64 x4_1 (ji9)) > 562949953421311
       ·rw [if_pos c15] at H
        have c15b0 := decide_eq_true c15
        clear c15
        simp only [Option.some.injEq, Prod.mk.injEq] at H
        obtain ⟨rfl, rfl⟩ := H
        have p6 : 0 ≤ (x9_1 : Int) := odt_
        have q6 : x9_1 < (a0.size : Int) := odt_
        have hx6 := bt_at a0 x9_1
        replace p6 := eq_true p6
        replace q6 := eq_true q6
        have p10 : 0 ≤ (x9_1 : Int) := odt_
        have q10 : x9_1 < (a0.size : Int) := odt_
        have hx10 := bt_at a0 x9_1
        replace p10 := eq_true p10
        replace q10 := eq_true q10
        have p13 : 0 ≤ (x9_1 : Int) := odt_
        have q13 : x9_1 < (a0.size : Int) := odt_
        have hx13 := bt_at a0 x9_1
        replace p13 := eq_true p13
        replace q13 := eq_true q13
        go_wp2
        go_ret2
        exact ⟨z69_, z0_⟩
       ·rw [if_neg c15] at H
        have c15b0 := decide_eq_false c15
        clear c15
        simp only [Option.some.injEq, Prod.mk.injEq] at H
        obtain ⟨rfl, rfl⟩ := H
        have p6 : 0 ≤ (x9_1 : Int) := odt_
        have q6 : x9_1 < (a0.size : Int) := odt_
        have hx6 := bt_at a0 x9_1
        replace p6 := eq_true p6
        replace q6 := eq_true q6
        have p10 : 0 ≤ (x9_1 : Int) := odt_
        have q10 : x9_1 < (a0.size : Int) := odt_
        have hx10 := bt_at a0 x9_1
        replace p10 := eq_true p10
        replace q10 := eq_true q10
        have p13 : 0 ≤ (x9_1 : Int) := odt_
        have q13 : x9_1 < (a0.size : Int) := odt_
        have hx13 := bt_at a0 x9_1
        replace p13 := eq_true p13
        replace q13 := eq_true q13
        go_wp2
        go_ret2
        exact ⟨z69_, z0_⟩
     ·rw [if_neg c12] at H
      have c12b0 := decide_eq_false c12
      clear c12
      by_cases c16 : (Go.bits .or .i64 x4_1 (ji9)) > 562949953421311
      ·rw [if_pos c16] at H
       have c16b0 := decide_eq_true c16
       clear c16
       simp only [Option.some.injEq, Prod.mk.injEq] at H
       obtain ⟨rfl, rfl⟩ := H
       have p6 : 0 ≤ (x9_1 : Int) := odt_
       have q6 : x9_1 < (a0.size : Int) := odt_
       have hx6 := bt_at a0 x9_1
       replace p6 := eq_true p6
       replace q6 := eq_true q6
       have p10 : 0 ≤ (x9_1 : Int) := odt_
       have q10 : x9_1 < (a0.size : Int) := odt_
       have hx10 := bt_at a0 x9_1
       replace p10 := eq_true p10
       replace q10 := eq_true q10
       go_wp2
       go_ret2
       exact ⟨z69_, z0_⟩
      ·rw [if_neg c16] at H
       have c16b0 := decide_eq_false c16
       clear c16
       simp only [Option.some.injEq, Prod.mk.injEq] at H
       obtain ⟨rfl, rfl⟩ := H
       have p6 : 0 ≤ (x9_1 : Int) := odt_
       have q6 : x9_1 < (a0.size : Int) := odt_
       have hx6 := bt_at a0 x9_1
       replace p6 := eq_true p6
       replace q6 := eq_true q6
       have p10 : 0 ≤ (x9_1 : Int) := odt_
       have q10 : x9_1 < (a0.size : Int) := odt_
       have hx10 := bt_at a0 x9_1
       replace p10 := eq_true p10
       replace q10 := eq_true q10
       go_wp2
       go_ret2
       exact ⟨z69_, z0_⟩
    ·rw [if_neg c11] at H
     have c11b0 := decide_eq_false c11
     clear c11
     have H' := Aside0.mk H
     clear H
     have p6 : 0 ≤ (x9_1 : Int) := odt_
     have q6 : x9_1 < (a0.size : Int) := odt_
     have hx6 := bt_at a0 x9_1
     replace p6 := eq_true p6
     replace q6 := eq_true q6
     have p10 : 0 ≤ (x9_1 : Int) := odt_
     have q10 : x9_1 < (a0.size : Int) := odt_
     have hx10 := bt_at a0 x9_1
     replace p10 := eq_true p10
     replace q10 := eq_true q10
     go_wp2
     go_roundg k1
     case measure => have := HK1.out; omega
     case rel => exact ⟨(Go.bits .or .i64 x4_1 (ji9)), (wrap64 (x9_1 + 1)), (by first | rfl | (simp; done) | (simp only [← hji9] <;> (first | rfl | simp)) | (simp [*]; done)), z8_, H', ⟨z93_⟩, ⟨z0_⟩⟩
   ·rw [if_neg c3] at H
    have c3b0 := decide_eq_false c3
    clear c3
    simp only [Option.some.injEq, Prod.mk.injEq] at H
    obtain ⟨rfl, rfl⟩ := H
    go_wp2
    go_ret2
    exact ⟨by first | rfl | (simp [errW_none, errW_some] <;> rfl) | (simp only [← hji2]; first | rfl | (simp [errW_none, errW_some] <;> rfl)) | (simp [*, errW_none, errW_some] <;> rfl), z0_⟩

/-! ### impl_within: function 67 -/
def impl_within.f (a0 : Int) (a1 : Int) (a2 : Int) : Option (Bool) := if a1 ≤ a0 then (some (decide (a0 ≤ a2))) else (some false)
set_option maxHeartbeats 8000000 in
set_option maxRecDepth 100000 in
theorem impl_within.calls (a0 : Int) (a1 : Int) (a2 : Int) (r : Bool) (w : World) (h : impl_within.f a0 a1 a2 = some r) :
  Calls Try.prog 67 #[.int .i64 a0, .int .i64 a1, .int .i64 a2] w fun e w' => e = .returned (.bool r) ∧ Drawn0 w w' := by
 have H : (if a1 ≤ a0 then (some (decide (a0 ≤ a2))) else (some false)) = some r := h
 clear h
 by_cases c4 : a1 ≤ a0
 ·rw [if_pos c4] at H
  have c4b0 := decide_eq_true c4
  clear c4
  obtain rfl := Option.some.inj H
  go_enter Try.func67, Try.ntmps67
  go_wp2
  go_ret
  exact ⟨z8_, z83_⟩
 ·rw [if_neg c4] at H
  have c4b0 := decide_eq_false c4
  clear c4
  obtain rfl := Option.some.inj H
  go_enter Try.func67, Try.ntmps67
  go_wp2
  go_ret
  exact ⟨z8_, z83_⟩

/-! ### impl_LabelOk: function 77 -/
def impl_LabelOk.f (a0 : Int) : Option (Bool) := (impl_within.f a0 0 5).bind fun t361 => (some t361)
set_option maxHeartbeats 8000000 in
set_option maxRecDepth 100000 in
theorem impl_LabelOk.calls (a0 : Int) (r : Bool) (w : World) (h : impl_LabelOk.f a0 = some r) :
  Calls Try.prog 77 #[.int .i64 a0] w fun e w' => e = .returned (.bool r) ∧ Drawn0 w w' := by
 have H : ((impl_within.f a0 0 5).bind fun t361 => (some t361)) = some r := h
 clear h
 obtain ⟨t361, A2, H⟩ := bnd_ H
 obtain rfl := Option.some.inj H
 go_enter Try.func77, Try.ntmps77
 go_wp2_with (first | ((with_reducible refine gate_callee (f := 67) rfl ?_); refine goesL_ (some 4) rfl rfl Try.func67 (by kernel_rfl) rfl #[.int .i64 a0, .int .i64 0, .int .i64 5] rfl z1_ ?_; (with_reducible refine (impl_within.calls a0 0 5 t361 _ A2.out).mono ?_); rintro e w' ⟨rfl, ⟨nd, rfl⟩⟩; refine ⟨_, rfl, ?_⟩))
 go_ret
 exact ⟨z8_, z83_⟩

end Go.Proofs.Ytbiffnahknkoiaa.PFnExactPatch
