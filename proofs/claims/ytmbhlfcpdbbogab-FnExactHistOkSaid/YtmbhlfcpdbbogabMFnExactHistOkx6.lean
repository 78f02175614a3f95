/- Laid by a program of this session out of the kit's print for the law FnExactHistOk: what it says of the machine is proved here, function by function; each contract under the conditions that it names. -/
import Derived.Test.YtmbhlfcpdbbogabMFnExactHistOkx0
import Derived.Test.YtmbhlfcpdbbogabMFnExactHistOkx1
import Derived.Test.YtmbhlfcpdbbogabMFnExactHistOkx2
import Derived.Test.YtmbhlfcpdbbogabMFnExactHistOkx3
import Derived.Test.YtmbhlfcpdbbogabMFnExactHistOkx5
namespace Go.Proofs.Ytmbhlfcpdbbogab.PFnExactHistOk
open Go.RowKit Go.Proofs.YtmbhlfcpdbbogabW.PrintWords Go.Proofs.YtmbhlfcpdbbogabW.PrintLast Go.Proofs.YtmbhlfcpdbbogabW.PrintMore
attribute [local go_sem] max2_int min2_int max_two min_two max_three min_three max_four min_four   -- for this text's walks alone
set_option linter.unusedVariables false
set_option linter.unusedSimpArgs false

/-! ### spec_ApplyAll: function 100 -/
def spec_ApplyAll.l0 : Nat → List (S148) → List (S55) → Int → Option ((List (S55)) × Int × Int)
 | 0, _, _, _ => none
 | k + 1, x1, x7, x8 => if x8 < (x1.length : Int) then (if 0 ≤ x8 then ((spec_ApplyOp.f k x7 ((rd_T148 x1 x8).f0) ((rd_T148 x1 x8).f1) ((rd_T148 x1 x8).f2) ((rd_T148 x1 x8).f3) ((rd_T148 x1 x8).f4)).bind fun bt231 => (if bt231.2 = 0 then (spec_ApplyAll.l0 k x1 bt231.1 (wrap64 (x8 + 1))) else (some (x7, x8, bt231.2)))) else (none)) else (some (x7, (x1.length : Int), 0))
def spec_ApplyAll.f (k : Nat) (l0 : List (S55)) (l1 : List (S148)) : Option ((List (S55)) × Int × Int) := (spec_TreeOk.f k l0).bind fun t223 => (if t223 = true then ((spec_l3Copy.f l0).bind fun t227 => (spec_ApplyAll.l0 k l1 t227 0)) else (some ((([] : List (S55))), 0, 2)))
theorem spec_ApplyAll.mono_l : ∀ k, (∀ y0 y1 y2, LeO (spec_ApplyAll.l0 k y0 y1 y2) (spec_ApplyAll.l0 (k + 1) y0 y1 y2))
 | 0 => fun _ _ _ r h => by simp [spec_ApplyAll.l0] at h
 | k + 1 => by
  have ih0 := spec_ApplyAll.mono_l k
  ·intro y0 y1 y2
   unfold spec_ApplyAll.l0
   repeat' first | (with_reducible first | exact ih0 _ _ _ | exact spec_ApplyOp.mono _ _ _ _ _ _ _ | exact spec_TreeOk.mono _ _ | exact LeO.refl _ | exact LeO.none _ | refine LeO.ite ?_ ?_ | refine LeO.bind ?_ (fun _ => ?_)) | exact ih0 _ _ _ | exact spec_ApplyOp.mono _ _ _ _ _ _ _ | exact spec_TreeOk.mono _ _ | exact LeO.none _ | refine LeO.ite ?_ ?_ | refine LeO.bind ?_ (fun _ => ?_)
theorem spec_ApplyAll.mono : ∀ a0 a1 k, LeO (spec_ApplyAll.f k a0 a1) (spec_ApplyAll.f (k + 1) a0 a1) := by
 intro a0 a1 k
 have ih0 := spec_ApplyAll.mono_l k
 unfold spec_ApplyAll.f
 repeat' first | (with_reducible first | exact ih0 _ _ _ | exact spec_ApplyOp.mono _ _ _ _ _ _ _ | exact spec_TreeOk.mono _ _ | exact LeO.refl _ | exact LeO.none _ | refine LeO.ite ?_ ?_ | refine LeO.bind ?_ (fun _ => ?_)) | exact ih0 _ _ _ | exact spec_ApplyOp.mono _ _ _ _ _ _ _ | exact spec_TreeOk.mono _ _ | exact LeO.none _ | refine LeO.ite ?_ ?_ | refine LeO.bind ?_ (fun _ => ?_)
set_option maxHeartbeats 8000000 in
set_option maxRecDepth 100000 in
theorem spec_ApplyAll.calls (k : Nat) (A0 : Option Addr) (c0 : Nat) (l0 : List (S55)) (A1 : Option Addr) (c1 : Nat) (l1 : List (S148)) (r1 : List (S55)) (r2 : Int) (r3 : Int) (w : World) (hr0 : Kd.C k55 w A0 l0.length l0) (hc0 : l0.length ≤ c0) (hr1 : Kd.C k148 w A1 l1.length l1) (hc1 : l1.length ≤ c1) (h : spec_ApplyAll.f k l0 l1 = some (r1, r2, r3)) :
  Calls Try.prog 100 #[.slice A0 l0.length c0, .slice A1 l1.length c1] w fun e w' => ∃ v0_ : Value, e = .returned (.tuple #[v0_, .int .i64 r2, .int .i64 r3]) ∧ Kd.R k55 55 w' w.heap.size (fun _ => True) v0_ r1 ∧ Below w.heap.size w w' := by
 have hu148 := Try.underlying148
 have HR0 := Aside0.mk hr0
 have HC0 := Aside0.mk hc0
 clear hr0 hc0
 have HR1 := Aside0.mk hr1
 have HC1 := Aside0.mk hc1
 clear hr1 hc1
 have HB := Aside0.mk (Below.refl w.heap.size w)
 have H : ((spec_TreeOk.f k l0).bind fun t223 => (if t223 = true then ((spec_l3Copy.f l0).bind fun t227 => (spec_ApplyAll.l0 k l1 t227 0)) else (some ((([] : List (S55))), 0, 2)))) = some (r1, r2, r3) := h
 clear h
 obtain ⟨t223, A3, H⟩ := bnd_ H
 by_cases c4 : t223 = true
 ·subst c4
  replace H := ift_ H
  obtain ⟨t227, A5, H⟩ := bnd_ H
  have H' := Aside0.mk H
  clear H
  go_enter Try.func100, Try.ntmps100
  go_wp2_with (first | ((with_reducible refine gate_callee (f := 29) rfl ?_); refine goesL_ (some 12) rfl rfl Try.func29 (by kernel_rfl) rfl #[.slice A0 l0.length c0] rfl z1_ ?_; (with_reducible refine (spec_TreeOk.calls k _ _ l0 true _ ?side1 ?side2 A3.out).mono ?_); (case side1 => exact z20_); (case side2 => exact HC0.out); rintro e w6 ⟨rfl, hb⟩; refine ⟨_, rfl, ?_⟩; replace HB := Aside0.mk (below_step z0_ hb); (try clear hb)) | ((with_reducible refine gate_callee (f := 96) rfl ?_); refine goesL_ (some 16) rfl rfl Try.func96 (by kernel_rfl) rfl #[.slice A0 l0.length c0] rfl z1_ ?_; (with_reducible refine (spec_l3Copy.calls _ _ l0 t227 _ ?side1 ?side2 A5.out).mono ?_); (case side1 => exact z2_); (case side2 => exact HC0.out); rintro e w7 ⟨v228, rfl, ho0, hb⟩; refine ⟨_, rfl, ?_⟩; have HO229 := Aside0.mk (Kd.R_lower ho0 (below_size z0_)); replace HB := Aside0.mk (below_step z0_ hb); (try clear hb ho0)))
  go_loopg [7, 8] k (fun kq v7 v8 w' => ∃ (x7_1 : List (S55)) (x8_1 : Int), v8 = .int .i64 x8_1 ∧ Aside0 (spec_ApplyAll.l0 kq l1 x7_1 x8_1 = some (r1, r2, r3)) ∧ Aside0 (kq ≤ k) ∧ Aside0 (Kd.R k55 55 w' w.heap.size (fun _ => True) v7 x7_1) ∧ Aside0 (Below w.heap.size w w'))
  case atStart => exact ⟨(t227), (0), z9_, H', ⟨Nat.le_refl _⟩, ⟨by (with_reducible repeat (first | apply Kd.R_alloc | apply Kd.R_drewN | apply Kd.R_drew)); exact HO229.out⟩, ⟨z0_⟩⟩
  case round =>
   clear H'
   try clear c1
   try clear c2
   try clear p2
   try clear c4
   obtain ⟨x7_1, x8_1, rfl, HA, HK1, HO_7, HB⟩ := hrel
   cases gk with
   | zero => exact absurd HA.out (by simp [spec_ApplyAll.l0])
   | succ k1 =>
    have H := HA.out
    clear HA
    simp only [spec_ApplyAll.l0] at H
    by_cases c8 : x8_1 < (l1.length : Int)
    ·rw [if_pos c8] at H
     have c8b0 : decide (x8_1 < (l1.length : Int)) = true := decide_eq_true c8
     clear c8
     obtain ⟨c9b0, H⟩ := ifd_ H
     replace H := Option.bind_eq_some_iff.mp H
     obtain ⟨⟨t231, t234⟩, A100, H⟩ := H
     replace H : (if t234 = 0 then (spec_ApplyAll.l0 k1 l1 t231 (wrap64 (x8_1 + 1))) else (some (x7_1, x8_1, t234))) = some (r1, r2, r3) := H
     have A10 := Aside0.mk A100
     clear A100
     by_cases c11 : t234 = 0
     ·rw [if_pos c11] at H
      have c11b0 : (t234 == 0) = true := beq_iff_eq.mpr c11
      have c11b1 : (t234 != 0) = false := bne_eq_false_iff_eq.mpr c11
      clear c11
      have H' := Aside0.mk H
      clear H
      have p230 : 0 ≤ (x8_1 : Int) := odt_
      have q230 : x8_1 < (l1.length : Int) := odt_
      obtain ⟨ad230, A230_1, c230_1, e230, hx230_0, hx230_1, hx230_2, hx230_3, hx230_4, hl230_1, hi230_1⟩ := at_T148 HR1.out x8_1 p230 q230
      cases e230
      replace hx230_0 := (HB.out.cell (World.block_lt_of_cell? w _ hx230_0)).trans hx230_0
      replace hx230_1 := (HB.out.cell (World.block_lt_of_cell? w _ hx230_1)).trans hx230_1
      replace hx230_2 := (HB.out.cell (World.block_lt_of_cell? w _ hx230_2)).trans hx230_2
      replace hx230_3 := (HB.out.cell (World.block_lt_of_cell? w _ hx230_3)).trans hx230_3
      replace hx230_4 := (HB.out.cell (World.block_lt_of_cell? w _ hx230_4)).trans hx230_4
      have HR230_1 := Aside0.mk hi230_1
      have HC230_1 := Aside0.mk hl230_1
      clear hi230_1 hl230_1
      replace p230 := eq_true p230
      replace q230 := eq_true q230
      obtain ⟨Ao12, co12, eo12⟩ := Kd.R_slice HO_7.out
      subst eo12
      go_wp2_with (first | ((with_reducible refine gate_callee (f := 123) rfl ?_); refine goesL_ (some 29) rfl rfl Try.func123 (by kernel_rfl) rfl #[.slice Ao12 x7_1.length co12, .agg #[.int .i64 ((rd_T148 l1 x8_1).f0), .slice A230_1 ((rd_T148 l1 x8_1).f1).length c230_1, .int .i64 ((rd_T148 l1 x8_1).f2), .int .i64 ((rd_T148 l1 x8_1).f3), .int .i64 ((rd_T148 l1 x8_1).f4)]] rfl z1_ ?_; (with_reducible refine (spec_ApplyOp.calls k1 _ _ x7_1 ((rd_T148 l1 x8_1).f0) _ _ ((rd_T148 l1 x8_1).f1) ((rd_T148 l1 x8_1).f2) ((rd_T148 l1 x8_1).f3) ((rd_T148 l1 x8_1).f4) t231 t234 _ ?side1 ?side2 ?side3 ?side4 A10.out).mono ?_); (case side1 => exact z126_); (case side2 => exact z164_); (case side3 => exact z110_); (case side4 => exact HC230_1.out); rintro e w13 ⟨v232, rfl, ho0, hb⟩; refine ⟨_, rfl, ?_⟩; have HO233 := Aside0.mk (Kd.R_lower (Kd.R_new' ho0 (Kd.R_lt z63_)) (below_size z0_)); replace HO_7 := Aside0.mk (Kd.R_elder' z63_ (Kd.R_base ho0) hb); replace HB := Aside0.mk (below_step z0_ hb); (try clear hb ho0)))
      go_roundg k1
      case measure => have := HK1.out; omega
      case rel => exact ⟨(t231), (wrap64 (x8_1 + 1)), z9_, H', ⟨z78_⟩, ⟨by (with_reducible repeat (first | apply Kd.R_alloc | apply Kd.R_drewN | apply Kd.R_drew)); exact Kd.R_mono HO233.out (fun _ hk => trivial)⟩, ⟨z0_⟩⟩
     ·rw [if_neg c11] at H
      have c11b0 : (t234 == 0) = false := beq_eq_false_iff_ne.mpr c11
      have c11b1 : (t234 != 0) = true := bne_iff_ne.mpr c11
      simp only [Option.some.injEq, Prod.mk.injEq] at H
      obtain ⟨rfl, rfl, rfl⟩ := H
      have p230 : 0 ≤ (x8_1 : Int) := odt_
      have q230 : x8_1 < (l1.length : Int) := odt_
      obtain ⟨ad230, A230_1, c230_1, e230, hx230_0, hx230_1, hx230_2, hx230_3, hx230_4, hl230_1, hi230_1⟩ := at_T148 HR1.out x8_1 p230 q230
      cases e230
      replace hx230_0 := (HB.out.cell (World.block_lt_of_cell? w _ hx230_0)).trans hx230_0
      replace hx230_1 := (HB.out.cell (World.block_lt_of_cell? w _ hx230_1)).trans hx230_1
      replace hx230_2 := (HB.out.cell (World.block_lt_of_cell? w _ hx230_2)).trans hx230_2
      replace hx230_3 := (HB.out.cell (World.block_lt_of_cell? w _ hx230_3)).trans hx230_3
      replace hx230_4 := (HB.out.cell (World.block_lt_of_cell? w _ hx230_4)).trans hx230_4
      have HR230_1 := Aside0.mk hi230_1
      have HC230_1 := Aside0.mk hl230_1
      clear hi230_1 hl230_1
      replace p230 := eq_true p230
      replace q230 := eq_true q230
      obtain ⟨Ao14, co14, eo14⟩ := Kd.R_slice HO_7.out
      subst eo14
      go_wp2_with (first | ((with_reducible refine gate_callee (f := 123) rfl ?_); refine goesL_ (some 29) rfl rfl Try.func123 (by kernel_rfl) rfl #[.slice Ao14 x7_1.length co14, .agg #[.int .i64 ((rd_T148 l1 x8_1).f0), .slice A230_1 ((rd_T148 l1 x8_1).f1).length c230_1, .int .i64 ((rd_T148 l1 x8_1).f2), .int .i64 ((rd_T148 l1 x8_1).f3), .int .i64 ((rd_T148 l1 x8_1).f4)]] rfl z1_ ?_; (with_reducible refine (spec_ApplyOp.calls k1 _ _ x7_1 ((rd_T148 l1 x8_1).f0) _ _ ((rd_T148 l1 x8_1).f1) ((rd_T148 l1 x8_1).f2) ((rd_T148 l1 x8_1).f3) ((rd_T148 l1 x8_1).f4) t231 t234 _ ?side1 ?side2 ?side3 ?side4 A10.out).mono ?_); (case side1 => exact z126_); (case side2 => exact z164_); (case side3 => exact z110_); (case side4 => exact HC230_1.out); rintro e w15 ⟨v232, rfl, ho0, hb⟩; refine ⟨_, rfl, ?_⟩; have HO233 := Aside0.mk (Kd.R_lower (Kd.R_new' ho0 (Kd.R_lt z63_)) (below_size z0_)); replace HO_7 := Aside0.mk (Kd.R_elder' z63_ (Kd.R_base ho0) hb); replace HB := Aside0.mk (below_step z0_ hb); (try clear hb ho0)))
      go_ret3
      exact ⟨_, z3_, z138_, z0_⟩
    ·rw [if_neg c8] at H
     have c8b0 : decide (x8_1 < (l1.length : Int)) = false := decide_eq_false c8
     clear c8
     simp only [Option.some.injEq, Prod.mk.injEq] at H
     obtain ⟨rfl, rfl, rfl⟩ := H
     go_wp2
     go_ret3
     exact ⟨_, z3_, z63_, z0_⟩
 ·replace c4 := Bool.eq_false_iff.mpr c4
  subst c4
  replace H := iff_ H
  obtain ⟨y224, hy224⟩ : ∃ y_ : List (S55), y_ = (([] : List (S55))) := ⟨_, rfl⟩
  replace H : (some (y224, 0, 2)) = some (r1, r2, r3) := by first | (rw [hy224]; with_reducible exact H) | (have H2_ := (Option.bind_some _ _).symm.trans H; rw [hy224]; with_reducible exact H2_) | (have H2_ := (Option.bind_some _ _).symm.trans H; with_reducible exact H2_) | with_reducible exact H | (rw [hy224]; exact H) | exact H
  have Ny224 := Aside0.mk hy224
  clear hy224
  simp only [Option.some.injEq, Prod.mk.injEq] at H
  obtain ⟨rfl, rfl, rfl⟩ := H
  go_enter Try.func100, Try.ntmps100
  go_wp2_with (first | ((with_reducible refine gate_callee (f := 29) rfl ?_); refine goesL_ (some 12) rfl rfl Try.func29 (by kernel_rfl) rfl #[.slice A0 l0.length c0] rfl z1_ ?_; (with_reducible refine (spec_TreeOk.calls k _ _ l0 false _ ?side1 ?side2 A3.out).mono ?_); (case side1 => exact z20_); (case side2 => exact HC0.out); rintro e w16 ⟨rfl, hb⟩; refine ⟨_, rfl, ?_⟩; replace HB := Aside0.mk (below_step z0_ hb); (try clear hb)) | ((with_reducible refine gate_dst (N := 14) rfl ?_); refine Kd.R_lit k55 _ 55 ?hg (N := 14) ?hd (xs := ([] : List (S55))) (inner := []) (ok := fun _ => True) (okp := fun _ => True) ?hr ?hp (fun _ hk => hk) trivial (Below.refl _ _) (Nat.le_refl _) (by simp) ?_; (case hd => rfl); (case hg => rfl); (case hr => exact z11_); (case hp => exact z127_); intro v225 w17 ho18 hb hg_ hnew_; clear hg_ hnew_; (first | rw [← Ny224.out] at ho18 | (simp only [Int.reduceToNat] at ho18; rw [← Ny224.out] at ho18)); have HO226 := Aside0.mk (Kd.R_lower ho18 (below_size z0_)); replace HB := Aside0.mk (below_step z0_ hb); clear hb ho18))
  go_ret3
  exact ⟨_, z3_, by (with_reducible repeat (first | apply Kd.R_alloc | apply Kd.R_drewN | apply Kd.R_drew)); exact HO226.out, z0_⟩

/-! ### spec_l15Path: function 141 -/
def spec_l15Path.l0 : Nat → List Int → Int → Option (Bool)
 | 0, _, _ => none
 | k + 1, x0, x3 => if x3 < (x0.length : Int) then (if 0 ≤ x3 then ((spec_l1In.f (rd x0 x3) 0 24).bind fun t236 => (if t236 = true then (spec_l15Path.l0 k x0 (wrap64 (x3 + 1))) else (some false))) else (none)) else (some (decide ((x0.length : Int) ≤ 12)))
def spec_l15Path.f (k : Nat) (l0 : List Int) : Option (Bool) := spec_l15Path.l0 k l0 0
theorem spec_l15Path.mono_l : ∀ k, (∀ y0 y1, LeO (spec_l15Path.l0 k y0 y1) (spec_l15Path.l0 (k + 1) y0 y1))
 | 0 => fun _ _ r h => by simp [spec_l15Path.l0] at h
 | k + 1 => by
  have ih0 := spec_l15Path.mono_l k
  ·intro y0 y1
   unfold spec_l15Path.l0
   repeat' first | (with_reducible first | exact ih0 _ _ | exact LeO.refl _ | exact LeO.none _ | refine LeO.ite ?_ ?_ | refine LeO.bind ?_ (fun _ => ?_)) | exact ih0 _ _ | exact LeO.none _ | refine LeO.ite ?_ ?_ | refine LeO.bind ?_ (fun _ => ?_)
theorem spec_l15Path.mono : ∀ a0 k, LeO (spec_l15Path.f k a0) (spec_l15Path.f (k + 1) a0) := by
 intro a0 k
 have ih0 := spec_l15Path.mono_l k
 unfold spec_l15Path.f
 repeat' first | (with_reducible first | exact ih0 _ _ | exact LeO.refl _ | exact LeO.none _ | refine LeO.ite ?_ ?_ | refine LeO.bind ?_ (fun _ => ?_)) | exact ih0 _ _ | exact LeO.none _ | refine LeO.ite ?_ ?_ | refine LeO.bind ?_ (fun _ => ?_)
set_option maxHeartbeats 8000000 in
set_option maxRecDepth 100000 in
theorem spec_l15Path.calls (k : Nat) (A0 : Option Addr) (c0 : Nat) (l0 : List Int) (r : Bool) (w : World) (hr0 : Kd.C (Kd.int .i64) w A0 l0.length l0) (hc0 : l0.length ≤ c0) (h : spec_l15Path.f k l0 = some r) :
  Calls Try.prog 141 #[.slice A0 l0.length c0] w fun e w' => e = .returned (.bool r) ∧ Drawn0 w w' := by
 have HR0 := Aside0.mk hr0
 have HC0 := Aside0.mk hc0
 clear hr0 hc0
 have H : (spec_l15Path.l0 k l0 0) = some r := h
 clear h
 have H' := Aside0.mk H
 clear H
 go_enter Try.func141, Try.ntmps141
 go_wp2
 go_loopg [3] k (fun kq v3 w' => ∃ (x3_1 : Int), v3 = .int .i64 x3_1 ∧ Aside0 (spec_l15Path.l0 kq l0 x3_1 = some r) ∧ Aside0 (kq ≤ k) ∧ Drawn0 w w')
 case atStart => exact ⟨(0), z9_, H', ⟨Nat.le_refl _⟩, z34_⟩
 case round =>
  clear H'
  try clear c1
  obtain ⟨x3_1, rfl, HA, HK1, ⟨m1, rfl⟩⟩ := hrel
  cases gk with
  | zero => exact absurd HA.out (by simp [spec_l15Path.l0])
  | succ k1 =>
   have H := HA.out
   clear HA
   simp only [spec_l15Path.l0] at H
   by_cases c2 : x3_1 < (l0.length : Int)
   ·rw [if_pos c2] at H
    have c2b0 : decide (x3_1 < (l0.length : Int)) = true := decide_eq_true c2
    clear c2
    obtain ⟨c3b0, H⟩ := ifd_ H
    obtain ⟨t236, A4, H⟩ := bnd_ H
    by_cases c5 : t236 = true
    ·subst c5
     replace H := ift_ H
     have H' := Aside0.mk H
     clear H
     have p235 : 0 ≤ (x3_1 : Int) := odt_
     have q235 : x3_1 < (l0.length : Int) := odt_
     obtain ⟨ad235, e235, hx235_0⟩ := Kd.at_int HR0.out x3_1 p235 q235
     cases e235
     replace p235 := eq_true p235
     replace q235 := eq_true q235
     go_wp2_with (first | ((with_reducible refine gate_callee (f := 83) rfl ?_); refine goesL_ (some 14) rfl rfl Try.func83 (by kernel_rfl) rfl #[.int .i64 (rd l0 x3_1), .int .i64 0, .int .i64 24] rfl z1_ ?_; (with_reducible refine (spec_l1In.calls (rd l0 x3_1) 0 24 true _ A4.out).mono ?_); rintro e w' ⟨rfl, ⟨nd, rfl⟩⟩; refine ⟨_, rfl, ?_⟩))
     go_roundg k1
     case measure => have := HK1.out; omega
     case rel => exact ⟨(wrap64 (x3_1 + 1)), z9_, H', ⟨z78_⟩, z34_⟩
    ·replace c5 := Bool.eq_false_iff.mpr c5
     subst c5
     replace H := iff_ H
     obtain rfl := Option.some.inj H
     have p235 : 0 ≤ (x3_1 : Int) := odt_
     have q235 : x3_1 < (l0.length : Int) := odt_
     obtain ⟨ad235, e235, hx235_0⟩ := Kd.at_int HR0.out x3_1 p235 q235
     cases e235
     replace p235 := eq_true p235
     replace q235 := eq_true q235
     go_wp2_with (first | ((with_reducible refine gate_callee (f := 83) rfl ?_); refine goesL_ (some 14) rfl rfl Try.func83 (by kernel_rfl) rfl #[.int .i64 (rd l0 x3_1), .int .i64 0, .int .i64 24] rfl z1_ ?_; (with_reducible refine (spec_l1In.calls (rd l0 x3_1) 0 24 false _ A4.out).mono ?_); rintro e w' ⟨rfl, ⟨nd, rfl⟩⟩; refine ⟨_, rfl, ?_⟩))
     go_ret
     exact ⟨z9_, z34_⟩
   ·rw [if_neg c2] at H
    have c2b0 : decide (x3_1 < (l0.length : Int)) = false := decide_eq_false c2
    clear c2
    obtain rfl := Option.some.inj H
    go_wp2
    go_ret
    exact ⟨z9_, z34_⟩

/-! ### spec_OpOk: function 124 -/
def spec_OpOk.f (k : Nat) (a0_0 : Int) (l0_1 : List Int) (a0_2 : Int) (a0_3 : Int) (a0_4 : Int) : Option (Bool) := (spec_l15Path.f k l0_1).bind fun t238 => (if t238 = true then (if a0_0 = 1 then ((spec_LabelOk.f a0_2).bind fun t239 => (if t239 = true then (if a0_3 = 0 then (some (a0_4 == 0)) else (some false)) else (some false))) else (if a0_0 = 2 then (if a0_2 = 0 then (if a0_3 = 0 then (some (a0_4 == 0)) else (some false)) else (some false)) else (if a0_0 = 3 then ((spec_LabelOk.f a0_2).bind fun t240 => (if t240 = true then ((spec_l1In.f a0_3 0 24).bind fun t241 => (if t241 = true then ((spec_l1In.f a0_4 0 24).bind fun t242 => (some t242)) else (some false))) else (some false))) else (some false)))) else (some false))
theorem spec_OpOk.mono : ∀ a0 a1 a2 a3 a4 k, LeO (spec_OpOk.f k a0 a1 a2 a3 a4) (spec_OpOk.f (k + 1) a0 a1 a2 a3 a4) := by
 intro a0 a1 a2 a3 a4 k
 unfold spec_OpOk.f
 repeat' first | (with_reducible first | exact spec_l15Path.mono _ _ | exact LeO.refl _ | exact LeO.none _ | refine LeO.ite ?_ ?_ | refine LeO.bind ?_ (fun _ => ?_)) | exact spec_l15Path.mono _ _ | exact LeO.none _ | refine LeO.ite ?_ ?_ | refine LeO.bind ?_ (fun _ => ?_)
set_option maxHeartbeats 8000000 in
set_option maxRecDepth 100000 in
theorem spec_OpOk.calls (k : Nat) (a0_0 : Int) (A0_1 : Option Addr) (c0_1 : Nat) (l0_1 : List Int) (a0_2 : Int) (a0_3 : Int) (a0_4 : Int) (r : Bool) (w : World) (hr0_1 : Kd.C (Kd.int .i64) w A0_1 l0_1.length l0_1) (hc0_1 : l0_1.length ≤ c0_1) (h : spec_OpOk.f k a0_0 l0_1 a0_2 a0_3 a0_4 = some r) :
  Calls Try.prog 124 #[.agg #[.int .i64 a0_0, .slice A0_1 l0_1.length c0_1, .int .i64 a0_2, .int .i64 a0_3, .int .i64 a0_4]] w fun e w' => e = .returned (.bool r) ∧ Below w.heap.size w w' := by
 have hu148 := Try.underlying148
 have HR0_1 := Aside0.mk hr0_1
 have HC0_1 := Aside0.mk hc0_1
 clear hr0_1 hc0_1
 have HB := Aside0.mk (Below.refl w.heap.size w)
 have H : ((spec_l15Path.f k l0_1).bind fun t238 => (if t238 = true then (if a0_0 = 1 then ((spec_LabelOk.f a0_2).bind fun t239 => (if t239 = true then (if a0_3 = 0 then (some (a0_4 == 0)) else (some false)) else (some false))) else (if a0_0 = 2 then (if a0_2 = 0 then (if a0_3 = 0 then (some (a0_4 == 0)) else (some false)) else (some false)) else (if a0_0 = 3 then ((spec_LabelOk.f a0_2).bind fun t240 => (if t240 = true then ((spec_l1In.f a0_3 0 24).bind fun t241 => (if t241 = true then ((spec_l1In.f a0_4 0 24).bind fun t242 => (some t242)) else (some false))) else (some false))) else (some false)))) else (some false))) = some r := h
 clear h
 obtain ⟨t238, A2, H⟩ := bnd_ H
 by_cases c3 : t238 = true
 ·subst c3
  replace H := ift_ H
  by_cases c4 : a0_0 = 1
  ·rw [if_pos c4] at H
   have c4b0 : (a0_0 == 1) = true := beq_iff_eq.mpr c4
   have c4b1 : (a0_0 != 1) = false := bne_eq_false_iff_eq.mpr c4
   clear c4
   obtain ⟨t239, A5, H⟩ := bnd_ H
   by_cases c6 : t239 = true
   ·subst c6
    replace H := ift_ H
    by_cases c7 : a0_3 = 0
    ·rw [if_pos c7] at H
     have c7b0 : (a0_3 == 0) = true := beq_iff_eq.mpr c7
     have c7b1 : (a0_3 != 0) = false := bne_eq_false_iff_eq.mpr c7
     clear c7
     obtain rfl := Option.some.inj H
     go_enter Try.func124, Try.ntmps124
     go_wp2_with (first | ((with_reducible refine gate_dst (N := 1) rfl ?_); refine box_event ?hg (N := 1) ?hd (cs := #[.int .i64 a0_0, .slice A0_1 l0_1.length c0_1, .int .i64 a0_2, .int .i64 a0_3, .int .i64 a0_4]) (t := 148) ?hr ?_; (case hd => rfl); (case hg => rfl); (case hr => exact z11_); intro gb237 hg w8 hbox hb; have BK237 := Aside0.mk (hbox); have GW237 := Aside0.mk ((by rw [hg]; exact (below_size z0_) : w.heap.size ≤ gb237)); have GE237 := Aside0.mk ((by rw [hg]; exact (below_size z0_) : w.heap.size ≤ gb237)); replace HB := Aside0.mk (below_step z0_ hb); clear hb hbox hg; have hcz9_0 : w8.cell? ⟨gb237, 0, none⟩ = some (.int .i64 a0_0) := (blk_cell BK237.out 0).trans rfl; have hcz9_1 : w8.cell? ⟨gb237, 1, none⟩ = some (.slice A0_1 l0_1.length c0_1) := (blk_cell BK237.out 1).trans rfl; have hcz9_2 : w8.cell? ⟨gb237, 2, none⟩ = some (.int .i64 a0_2) := (blk_cell BK237.out 2).trans rfl; have hcz9_3 : w8.cell? ⟨gb237, 3, none⟩ = some (.int .i64 a0_3) := (blk_cell BK237.out 3).trans rfl; have hcz9_4 : w8.cell? ⟨gb237, 4, none⟩ = some (.int .i64 a0_4) := (blk_cell BK237.out 4).trans rfl; have hfz9_0 := blk_frozen BK237.out 0; have hfz9_1 := blk_frozen BK237.out 1; have hfz9_2 := blk_frozen BK237.out 2; have hfz9_3 := blk_frozen BK237.out 3; have hfz9_4 := blk_frozen BK237.out 4) | ((with_reducible refine gate_callee (f := 141) rfl ?_); refine goesL_ (some 5) rfl rfl Try.func141 (by kernel_rfl) rfl #[.slice A0_1 l0_1.length c0_1] rfl z1_ ?_; (with_reducible refine (spec_l15Path.calls k _ _ l0_1 true _ ?side1 ?side2 A2.out).mono ?_); (case side1 => exact z5_); (case side2 => exact HC0_1.out); rintro e w' ⟨rfl, ⟨nd, rfl⟩⟩; refine ⟨_, rfl, ?_⟩) | ((with_reducible refine gate_callee (f := 55) rfl ?_); refine goesL_ (some 13) rfl rfl Try.func55 (by kernel_rfl) rfl #[.int .i64 a0_2] rfl z1_ ?_; (with_reducible refine (spec_LabelOk.calls a0_2 true _ A5.out).mono ?_); rintro e w' ⟨rfl, ⟨nd, rfl⟩⟩; refine ⟨_, rfl, ?_⟩))
     go_ret
     exact ⟨z3_, z32_⟩
    ·rw [if_neg c7] at H
     have c7b0 : (a0_3 == 0) = false := beq_eq_false_iff_ne.mpr c7
     have c7b1 : (a0_3 != 0) = true := bne_iff_ne.mpr c7
     obtain rfl := Option.some.inj H
     go_enter Try.func124, Try.ntmps124
     go_wp2_with (first | ((with_reducible refine gate_dst (N := 1) rfl ?_); refine box_event ?hg (N := 1) ?hd (cs := #[.int .i64 a0_0, .slice A0_1 l0_1.length c0_1, .int .i64 a0_2, .int .i64 a0_3, .int .i64 a0_4]) (t := 148) ?hr ?_; (case hd => rfl); (case hg => rfl); (case hr => exact z11_); intro gb237 hg w10 hbox hb; have BK237 := Aside0.mk (hbox); have GW237 := Aside0.mk ((by rw [hg]; exact (below_size z0_) : w.heap.size ≤ gb237)); have GE237 := Aside0.mk ((by rw [hg]; exact (below_size z0_) : w.heap.size ≤ gb237)); replace HB := Aside0.mk (below_step z0_ hb); clear hb hbox hg; have hcz11_0 : w10.cell? ⟨gb237, 0, none⟩ = some (.int .i64 a0_0) := (blk_cell BK237.out 0).trans rfl; have hcz11_1 : w10.cell? ⟨gb237, 1, none⟩ = some (.slice A0_1 l0_1.length c0_1) := (blk_cell BK237.out 1).trans rfl; have hcz11_2 : w10.cell? ⟨gb237, 2, none⟩ = some (.int .i64 a0_2) := (blk_cell BK237.out 2).trans rfl; have hcz11_3 : w10.cell? ⟨gb237, 3, none⟩ = some (.int .i64 a0_3) := (blk_cell BK237.out 3).trans rfl; have hcz11_4 : w10.cell? ⟨gb237, 4, none⟩ = some (.int .i64 a0_4) := (blk_cell BK237.out 4).trans rfl; have hfz11_0 := blk_frozen BK237.out 0; have hfz11_1 := blk_frozen BK237.out 1; have hfz11_2 := blk_frozen BK237.out 2; have hfz11_3 := blk_frozen BK237.out 3; have hfz11_4 := blk_frozen BK237.out 4) | ((with_reducible refine gate_callee (f := 141) rfl ?_); refine goesL_ (some 5) rfl rfl Try.func141 (by kernel_rfl) rfl #[.slice A0_1 l0_1.length c0_1] rfl z1_ ?_; (with_reducible refine (spec_l15Path.calls k _ _ l0_1 true _ ?side1 ?side2 A2.out).mono ?_); (case side1 => exact z5_); (case side2 => exact HC0_1.out); rintro e w' ⟨rfl, ⟨nd, rfl⟩⟩; refine ⟨_, rfl, ?_⟩) | ((with_reducible refine gate_callee (f := 55) rfl ?_); refine goesL_ (some 13) rfl rfl Try.func55 (by kernel_rfl) rfl #[.int .i64 a0_2] rfl z1_ ?_; (with_reducible refine (spec_LabelOk.calls a0_2 true _ A5.out).mono ?_); rintro e w' ⟨rfl, ⟨nd, rfl⟩⟩; refine ⟨_, rfl, ?_⟩))
     go_ret
     exact ⟨z3_, z32_⟩
   ·replace c6 := Bool.eq_false_iff.mpr c6
    subst c6
    replace H := iff_ H
    obtain rfl := Option.some.inj H
    go_enter Try.func124, Try.ntmps124
    go_wp2_with (first | ((with_reducible refine gate_dst (N := 1) rfl ?_); refine box_event ?hg (N := 1) ?hd (cs := #[.int .i64 a0_0, .slice A0_1 l0_1.length c0_1, .int .i64 a0_2, .int .i64 a0_3, .int .i64 a0_4]) (t := 148) ?hr ?_; (case hd => rfl); (case hg => rfl); (case hr => exact z11_); intro gb237 hg w12 hbox hb; have BK237 := Aside0.mk (hbox); have GW237 := Aside0.mk ((by rw [hg]; exact (below_size z0_) : w.heap.size ≤ gb237)); have GE237 := Aside0.mk ((by rw [hg]; exact (below_size z0_) : w.heap.size ≤ gb237)); replace HB := Aside0.mk (below_step z0_ hb); clear hb hbox hg; have hcz13_0 : w12.cell? ⟨gb237, 0, none⟩ = some (.int .i64 a0_0) := (blk_cell BK237.out 0).trans rfl; have hcz13_1 : w12.cell? ⟨gb237, 1, none⟩ = some (.slice A0_1 l0_1.length c0_1) := (blk_cell BK237.out 1).trans rfl; have hcz13_2 : w12.cell? ⟨gb237, 2, none⟩ = some (.int .i64 a0_2) := (blk_cell BK237.out 2).trans rfl; have hcz13_3 : w12.cell? ⟨gb237, 3, none⟩ = some (.int .i64 a0_3) := (blk_cell BK237.out 3).trans rfl; have hcz13_4 : w12.cell? ⟨gb237, 4, none⟩ = some (.int .i64 a0_4) := (blk_cell BK237.out 4).trans rfl; have hfz13_0 := blk_frozen BK237.out 0; have hfz13_1 := blk_frozen BK237.out 1; have hfz13_2 := blk_frozen BK237.out 2; have hfz13_3 := blk_frozen BK237.out 3; have hfz13_4 := blk_frozen BK237.out 4) | ((with_reducible refine gate_callee (f := 141) rfl ?_); refine goesL_ (some 5) rfl rfl Try.func141 (by kernel_rfl) rfl #[.slice A0_1 l0_1.length c0_1] rfl z1_ ?_; (with_reducible refine (spec_l15Path.calls k _ _ l0_1 true _ ?side1 ?side2 A2.out).mono ?_); (case side1 => exact z5_); (case side2 => exact HC0_1.out); rintro e w' ⟨rfl, ⟨nd, rfl⟩⟩; refine ⟨_, rfl, ?_⟩) | ((with_reducible refine gate_callee (f := 55) rfl ?_); refine goesL_ (some 13) rfl rfl Try.func55 (by kernel_rfl) rfl #[.int .i64 a0_2] rfl z1_ ?_; (with_reducible refine (spec_LabelOk.calls a0_2 false _ A5.out).mono ?_); rintro e w' ⟨rfl, ⟨nd, rfl⟩⟩; refine ⟨_, rfl, ?_⟩))
    go_ret
    exact ⟨z3_, z32_⟩
  ·rw [if_neg c4] at H
   have c4b0 : (a0_0 == 1) = false := beq_eq_false_iff_ne.mpr c4
   have c4b1 : (a0_0 != 1) = true := bne_iff_ne.mpr c4
   by_cases c14 : a0_0 = 2
   ·rw [if_pos c14] at H
    have c14b0 : (a0_0 == 2) = true := beq_iff_eq.mpr c14
    have c14b1 : (a0_0 != 2) = false := bne_eq_false_iff_eq.mpr c14
    clear c14
    by_cases c15 : a0_2 = 0
    ·rw [if_pos c15] at H
     have c15b0 : (a0_2 == 0) = true := beq_iff_eq.mpr c15
     have c15b1 : (a0_2 != 0) = false := bne_eq_false_iff_eq.mpr c15
     clear c15
     by_cases c16 : a0_3 = 0
     ·rw [if_pos c16] at H
      have c16b0 : (a0_3 == 0) = true := beq_iff_eq.mpr c16
      have c16b1 : (a0_3 != 0) = false := bne_eq_false_iff_eq.mpr c16
      clear c16
      obtain rfl := Option.some.inj H
      go_enter Try.func124, Try.ntmps124
      go_wp2_with (first | ((with_reducible refine gate_dst (N := 1) rfl ?_); refine box_event ?hg (N := 1) ?hd (cs := #[.int .i64 a0_0, .slice A0_1 l0_1.length c0_1, .int .i64 a0_2, .int .i64 a0_3, .int .i64 a0_4]) (t := 148) ?hr ?_; (case hd => rfl); (case hg => rfl); (case hr => exact z11_); intro gb237 hg w17 hbox hb; have BK237 := Aside0.mk (hbox); have GW237 := Aside0.mk ((by rw [hg]; exact (below_size z0_) : w.heap.size ≤ gb237)); have GE237 := Aside0.mk ((by rw [hg]; exact (below_size z0_) : w.heap.size ≤ gb237)); replace HB := Aside0.mk (below_step z0_ hb); clear hb hbox hg; have hcz18_0 : w17.cell? ⟨gb237, 0, none⟩ = some (.int .i64 a0_0) := (blk_cell BK237.out 0).trans rfl; have hcz18_1 : w17.cell? ⟨gb237, 1, none⟩ = some (.slice A0_1 l0_1.length c0_1) := (blk_cell BK237.out 1).trans rfl; have hcz18_2 : w17.cell? ⟨gb237, 2, none⟩ = some (.int .i64 a0_2) := (blk_cell BK237.out 2).trans rfl; have hcz18_3 : w17.cell? ⟨gb237, 3, none⟩ = some (.int .i64 a0_3) := (blk_cell BK237.out 3).trans rfl; have hcz18_4 : w17.cell? ⟨gb237, 4, none⟩ = some (.int .i64 a0_4) := (blk_cell BK237.out 4).trans rfl; have hfz18_0 := blk_frozen BK237.out 0; have hfz18_1 := blk_frozen BK237.out 1; have hfz18_2 := blk_frozen BK237.out 2; have hfz18_3 := blk_frozen BK237.out 3; have hfz18_4 := blk_frozen BK237.out 4) | ((with_reducible refine gate_callee (f := 141) rfl ?_); refine goesL_ (some 5) rfl rfl Try.func141 (by kernel_rfl) rfl #[.slice A0_1 l0_1.length c0_1] rfl z1_ ?_; (with_reducible refine (spec_l15Path.calls k _ _ l0_1 true _ ?side1 ?side2 A2.out).mono ?_); (case side1 => exact z5_); (case side2 => exact HC0_1.out); rintro e w' ⟨rfl, ⟨nd, rfl⟩⟩; refine ⟨_, rfl, ?_⟩))
      go_ret
      exact ⟨z3_, z32_⟩
     ·rw [if_neg c16] at H
      have c16b0 : (a0_3 == 0) = false := beq_eq_false_iff_ne.mpr c16
      have c16b1 : (a0_3 != 0) = true := bne_iff_ne.mpr c16
      obtain rfl := Option.some.inj H
      go_enter Try.func124, Try.ntmps124
      go_wp2_with (first | ((with_reducible refine gate_dst (N := 1) rfl ?_); refine box_event ?hg (N := 1) ?hd (cs := #[.int .i64 a0_0, .slice A0_1 l0_1.length c0_1, .int .i64 a0_2, .int .i64 a0_3, .int .i64 a0_4]) (t := 148) ?hr ?_; (case hd => rfl); (case hg => rfl); (case hr => exact z11_); intro gb237 hg w19 hbox hb; have BK237 := Aside0.mk (hbox); have GW237 := Aside0.mk ((by rw [hg]; exact (below_size z0_) : w.heap.size ≤ gb237)); have GE237 := Aside0.mk ((by rw [hg]; exact (below_size z0_) : w.heap.size ≤ gb237)); replace HB := Aside0.mk (below_step z0_ hb); clear hb hbox hg; have hcz20_0 : w19.cell? ⟨gb237, 0, none⟩ = some (.int .i64 a0_0) := (blk_cell BK237.out 0).trans rfl; have hcz20_1 : w19.cell? ⟨gb237, 1, none⟩ = some (.slice A0_1 l0_1.length c0_1) := (blk_cell BK237.out 1).trans rfl; have hcz20_2 : w19.cell? ⟨gb237, 2, none⟩ = some (.int .i64 a0_2) := (blk_cell BK237.out 2).trans rfl; have hcz20_3 : w19.cell? ⟨gb237, 3, none⟩ = some (.int .i64 a0_3) := (blk_cell BK237.out 3).trans rfl; have hcz20_4 : w19.cell? ⟨gb237, 4, none⟩ = some (.int .i64 a0_4) := (blk_cell BK237.out 4).trans rfl; have hfz20_0 := blk_frozen BK237.out 0; have hfz20_1 := blk_frozen BK237.out 1; have hfz20_2 := blk_frozen BK237.out 2; have hfz20_3 := blk_frozen BK237.out 3; have hfz20_4 := blk_frozen BK237.out 4) | ((with_reducible refine gate_callee (f := 141) rfl ?_); refine goesL_ (some 5) rfl rfl Try.func141 (by kernel_rfl) rfl #[.slice A0_1 l0_1.length c0_1] rfl z1_ ?_; (with_reducible refine (spec_l15Path.calls k _ _ l0_1 true _ ?side1 ?side2 A2.out).mono ?_); (case side1 => exact z5_); (case side2 => exact HC0_1.out); rintro e w' ⟨rfl, ⟨nd, rfl⟩⟩; refine ⟨_, rfl, ?_⟩))
      go_ret
      exact ⟨z3_, z32_⟩
    ·rw [if_neg c15] at H
     have c15b0 : (a0_2 == 0) = false := beq_eq_false_iff_ne.mpr c15
     have c15b1 : (a0_2 != 0) = true := bne_iff_ne.mpr c15
     obtain rfl := Option.some.inj H
     go_enter Try.func124, Try.ntmps124
     go_wp2_with (first | ((with_reducible refine gate_dst (N := 1) rfl ?_); refine box_event ?hg (N := 1) ?hd (cs := #[.int .i64 a0_0, .slice A0_1 l0_1.length c0_1, .int .i64 a0_2, .int .i64 a0_3, .int .i64 a0_4]) (t := 148) ?hr ?_; (case hd => rfl); (case hg => rfl); (case hr => exact z11_); intro gb237 hg w21 hbox hb; have BK237 := Aside0.mk (hbox); have GW237 := Aside0.mk ((by rw [hg]; exact (below_size z0_) : w.heap.size ≤ gb237)); have GE237 := Aside0.mk ((by rw [hg]; exact (below_size z0_) : w.heap.size ≤ gb237)); replace HB := Aside0.mk (below_step z0_ hb); clear hb hbox hg; have hcz22_0 : w21.cell? ⟨gb237, 0, none⟩ = some (.int .i64 a0_0) := (blk_cell BK237.out 0).trans rfl; have hcz22_1 : w21.cell? ⟨gb237, 1, none⟩ = some (.slice A0_1 l0_1.length c0_1) := (blk_cell BK237.out 1).trans rfl; have hcz22_2 : w21.cell? ⟨gb237, 2, none⟩ = some (.int .i64 a0_2) := (blk_cell BK237.out 2).trans rfl; have hcz22_3 : w21.cell? ⟨gb237, 3, none⟩ = some (.int .i64 a0_3) := (blk_cell BK237.out 3).trans rfl; have hcz22_4 : w21.cell? ⟨gb237, 4, none⟩ = some (.int .i64 a0_4) := (blk_cell BK237.out 4).trans rfl; have hfz22_0 := blk_frozen BK237.out 0; have hfz22_1 := blk_frozen BK237.out 1; have hfz22_2 := blk_frozen BK237.out 2; have hfz22_3 := blk_frozen BK237.out 3; have hfz22_4 := blk_frozen BK237.out 4) | ((with_reducible refine gate_callee (f := 141) rfl ?_); refine goesL_ (some 5) rfl rfl Try.func141 (by kernel_rfl) rfl #[.slice A0_1 l0_1.length c0_1] rfl z1_ ?_; (with_reducible refine (spec_l15Path.calls k _ _ l0_1 true _ ?side1 ?side2 A2.out).mono ?_); (case side1 => exact z5_); (case side2 => exact HC0_1.out); rintro e w' ⟨rfl, ⟨nd, rfl⟩⟩; refine ⟨_, rfl, ?_⟩))
     go_ret
     exact ⟨z3_, z32_⟩
   ·rw [if_neg c14] at H
    have c14b0 : (a0_0 == 2) = false := beq_eq_false_iff_ne.mpr c14
    have c14b1 : (a0_0 != 2) = true := bne_iff_ne.mpr c14
    by_cases c23 : a0_0 = 3
    ·rw [if_pos c23] at H
     have c23b0 : (a0_0 == 3) = true := beq_iff_eq.mpr c23
     have c23b1 : (a0_0 != 3) = false := bne_eq_false_iff_eq.mpr c23
     clear c23
     obtain ⟨t240, A24, H⟩ := bnd_ H
     by_cases c25 : t240 = true
     ·subst c25
      replace H := ift_ H
      obtain ⟨t241, A26, H⟩ := bnd_ H
      by_cases c27 : t241 = true
      ·subst c27
       replace H := ift_ H
       obtain ⟨t242, A28, H⟩ := bnd_ H
       obtain rfl := Option.some.inj H
       go_enter Try.func124, Try.ntmps124
       go_wp2_with (first | ((with_reducible refine gate_dst (N := 1) rfl ?_); refine box_event ?hg (N := 1) ?hd (cs := #[.int .i64 a0_0, .slice A0_1 l0_1.length c0_1, .int .i64 a0_2, .int .i64 a0_3, .int .i64 a0_4]) (t := 148) ?hr ?_; (case hd => rfl); (case hg => rfl); (case hr => exact z11_); intro gb237 hg w29 hbox hb; have BK237 := Aside0.mk (hbox); have GW237 := Aside0.mk ((by rw [hg]; exact (below_size z0_) : w.heap.size ≤ gb237)); have GE237 := Aside0.mk ((by rw [hg]; exact (below_size z0_) : w.heap.size ≤ gb237)); replace HB := Aside0.mk (below_step z0_ hb); clear hb hbox hg; have hcz30_0 : w29.cell? ⟨gb237, 0, none⟩ = some (.int .i64 a0_0) := (blk_cell BK237.out 0).trans rfl; have hcz30_1 : w29.cell? ⟨gb237, 1, none⟩ = some (.slice A0_1 l0_1.length c0_1) := (blk_cell BK237.out 1).trans rfl; have hcz30_2 : w29.cell? ⟨gb237, 2, none⟩ = some (.int .i64 a0_2) := (blk_cell BK237.out 2).trans rfl; have hcz30_3 : w29.cell? ⟨gb237, 3, none⟩ = some (.int .i64 a0_3) := (blk_cell BK237.out 3).trans rfl; have hcz30_4 : w29.cell? ⟨gb237, 4, none⟩ = some (.int .i64 a0_4) := (blk_cell BK237.out 4).trans rfl; have hfz30_0 := blk_frozen BK237.out 0; have hfz30_1 := blk_frozen BK237.out 1; have hfz30_2 := blk_frozen BK237.out 2; have hfz30_3 := blk_frozen BK237.out 3; have hfz30_4 := blk_frozen BK237.out 4) | ((with_reducible refine gate_callee (f := 141) rfl ?_); refine goesL_ (some 5) rfl rfl Try.func141 (by kernel_rfl) rfl #[.slice A0_1 l0_1.length c0_1] rfl z1_ ?_; (with_reducible refine (spec_l15Path.calls k _ _ l0_1 true _ ?side1 ?side2 A2.out).mono ?_); (case side1 => exact z5_); (case side2 => exact HC0_1.out); rintro e w' ⟨rfl, ⟨nd, rfl⟩⟩; refine ⟨_, rfl, ?_⟩) | ((with_reducible refine gate_callee (f := 55) rfl ?_); refine goesL_ (some 43) rfl rfl Try.func55 (by kernel_rfl) rfl #[.int .i64 a0_2] rfl z1_ ?_; (with_reducible refine (spec_LabelOk.calls a0_2 true _ A24.out).mono ?_); rintro e w' ⟨rfl, ⟨nd, rfl⟩⟩; refine ⟨_, rfl, ?_⟩) | (go_at_call 83; (with_reducible refine (spec_l1In.calls a0_3 0 24 true _ A26.out).mono ?_); rintro e w' ⟨rfl, ⟨nd, rfl⟩⟩) | (go_at_call 83; (with_reducible refine (spec_l1In.calls a0_4 0 24 t242 _ A28.out).mono ?_); rintro e w' ⟨rfl, ⟨nd, rfl⟩⟩))
       go_ret
       exact ⟨z3_, z32_⟩
      ·replace c27 := Bool.eq_false_iff.mpr c27
       subst c27
       replace H := iff_ H
       obtain rfl := Option.some.inj H
       go_enter Try.func124, Try.ntmps124
       go_wp2_with (first | ((with_reducible refine gate_dst (N := 1) rfl ?_); refine box_event ?hg (N := 1) ?hd (cs := #[.int .i64 a0_0, .slice A0_1 l0_1.length c0_1, .int .i64 a0_2, .int .i64 a0_3, .int .i64 a0_4]) (t := 148) ?hr ?_; (case hd => rfl); (case hg => rfl); (case hr => exact z11_); intro gb237 hg w31 hbox hb; have BK237 := Aside0.mk (hbox); have GW237 := Aside0.mk ((by rw [hg]; exact (below_size z0_) : w.heap.size ≤ gb237)); have GE237 := Aside0.mk ((by rw [hg]; exact (below_size z0_) : w.heap.size ≤ gb237)); replace HB := Aside0.mk (below_step z0_ hb); clear hb hbox hg; have hcz32_0 : w31.cell? ⟨gb237, 0, none⟩ = some (.int .i64 a0_0) := (blk_cell BK237.out 0).trans rfl; have hcz32_1 : w31.cell? ⟨gb237, 1, none⟩ = some (.slice A0_1 l0_1.length c0_1) := (blk_cell BK237.out 1).trans rfl; have hcz32_2 : w31.cell? ⟨gb237, 2, none⟩ = some (.int .i64 a0_2) := (blk_cell BK237.out 2).trans rfl; have hcz32_3 : w31.cell? ⟨gb237, 3, none⟩ = some (.int .i64 a0_3) := (blk_cell BK237.out 3).trans rfl; have hcz32_4 : w31.cell? ⟨gb237, 4, none⟩ = some (.int .i64 a0_4) := (blk_cell BK237.out 4).trans rfl; have hfz32_0 := blk_frozen BK237.out 0; have hfz32_1 := blk_frozen BK237.out 1; have hfz32_2 := blk_frozen BK237.out 2; have hfz32_3 := blk_frozen BK237.out 3; have hfz32_4 := blk_frozen BK237.out 4) | ((with_reducible refine gate_callee (f := 141) rfl ?_); refine goesL_ (some 5) rfl rfl Try.func141 (by kernel_rfl) rfl #[.slice A0_1 l0_1.length c0_1] rfl z1_ ?_; (with_reducible refine (spec_l15Path.calls k _ _ l0_1 true _ ?side1 ?side2 A2.out).mono ?_); (case side1 => exact z5_); (case side2 => exact HC0_1.out); rintro e w' ⟨rfl, ⟨nd, rfl⟩⟩; refine ⟨_, rfl, ?_⟩) | ((with_reducible refine gate_callee (f := 55) rfl ?_); refine goesL_ (some 43) rfl rfl Try.func55 (by kernel_rfl) rfl #[.int .i64 a0_2] rfl z1_ ?_; (with_reducible refine (spec_LabelOk.calls a0_2 true _ A24.out).mono ?_); rintro e w' ⟨rfl, ⟨nd, rfl⟩⟩; refine ⟨_, rfl, ?_⟩) | (go_at_call 83; (with_reducible refine (spec_l1In.calls a0_3 0 24 false _ A26.out).mono ?_); rintro e w' ⟨rfl, ⟨nd, rfl⟩⟩))
       go_ret
       exact ⟨z3_, z32_⟩
     ·replace c25 := Bool.eq_false_iff.mpr c25
      subst c25
      replace H := iff_ H
      obtain rfl := Option.some.inj H
      go_enter Try.func124, Try.ntmps124
      go_wp2_with (first | ((with_reducible refine gate_dst (N := 1) rfl ?_); refine box_event ?hg (N := 1) ?hd (cs := #[.int .i64 a0_0, .slice A0_1 l0_1.length c0_1, .int .i64 a0_2, .int .i64 a0_3, .int .i64 a0_4]) (t := 148) ?hr ?_; (case hd => rfl); (case hg => rfl); (case hr => exact z11_); intro gb237 hg w33 hbox hb; have BK237 := Aside0.mk (hbox); have GW237 := Aside0.mk ((by rw [hg]; exact (below_size z0_) : w.heap.size ≤ gb237)); have GE237 := Aside0.mk ((by rw [hg]; exact (below_size z0_) : w.heap.size ≤ gb237)); replace HB := Aside0.mk (below_step z0_ hb); clear hb hbox hg; have hcz34_0 : w33.cell? ⟨gb237, 0, none⟩ = some (.int .i64 a0_0) := (blk_cell BK237.out 0).trans rfl; have hcz34_1 : w33.cell? ⟨gb237, 1, none⟩ = some (.slice A0_1 l0_1.length c0_1) := (blk_cell BK237.out 1).trans rfl; have hcz34_2 : w33.cell? ⟨gb237, 2, none⟩ = some (.int .i64 a0_2) := (blk_cell BK237.out 2).trans rfl; have hcz34_3 : w33.cell? ⟨gb237, 3, none⟩ = some (.int .i64 a0_3) := (blk_cell BK237.out 3).trans rfl; have hcz34_4 : w33.cell? ⟨gb237, 4, none⟩ = some (.int .i64 a0_4) := (blk_cell BK237.out 4).trans rfl; have hfz34_0 := blk_frozen BK237.out 0; have hfz34_1 := blk_frozen BK237.out 1; have hfz34_2 := blk_frozen BK237.out 2; have hfz34_3 := blk_frozen BK237.out 3; have hfz34_4 := blk_frozen BK237.out 4) | ((with_reducible refine gate_callee (f := 141) rfl ?_); refine goesL_ (some 5) rfl rfl Try.func141 (by kernel_rfl) rfl #[.slice A0_1 l0_1.length c0_1] rfl z1_ ?_; (with_reducible refine (spec_l15Path.calls k _ _ l0_1 true _ ?side1 ?side2 A2.out).mono ?_); (case side1 => exact z5_); (case side2 => exact HC0_1.out); rintro e w' ⟨rfl, ⟨nd, rfl⟩⟩; refine ⟨_, rfl, ?_⟩) | ((with_reducible refine gate_callee (f := 55) rfl ?_); refine goesL_ (some 43) rfl rfl Try.func55 (by kernel_rfl) rfl #[.int .i64 a0_2] rfl z1_ ?_; (with_reducible refine (spec_LabelOk.calls a0_2 false _ A24.out).mono ?_); rintro e w' ⟨rfl, ⟨nd, rfl⟩⟩; refine ⟨_, rfl, ?_⟩))
      go_ret
      exact ⟨z3_, z32_⟩
    ·rw [if_neg c23] at H
     have c23b0 : (a0_0 == 3) = false := beq_eq_false_iff_ne.mpr c23
     have c23b1 : (a0_0 != 3) = true := bne_iff_ne.mpr c23
     obtain rfl := Option.some.inj H
     go_enter Try.func124, Try.ntmps124
     go_wp2_with (first | ((with_reducible refine gate_dst (N := 1) rfl ?_); refine box_event ?hg (N := 1) ?hd (cs := #[.int .i64 a0_0, .slice A0_1 l0_1.length c0_1, .int .i64 a0_2, .int .i64 a0_3, .int .i64 a0_4]) (t := 148) ?hr ?_; (case hd => rfl); (case hg => rfl); (case hr => exact z11_); intro gb237 hg w35 hbox hb; have BK237 := Aside0.mk (hbox); have GW237 := Aside0.mk ((by rw [hg]; exact (below_size z0_) : w.heap.size ≤ gb237)); have GE237 := Aside0.mk ((by rw [hg]; exact (below_size z0_) : w.heap.size ≤ gb237)); replace HB := Aside0.mk (below_step z0_ hb); clear hb hbox hg; have hcz36_0 : w35.cell? ⟨gb237, 0, none⟩ = some (.int .i64 a0_0) := (blk_cell BK237.out 0).trans rfl; have hcz36_1 : w35.cell? ⟨gb237, 1, none⟩ = some (.slice A0_1 l0_1.length c0_1) := (blk_cell BK237.out 1).trans rfl; have hcz36_2 : w35.cell? ⟨gb237, 2, none⟩ = some (.int .i64 a0_2) := (blk_cell BK237.out 2).trans rfl; have hcz36_3 : w35.cell? ⟨gb237, 3, none⟩ = some (.int .i64 a0_3) := (blk_cell BK237.out 3).trans rfl; have hcz36_4 : w35.cell? ⟨gb237, 4, none⟩ = some (.int .i64 a0_4) := (blk_cell BK237.out 4).trans rfl; have hfz36_0 := blk_frozen BK237.out 0; have hfz36_1 := blk_frozen BK237.out 1; have hfz36_2 := blk_frozen BK237.out 2; have hfz36_3 := blk_frozen BK237.out 3; have hfz36_4 := blk_frozen BK237.out 4) | ((with_reducible refine gate_callee (f := 141) rfl ?_); refine goesL_ (some 5) rfl rfl Try.func141 (by kernel_rfl) rfl #[.slice A0_1 l0_1.length c0_1] rfl z1_ ?_; (with_reducible refine (spec_l15Path.calls k _ _ l0_1 true _ ?side1 ?side2 A2.out).mono ?_); (case side1 => exact z5_); (case side2 => exact HC0_1.out); rintro e w' ⟨rfl, ⟨nd, rfl⟩⟩; refine ⟨_, rfl, ?_⟩))
     go_ret
     exact ⟨z3_, z32_⟩
 ·replace c3 := Bool.eq_false_iff.mpr c3
  subst c3
  replace H := iff_ H
  obtain rfl := Option.some.inj H
  go_enter Try.func124, Try.ntmps124
  go_wp2_with (first | ((with_reducible refine gate_dst (N := 1) rfl ?_); refine box_event ?hg (N := 1) ?hd (cs := #[.int .i64 a0_0, .slice A0_1 l0_1.length c0_1, .int .i64 a0_2, .int .i64 a0_3, .int .i64 a0_4]) (t := 148) ?hr ?_; (case hd => rfl); (case hg => rfl); (case hr => exact z11_); intro gb237 hg w37 hbox hb; have BK237 := Aside0.mk (hbox); have GW237 := Aside0.mk ((by rw [hg]; exact (below_size z0_) : w.heap.size ≤ gb237)); have GE237 := Aside0.mk ((by rw [hg]; exact (below_size z0_) : w.heap.size ≤ gb237)); replace HB := Aside0.mk (below_step z0_ hb); clear hb hbox hg; have hcz38_0 : w37.cell? ⟨gb237, 0, none⟩ = some (.int .i64 a0_0) := (blk_cell BK237.out 0).trans rfl; have hcz38_1 : w37.cell? ⟨gb237, 1, none⟩ = some (.slice A0_1 l0_1.length c0_1) := (blk_cell BK237.out 1).trans rfl; have hcz38_2 : w37.cell? ⟨gb237, 2, none⟩ = some (.int .i64 a0_2) := (blk_cell BK237.out 2).trans rfl; have hcz38_3 : w37.cell? ⟨gb237, 3, none⟩ = some (.int .i64 a0_3) := (blk_cell BK237.out 3).trans rfl; have hcz38_4 : w37.cell? ⟨gb237, 4, none⟩ = some (.int .i64 a0_4) := (blk_cell BK237.out 4).trans rfl; have hfz38_0 := blk_frozen BK237.out 0; have hfz38_1 := blk_frozen BK237.out 1; have hfz38_2 := blk_frozen BK237.out 2; have hfz38_3 := blk_frozen BK237.out 3; have hfz38_4 := blk_frozen BK237.out 4) | ((with_reducible refine gate_callee (f := 141) rfl ?_); refine goesL_ (some 5) rfl rfl Try.func141 (by kernel_rfl) rfl #[.slice A0_1 l0_1.length c0_1] rfl z1_ ?_; (with_reducible refine (spec_l15Path.calls k _ _ l0_1 false _ ?side1 ?side2 A2.out).mono ?_); (case side1 => exact z5_); (case side2 => exact HC0_1.out); rintro e w' ⟨rfl, ⟨nd, rfl⟩⟩; refine ⟨_, rfl, ?_⟩))
  go_ret
  exact ⟨z3_, z32_⟩

/-! ### spec_ScriptOk: function 101 -/
def spec_ScriptOk.l0 : Nat → List (S148) → Int → Option (Bool)
 | 0, _, _ => none
 | k + 1, x0, x3 => if x3 < (x0.length : Int) then (if 0 ≤ x3 then ((spec_OpOk.f k ((rd_T148 x0 x3).f0) ((rd_T148 x0 x3).f1) ((rd_T148 x0 x3).f2) ((rd_T148 x0 x3).f3) ((rd_T148 x0 x3).f4)).bind fun t244 => (if t244 = true then (spec_ScriptOk.l0 k x0 (wrap64 (x3 + 1))) else (some false))) else (none)) else (some (decide ((x0.length : Int) ≤ 60)))
def spec_ScriptOk.f (k : Nat) (l0 : List (S148)) : Option (Bool) := spec_ScriptOk.l0 k l0 0
theorem spec_ScriptOk.mono_l : ∀ k, (∀ y0 y1, LeO (spec_ScriptOk.l0 k y0 y1) (spec_ScriptOk.l0 (k + 1) y0 y1))
 | 0 => fun _ _ r h => by simp [spec_ScriptOk.l0] at h
 | k + 1 => by
  have ih0 := spec_ScriptOk.mono_l k
  ·intro y0 y1
   unfold spec_ScriptOk.l0
   repeat' first | (with_reducible first | exact ih0 _ _ | exact spec_OpOk.mono _ _ _ _ _ _ | exact LeO.refl _ | exact LeO.none _ | refine LeO.ite ?_ ?_ | refine LeO.bind ?_ (fun _ => ?_)) | exact ih0 _ _ | exact spec_OpOk.mono _ _ _ _ _ _ | exact LeO.none _ | refine LeO.ite ?_ ?_ | refine LeO.bind ?_ (fun _ => ?_)
theorem spec_ScriptOk.mono : ∀ a0 k, LeO (spec_ScriptOk.f k a0) (spec_ScriptOk.f (k + 1) a0) := by
 intro a0 k
 have ih0 := spec_ScriptOk.mono_l k
 unfold spec_ScriptOk.f
 repeat' first | (with_reducible first | exact ih0 _ _ | exact spec_OpOk.mono _ _ _ _ _ _ | exact LeO.refl _ | exact LeO.none _ | refine LeO.ite ?_ ?_ | refine LeO.bind ?_ (fun _ => ?_)) | exact ih0 _ _ | exact spec_OpOk.mono _ _ _ _ _ _ | exact LeO.none _ | refine LeO.ite ?_ ?_ | refine LeO.bind ?_ (fun _ => ?_)
set_option maxHeartbeats 8000000 in
set_option maxRecDepth 100000 in
theorem spec_ScriptOk.calls (k : Nat) (A0 : Option Addr) (c0 : Nat) (l0 : List (S148)) (r : Bool) (w : World) (hr0 : Kd.C k148 w A0 l0.length l0) (hc0 : l0.length ≤ c0) (h : spec_ScriptOk.f k l0 = some r) :
  Calls Try.prog 101 #[.slice A0 l0.length c0] w fun e w' => e = .returned (.bool r) ∧ Below w.heap.size w w' := by
 have hu148 := Try.underlying148
 have HR0 := Aside0.mk hr0
 have HC0 := Aside0.mk hc0
 clear hr0 hc0
 have HB := Aside0.mk (Below.refl w.heap.size w)
 have H : (spec_ScriptOk.l0 k l0 0) = some r := h
 clear h
 have H' := Aside0.mk H
 clear H
 go_enter Try.func101, Try.ntmps101
 go_wp2
 go_loopg [3] k (fun kq v3 w' => ∃ (x3_1 : Int), v3 = .int .i64 x3_1 ∧ Aside0 (spec_ScriptOk.l0 kq l0 x3_1 = some r) ∧ Aside0 (kq ≤ k) ∧ Aside0 (Below w.heap.size w w'))
 case atStart => exact ⟨(0), z9_, H', ⟨Nat.le_refl _⟩, ⟨z0_⟩⟩
 case round =>
  clear H'
  try clear c1
  obtain ⟨x3_1, rfl, HA, HK1, HB⟩ := hrel
  cases gk with
  | zero => exact absurd HA.out (by simp [spec_ScriptOk.l0])
  | succ k1 =>
   have H := HA.out
   clear HA
   simp only [spec_ScriptOk.l0] at H
   by_cases c2 : x3_1 < (l0.length : Int)
   ·rw [if_pos c2] at H
    have c2b0 : decide (x3_1 < (l0.length : Int)) = true := decide_eq_true c2
    clear c2
    obtain ⟨c3b0, H⟩ := ifd_ H
    obtain ⟨t244, A4, H⟩ := bnd_ H
    by_cases c5 : t244 = true
    ·subst c5
     replace H := ift_ H
     have H' := Aside0.mk H
     clear H
     have p243 : 0 ≤ (x3_1 : Int) := odt_
     have q243 : x3_1 < (l0.length : Int) := odt_
     obtain ⟨ad243, A243_1, c243_1, e243, hx243_0, hx243_1, hx243_2, hx243_3, hx243_4, hl243_1, hi243_1⟩ := at_T148 HR0.out x3_1 p243 q243
     cases e243
     replace hx243_0 := (HB.out.cell (World.block_lt_of_cell? w _ hx243_0)).trans hx243_0
     replace hx243_1 := (HB.out.cell (World.block_lt_of_cell? w _ hx243_1)).trans hx243_1
     replace hx243_2 := (HB.out.cell (World.block_lt_of_cell? w _ hx243_2)).trans hx243_2
     replace hx243_3 := (HB.out.cell (World.block_lt_of_cell? w _ hx243_3)).trans hx243_3
     replace hx243_4 := (HB.out.cell (World.block_lt_of_cell? w _ hx243_4)).trans hx243_4
     have HR243_1 := Aside0.mk hi243_1
     have HC243_1 := Aside0.mk hl243_1
     clear hi243_1 hl243_1
     replace p243 := eq_true p243
     replace q243 := eq_true q243
     go_wp2_with (first | ((with_reducible refine gate_callee (f := 124) rfl ?_); refine goesL_ (some 14) rfl rfl Try.func124 (by kernel_rfl) rfl #[.agg #[.int .i64 ((rd_T148 l0 x3_1).f0), .slice A243_1 ((rd_T148 l0 x3_1).f1).length c243_1, .int .i64 ((rd_T148 l0 x3_1).f2), .int .i64 ((rd_T148 l0 x3_1).f3), .int .i64 ((rd_T148 l0 x3_1).f4)]] rfl z1_ ?_; (with_reducible refine (spec_OpOk.calls k1 ((rd_T148 l0 x3_1).f0) _ _ ((rd_T148 l0 x3_1).f1) ((rd_T148 l0 x3_1).f2) ((rd_T148 l0 x3_1).f3) ((rd_T148 l0 x3_1).f4) true _ ?side1 ?side2 A4.out).mono ?_); (case side1 => exact z111_); (case side2 => exact HC243_1.out); rintro e w6 ⟨rfl, hb⟩; refine ⟨_, rfl, ?_⟩; replace HB := Aside0.mk (below_step z0_ hb); (try clear hb)))
     go_roundg k1
     case measure => have := HK1.out; omega
     case rel => exact ⟨(wrap64 (x3_1 + 1)), z9_, H', ⟨z78_⟩, ⟨z0_⟩⟩
    ·replace c5 := Bool.eq_false_iff.mpr c5
     subst c5
     replace H := iff_ H
     obtain rfl := Option.some.inj H
     have p243 : 0 ≤ (x3_1 : Int) := odt_
     have q243 : x3_1 < (l0.length : Int) := odt_
     obtain ⟨ad243, A243_1, c243_1, e243, hx243_0, hx243_1, hx243_2, hx243_3, hx243_4, hl243_1, hi243_1⟩ := at_T148 HR0.out x3_1 p243 q243
     cases e243
     replace hx243_0 := (HB.out.cell (World.block_lt_of_cell? w _ hx243_0)).trans hx243_0
     replace hx243_1 := (HB.out.cell (World.block_lt_of_cell? w _ hx243_1)).trans hx243_1
     replace hx243_2 := (HB.out.cell (World.block_lt_of_cell? w _ hx243_2)).trans hx243_2
     replace hx243_3 := (HB.out.cell (World.block_lt_of_cell? w _ hx243_3)).trans hx243_3
     replace hx243_4 := (HB.out.cell (World.block_lt_of_cell? w _ hx243_4)).trans hx243_4
     have HR243_1 := Aside0.mk hi243_1
     have HC243_1 := Aside0.mk hl243_1
     clear hi243_1 hl243_1
     replace p243 := eq_true p243
     replace q243 := eq_true q243
     go_wp2_with (first | ((with_reducible refine gate_callee (f := 124) rfl ?_); refine goesL_ (some 14) rfl rfl Try.func124 (by kernel_rfl) rfl #[.agg #[.int .i64 ((rd_T148 l0 x3_1).f0), .slice A243_1 ((rd_T148 l0 x3_1).f1).length c243_1, .int .i64 ((rd_T148 l0 x3_1).f2), .int .i64 ((rd_T148 l0 x3_1).f3), .int .i64 ((rd_T148 l0 x3_1).f4)]] rfl z1_ ?_; (with_reducible refine (spec_OpOk.calls k1 ((rd_T148 l0 x3_1).f0) _ _ ((rd_T148 l0 x3_1).f1) ((rd_T148 l0 x3_1).f2) ((rd_T148 l0 x3_1).f3) ((rd_T148 l0 x3_1).f4) false _ ?side1 ?side2 A4.out).mono ?_); (case side1 => exact z111_); (case side2 => exact HC243_1.out); rintro e w7 ⟨rfl, hb⟩; refine ⟨_, rfl, ?_⟩; replace HB := Aside0.mk (below_step z0_ hb); (try clear hb)))
     go_ret
     exact ⟨z3_, z0_⟩
   ·rw [if_neg c2] at H
    have c2b0 : decide (x3_1 < (l0.length : Int)) = false := decide_eq_false c2
    clear c2
    obtain rfl := Option.some.inj H
    go_wp2
    go_ret
    exact ⟨z3_, z0_⟩

end Go.Proofs.Ytmbhlfcpdbbogab.PFnExactHistOk
