/- Laid by a program of this session out of the kit's print for the law FnExactHistOk: what it says of the machine is proved here, function by function; each contract under the conditions that it names. -/
import Derived.Test.YtmbhlfcpdbbogabMFnExactHistOkx0
import Derived.Test.YtmbhlfcpdbbogabMFnExactHistOkx8
import Derived.Test.YtmbhlfcpdbbogabMFnExactHistOkx12
namespace Go.Proofs.Ytmbhlfcpdbbogab.PFnExactHistOk
open Go.RowKit Go.Proofs.YtmbhlfcpdbbogabW.PrintWords Go.Proofs.YtmbhlfcpdbbogabW.PrintLast Go.Proofs.YtmbhlfcpdbbogabW.PrintMore
attribute [local go_sem] max2_int min2_int max_two min_two max_three min_three max_four min_four   -- for this text's walks alone
set_option linter.unusedVariables false
set_option linter.unusedSimpArgs false

/-! ### impl_ApplyAll: function 127 -/
def impl_ApplyAll.l0 : Nat → List (S148) → List (S55) → List (S148) → Int → Int → Option ((List (S55)) × Int × Int)
 | 0, _, _, _, _, _ => none
 | k + 1, x1, x7, x18, x19, x20 => if x20 < x19 then (if 0 ≤ x20 then (if x20 < (x18.length : Int) then ((impl_ApplyOp.f k x7 ((rd_T148 x18 x20).f0) ((rd_T148 x18 x20).f1) ((rd_T148 x18 x20).f2) ((rd_T148 x18 x20).f3) ((rd_T148 x18 x20).f4)).bind fun bt413 => (if bt413.2 = 0 then (impl_ApplyAll.l0 k x1 bt413.1 x18 x19 (wrap64 (x20 + 1))) else (some (x7, x20, bt413.2)))) else (none)) else (none)) else (some (x7, (x1.length : Int), 0))
def impl_ApplyAll.f (k : Nat) (l0 : List (S55)) (l1 : List (S148)) : Option ((List (S55)) × Int × Int) := (impl_TreeOk.f k l0).bind fun t404 => (if t404 = true then ((slices_Clone_Node.f l0).bind fun t408 => (impl_ApplyAll.l0 k l1 t408 l1 (l1.length : Int) 0)) else (some ((([] : List (S55))), 0, 2)))
theorem impl_ApplyAll.mono_l : ∀ k, (∀ y0 y1 y2 y3 y4, LeO (impl_ApplyAll.l0 k y0 y1 y2 y3 y4) (impl_ApplyAll.l0 (k + 1) y0 y1 y2 y3 y4))
 | 0 => fun _ _ _ _ _ r h => by simp [impl_ApplyAll.l0] at h
 | k + 1 => by
  have ih0 := impl_ApplyAll.mono_l k
  ·intro y0 y1 y2 y3 y4
   unfold impl_ApplyAll.l0
   repeat' first | (with_reducible first | exact ih0 _ _ _ _ _ | exact impl_ApplyOp.mono _ _ _ _ _ _ _ | exact impl_TreeOk.mono _ _ | exact LeO.refl _ | exact LeO.none _ | refine LeO.ite ?_ ?_ | refine LeO.bind ?_ (fun _ => ?_)) | exact ih0 _ _ _ _ _ | exact impl_ApplyOp.mono _ _ _ _ _ _ _ | exact impl_TreeOk.mono _ _ | exact LeO.none _ | refine LeO.ite ?_ ?_ | refine LeO.bind ?_ (fun _ => ?_)
theorem impl_ApplyAll.mono : ∀ a0 a1 k, LeO (impl_ApplyAll.f k a0 a1) (impl_ApplyAll.f (k + 1) a0 a1) := by
 intro a0 a1 k
 have ih0 := impl_ApplyAll.mono_l k
 unfold impl_ApplyAll.f
 repeat' first | (with_reducible first | exact ih0 _ _ _ _ _ | exact impl_ApplyOp.mono _ _ _ _ _ _ _ | exact impl_TreeOk.mono _ _ | exact LeO.refl _ | exact LeO.none _ | refine LeO.ite ?_ ?_ | refine LeO.bind ?_ (fun _ => ?_)) | exact ih0 _ _ _ _ _ | exact impl_ApplyOp.mono _ _ _ _ _ _ _ | exact impl_TreeOk.mono _ _ | exact LeO.none _ | refine LeO.ite ?_ ?_ | refine LeO.bind ?_ (fun _ => ?_)
set_option maxHeartbeats 8000000 in
set_option maxRecDepth 100000 in
theorem impl_ApplyAll.calls (k : Nat) (A0 : Option Addr) (c0 : Nat) (l0 : List (S55)) (A1 : Option Addr) (c1 : Nat) (l1 : List (S148)) (r1 : List (S55)) (r2 : Int) (r3 : Int) (w : World) (hr0 : Kd.C k55 w A0 l0.length l0) (hc0 : l0.length ≤ c0) (hr1 : Kd.C k148 w A1 l1.length l1) (hc1 : l1.length ≤ c1) (h : impl_ApplyAll.f k l0 l1 = some (r1, r2, r3)) :
  Calls Try.prog 127 #[.slice A0 l0.length c0, .slice A1 l1.length c1] w fun e w' => ∃ v0_ : Value, e = .returned (.tuple #[v0_, .int .i64 r2, .int .i64 r3]) ∧ Kd.R k55 55 w' w.heap.size (fun _ => True) v0_ r1 ∧ Below w.heap.size w w' := by
 have hu148 := Try.underlying148
 have HR0 := Aside0.mk hr0
 have HC0 := Aside0.mk hc0
 clear hr0 hc0
 have HR1 := Aside0.mk hr1
 have HC1 := Aside0.mk hc1
 clear hr1 hc1
 have HB := Aside0.mk (Below.refl w.heap.size w)
 have H : ((impl_TreeOk.f k l0).bind fun t404 => (if t404 = true then ((slices_Clone_Node.f l0).bind fun t408 => (impl_ApplyAll.l0 k l1 t408 l1 (l1.length : Int) 0)) else (some ((([] : List (S55))), 0, 2)))) = some (r1, r2, r3) := h
 clear h
 obtain ⟨t404, A3, H⟩ := bnd_ H
 by_cases c4 : t404 = true
 ·subst c4
  replace H := ift_ H
  obtain ⟨t408, A5, H⟩ := bnd_ H
  have H' := Aside0.mk H
  clear H
  go_enter Try.func127, Try.ntmps127
  go_wp2_with (first | ((with_reducible refine gate_callee (f := 68) rfl ?_); refine goesL_ (some 13) rfl rfl Try.func68 (by kernel_rfl) rfl #[.slice A0 l0.length c0] rfl z1_ ?_; (with_reducible refine (impl_TreeOk.calls k _ _ l0 true _ ?side1 ?side2 A3.out).mono ?_); (case side1 => exact z20_); (case side2 => exact HC0.out); rintro e w6 ⟨rfl, hb⟩; refine ⟨_, rfl, ?_⟩; replace HB := Aside0.mk (below_step z0_ hb); (try clear hb)) | ((with_reducible refine gate_callee (f := 126) rfl ?_); refine goesL_ (some 17) rfl rfl Try.func126 (by kernel_rfl) rfl #[.slice A0 l0.length c0] rfl z1_ ?_; (with_reducible refine (slices_Clone_Node.calls _ _ l0 t408 _ ?side1 ?side2 A5.out).mono ?_); (case side1 => exact z2_); (case side2 => exact HC0.out); rintro e w7 ⟨v409, rfl, ho0, hb⟩; refine ⟨_, rfl, ?_⟩; have HO410 := Aside0.mk (Kd.R_lower ho0 (below_size z0_)); replace HB := Aside0.mk (below_step z0_ hb); (try clear hb ho0)))
  go_loopg [7, 20] k (fun kq v7 v20 w' => ∃ (x7_1 : List (S55)) (x20_1 : Int), v20 = .int .i64 x20_1 ∧ Aside0 (impl_ApplyAll.l0 kq l1 x7_1 l1 (l1.length : Int) x20_1 = some (r1, r2, r3)) ∧ Aside0 (kq ≤ k) ∧ Aside0 (Kd.R k55 55 w' w.heap.size (fun _ => True) v7 x7_1) ∧ Aside0 (Below w.heap.size w w'))
  case atStart => exact ⟨(t408), (0), z9_, H', ⟨Nat.le_refl _⟩, ⟨by (with_reducible repeat (first | apply Kd.R_alloc | apply Kd.R_drewN | apply Kd.R_drew)); exact HO410.out⟩, ⟨z0_⟩⟩
  case round =>
   clear H'
   try clear c1
   try clear p2
   try clear c4
   try clear c6
   obtain ⟨x7_1, x20_1, rfl, HA, HK1, HO_7, HB⟩ := hrel
   cases gk with
   | zero => exact absurd HA.out (by simp [impl_ApplyAll.l0])
   | succ k1 =>
    have H := HA.out
    clear HA
    simp only [impl_ApplyAll.l0] at H
    by_cases c8 : x20_1 < (l1.length : Int)
    ·rw [if_pos c8] at H
     have c8b0 : decide (x20_1 < (l1.length : Int)) = true := decide_eq_true c8
     clear c8
     obtain ⟨c9b0, H⟩ := ifd_ H
     obtain ⟨c10b0, H⟩ := ifd_ H
     replace H := Option.bind_eq_some_iff.mp H
     obtain ⟨⟨t413, t416⟩, A110, H⟩ := H
     replace H : (if t416 = 0 then (impl_ApplyAll.l0 k1 l1 t413 l1 (l1.length : Int) (wrap64 (x20_1 + 1))) else (some (x7_1, x20_1, t416))) = some (r1, r2, r3) := H
     have A11 := Aside0.mk A110
     clear A110
     by_cases c12 : t416 = 0
     ·rw [if_pos c12] at H
      have c12b0 : (t416 == 0) = true := beq_iff_eq.mpr c12
      have c12b1 : (t416 != 0) = false := bne_eq_false_iff_eq.mpr c12
      clear c12
      have H' := Aside0.mk H
      clear H
      have p411 : 0 ≤ (x20_1 : Int) := odt_
      have q411 : x20_1 < (l1.length : Int) := odt_
      obtain ⟨ad411, A411_1, c411_1, e411, hx411_0, hx411_1, hx411_2, hx411_3, hx411_4, hl411_1, hi411_1⟩ := at_T148 HR1.out x20_1 p411 q411
      cases e411
      replace hx411_0 := (HB.out.cell (World.block_lt_of_cell? w _ hx411_0)).trans hx411_0
      replace hx411_1 := (HB.out.cell (World.block_lt_of_cell? w _ hx411_1)).trans hx411_1
      replace hx411_2 := (HB.out.cell (World.block_lt_of_cell? w _ hx411_2)).trans hx411_2
      replace hx411_3 := (HB.out.cell (World.block_lt_of_cell? w _ hx411_3)).trans hx411_3
      replace hx411_4 := (HB.out.cell (World.block_lt_of_cell? w _ hx411_4)).trans hx411_4
      have HR411_1 := Aside0.mk hi411_1
      have HC411_1 := Aside0.mk hl411_1
      clear hi411_1 hl411_1
      replace p411 := eq_true p411
      replace q411 := eq_true q411
      go_wp2_with (first | ((with_reducible refine gate_dst (N := 9) rfl ?_); refine box_event ?hg (N := 9) ?hd (cs := #[.int .i64 0, .slice none 0 0, .int .i64 0, .int .i64 0, .int .i64 0]) (t := 148) ?hr ?_; (case hd => rfl); (case hg => rfl); (case hr => exact z11_); intro gb412 hg w13 hbox hb; replace HO_7 := Aside0.mk (Kd.R_below z63_ hb); have BK412 := Aside0.mk (hbox); have GW412 := Aside0.mk ((by rw [hg]; exact (below_size z0_) : w.heap.size ≤ gb412)); have GE412 := Aside0.mk ((by rw [hg]; exact (below_size z0_) : w.heap.size ≤ gb412)); replace HB := Aside0.mk (below_step z0_ hb); clear hb hbox hg; have hcz14_0 : w13.cell? ⟨gb412, 0, none⟩ = some (.int .i64 0) := (blk_cell BK412.out 0).trans rfl; have hcz14_1 : w13.cell? ⟨gb412, 1, none⟩ = some (.slice none 0 0) := (blk_cell BK412.out 1).trans rfl; have hcz14_2 : w13.cell? ⟨gb412, 2, none⟩ = some (.int .i64 0) := (blk_cell BK412.out 2).trans rfl; have hcz14_3 : w13.cell? ⟨gb412, 3, none⟩ = some (.int .i64 0) := (blk_cell BK412.out 3).trans rfl; have hcz14_4 : w13.cell? ⟨gb412, 4, none⟩ = some (.int .i64 0) := (blk_cell BK412.out 4).trans rfl; have hfz14_0 := blk_frozen BK412.out 0; have hfz14_1 := blk_frozen BK412.out 1; have hfz14_2 := blk_frozen BK412.out 2; have hfz14_3 := blk_frozen BK412.out 3; have hfz14_4 := blk_frozen BK412.out 4; obtain ⟨Ao15, co15, eo15⟩ := Kd.R_slice HO_7.out; subst eo15) | ((with_reducible refine gate_callee (f := 143) rfl ?_); refine goesL_ (some 28) rfl rfl Try.func143 (by kernel_rfl) rfl #[.slice Ao15 x7_1.length co15, .agg #[.int .i64 ((rd_T148 l1 x20_1).f0), .slice A411_1 ((rd_T148 l1 x20_1).f1).length c411_1, .int .i64 ((rd_T148 l1 x20_1).f2), .int .i64 ((rd_T148 l1 x20_1).f3), .int .i64 ((rd_T148 l1 x20_1).f4)]] rfl z1_ ?_; (with_reducible refine (impl_ApplyOp.calls k1 _ _ x7_1 ((rd_T148 l1 x20_1).f0) _ _ ((rd_T148 l1 x20_1).f1) ((rd_T148 l1 x20_1).f2) ((rd_T148 l1 x20_1).f3) ((rd_T148 l1 x20_1).f4) t413 t416 _ ?side1 ?side2 ?side3 ?side4 A11.out).mono ?_); (case side1 => refine (Kd.R_reads' (e := 55) (base := w.heap.size) (ok := fun k_ => True) (n := x7_1.length) (c := co15) ?_).2.2; exact z16_); (case side2 => exact z164_); (case side3 => exact z104_); (case side4 => exact HC411_1.out); rintro e w16 ⟨v414, rfl, ho0, hb⟩; refine ⟨_, rfl, ?_⟩; have HO415 := Aside0.mk (Kd.R_lower (Kd.R_new' ho0 (Kd.R_lt z16_)) (below_size z45_)); replace HO_7 := Aside0.mk (Kd.R_elder' z16_ (Kd.R_base ho0) hb); replace BK412 := Aside0.mk (blk_below (g := gb412) (o := .cells #[.int .i64 ((rd_T148 l1 x20_1).f0), .slice A411_1 ((rd_T148 l1 x20_1).f1).length c411_1, .int .i64 ((rd_T148 l1 x20_1).f2), .int .i64 ((rd_T148 l1 x20_1).f3), .int .i64 ((rd_T148 l1 x20_1).f4)] 148 (0, 0)) z23_ hb); replace HB := Aside0.mk (below_step z45_ hb); (try clear hb ho0)))
      go_roundg k1
      case measure => have := HK1.out; omega
      case rel => exact ⟨(t413), (wrap64 (x20_1 + 1)), z9_, H', ⟨z78_⟩, ⟨by (with_reducible repeat (first | apply Kd.R_alloc | apply Kd.R_drewN | apply Kd.R_drew)); exact Kd.R_mono HO415.out (fun _ hk => trivial)⟩, ⟨z45_⟩⟩
     ·rw [if_neg c12] at H
      have c12b0 : (t416 == 0) = false := beq_eq_false_iff_ne.mpr c12
      have c12b1 : (t416 != 0) = true := bne_iff_ne.mpr c12
      simp only [Option.some.injEq, Prod.mk.injEq] at H
      obtain ⟨rfl, rfl, rfl⟩ := H
      have p411 : 0 ≤ (x20_1 : Int) := odt_
      have q411 : x20_1 < (l1.length : Int) := odt_
      obtain ⟨ad411, A411_1, c411_1, e411, hx411_0, hx411_1, hx411_2, hx411_3, hx411_4, hl411_1, hi411_1⟩ := at_T148 HR1.out x20_1 p411 q411
      cases e411
      replace hx411_0 := (HB.out.cell (World.block_lt_of_cell? w _ hx411_0)).trans hx411_0
      replace hx411_1 := (HB.out.cell (World.block_lt_of_cell? w _ hx411_1)).trans hx411_1
      replace hx411_2 := (HB.out.cell (World.block_lt_of_cell? w _ hx411_2)).trans hx411_2
      replace hx411_3 := (HB.out.cell (World.block_lt_of_cell? w _ hx411_3)).trans hx411_3
      replace hx411_4 := (HB.out.cell (World.block_lt_of_cell? w _ hx411_4)).trans hx411_4
      have HR411_1 := Aside0.mk hi411_1
      have HC411_1 := Aside0.mk hl411_1
      clear hi411_1 hl411_1
      replace p411 := eq_true p411
      replace q411 := eq_true q411
      go_wp2_with (first | ((with_reducible refine gate_dst (N := 9) rfl ?_); refine box_event ?hg (N := 9) ?hd (cs := #[.int .i64 0, .slice none 0 0, .int .i64 0, .int .i64 0, .int .i64 0]) (t := 148) ?hr ?_; (case hd => rfl); (case hg => rfl); (case hr => exact z11_); intro gb412 hg w17 hbox hb; replace HO_7 := Aside0.mk (Kd.R_below z63_ hb); have BK412 := Aside0.mk (hbox); have GW412 := Aside0.mk ((by rw [hg]; exact (below_size z0_) : w.heap.size ≤ gb412)); have GE412 := Aside0.mk ((by rw [hg]; exact (below_size z0_) : w.heap.size ≤ gb412)); replace HB := Aside0.mk (below_step z0_ hb); clear hb hbox hg; have hcz18_0 : w17.cell? ⟨gb412, 0, none⟩ = some (.int .i64 0) := (blk_cell BK412.out 0).trans rfl; have hcz18_1 : w17.cell? ⟨gb412, 1, none⟩ = some (.slice none 0 0) := (blk_cell BK412.out 1).trans rfl; have hcz18_2 : w17.cell? ⟨gb412, 2, none⟩ = some (.int .i64 0) := (blk_cell BK412.out 2).trans rfl; have hcz18_3 : w17.cell? ⟨gb412, 3, none⟩ = some (.int .i64 0) := (blk_cell BK412.out 3).trans rfl; have hcz18_4 : w17.cell? ⟨gb412, 4, none⟩ = some (.int .i64 0) := (blk_cell BK412.out 4).trans rfl; have hfz18_0 := blk_frozen BK412.out 0; have hfz18_1 := blk_frozen BK412.out 1; have hfz18_2 := blk_frozen BK412.out 2; have hfz18_3 := blk_frozen BK412.out 3; have hfz18_4 := blk_frozen BK412.out 4; obtain ⟨Ao19, co19, eo19⟩ := Kd.R_slice HO_7.out; subst eo19) | ((with_reducible refine gate_callee (f := 143) rfl ?_); refine goesL_ (some 28) rfl rfl Try.func143 (by kernel_rfl) rfl #[.slice Ao19 x7_1.length co19, .agg #[.int .i64 ((rd_T148 l1 x20_1).f0), .slice A411_1 ((rd_T148 l1 x20_1).f1).length c411_1, .int .i64 ((rd_T148 l1 x20_1).f2), .int .i64 ((rd_T148 l1 x20_1).f3), .int .i64 ((rd_T148 l1 x20_1).f4)]] rfl z1_ ?_; (with_reducible refine (impl_ApplyOp.calls k1 _ _ x7_1 ((rd_T148 l1 x20_1).f0) _ _ ((rd_T148 l1 x20_1).f1) ((rd_T148 l1 x20_1).f2) ((rd_T148 l1 x20_1).f3) ((rd_T148 l1 x20_1).f4) t413 t416 _ ?side1 ?side2 ?side3 ?side4 A11.out).mono ?_); (case side1 => refine (Kd.R_reads' (e := 55) (base := w.heap.size) (ok := fun k_ => True) (n := x7_1.length) (c := co19) ?_).2.2; exact z16_); (case side2 => exact z164_); (case side3 => exact z104_); (case side4 => exact HC411_1.out); rintro e w20 ⟨v414, rfl, ho0, hb⟩; refine ⟨_, rfl, ?_⟩; have HO415 := Aside0.mk (Kd.R_lower (Kd.R_new' ho0 (Kd.R_lt z16_)) (below_size z45_)); replace HO_7 := Aside0.mk (Kd.R_elder' z16_ (Kd.R_base ho0) hb); replace BK412 := Aside0.mk (blk_below (g := gb412) (o := .cells #[.int .i64 ((rd_T148 l1 x20_1).f0), .slice A411_1 ((rd_T148 l1 x20_1).f1).length c411_1, .int .i64 ((rd_T148 l1 x20_1).f2), .int .i64 ((rd_T148 l1 x20_1).f3), .int .i64 ((rd_T148 l1 x20_1).f4)] 148 (0, 0)) z23_ hb); replace HB := Aside0.mk (below_step z45_ hb); (try clear hb ho0)))
      go_ret3
      exact ⟨_, z3_, z138_, z45_⟩
    ·rw [if_neg c8] at H
     have c8b0 : decide (x20_1 < (l1.length : Int)) = false := decide_eq_false c8
     clear c8
     simp only [Option.some.injEq, Prod.mk.injEq] at H
     obtain ⟨rfl, rfl, rfl⟩ := H
     go_wp2
     go_ret3
     exact ⟨_, z3_, z63_, z0_⟩
 ·replace c4 := Bool.eq_false_iff.mpr c4
  subst c4
  replace H := iff_ H
  obtain ⟨y405, hy405⟩ : ∃ y_ : List (S55), y_ = (([] : List (S55))) := ⟨_, rfl⟩
  replace H : (some (y405, 0, 2)) = some (r1, r2, r3) := by first | (rw [hy405]; with_reducible exact H) | (have H2_ := (Option.bind_some _ _).symm.trans H; rw [hy405]; with_reducible exact H2_) | (have H2_ := (Option.bind_some _ _).symm.trans H; with_reducible exact H2_) | with_reducible exact H | (rw [hy405]; exact H) | exact H
  have Ny405 := Aside0.mk hy405
  clear hy405
  simp only [Option.some.injEq, Prod.mk.injEq] at H
  obtain ⟨rfl, rfl, rfl⟩ := H
  go_enter Try.func127, Try.ntmps127
  go_wp2_with (first | ((with_reducible refine gate_callee (f := 68) rfl ?_); refine goesL_ (some 13) rfl rfl Try.func68 (by kernel_rfl) rfl #[.slice A0 l0.length c0] rfl z1_ ?_; (with_reducible refine (impl_TreeOk.calls k _ _ l0 false _ ?side1 ?side2 A3.out).mono ?_); (case side1 => exact z20_); (case side2 => exact HC0.out); rintro e w21 ⟨rfl, hb⟩; refine ⟨_, rfl, ?_⟩; replace HB := Aside0.mk (below_step z0_ hb); (try clear hb)) | ((with_reducible refine gate_dst (N := 15) rfl ?_); refine Kd.R_lit k55 _ 55 ?hg (N := 15) ?hd (xs := ([] : List (S55))) (inner := []) (ok := fun _ => True) (okp := fun _ => True) ?hr ?hp (fun _ hk => hk) trivial (Below.refl _ _) (Nat.le_refl _) (by simp) ?_; (case hd => rfl); (case hg => rfl); (case hr => exact z11_); (case hp => exact z127_); intro v406 w22 ho23 hb hg_ hnew_; clear hg_ hnew_; (first | rw [← Ny405.out] at ho23 | (simp only [Int.reduceToNat] at ho23; rw [← Ny405.out] at ho23)); have HO407 := Aside0.mk (Kd.R_lower ho23 (below_size z0_)); replace HB := Aside0.mk (below_step z0_ hb); clear hb ho23))
  go_ret3
  exact ⟨_, z3_, by (with_reducible repeat (first | apply Kd.R_alloc | apply Kd.R_drewN | apply Kd.R_drew)); exact HO407.out, z0_⟩

/-! ### impl_OpOk_lit1: function 159 -/
def impl_OpOk_lit1.f (a0 : Int) : Option (Bool) := (impl_within.f a0 0 24).bind fun t417 => (some (!t417))
set_option maxHeartbeats 8000000 in
set_option maxRecDepth 100000 in
theorem impl_OpOk_lit1.calls (a0 : Int) (r : Bool) (w : World) (h : impl_OpOk_lit1.f a0 = some r) :
  Calls Try.prog 159 #[.int .i64 a0] w fun e w' => e = .returned (.bool r) ∧ Drawn0 w w' := by
 have H : ((impl_within.f a0 0 24).bind fun t417 => (some (!t417))) = some r := h
 clear h
 obtain ⟨t417, A2, H⟩ := bnd_ H
 obtain rfl := Option.some.inj H
 go_enter Try.func159, Try.ntmps159
 go_wp2_with (first | ((with_reducible refine gate_callee (f := 82) rfl ?_); refine goesL_ (some 4) rfl rfl Try.func82 (by kernel_rfl) rfl #[.int .i64 a0, .int .i64 0, .int .i64 24] rfl z1_ ?_; (with_reducible refine (impl_within.calls a0 0 24 t417 _ A2.out).mono ?_); rintro e w' ⟨rfl, ⟨nd, rfl⟩⟩; refine ⟨_, rfl, ?_⟩))
 go_ret
 exact ⟨z9_, z34_⟩

/-! ### slices_IndexFunc_int_int: function 167 -/
def slices_IndexFunc_int_int.l0 : Nat → List Int → Int → Int → Option (Int)
 | 0, _, _, _ => none
 | k + 1, x0, x7, x8 => if x8 < x7 then (if 0 ≤ x8 then (if x8 < (x0.length : Int) then ((impl_OpOk_lit1.f (rd x0 x8)).bind fun t419 => (if t419 = true then (some x8) else (slices_IndexFunc_int_int.l0 k x0 x7 (wrap64 (x8 + 1))))) else (none)) else (none)) else (some (-1))
def slices_IndexFunc_int_int.f (k : Nat) (l0 : List Int) : Option (Int) := slices_IndexFunc_int_int.l0 k l0 (l0.length : Int) 0
theorem slices_IndexFunc_int_int.mono_l : ∀ k, (∀ y0 y1 y2, LeO (slices_IndexFunc_int_int.l0 k y0 y1 y2) (slices_IndexFunc_int_int.l0 (k + 1) y0 y1 y2))
 | 0 => fun _ _ _ r h => by simp [slices_IndexFunc_int_int.l0] at h
 | k + 1 => by
  have ih0 := slices_IndexFunc_int_int.mono_l k
  ·intro y0 y1 y2
   unfold slices_IndexFunc_int_int.l0
   repeat' first | (with_reducible first | exact ih0 _ _ _ | exact LeO.refl _ | exact LeO.none _ | refine LeO.ite ?_ ?_ | refine LeO.bind ?_ (fun _ => ?_)) | exact ih0 _ _ _ | exact LeO.none _ | refine LeO.ite ?_ ?_ | refine LeO.bind ?_ (fun _ => ?_)
theorem slices_IndexFunc_int_int.mono : ∀ a0 k, LeO (slices_IndexFunc_int_int.f k a0) (slices_IndexFunc_int_int.f (k + 1) a0) := by
 intro a0 k
 have ih0 := slices_IndexFunc_int_int.mono_l k
 unfold slices_IndexFunc_int_int.f
 repeat' first | (with_reducible first | exact ih0 _ _ _ | exact LeO.refl _ | exact LeO.none _ | refine LeO.ite ?_ ?_ | refine LeO.bind ?_ (fun _ => ?_)) | exact ih0 _ _ _ | exact LeO.none _ | refine LeO.ite ?_ ?_ | refine LeO.bind ?_ (fun _ => ?_)
set_option maxHeartbeats 8000000 in
set_option maxRecDepth 100000 in
theorem slices_IndexFunc_int_int.calls (k : Nat) (A0 : Option Addr) (c0 : Nat) (l0 : List Int) (r : Int) (w : World) (hr0 : Kd.C (Kd.int .i64) w A0 l0.length l0) (hc0 : l0.length ≤ c0) (h : slices_IndexFunc_int_int.f k l0 = some r) :
  Calls Try.prog 167 #[.slice A0 l0.length c0, .func (.func 159) #[] #[]] w fun e w' => e = .returned (.int .i64 r) ∧ Drawn0 w w' := by
 have HR0 := Aside0.mk hr0
 have HC0 := Aside0.mk hc0
 clear hr0 hc0
 have H : (slices_IndexFunc_int_int.l0 k l0 (l0.length : Int) 0) = some r := h
 clear h
 have H' := Aside0.mk H
 clear H
 go_enter Try.func167, Try.ntmps167
 go_wp2
 go_loopg [8] k (fun kq v8 w' => ∃ (x8_1 : Int), v8 = .int .i64 x8_1 ∧ Aside0 (slices_IndexFunc_int_int.l0 kq l0 (l0.length : Int) x8_1 = some r) ∧ Aside0 (kq ≤ k) ∧ Drawn0 w w')
 case atStart => exact ⟨(0), z9_, H', ⟨Nat.le_refl _⟩, z34_⟩
 case round =>
  clear H'
  try clear c1
  obtain ⟨x8_1, rfl, HA, HK1, ⟨m1, rfl⟩⟩ := hrel
  cases gk with
  | zero => exact absurd HA.out (by simp [slices_IndexFunc_int_int.l0])
  | succ k1 =>
   have H := HA.out
   clear HA
   simp only [slices_IndexFunc_int_int.l0] at H
   by_cases c2 : x8_1 < (l0.length : Int)
   ·rw [if_pos c2] at H
    have c2b0 : decide (x8_1 < (l0.length : Int)) = true := decide_eq_true c2
    clear c2
    obtain ⟨c3b0, H⟩ := ifd_ H
    obtain ⟨c4b0, H⟩ := ifd_ H
    obtain ⟨t419, A5, H⟩ := bnd_ H
    by_cases c6 : t419 = true
    ·subst c6
     replace H := ift_ H
     obtain rfl := Option.some.inj H
     have p418 : 0 ≤ (x8_1 : Int) := odt_
     have q418 : x8_1 < (l0.length : Int) := odt_
     obtain ⟨ad418, e418, hx418_0⟩ := Kd.at_int HR0.out x8_1 p418 q418
     cases e418
     replace p418 := eq_true p418
     replace q418 := eq_true q418
     go_wp2_with (first | (go_at_call 159; (with_reducible refine (impl_OpOk_lit1.calls (rd l0 x8_1) true _ A5.out).mono ?_); rintro e w' ⟨rfl, ⟨nd, rfl⟩⟩))
     go_ret
     exact ⟨z9_, z34_⟩
    ·replace c6 := Bool.eq_false_iff.mpr c6
     subst c6
     replace H := iff_ H
     have H' := Aside0.mk H
     clear H
     have p418 : 0 ≤ (x8_1 : Int) := odt_
     have q418 : x8_1 < (l0.length : Int) := odt_
     obtain ⟨ad418, e418, hx418_0⟩ := Kd.at_int HR0.out x8_1 p418 q418
     cases e418
     replace p418 := eq_true p418
     replace q418 := eq_true q418
     go_wp2_with (first | (go_at_call 159; (with_reducible refine (impl_OpOk_lit1.calls (rd l0 x8_1) false _ A5.out).mono ?_); rintro e w' ⟨rfl, ⟨nd, rfl⟩⟩))
     go_roundg k1
     case measure => have := HK1.out; omega
     case rel => exact ⟨(wrap64 (x8_1 + 1)), z9_, H', ⟨z78_⟩, z34_⟩
   ·rw [if_neg c2] at H
    have c2b0 : decide (x8_1 < (l0.length : Int)) = false := decide_eq_false c2
    clear c2
    obtain rfl := Option.some.inj H
    go_wp2
    go_ret
    exact ⟨z9_, z34_⟩

/-! ### slices_ContainsFunc_int_int: function 158 -/
def slices_ContainsFunc_int_int.f (k : Nat) (l0 : List Int) : Option (Bool) := (slices_IndexFunc_int_int.f k l0).bind fun t420 => (some (decide (t420 ≥ 0)))
theorem slices_ContainsFunc_int_int.mono : ∀ a0 k, LeO (slices_ContainsFunc_int_int.f k a0) (slices_ContainsFunc_int_int.f (k + 1) a0) := by
 intro a0 k
 unfold slices_ContainsFunc_int_int.f
 repeat' first | (with_reducible first | exact slices_IndexFunc_int_int.mono _ _ | exact LeO.refl _ | exact LeO.none _ | refine LeO.ite ?_ ?_ | refine LeO.bind ?_ (fun _ => ?_)) | exact slices_IndexFunc_int_int.mono _ _ | exact LeO.none _ | refine LeO.ite ?_ ?_ | refine LeO.bind ?_ (fun _ => ?_)
set_option maxHeartbeats 8000000 in
set_option maxRecDepth 100000 in
theorem slices_ContainsFunc_int_int.calls (k : Nat) (A0 : Option Addr) (c0 : Nat) (l0 : List Int) (r : Bool) (w : World) (hr0 : Kd.C (Kd.int .i64) w A0 l0.length l0) (hc0 : l0.length ≤ c0) (h : slices_ContainsFunc_int_int.f k l0 = some r) :
  Calls Try.prog 158 #[.slice A0 l0.length c0, .func (.func 159) #[] #[]] w fun e w' => e = .returned (.bool r) ∧ Drawn0 w w' := by
 have HR0 := Aside0.mk hr0
 have HC0 := Aside0.mk hc0
 clear hr0 hc0
 have H : ((slices_IndexFunc_int_int.f k l0).bind fun t420 => (some (decide (t420 ≥ 0)))) = some r := h
 clear h
 obtain ⟨t420, A2, H⟩ := bnd_ H
 obtain rfl := Option.some.inj H
 go_enter Try.func158, Try.ntmps158
 go_wp2_with (first | ((with_reducible refine gate_callee (f := 167) rfl ?_); refine goesL_ (some 7) rfl rfl Try.func167 (by kernel_rfl) rfl #[.slice A0 l0.length c0, .func (.func 159) #[] #[]] rfl z1_ ?_; (with_reducible refine (slices_IndexFunc_int_int.calls k _ _ l0 t420 _ ?side1 ?side2 A2.out).mono ?_); (case side1 => exact z20_); (case side2 => exact HC0.out); rintro e w' ⟨rfl, ⟨nd, rfl⟩⟩; refine ⟨_, rfl, ?_⟩))
 go_ret
 exact ⟨z9_, z34_⟩

/-! ### impl_OpOk: function 146 -/
def impl_OpOk.j0 : Nat → Bool → Int → List Int → Int → Int → Int → Option (Bool)
 | 0, _, _, _, _, _, _ => none
 | k + 1, x11, x422000, x422001, x422002, x422003, x422004 => if x11 = true then (some false) else (if x422000 = 1 then ((impl_LabelOk.f x422002).bind fun t423 => (if t423 = true then (if x422003 = 0 then (some (x422004 == 0)) else (some false)) else (some false))) else (if x422000 = 2 then (if x422002 = 0 then (if x422003 = 0 then (some (x422004 == 0)) else (some false)) else (some false)) else (if x422000 = 3 then ((impl_LabelOk.f x422002).bind fun t424 => (if t424 = true then ((impl_within.f x422003 0 24).bind fun t425 => (if t425 = true then ((impl_within.f x422004 0 24).bind fun t426 => (some t426)) else (some false))) else (some false))) else (some false))))
def impl_OpOk.f (k : Nat) (a0_0 : Int) (l0_1 : List Int) (a0_2 : Int) (a0_3 : Int) (a0_4 : Int) : Option (Bool) := if (l0_1.length : Int) > 12 then (impl_OpOk.j0 k true a0_0 l0_1 a0_2 a0_3 a0_4) else ((slices_ContainsFunc_int_int.f k l0_1).bind fun t422 => (impl_OpOk.j0 k t422 a0_0 l0_1 a0_2 a0_3 a0_4))
theorem impl_OpOk.mono_l : ∀ k, (∀ y0 y1 y2 y3 y4 y5, LeO (impl_OpOk.j0 k y0 y1 y2 y3 y4 y5) (impl_OpOk.j0 (k + 1) y0 y1 y2 y3 y4 y5))
 | 0 => fun _ _ _ _ _ _ r h => by simp [impl_OpOk.j0] at h
 | k + 1 => by
  have ih0 := impl_OpOk.mono_l k
  ·intro y0 y1 y2 y3 y4 y5
   unfold impl_OpOk.j0
   repeat' first | (with_reducible first | exact ih0 _ _ _ _ _ _ | exact slices_ContainsFunc_int_int.mono _ _ | exact LeO.refl _ | exact LeO.none _ | refine LeO.ite ?_ ?_ | refine LeO.bind ?_ (fun _ => ?_)) | exact ih0 _ _ _ _ _ _ | exact slices_ContainsFunc_int_int.mono _ _ | exact LeO.none _ | refine LeO.ite ?_ ?_ | refine LeO.bind ?_ (fun _ => ?_)
theorem impl_OpOk.mono : ∀ a0 a1 a2 a3 a4 k, LeO (impl_OpOk.f k a0 a1 a2 a3 a4) (impl_OpOk.f (k + 1) a0 a1 a2 a3 a4) := by
 intro a0 a1 a2 a3 a4 k
 have ih0 := impl_OpOk.mono_l k
 unfold impl_OpOk.f
 repeat' first | (with_reducible first | exact ih0 _ _ _ _ _ _ | exact slices_ContainsFunc_int_int.mono _ _ | exact LeO.refl _ | exact LeO.none _ | refine LeO.ite ?_ ?_ | refine LeO.bind ?_ (fun _ => ?_)) | exact ih0 _ _ _ _ _ _ | exact slices_ContainsFunc_int_int.mono _ _ | exact LeO.none _ | refine LeO.ite ?_ ?_ | refine LeO.bind ?_ (fun _ => ?_)
set_option maxHeartbeats 8000000 in
set_option maxRecDepth 100000 in
theorem impl_OpOk.calls (k : Nat) (a0_0 : Int) (A0_1 : Option Addr) (c0_1 : Nat) (l0_1 : List Int) (a0_2 : Int) (a0_3 : Int) (a0_4 : Int) (r : Bool) (w : World) (hr0_1 : Kd.C (Kd.int .i64) w A0_1 l0_1.length l0_1) (hc0_1 : l0_1.length ≤ c0_1) (h : impl_OpOk.f k a0_0 l0_1 a0_2 a0_3 a0_4 = some r) :
  Calls Try.prog 146 #[.agg #[.int .i64 a0_0, .slice A0_1 l0_1.length c0_1, .int .i64 a0_2, .int .i64 a0_3, .int .i64 a0_4]] w fun e w' => e = .returned (.bool r) ∧ Below w.heap.size w w' := by
 have hu148 := Try.underlying148
 have HR0_1 := Aside0.mk hr0_1
 have HC0_1 := Aside0.mk hc0_1
 clear hr0_1 hc0_1
 have HB := Aside0.mk (Below.refl w.heap.size w)
 have H : (if (l0_1.length : Int) > 12 then (impl_OpOk.j0 k true a0_0 l0_1 a0_2 a0_3 a0_4) else ((slices_ContainsFunc_int_int.f k l0_1).bind fun t422 => (impl_OpOk.j0 k t422 a0_0 l0_1 a0_2 a0_3 a0_4))) = some r := h
 clear h
 have HC2 := Aside0.mk H
 clear H
 go_enter Try.func146, Try.ntmps146
 go_upto_region 1 with (first | ((with_reducible refine gate_dst (N := 1) rfl ?_); refine box_event ?hg (N := 1) ?hd (cs := #[.int .i64 a0_0, .slice A0_1 l0_1.length c0_1, .int .i64 a0_2, .int .i64 a0_3, .int .i64 a0_4]) (t := 148) ?hr ?_; (case hd => rfl); (case hg => rfl); (case hr => exact z11_); intro gb421 hg w3 hbox hb; have BK421 := Aside0.mk (hbox); have GW421 := Aside0.mk ((by rw [hg]; exact (below_size z0_) : w.heap.size ≤ gb421)); have GE421 := Aside0.mk ((by rw [hg]; exact (below_size z0_) : w.heap.size ≤ gb421)); replace HB := Aside0.mk (below_step z0_ hb); clear hb hbox hg))
 (try simp only [Act.put, List.setIfInBounds_toArray, List.set_cons_zero, List.set_cons_succ])
 go_cut [11] (fun v11 wc => ∃ (kq : Nat) (x11_1 : Bool), v11 = .bool x11_1 ∧ Aside0 (impl_OpOk.j0 kq x11_1 a0_0 l0_1 a0_2 a0_3 a0_4 = some r) ∧ Aside0 (kq ≤ k) ∧ Aside0 (wc.heap[gb421]? = some (.cells #[.int .i64 a0_0, (.slice A0_1 l0_1.length c0_1), .int .i64 a0_2, .int .i64 a0_3, .int .i64 a0_4] 148 (0, 0))) ∧ Aside0 (Below w.heap.size w wc))
 case first =>
  have H := HC2.out
  clear HC2
  by_cases c4 : (l0_1.length : Int) > 12
  ·rw [if_pos c4] at H
   have c4b0 : decide (12 < (l0_1.length : Int)) = true := decide_eq_true c4
   have c4b1 : decide (12 < l0_1.length) = true := decide_eq_true (by omega)
   clear c4
   (first | rw [c4b0] | rw [c4b1] | (simp only [i64_w, i32_w]; rw [c4b0]) | skip)
   have H' := Aside0.mk H
   clear H
   have hcz5_0 : w3.cell? ⟨gb421, 0, none⟩ = some (.int .i64 a0_0) := (blk_cell BK421.out 0).trans rfl
   have hcz5_1 : w3.cell? ⟨gb421, 1, none⟩ = some (.slice A0_1 l0_1.length c0_1) := (blk_cell BK421.out 1).trans rfl
   have hcz5_2 : w3.cell? ⟨gb421, 2, none⟩ = some (.int .i64 a0_2) := (blk_cell BK421.out 2).trans rfl
   have hcz5_3 : w3.cell? ⟨gb421, 3, none⟩ = some (.int .i64 a0_3) := (blk_cell BK421.out 3).trans rfl
   have hcz5_4 : w3.cell? ⟨gb421, 4, none⟩ = some (.int .i64 a0_4) := (blk_cell BK421.out 4).trans rfl
   have hfz5_0 := blk_frozen BK421.out 0
   have hfz5_1 := blk_frozen BK421.out 1
   have hfz5_2 := blk_frozen BK421.out 2
   have hfz5_3 := blk_frozen BK421.out 3
   have hfz5_4 := blk_frozen BK421.out 4
   go_wp2
   go_meet
   case rel => exact ⟨_, (true), z9_, H', ⟨z121_⟩, ⟨z143_⟩, ⟨z27_⟩⟩
  ·rw [if_neg c4] at H
   have c4b0 : decide (12 < (l0_1.length : Int)) = false := decide_eq_false c4
   have c4b1 : decide (12 < l0_1.length) = false := decide_eq_false (by omega)
   clear c4
   (first | rw [c4b0] | rw [c4b1] | (simp only [i64_w, i32_w]; rw [c4b0]) | skip)
   obtain ⟨t422, A6, H⟩ := bnd_ H
   have H' := Aside0.mk H
   clear H
   have hcz7_0 : w3.cell? ⟨gb421, 0, none⟩ = some (.int .i64 a0_0) := (blk_cell BK421.out 0).trans rfl
   have hcz7_1 : w3.cell? ⟨gb421, 1, none⟩ = some (.slice A0_1 l0_1.length c0_1) := (blk_cell BK421.out 1).trans rfl
   have hcz7_2 : w3.cell? ⟨gb421, 2, none⟩ = some (.int .i64 a0_2) := (blk_cell BK421.out 2).trans rfl
   have hcz7_3 : w3.cell? ⟨gb421, 3, none⟩ = some (.int .i64 a0_3) := (blk_cell BK421.out 3).trans rfl
   have hcz7_4 : w3.cell? ⟨gb421, 4, none⟩ = some (.int .i64 a0_4) := (blk_cell BK421.out 4).trans rfl
   have hfz7_0 := blk_frozen BK421.out 0
   have hfz7_1 := blk_frozen BK421.out 1
   have hfz7_2 := blk_frozen BK421.out 2
   have hfz7_3 := blk_frozen BK421.out 3
   have hfz7_4 := blk_frozen BK421.out 4
   go_wp2_with (first | (go_at_call 158; (with_reducible refine (slices_ContainsFunc_int_int.calls k _ _ l0_1 t422 _ ?side1 ?side2 A6.out).mono ?_); (case side1 => exact z5_); (case side2 => exact HC0_1.out); rintro e w' ⟨rfl, ⟨nd, rfl⟩⟩))
   go_meet
   case rel => exact ⟨_, (t422), z9_, H', ⟨z121_⟩, ⟨z143_⟩, ⟨z27_⟩⟩
 case rest =>
  clear HC2
  try clear c1
  try clear p2
  try clear c4
  try clear c4b0
  try clear c4b1
  try clear hcz5_0
  try clear hcz5_1
  try clear hcz5_2
  try clear hcz5_3
  try clear hcz5_4
  try clear hcz7_0
  try clear hcz7_1
  try clear hcz7_2
  try clear hcz7_3
  try clear hcz7_4
  try clear hfz5_0
  try clear hfz5_1
  try clear hfz5_2
  try clear hfz5_3
  try clear hfz5_4
  try clear hfz7_0
  try clear hfz7_1
  try clear hfz7_2
  try clear hfz7_3
  try clear hfz7_4
  obtain ⟨kq, x11_1, rfl, HA, HJ1, BK421, HB⟩ := hcut
  cases kq with
  | zero => exact absurd HA.out (by simp [impl_OpOk.j0])
  | succ kj1 =>
   have H := HA.out
   clear HA
   simp only [impl_OpOk.j0] at H
   by_cases c8 : x11_1 = true
   ·subst c8
    replace H := ift_ H
    obtain rfl := Option.some.inj H
    go_wp2
    go_ret
    exact ⟨z3_, z27_⟩
   ·replace c8 := Bool.eq_false_iff.mpr c8
    subst c8
    replace H := iff_ H
    by_cases c9 : a0_0 = 1
    ·rw [if_pos c9] at H
     have c9b0 : (a0_0 == 1) = true := beq_iff_eq.mpr c9
     have c9b1 : (a0_0 != 1) = false := bne_eq_false_iff_eq.mpr c9
     clear c9
     obtain ⟨t423, A10, H⟩ := bnd_ H
     by_cases c11 : t423 = true
     ·subst c11
      replace H := ift_ H
      by_cases c12 : a0_3 = 0
      ·rw [if_pos c12] at H
       have c12b0 : (a0_3 == 0) = true := beq_iff_eq.mpr c12
       have c12b1 : (a0_3 != 0) = false := bne_eq_false_iff_eq.mpr c12
       clear c12
       obtain rfl := Option.some.inj H
       have hcz13_0 : wc.cell? ⟨gb421, 0, none⟩ = some (.int .i64 a0_0) := (blk_cell BK421.out 0).trans rfl
       have hcz13_1 : wc.cell? ⟨gb421, 1, none⟩ = some (.slice A0_1 l0_1.length c0_1) := (blk_cell BK421.out 1).trans rfl
       have hcz13_2 : wc.cell? ⟨gb421, 2, none⟩ = some (.int .i64 a0_2) := (blk_cell BK421.out 2).trans rfl
       have hcz13_3 : wc.cell? ⟨gb421, 3, none⟩ = some (.int .i64 a0_3) := (blk_cell BK421.out 3).trans rfl
       have hcz13_4 : wc.cell? ⟨gb421, 4, none⟩ = some (.int .i64 a0_4) := (blk_cell BK421.out 4).trans rfl
       have hfz13_0 := blk_frozen BK421.out 0
       have hfz13_1 := blk_frozen BK421.out 1
       have hfz13_2 := blk_frozen BK421.out 2
       have hfz13_3 := blk_frozen BK421.out 3
       have hfz13_4 := blk_frozen BK421.out 4
       go_wp2_with (first | ((with_reducible refine gate_callee (f := 59) rfl ?_); refine goesL_ (some 18) rfl rfl Try.func59 (by kernel_rfl) rfl #[.int .i64 a0_2] rfl z1_ ?_; (with_reducible refine (impl_LabelOk.calls a0_2 true _ A10.out).mono ?_); rintro e w' ⟨rfl, ⟨nd, rfl⟩⟩; refine ⟨_, rfl, ?_⟩))
       go_ret
       exact ⟨z3_, z27_⟩
      ·rw [if_neg c12] at H
       have c12b0 : (a0_3 == 0) = false := beq_eq_false_iff_ne.mpr c12
       have c12b1 : (a0_3 != 0) = true := bne_iff_ne.mpr c12
       obtain rfl := Option.some.inj H
       have hcz14_0 : wc.cell? ⟨gb421, 0, none⟩ = some (.int .i64 a0_0) := (blk_cell BK421.out 0).trans rfl
       have hcz14_1 : wc.cell? ⟨gb421, 1, none⟩ = some (.slice A0_1 l0_1.length c0_1) := (blk_cell BK421.out 1).trans rfl
       have hcz14_2 : wc.cell? ⟨gb421, 2, none⟩ = some (.int .i64 a0_2) := (blk_cell BK421.out 2).trans rfl
       have hcz14_3 : wc.cell? ⟨gb421, 3, none⟩ = some (.int .i64 a0_3) := (blk_cell BK421.out 3).trans rfl
       have hcz14_4 : wc.cell? ⟨gb421, 4, none⟩ = some (.int .i64 a0_4) := (blk_cell BK421.out 4).trans rfl
       have hfz14_0 := blk_frozen BK421.out 0
       have hfz14_1 := blk_frozen BK421.out 1
       have hfz14_2 := blk_frozen BK421.out 2
       have hfz14_3 := blk_frozen BK421.out 3
       have hfz14_4 := blk_frozen BK421.out 4
       go_wp2_with (first | ((with_reducible refine gate_callee (f := 59) rfl ?_); refine goesL_ (some 18) rfl rfl Try.func59 (by kernel_rfl) rfl #[.int .i64 a0_2] rfl z1_ ?_; (with_reducible refine (impl_LabelOk.calls a0_2 true _ A10.out).mono ?_); rintro e w' ⟨rfl, ⟨nd, rfl⟩⟩; refine ⟨_, rfl, ?_⟩))
       go_ret
       exact ⟨z3_, z27_⟩
     ·replace c11 := Bool.eq_false_iff.mpr c11
      subst c11
      replace H := iff_ H
      obtain rfl := Option.some.inj H
      have hcz15_0 : wc.cell? ⟨gb421, 0, none⟩ = some (.int .i64 a0_0) := (blk_cell BK421.out 0).trans rfl
      have hcz15_1 : wc.cell? ⟨gb421, 1, none⟩ = some (.slice A0_1 l0_1.length c0_1) := (blk_cell BK421.out 1).trans rfl
      have hcz15_2 : wc.cell? ⟨gb421, 2, none⟩ = some (.int .i64 a0_2) := (blk_cell BK421.out 2).trans rfl
      have hcz15_3 : wc.cell? ⟨gb421, 3, none⟩ = some (.int .i64 a0_3) := (blk_cell BK421.out 3).trans rfl
      have hcz15_4 : wc.cell? ⟨gb421, 4, none⟩ = some (.int .i64 a0_4) := (blk_cell BK421.out 4).trans rfl
      have hfz15_0 := blk_frozen BK421.out 0
      have hfz15_1 := blk_frozen BK421.out 1
      have hfz15_2 := blk_frozen BK421.out 2
      have hfz15_3 := blk_frozen BK421.out 3
      have hfz15_4 := blk_frozen BK421.out 4
      go_wp2_with (first | ((with_reducible refine gate_callee (f := 59) rfl ?_); refine goesL_ (some 18) rfl rfl Try.func59 (by kernel_rfl) rfl #[.int .i64 a0_2] rfl z1_ ?_; (with_reducible refine (impl_LabelOk.calls a0_2 false _ A10.out).mono ?_); rintro e w' ⟨rfl, ⟨nd, rfl⟩⟩; refine ⟨_, rfl, ?_⟩))
      go_ret
      exact ⟨z3_, z27_⟩
    ·rw [if_neg c9] at H
     have c9b0 : (a0_0 == 1) = false := beq_eq_false_iff_ne.mpr c9
     have c9b1 : (a0_0 != 1) = true := bne_iff_ne.mpr c9
     by_cases c16 : a0_0 = 2
     ·rw [if_pos c16] at H
      have c16b0 : (a0_0 == 2) = true := beq_iff_eq.mpr c16
      have c16b1 : (a0_0 != 2) = false := bne_eq_false_iff_eq.mpr c16
      clear c16
      by_cases c17 : a0_2 = 0
      ·rw [if_pos c17] at H
       have c17b0 : (a0_2 == 0) = true := beq_iff_eq.mpr c17
       have c17b1 : (a0_2 != 0) = false := bne_eq_false_iff_eq.mpr c17
       clear c17
       by_cases c18 : a0_3 = 0
       ·rw [if_pos c18] at H
        have c18b0 : (a0_3 == 0) = true := beq_iff_eq.mpr c18
        have c18b1 : (a0_3 != 0) = false := bne_eq_false_iff_eq.mpr c18
        clear c18
        obtain rfl := Option.some.inj H
        have hcz19_0 : wc.cell? ⟨gb421, 0, none⟩ = some (.int .i64 a0_0) := (blk_cell BK421.out 0).trans rfl
        have hcz19_1 : wc.cell? ⟨gb421, 1, none⟩ = some (.slice A0_1 l0_1.length c0_1) := (blk_cell BK421.out 1).trans rfl
        have hcz19_2 : wc.cell? ⟨gb421, 2, none⟩ = some (.int .i64 a0_2) := (blk_cell BK421.out 2).trans rfl
        have hcz19_3 : wc.cell? ⟨gb421, 3, none⟩ = some (.int .i64 a0_3) := (blk_cell BK421.out 3).trans rfl
        have hcz19_4 : wc.cell? ⟨gb421, 4, none⟩ = some (.int .i64 a0_4) := (blk_cell BK421.out 4).trans rfl
        have hfz19_0 := blk_frozen BK421.out 0
        have hfz19_1 := blk_frozen BK421.out 1
        have hfz19_2 := blk_frozen BK421.out 2
        have hfz19_3 := blk_frozen BK421.out 3
        have hfz19_4 := blk_frozen BK421.out 4
        go_wp2
        go_ret
        exact ⟨z3_, z27_⟩
       ·rw [if_neg c18] at H
        have c18b0 : (a0_3 == 0) = false := beq_eq_false_iff_ne.mpr c18
        have c18b1 : (a0_3 != 0) = true := bne_iff_ne.mpr c18
        obtain rfl := Option.some.inj H
        have hcz20_0 : wc.cell? ⟨gb421, 0, none⟩ = some (.int .i64 a0_0) := (blk_cell BK421.out 0).trans rfl
        have hcz20_1 : wc.cell? ⟨gb421, 1, none⟩ = some (.slice A0_1 l0_1.length c0_1) := (blk_cell BK421.out 1).trans rfl
        have hcz20_2 : wc.cell? ⟨gb421, 2, none⟩ = some (.int .i64 a0_2) := (blk_cell BK421.out 2).trans rfl
        have hcz20_3 : wc.cell? ⟨gb421, 3, none⟩ = some (.int .i64 a0_3) := (blk_cell BK421.out 3).trans rfl
        have hcz20_4 : wc.cell? ⟨gb421, 4, none⟩ = some (.int .i64 a0_4) := (blk_cell BK421.out 4).trans rfl
        have hfz20_0 := blk_frozen BK421.out 0
        have hfz20_1 := blk_frozen BK421.out 1
        have hfz20_2 := blk_frozen BK421.out 2
        have hfz20_3 := blk_frozen BK421.out 3
        have hfz20_4 := blk_frozen BK421.out 4
        go_wp2
        go_ret
        exact ⟨z3_, z27_⟩
      ·rw [if_neg c17] at H
       have c17b0 : (a0_2 == 0) = false := beq_eq_false_iff_ne.mpr c17
       have c17b1 : (a0_2 != 0) = true := bne_iff_ne.mpr c17
       obtain rfl := Option.some.inj H
       have hcz21_0 : wc.cell? ⟨gb421, 0, none⟩ = some (.int .i64 a0_0) := (blk_cell BK421.out 0).trans rfl
       have hcz21_1 : wc.cell? ⟨gb421, 1, none⟩ = some (.slice A0_1 l0_1.length c0_1) := (blk_cell BK421.out 1).trans rfl
       have hcz21_2 : wc.cell? ⟨gb421, 2, none⟩ = some (.int .i64 a0_2) := (blk_cell BK421.out 2).trans rfl
       have hcz21_3 : wc.cell? ⟨gb421, 3, none⟩ = some (.int .i64 a0_3) := (blk_cell BK421.out 3).trans rfl
       have hcz21_4 : wc.cell? ⟨gb421, 4, none⟩ = some (.int .i64 a0_4) := (blk_cell BK421.out 4).trans rfl
       have hfz21_0 := blk_frozen BK421.out 0
       have hfz21_1 := blk_frozen BK421.out 1
       have hfz21_2 := blk_frozen BK421.out 2
       have hfz21_3 := blk_frozen BK421.out 3
       have hfz21_4 := blk_frozen BK421.out 4
       go_wp2
       go_ret
       exact ⟨z3_, z27_⟩
     ·rw [if_neg c16] at H
      have c16b0 : (a0_0 == 2) = false := beq_eq_false_iff_ne.mpr c16
      have c16b1 : (a0_0 != 2) = true := bne_iff_ne.mpr c16
      by_cases c22 : a0_0 = 3
      ·rw [if_pos c22] at H
       have c22b0 : (a0_0 == 3) = true := beq_iff_eq.mpr c22
       have c22b1 : (a0_0 != 3) = false := bne_eq_false_iff_eq.mpr c22
       clear c22
       obtain ⟨t424, A23, H⟩ := bnd_ H
       by_cases c24 : t424 = true
       ·subst c24
        replace H := ift_ H
        obtain ⟨t425, A25, H⟩ := bnd_ H
        by_cases c26 : t425 = true
        ·subst c26
         replace H := ift_ H
         obtain ⟨t426, A27, H⟩ := bnd_ H
         obtain rfl := Option.some.inj H
         have hcz28_0 : wc.cell? ⟨gb421, 0, none⟩ = some (.int .i64 a0_0) := (blk_cell BK421.out 0).trans rfl
         have hcz28_1 : wc.cell? ⟨gb421, 1, none⟩ = some (.slice A0_1 l0_1.length c0_1) := (blk_cell BK421.out 1).trans rfl
         have hcz28_2 : wc.cell? ⟨gb421, 2, none⟩ = some (.int .i64 a0_2) := (blk_cell BK421.out 2).trans rfl
         have hcz28_3 : wc.cell? ⟨gb421, 3, none⟩ = some (.int .i64 a0_3) := (blk_cell BK421.out 3).trans rfl
         have hcz28_4 : wc.cell? ⟨gb421, 4, none⟩ = some (.int .i64 a0_4) := (blk_cell BK421.out 4).trans rfl
         have hfz28_0 := blk_frozen BK421.out 0
         have hfz28_1 := blk_frozen BK421.out 1
         have hfz28_2 := blk_frozen BK421.out 2
         have hfz28_3 := blk_frozen BK421.out 3
         have hfz28_4 := blk_frozen BK421.out 4
         go_wp2_with (first | ((with_reducible refine gate_callee (f := 59) rfl ?_); refine goesL_ (some 48) rfl rfl Try.func59 (by kernel_rfl) rfl #[.int .i64 a0_2] rfl z1_ ?_; (with_reducible refine (impl_LabelOk.calls a0_2 true _ A23.out).mono ?_); rintro e w' ⟨rfl, ⟨nd, rfl⟩⟩; refine ⟨_, rfl, ?_⟩) | (go_at_call 82; (with_reducible refine (impl_within.calls a0_3 0 24 true _ A25.out).mono ?_); rintro e w' ⟨rfl, ⟨nd, rfl⟩⟩) | (go_at_call 82; (with_reducible refine (impl_within.calls a0_4 0 24 t426 _ A27.out).mono ?_); rintro e w' ⟨rfl, ⟨nd, rfl⟩⟩))
         go_ret
         exact ⟨z3_, z27_⟩
        ·replace c26 := Bool.eq_false_iff.mpr c26
         subst c26
         replace H := iff_ H
         obtain rfl := Option.some.inj H
         have hcz29_0 : wc.cell? ⟨gb421, 0, none⟩ = some (.int .i64 a0_0) := (blk_cell BK421.out 0).trans rfl
         have hcz29_1 : wc.cell? ⟨gb421, 1, none⟩ = some (.slice A0_1 l0_1.length c0_1) := (blk_cell BK421.out 1).trans rfl
         have hcz29_2 : wc.cell? ⟨gb421, 2, none⟩ = some (.int .i64 a0_2) := (blk_cell BK421.out 2).trans rfl
         have hcz29_3 : wc.cell? ⟨gb421, 3, none⟩ = some (.int .i64 a0_3) := (blk_cell BK421.out 3).trans rfl
         have hcz29_4 : wc.cell? ⟨gb421, 4, none⟩ = some (.int .i64 a0_4) := (blk_cell BK421.out 4).trans rfl
         have hfz29_0 := blk_frozen BK421.out 0
         have hfz29_1 := blk_frozen BK421.out 1
         have hfz29_2 := blk_frozen BK421.out 2
         have hfz29_3 := blk_frozen BK421.out 3
         have hfz29_4 := blk_frozen BK421.out 4
         go_wp2_with (first | ((with_reducible refine gate_callee (f := 59) rfl ?_); refine goesL_ (some 48) rfl rfl Try.func59 (by kernel_rfl) rfl #[.int .i64 a0_2] rfl z1_ ?_; (with_reducible refine (impl_LabelOk.calls a0_2 true _ A23.out).mono ?_); rintro e w' ⟨rfl, ⟨nd, rfl⟩⟩; refine ⟨_, rfl, ?_⟩) | (go_at_call 82; (with_reducible refine (impl_within.calls a0_3 0 24 false _ A25.out).mono ?_); rintro e w' ⟨rfl, ⟨nd, rfl⟩⟩))
         go_ret
         exact ⟨z3_, z27_⟩
       ·replace c24 := Bool.eq_false_iff.mpr c24
        subst c24
        replace H := iff_ H
        obtain rfl := Option.some.inj H
        have hcz30_0 : wc.cell? ⟨gb421, 0, none⟩ = some (.int .i64 a0_0) := (blk_cell BK421.out 0).trans rfl
        have hcz30_1 : wc.cell? ⟨gb421, 1, none⟩ = some (.slice A0_1 l0_1.length c0_1) := (blk_cell BK421.out 1).trans rfl
        have hcz30_2 : wc.cell? ⟨gb421, 2, none⟩ = some (.int .i64 a0_2) := (blk_cell BK421.out 2).trans rfl
        have hcz30_3 : wc.cell? ⟨gb421, 3, none⟩ = some (.int .i64 a0_3) := (blk_cell BK421.out 3).trans rfl
        have hcz30_4 : wc.cell? ⟨gb421, 4, none⟩ = some (.int .i64 a0_4) := (blk_cell BK421.out 4).trans rfl
        have hfz30_0 := blk_frozen BK421.out 0
        have hfz30_1 := blk_frozen BK421.out 1
        have hfz30_2 := blk_frozen BK421.out 2
        have hfz30_3 := blk_frozen BK421.out 3
        have hfz30_4 := blk_frozen BK421.out 4
        go_wp2_with (first | ((with_reducible refine gate_callee (f := 59) rfl ?_); refine goesL_ (some 48) rfl rfl Try.func59 (by kernel_rfl) rfl #[.int .i64 a0_2] rfl z1_ ?_; (with_reducible refine (impl_LabelOk.calls a0_2 false _ A23.out).mono ?_); rintro e w' ⟨rfl, ⟨nd, rfl⟩⟩; refine ⟨_, rfl, ?_⟩))
        go_ret
        exact ⟨z3_, z27_⟩
      ·rw [if_neg c22] at H
       have c22b0 : (a0_0 == 3) = false := beq_eq_false_iff_ne.mpr c22
       have c22b1 : (a0_0 != 3) = true := bne_iff_ne.mpr c22
       obtain rfl := Option.some.inj H
       have hcz31_0 : wc.cell? ⟨gb421, 0, none⟩ = some (.int .i64 a0_0) := (blk_cell BK421.out 0).trans rfl
       have hcz31_1 : wc.cell? ⟨gb421, 1, none⟩ = some (.slice A0_1 l0_1.length c0_1) := (blk_cell BK421.out 1).trans rfl
       have hcz31_2 : wc.cell? ⟨gb421, 2, none⟩ = some (.int .i64 a0_2) := (blk_cell BK421.out 2).trans rfl
       have hcz31_3 : wc.cell? ⟨gb421, 3, none⟩ = some (.int .i64 a0_3) := (blk_cell BK421.out 3).trans rfl
       have hcz31_4 : wc.cell? ⟨gb421, 4, none⟩ = some (.int .i64 a0_4) := (blk_cell BK421.out 4).trans rfl
       have hfz31_0 := blk_frozen BK421.out 0
       have hfz31_1 := blk_frozen BK421.out 1
       have hfz31_2 := blk_frozen BK421.out 2
       have hfz31_3 := blk_frozen BK421.out 3
       have hfz31_4 := blk_frozen BK421.out 4
       go_wp2
       go_ret
       exact ⟨z3_, z27_⟩

/-! ### impl_ScriptOk_lit1: function 145 -/
def impl_ScriptOk_lit1.f (k : Nat) (a0_0 : Int) (l0_1 : List Int) (a0_2 : Int) (a0_3 : Int) (a0_4 : Int) : Option (Bool) := (impl_OpOk.f k a0_0 l0_1 a0_2 a0_3 a0_4).bind fun t428 => (some (!t428))
theorem impl_ScriptOk_lit1.mono : ∀ a0 a1 a2 a3 a4 k, LeO (impl_ScriptOk_lit1.f k a0 a1 a2 a3 a4) (impl_ScriptOk_lit1.f (k + 1) a0 a1 a2 a3 a4) := by
 intro a0 a1 a2 a3 a4 k
 unfold impl_ScriptOk_lit1.f
 repeat' first | (with_reducible first | exact impl_OpOk.mono _ _ _ _ _ _ | exact LeO.refl _ | exact LeO.none _ | refine LeO.ite ?_ ?_ | refine LeO.bind ?_ (fun _ => ?_)) | exact impl_OpOk.mono _ _ _ _ _ _ | exact LeO.none _ | refine LeO.ite ?_ ?_ | refine LeO.bind ?_ (fun _ => ?_)
set_option maxHeartbeats 8000000 in
set_option maxRecDepth 100000 in
theorem impl_ScriptOk_lit1.calls (k : Nat) (a0_0 : Int) (A0_1 : Option Addr) (c0_1 : Nat) (l0_1 : List Int) (a0_2 : Int) (a0_3 : Int) (a0_4 : Int) (r : Bool) (w : World) (hr0_1 : Kd.C (Kd.int .i64) w A0_1 l0_1.length l0_1) (hc0_1 : l0_1.length ≤ c0_1) (h : impl_ScriptOk_lit1.f k a0_0 l0_1 a0_2 a0_3 a0_4 = some r) :
  Calls Try.prog 145 #[.agg #[.int .i64 a0_0, .slice A0_1 l0_1.length c0_1, .int .i64 a0_2, .int .i64 a0_3, .int .i64 a0_4]] w fun e w' => e = .returned (.bool r) ∧ Below w.heap.size w w' := by
 have hu148 := Try.underlying148
 have HR0_1 := Aside0.mk hr0_1
 have HC0_1 := Aside0.mk hc0_1
 clear hr0_1 hc0_1
 have HB := Aside0.mk (Below.refl w.heap.size w)
 have H : ((impl_OpOk.f k a0_0 l0_1 a0_2 a0_3 a0_4).bind fun t428 => (some (!t428))) = some r := h
 clear h
 obtain ⟨t428, A2, H⟩ := bnd_ H
 obtain rfl := Option.some.inj H
 go_enter Try.func145, Try.ntmps145
 go_wp2_with (first | ((with_reducible refine gate_dst (N := 1) rfl ?_); refine box_event ?hg (N := 1) ?hd (cs := #[.int .i64 a0_0, .slice A0_1 l0_1.length c0_1, .int .i64 a0_2, .int .i64 a0_3, .int .i64 a0_4]) (t := 148) ?hr ?_; (case hd => rfl); (case hg => rfl); (case hr => exact z11_); intro gb427 hg w3 hbox hb; have BK427 := Aside0.mk (hbox); have GW427 := Aside0.mk ((by rw [hg]; exact (below_size z0_) : w.heap.size ≤ gb427)); have GE427 := Aside0.mk ((by rw [hg]; exact (below_size z0_) : w.heap.size ≤ gb427)); replace HB := Aside0.mk (below_step z0_ hb); clear hb hbox hg; have hcz4_0 : w3.cell? ⟨gb427, 0, none⟩ = some (.int .i64 a0_0) := (blk_cell BK427.out 0).trans rfl; have hcz4_1 : w3.cell? ⟨gb427, 1, none⟩ = some (.slice A0_1 l0_1.length c0_1) := (blk_cell BK427.out 1).trans rfl; have hcz4_2 : w3.cell? ⟨gb427, 2, none⟩ = some (.int .i64 a0_2) := (blk_cell BK427.out 2).trans rfl; have hcz4_3 : w3.cell? ⟨gb427, 3, none⟩ = some (.int .i64 a0_3) := (blk_cell BK427.out 3).trans rfl; have hcz4_4 : w3.cell? ⟨gb427, 4, none⟩ = some (.int .i64 a0_4) := (blk_cell BK427.out 4).trans rfl; have hfz4_0 := blk_frozen BK427.out 0; have hfz4_1 := blk_frozen BK427.out 1; have hfz4_2 := blk_frozen BK427.out 2; have hfz4_3 := blk_frozen BK427.out 3; have hfz4_4 := blk_frozen BK427.out 4) | ((with_reducible refine gate_callee (f := 146) rfl ?_); refine goesL_ (some 4) rfl rfl Try.func146 (by kernel_rfl) rfl #[.agg #[.int .i64 a0_0, .slice A0_1 l0_1.length c0_1, .int .i64 a0_2, .int .i64 a0_3, .int .i64 a0_4]] rfl z1_ ?_; (with_reducible refine (impl_OpOk.calls k a0_0 _ _ l0_1 a0_2 a0_3 a0_4 t428 _ ?side1 ?side2 A2.out).mono ?_); (case side1 => exact z5_); (case side2 => exact HC0_1.out); rintro e w5 ⟨rfl, hb⟩; refine ⟨_, rfl, ?_⟩; replace BK427 := Aside0.mk (blk_below (g := gb427) (o := .cells #[.int .i64 a0_0, .slice A0_1 l0_1.length c0_1, .int .i64 a0_2, .int .i64 a0_3, .int .i64 a0_4] 148 (0, 0)) (by (with_reducible repeat (first | refine blk_drewN ?_ _ | refine blk_drew ?_ | refine blk_alloc ?_ _)); exact BK427.out) hb); replace HB := Aside0.mk (below_step z129_ hb); (try clear hb)))
 go_ret
 exact ⟨z3_, z129_⟩

end Go.Proofs.Ytmbhlfcpdbbogab.PFnExactHistOk
