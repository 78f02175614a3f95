/- Laid by a program of this session out of the kit's print for the law FnExactPatch: what it says of the machine is proved here, function by function; each contract under the conditions that it names. -/
import Derived.Test.YtbiffnahknkoiaaMFnExactPatchx0
import Derived.Test.YtbiffnahknkoiaaMFnExactPatchx9
import Derived.Test.YtbiffnahknkoiaaMFnExactPatchx10
import Derived.Test.YtbiffnahknkoiaaMFnExactPatchx11
import Derived.Test.YtbiffnahknkoiaaMFnExactPatchx12
import Derived.Test.YtbiffnahknkoiaaMFnExactPatchx15
namespace Go.Proofs.Ytbiffnahknkoiaa.PFnExactPatch
open Go.RowKit Go.Proofs.YtbiffnahknkoiaaW.PrintWords Go.Proofs.YtbiffnahknkoiaaW.PrintLast Go.Proofs.YtbiffnahknkoiaaW.PrintMore
attribute [local go_sem] max2_int min2_int max_two min_two max_three min_three max_four min_four   -- for this text's walks alone
set_option linter.unusedVariables false
set_option linter.unusedSimpArgs false

/-! ### impl_ApplyAll: function 35 -/
def impl_ApplyAll.l0 : Nat → List (S100) → List (S45) → List (S100) → Int → Int → Option ((List (S45)) × Int × Int)
 | 0, _, _, _, _, _ => none
 | k + 1, x1, x7, x18, x19, x20 => if x20 < x19 then (if 0 ≤ x20 then (if x20 < (x18.length : Int) then ((impl_ApplyOp.f k x7 ((rd_T100 x18 x20).f0) ((rd_T100 x18 x20).f1) ((rd_T100 x18 x20).f2) ((rd_T100 x18 x20).f3) ((rd_T100 x18 x20).f4)).bind fun bt545 => (if bt545.2 = 0 then (impl_ApplyAll.l0 k x1 bt545.1 x18 x19 (wrap64 (x20 + 1))) else (some (x7, x20, bt545.2)))) else (none)) else (none)) else (some (x7, (x1.length : Int), 0))
def impl_ApplyAll.f (k : Nat) (l0 : List (S45)) (l1 : List (S100)) : Option ((List (S45)) × Int × Int) := (impl_TreeOk.f k l0).bind fun t536 => (if t536 = true then ((slices_Clone_Node.f l0).bind fun t540 => (impl_ApplyAll.l0 k l1 t540 l1 (l1.length : Int) 0)) else (some ((([] : List (S45))), 0, 2)))
set_option maxHeartbeats 8000000 in
set_option maxRecDepth 100000 in
theorem impl_ApplyAll.calls (k : Nat) (A0 : Option Addr) (c0 : Nat) (l0 : List (S45)) (A1 : Option Addr) (c1 : Nat) (l1 : List (S100)) (r1 : List (S45)) (r2 : Int) (r3 : Int) (w : World) (hr0 : Kd.C k45 w A0 l0.length l0) (hc0 : l0.length ≤ c0) (hr1 : Kd.C k100 w A1 l1.length l1) (hc1 : l1.length ≤ c1) (h : impl_ApplyAll.f k l0 l1 = some (r1, r2, r3)) :
  Calls Try.prog 35 #[.slice A0 l0.length c0, .slice A1 l1.length c1] w fun e w' => ∃ v0_ : Value, e = .returned (.tuple #[v0_, .int .i64 r2, .int .i64 r3]) ∧ Kd.R k45 45 w' w.heap.size (fun _ => True) v0_ r1 ∧ Below w.heap.size w w' := by
 have hu100 := Try.underlying100
 have HR0 := Aside0.mk hr0
 have HC0 := Aside0.mk hc0
 clear hr0 hc0
 have HR1 := Aside0.mk hr1
 have HC1 := Aside0.mk hc1
 clear hr1 hc1
 have HB := Aside0.mk (Below.refl w.heap.size w)
 have H : ((impl_TreeOk.f k l0).bind fun t536 => (if t536 = true then ((slices_Clone_Node.f l0).bind fun t540 => (impl_ApplyAll.l0 k l1 t540 l1 (l1.length : Int) 0)) else (some ((([] : List (S45))), 0, 2)))) = some (r1, r2, r3) := h
 clear h
 obtain ⟨t536, A3, H⟩ := bnd_ H
 by_cases c4 : t536 = true
 ·subst c4
  replace H := ift_ H
  obtain ⟨t540, A5, H⟩ := bnd_ H
  have H' := Aside0.mk H
  clear H
  go_enter Try.func35, Try.ntmps35
  go_wp2_with (first | ((with_reducible refine gate_callee (f := 40) rfl ?_); refine goesL_ (some 13) rfl rfl Try.func40 (by kernel_rfl) rfl #[.slice A0 l0.length c0] rfl z1_ ?_; (with_reducible refine (impl_TreeOk.calls k _ _ l0 true _ ?side1 ?side2 A3.out).mono ?_); (case side1 => exact z24_); (case side2 => exact HC0.out); rintro e w6 ⟨rfl, hb⟩; refine ⟨_, rfl, ?_⟩; replace HB := Aside0.mk (below_step z0_ hb); (try clear hb)) | ((with_reducible refine gate_callee (f := 70) rfl ?_); refine goesL_ (some 17) rfl rfl Try.func70 (by kernel_rfl) rfl #[.slice A0 l0.length c0] rfl z1_ ?_; (with_reducible refine (slices_Clone_Node.calls _ _ l0 t540 _ ?side1 ?side2 A5.out).mono ?_); (case side1 => exact z2_); (case side2 => exact HC0.out); rintro e w7 ⟨v541, rfl, ho0, hb⟩; refine ⟨_, rfl, ?_⟩; have HO542 := Aside0.mk (Kd.R_lower ho0 (below_size z0_)); replace HB := Aside0.mk (below_step z0_ hb); (try clear hb ho0)))
  go_loopg [7, 20] k (fun kq v7 v20 w' => ∃ (x7_1 : List (S45)) (x20_1 : Int), v20 = .int .i64 x20_1 ∧ Aside0 (impl_ApplyAll.l0 kq l1 x7_1 l1 (l1.length : Int) x20_1 = some (r1, r2, r3)) ∧ Aside0 (kq ≤ k) ∧ Aside0 (Kd.R k45 45 w' w.heap.size (fun _ => True) v7 x7_1) ∧ Aside0 (Below w.heap.size w w'))
  case atStart => exact ⟨(t540), (0), z8_, H', ⟨Nat.le_refl _⟩, ⟨by (with_reducible repeat (first | apply Kd.R_alloc | apply Kd.R_drewN | apply Kd.R_drew)); exact HO542.out⟩, ⟨z0_⟩⟩
  case round =>
   clear H'
   try clear c1
   try clear p2
   try clear c3
   try clear c4
   try clear c7
   obtain ⟨x7_1, x20_1, rfl, HA, HK1, HO_7, HB⟩ := hrel
   cases gk with
   | zero => exact absurd HA.out (by simp [impl_ApplyAll.l0])
   | succ k1 =>
    have H := HA.out
    clear HA
    simp only [impl_ApplyAll.l0] at H
    by_cases c8 : x20_1 < (l1.length : Int)
    ·rw [if_pos c8] at H
     have c8b0 := decide_eq_true c8
     clear c8
     obtain ⟨c9b0, H⟩ := ifd_ H
     obtain ⟨c10b0, H⟩ := ifd_ H
     replace H := Option.bind_eq_some_iff.mp H
     obtain ⟨⟨t545, t548⟩, A110, H⟩ := H
     try dsimp only at H
     have A11 := Aside0.mk A110
     clear A110
     by_cases c12 : t548 = 0
     ·rw [if_pos c12] at H
      have c12b0 : (t548 == 0) = true := beq_iff_eq.mpr c12
      have c12b1 : (t548 != 0) = false := bne_eq_false_iff_eq.mpr c12
      clear c12
      have H' := Aside0.mk H
      clear H
      have p543 : 0 ≤ (x20_1 : Int) := odt_
      have q543 : x20_1 < (l1.length : Int) := odt_
      obtain ⟨ad543, A543_1, c543_1, e543, hx543_0, hx543_1, hx543_2, hx543_3, hx543_4, hl543_1, hi543_1⟩ := at_T100 HR1.out x20_1 p543 q543
      cases e543
      replace hx543_0 := (HB.out.cell (World.block_lt_of_cell? w _ hx543_0)).trans hx543_0
      replace hx543_1 := (HB.out.cell (World.block_lt_of_cell? w _ hx543_1)).trans hx543_1
      replace hx543_2 := (HB.out.cell (World.block_lt_of_cell? w _ hx543_2)).trans hx543_2
      replace hx543_3 := (HB.out.cell (World.block_lt_of_cell? w _ hx543_3)).trans hx543_3
      replace hx543_4 := (HB.out.cell (World.block_lt_of_cell? w _ hx543_4)).trans hx543_4
      have HR543_1 := Aside0.mk hi543_1
      have HC543_1 := Aside0.mk hl543_1
      clear hi543_1 hl543_1
      replace p543 := eq_true p543
      replace q543 := eq_true q543
      go_wp2_with (first | ((with_reducible refine gate_dst (N := 9) rfl ?_); refine box_event ?hg (N := 9) ?hd (cs := #[.int .i64 0, .slice none 0 0, .int .i64 0, .int .i64 0, .int .i64 0]) (t := 100) ?hr ?_; (case hd => rfl); (case hg => rfl); (case hr => exact z10_); intro gb544 hg w13 hbox hb; replace HO_7 := Aside0.mk (Kd.R_below z74_ hb); have BK544 := Aside0.mk (hbox); have GW544 := Aside0.mk ((by rw [hg]; exact (below_size z0_) : w.heap.size ≤ gb544)); have GE544 := Aside0.mk ((by rw [hg]; exact (below_size z0_) : w.heap.size ≤ gb544)); replace HB := Aside0.mk (below_step z0_ hb); clear hb hbox hg; obtain ⟨hcz14_0, hcz14_1, hcz14_2, hcz14_3, hcz14_4, hfz14_0, hfz14_1, hfz14_2, hfz14_3, hfz14_4⟩ := bx5_ BK544.out; obtain ⟨Ao15, co15, eo15⟩ := Kd.R_slice HO_7.out; subst eo15) | ((with_reducible refine gate_callee (f := 71) rfl ?_); refine goesL_ (some 28) rfl rfl Try.func71 (by kernel_rfl) rfl #[.slice Ao15 x7_1.length co15, .agg #[.int .i64 ((rd_T100 l1 x20_1).f0), .slice A543_1 ((rd_T100 l1 x20_1).f1).length c543_1, .int .i64 ((rd_T100 l1 x20_1).f2), .int .i64 ((rd_T100 l1 x20_1).f3), .int .i64 ((rd_T100 l1 x20_1).f4)]] rfl z1_ ?_; (with_reducible refine (impl_ApplyOp.calls k1 _ _ x7_1 ((rd_T100 l1 x20_1).f0) _ _ ((rd_T100 l1 x20_1).f1) ((rd_T100 l1 x20_1).f2) ((rd_T100 l1 x20_1).f3) ((rd_T100 l1 x20_1).f4) t545 t548 _ ?side1 ?side2 ?side3 ?side4 A11.out).mono ?_); (case side1 => refine (Kd.R_reads' (e := 45) (base := w.heap.size) (ok := fun k_ => True) (n := x7_1.length) (c := co15) ?_).2.2; exact z17_); (case side2 => exact z153_); (case side3 => exact z107_); (case side4 => exact HC543_1.out); rintro e w16 ⟨v546, rfl, ho0, hb⟩; refine ⟨_, rfl, ?_⟩; have HO547 := Aside0.mk (Kd.R_lower (Kd.R_new' ho0 (Kd.R_lt z17_)) (below_size z54_)); replace HO_7 := Aside0.mk (Kd.R_elder' z17_ (Kd.R_base ho0) hb); replace BK544 := Aside0.mk (blk_below (g := gb544) (o := .cells #[.int .i64 ((rd_T100 l1 x20_1).f0), .slice A543_1 ((rd_T100 l1 x20_1).f1).length c543_1, .int .i64 ((rd_T100 l1 x20_1).f2), .int .i64 ((rd_T100 l1 x20_1).f3), .int .i64 ((rd_T100 l1 x20_1).f4)] 100 (0, 0)) z30_ hb); replace HB := Aside0.mk (below_step z54_ hb); (try clear hb ho0)))
      go_roundg k1
      case measure => have := HK1.out; omega
      case rel => exact ⟨(t545), (wrap64 (x20_1 + 1)), z8_, H', ⟨z93_⟩, ⟨by (with_reducible repeat (first | apply Kd.R_alloc | apply Kd.R_drewN | apply Kd.R_drew)); exact Kd.R_mono HO547.out (fun _ hk => trivial)⟩, ⟨z54_⟩⟩
     ·rw [if_neg c12] at H
      have c12b0 : (t548 == 0) = false := beq_eq_false_iff_ne.mpr c12
      have c12b1 : (t548 != 0) = true := bne_iff_ne.mpr c12
      simp only [Option.some.injEq, Prod.mk.injEq] at H
      obtain ⟨rfl, rfl, rfl⟩ := H
      have p543 : 0 ≤ (x20_1 : Int) := odt_
      have q543 : x20_1 < (l1.length : Int) := odt_
      obtain ⟨ad543, A543_1, c543_1, e543, hx543_0, hx543_1, hx543_2, hx543_3, hx543_4, hl543_1, hi543_1⟩ := at_T100 HR1.out x20_1 p543 q543
      cases e543
      replace hx543_0 := (HB.out.cell (World.block_lt_of_cell? w _ hx543_0)).trans hx543_0
      replace hx543_1 := (HB.out.cell (World.block_lt_of_cell? w _ hx543_1)).trans hx543_1
      replace hx543_2 := (HB.out.cell (World.block_lt_of_cell? w _ hx543_2)).trans hx543_2
      replace hx543_3 := (HB.out.cell (World.block_lt_of_cell? w _ hx543_3)).trans hx543_3
      replace hx543_4 := (HB.out.cell (World.block_lt_of_cell? w _ hx543_4)).trans hx543_4
      have HR543_1 := Aside0.mk hi543_1
      have HC543_1 := Aside0.mk hl543_1
      clear hi543_1 hl543_1
      replace p543 := eq_true p543
      replace q543 := eq_true q543
      go_wp2_with (first | ((with_reducible refine gate_dst (N := 9) rfl ?_); refine box_event ?hg (N := 9) ?hd (cs := #[.int .i64 0, .slice none 0 0, .int .i64 0, .int .i64 0, .int .i64 0]) (t := 100) ?hr ?_; (case hd => rfl); (case hg => rfl); (case hr => exact z10_); intro gb544 hg w17 hbox hb; replace HO_7 := Aside0.mk (Kd.R_below z74_ hb); have BK544 := Aside0.mk (hbox); have GW544 := Aside0.mk ((by rw [hg]; exact (below_size z0_) : w.heap.size ≤ gb544)); have GE544 := Aside0.mk ((by rw [hg]; exact (below_size z0_) : w.heap.size ≤ gb544)); replace HB := Aside0.mk (below_step z0_ hb); clear hb hbox hg; obtain ⟨hcz18_0, hcz18_1, hcz18_2, hcz18_3, hcz18_4, hfz18_0, hfz18_1, hfz18_2, hfz18_3, hfz18_4⟩ := bx5_ BK544.out; obtain ⟨Ao19, co19, eo19⟩ := Kd.R_slice HO_7.out; subst eo19) | ((with_reducible refine gate_callee (f := 71) rfl ?_); refine goesL_ (some 28) rfl rfl Try.func71 (by kernel_rfl) rfl #[.slice Ao19 x7_1.length co19, .agg #[.int .i64 ((rd_T100 l1 x20_1).f0), .slice A543_1 ((rd_T100 l1 x20_1).f1).length c543_1, .int .i64 ((rd_T100 l1 x20_1).f2), .int .i64 ((rd_T100 l1 x20_1).f3), .int .i64 ((rd_T100 l1 x20_1).f4)]] rfl z1_ ?_; (with_reducible refine (impl_ApplyOp.calls k1 _ _ x7_1 ((rd_T100 l1 x20_1).f0) _ _ ((rd_T100 l1 x20_1).f1) ((rd_T100 l1 x20_1).f2) ((rd_T100 l1 x20_1).f3) ((rd_T100 l1 x20_1).f4) t545 t548 _ ?side1 ?side2 ?side3 ?side4 A11.out).mono ?_); (case side1 => refine (Kd.R_reads' (e := 45) (base := w.heap.size) (ok := fun k_ => True) (n := x7_1.length) (c := co19) ?_).2.2; exact z17_); (case side2 => exact z153_); (case side3 => exact z107_); (case side4 => exact HC543_1.out); rintro e w20 ⟨v546, rfl, ho0, hb⟩; refine ⟨_, rfl, ?_⟩; have HO547 := Aside0.mk (Kd.R_lower (Kd.R_new' ho0 (Kd.R_lt z17_)) (below_size z54_)); replace HO_7 := Aside0.mk (Kd.R_elder' z17_ (Kd.R_base ho0) hb); replace BK544 := Aside0.mk (blk_below (g := gb544) (o := .cells #[.int .i64 ((rd_T100 l1 x20_1).f0), .slice A543_1 ((rd_T100 l1 x20_1).f1).length c543_1, .int .i64 ((rd_T100 l1 x20_1).f2), .int .i64 ((rd_T100 l1 x20_1).f3), .int .i64 ((rd_T100 l1 x20_1).f4)] 100 (0, 0)) z30_ hb); replace HB := Aside0.mk (below_step z54_ hb); (try clear hb ho0)))
      go_ret3
      exact ⟨_, z3_, z132_, z54_⟩
    ·rw [if_neg c8] at H
     have c8b0 := decide_eq_false c8
     clear c8
     simp only [Option.some.injEq, Prod.mk.injEq] at H
     obtain ⟨rfl, rfl, rfl⟩ := H
     go_wp2
     go_ret3
     exact ⟨_, z3_, z74_, z0_⟩
 ·replace c4 := Bool.eq_false_iff.mpr c4
  subst c4
  replace H := iff_ H
  first | ((with_reducible have hz_ := gy_ H); obtain ⟨y537, Ny537, H⟩ := hz_) | (generalize hy_ : ((([] : List (S45))) : List (S45)) = y537 at H; have Ny537 := Aside0.mk hy_.symm; clear hy_)
  simp only [Option.some.injEq, Prod.mk.injEq] at H
  obtain ⟨rfl, rfl, rfl⟩ := H
  go_enter Try.func35, Try.ntmps35
  go_wp2_with (first | ((with_reducible refine gate_callee (f := 40) rfl ?_); refine goesL_ (some 13) rfl rfl Try.func40 (by kernel_rfl) rfl #[.slice A0 l0.length c0] rfl z1_ ?_; (with_reducible refine (impl_TreeOk.calls k _ _ l0 false _ ?side1 ?side2 A3.out).mono ?_); (case side1 => exact z24_); (case side2 => exact HC0.out); rintro e w21 ⟨rfl, hb⟩; refine ⟨_, rfl, ?_⟩; replace HB := Aside0.mk (below_step z0_ hb); (try clear hb)) | ((with_reducible refine gate_dst (N := 15) rfl ?_); refine Kd.R_lit k45 _ 45 ?hg (N := 15) ?hd (xs := ([] : List (S45))) (inner := []) (ok := fun _ => True) (okp := fun _ => True) ?hr ?hp (fun _ hk => hk) trivial (Below.refl _ _) (Nat.le_refl _) (by simp) ?_; (case hd => rfl); (case hg => rfl); (case hr => exact z10_); (case hp => exact z75_); intro v538 w22 ho23 hb hg_ hnew_; clear hg_ hnew_; (first | rw [← Ny537.out] at ho23 | (simp only [Int.reduceToNat] at ho23; rw [← Ny537.out] at ho23)); have HO539 := Aside0.mk (Kd.R_lower ho23 (below_size z0_)); replace HB := Aside0.mk (below_step z0_ hb); clear hb ho23))
  go_ret3
  exact ⟨_, z3_, by (with_reducible repeat (first | apply Kd.R_alloc | apply Kd.R_drewN | apply Kd.R_drew)); exact HO539.out, z0_⟩

/-! ### impl_Var: function 72 -/
def impl_Var.l0 : Nat → Int → List Int → Option (ByteArray)
 | 0, _, _ => none
 | k + 1, x0, x3 => if x0 > 127 then (if x3.length < 140737488355328 then (impl_Var.l0 k (x0 / 128) (x3 ++ [Go.bits .or .u8 ((Go.bits .and .i64 x0 127) % 256) 128])) else (none)) else (if x3.length < 140737488355328 then (some (strOfNums (x3 ++ [(x0) % 256]))) else (none))
def impl_Var.f (k : Nat) (a0 : Int) : Option (ByteArray) := (impl_within.f a0 0 562949953421311).bind fun t549 => (if t549 = true then (impl_Var.l0 k a0 (([] : List Int))) else (some (⟨#[]⟩ : ByteArray)))
set_option maxHeartbeats 8000000 in
set_option maxRecDepth 100000 in
theorem impl_Var.calls (k : Nat) (a0 : Int) (r : ByteArray) (w : World) (h : impl_Var.f k a0 = some r) :
  Calls Try.prog 72 #[.int .i64 a0] w fun e w' => e = .returned (.string r) ∧ Below w.heap.size w w' := by
 have HB := Aside0.mk (Below.refl w.heap.size w)
 have H : ((impl_within.f a0 0 562949953421311).bind fun t549 => (if t549 = true then (impl_Var.l0 k a0 (([] : List Int))) else (some (⟨#[]⟩ : ByteArray)))) = some r := h
 clear h
 obtain ⟨t549, A2, H⟩ := bnd_ H
 by_cases c3 : t549 = true
 ·subst c3
  replace H := ift_ H
  first | ((with_reducible have hz_ := gy_ H); obtain ⟨y550, Ny550, H⟩ := hz_) | (generalize hy_ : ((([] : List Int)) : List Int) = y550 at H; have Ny550 := Aside0.mk hy_.symm; clear hy_)
  have H' := Aside0.mk H
  clear H
  go_enter Try.func72, Try.ntmps72
  go_wp2_with (first | ((with_reducible refine gate_callee (f := 67) rfl ?_); refine goesL_ (some 5) rfl rfl Try.func67 (by kernel_rfl) rfl #[.int .i64 a0, .int .i64 0, .int .i64 562949953421311] rfl z1_ ?_; (with_reducible refine (impl_within.calls a0 0 562949953421311 true _ A2.out).mono ?_); rintro e w' ⟨rfl, ⟨nd, rfl⟩⟩; refine ⟨_, rfl, ?_⟩) | ((with_reducible refine gate_dst (N := 7) rfl ?_); refine Kd.R_lit (Kd.int .u8) _ 5 ?hg (N := 7) ?hd (xs := ([] : List Int)) (inner := []) (ok := fun _ => True) (okp := fun _ => True) ?hr ?hp (fun _ hk => hk) trivial (Below.refl _ _) (Nat.le_refl _) (by simp) ?_; (case hd => rfl); (case hg => rfl); (case hr => exact z10_); (case hp => exact z75_); intro v551 w4 ho5 hb hg_ hnew_; clear hg_ hnew_; (first | rw [← Ny550.out] at ho5 | (simp only [Int.reduceToNat] at ho5; rw [← Ny550.out] at ho5)); have HO552 := Aside0.mk (Kd.R_lower ho5 (below_size z0_)); replace HB := Aside0.mk (below_step z0_ hb); clear hb ho5))
  go_loopg [0, 3] k (fun kq v0 v3 w' => ∃ (x0_1 : Int) (x3_1 : List Int), v0 = .int .i64 x0_1 ∧ Aside0 (impl_Var.l0 kq x0_1 x3_1 = some r) ∧ Aside0 (kq ≤ k) ∧ Aside0 (Kd.R (Kd.int .u8) 5 w' w.heap.size (fun _ => True) v3 x3_1) ∧ Aside0 (Below w.heap.size w w'))
  case atStart => exact ⟨(a0), (y550), z8_, H', ⟨Nat.le_refl _⟩, ⟨by (with_reducible repeat (first | apply Kd.R_alloc | apply Kd.R_drewN | apply Kd.R_drew)); exact HO552.out⟩, ⟨z0_⟩⟩
  case round =>
   clear H'
   try clear p2
   try clear c3
   obtain ⟨x0_1, x3_1, rfl, HA, HK1, HO_3, HB⟩ := hrel
   cases gk with
   | zero => exact absurd HA.out (by simp [impl_Var.l0])
   | succ k1 =>
    have H := HA.out
    clear HA
    simp only [impl_Var.l0] at H
    by_cases c6 : x0_1 > 127
    ·rw [if_pos c6] at H
     have c6b0 := decide_eq_true c6
     clear c6
     obtain ⟨c7, H⟩ := ifs_ H
     have LMc7 := Aside0.mk c7
     clear c7
     first | ((with_reducible have hz_ := gy_ H); obtain ⟨y553, Ny553, H⟩ := hz_) | (generalize hy_ : ((x3_1 ++ [Go.bits .or .u8 ((Go.bits .and .i64 x0_1 127) % 256) 128]) : List Int) = y553 at H; have Ny553 := Aside0.mk hy_.symm; clear hy_)
     have H' := Aside0.mk H
     clear H
     go_wp2_with (first | ((with_reducible refine gate_builtin (b := .append) (xs := #[.tmp 10, .tmp 15]) rfl ?_); at_builtin; refine Kd.R_append (Kd.int .u8) (w0 := w) w.heap.size rfl (.tmp 10) (.tmp 15) 28 5 (.int .u8 0) 1 rfl Try.underlying28 info5 rfl (by decide) (by omega) u3 x3_1 (Go.bits .or .u8 ((Go.bits .and .i64 x0_1 127) % 256) 128) [.int .u8 (Go.bits .or .u8 ((Go.bits .and .i64 x0_1 127) % 256) 128)] (fun _ => True) (fun _ => False) rfl rfl ?aP (fun _ hk => hk.elim) ?aF ?aO ?aB ?aS ?aL ?_; (case aP => exact rfl); (case aB => exact z16_); (case aF => exact z87_); (case aO => exact z98_); (case aS => exact z11_); (case aL => have := LMc7.out; omega); intro v554 w8 ho hb hg hat; rw [← Ny553.out] at ho; replace HB := Aside0.mk (hb); have HO555 := Aside0.mk (ho); clear HO_3; clear ho hb hg hat))
     go_roundg k1
     case measure => have := HK1.out; omega
     case rel => exact ⟨(x0_1 / 128), (y553), z8_, H', ⟨z93_⟩, ⟨by (with_reducible repeat (first | apply Kd.R_alloc | apply Kd.R_drewN | apply Kd.R_drew)); exact HO555.out⟩, ⟨z0_⟩⟩
    ·rw [if_neg c6] at H
     have c6b0 := decide_eq_false c6
     clear c6
     obtain ⟨c9, H⟩ := ifs_ H
     have LMc9 := Aside0.mk c9
     clear c9
     first | ((with_reducible have hz_ := gy_ H); obtain ⟨y556, Ny556, H⟩ := hz_) | (generalize hy_ : ((x3_1 ++ [(x0_1) % 256]) : List Int) = y556 at H; have Ny556 := Aside0.mk hy_.symm; clear hy_)
     obtain rfl := Option.some.inj H
     go_wp2_with (first | ((with_reducible refine gate_builtin (b := .append) (xs := #[.tmp 19, .tmp 22]) rfl ?_); at_builtin; refine Kd.R_append (Kd.int .u8) (w0 := w) w.heap.size rfl (.tmp 19) (.tmp 22) 28 5 (.int .u8 0) 1 rfl Try.underlying28 info5 rfl (by decide) (by omega) u3 x3_1 ((x0_1) % 256) [.int .u8 ((x0_1) % 256)] (fun _ => True) (fun _ => False) rfl rfl ?aP (fun _ hk => hk.elim) ?aF ?aO ?aB ?aS ?aL ?_; (case aP => exact rfl); (case aB => exact z16_); (case aF => exact z87_); (case aO => exact z98_); (case aS => exact z11_); (case aL => have := LMc9.out; omega); intro v557 w10 ho hb hg hat; rw [← Ny556.out] at ho; replace HB := Aside0.mk (hb); have HO558 := Aside0.mk (ho); clear HO_3; clear ho hb hg hat; have hcv11 := own_string (P := Try.prog) Try.underlying28 Try.underlying5 Try.underlying9 (Kd.own_of_R HO558.out)))
     go_ret
     exact ⟨z3_, z0_⟩
 ·replace c3 := Bool.eq_false_iff.mpr c3
  subst c3
  replace H := iff_ H
  obtain rfl := Option.some.inj H
  go_enter Try.func72, Try.ntmps72
  go_wp2_with (first | ((with_reducible refine gate_callee (f := 67) rfl ?_); refine goesL_ (some 5) rfl rfl Try.func67 (by kernel_rfl) rfl #[.int .i64 a0, .int .i64 0, .int .i64 562949953421311] rfl z1_ ?_; (with_reducible refine (impl_within.calls a0 0 562949953421311 false _ A2.out).mono ?_); rintro e w' ⟨rfl, ⟨nd, rfl⟩⟩; refine ⟨_, rfl, ?_⟩))
  go_ret
  exact ⟨z3_, z0_⟩

/-! ### impl_PutTree: function 36 -/
def impl_PutTree.l0 : Nat → ByteArray → List (S45) → Int → Int → Option (ByteArray)
 | 0, _, _, _, _ => none
 | k + 1, x3, x12, x13, x14 => if x14 < x13 then (if 0 ≤ x14 then (if x14 < (x12.length : Int) then ((impl_Var.f k ((rd_T45 x12 x14).f0)).bind fun t563 => ((impl_Var.f k ((rd_T45 x12 x14).f1)).bind fun t564 => (if t563.size + t564.size ≤ 9223372036854775807 then (if x3.size + (t563 ++ t564).size ≤ 9223372036854775807 then (impl_PutTree.l0 k (x3 ++ (t563 ++ t564)) x12 x13 (wrap64 (x14 + 1))) else (none)) else (none)))) else (none)) else (none)) else (some x3)
def impl_PutTree.f (k : Nat) (l0 : List (S45)) : Option (ByteArray) := (impl_TreeOk.f k l0).bind fun t559 => (if t559 = true then ((impl_Var.f k (l0.length : Int)).bind fun t560 => (impl_PutTree.l0 k t560 l0 (l0.length : Int) 0)) else (some (⟨#[]⟩ : ByteArray)))
def impl_PutTree.T7 : Bool × List (List Nat × List Nat) := (true, [([], []), ([], []), ([1], [1]), ([2], [2]), ([], []), ([4], [4]), ([5, 3], [5]), ([3, 6], [3, 6]), ([0, 7], [0, 7]), ([8, 6, 0, 1, 2, 3, 4, 5, 6, 7, 8], [0, 8])])
def impl_PutTree.B7 : List Nat := [0, 0, 2, 6, 0, 16, 62, 126, 255, 511]
theorem impl_PutTree.tab7 : rtab .any (opsOf Try.f36 7) = impl_PutTree.T7 := by kernel_rfl
theorem impl_PutTree.bits7 : waitsOk impl_PutTree.T7.2 impl_PutTree.B7 = true := by kernel_rfl
set_option maxHeartbeats 8000000 in
set_option maxRecDepth 100000 in
theorem impl_PutTree.calls (k : Nat) (A0 : Option Addr) (c0 : Nat) (l0 : List (S45)) (r : ByteArray) (w : World) (hr0 : Kd.C k45 w A0 l0.length l0) (hc0 : l0.length ≤ c0) (h : impl_PutTree.f k l0 = some r) :
  Calls Try.prog 36 #[.slice A0 l0.length c0] w fun e w' => e = .returned (.string r) ∧ Below w.heap.size w w' := by
 have hu45 := Try.underlying45
 have HR0 := Aside0.mk hr0
 have HC0 := Aside0.mk hc0
 clear hr0 hc0
 have HB := Aside0.mk (Below.refl w.heap.size w)
 have H : ((impl_TreeOk.f k l0).bind fun t559 => (if t559 = true then ((impl_Var.f k (l0.length : Int)).bind fun t560 => (impl_PutTree.l0 k t560 l0 (l0.length : Int) 0)) else (some (⟨#[]⟩ : ByteArray)))) = some r := h
 clear h
 obtain ⟨t559, A2, H⟩ := bnd_ H
 by_cases c3 : t559 = true
 ·subst c3
  replace H := ift_ H
  obtain ⟨t560, A4, H⟩ := bnd_ H
  have H' := Aside0.mk H
  clear H
  go_enter Try.func36, Try.ntmps36
  go_wp2_with (first | ((with_reducible refine gate_callee (f := 40) rfl ?_); refine goesL_ (some 7) rfl rfl Try.func40 (by kernel_rfl) rfl #[.slice A0 l0.length c0] rfl z1_ ?_; (with_reducible refine (impl_TreeOk.calls k _ _ l0 true _ ?side1 ?side2 A2.out).mono ?_); (case side1 => exact z24_); (case side2 => exact HC0.out); rintro e w5 ⟨rfl, hb⟩; refine ⟨_, rfl, ?_⟩; replace HB := Aside0.mk (below_step z0_ hb); (try clear hb)) | ((with_reducible refine gate_callee (f := 72) rfl ?_); refine goesL_ (some 11) rfl rfl Try.func72 (by kernel_rfl) rfl #[.int .i64 (l0.length : Int)] rfl z1_ ?_; (with_reducible refine (impl_Var.calls k (l0.length : Int) t560 _ A4.out).mono ?_); rintro e w6 ⟨rfl, hb⟩; refine ⟨_, rfl, ?_⟩; replace HB := Aside0.mk (below_step z0_ hb); (try clear hb)))
  go_loopg [3, 14] k (fun kq v3 v14 w' => ∃ (x3_1 : ByteArray) (x14_1 : Int), v3 = .string x3_1 ∧ v14 = .int .i64 x14_1 ∧ Aside0 (impl_PutTree.l0 kq x3_1 l0 (l0.length : Int) x14_1 = some r) ∧ Aside0 (kq ≤ k) ∧ Aside0 (Below w.heap.size w w'))
  case atStart => exact ⟨(t560), (0), z8_, z8_, H', ⟨Nat.le_refl _⟩, ⟨z0_⟩⟩
  case round =>
   clear H'
   try clear p2
   try clear c3
   try clear c4
   obtain ⟨x3_1, x14_1, rfl, rfl, HA, HK1, HB⟩ := hrel
   cases gk with
   | zero => exact absurd HA.out (by simp [impl_PutTree.l0])
   | succ k1 =>
    have H := HA.out
    clear HA
    simp only [impl_PutTree.l0] at H
    by_cases c7 : x14_1 < (l0.length : Int)
    ·rw [if_pos c7] at H
     have c7b0 := decide_eq_true c7
     clear c7
     obtain ⟨c8b0, H⟩ := ifd_ H
     obtain ⟨c9b0, H⟩ := ifd_ H
     obtain ⟨t563, A10, H⟩ := bnd_ H
     obtain ⟨t564, A11, H⟩ := bnd_ H
     obtain ⟨c12, H⟩ := ifs_ H
     have c12b0 := eq_true c12
     have c12b1 := decide_eq_true c12
     try have c12b2 : (9223372036854775807 < t563.size + t564.size) = False := eq_false (Nat.not_lt.2 c12)
     obtain ⟨c13, H⟩ := ifs_ H
     have c13b0 := eq_true c13
     have c13b1 := decide_eq_true c13
     try have c13b2 : (9223372036854775807 < x3_1.size + (t563 ++ t564).size) = False := eq_false (Nat.not_lt.2 c13)
     have c13s : x3_1.size + (t563.size + t564.size) ≤ 9223372036854775807 := by have e_ := c13; simp only [ByteArray.size_append] at e_; exact e_
     have c13sb : (9223372036854775807 < x3_1.size + (t563.size + t564.size)) = False := eq_false (Nat.not_lt.2 c13s)
     have H' := Aside0.mk H
     clear H
     obtain ⟨p561, q561, ad561, e561, hx561_0, hx561_1⟩ := atb45_ HR0 HB x14_1
     cases e561
     try go_wp2_with (first | ((with_reducible refine gate_dst (N := 5) rfl ?_); refine box_event ?hg (N := 5) ?hd (cs := #[.int .i64 0, .int .i64 0]) (t := 45) ?hr ?_; (case hd => rfl); (case hg => rfl); (case hr => exact z10_); intro gb562 hg w14 hbox hb; have BK562 := Aside0.mk (hbox); have GW562 := Aside0.mk ((by rw [hg]; exact (below_size z0_) : w.heap.size ≤ gb562)); have GE562 := Aside0.mk ((by rw [hg]; exact (below_size z0_) : w.heap.size ≤ gb562)); replace HB := Aside0.mk (below_step z0_ hb); clear hb hbox hg; obtain ⟨hcz15_0, hcz15_1, hfz15_0, hfz15_1⟩ := bx2_ BK562.out))
     have n0_ : Aside0 (((w14.setCell ⟨gb562, 0, none⟩ (.int .i64 ((rd_T45 l0 x14_1).f0))).setCell ⟨gb562, 1, none⟩ (.int .i64 ((rd_T45 l0 x14_1).f1))).heap[gb562]? = some (.cells #[.int .i64 ((rd_T45 l0 x14_1).f0), .int .i64 ((rd_T45 l0 x14_1).f1)] 45 (0, 0))) := ⟨by (with_reducible repeat (first | refine blk_drewN ?_ _ | refine blk_drew ?_ | refine blk_alloc ?_ _)); refine blk_put (cs := #[.int .i64 ((rd_T45 l0 x14_1).f0), .int .i64 0]) ?_ 1 _ rfl; (with_reducible repeat (first | refine blk_drewN ?_ _ | refine blk_drew ?_ | refine blk_alloc ?_ _)); refine blk_put (cs := #[.int .i64 0, .int .i64 0]) ?_ 0 _ rfl; (with_reducible repeat (first | refine blk_drewN ?_ _ | refine blk_drew ?_ | refine blk_alloc ?_ _)); exact BK562.out⟩
     have n1_ : Aside0 (Below w.heap.size w ((w14.setCell ⟨gb562, 0, none⟩ (.int .i64 ((rd_T45 l0 x14_1).f0))).setCell ⟨gb562, 1, none⟩ (.int .i64 ((rd_T45 l0 x14_1).f1)))) := ⟨z85_⟩
     (try clear BK562)
     (try clear HB)
     generalize ((w14.setCell ⟨gb562, 0, none⟩ (.int .i64 ((rd_T45 l0 x14_1).f0))).setCell ⟨gb562, 1, none⟩ (.int .i64 ((rd_T45 l0 x14_1).f1))) = w16 at n0_ n1_ ⊢
     have BK562 := n0_
     have HB := n1_
     clear n0_ n1_
     have n0_ := Aside0.mk (blk_drew BK562.out)
     have n1_ := Aside0.mk (below_drew1 HB.out)
     clear BK562
     clear HB
     have BK562 := n0_
     have HB := n1_
     clear n0_ n1_
     refine start_ (n := 10) (S := fun w' => w'.cell? ⟨gb562, 0, none⟩ = some (.int .i64 ((rd_T45 l0 x14_1).f0)) ∧ w'.cell? ⟨gb562, 1, none⟩ = some (.int .i64 ((rd_T45 l0 x14_1).f1))) (ds := []) (fl_ 10 0) (by kernel_rfl) rfl (fl_zero _) ⟨(blk_cell BK562.out 0).trans rfl, (blk_cell BK562.out 1).trans rfl⟩ (fun hHeld => ?_); refine with_tabW impl_PutTree.tab7 impl_PutTree.bits7 (fun HT_ HW_ => ?_)
     generalize w16.drew = w17 at BK562 HB hHeld ⊢
     iterate 2 refine zp_ HT_ rfl rfl (by kernel_rfl) (fun _ _ _ h => h) (by rfl) ?_
     refine zpg_ (i := 4) (ra_ [2, 2, 1, 5]) HT_ rfl rfl (by kernel_rfl) (fun _ _ _ h => h) (by rfl) ?_
     refine ztg_ (i := 2) (ra_ [3, 1, 1, 5]) HT_ HW_ rfl rfl (by kernel_rfl) (fun _ _ _ h => h) (by rfl) hHeld ?_ z79_
     refine ztg_ (i := 5) (ra_ [3, 1, 2, 4]) HT_ HW_ rfl rfl (by kernel_rfl) (fun _ _ _ h => h) (by rfl) hHeld ?_ z79_
     refine one_ (i := 3) (N := some 21) (fl_ 10 6) rfl rfl (one_of HT_.out (by kernel_rfl)) (by decide) (fun K hK => ?_)
     refine goes_ Try.func72 (by kernel_rfl) rfl #[.int .i64 ((rd_T45 l0 x14_1).f0)] (by rfl) rfl rfl z1_ ?_
     with_reducible refine (impl_Var.calls k1 ((rd_T45 l0 x14_1).f0) t563 _ A10.out).mono ?_
     rintro e w18 ⟨rfl, hb⟩
     refine ⟨_, rfl, ?_⟩
     have n0_ := Aside0.mk (blk_below (g := gb562) (o := .cells #[.int .i64 ((rd_T45 l0 x14_1).f0), .int .i64 ((rd_T45 l0 x14_1).f1)] 45 (0, 0)) z135_ hb)
     have n1_ := Aside0.mk (below_step z85_ hb)
     clear BK562
     clear HB
     have BK562 := n0_
     have HB := n1_
     clear n0_ n1_
     (try clear hb)
     (try clear hb2)
     (try clear hk)
     (try clear hi)
     refine hK.out _ _ ⟨(blk_cell BK562.out 0).trans rfl, (blk_cell BK562.out 1).trans rfl⟩ (fun hHeld => ?_)
     clear hK K
     refine zn_ rfl ?_
     refine one_ (i := 6) (N := some 24) (fl_ 10 7) rfl rfl (one_of HT_.out (by kernel_rfl)) (by decide) (fun K hK => ?_)
     refine goes_ Try.func72 (by kernel_rfl) rfl #[.int .i64 ((rd_T45 l0 x14_1).f1)] (by rfl) rfl rfl z1_ ?_
     with_reducible refine (impl_Var.calls k1 ((rd_T45 l0 x14_1).f1) t564 _ A11.out).mono ?_
     rintro e w19 ⟨rfl, hb⟩
     refine ⟨_, rfl, ?_⟩
     have n0_ := Aside0.mk (blk_below (g := gb562) (o := .cells #[.int .i64 ((rd_T45 l0 x14_1).f0), .int .i64 ((rd_T45 l0 x14_1).f1)] 45 (0, 0)) z135_ hb)
     have n1_ := Aside0.mk (below_step z85_ hb)
     clear BK562
     clear HB
     have BK562 := n0_
     have HB := n1_
     clear n0_ n1_
     (try clear hb)
     (try clear hb2)
     (try clear hk)
     (try clear hi)
     refine hK.out _ _ ⟨(blk_cell BK562.out 0).trans rfl, (blk_cell BK562.out 1).trans rfl⟩ (fun hHeld => ?_)
     clear hK K
     refine zn_ rfl ?_
     iterate 3 refine zp_ HT_ rfl rfl (by kernel_rfl) (fun _ _ _ h => h) (by rfl) ?_
     refine done_ (done_of HT_.out (by kernel_rfl)) ?_
     try go_wp2
     go_roundg k1
     case measure => have := HK1.out; omega
     case rel => exact ⟨(x3_1 ++ (t563 ++ t564)), (wrap64 (x14_1 + 1)), z8_, z8_, H', ⟨z93_⟩, ⟨z85_⟩⟩
    ·rw [if_neg c7] at H
     have c7b0 := decide_eq_false c7
     clear c7
     obtain rfl := Option.some.inj H
     go_wp2
     go_ret
     exact ⟨z3_, z0_⟩
 ·replace c3 := Bool.eq_false_iff.mpr c3
  subst c3
  replace H := iff_ H
  obtain rfl := Option.some.inj H
  go_enter Try.func36, Try.ntmps36
  go_wp2_with (first | ((with_reducible refine gate_callee (f := 40) rfl ?_); refine goesL_ (some 7) rfl rfl Try.func40 (by kernel_rfl) rfl #[.slice A0 l0.length c0] rfl z1_ ?_; (with_reducible refine (impl_TreeOk.calls k _ _ l0 false _ ?side1 ?side2 A2.out).mono ?_); (case side1 => exact z24_); (case side2 => exact HC0.out); rintro e w20 ⟨rfl, hb⟩; refine ⟨_, rfl, ?_⟩; replace HB := Aside0.mk (below_step z0_ hb); (try clear hb)))
  go_ret
  exact ⟨z3_, z0_⟩

/-! ### impl_Patch: function 7 -/
def impl_Patch.f (k : Nat) (a0 : ByteArray) (a1 : ByteArray) : Option (ByteArray × Int × Int × Int) := (impl_GetTree.f k a0).bind fun bt566 => ((impl_GetScript.f k a1).bind fun bt570 => (if bt566.2 = 0 then (if bt570.2 = 0 then ((impl_ApplyAll.f k bt566.1 bt570.1).bind fun bt574 => (if bt574.2.2 = 0 then ((impl_PutTree.f k bt574.1).bind fun t579 => (some (t579, 0, 0, 0))) else (some ((⟨#[]⟩ : ByteArray), 5, bt574.2.2, bt574.2.1)))) else (some ((⟨#[]⟩ : ByteArray), 4, bt570.2, 0))) else (some ((⟨#[]⟩ : ByteArray), 1, bt566.2, 0))))
set_option maxHeartbeats 8000000 in
set_option maxRecDepth 100000 in
theorem impl_Patch.calls (k : Nat) (a0 : ByteArray) (a1 : ByteArray) (r1 : ByteArray) (r2 : Int) (r3 : Int) (r4 : Int) (w : World) (h : impl_Patch.f k a0 a1 = some (r1, r2, r3, r4)) :
  Calls Try.prog 7 #[.string a0, .string a1] w fun e w' => e = .returned (.tuple #[.string r1, .agg #[.int .i64 r2, .int .i64 r3, .int .i64 r4]]) ∧ Below w.heap.size w w' := by
 have hu23 := Try.underlying23
 have HB := Aside0.mk (Below.refl w.heap.size w)
 have H : ((impl_GetTree.f k a0).bind fun bt566 => ((impl_GetScript.f k a1).bind fun bt570 => (if bt566.2 = 0 then (if bt570.2 = 0 then ((impl_ApplyAll.f k bt566.1 bt570.1).bind fun bt574 => (if bt574.2.2 = 0 then ((impl_PutTree.f k bt574.1).bind fun t579 => (some (t579, 0, 0, 0))) else (some ((⟨#[]⟩ : ByteArray), 5, bt574.2.2, bt574.2.1)))) else (some ((⟨#[]⟩ : ByteArray), 4, bt570.2, 0))) else (some ((⟨#[]⟩ : ByteArray), 1, bt566.2, 0))))) = some (r1, r2, r3, r4) := h
 clear h
 replace H := Option.bind_eq_some_iff.mp H
 obtain ⟨⟨t566, t567⟩, A30, H⟩ := H
 try dsimp only at H
 have A3 := Aside0.mk A30
 clear A30
 replace H := Option.bind_eq_some_iff.mp H
 obtain ⟨⟨t570, t571⟩, A40, H⟩ := H
 try dsimp only at H
 have A4 := Aside0.mk A40
 clear A40
 by_cases c5 : t567 = 0
 ·rw [if_pos c5] at H
  have c5b0 : (t567 == 0) = true := beq_iff_eq.mpr c5
  have c5b1 : (t567 != 0) = false := bne_eq_false_iff_eq.mpr c5
  clear c5
  by_cases c6 : t571 = 0
  ·rw [if_pos c6] at H
   have c6b0 : (t571 == 0) = true := beq_iff_eq.mpr c6
   have c6b1 : (t571 != 0) = false := bne_eq_false_iff_eq.mpr c6
   clear c6
   replace H := Option.bind_eq_some_iff.mp H
   obtain ⟨⟨t574, t575, t576⟩, A70, H⟩ := H
   try dsimp only at H
   have A7 := Aside0.mk A70
   clear A70
   by_cases c8 : t576 = 0
   ·rw [if_pos c8] at H
    have c8b0 : (t576 == 0) = true := beq_iff_eq.mpr c8
    have c8b1 : (t576 != 0) = false := bne_eq_false_iff_eq.mpr c8
    clear c8
    obtain ⟨t579, A9, H⟩ := bnd_ H
    simp only [Option.some.injEq, Prod.mk.injEq] at H
    obtain ⟨rfl, rfl, rfl, rfl⟩ := H
    go_enter Try.func7, Try.ntmps7
    go_wp2_with (first | ((with_reducible refine gate_dst (N := 5) rfl ?_); refine box_event ?hg (N := 5) ?hd (cs := #[.int .i64 0, .int .i64 0, .int .i64 0]) (t := 23) ?hr ?_; (case hd => rfl); (case hg => rfl); (case hr => exact z10_); intro gb565 hg w10 hbox hb; have BK565 := Aside0.mk (hbox); have GW565 := Aside0.mk ((by rw [hg]; exact (below_size z0_) : w.heap.size ≤ gb565)); have GE565 := Aside0.mk ((by rw [hg]; exact (below_size z0_) : w.heap.size ≤ gb565)); replace HB := Aside0.mk (below_step z0_ hb); clear hb hbox hg) | ((with_reducible refine gate_callee (f := 33) rfl ?_); refine goesL_ (some 15) rfl rfl Try.func33 (by kernel_rfl) rfl #[.string a0] rfl z1_ ?_; (with_reducible refine (impl_GetTree.calls k a0 t566 t567 _ A3.out).mono ?_); rintro e w11 ⟨v568, rfl, ho0, hb⟩; refine ⟨_, rfl, ?_⟩; have HO569 := Aside0.mk (Kd.R_lower ho0 (below_size z15_)); replace BK565 := Aside0.mk (blk_below (g := gb565) (o := .cells #[.int .i64 0, .int .i64 0, .int .i64 0] 23 (0, 0)) z55_ hb); replace HB := Aside0.mk (below_step z15_ hb); (try clear hb ho0)) | ((with_reducible refine gate_callee (f := 34) rfl ?_); refine goesL_ (some 20) rfl rfl Try.func34 (by kernel_rfl) rfl #[.string a1] rfl z1_ ?_; (with_reducible refine (impl_GetScript.calls k a1 t570 t571 _ A4.out).mono ?_); rintro e w12 ⟨v572, rfl, ho0, hb⟩; refine ⟨_, rfl, ?_⟩; replace HO569 := Aside0.mk (Kd.R_below z68_ hb); have HO573 := Aside0.mk (Kd.S_lower ho0 (below_size z15_)); replace BK565 := Aside0.mk (blk_below (g := gb565) (o := .cells #[.int .i64 0, .int .i64 0, .int .i64 0] 23 (0, 0)) z55_ hb); replace HB := Aside0.mk (below_step z15_ hb); (try clear hb ho0); obtain ⟨Ao13, co13, eo13⟩ := Kd.R_slice HO569.out; subst eo13; obtain ⟨Ao14, co14, eo14⟩ := Kd.S_slice HO573.out; subst eo14) | ((with_reducible refine gate_callee (f := 35) rfl ?_); refine goesL_ (some 36) rfl rfl Try.func35 (by kernel_rfl) rfl #[.slice Ao13 t566.length co13, .slice Ao14 t570.length co14] rfl z1_ ?_; (with_reducible refine (impl_ApplyAll.calls k _ _ t566 _ _ t570 t574 t575 t576 _ ?side1 ?side2 ?side3 ?side4 A7.out).mono ?_); (case side1 => exact z115_); (case side2 => exact (Kd.R_reads' HO569.out).2.1); (case side3 => exact z116_); (case side4 => exact (Kd.S_reads' HO573.out).2.1); rintro e w15 ⟨v577, rfl, ho0, hb⟩; refine ⟨_, rfl, ?_⟩; replace HO573 := Aside0.mk (Kd.S_below z123_ hb); have HO578 := Aside0.mk (Kd.R_lower (Kd.R_new' ho0 (Kd.R_lt z68_)) (below_size z15_)); replace HO569 := Aside0.mk (Kd.R_elder' z68_ (Kd.R_base ho0) hb); replace BK565 := Aside0.mk (blk_below (g := gb565) (o := .cells #[.int .i64 0, .int .i64 0, .int .i64 0] 23 (0, 0)) z55_ hb); replace HB := Aside0.mk (below_step z15_ hb); (try clear hb ho0); obtain ⟨Ao16, co16, eo16⟩ := Kd.R_slice HO578.out; subst eo16) | ((with_reducible refine gate_callee (f := 36) rfl ?_); refine goesL_ (some 46) rfl rfl Try.func36 (by kernel_rfl) rfl #[.slice Ao16 t574.length co16] rfl z1_ ?_; (with_reducible refine (impl_PutTree.calls k _ _ t574 t579 _ ?side1 ?side2 A9.out).mono ?_); (case side1 => repeat (first | exact (Kd.R_reads' HO578.out).2.2 | (with_reducible refine Kd.C_alloc ?_ _) | (with_reducible refine Kd.C_drewN ?_ _) | (with_reducible refine Kd.C_drew ?_))); (case side2 => exact (Kd.R_reads' HO578.out).2.1); rintro e w17 ⟨rfl, hb⟩; refine ⟨_, rfl, ?_⟩; replace HO569 := Aside0.mk (Kd.R_below z68_ hb); replace HO573 := Aside0.mk (Kd.S_below z123_ hb); replace HO578 := Aside0.mk (Kd.R_below (by (with_reducible repeat (first | apply Kd.R_alloc | apply Kd.R_drewN | apply Kd.R_drew)); exact HO578.out) hb); replace BK565 := Aside0.mk (blk_below (g := gb565) (o := .cells #[.int .i64 0, .int .i64 0, .int .i64 0] 23 (0, 0)) z55_ hb); replace HB := Aside0.mk (below_step z15_ hb); (try clear hb); obtain ⟨hcz18_0, hcz18_1, hcz18_2, hfz18_0, hfz18_1, hfz18_2⟩ := bx3_ BK565.out))
    refine bodyPost_ret (results_tc rfl _ _ gb565 23 #[.int .i64 0, .int .i64 0, .int .i64 0] (0, 0) _ rfl (by (with_reducible repeat (first | refine blk_drewN ?_ _ | refine blk_drew ?_ | refine blk_alloc ?_ _)); refine blk_put (cs := #[.int .i64 0, .int .i64 0, .int .i64 0]) ?_ 2 _ rfl; (with_reducible repeat (first | refine blk_drewN ?_ _ | refine blk_drew ?_ | refine blk_alloc ?_ _)); refine blk_put (cs := #[.int .i64 0, .int .i64 0, .int .i64 0]) ?_ 1 _ rfl; (with_reducible repeat (first | refine blk_drewN ?_ _ | refine blk_drew ?_ | refine blk_alloc ?_ _)); refine blk_put (cs := #[.int .i64 0, .int .i64 0, .int .i64 0]) ?_ 0 _ rfl; (with_reducible repeat (first | refine blk_drewN ?_ _ | refine blk_drew ?_ | refine blk_alloc ?_ _)); exact BK565.out) Try.underlying23 rfl (by kernel_rfl)) rfl ?_
    exact ⟨z3_, z15_⟩
   ·rw [if_neg c8] at H
    have c8b0 : (t576 == 0) = false := beq_eq_false_iff_ne.mpr c8
    have c8b1 : (t576 != 0) = true := bne_iff_ne.mpr c8
    simp only [Option.some.injEq, Prod.mk.injEq] at H
    obtain ⟨rfl, rfl, rfl, rfl⟩ := H
    go_enter Try.func7, Try.ntmps7
    go_wp2_with (first | ((with_reducible refine gate_dst (N := 5) rfl ?_); refine box_event ?hg (N := 5) ?hd (cs := #[.int .i64 0, .int .i64 0, .int .i64 0]) (t := 23) ?hr ?_; (case hd => rfl); (case hg => rfl); (case hr => exact z10_); intro gb565 hg w19 hbox hb; have BK565 := Aside0.mk (hbox); have GW565 := Aside0.mk ((by rw [hg]; exact (below_size z0_) : w.heap.size ≤ gb565)); have GE565 := Aside0.mk ((by rw [hg]; exact (below_size z0_) : w.heap.size ≤ gb565)); replace HB := Aside0.mk (below_step z0_ hb); clear hb hbox hg) | ((with_reducible refine gate_callee (f := 33) rfl ?_); refine goesL_ (some 15) rfl rfl Try.func33 (by kernel_rfl) rfl #[.string a0] rfl z1_ ?_; (with_reducible refine (impl_GetTree.calls k a0 t566 t567 _ A3.out).mono ?_); rintro e w20 ⟨v568, rfl, ho0, hb⟩; refine ⟨_, rfl, ?_⟩; have HO569 := Aside0.mk (Kd.R_lower ho0 (below_size z15_)); replace BK565 := Aside0.mk (blk_below (g := gb565) (o := .cells #[.int .i64 0, .int .i64 0, .int .i64 0] 23 (0, 0)) z55_ hb); replace HB := Aside0.mk (below_step z15_ hb); (try clear hb ho0)) | ((with_reducible refine gate_callee (f := 34) rfl ?_); refine goesL_ (some 20) rfl rfl Try.func34 (by kernel_rfl) rfl #[.string a1] rfl z1_ ?_; (with_reducible refine (impl_GetScript.calls k a1 t570 t571 _ A4.out).mono ?_); rintro e w21 ⟨v572, rfl, ho0, hb⟩; refine ⟨_, rfl, ?_⟩; replace HO569 := Aside0.mk (Kd.R_below z68_ hb); have HO573 := Aside0.mk (Kd.S_lower ho0 (below_size z15_)); replace BK565 := Aside0.mk (blk_below (g := gb565) (o := .cells #[.int .i64 0, .int .i64 0, .int .i64 0] 23 (0, 0)) z55_ hb); replace HB := Aside0.mk (below_step z15_ hb); (try clear hb ho0); obtain ⟨Ao22, co22, eo22⟩ := Kd.R_slice HO569.out; subst eo22; obtain ⟨Ao23, co23, eo23⟩ := Kd.S_slice HO573.out; subst eo23) | ((with_reducible refine gate_callee (f := 35) rfl ?_); refine goesL_ (some 36) rfl rfl Try.func35 (by kernel_rfl) rfl #[.slice Ao22 t566.length co22, .slice Ao23 t570.length co23] rfl z1_ ?_; (with_reducible refine (impl_ApplyAll.calls k _ _ t566 _ _ t570 t574 t575 t576 _ ?side1 ?side2 ?side3 ?side4 A7.out).mono ?_); (case side1 => exact z115_); (case side2 => exact (Kd.R_reads' HO569.out).2.1); (case side3 => exact z116_); (case side4 => exact (Kd.S_reads' HO573.out).2.1); rintro e w24 ⟨v577, rfl, ho0, hb⟩; refine ⟨_, rfl, ?_⟩; replace HO573 := Aside0.mk (Kd.S_below z123_ hb); have HO578 := Aside0.mk (Kd.R_lower (Kd.R_new' ho0 (Kd.R_lt z68_)) (below_size z15_)); replace HO569 := Aside0.mk (Kd.R_elder' z68_ (Kd.R_base ho0) hb); replace BK565 := Aside0.mk (blk_below (g := gb565) (o := .cells #[.int .i64 0, .int .i64 0, .int .i64 0] 23 (0, 0)) z55_ hb); replace HB := Aside0.mk (below_step z15_ hb); (try clear hb ho0); obtain ⟨hcz25_0, hcz25_1, hcz25_2, hfz25_0, hfz25_1, hfz25_2⟩ := bx3_ BK565.out))
    refine bodyPost_ret (results_tc rfl _ _ gb565 23 #[.int .i64 5, .int .i64 t576, .int .i64 t575] (0, 0) _ rfl (by (with_reducible repeat (first | refine blk_drewN ?_ _ | refine blk_drew ?_ | refine blk_alloc ?_ _)); refine blk_put (cs := #[.int .i64 5, .int .i64 t576, .int .i64 0]) ?_ 2 _ rfl; (with_reducible repeat (first | refine blk_drewN ?_ _ | refine blk_drew ?_ | refine blk_alloc ?_ _)); refine blk_put (cs := #[.int .i64 5, .int .i64 0, .int .i64 0]) ?_ 1 _ rfl; (with_reducible repeat (first | refine blk_drewN ?_ _ | refine blk_drew ?_ | refine blk_alloc ?_ _)); refine blk_put (cs := #[.int .i64 0, .int .i64 0, .int .i64 0]) ?_ 0 _ rfl; (with_reducible repeat (first | refine blk_drewN ?_ _ | refine blk_drew ?_ | refine blk_alloc ?_ _)); exact BK565.out) Try.underlying23 rfl (by kernel_rfl)) rfl ?_
    exact ⟨z3_, z15_⟩
  ·rw [if_neg c6] at H
   have c6b0 : (t571 == 0) = false := beq_eq_false_iff_ne.mpr c6
   have c6b1 : (t571 != 0) = true := bne_iff_ne.mpr c6
   simp only [Option.some.injEq, Prod.mk.injEq] at H
   obtain ⟨rfl, rfl, rfl, rfl⟩ := H
   go_enter Try.func7, Try.ntmps7
   go_wp2_with (first | ((with_reducible refine gate_dst (N := 5) rfl ?_); refine box_event ?hg (N := 5) ?hd (cs := #[.int .i64 0, .int .i64 0, .int .i64 0]) (t := 23) ?hr ?_; (case hd => rfl); (case hg => rfl); (case hr => exact z10_); intro gb565 hg w26 hbox hb; have BK565 := Aside0.mk (hbox); have GW565 := Aside0.mk ((by rw [hg]; exact (below_size z0_) : w.heap.size ≤ gb565)); have GE565 := Aside0.mk ((by rw [hg]; exact (below_size z0_) : w.heap.size ≤ gb565)); replace HB := Aside0.mk (below_step z0_ hb); clear hb hbox hg) | ((with_reducible refine gate_callee (f := 33) rfl ?_); refine goesL_ (some 15) rfl rfl Try.func33 (by kernel_rfl) rfl #[.string a0] rfl z1_ ?_; (with_reducible refine (impl_GetTree.calls k a0 t566 t567 _ A3.out).mono ?_); rintro e w27 ⟨v568, rfl, ho0, hb⟩; refine ⟨_, rfl, ?_⟩; have HO569 := Aside0.mk (Kd.R_lower ho0 (below_size z15_)); replace BK565 := Aside0.mk (blk_below (g := gb565) (o := .cells #[.int .i64 0, .int .i64 0, .int .i64 0] 23 (0, 0)) z55_ hb); replace HB := Aside0.mk (below_step z15_ hb); (try clear hb ho0)) | ((with_reducible refine gate_callee (f := 34) rfl ?_); refine goesL_ (some 20) rfl rfl Try.func34 (by kernel_rfl) rfl #[.string a1] rfl z1_ ?_; (with_reducible refine (impl_GetScript.calls k a1 t570 t571 _ A4.out).mono ?_); rintro e w28 ⟨v572, rfl, ho0, hb⟩; refine ⟨_, rfl, ?_⟩; replace HO569 := Aside0.mk (Kd.R_below z68_ hb); have HO573 := Aside0.mk (Kd.S_lower ho0 (below_size z15_)); replace BK565 := Aside0.mk (blk_below (g := gb565) (o := .cells #[.int .i64 0, .int .i64 0, .int .i64 0] 23 (0, 0)) z55_ hb); replace HB := Aside0.mk (below_step z15_ hb); (try clear hb ho0); obtain ⟨hcz29_0, hcz29_1, hcz29_2, hfz29_0, hfz29_1, hfz29_2⟩ := bx3_ BK565.out))
   refine bodyPost_ret (results_tc rfl _ _ gb565 23 #[.int .i64 4, .int .i64 t571, .int .i64 0] (0, 0) _ rfl (by (with_reducible repeat (first | refine blk_drewN ?_ _ | refine blk_drew ?_ | refine blk_alloc ?_ _)); refine blk_put (cs := #[.int .i64 4, .int .i64 t571, .int .i64 0]) ?_ 2 _ rfl; (with_reducible repeat (first | refine blk_drewN ?_ _ | refine blk_drew ?_ | refine blk_alloc ?_ _)); refine blk_put (cs := #[.int .i64 4, .int .i64 0, .int .i64 0]) ?_ 1 _ rfl; (with_reducible repeat (first | refine blk_drewN ?_ _ | refine blk_drew ?_ | refine blk_alloc ?_ _)); refine blk_put (cs := #[.int .i64 0, .int .i64 0, .int .i64 0]) ?_ 0 _ rfl; (with_reducible repeat (first | refine blk_drewN ?_ _ | refine blk_drew ?_ | refine blk_alloc ?_ _)); exact BK565.out) Try.underlying23 rfl (by kernel_rfl)) rfl ?_
   exact ⟨z3_, z15_⟩
 ·rw [if_neg c5] at H
  have c5b0 : (t567 == 0) = false := beq_eq_false_iff_ne.mpr c5
  have c5b1 : (t567 != 0) = true := bne_iff_ne.mpr c5
  simp only [Option.some.injEq, Prod.mk.injEq] at H
  obtain ⟨rfl, rfl, rfl, rfl⟩ := H
  go_enter Try.func7, Try.ntmps7
  go_wp2_with (first | ((with_reducible refine gate_dst (N := 5) rfl ?_); refine box_event ?hg (N := 5) ?hd (cs := #[.int .i64 0, .int .i64 0, .int .i64 0]) (t := 23) ?hr ?_; (case hd => rfl); (case hg => rfl); (case hr => exact z10_); intro gb565 hg w30 hbox hb; have BK565 := Aside0.mk (hbox); have GW565 := Aside0.mk ((by rw [hg]; exact (below_size z0_) : w.heap.size ≤ gb565)); have GE565 := Aside0.mk ((by rw [hg]; exact (below_size z0_) : w.heap.size ≤ gb565)); replace HB := Aside0.mk (below_step z0_ hb); clear hb hbox hg) | ((with_reducible refine gate_callee (f := 33) rfl ?_); refine goesL_ (some 15) rfl rfl Try.func33 (by kernel_rfl) rfl #[.string a0] rfl z1_ ?_; (with_reducible refine (impl_GetTree.calls k a0 t566 t567 _ A3.out).mono ?_); rintro e w31 ⟨v568, rfl, ho0, hb⟩; refine ⟨_, rfl, ?_⟩; have HO569 := Aside0.mk (Kd.R_lower ho0 (below_size z15_)); replace BK565 := Aside0.mk (blk_below (g := gb565) (o := .cells #[.int .i64 0, .int .i64 0, .int .i64 0] 23 (0, 0)) z55_ hb); replace HB := Aside0.mk (below_step z15_ hb); (try clear hb ho0)) | ((with_reducible refine gate_callee (f := 34) rfl ?_); refine goesL_ (some 20) rfl rfl Try.func34 (by kernel_rfl) rfl #[.string a1] rfl z1_ ?_; (with_reducible refine (impl_GetScript.calls k a1 t570 t571 _ A4.out).mono ?_); rintro e w32 ⟨v572, rfl, ho0, hb⟩; refine ⟨_, rfl, ?_⟩; replace HO569 := Aside0.mk (Kd.R_below z68_ hb); have HO573 := Aside0.mk (Kd.S_lower ho0 (below_size z15_)); replace BK565 := Aside0.mk (blk_below (g := gb565) (o := .cells #[.int .i64 0, .int .i64 0, .int .i64 0] 23 (0, 0)) z55_ hb); replace HB := Aside0.mk (below_step z15_ hb); (try clear hb ho0); obtain ⟨hcz33_0, hcz33_1, hcz33_2, hfz33_0, hfz33_1, hfz33_2⟩ := bx3_ BK565.out))
  refine bodyPost_ret (results_tc rfl _ _ gb565 23 #[.int .i64 1, .int .i64 t567, .int .i64 0] (0, 0) _ rfl (by (with_reducible repeat (first | refine blk_drewN ?_ _ | refine blk_drew ?_ | refine blk_alloc ?_ _)); refine blk_put (cs := #[.int .i64 1, .int .i64 t567, .int .i64 0]) ?_ 2 _ rfl; (with_reducible repeat (first | refine blk_drewN ?_ _ | refine blk_drew ?_ | refine blk_alloc ?_ _)); refine blk_put (cs := #[.int .i64 1, .int .i64 0, .int .i64 0]) ?_ 1 _ rfl; (with_reducible repeat (first | refine blk_drewN ?_ _ | refine blk_drew ?_ | refine blk_alloc ?_ _)); refine blk_put (cs := #[.int .i64 0, .int .i64 0, .int .i64 0]) ?_ 0 _ rfl; (with_reducible repeat (first | refine blk_drewN ?_ _ | refine blk_drew ?_ | refine blk_alloc ?_ _)); exact BK565.out) Try.underlying23 rfl (by kernel_rfl)) rfl ?_
  exact ⟨z3_, z15_⟩

/-! ### laws_eqFault: function 8 -/
def laws_eqFault.f (a0_0 : Int) (a0_1 : Int) (a0_2 : Int) (a1_0 : Int) (a1_1 : Int) (a1_2 : Int) : Option (Bool) := if a0_0 = a1_0 then (if a0_1 = a1_1 then (if a0_2 = a1_2 then (some true) else (some false)) else (some false)) else (some false)
set_option maxHeartbeats 8000000 in
set_option maxRecDepth 100000 in
theorem laws_eqFault.calls (a0_0 : Int) (a0_1 : Int) (a0_2 : Int) (a1_0 : Int) (a1_1 : Int) (a1_2 : Int) (r : Bool) (w : World) (h : laws_eqFault.f a0_0 a0_1 a0_2 a1_0 a1_1 a1_2 = some r) :
  Calls Try.prog 8 #[.agg #[.int .i64 a0_0, .int .i64 a0_1, .int .i64 a0_2], .agg #[.int .i64 a1_0, .int .i64 a1_1, .int .i64 a1_2]] w fun e w' => e = .returned (.bool r) ∧ Below w.heap.size w w' := by
 have hu23 := Try.underlying23
 have HB := Aside0.mk (Below.refl w.heap.size w)
 have H : (if a0_0 = a1_0 then (if a0_1 = a1_1 then (if a0_2 = a1_2 then (some true) else (some false)) else (some false)) else (some false)) = some r := h
 clear h
 by_cases c3 : a0_0 = a1_0
 ·rw [if_pos c3] at H
  have c3b0 : (a0_0 == a1_0) = true := beq_iff_eq.mpr c3
  have c3b1 : (a0_0 != a1_0) = false := bne_eq_false_iff_eq.mpr c3
  clear c3
  by_cases c4 : a0_1 = a1_1
  ·rw [if_pos c4] at H
   have c4b0 : (a0_1 == a1_1) = true := beq_iff_eq.mpr c4
   have c4b1 : (a0_1 != a1_1) = false := bne_eq_false_iff_eq.mpr c4
   clear c4
   by_cases c5 : a0_2 = a1_2
   ·rw [if_pos c5] at H
    have c5b0 : (a0_2 == a1_2) = true := beq_iff_eq.mpr c5
    have c5b1 : (a0_2 != a1_2) = false := bne_eq_false_iff_eq.mpr c5
    clear c5
    obtain rfl := Option.some.inj H
    go_enter Try.func8, Try.ntmps8
    go_wp2_with (first | ((with_reducible refine gate_dst (N := 2) rfl ?_); refine box_event ?hg (N := 2) ?hd (cs := #[.int .i64 a0_0, .int .i64 a0_1, .int .i64 a0_2]) (t := 23) ?hr ?_; (case hd => rfl); (case hg => rfl); (case hr => exact z10_); intro gb580 hg w6 hbox hb; have BK580 := Aside0.mk (hbox); have GW580 := Aside0.mk ((by rw [hg]; exact (below_size z0_) : w.heap.size ≤ gb580)); have GE580 := Aside0.mk ((by rw [hg]; exact (below_size z0_) : w.heap.size ≤ gb580)); replace HB := Aside0.mk (below_step z0_ hb); clear hb hbox hg) | ((with_reducible refine gate_dst (N := 3) rfl ?_); refine box_event ?hg (N := 3) ?hd (cs := #[.int .i64 a1_0, .int .i64 a1_1, .int .i64 a1_2]) (t := 23) ?hr ?_; (case hd => rfl); (case hg => rfl); (case hr => exact z10_); intro gb581 hg w7 hbox hb; have BK581 := Aside0.mk (hbox); have GW581 := Aside0.mk ((by rw [hg]; exact (below_size z39_) : w.heap.size ≤ gb581)); have GE581 := Aside0.mk ((by rw [hg]; exact (below_size z39_) : w.heap.size ≤ gb581)); replace HB := Aside0.mk (below_step z39_ hb); have NB580_581 := Aside0.mk ((by rw [hg]; exact Nat.ne_of_lt (blk_lt (g := gb580) (o := .cells #[.int .i64 a0_0, .int .i64 a0_1, .int .i64 a0_2] 23 (0, 0)) z49_) : gb580 ≠ gb581)); have NB581_580 := Aside0.mk ((by rw [hg]; exact Nat.ne_of_gt (blk_lt (g := gb580) (o := .cells #[.int .i64 a0_0, .int .i64 a0_1, .int .i64 a0_2] 23 (0, 0)) z49_) : gb581 ≠ gb580)); replace BK580 := Aside0.mk (blk_below (g := gb580) (o := .cells #[.int .i64 a0_0, .int .i64 a0_1, .int .i64 a0_2] 23 (0, 0)) z49_ hb); clear hb hbox hg; have hnb8 := NB580_581.out; have hnc8 := NB581_580.out; obtain ⟨hcz9_0, hcz9_1, hcz9_2, hfz9_0, hfz9_1, hfz9_2⟩ := bx3_ BK580.out; obtain ⟨hcz10_0, hcz10_1, hcz10_2, hfz10_0, hfz10_1, hfz10_2⟩ := bx3_ BK581.out))
    go_ret
    exact ⟨z3_, z76_⟩
   ·rw [if_neg c5] at H
    have c5b0 : (a0_2 == a1_2) = false := beq_eq_false_iff_ne.mpr c5
    have c5b1 : (a0_2 != a1_2) = true := bne_iff_ne.mpr c5
    obtain rfl := Option.some.inj H
    go_enter Try.func8, Try.ntmps8
    go_wp2_with (first | ((with_reducible refine gate_dst (N := 2) rfl ?_); refine box_event ?hg (N := 2) ?hd (cs := #[.int .i64 a0_0, .int .i64 a0_1, .int .i64 a0_2]) (t := 23) ?hr ?_; (case hd => rfl); (case hg => rfl); (case hr => exact z10_); intro gb580 hg w11 hbox hb; have BK580 := Aside0.mk (hbox); have GW580 := Aside0.mk ((by rw [hg]; exact (below_size z0_) : w.heap.size ≤ gb580)); have GE580 := Aside0.mk ((by rw [hg]; exact (below_size z0_) : w.heap.size ≤ gb580)); replace HB := Aside0.mk (below_step z0_ hb); clear hb hbox hg) | ((with_reducible refine gate_dst (N := 3) rfl ?_); refine box_event ?hg (N := 3) ?hd (cs := #[.int .i64 a1_0, .int .i64 a1_1, .int .i64 a1_2]) (t := 23) ?hr ?_; (case hd => rfl); (case hg => rfl); (case hr => exact z10_); intro gb581 hg w12 hbox hb; have BK581 := Aside0.mk (hbox); have GW581 := Aside0.mk ((by rw [hg]; exact (below_size z39_) : w.heap.size ≤ gb581)); have GE581 := Aside0.mk ((by rw [hg]; exact (below_size z39_) : w.heap.size ≤ gb581)); replace HB := Aside0.mk (below_step z39_ hb); have NB580_581 := Aside0.mk ((by rw [hg]; exact Nat.ne_of_lt (blk_lt (g := gb580) (o := .cells #[.int .i64 a0_0, .int .i64 a0_1, .int .i64 a0_2] 23 (0, 0)) z49_) : gb580 ≠ gb581)); have NB581_580 := Aside0.mk ((by rw [hg]; exact Nat.ne_of_gt (blk_lt (g := gb580) (o := .cells #[.int .i64 a0_0, .int .i64 a0_1, .int .i64 a0_2] 23 (0, 0)) z49_) : gb581 ≠ gb580)); replace BK580 := Aside0.mk (blk_below (g := gb580) (o := .cells #[.int .i64 a0_0, .int .i64 a0_1, .int .i64 a0_2] 23 (0, 0)) z49_ hb); clear hb hbox hg; have hnb13 := NB580_581.out; have hnc13 := NB581_580.out; obtain ⟨hcz14_0, hcz14_1, hcz14_2, hfz14_0, hfz14_1, hfz14_2⟩ := bx3_ BK580.out; obtain ⟨hcz15_0, hcz15_1, hcz15_2, hfz15_0, hfz15_1, hfz15_2⟩ := bx3_ BK581.out))
    go_ret
    exact ⟨z3_, z76_⟩
  ·rw [if_neg c4] at H
   have c4b0 : (a0_1 == a1_1) = false := beq_eq_false_iff_ne.mpr c4
   have c4b1 : (a0_1 != a1_1) = true := bne_iff_ne.mpr c4
   obtain rfl := Option.some.inj H
   go_enter Try.func8, Try.ntmps8
   go_wp2_with (first | ((with_reducible refine gate_dst (N := 2) rfl ?_); refine box_event ?hg (N := 2) ?hd (cs := #[.int .i64 a0_0, .int .i64 a0_1, .int .i64 a0_2]) (t := 23) ?hr ?_; (case hd => rfl); (case hg => rfl); (case hr => exact z10_); intro gb580 hg w16 hbox hb; have BK580 := Aside0.mk (hbox); have GW580 := Aside0.mk ((by rw [hg]; exact (below_size z0_) : w.heap.size ≤ gb580)); have GE580 := Aside0.mk ((by rw [hg]; exact (below_size z0_) : w.heap.size ≤ gb580)); replace HB := Aside0.mk (below_step z0_ hb); clear hb hbox hg) | ((with_reducible refine gate_dst (N := 3) rfl ?_); refine box_event ?hg (N := 3) ?hd (cs := #[.int .i64 a1_0, .int .i64 a1_1, .int .i64 a1_2]) (t := 23) ?hr ?_; (case hd => rfl); (case hg => rfl); (case hr => exact z10_); intro gb581 hg w17 hbox hb; have BK581 := Aside0.mk (hbox); have GW581 := Aside0.mk ((by rw [hg]; exact (below_size z39_) : w.heap.size ≤ gb581)); have GE581 := Aside0.mk ((by rw [hg]; exact (below_size z39_) : w.heap.size ≤ gb581)); replace HB := Aside0.mk (below_step z39_ hb); have NB580_581 := Aside0.mk ((by rw [hg]; exact Nat.ne_of_lt (blk_lt (g := gb580) (o := .cells #[.int .i64 a0_0, .int .i64 a0_1, .int .i64 a0_2] 23 (0, 0)) z49_) : gb580 ≠ gb581)); have NB581_580 := Aside0.mk ((by rw [hg]; exact Nat.ne_of_gt (blk_lt (g := gb580) (o := .cells #[.int .i64 a0_0, .int .i64 a0_1, .int .i64 a0_2] 23 (0, 0)) z49_) : gb581 ≠ gb580)); replace BK580 := Aside0.mk (blk_below (g := gb580) (o := .cells #[.int .i64 a0_0, .int .i64 a0_1, .int .i64 a0_2] 23 (0, 0)) z49_ hb); clear hb hbox hg; have hnb18 := NB580_581.out; have hnc18 := NB581_580.out; obtain ⟨hcz19_0, hcz19_1, hcz19_2, hfz19_0, hfz19_1, hfz19_2⟩ := bx3_ BK580.out; obtain ⟨hcz20_0, hcz20_1, hcz20_2, hfz20_0, hfz20_1, hfz20_2⟩ := bx3_ BK581.out))
   go_ret
   exact ⟨z3_, z76_⟩
 ·rw [if_neg c3] at H
  have c3b0 : (a0_0 == a1_0) = false := beq_eq_false_iff_ne.mpr c3
  have c3b1 : (a0_0 != a1_0) = true := bne_iff_ne.mpr c3
  obtain rfl := Option.some.inj H
  go_enter Try.func8, Try.ntmps8
  go_wp2_with (first | ((with_reducible refine gate_dst (N := 2) rfl ?_); refine box_event ?hg (N := 2) ?hd (cs := #[.int .i64 a0_0, .int .i64 a0_1, .int .i64 a0_2]) (t := 23) ?hr ?_; (case hd => rfl); (case hg => rfl); (case hr => exact z10_); intro gb580 hg w21 hbox hb; have BK580 := Aside0.mk (hbox); have GW580 := Aside0.mk ((by rw [hg]; exact (below_size z0_) : w.heap.size ≤ gb580)); have GE580 := Aside0.mk ((by rw [hg]; exact (below_size z0_) : w.heap.size ≤ gb580)); replace HB := Aside0.mk (below_step z0_ hb); clear hb hbox hg) | ((with_reducible refine gate_dst (N := 3) rfl ?_); refine box_event ?hg (N := 3) ?hd (cs := #[.int .i64 a1_0, .int .i64 a1_1, .int .i64 a1_2]) (t := 23) ?hr ?_; (case hd => rfl); (case hg => rfl); (case hr => exact z10_); intro gb581 hg w22 hbox hb; have BK581 := Aside0.mk (hbox); have GW581 := Aside0.mk ((by rw [hg]; exact (below_size z39_) : w.heap.size ≤ gb581)); have GE581 := Aside0.mk ((by rw [hg]; exact (below_size z39_) : w.heap.size ≤ gb581)); replace HB := Aside0.mk (below_step z39_ hb); have NB580_581 := Aside0.mk ((by rw [hg]; exact Nat.ne_of_lt (blk_lt (g := gb580) (o := .cells #[.int .i64 a0_0, .int .i64 a0_1, .int .i64 a0_2] 23 (0, 0)) z49_) : gb580 ≠ gb581)); have NB581_580 := Aside0.mk ((by rw [hg]; exact Nat.ne_of_gt (blk_lt (g := gb580) (o := .cells #[.int .i64 a0_0, .int .i64 a0_1, .int .i64 a0_2] 23 (0, 0)) z49_) : gb581 ≠ gb580)); replace BK580 := Aside0.mk (blk_below (g := gb580) (o := .cells #[.int .i64 a0_0, .int .i64 a0_1, .int .i64 a0_2] 23 (0, 0)) z49_ hb); clear hb hbox hg; have hnb23 := NB580_581.out; have hnc23 := NB581_580.out; obtain ⟨hcz24_0, hcz24_1, hcz24_2, hfz24_0, hfz24_1, hfz24_2⟩ := bx3_ BK580.out; obtain ⟨hcz25_0, hcz25_1, hcz25_2, hfz25_0, hfz25_1, hfz25_2⟩ := bx3_ BK581.out))
  go_ret
  exact ⟨z3_, z76_⟩

/-! ### laws_FnExactPatch: function 3 -/
def laws_FnExactPatch.f (k : Nat) (a0 : ByteArray) (a1 : ByteArray) : Option (Bool) := if (a0.size : Int) > 1048576 then (some true) else (if (a1.size : Int) > 1048576 then (some true) else ((spec_Patch.f k a0 a1).bind fun bt582 => ((impl_Patch.f k a0 a1).bind fun bt587 => (if bt587.1.toList = bt582.1.toList then ((laws_eqFault.f bt587.2.1 bt587.2.2.1 bt587.2.2.2 bt582.2.1 bt582.2.2.1 bt582.2.2.2).bind fun t592 => (if t592 = true then (some true) else (some false))) else (some false)))))
set_option maxHeartbeats 8000000 in
set_option maxRecDepth 100000 in
theorem laws_FnExactPatch.calls (k : Nat) (a0 : ByteArray) (a1 : ByteArray) (r : Bool) (w : World) (h : laws_FnExactPatch.f k a0 a1 = some r) :
  Calls Try.prog 3 #[.string a0, .string a1] w fun e w' => e = .returned (.bool r) ∧ Below w.heap.size w w' := by
 have hu23 := Try.underlying23
 have HB := Aside0.mk (Below.refl w.heap.size w)
 have H : (if (a0.size : Int) > 1048576 then (some true) else (if (a1.size : Int) > 1048576 then (some true) else ((spec_Patch.f k a0 a1).bind fun bt582 => ((impl_Patch.f k a0 a1).bind fun bt587 => (if bt587.1.toList = bt582.1.toList then ((laws_eqFault.f bt587.2.1 bt587.2.2.1 bt587.2.2.2 bt582.2.1 bt582.2.2.1 bt582.2.2.2).bind fun t592 => (if t592 = true then (some true) else (some false))) else (some false)))))) = some r := h
 clear h
 by_cases c3 : (a0.size : Int) > 1048576
 ·rw [if_pos c3] at H
  have c3b0 := decide_eq_true c3
  have c3b1 : decide (1048576 < a0.size) = true := decide_eq_true (by omega)
  clear c3
  obtain rfl := Option.some.inj H
  go_enter Try.func3, Try.ntmps3
  go_wp2
  go_ret
  exact ⟨z3_, z0_⟩
 ·rw [if_neg c3] at H
  have c3b0 := decide_eq_false c3
  have c3b1 : decide (1048576 < a0.size) = false := decide_eq_false (by omega)
  clear c3
  by_cases c4 : (a1.size : Int) > 1048576
  ·rw [if_pos c4] at H
   have c4b0 := decide_eq_true c4
   have c4b1 : decide (1048576 < a1.size) = true := decide_eq_true (by omega)
   clear c4
   obtain rfl := Option.some.inj H
   go_enter Try.func3, Try.ntmps3
   go_wp2
   go_ret
   exact ⟨z3_, z0_⟩
  ·rw [if_neg c4] at H
   have c4b0 := decide_eq_false c4
   have c4b1 : decide (1048576 < a1.size) = false := decide_eq_false (by omega)
   clear c4
   replace H := Option.bind_eq_some_iff.mp H
   obtain ⟨⟨t582, t583, t584, t585⟩, A50, H⟩ := H
   try dsimp only at H
   have A5 := Aside0.mk A50
   clear A50
   replace H := Option.bind_eq_some_iff.mp H
   obtain ⟨⟨t587, t588, t589, t590⟩, A60, H⟩ := H
   try dsimp only at H
   have A6 := Aside0.mk A60
   clear A60
   by_cases c7 : t587.toList = t582.toList
   ·rw [if_pos c7] at H
    have c7b0 : (t587.toList == t582.toList) = true := beq_iff_eq.mpr c7
    have c7b1 : (t587.toList != t582.toList) = false := bne_eq_false_iff_eq.mpr c7
    clear c7
    obtain ⟨t592, A8, H⟩ := bnd_ H
    by_cases c9 : t592 = true
    ·subst c9
     replace H := ift_ H
     obtain rfl := Option.some.inj H
     go_enter Try.func3, Try.ntmps3
     go_wp2_with (first | ((with_reducible refine gate_callee (f := 6) rfl ?_); refine goesL_ (some 18) rfl rfl Try.func6 (by kernel_rfl) rfl #[.string a0, .string a1] rfl z1_ ?_; (with_reducible refine (spec_Patch.calls k a0 a1 t582 t583 t584 t585 _ A5.out).mono ?_); rintro e w10 ⟨rfl, hb⟩; refine ⟨_, rfl, ?_⟩; replace HB := Aside0.mk (below_step z0_ hb); (try clear hb)) | ((with_reducible refine gate_dst (N := 6) rfl ?_); refine box_event ?hg (N := 6) ?hd (cs := #[.int .i64 0, .int .i64 0, .int .i64 0]) (t := 23) ?hr ?_; (case hd => rfl); (case hg => rfl); (case hr => exact z10_); intro gb586 hg w11 hbox hb; have BK586 := Aside0.mk (hbox); have GW586 := Aside0.mk ((by rw [hg]; exact (below_size z0_) : w.heap.size ≤ gb586)); have GE586 := Aside0.mk ((by rw [hg]; exact (below_size z0_) : w.heap.size ≤ gb586)); replace HB := Aside0.mk (below_step z0_ hb); clear hb hbox hg; obtain ⟨hcz12_0, hcz12_1, hcz12_2, hfz12_0, hfz12_1, hfz12_2⟩ := bx3_ BK586.out) | ((with_reducible refine gate_callee (f := 7) rfl ?_); refine goesL_ (some 24) rfl rfl Try.func7 (by kernel_rfl) rfl #[.string a0, .string a1] rfl z1_ ?_; (with_reducible refine (impl_Patch.calls k a0 a1 t587 t588 t589 t590 _ A6.out).mono ?_); rintro e w13 ⟨rfl, hb⟩; refine ⟨_, rfl, ?_⟩; replace BK586 := Aside0.mk (blk_below (g := gb586) (o := .cells #[.int .i64 t583, .int .i64 t584, .int .i64 t585] 23 (0, 0)) z38_ hb); replace HB := Aside0.mk (below_step z40_ hb); (try clear hb)) | ((with_reducible refine gate_dst (N := 8) rfl ?_); refine box_event ?hg (N := 8) ?hd (cs := #[.int .i64 0, .int .i64 0, .int .i64 0]) (t := 23) ?hr ?_; (case hd => rfl); (case hg => rfl); (case hr => exact z10_); intro gb591 hg w14 hbox hb; have BK591 := Aside0.mk (hbox); have GW591 := Aside0.mk ((by rw [hg]; exact (below_size z40_) : w.heap.size ≤ gb591)); have GE591 := Aside0.mk ((by rw [hg]; exact (below_size z40_) : w.heap.size ≤ gb591)); replace HB := Aside0.mk (below_step z40_ hb); have NB586_591 := Aside0.mk ((by rw [hg]; exact Nat.ne_of_lt (blk_lt (g := gb586) (o := .cells #[.int .i64 t583, .int .i64 t584, .int .i64 t585] 23 (0, 0)) z59_) : gb586 ≠ gb591)); have NB591_586 := Aside0.mk ((by rw [hg]; exact Nat.ne_of_gt (blk_lt (g := gb586) (o := .cells #[.int .i64 t583, .int .i64 t584, .int .i64 t585] 23 (0, 0)) z59_) : gb591 ≠ gb586)); replace BK586 := Aside0.mk (blk_below (g := gb586) (o := .cells #[.int .i64 t583, .int .i64 t584, .int .i64 t585] 23 (0, 0)) z59_ hb); clear hb hbox hg; have hnb15 := NB591_586.out; have hnc15 := NB586_591.out; obtain ⟨hcz16_0, hcz16_1, hcz16_2, hfz16_0, hfz16_1, hfz16_2⟩ := bx3_ BK591.out; obtain ⟨hcz17_0, hcz17_1, hcz17_2, hfz17_0, hfz17_1, hfz17_2⟩ := bx3_ BK586.out) | (go_at_call 8; (with_reducible refine (laws_eqFault.calls t588 t589 t590 t583 t584 t585 true _ A8.out).mono ?_); rintro e w18 ⟨rfl, hb⟩; replace BK586 := Aside0.mk (blk_below (g := gb586) (o := .cells #[.int .i64 t583, .int .i64 t584, .int .i64 t585] 23 (0, 0)) z58_ hb); replace BK591 := Aside0.mk (blk_below (g := gb591) (o := .cells #[.int .i64 t588, .int .i64 t589, .int .i64 t590] 23 (0, 0)) z53_ hb); replace HB := Aside0.mk (below_step z65_ hb); (try clear hb)))
     go_ret
     exact ⟨z3_, z65_⟩
    ·replace c9 := Bool.eq_false_iff.mpr c9
     subst c9
     replace H := iff_ H
     obtain rfl := Option.some.inj H
     go_enter Try.func3, Try.ntmps3
     go_wp2_with (first | ((with_reducible refine gate_callee (f := 6) rfl ?_); refine goesL_ (some 18) rfl rfl Try.func6 (by kernel_rfl) rfl #[.string a0, .string a1] rfl z1_ ?_; (with_reducible refine (spec_Patch.calls k a0 a1 t582 t583 t584 t585 _ A5.out).mono ?_); rintro e w19 ⟨rfl, hb⟩; refine ⟨_, rfl, ?_⟩; replace HB := Aside0.mk (below_step z0_ hb); (try clear hb)) | ((with_reducible refine gate_dst (N := 6) rfl ?_); refine box_event ?hg (N := 6) ?hd (cs := #[.int .i64 0, .int .i64 0, .int .i64 0]) (t := 23) ?hr ?_; (case hd => rfl); (case hg => rfl); (case hr => exact z10_); intro gb586 hg w20 hbox hb; have BK586 := Aside0.mk (hbox); have GW586 := Aside0.mk ((by rw [hg]; exact (below_size z0_) : w.heap.size ≤ gb586)); have GE586 := Aside0.mk ((by rw [hg]; exact (below_size z0_) : w.heap.size ≤ gb586)); replace HB := Aside0.mk (below_step z0_ hb); clear hb hbox hg; obtain ⟨hcz21_0, hcz21_1, hcz21_2, hfz21_0, hfz21_1, hfz21_2⟩ := bx3_ BK586.out) | ((with_reducible refine gate_callee (f := 7) rfl ?_); refine goesL_ (some 24) rfl rfl Try.func7 (by kernel_rfl) rfl #[.string a0, .string a1] rfl z1_ ?_; (with_reducible refine (impl_Patch.calls k a0 a1 t587 t588 t589 t590 _ A6.out).mono ?_); rintro e w22 ⟨rfl, hb⟩; refine ⟨_, rfl, ?_⟩; replace BK586 := Aside0.mk (blk_below (g := gb586) (o := .cells #[.int .i64 t583, .int .i64 t584, .int .i64 t585] 23 (0, 0)) z38_ hb); replace HB := Aside0.mk (below_step z40_ hb); (try clear hb)) | ((with_reducible refine gate_dst (N := 8) rfl ?_); refine box_event ?hg (N := 8) ?hd (cs := #[.int .i64 0, .int .i64 0, .int .i64 0]) (t := 23) ?hr ?_; (case hd => rfl); (case hg => rfl); (case hr => exact z10_); intro gb591 hg w23 hbox hb; have BK591 := Aside0.mk (hbox); have GW591 := Aside0.mk ((by rw [hg]; exact (below_size z40_) : w.heap.size ≤ gb591)); have GE591 := Aside0.mk ((by rw [hg]; exact (below_size z40_) : w.heap.size ≤ gb591)); replace HB := Aside0.mk (below_step z40_ hb); have NB586_591 := Aside0.mk ((by rw [hg]; exact Nat.ne_of_lt (blk_lt (g := gb586) (o := .cells #[.int .i64 t583, .int .i64 t584, .int .i64 t585] 23 (0, 0)) z59_) : gb586 ≠ gb591)); have NB591_586 := Aside0.mk ((by rw [hg]; exact Nat.ne_of_gt (blk_lt (g := gb586) (o := .cells #[.int .i64 t583, .int .i64 t584, .int .i64 t585] 23 (0, 0)) z59_) : gb591 ≠ gb586)); replace BK586 := Aside0.mk (blk_below (g := gb586) (o := .cells #[.int .i64 t583, .int .i64 t584, .int .i64 t585] 23 (0, 0)) z59_ hb); clear hb hbox hg; have hnb24 := NB591_586.out; have hnc24 := NB586_591.out; obtain ⟨hcz25_0, hcz25_1, hcz25_2, hfz25_0, hfz25_1, hfz25_2⟩ := bx3_ BK591.out; obtain ⟨hcz26_0, hcz26_1, hcz26_2, hfz26_0, hfz26_1, hfz26_2⟩ := bx3_ BK586.out) | (go_at_call 8; (with_reducible refine (laws_eqFault.calls t588 t589 t590 t583 t584 t585 false _ A8.out).mono ?_); rintro e w27 ⟨rfl, hb⟩; replace BK586 := Aside0.mk (blk_below (g := gb586) (o := .cells #[.int .i64 t583, .int .i64 t584, .int .i64 t585] 23 (0, 0)) z58_ hb); replace BK591 := Aside0.mk (blk_below (g := gb591) (o := .cells #[.int .i64 t588, .int .i64 t589, .int .i64 t590] 23 (0, 0)) z53_ hb); replace HB := Aside0.mk (below_step z65_ hb); (try clear hb)))
     go_ret
     exact ⟨z3_, z65_⟩
   ·rw [if_neg c7] at H
    have c7b0 : (t587.toList == t582.toList) = false := beq_eq_false_iff_ne.mpr c7
    have c7b1 : (t587.toList != t582.toList) = true := bne_iff_ne.mpr c7
    obtain rfl := Option.some.inj H
    go_enter Try.func3, Try.ntmps3
    go_wp2_with (first | ((with_reducible refine gate_callee (f := 6) rfl ?_); refine goesL_ (some 18) rfl rfl Try.func6 (by kernel_rfl) rfl #[.string a0, .string a1] rfl z1_ ?_; (with_reducible refine (spec_Patch.calls k a0 a1 t582 t583 t584 t585 _ A5.out).mono ?_); rintro e w28 ⟨rfl, hb⟩; refine ⟨_, rfl, ?_⟩; replace HB := Aside0.mk (below_step z0_ hb); (try clear hb)) | ((with_reducible refine gate_dst (N := 6) rfl ?_); refine box_event ?hg (N := 6) ?hd (cs := #[.int .i64 0, .int .i64 0, .int .i64 0]) (t := 23) ?hr ?_; (case hd => rfl); (case hg => rfl); (case hr => exact z10_); intro gb586 hg w29 hbox hb; have BK586 := Aside0.mk (hbox); have GW586 := Aside0.mk ((by rw [hg]; exact (below_size z0_) : w.heap.size ≤ gb586)); have GE586 := Aside0.mk ((by rw [hg]; exact (below_size z0_) : w.heap.size ≤ gb586)); replace HB := Aside0.mk (below_step z0_ hb); clear hb hbox hg; obtain ⟨hcz30_0, hcz30_1, hcz30_2, hfz30_0, hfz30_1, hfz30_2⟩ := bx3_ BK586.out) | ((with_reducible refine gate_callee (f := 7) rfl ?_); refine goesL_ (some 24) rfl rfl Try.func7 (by kernel_rfl) rfl #[.string a0, .string a1] rfl z1_ ?_; (with_reducible refine (impl_Patch.calls k a0 a1 t587 t588 t589 t590 _ A6.out).mono ?_); rintro e w31 ⟨rfl, hb⟩; refine ⟨_, rfl, ?_⟩; replace BK586 := Aside0.mk (blk_below (g := gb586) (o := .cells #[.int .i64 t583, .int .i64 t584, .int .i64 t585] 23 (0, 0)) z38_ hb); replace HB := Aside0.mk (below_step z40_ hb); (try clear hb)) | ((with_reducible refine gate_dst (N := 8) rfl ?_); refine box_event ?hg (N := 8) ?hd (cs := #[.int .i64 0, .int .i64 0, .int .i64 0]) (t := 23) ?hr ?_; (case hd => rfl); (case hg => rfl); (case hr => exact z10_); intro gb591 hg w32 hbox hb; have BK591 := Aside0.mk (hbox); have GW591 := Aside0.mk ((by rw [hg]; exact (below_size z40_) : w.heap.size ≤ gb591)); have GE591 := Aside0.mk ((by rw [hg]; exact (below_size z40_) : w.heap.size ≤ gb591)); replace HB := Aside0.mk (below_step z40_ hb); have NB586_591 := Aside0.mk ((by rw [hg]; exact Nat.ne_of_lt (blk_lt (g := gb586) (o := .cells #[.int .i64 t583, .int .i64 t584, .int .i64 t585] 23 (0, 0)) z59_) : gb586 ≠ gb591)); have NB591_586 := Aside0.mk ((by rw [hg]; exact Nat.ne_of_gt (blk_lt (g := gb586) (o := .cells #[.int .i64 t583, .int .i64 t584, .int .i64 t585] 23 (0, 0)) z59_) : gb591 ≠ gb586)); replace BK586 := Aside0.mk (blk_below (g := gb586) (o := .cells #[.int .i64 t583, .int .i64 t584, .int .i64 t585] 23 (0, 0)) z59_ hb); clear hb hbox hg; have hnb33 := NB591_586.out; have hnc33 := NB586_591.out; obtain ⟨hcz34_0, hcz34_1, hcz34_2, hfz34_0, hfz34_1, hfz34_2⟩ := bx3_ BK591.out))
    go_ret
    exact ⟨z3_, z65_⟩

/-- THE ONE PURE STATEMENT of laws_FnExactPatch: yours. -/
def laws_FnExactPatch.Pure : Prop := ∀ (a0 : ByteArray) (a1 : ByteArray), a0.size ≤ 140737488351232 → a1.size ≤ 140737488351232 → ∃ k, laws_FnExactPatch.f k a0 a1 = some true
theorem laws_FnExactPatch.walk (P : laws_FnExactPatch.Pure) (a0 : ByteArray) (a1 : ByteArray) (w : World) (w0 : a0.size ≤ 140737488351232) (w1 : a1.size ≤ 140737488351232) :
  Calls Try.prog 3 #[.string a0, .string a1] w fun e w' => e = .returned (.bool true) ∧ Below w.heap.size w w' := by
 obtain ⟨k, h⟩ := P a0 a1 w0 w1
 refine (laws_FnExactPatch.calls k a0 a1 true w h).mono ?_
 rintro e w' ⟨rfl, hd⟩
 exact ⟨rfl, hd⟩

end Go.Proofs.Ytbiffnahknkoiaa.PFnExactPatch
