/- Laid by a program of this session out of the kit's print for the law FnJoined: what it says of the machine is proved here, function by function; each contract under the conditions that it names. -/
import Derived.Test.YtdapeboajjidmaaMFnJoinedx0
import Derived.Test.YtdapeboajjidmaaMFnJoinedx1
import Derived.Test.YtdapeboajjidmaaMFnJoinedx3
import Derived.Test.YtdapeboajjidmaaMFnJoinedx5
import Derived.Test.YtdapeboajjidmaaMFnJoinedx8
import Derived.Test.YtdapeboajjidmaaMFnJoinedx12
import Derived.Test.YtdapeboajjidmaaMFnJoinedx16
namespace Go.Proofs.Ytdapeboajjidmaa.PFnJoined
open Go.RowKit Go.Proofs.YtdapeboajjidmaaW.PrintWords Go.Proofs.YtdapeboajjidmaaW.PrintLast Go.Proofs.YtdapeboajjidmaaW.PrintMore
attribute [local go_sem] max2_int min2_int max_two min_two max_three min_three max_four min_four   -- for this text's walks alone
set_option linter.unusedVariables false
set_option linter.unusedSimpArgs false

attribute [local go_sem high] eqA80
/-! ### impl_ApplyAll: function 35 -/
def impl_ApplyAll.l0 : Nat → List (S78) → List (S80) → List (S78) → Int → Int → Option ((List (S80)) × Int × Int)
 | 0, _, _, _, _, _ => none
 | k + 1, x1, x7, x18, x19, x20 => if x20 < x19 then (if 0 ≤ x20 then (if x20 < (x18.length : Int) then ((impl_ApplyOp.f k x7 ((rd_T78 x18 x20).f0) ((rd_T78 x18 x20).f1) ((rd_T78 x18 x20).f2) ((rd_T78 x18 x20).f3) ((rd_T78 x18 x20).f4)).bind fun bt637 => (if bt637.2 = 0 then (impl_ApplyAll.l0 k x1 bt637.1 x18 x19 (wrap64 (x20 + 1))) else (some (x7, x20, bt637.2)))) else (none)) else (none)) else (some (x7, (x1.length : Int), 0))
def impl_ApplyAll.f (k : Nat) (l0 : List (S80)) (l1 : List (S78)) : Option ((List (S80)) × Int × Int) := (impl_TreeOk.f k l0).bind fun t628 => (if t628 = true then ((slices_Clone_Node.f l0).bind fun t632 => (impl_ApplyAll.l0 k l1 t632 l1 (l1.length : Int) 0)) else (some ((([] : List (S80))), 0, 2)))
set_option maxHeartbeats 8000000 in
set_option maxRecDepth 100000 in
theorem impl_ApplyAll.calls (k : Nat) (A0 : Option Addr) (c0 : Nat) (l0 : List (S80)) (A1 : Option Addr) (c1 : Nat) (l1 : List (S78)) (r1 : List (S80)) (r2 : Int) (r3 : Int) (w : World) (hr0 : Kd.C k80 w A0 l0.length l0) (hc0 : l0.length ≤ c0) (hr1 : Kd.C k78 w A1 l1.length l1) (hc1 : l1.length ≤ c1) (h : impl_ApplyAll.f k l0 l1 = some (r1, r2, r3)) :
  Calls Try.prog 35 #[.slice A0 l0.length c0, .slice A1 l1.length c1] w fun e w' => ∃ v0_ : Value, e = .returned (.tuple #[v0_, .int .i64 r2, .int .i64 r3]) ∧ Kd.R k80 80 w' w.heap.size (fun _ => True) v0_ r1 ∧ Below w.heap.size w w' := by
 have hu78 := Try.underlying78
 have HR0 := Aside0.mk hr0
 have HC0 := Aside0.mk hc0
 clear hr0 hc0
 have HR1 := Aside0.mk hr1
 have HC1 := Aside0.mk hc1
 clear hr1 hc1
 have HB := Aside0.mk (Below.refl w.heap.size w)
 have H : ((impl_TreeOk.f k l0).bind fun t628 => (if t628 = true then ((slices_Clone_Node.f l0).bind fun t632 => (impl_ApplyAll.l0 k l1 t632 l1 (l1.length : Int) 0)) else (some ((([] : List (S80))), 0, 2)))) = some (r1, r2, r3) := h
 clear h
 obtain ⟨t628, A3, H⟩ := bnd_ H
 by_cases c4 : t628 = true
 ·subst c4
  replace H := ift_ H
  obtain ⟨t632, A5, H⟩ := bnd_ H
  have H' := Aside0.mk H
  clear H
  go_enter Try.func35, Try.ntmps35
  go_wp2_with (first | ((with_reducible refine gate_callee (f := 50) rfl ?_); refine goesL_ (some 13) rfl rfl Try.func50 (by kernel_rfl) rfl #[.slice A0 l0.length c0] rfl z1_ ?_; (with_reducible refine (impl_TreeOk.calls k _ _ l0 true _ ?side1 ?side2 A3.out).mono ?_); (case side1 => exact z17_); (case side2 => exact HC0.out); rintro e w6 ⟨rfl, hb⟩; refine ⟨_, rfl, ?_⟩; replace HB := Aside0.mk (below_step z0_ hb); (try clear hb)) | ((with_reducible refine gate_callee (f := 75) rfl ?_); refine goesL_ (some 17) rfl rfl Try.func75 (by kernel_rfl) rfl #[.slice A0 l0.length c0] rfl z1_ ?_; (with_reducible refine (slices_Clone_Node.calls _ _ l0 t632 _ ?side1 ?side2 A5.out).mono ?_); (case side1 => exact z5_); (case side2 => exact HC0.out); rintro e w7 ⟨v633, rfl, ho0, hb⟩; refine ⟨_, rfl, ?_⟩; have HO634 := Aside0.mk (Kd.R_lower ho0 (below_size z0_)); replace HB := Aside0.mk (below_step z0_ hb); (try clear hb ho0)))
  go_loopg [7, 20] k (fun kq v7 v20 w' => ∃ (x7_1 : List (S80)) (x20_1 : Int), v20 = .int .i64 x20_1 ∧ Aside0 (impl_ApplyAll.l0 kq l1 x7_1 l1 (l1.length : Int) x20_1 = some (r1, r2, r3)) ∧ Aside0 (kq ≤ k) ∧ Aside0 (Kd.R k80 80 w' w.heap.size (fun _ => True) v7 x7_1) ∧ Aside0 (Below w.heap.size w w'))
  case atStart => exact ⟨(t632), (0), z11_, H', ⟨Nat.le_refl _⟩, ⟨by (with_reducible repeat (first | apply Kd.R_alloc | apply Kd.R_drewN | apply Kd.R_drew)); exact HO634.out⟩, ⟨z0_⟩⟩
  case round =>
   clear H'
   try clear c1
   try clear p2
   try clear c3
   try clear c4
   try clear c5
   try clear c7
   obtain ⟨x7_1, x20_1, rfl, HA, HK1, HO_7, HB⟩ := hrel
   cases gk with
   | zero => exact absurd HA.out (by simp [impl_ApplyAll.l0])
   | succ k1 =>
    have H := HA.out
    clear HA
    simp only [impl_ApplyAll.l0] at H
    by_cases c8 : x20_1 < (l1.length : Int)
    ·rw [if_pos c8] at H
     have c8b0 := decide_eq_true c8
     clear c8
     obtain ⟨c9b0, H⟩ := ifd_ H
     obtain ⟨c10b0, H⟩ := ifd_ H
     replace H := Option.bind_eq_some_iff.mp H
     obtain ⟨⟨t637, t640⟩, A110, H⟩ := H
     try dsimp only at H
     have A11 := Aside0.mk A110
     clear A110
     by_cases c12 : t640 = 0
     ·rw [if_pos c12] at H
      have c12b0 : (t640 == 0) = true := beq_iff_eq.mpr c12
      have c12b1 : (t640 != 0) = false := bne_eq_false_iff_eq.mpr c12
      clear c12
      have H' := Aside0.mk H
      clear H
      have p635 : 0 ≤ (x20_1 : Int) := odt_
      have q635 : x20_1 < (l1.length : Int) := odt_
      obtain ⟨ad635, A635_1, c635_1, e635, hx635_0, hx635_1, hx635_2, hx635_3, hx635_4, hl635_1, hi635_1⟩ := at_T78 HR1.out x20_1 p635 q635
      cases e635
      replace hx635_0 := (HB.out.cell (World.block_lt_of_cell? w _ hx635_0)).trans hx635_0
      replace hx635_1 := (HB.out.cell (World.block_lt_of_cell? w _ hx635_1)).trans hx635_1
      replace hx635_2 := (HB.out.cell (World.block_lt_of_cell? w _ hx635_2)).trans hx635_2
      replace hx635_3 := (HB.out.cell (World.block_lt_of_cell? w _ hx635_3)).trans hx635_3
      replace hx635_4 := (HB.out.cell (World.block_lt_of_cell? w _ hx635_4)).trans hx635_4
      have HR635_1 := Aside0.mk hi635_1
      have HC635_1 := Aside0.mk hl635_1
      clear hi635_1 hl635_1
      replace p635 := eq_true p635
      replace q635 := eq_true q635
      go_wp2_with (first | ((with_reducible refine gate_dst (N := 9) rfl ?_); refine box_event ?hg (N := 9) ?hd (cs := #[.int .i64 0, .slice none 0 0, .int .i64 0, .int .i64 0, .int .i64 0]) (t := 78) ?hr ?_; (case hd => rfl); (case hg => rfl); (case hr => exact z20_); intro gb636 hg w13 hbox hb; replace HO_7 := Aside0.mk (Kd.R_below z92_ hb); have BK636 := Aside0.mk (hbox); have GW636 := Aside0.mk ((by rw [hg]; exact (below_size z0_) : w.heap.size ≤ gb636)); have GE636 := Aside0.mk ((by rw [hg]; exact (below_size z0_) : w.heap.size ≤ gb636)); replace HB := Aside0.mk (below_step z0_ hb); clear hb hbox hg; obtain ⟨hcz14_0, hcz14_1, hcz14_2, hcz14_3, hcz14_4, hfz14_0, hfz14_1, hfz14_2, hfz14_3, hfz14_4⟩ := bx5_ BK636.out; obtain ⟨Ao15, co15, eo15⟩ := Kd.R_slice HO_7.out; subst eo15) | ((with_reducible refine gate_callee (f := 51) rfl ?_); refine goesL_ (some 28) rfl rfl Try.func51 (by kernel_rfl) rfl #[.slice Ao15 x7_1.length co15, .agg #[.int .i64 ((rd_T78 l1 x20_1).f0), .slice A635_1 ((rd_T78 l1 x20_1).f1).length c635_1, .int .i64 ((rd_T78 l1 x20_1).f2), .int .i64 ((rd_T78 l1 x20_1).f3), .int .i64 ((rd_T78 l1 x20_1).f4)]] rfl z1_ ?_; (with_reducible refine (impl_ApplyOp.calls k1 _ _ x7_1 ((rd_T78 l1 x20_1).f0) _ _ ((rd_T78 l1 x20_1).f1) ((rd_T78 l1 x20_1).f2) ((rd_T78 l1 x20_1).f3) ((rd_T78 l1 x20_1).f4) t637 t640 _ ?side1 ?side2 ?side3 ?side4 A11.out).mono ?_); (case side1 => refine (Kd.R_reads' (e := 80) (base := w.heap.size) (ok := fun k_ => True) (n := x7_1.length) (c := co15) ?_).2.2; exact z22_); (case side2 => exact z220_); (case side3 => exact z151_); (case side4 => exact HC635_1.out); rintro e w16 ⟨v638, rfl, ho0, hb⟩; refine ⟨_, rfl, ?_⟩; have HO639 := Aside0.mk (Kd.R_lower (Kd.R_new' ho0 (Kd.R_lt z22_)) (below_size z63_)); replace HO_7 := Aside0.mk (Kd.R_elder' z22_ (Kd.R_base ho0) hb); replace BK636 := Aside0.mk (blk_below (g := gb636) (o := .cells #[.int .i64 ((rd_T78 l1 x20_1).f0), .slice A635_1 ((rd_T78 l1 x20_1).f1).length c635_1, .int .i64 ((rd_T78 l1 x20_1).f2), .int .i64 ((rd_T78 l1 x20_1).f3), .int .i64 ((rd_T78 l1 x20_1).f4)] 78 (0, 0)) z29_ hb); replace HB := Aside0.mk (below_step z63_ hb); (try clear hb ho0)))
      go_roundg k1
      case measure => have := HK1.out; omega
      case rel => exact ⟨(t637), (wrap64 (x20_1 + 1)), z11_, H', ⟨z106_⟩, ⟨by (with_reducible repeat (first | apply Kd.R_alloc | apply Kd.R_drewN | apply Kd.R_drew)); exact Kd.R_mono HO639.out (fun _ hk => trivial)⟩, ⟨z63_⟩⟩
     ·rw [if_neg c12] at H
      have c12b0 : (t640 == 0) = false := beq_eq_false_iff_ne.mpr c12
      have c12b1 : (t640 != 0) = true := bne_iff_ne.mpr c12
      simp only [Option.some.injEq, Prod.mk.injEq] at H
      obtain ⟨rfl, rfl, rfl⟩ := H
      have p635 : 0 ≤ (x20_1 : Int) := odt_
      have q635 : x20_1 < (l1.length : Int) := odt_
      obtain ⟨ad635, A635_1, c635_1, e635, hx635_0, hx635_1, hx635_2, hx635_3, hx635_4, hl635_1, hi635_1⟩ := at_T78 HR1.out x20_1 p635 q635
      cases e635
      replace hx635_0 := (HB.out.cell (World.block_lt_of_cell? w _ hx635_0)).trans hx635_0
      replace hx635_1 := (HB.out.cell (World.block_lt_of_cell? w _ hx635_1)).trans hx635_1
      replace hx635_2 := (HB.out.cell (World.block_lt_of_cell? w _ hx635_2)).trans hx635_2
      replace hx635_3 := (HB.out.cell (World.block_lt_of_cell? w _ hx635_3)).trans hx635_3
      replace hx635_4 := (HB.out.cell (World.block_lt_of_cell? w _ hx635_4)).trans hx635_4
      have HR635_1 := Aside0.mk hi635_1
      have HC635_1 := Aside0.mk hl635_1
      clear hi635_1 hl635_1
      replace p635 := eq_true p635
      replace q635 := eq_true q635
      go_wp2_with (first | ((with_reducible refine gate_dst (N := 9) rfl ?_); refine box_event ?hg (N := 9) ?hd (cs := #[.int .i64 0, .slice none 0 0, .int .i64 0, .int .i64 0, .int .i64 0]) (t := 78) ?hr ?_; (case hd => rfl); (case hg => rfl); (case hr => exact z20_); intro gb636 hg w17 hbox hb; replace HO_7 := Aside0.mk (Kd.R_below z92_ hb); have BK636 := Aside0.mk (hbox); have GW636 := Aside0.mk ((by rw [hg]; exact (below_size z0_) : w.heap.size ≤ gb636)); have GE636 := Aside0.mk ((by rw [hg]; exact (below_size z0_) : w.heap.size ≤ gb636)); replace HB := Aside0.mk (below_step z0_ hb); clear hb hbox hg; obtain ⟨hcz18_0, hcz18_1, hcz18_2, hcz18_3, hcz18_4, hfz18_0, hfz18_1, hfz18_2, hfz18_3, hfz18_4⟩ := bx5_ BK636.out; obtain ⟨Ao19, co19, eo19⟩ := Kd.R_slice HO_7.out; subst eo19) | ((with_reducible refine gate_callee (f := 51) rfl ?_); refine goesL_ (some 28) rfl rfl Try.func51 (by kernel_rfl) rfl #[.slice Ao19 x7_1.length co19, .agg #[.int .i64 ((rd_T78 l1 x20_1).f0), .slice A635_1 ((rd_T78 l1 x20_1).f1).length c635_1, .int .i64 ((rd_T78 l1 x20_1).f2), .int .i64 ((rd_T78 l1 x20_1).f3), .int .i64 ((rd_T78 l1 x20_1).f4)]] rfl z1_ ?_; (with_reducible refine (impl_ApplyOp.calls k1 _ _ x7_1 ((rd_T78 l1 x20_1).f0) _ _ ((rd_T78 l1 x20_1).f1) ((rd_T78 l1 x20_1).f2) ((rd_T78 l1 x20_1).f3) ((rd_T78 l1 x20_1).f4) t637 t640 _ ?side1 ?side2 ?side3 ?side4 A11.out).mono ?_); (case side1 => refine (Kd.R_reads' (e := 80) (base := w.heap.size) (ok := fun k_ => True) (n := x7_1.length) (c := co19) ?_).2.2; exact z22_); (case side2 => exact z220_); (case side3 => exact z151_); (case side4 => exact HC635_1.out); rintro e w20 ⟨v638, rfl, ho0, hb⟩; refine ⟨_, rfl, ?_⟩; have HO639 := Aside0.mk (Kd.R_lower (Kd.R_new' ho0 (Kd.R_lt z22_)) (below_size z63_)); replace HO_7 := Aside0.mk (Kd.R_elder' z22_ (Kd.R_base ho0) hb); replace BK636 := Aside0.mk (blk_below (g := gb636) (o := .cells #[.int .i64 ((rd_T78 l1 x20_1).f0), .slice A635_1 ((rd_T78 l1 x20_1).f1).length c635_1, .int .i64 ((rd_T78 l1 x20_1).f2), .int .i64 ((rd_T78 l1 x20_1).f3), .int .i64 ((rd_T78 l1 x20_1).f4)] 78 (0, 0)) z29_ hb); replace HB := Aside0.mk (below_step z63_ hb); (try clear hb ho0)))
      go_ret3
      exact ⟨_, z6_, z192_, z63_⟩
    ·rw [if_neg c8] at H
     have c8b0 := decide_eq_false c8
     clear c8
     simp only [Option.some.injEq, Prod.mk.injEq] at H
     obtain ⟨rfl, rfl, rfl⟩ := H
     go_wp2
     go_ret3
     exact ⟨_, z6_, z92_, z0_⟩
 ·replace c4 := Bool.eq_false_iff.mpr c4
  subst c4
  replace H := iff_ H
  first | ((with_reducible have hz_ := gy_ H); obtain ⟨y629, Ny629, H⟩ := hz_) | (generalize hy_ : (([] : List (S80))) = y629 at H; have Ny629 := Aside0.mk hy_.symm; clear hy_)
  simp only [Option.some.injEq, Prod.mk.injEq] at H
  obtain ⟨rfl, rfl, rfl⟩ := H
  go_enter Try.func35, Try.ntmps35
  go_wp2_with (first | ((with_reducible refine gate_callee (f := 50) rfl ?_); refine goesL_ (some 13) rfl rfl Try.func50 (by kernel_rfl) rfl #[.slice A0 l0.length c0] rfl z1_ ?_; (with_reducible refine (impl_TreeOk.calls k _ _ l0 false _ ?side1 ?side2 A3.out).mono ?_); (case side1 => exact z17_); (case side2 => exact HC0.out); rintro e w21 ⟨rfl, hb⟩; refine ⟨_, rfl, ?_⟩; replace HB := Aside0.mk (below_step z0_ hb); (try clear hb)) | ((with_reducible refine gate_dst (N := 15) rfl ?_); refine Kd.R_lit k80 _ 80 ?hg (N := 15) ?hd (xs := ([] : List (S80))) (inner := []) (ok := fun _ => True) (okp := fun _ => True) ?hr ?hp (fun _ hk => hk) trivial (Below.refl _ _) (Nat.le_refl _) (by simp) ?_; (case hd => rfl); (case hg => rfl); (case hr => exact z20_); (case hp => exact z139_); intro v630 w22 ho23 hb hg_ hnew_; clear hg_ hnew_; (first | rw [← Ny629.out] at ho23 | (simp only [Int.reduceToNat] at ho23; rw [← Ny629.out] at ho23)); have HO631 := Aside0.mk (Kd.R_lower ho23 (below_size z0_)); replace HB := Aside0.mk (below_step z0_ hb); clear hb ho23))
  go_ret3
  exact ⟨_, z6_, by (with_reducible repeat (first | apply Kd.R_alloc | apply Kd.R_drewN | apply Kd.R_drew)); exact HO631.out, z0_⟩

/-! ### spec_ApplyAll: function 36 -/
def spec_ApplyAll.l0 : Nat → List (S78) → List (S80) → Int → Option ((List (S80)) × Int × Int)
 | 0, _, _, _ => none
 | k + 1, x1, x7, x8 => if x8 < (x1.length : Int) then (if 0 ≤ x8 then ((spec_ApplyOp.f k x7 ((rd_T78 x1 x8).f0) ((rd_T78 x1 x8).f1) ((rd_T78 x1 x8).f2) ((rd_T78 x1 x8).f3) ((rd_T78 x1 x8).f4)).bind fun bt649 => (if bt649.2 = 0 then (spec_ApplyAll.l0 k x1 bt649.1 (wrap64 (x8 + 1))) else (some (x7, x8, bt649.2)))) else (none)) else (some (x7, (x1.length : Int), 0))
def spec_ApplyAll.f (k : Nat) (l0 : List (S80)) (l1 : List (S78)) : Option ((List (S80)) × Int × Int) := (spec_TreeOk.f k l0).bind fun t641 => (if t641 = true then ((spec_l3Copy.f l0).bind fun t645 => (spec_ApplyAll.l0 k l1 t645 0)) else (some ((([] : List (S80))), 0, 2)))
set_option maxHeartbeats 8000000 in
set_option maxRecDepth 100000 in
theorem spec_ApplyAll.calls (k : Nat) (A0 : Option Addr) (c0 : Nat) (l0 : List (S80)) (A1 : Option Addr) (c1 : Nat) (l1 : List (S78)) (r1 : List (S80)) (r2 : Int) (r3 : Int) (w : World) (hr0 : Kd.C k80 w A0 l0.length l0) (hc0 : l0.length ≤ c0) (hr1 : Kd.C k78 w A1 l1.length l1) (hc1 : l1.length ≤ c1) (h : spec_ApplyAll.f k l0 l1 = some (r1, r2, r3)) :
  Calls Try.prog 36 #[.slice A0 l0.length c0, .slice A1 l1.length c1] w fun e w' => ∃ v0_ : Value, e = .returned (.tuple #[v0_, .int .i64 r2, .int .i64 r3]) ∧ Kd.R k80 80 w' w.heap.size (fun _ => True) v0_ r1 ∧ Below w.heap.size w w' := by
 have hu78 := Try.underlying78
 have HR0 := Aside0.mk hr0
 have HC0 := Aside0.mk hc0
 clear hr0 hc0
 have HR1 := Aside0.mk hr1
 have HC1 := Aside0.mk hc1
 clear hr1 hc1
 have HB := Aside0.mk (Below.refl w.heap.size w)
 have H : ((spec_TreeOk.f k l0).bind fun t641 => (if t641 = true then ((spec_l3Copy.f l0).bind fun t645 => (spec_ApplyAll.l0 k l1 t645 0)) else (some ((([] : List (S80))), 0, 2)))) = some (r1, r2, r3) := h
 clear h
 obtain ⟨t641, A3, H⟩ := bnd_ H
 by_cases c4 : t641 = true
 ·subst c4
  replace H := ift_ H
  obtain ⟨t645, A5, H⟩ := bnd_ H
  have H' := Aside0.mk H
  clear H
  go_enter Try.func36, Try.ntmps36
  go_wp2_with (first | ((with_reducible refine gate_callee (f := 38) rfl ?_); refine goesL_ (some 12) rfl rfl Try.func38 (by kernel_rfl) rfl #[.slice A0 l0.length c0] rfl z1_ ?_; (with_reducible refine (spec_TreeOk.calls k _ _ l0 true _ ?side1 ?side2 A3.out).mono ?_); (case side1 => exact z17_); (case side2 => exact HC0.out); rintro e w6 ⟨rfl, hb⟩; refine ⟨_, rfl, ?_⟩; replace HB := Aside0.mk (below_step z0_ hb); (try clear hb)) | ((with_reducible refine gate_callee (f := 45) rfl ?_); refine goesL_ (some 16) rfl rfl Try.func45 (by kernel_rfl) rfl #[.slice A0 l0.length c0] rfl z1_ ?_; (with_reducible refine (spec_l3Copy.calls _ _ l0 t645 _ ?side1 ?side2 A5.out).mono ?_); (case side1 => exact z5_); (case side2 => exact HC0.out); rintro e w7 ⟨v646, rfl, ho0, hb⟩; refine ⟨_, rfl, ?_⟩; have HO647 := Aside0.mk (Kd.R_lower ho0 (below_size z0_)); replace HB := Aside0.mk (below_step z0_ hb); (try clear hb ho0)))
  go_loopg [7, 8] k (fun kq v7 v8 w' => ∃ (x7_1 : List (S80)) (x8_1 : Int), v8 = .int .i64 x8_1 ∧ Aside0 (spec_ApplyAll.l0 kq l1 x7_1 x8_1 = some (r1, r2, r3)) ∧ Aside0 (kq ≤ k) ∧ Aside0 (Kd.R k80 80 w' w.heap.size (fun _ => True) v7 x7_1) ∧ Aside0 (Below w.heap.size w w'))
  case atStart => exact ⟨(t645), (0), z11_, H', ⟨Nat.le_refl _⟩, ⟨by (with_reducible repeat (first | apply Kd.R_alloc | apply Kd.R_drewN | apply Kd.R_drew)); exact HO647.out⟩, ⟨z0_⟩⟩
  case round =>
   clear H'
   try clear c1
   try clear p2
   try clear c3
   try clear c4
   obtain ⟨x7_1, x8_1, rfl, HA, HK1, HO_7, HB⟩ := hrel
   cases gk with
   | zero => exact absurd HA.out (by simp [spec_ApplyAll.l0])
   | succ k1 =>
    have H := HA.out
    clear HA
    simp only [spec_ApplyAll.l0] at H
    by_cases c8 : x8_1 < (l1.length : Int)
    ·rw [if_pos c8] at H
     have c8b0 := decide_eq_true c8
     clear c8
     obtain ⟨c9b0, H⟩ := ifd_ H
     replace H := Option.bind_eq_some_iff.mp H
     obtain ⟨⟨t649, t652⟩, A100, H⟩ := H
     try dsimp only at H
     have A10 := Aside0.mk A100
     clear A100
     by_cases c11 : t652 = 0
     ·rw [if_pos c11] at H
      have c11b0 : (t652 == 0) = true := beq_iff_eq.mpr c11
      have c11b1 : (t652 != 0) = false := bne_eq_false_iff_eq.mpr c11
      clear c11
      have H' := Aside0.mk H
      clear H
      have p648 : 0 ≤ (x8_1 : Int) := odt_
      have q648 : x8_1 < (l1.length : Int) := odt_
      obtain ⟨ad648, A648_1, c648_1, e648, hx648_0, hx648_1, hx648_2, hx648_3, hx648_4, hl648_1, hi648_1⟩ := at_T78 HR1.out x8_1 p648 q648
      cases e648
      replace hx648_0 := (HB.out.cell (World.block_lt_of_cell? w _ hx648_0)).trans hx648_0
      replace hx648_1 := (HB.out.cell (World.block_lt_of_cell? w _ hx648_1)).trans hx648_1
      replace hx648_2 := (HB.out.cell (World.block_lt_of_cell? w _ hx648_2)).trans hx648_2
      replace hx648_3 := (HB.out.cell (World.block_lt_of_cell? w _ hx648_3)).trans hx648_3
      replace hx648_4 := (HB.out.cell (World.block_lt_of_cell? w _ hx648_4)).trans hx648_4
      have HR648_1 := Aside0.mk hi648_1
      have HC648_1 := Aside0.mk hl648_1
      clear hi648_1 hl648_1
      replace p648 := eq_true p648
      replace q648 := eq_true q648
      obtain ⟨Ao12, co12, eo12⟩ := Kd.R_slice HO_7.out
      subst eo12
      go_wp2_with (first | ((with_reducible refine gate_callee (f := 47) rfl ?_); refine goesL_ (some 29) rfl rfl Try.func47 (by kernel_rfl) rfl #[.slice Ao12 x7_1.length co12, .agg #[.int .i64 ((rd_T78 l1 x8_1).f0), .slice A648_1 ((rd_T78 l1 x8_1).f1).length c648_1, .int .i64 ((rd_T78 l1 x8_1).f2), .int .i64 ((rd_T78 l1 x8_1).f3), .int .i64 ((rd_T78 l1 x8_1).f4)]] rfl z1_ ?_; (with_reducible refine (spec_ApplyOp.calls k1 _ _ x7_1 ((rd_T78 l1 x8_1).f0) _ _ ((rd_T78 l1 x8_1).f1) ((rd_T78 l1 x8_1).f2) ((rd_T78 l1 x8_1).f3) ((rd_T78 l1 x8_1).f4) t649 t652 _ ?side1 ?side2 ?side3 ?side4 A10.out).mono ?_); (case side1 => exact z167_); (case side2 => exact z220_); (case side3 => exact z158_); (case side4 => exact HC648_1.out); rintro e w13 ⟨v650, rfl, ho0, hb⟩; refine ⟨_, rfl, ?_⟩; have HO651 := Aside0.mk (Kd.R_lower (Kd.R_new' ho0 (Kd.R_lt z92_)) (below_size z0_)); replace HO_7 := Aside0.mk (Kd.R_elder' z92_ (Kd.R_base ho0) hb); replace HB := Aside0.mk (below_step z0_ hb); (try clear hb ho0)))
      go_roundg k1
      case measure => have := HK1.out; omega
      case rel => exact ⟨(t649), (wrap64 (x8_1 + 1)), z11_, H', ⟨z106_⟩, ⟨by (with_reducible repeat (first | apply Kd.R_alloc | apply Kd.R_drewN | apply Kd.R_drew)); exact Kd.R_mono HO651.out (fun _ hk => trivial)⟩, ⟨z0_⟩⟩
     ·rw [if_neg c11] at H
      have c11b0 : (t652 == 0) = false := beq_eq_false_iff_ne.mpr c11
      have c11b1 : (t652 != 0) = true := bne_iff_ne.mpr c11
      simp only [Option.some.injEq, Prod.mk.injEq] at H
      obtain ⟨rfl, rfl, rfl⟩ := H
      have p648 : 0 ≤ (x8_1 : Int) := odt_
      have q648 : x8_1 < (l1.length : Int) := odt_
      obtain ⟨ad648, A648_1, c648_1, e648, hx648_0, hx648_1, hx648_2, hx648_3, hx648_4, hl648_1, hi648_1⟩ := at_T78 HR1.out x8_1 p648 q648
      cases e648
      replace hx648_0 := (HB.out.cell (World.block_lt_of_cell? w _ hx648_0)).trans hx648_0
      replace hx648_1 := (HB.out.cell (World.block_lt_of_cell? w _ hx648_1)).trans hx648_1
      replace hx648_2 := (HB.out.cell (World.block_lt_of_cell? w _ hx648_2)).trans hx648_2
      replace hx648_3 := (HB.out.cell (World.block_lt_of_cell? w _ hx648_3)).trans hx648_3
      replace hx648_4 := (HB.out.cell (World.block_lt_of_cell? w _ hx648_4)).trans hx648_4
      have HR648_1 := Aside0.mk hi648_1
      have HC648_1 := Aside0.mk hl648_1
      clear hi648_1 hl648_1
      replace p648 := eq_true p648
      replace q648 := eq_true q648
      obtain ⟨Ao14, co14, eo14⟩ := Kd.R_slice HO_7.out
      subst eo14
      go_wp2_with (first | ((with_reducible refine gate_callee (f := 47) rfl ?_); refine goesL_ (some 29) rfl rfl Try.func47 (by kernel_rfl) rfl #[.slice Ao14 x7_1.length co14, .agg #[.int .i64 ((rd_T78 l1 x8_1).f0), .slice A648_1 ((rd_T78 l1 x8_1).f1).length c648_1, .int .i64 ((rd_T78 l1 x8_1).f2), .int .i64 ((rd_T78 l1 x8_1).f3), .int .i64 ((rd_T78 l1 x8_1).f4)]] rfl z1_ ?_; (with_reducible refine (spec_ApplyOp.calls k1 _ _ x7_1 ((rd_T78 l1 x8_1).f0) _ _ ((rd_T78 l1 x8_1).f1) ((rd_T78 l1 x8_1).f2) ((rd_T78 l1 x8_1).f3) ((rd_T78 l1 x8_1).f4) t649 t652 _ ?side1 ?side2 ?side3 ?side4 A10.out).mono ?_); (case side1 => exact z167_); (case side2 => exact z220_); (case side3 => exact z158_); (case side4 => exact HC648_1.out); rintro e w15 ⟨v650, rfl, ho0, hb⟩; refine ⟨_, rfl, ?_⟩; have HO651 := Aside0.mk (Kd.R_lower (Kd.R_new' ho0 (Kd.R_lt z92_)) (below_size z0_)); replace HO_7 := Aside0.mk (Kd.R_elder' z92_ (Kd.R_base ho0) hb); replace HB := Aside0.mk (below_step z0_ hb); (try clear hb ho0)))
      go_ret3
      exact ⟨_, z6_, z192_, z0_⟩
    ·rw [if_neg c8] at H
     have c8b0 := decide_eq_false c8
     clear c8
     simp only [Option.some.injEq, Prod.mk.injEq] at H
     obtain ⟨rfl, rfl, rfl⟩ := H
     go_wp2
     go_ret3
     exact ⟨_, z6_, z92_, z0_⟩
 ·replace c4 := Bool.eq_false_iff.mpr c4
  subst c4
  replace H := iff_ H
  first | ((with_reducible have hz_ := gy_ H); obtain ⟨y642, Ny642, H⟩ := hz_) | (generalize hy_ : (([] : List (S80))) = y642 at H; have Ny642 := Aside0.mk hy_.symm; clear hy_)
  simp only [Option.some.injEq, Prod.mk.injEq] at H
  obtain ⟨rfl, rfl, rfl⟩ := H
  go_enter Try.func36, Try.ntmps36
  go_wp2_with (first | ((with_reducible refine gate_callee (f := 38) rfl ?_); refine goesL_ (some 12) rfl rfl Try.func38 (by kernel_rfl) rfl #[.slice A0 l0.length c0] rfl z1_ ?_; (with_reducible refine (spec_TreeOk.calls k _ _ l0 false _ ?side1 ?side2 A3.out).mono ?_); (case side1 => exact z17_); (case side2 => exact HC0.out); rintro e w16 ⟨rfl, hb⟩; refine ⟨_, rfl, ?_⟩; replace HB := Aside0.mk (below_step z0_ hb); (try clear hb)) | ((with_reducible refine gate_dst (N := 14) rfl ?_); refine Kd.R_lit k80 _ 80 ?hg (N := 14) ?hd (xs := ([] : List (S80))) (inner := []) (ok := fun _ => True) (okp := fun _ => True) ?hr ?hp (fun _ hk => hk) trivial (Below.refl _ _) (Nat.le_refl _) (by simp) ?_; (case hd => rfl); (case hg => rfl); (case hr => exact z20_); (case hp => exact z139_); intro v643 w17 ho18 hb hg_ hnew_; clear hg_ hnew_; (first | rw [← Ny642.out] at ho18 | (simp only [Int.reduceToNat] at ho18; rw [← Ny642.out] at ho18)); have HO644 := Aside0.mk (Kd.R_lower ho18 (below_size z0_)); replace HB := Aside0.mk (below_step z0_ hb); clear hb ho18))
  go_ret3
  exact ⟨_, z6_, by (with_reducible repeat (first | apply Kd.R_alloc | apply Kd.R_drewN | apply Kd.R_drew)); exact HO644.out, z0_⟩

/-! ### spec_SameTree: function 37 -/
def spec_SameTree.l0 : Nat → List (S80) → List (S80) → Int → Option (Bool)
 | 0, _, _, _ => none
 | k + 1, x0, x1, x5 => if x5 < (x0.length : Int) then (if 0 ≤ x5 then (if x5 < (x1.length : Int) then (if (!(((rd_T80 x0 x5).f0) == ((rd_T80 x1 x5).f0)) || (!(((rd_T80 x0 x5).f1) == ((rd_T80 x1 x5).f1)))) = true then (some false) else (spec_SameTree.l0 k x0 x1 (wrap64 (x5 + 1)))) else (none)) else (none)) else (some true)
def spec_SameTree.f (k : Nat) (l0 : List (S80)) (l1 : List (S80)) : Option (Bool) := if (l0.length : Int) = (l1.length : Int) then (spec_SameTree.l0 k l0 l1 0) else (some false)
set_option maxHeartbeats 8000000 in
set_option maxRecDepth 100000 in
theorem spec_SameTree.calls (k : Nat) (A0 : Option Addr) (c0 : Nat) (l0 : List (S80)) (A1 : Option Addr) (c1 : Nat) (l1 : List (S80)) (r : Bool) (w : World) (hr0 : Kd.C k80 w A0 l0.length l0) (hc0 : l0.length ≤ c0) (hr1 : Kd.C k80 w A1 l1.length l1) (hc1 : l1.length ≤ c1) (h : spec_SameTree.f k l0 l1 = some r) :
  Calls Try.prog 37 #[.slice A0 l0.length c0, .slice A1 l1.length c1] w fun e w' => e = .returned (.bool r) ∧ Drawn0 w w' := by
 have hu80 := Try.underlying80
 have HR0 := Aside0.mk hr0
 have HC0 := Aside0.mk hc0
 clear hr0 hc0
 have HR1 := Aside0.mk hr1
 have HC1 := Aside0.mk hc1
 clear hr1 hc1
 have H : (if (l0.length : Int) = (l1.length : Int) then (spec_SameTree.l0 k l0 l1 0) else (some false)) = some r := h
 clear h
 by_cases c3 : (l0.length : Int) = (l1.length : Int)
 ·rw [if_pos c3] at H
  have c3b0 : ((l0.length : Int) == (l1.length : Int)) = true := beq_iff_eq.mpr c3
  have c3b1 : ((l0.length : Int) != (l1.length : Int)) = false := bne_eq_false_iff_eq.mpr c3
  have c3b2 : (l0.length == l1.length) = true := by first | simpa using c3 | (simp at c3 ⊢; omega)
  clear c3
  have H' := Aside0.mk H
  clear H
  go_enter Try.func37, Try.ntmps37
  go_wp2
  repeat (go_quiet (fail); try go_wp2)
  go_loopg [5] k (fun kq v5 w' => ∃ (x5_1 : Int), v5 = .int .i64 x5_1 ∧ Aside0 (spec_SameTree.l0 kq l0 l1 x5_1 = some r) ∧ Aside0 (kq ≤ k) ∧ Drawn0 w w')
  case atStart => exact ⟨(0), z11_, H', ⟨Nat.le_refl _⟩, z50_⟩
  case round =>
   clear H'
   try clear c1
   try clear p2
   try clear c3
   try clear c3b0
   try clear c3b1
   try clear c3b2
   obtain ⟨x5_1, rfl, HA, HK1, ⟨m1, rfl⟩⟩ := hrel
   cases gk with
   | zero => exact absurd HA.out (by simp [spec_SameTree.l0])
   | succ k1 =>
    have H := HA.out
    clear HA
    simp only [spec_SameTree.l0] at H
    by_cases c4 : x5_1 < (l0.length : Int)
    ·rw [if_pos c4] at H
     have c4b0 := decide_eq_true c4
     clear c4
     obtain ⟨c5b0, H⟩ := ifd_ H
     obtain ⟨c6b0, H⟩ := ifd_ H
     by_cases c7 : (!(((rd_T80 l0 x5_1).f0) == ((rd_T80 l1 x5_1).f0)) || (!(((rd_T80 l0 x5_1).f1) == ((rd_T80 l1 x5_1).f1)))) = true
     ·rw [if_pos c7] at H
      have c7b0 : (!(((rd_T80 l0 x5_1).f0) == ((rd_T80 l1 x5_1).f0)) || (!(((rd_T80 l0 x5_1).f1) == ((rd_T80 l1 x5_1).f1)))) = true := c7
      clear c7
      obtain rfl := Option.some.inj H
      obtain ⟨p653, q653, ad653, e653, hx653_0, hx653_1⟩ := ato80_ HR0 x5_1
      cases e653
      obtain ⟨p654, q654, ad654, e654, hx654_0, hx654_1⟩ := ato80_ HR1 x5_1
      cases e654
      go_wp2
      repeat (go_quiet (fail); try go_wp2)
      go_ret
      exact ⟨z11_, z50_⟩
     ·rw [if_neg c7] at H
      have c7b0 : (!(((rd_T80 l0 x5_1).f0) == ((rd_T80 l1 x5_1).f0)) || (!(((rd_T80 l0 x5_1).f1) == ((rd_T80 l1 x5_1).f1)))) = false := by simpa using c7
      clear c7
      have H' := Aside0.mk H
      clear H
      obtain ⟨p653, q653, ad653, e653, hx653_0, hx653_1⟩ := ato80_ HR0 x5_1
      cases e653
      obtain ⟨p654, q654, ad654, e654, hx654_0, hx654_1⟩ := ato80_ HR1 x5_1
      cases e654
      go_wp2
      repeat (go_quiet (fail); try go_wp2)
      go_roundg k1
      case measure => have := HK1.out; omega
      case rel => exact ⟨(wrap64 (x5_1 + 1)), z11_, H', ⟨z106_⟩, z50_⟩
    ·rw [if_neg c4] at H
     have c4b0 := decide_eq_false c4
     clear c4
     obtain rfl := Option.some.inj H
     go_wp2
     repeat (go_quiet (fail); try go_wp2)
     go_ret
     exact ⟨z11_, z50_⟩
 ·rw [if_neg c3] at H
  have c3b0 : ((l0.length : Int) == (l1.length : Int)) = false := beq_eq_false_iff_ne.mpr c3
  have c3b1 : ((l0.length : Int) != (l1.length : Int)) = true := bne_iff_ne.mpr c3
  have c3b2 : (l0.length == l1.length) = false := by first | simpa using c3 | (simp at c3 ⊢; omega)
  obtain rfl := Option.some.inj H
  go_enter Try.func37, Try.ntmps37
  go_wp2
  repeat (go_quiet (fail); try go_wp2)
  go_ret
  exact ⟨z11_, z50_⟩

/-! ### impl_pricesOk_lit1: function 136 -/
def impl_pricesOk_lit1.f (a0 : Int) : Option (Bool) := (impl_within.f a0 0 1000).bind fun t655 => (some (!t655))
set_option maxHeartbeats 8000000 in
set_option maxRecDepth 100000 in
theorem impl_pricesOk_lit1.calls (a0 : Int) (r : Bool) (w : World) (h : impl_pricesOk_lit1.f a0 = some r) :
  Calls Try.prog 136 #[.int .i64 a0] w fun e w' => e = .returned (.bool r) ∧ Drawn0 w w' := by
 have H : ((impl_within.f a0 0 1000).bind fun t655 => (some (!t655))) = some r := h
 clear h
 obtain ⟨t655, A2, H⟩ := bnd_ H
 obtain rfl := Option.some.inj H
 go_enter Try.func136, Try.ntmps136
 go_wp2_with (first | ((with_reducible refine gate_callee (f := 63) rfl ?_); refine goesL_ (some 4) rfl rfl Try.func63 (by kernel_rfl) rfl #[.int .i64 a0, .int .i64 0, .int .i64 1000] rfl z1_ ?_; (with_reducible refine (impl_within.calls a0 0 1000 t655 _ A2.out).mono ?_); rintro e w' ⟨rfl, ⟨nd, rfl⟩⟩; refine ⟨_, rfl, ?_⟩))
 go_ret
 exact ⟨z11_, z50_⟩

/-! ### slices_IndexFunc_int_int: function 144 -/
def slices_IndexFunc_int_int.l0 : Nat → List Int → Int → Int → Option (Int)
 | 0, _, _, _ => none
 | k + 1, x0, x7, x8 => if x8 < x7 then (if 0 ≤ x8 then (if x8 < (x0.length : Int) then ((impl_pricesOk_lit1.f (rd x0 x8)).bind fun t657 => (if t657 = true then (some x8) else (slices_IndexFunc_int_int.l0 k x0 x7 (wrap64 (x8 + 1))))) else (none)) else (none)) else (some (-1))
def slices_IndexFunc_int_int.f (k : Nat) (l0 : List Int) : Option (Int) := slices_IndexFunc_int_int.l0 k l0 (l0.length : Int) 0
set_option maxHeartbeats 8000000 in
set_option maxRecDepth 100000 in
theorem slices_IndexFunc_int_int.calls (k : Nat) (A0 : Option Addr) (c0 : Nat) (l0 : List Int) (r : Int) (w : World) (hr0 : Kd.C (Kd.int .i64) w A0 l0.length l0) (hc0 : l0.length ≤ c0) (h : slices_IndexFunc_int_int.f k l0 = some r) :
  Calls Try.prog 144 #[.slice A0 l0.length c0, .func (.func 136) #[] #[]] w fun e w' => e = .returned (.int .i64 r) ∧ Drawn0 w w' := by
 have HR0 := Aside0.mk hr0
 have HC0 := Aside0.mk hc0
 clear hr0 hc0
 have H : (slices_IndexFunc_int_int.l0 k l0 (l0.length : Int) 0) = some r := h
 clear h
 have H' := Aside0.mk H
 clear H
 go_enter Try.func144, Try.ntmps144
 go_wp2
 go_loopg [8] k (fun kq v8 w' => ∃ (x8_1 : Int), v8 = .int .i64 x8_1 ∧ Aside0 (slices_IndexFunc_int_int.l0 kq l0 (l0.length : Int) x8_1 = some r) ∧ Aside0 (kq ≤ k) ∧ Drawn0 w w')
 case atStart => exact ⟨(0), z11_, H', ⟨Nat.le_refl _⟩, z50_⟩
 case round =>
  clear H'
  try clear c1
  obtain ⟨x8_1, rfl, HA, HK1, ⟨m1, rfl⟩⟩ := hrel
  cases gk with
  | zero => exact absurd HA.out (by simp [slices_IndexFunc_int_int.l0])
  | succ k1 =>
   have H := HA.out
   clear HA
   simp only [slices_IndexFunc_int_int.l0] at H
   by_cases c2 : x8_1 < (l0.length : Int)
   ·rw [if_pos c2] at H
    have c2b0 := decide_eq_true c2
    clear c2
    obtain ⟨c3b0, H⟩ := ifd_ H
    obtain ⟨c4b0, H⟩ := ifd_ H
    obtain ⟨t657, A5, H⟩ := bnd_ H
    by_cases c6 : t657 = true
    ·subst c6
     replace H := ift_ H
     obtain rfl := Option.some.inj H
     have p656 : 0 ≤ (x8_1 : Int) := odt_
     have q656 : x8_1 < (l0.length : Int) := odt_
     obtain ⟨ad656, e656, hx656_0⟩ := Kd.at_int HR0.out x8_1 p656 q656
     cases e656
     replace p656 := eq_true p656
     replace q656 := eq_true q656
     go_wp2_with (first | (go_at_call 136; (with_reducible refine (impl_pricesOk_lit1.calls (rd l0 x8_1) true _ A5.out).mono ?_); rintro e w' ⟨rfl, ⟨nd, rfl⟩⟩))
     go_ret
     exact ⟨z11_, z50_⟩
    ·replace c6 := Bool.eq_false_iff.mpr c6
     subst c6
     replace H := iff_ H
     have H' := Aside0.mk H
     clear H
     have p656 : 0 ≤ (x8_1 : Int) := odt_
     have q656 : x8_1 < (l0.length : Int) := odt_
     obtain ⟨ad656, e656, hx656_0⟩ := Kd.at_int HR0.out x8_1 p656 q656
     cases e656
     replace p656 := eq_true p656
     replace q656 := eq_true q656
     go_wp2_with (first | (go_at_call 136; (with_reducible refine (impl_pricesOk_lit1.calls (rd l0 x8_1) false _ A5.out).mono ?_); rintro e w' ⟨rfl, ⟨nd, rfl⟩⟩))
     go_roundg k1
     case measure => have := HK1.out; omega
     case rel => exact ⟨(wrap64 (x8_1 + 1)), z11_, H', ⟨z106_⟩, z50_⟩
   ·rw [if_neg c2] at H
    have c2b0 := decide_eq_false c2
    clear c2
    obtain rfl := Option.some.inj H
    go_wp2
    go_ret
    exact ⟨z11_, z50_⟩

/-! ### slices_ContainsFunc_int_int: function 135 -/
def slices_ContainsFunc_int_int.f (k : Nat) (l0 : List Int) : Option (Bool) := (slices_IndexFunc_int_int.f k l0).bind fun t658 => (some (decide (t658 ≥ 0)))
set_option maxHeartbeats 8000000 in
set_option maxRecDepth 100000 in
theorem slices_ContainsFunc_int_int.calls (k : Nat) (A0 : Option Addr) (c0 : Nat) (l0 : List Int) (r : Bool) (w : World) (hr0 : Kd.C (Kd.int .i64) w A0 l0.length l0) (hc0 : l0.length ≤ c0) (h : slices_ContainsFunc_int_int.f k l0 = some r) :
  Calls Try.prog 135 #[.slice A0 l0.length c0, .func (.func 136) #[] #[]] w fun e w' => e = .returned (.bool r) ∧ Drawn0 w w' := by
 have HR0 := Aside0.mk hr0
 have HC0 := Aside0.mk hc0
 clear hr0 hc0
 have H : ((slices_IndexFunc_int_int.f k l0).bind fun t658 => (some (decide (t658 ≥ 0)))) = some r := h
 clear h
 obtain ⟨t658, A2, H⟩ := bnd_ H
 obtain rfl := Option.some.inj H
 go_enter Try.func135, Try.ntmps135
 go_wp2_with (first | ((with_reducible refine gate_callee (f := 144) rfl ?_); refine goesL_ (some 7) rfl rfl Try.func144 (by kernel_rfl) rfl #[.slice A0 l0.length c0, .func (.func 136) #[] #[]] rfl z1_ ?_; (with_reducible refine (slices_IndexFunc_int_int.calls k _ _ l0 t658 _ ?side1 ?side2 A2.out).mono ?_); (case side1 => exact z17_); (case side2 => exact HC0.out); rintro e w' ⟨rfl, ⟨nd, rfl⟩⟩; refine ⟨_, rfl, ?_⟩))
 go_ret
 exact ⟨z11_, z50_⟩

/-! ### impl_pricesOk: function 115 -/
def impl_pricesOk.f (k : Nat) (l0 : List Int) (a1 : Int) : Option (Bool) := if (l0.length : Int) = a1 then ((slices_ContainsFunc_int_int.f k l0).bind fun t659 => (some (!t659))) else (some false)
set_option maxHeartbeats 8000000 in
set_option maxRecDepth 100000 in
theorem impl_pricesOk.calls (k : Nat) (A0 : Option Addr) (c0 : Nat) (l0 : List Int) (a1 : Int) (r : Bool) (w : World) (hr0 : Kd.C (Kd.int .i64) w A0 l0.length l0) (hc0 : l0.length ≤ c0) (h : impl_pricesOk.f k l0 a1 = some r) :
  Calls Try.prog 115 #[.slice A0 l0.length c0, .int .i64 a1] w fun e w' => e = .returned (.bool r) ∧ Drawn0 w w' := by
 have HR0 := Aside0.mk hr0
 have HC0 := Aside0.mk hc0
 clear hr0 hc0
 have H : (if (l0.length : Int) = a1 then ((slices_ContainsFunc_int_int.f k l0).bind fun t659 => (some (!t659))) else (some false)) = some r := h
 clear h
 by_cases c3 : (l0.length : Int) = a1
 ·rw [if_pos c3] at H
  have c3b0 : ((l0.length : Int) == a1) = true := beq_iff_eq.mpr c3
  have c3b1 : ((l0.length : Int) != a1) = false := bne_eq_false_iff_eq.mpr c3
  clear c3
  obtain ⟨t659, A4, H⟩ := bnd_ H
  obtain rfl := Option.some.inj H
  go_enter Try.func115, Try.ntmps115
  go_wp2_with (first | (go_at_call 135; (with_reducible refine (slices_ContainsFunc_int_int.calls k _ _ l0 t659 _ ?side1 ?side2 A4.out).mono ?_); (case side1 => exact z17_); (case side2 => exact HC0.out); rintro e w' ⟨rfl, ⟨nd, rfl⟩⟩))
  go_ret
  exact ⟨z11_, z50_⟩
 ·rw [if_neg c3] at H
  have c3b0 : ((l0.length : Int) == a1) = false := beq_eq_false_iff_ne.mpr c3
  have c3b1 : ((l0.length : Int) != a1) = true := bne_iff_ne.mpr c3
  obtain rfl := Option.some.inj H
  go_enter Try.func115, Try.ntmps115
  go_wp2
  go_ret
  exact ⟨z11_, z50_⟩

end Go.Proofs.Ytdapeboajjidmaa.PFnJoined
