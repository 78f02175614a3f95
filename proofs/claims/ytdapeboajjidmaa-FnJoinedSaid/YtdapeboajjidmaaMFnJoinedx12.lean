/- Laid by a program of this session out of the kit's print for the law FnJoined: what it says of the machine is proved here, function by function; each contract under the conditions that it names. -/
import Derived.Test.YtdapeboajjidmaaMFnJoinedx0
import Derived.Test.YtdapeboajjidmaaMFnJoinedx11
import Derived.Deep.RegionLaw
import Derived.Lib.Overlaps
import Derived.Laws.Externs
import Derived.Lib.AppendZeros
import Derived.Lib.AppendZerosOnto
import Derived.Laws.NewBlocks
import Derived.Lib.SliceRun
import Derived.Test.YtdapeboajjidmaaSliceOps
namespace Go.Proofs.Ytdapeboajjidmaa.PFnJoined
open Go.RowKit Go.Proofs.YtdapeboajjidmaaW.PrintWords Go.Proofs.YtdapeboajjidmaaW.PrintLast Go.Proofs.YtdapeboajjidmaaW.PrintMore Go.Proofs.Ytdapeboajjidmaa.SliceOps
attribute [local go_sem] max2_int min2_int max_two min_two max_three min_three max_four min_four   -- for this text's walks alone
set_option linter.unusedVariables false
set_option linter.unusedSimpArgs false

/-! ### spec_SameOps: function 34 -/
def spec_SameOps.l0 : Nat → List (S78) → List (S78) → Int → Option (Bool)
 | 0, _, _, _ => none
 | k + 1, x0, x1, x5 => if x5 < (x0.length : Int) then (if 0 ≤ x5 then (if x5 < (x1.length : Int) then ((spec_l15Same.f k ((rd_T78 x0 x5).f0) ((rd_T78 x0 x5).f1) ((rd_T78 x0 x5).f2) ((rd_T78 x0 x5).f3) ((rd_T78 x0 x5).f4) ((rd_T78 x1 x5).f0) ((rd_T78 x1 x5).f1) ((rd_T78 x1 x5).f2) ((rd_T78 x1 x5).f3) ((rd_T78 x1 x5).f4)).bind fun t531 => (if t531 = true then (spec_SameOps.l0 k x0 x1 (wrap64 (x5 + 1))) else (some false))) else (none)) else (none)) else (some true)
def spec_SameOps.f (k : Nat) (l0 : List (S78)) (l1 : List (S78)) : Option (Bool) := if (l0.length : Int) = (l1.length : Int) then (spec_SameOps.l0 k l0 l1 0) else (some false)
def spec_SameOps.T6 : Bool × List (List Nat × List Nat) := (true, [([], []), ([], []), ([0, 1], [0, 1]), ([2], [2]), ([], []), ([], []), ([4, 5], [4, 5]), ([6], [6]), ([3, 7], [3, 7]), ([8], [8])])
def spec_SameOps.B6 : List Nat := [0, 0, 3, 7, 0, 0, 48, 112, 255, 511]
theorem spec_SameOps.tab6 : rtab .any (opsOf Try.f34 6) = spec_SameOps.T6 := by kernel_rfl
theorem spec_SameOps.bits6 : waitsOk spec_SameOps.T6.2 spec_SameOps.B6 = true := by kernel_rfl
set_option maxHeartbeats 8000000 in
set_option maxRecDepth 100000 in
theorem spec_SameOps.calls (k : Nat) (A0 : Option Addr) (c0 : Nat) (l0 : List (S78)) (A1 : Option Addr) (c1 : Nat) (l1 : List (S78)) (r : Bool) (w : World) (hr0 : Kd.C k78 w A0 l0.length l0) (hc0 : l0.length ≤ c0) (hr1 : Kd.C k78 w A1 l1.length l1) (hc1 : l1.length ≤ c1) (h : spec_SameOps.f k l0 l1 = some r) :
  Calls Try.prog 34 #[.slice A0 l0.length c0, .slice A1 l1.length c1] w fun e w' => e = .returned (.bool r) ∧ Below w.heap.size w w' := by
 have hu78 := Try.underlying78
 have HR0 := Aside0.mk hr0
 have HC0 := Aside0.mk hc0
 clear hr0 hc0
 have HR1 := Aside0.mk hr1
 have HC1 := Aside0.mk hc1
 clear hr1 hc1
 have HB := Aside0.mk (Below.refl w.heap.size w)
 have H : (if (l0.length : Int) = (l1.length : Int) then (spec_SameOps.l0 k l0 l1 0) else (some false)) = some r := h
 clear h
 by_cases c3 : (l0.length : Int) = (l1.length : Int)
 ·rw [if_pos c3] at H
  have c3b0 : ((l0.length : Int) == (l1.length : Int)) = true := beq_iff_eq.mpr c3
  have c3b1 : ((l0.length : Int) != (l1.length : Int)) = false := bne_eq_false_iff_eq.mpr c3
  have c3b2 : (l0.length == l1.length) = true := by first | simpa using c3 | (simp at c3 ⊢; omega)
  clear c3
  have H' := Aside0.mk H
  clear H
  go_enter Try.func34, Try.ntmps34
  go_wp2
  go_loopg [5] k (fun kq v5 w' => ∃ (x5_1 : Int), v5 = .int .i64 x5_1 ∧ Aside0 (spec_SameOps.l0 kq l0 l1 x5_1 = some r) ∧ Aside0 (kq ≤ k) ∧ Aside0 (Below w.heap.size w w'))
  case atStart => exact ⟨(0), z11_, H', ⟨Nat.le_refl _⟩, ⟨z0_⟩⟩
  case round =>
   clear H'
   try clear c1
   try clear p2
   try clear c3
   try clear c3b0
   try clear c3b1
   try clear c3b2
   obtain ⟨x5_1, rfl, HA, HK1, HB⟩ := hrel
   cases gk with
   | zero => exact absurd HA.out (by simp [spec_SameOps.l0])
   | succ k1 =>
    have H := HA.out
    clear HA
    simp only [spec_SameOps.l0] at H
    by_cases c4 : x5_1 < (l0.length : Int)
    ·rw [if_pos c4] at H
     have c4b0 := decide_eq_true c4
     clear c4
     obtain ⟨c5b0, H⟩ := ifd_ H
     obtain ⟨c6b0, H⟩ := ifd_ H
     obtain ⟨t531, A7, H⟩ := bnd_ H
     by_cases c8 : t531 = true
     ·subst c8
      replace H := ift_ H
      have H' := Aside0.mk H
      clear H
      try go_wp2
      have n0_ := Aside0.mk (below_drew1 HB.out)
      clear HB
      have HB := n0_
      clear n0_
      have p529 : 0 ≤ (x5_1 : Int) := odt_
      have q529 : x5_1 < (l0.length : Int) := odt_
      obtain ⟨ad529, A529_1, c529_1, e529, hx529_0, hx529_1, hx529_2, hx529_3, hx529_4, hl529_1, hi529_1⟩ := at_T78 HR0.out x5_1 p529 q529
      have hw529_4 := hx529_4
      have hw529_3 := hx529_3
      have hw529_2 := hx529_2
      have hw529_1 := hx529_1
      have hw529_0 := hx529_0
      cases e529
      replace hx529_0 := (HB.out.cell (World.block_lt_of_cell? w _ hx529_0)).trans hx529_0
      replace hx529_1 := (HB.out.cell (World.block_lt_of_cell? w _ hx529_1)).trans hx529_1
      replace hx529_2 := (HB.out.cell (World.block_lt_of_cell? w _ hx529_2)).trans hx529_2
      replace hx529_3 := (HB.out.cell (World.block_lt_of_cell? w _ hx529_3)).trans hx529_3
      replace hx529_4 := (HB.out.cell (World.block_lt_of_cell? w _ hx529_4)).trans hx529_4
      have HR529_1 := Aside0.mk hi529_1
      have HC529_1 := Aside0.mk hl529_1
      clear hi529_1 hl529_1
      replace p529 := eq_true p529
      replace q529 := eq_true q529
      have p530 : 0 ≤ (x5_1 : Int) := odt_
      have q530 : x5_1 < (l1.length : Int) := odt_
      obtain ⟨ad530, A530_1, c530_1, e530, hx530_0, hx530_1, hx530_2, hx530_3, hx530_4, hl530_1, hi530_1⟩ := at_T78 HR1.out x5_1 p530 q530
      have hw530_4 := hx530_4
      have hw530_3 := hx530_3
      have hw530_2 := hx530_2
      have hw530_1 := hx530_1
      have hw530_0 := hx530_0
      cases e530
      replace hx530_0 := (HB.out.cell (World.block_lt_of_cell? w _ hx530_0)).trans hx530_0
      replace hx530_1 := (HB.out.cell (World.block_lt_of_cell? w _ hx530_1)).trans hx530_1
      replace hx530_2 := (HB.out.cell (World.block_lt_of_cell? w _ hx530_2)).trans hx530_2
      replace hx530_3 := (HB.out.cell (World.block_lt_of_cell? w _ hx530_3)).trans hx530_3
      replace hx530_4 := (HB.out.cell (World.block_lt_of_cell? w _ hx530_4)).trans hx530_4
      have HR530_1 := Aside0.mk hi530_1
      have HC530_1 := Aside0.mk hl530_1
      clear hi530_1 hl530_1
      replace p530 := eq_true p530
      replace q530 := eq_true q530
      refine start_ (n := 10) (S := fun w' => w'.cell? (ad529.add ((x5_1).toNat * 5)) = some (.int .i64 ((rd_T78 l0 x5_1).f0)) ∧ w'.cell? ⟨(ad529.add ((x5_1).toNat * 5)).block, (ad529.add ((x5_1).toNat * 5)).off + 1, none⟩ = some (.slice A529_1 ((rd_T78 l0 x5_1).f1).length c529_1) ∧ w'.cell? ⟨(ad529.add ((x5_1).toNat * 5)).block, (ad529.add ((x5_1).toNat * 5)).off + 2, none⟩ = some (.int .i64 ((rd_T78 l0 x5_1).f2)) ∧ w'.cell? ⟨(ad529.add ((x5_1).toNat * 5)).block, (ad529.add ((x5_1).toNat * 5)).off + 3, none⟩ = some (.int .i64 ((rd_T78 l0 x5_1).f3)) ∧ w'.cell? ⟨(ad529.add ((x5_1).toNat * 5)).block, (ad529.add ((x5_1).toNat * 5)).off + 4, none⟩ = some (.int .i64 ((rd_T78 l0 x5_1).f4)) ∧ w'.cell? (ad530.add ((x5_1).toNat * 5)) = some (.int .i64 ((rd_T78 l1 x5_1).f0)) ∧ w'.cell? ⟨(ad530.add ((x5_1).toNat * 5)).block, (ad530.add ((x5_1).toNat * 5)).off + 1, none⟩ = some (.slice A530_1 ((rd_T78 l1 x5_1).f1).length c530_1) ∧ w'.cell? ⟨(ad530.add ((x5_1).toNat * 5)).block, (ad530.add ((x5_1).toNat * 5)).off + 2, none⟩ = some (.int .i64 ((rd_T78 l1 x5_1).f2)) ∧ w'.cell? ⟨(ad530.add ((x5_1).toNat * 5)).block, (ad530.add ((x5_1).toNat * 5)).off + 3, none⟩ = some (.int .i64 ((rd_T78 l1 x5_1).f3)) ∧ w'.cell? ⟨(ad530.add ((x5_1).toNat * 5)).block, (ad530.add ((x5_1).toNat * 5)).off + 4, none⟩ = some (.int .i64 ((rd_T78 l1 x5_1).f4))) (ds := []) (fl_ 10 0) (by kernel_rfl) rfl (fl_zero _) ⟨((HB.out.cell (World.block_lt_of_cell? w _ hw529_0)).trans hw529_0), ((HB.out.cell (World.block_lt_of_cell? w _ hw529_1)).trans hw529_1), ((HB.out.cell (World.block_lt_of_cell? w _ hw529_2)).trans hw529_2), ((HB.out.cell (World.block_lt_of_cell? w _ hw529_3)).trans hw529_3), ((HB.out.cell (World.block_lt_of_cell? w _ hw529_4)).trans hw529_4), ((HB.out.cell (World.block_lt_of_cell? w _ hw530_0)).trans hw530_0), ((HB.out.cell (World.block_lt_of_cell? w _ hw530_1)).trans hw530_1), ((HB.out.cell (World.block_lt_of_cell? w _ hw530_2)).trans hw530_2), ((HB.out.cell (World.block_lt_of_cell? w _ hw530_3)).trans hw530_3), ((HB.out.cell (World.block_lt_of_cell? w _ hw530_4)).trans hw530_4)⟩ (fun hHeld => ?_); refine with_tabW spec_SameOps.tab6 spec_SameOps.bits6 (fun HT_ HW_ => ?_)
      generalize wr.drew = w9 at HB HR529_1 HR530_1 hx529_0 hx529_1 hx529_2 hx529_3 hx529_4 hx530_0 hx530_1 hx530_2 hx530_3 hx530_4 hHeld ⊢
      iterate 3 refine zp_ HT_ rfl rfl (by kernel_rfl) (fun _ _ _ h => h) (by rfl) ?_
      refine zpg_ (i := 4) (ra_ [3, 1, 1, 5]) HT_ rfl rfl (by kernel_rfl) (fun _ _ _ h => h) (by rfl) ?_
      refine zpg_ (i := 5) (ra_ [3, 1, 2, 4]) HT_ rfl rfl (by kernel_rfl) (fun _ _ _ h => h) (by rfl) ?_
      refine zpg_ (i := 6) (ra_ [3, 1, 3, 3]) HT_ rfl rfl (by kernel_rfl) (fun _ _ _ h => h) (by rfl) ?_
      refine ztg_ (i := 3) (fl_ 10 7) HT_ HW_ rfl rfl (by kernel_rfl) (fun _ _ _ h => h) (by rfl) hHeld ?_ z121_
      refine zt_ HT_ HW_ rfl rfl (by kernel_rfl) (fun _ _ _ h => h) (by rfl) hHeld ?_ z121_
      refine one_ (i := 8) (N := some 25) (fl_ 10 9) rfl rfl (one_of HT_.out (by kernel_rfl)) (by decide) (fun K hK => ?_)
      refine goes_ Try.func74 (by kernel_rfl) rfl #[.agg #[.int .i64 ((rd_T78 l0 x5_1).f0), .slice A529_1 ((rd_T78 l0 x5_1).f1).length c529_1, .int .i64 ((rd_T78 l0 x5_1).f2), .int .i64 ((rd_T78 l0 x5_1).f3), .int .i64 ((rd_T78 l0 x5_1).f4)], .agg #[.int .i64 ((rd_T78 l1 x5_1).f0), .slice A530_1 ((rd_T78 l1 x5_1).f1).length c530_1, .int .i64 ((rd_T78 l1 x5_1).f2), .int .i64 ((rd_T78 l1 x5_1).f3), .int .i64 ((rd_T78 l1 x5_1).f4)]] (by rfl) rfl rfl z1_ ?_
      with_reducible refine (spec_l15Same.calls k1 ((rd_T78 l0 x5_1).f0) _ _ ((rd_T78 l0 x5_1).f1) ((rd_T78 l0 x5_1).f2) ((rd_T78 l0 x5_1).f3) ((rd_T78 l0 x5_1).f4) ((rd_T78 l1 x5_1).f0) _ _ ((rd_T78 l1 x5_1).f1) ((rd_T78 l1 x5_1).f2) ((rd_T78 l1 x5_1).f3) ((rd_T78 l1 x5_1).f4) true _ ?side1 ?side2 ?side3 ?side4 A7.out).mono ?_
      (case side1 => exact z156_)
      (case side2 => exact HC529_1.out)
      (case side3 => exact z157_)
      (case side4 => exact HC530_1.out)
      rintro e w10 ⟨rfl, hb⟩
      refine ⟨_, rfl, ?_⟩
      have n0_ := Aside0.mk (below_step z0_ hb)
      clear HB
      have HB := n0_
      clear n0_
      (try clear hb)
      (try clear hb2)
      (try clear hk)
      (try clear hi)
      refine hK.out _ _ ⟨((HB.out.cell (World.block_lt_of_cell? w _ hw529_0)).trans hw529_0), ((HB.out.cell (World.block_lt_of_cell? w _ hw529_1)).trans hw529_1), ((HB.out.cell (World.block_lt_of_cell? w _ hw529_2)).trans hw529_2), ((HB.out.cell (World.block_lt_of_cell? w _ hw529_3)).trans hw529_3), ((HB.out.cell (World.block_lt_of_cell? w _ hw529_4)).trans hw529_4), ((HB.out.cell (World.block_lt_of_cell? w _ hw530_0)).trans hw530_0), ((HB.out.cell (World.block_lt_of_cell? w _ hw530_1)).trans hw530_1), ((HB.out.cell (World.block_lt_of_cell? w _ hw530_2)).trans hw530_2), ((HB.out.cell (World.block_lt_of_cell? w _ hw530_3)).trans hw530_3), ((HB.out.cell (World.block_lt_of_cell? w _ hw530_4)).trans hw530_4)⟩ (fun hHeld => ?_)
      clear hK K
      refine zn_ rfl ?_
      refine zp_ HT_ rfl rfl (by kernel_rfl) (fun _ _ _ h => h) (by rfl) ?_
      refine done_ (done_of HT_.out (by kernel_rfl)) ?_
      try go_wp2
      go_roundg k1
      case measure => have := HK1.out; omega
      case rel => exact ⟨(wrap64 (x5_1 + 1)), z11_, H', ⟨z106_⟩, ⟨z0_⟩⟩
     ·replace c8 := Bool.eq_false_iff.mpr c8
      subst c8
      replace H := iff_ H
      obtain rfl := Option.some.inj H
      try go_wp2
      have n0_ := Aside0.mk (below_drew1 HB.out)
      clear HB
      have HB := n0_
      clear n0_
      have p529 : 0 ≤ (x5_1 : Int) := odt_
      have q529 : x5_1 < (l0.length : Int) := odt_
      obtain ⟨ad529, A529_1, c529_1, e529, hx529_0, hx529_1, hx529_2, hx529_3, hx529_4, hl529_1, hi529_1⟩ := at_T78 HR0.out x5_1 p529 q529
      have hw529_4 := hx529_4
      have hw529_3 := hx529_3
      have hw529_2 := hx529_2
      have hw529_1 := hx529_1
      have hw529_0 := hx529_0
      cases e529
      replace hx529_0 := (HB.out.cell (World.block_lt_of_cell? w _ hx529_0)).trans hx529_0
      replace hx529_1 := (HB.out.cell (World.block_lt_of_cell? w _ hx529_1)).trans hx529_1
      replace hx529_2 := (HB.out.cell (World.block_lt_of_cell? w _ hx529_2)).trans hx529_2
      replace hx529_3 := (HB.out.cell (World.block_lt_of_cell? w _ hx529_3)).trans hx529_3
      replace hx529_4 := (HB.out.cell (World.block_lt_of_cell? w _ hx529_4)).trans hx529_4
      have HR529_1 := Aside0.mk hi529_1
      have HC529_1 := Aside0.mk hl529_1
      clear hi529_1 hl529_1
      replace p529 := eq_true p529
      replace q529 := eq_true q529
      have p530 : 0 ≤ (x5_1 : Int) := odt_
      have q530 : x5_1 < (l1.length : Int) := odt_
      obtain ⟨ad530, A530_1, c530_1, e530, hx530_0, hx530_1, hx530_2, hx530_3, hx530_4, hl530_1, hi530_1⟩ := at_T78 HR1.out x5_1 p530 q530
      have hw530_4 := hx530_4
      have hw530_3 := hx530_3
      have hw530_2 := hx530_2
      have hw530_1 := hx530_1
      have hw530_0 := hx530_0
      cases e530
      replace hx530_0 := (HB.out.cell (World.block_lt_of_cell? w _ hx530_0)).trans hx530_0
      replace hx530_1 := (HB.out.cell (World.block_lt_of_cell? w _ hx530_1)).trans hx530_1
      replace hx530_2 := (HB.out.cell (World.block_lt_of_cell? w _ hx530_2)).trans hx530_2
      replace hx530_3 := (HB.out.cell (World.block_lt_of_cell? w _ hx530_3)).trans hx530_3
      replace hx530_4 := (HB.out.cell (World.block_lt_of_cell? w _ hx530_4)).trans hx530_4
      have HR530_1 := Aside0.mk hi530_1
      have HC530_1 := Aside0.mk hl530_1
      clear hi530_1 hl530_1
      replace p530 := eq_true p530
      replace q530 := eq_true q530
      refine start_ (n := 10) (S := fun w' => w'.cell? (ad529.add ((x5_1).toNat * 5)) = some (.int .i64 ((rd_T78 l0 x5_1).f0)) ∧ w'.cell? ⟨(ad529.add ((x5_1).toNat * 5)).block, (ad529.add ((x5_1).toNat * 5)).off + 1, none⟩ = some (.slice A529_1 ((rd_T78 l0 x5_1).f1).length c529_1) ∧ w'.cell? ⟨(ad529.add ((x5_1).toNat * 5)).block, (ad529.add ((x5_1).toNat * 5)).off + 2, none⟩ = some (.int .i64 ((rd_T78 l0 x5_1).f2)) ∧ w'.cell? ⟨(ad529.add ((x5_1).toNat * 5)).block, (ad529.add ((x5_1).toNat * 5)).off + 3, none⟩ = some (.int .i64 ((rd_T78 l0 x5_1).f3)) ∧ w'.cell? ⟨(ad529.add ((x5_1).toNat * 5)).block, (ad529.add ((x5_1).toNat * 5)).off + 4, none⟩ = some (.int .i64 ((rd_T78 l0 x5_1).f4)) ∧ w'.cell? (ad530.add ((x5_1).toNat * 5)) = some (.int .i64 ((rd_T78 l1 x5_1).f0)) ∧ w'.cell? ⟨(ad530.add ((x5_1).toNat * 5)).block, (ad530.add ((x5_1).toNat * 5)).off + 1, none⟩ = some (.slice A530_1 ((rd_T78 l1 x5_1).f1).length c530_1) ∧ w'.cell? ⟨(ad530.add ((x5_1).toNat * 5)).block, (ad530.add ((x5_1).toNat * 5)).off + 2, none⟩ = some (.int .i64 ((rd_T78 l1 x5_1).f2)) ∧ w'.cell? ⟨(ad530.add ((x5_1).toNat * 5)).block, (ad530.add ((x5_1).toNat * 5)).off + 3, none⟩ = some (.int .i64 ((rd_T78 l1 x5_1).f3)) ∧ w'.cell? ⟨(ad530.add ((x5_1).toNat * 5)).block, (ad530.add ((x5_1).toNat * 5)).off + 4, none⟩ = some (.int .i64 ((rd_T78 l1 x5_1).f4))) (ds := []) (fl_ 10 0) (by kernel_rfl) rfl (fl_zero _) ⟨((HB.out.cell (World.block_lt_of_cell? w _ hw529_0)).trans hw529_0), ((HB.out.cell (World.block_lt_of_cell? w _ hw529_1)).trans hw529_1), ((HB.out.cell (World.block_lt_of_cell? w _ hw529_2)).trans hw529_2), ((HB.out.cell (World.block_lt_of_cell? w _ hw529_3)).trans hw529_3), ((HB.out.cell (World.block_lt_of_cell? w _ hw529_4)).trans hw529_4), ((HB.out.cell (World.block_lt_of_cell? w _ hw530_0)).trans hw530_0), ((HB.out.cell (World.block_lt_of_cell? w _ hw530_1)).trans hw530_1), ((HB.out.cell (World.block_lt_of_cell? w _ hw530_2)).trans hw530_2), ((HB.out.cell (World.block_lt_of_cell? w _ hw530_3)).trans hw530_3), ((HB.out.cell (World.block_lt_of_cell? w _ hw530_4)).trans hw530_4)⟩ (fun hHeld => ?_); refine with_tabW spec_SameOps.tab6 spec_SameOps.bits6 (fun HT_ HW_ => ?_)
      generalize wr.drew = w11 at HB HR529_1 HR530_1 hx529_0 hx529_1 hx529_2 hx529_3 hx529_4 hx530_0 hx530_1 hx530_2 hx530_3 hx530_4 hHeld ⊢
      iterate 3 refine zp_ HT_ rfl rfl (by kernel_rfl) (fun _ _ _ h => h) (by rfl) ?_
      refine zpg_ (i := 4) (ra_ [3, 1, 1, 5]) HT_ rfl rfl (by kernel_rfl) (fun _ _ _ h => h) (by rfl) ?_
      refine zpg_ (i := 5) (ra_ [3, 1, 2, 4]) HT_ rfl rfl (by kernel_rfl) (fun _ _ _ h => h) (by rfl) ?_
      refine zpg_ (i := 6) (ra_ [3, 1, 3, 3]) HT_ rfl rfl (by kernel_rfl) (fun _ _ _ h => h) (by rfl) ?_
      refine ztg_ (i := 3) (fl_ 10 7) HT_ HW_ rfl rfl (by kernel_rfl) (fun _ _ _ h => h) (by rfl) hHeld ?_ z121_
      refine zt_ HT_ HW_ rfl rfl (by kernel_rfl) (fun _ _ _ h => h) (by rfl) hHeld ?_ z121_
      refine one_ (i := 8) (N := some 25) (fl_ 10 9) rfl rfl (one_of HT_.out (by kernel_rfl)) (by decide) (fun K hK => ?_)
      refine goes_ Try.func74 (by kernel_rfl) rfl #[.agg #[.int .i64 ((rd_T78 l0 x5_1).f0), .slice A529_1 ((rd_T78 l0 x5_1).f1).length c529_1, .int .i64 ((rd_T78 l0 x5_1).f2), .int .i64 ((rd_T78 l0 x5_1).f3), .int .i64 ((rd_T78 l0 x5_1).f4)], .agg #[.int .i64 ((rd_T78 l1 x5_1).f0), .slice A530_1 ((rd_T78 l1 x5_1).f1).length c530_1, .int .i64 ((rd_T78 l1 x5_1).f2), .int .i64 ((rd_T78 l1 x5_1).f3), .int .i64 ((rd_T78 l1 x5_1).f4)]] (by rfl) rfl rfl z1_ ?_
      with_reducible refine (spec_l15Same.calls k1 ((rd_T78 l0 x5_1).f0) _ _ ((rd_T78 l0 x5_1).f1) ((rd_T78 l0 x5_1).f2) ((rd_T78 l0 x5_1).f3) ((rd_T78 l0 x5_1).f4) ((rd_T78 l1 x5_1).f0) _ _ ((rd_T78 l1 x5_1).f1) ((rd_T78 l1 x5_1).f2) ((rd_T78 l1 x5_1).f3) ((rd_T78 l1 x5_1).f4) false _ ?side1 ?side2 ?side3 ?side4 A7.out).mono ?_
      (case side1 => exact z156_)
      (case side2 => exact HC529_1.out)
      (case side3 => exact z157_)
      (case side4 => exact HC530_1.out)
      rintro e w12 ⟨rfl, hb⟩
      refine ⟨_, rfl, ?_⟩
      have n0_ := Aside0.mk (below_step z0_ hb)
      clear HB
      have HB := n0_
      clear n0_
      (try clear hb)
      (try clear hb2)
      (try clear hk)
      (try clear hi)
      refine hK.out _ _ ⟨((HB.out.cell (World.block_lt_of_cell? w _ hw529_0)).trans hw529_0), ((HB.out.cell (World.block_lt_of_cell? w _ hw529_1)).trans hw529_1), ((HB.out.cell (World.block_lt_of_cell? w _ hw529_2)).trans hw529_2), ((HB.out.cell (World.block_lt_of_cell? w _ hw529_3)).trans hw529_3), ((HB.out.cell (World.block_lt_of_cell? w _ hw529_4)).trans hw529_4), ((HB.out.cell (World.block_lt_of_cell? w _ hw530_0)).trans hw530_0), ((HB.out.cell (World.block_lt_of_cell? w _ hw530_1)).trans hw530_1), ((HB.out.cell (World.block_lt_of_cell? w _ hw530_2)).trans hw530_2), ((HB.out.cell (World.block_lt_of_cell? w _ hw530_3)).trans hw530_3), ((HB.out.cell (World.block_lt_of_cell? w _ hw530_4)).trans hw530_4)⟩ (fun hHeld => ?_)
      clear hK K
      refine zn_ rfl ?_
      refine zp_ HT_ rfl rfl (by kernel_rfl) (fun _ _ _ h => h) (by rfl) ?_
      refine done_ (done_of HT_.out (by kernel_rfl)) ?_
      try go_wp2
      go_ret
      exact ⟨z6_, z0_⟩
    ·rw [if_neg c4] at H
     have c4b0 := decide_eq_false c4
     clear c4
     obtain rfl := Option.some.inj H
     go_wp2
     go_ret
     exact ⟨z6_, z0_⟩
 ·rw [if_neg c3] at H
  have c3b0 : ((l0.length : Int) == (l1.length : Int)) = false := beq_eq_false_iff_ne.mpr c3
  have c3b1 : ((l0.length : Int) != (l1.length : Int)) = true := bne_iff_ne.mpr c3
  have c3b2 : (l0.length == l1.length) = false := by first | simpa using c3 | (simp at c3 ⊢; omega)
  obtain rfl := Option.some.inj H
  go_enter Try.func34, Try.ntmps34
  go_wp2
  go_ret
  exact ⟨z6_, z0_⟩

/-! ### impl_within: function 63 -/
def impl_within.f (a0 : Int) (a1 : Int) (a2 : Int) : Option (Bool) := if a1 ≤ a0 then (some (decide (a0 ≤ a2))) else (some false)
set_option maxHeartbeats 8000000 in
set_option maxRecDepth 100000 in
theorem impl_within.calls (a0 : Int) (a1 : Int) (a2 : Int) (r : Bool) (w : World) (h : impl_within.f a0 a1 a2 = some r) :
  Calls Try.prog 63 #[.int .i64 a0, .int .i64 a1, .int .i64 a2] w fun e w' => e = .returned (.bool r) ∧ Drawn0 w w' := by
 have H : (if a1 ≤ a0 then (some (decide (a0 ≤ a2))) else (some false)) = some r := h
 clear h
 by_cases c4 : a1 ≤ a0
 ·rw [if_pos c4] at H
  have c4b0 := decide_eq_true c4
  clear c4
  obtain rfl := Option.some.inj H
  go_enter Try.func63, Try.ntmps63
  go_wp2
  go_ret
  exact ⟨z11_, z50_⟩
 ·rw [if_neg c4] at H
  have c4b0 := decide_eq_false c4
  clear c4
  obtain rfl := Option.some.inj H
  go_enter Try.func63, Try.ntmps63
  go_wp2
  go_ret
  exact ⟨z11_, z50_⟩

/-! ### impl_LabelOk: function 94 -/
def impl_LabelOk.f (a0 : Int) : Option (Bool) := (impl_within.f a0 0 5).bind fun t532 => (some t532)
set_option maxHeartbeats 8000000 in
set_option maxRecDepth 100000 in
theorem impl_LabelOk.calls (a0 : Int) (r : Bool) (w : World) (h : impl_LabelOk.f a0 = some r) :
  Calls Try.prog 94 #[.int .i64 a0] w fun e w' => e = .returned (.bool r) ∧ Drawn0 w w' := by
 have H : ((impl_within.f a0 0 5).bind fun t532 => (some t532)) = some r := h
 clear h
 obtain ⟨t532, A2, H⟩ := bnd_ H
 obtain rfl := Option.some.inj H
 go_enter Try.func94, Try.ntmps94
 go_wp2_with (first | ((with_reducible refine gate_callee (f := 63) rfl ?_); refine goesL_ (some 4) rfl rfl Try.func63 (by kernel_rfl) rfl #[.int .i64 a0, .int .i64 0, .int .i64 5] rfl z1_ ?_; (with_reducible refine (impl_within.calls a0 0 5 t532 _ A2.out).mono ?_); rintro e w' ⟨rfl, ⟨nd, rfl⟩⟩; refine ⟨_, rfl, ?_⟩))
 go_ret
 exact ⟨z11_, z50_⟩

/-! ### impl_depthOk: function 95 -/
def impl_depthOk.f (l0 : List (S80)) (a1 : Int) : Option (Bool) := if a1 = 0 then (if 0 < (l0.length : Int) then (some (((rd_T80 l0 0).f1) == 0)) else (none)) else (if 0 ≤ a1 then (if a1 < (l0.length : Int) then (if 0 ≤ (wrap64 (a1 - 1)) then (if (wrap64 (a1 - 1)) < (l0.length : Int) then ((impl_within.f ((rd_T80 l0 a1).f1) 1 (wrap64 (((rd_T80 l0 (wrap64 (a1 - 1))).f1) + 1))).bind fun t536 => (some t536)) else (none)) else (none)) else (none)) else (none))
set_option maxHeartbeats 8000000 in
set_option maxRecDepth 100000 in
theorem impl_depthOk.calls (A0 : Option Addr) (c0 : Nat) (l0 : List (S80)) (a1 : Int) (r : Bool) (w : World) (hr0 : Kd.C k80 w A0 l0.length l0) (hc0 : l0.length ≤ c0) (h : impl_depthOk.f l0 a1 = some r) :
  Calls Try.prog 95 #[.slice A0 l0.length c0, .int .i64 a1] w fun e w' => e = .returned (.bool r) ∧ Drawn0 w w' := by
 have HR0 := Aside0.mk hr0
 have HC0 := Aside0.mk hc0
 clear hr0 hc0
 have H : (if a1 = 0 then (if 0 < (l0.length : Int) then (some (((rd_T80 l0 0).f1) == 0)) else (none)) else (if 0 ≤ a1 then (if a1 < (l0.length : Int) then (if 0 ≤ (wrap64 (a1 - 1)) then (if (wrap64 (a1 - 1)) < (l0.length : Int) then ((impl_within.f ((rd_T80 l0 a1).f1) 1 (wrap64 (((rd_T80 l0 (wrap64 (a1 - 1))).f1) + 1))).bind fun t536 => (some t536)) else (none)) else (none)) else (none)) else (none))) = some r := h
 clear h
 by_cases c3 : a1 = 0
 ·rw [if_pos c3] at H
  have c3b0 : (a1 == 0) = true := beq_iff_eq.mpr c3
  have c3b1 : (a1 != 0) = false := bne_eq_false_iff_eq.mpr c3
  clear c3
  obtain ⟨c4, H⟩ := ifs_ H
  have c4b0 := decide_eq_true c4
  have c4b1 : decide (0 < l0.length) = true := decide_eq_true (by omega)
  clear c4
  obtain rfl := Option.some.inj H
  have p533 : 0 ≤ (0 : Int) := (by omega)
  have q533 : 0 < (l0.length : Int) := odt_
  obtain ⟨ad533, e533, hx533_0, hx533_1⟩ := at_T80 HR0.out 0 p533 q533
  cases e533
  have qi533 : (0 < l0.length) = True := eq_true (by omega)
  (try rw [show ((0 : Int)).toNat = 0 from rfl] at hx533_0)
  (try rw [show 0 * 2 = 0 from rfl] at hx533_0)
  (try rw [Addr.add_zero'] at hx533_0)
  (try rw [show ((0 : Int)).toNat = 0 from rfl] at hx533_1)
  (try rw [show 0 * 2 = 0 from rfl] at hx533_1)
  (try rw [Addr.add_zero'] at hx533_1)
  replace p533 := eq_true p533
  replace q533 := eq_true q533
  go_enter Try.func95, Try.ntmps95
  go_wp2
  repeat (go_quiet (fail); try go_wp2)
  go_ret
  exact ⟨z11_, z50_⟩
 ·rw [if_neg c3] at H
  have c3b0 : (a1 == 0) = false := beq_eq_false_iff_ne.mpr c3
  have c3b1 : (a1 != 0) = true := bne_iff_ne.mpr c3
  obtain ⟨c5b0, H⟩ := ifd_ H
  obtain ⟨c6b0, H⟩ := ifd_ H
  obtain ⟨ji7, hji7⟩ : ∃ j_ : Int, (wrap64 (a1 - 1)) = j_ := ⟨_, rfl⟩
  first | rw [hji7] at H | simp only [hji7] at H
  have hji7w : (IntKind.i64.wrap (a1 - 1)) = ji7 := (i64_w _).trans hji7
  obtain ⟨c8b0, H⟩ := ifd_ H
  obtain ⟨c9b0, H⟩ := ifd_ H
  obtain ⟨t536, A10, H⟩ := bnd_ H
  obtain rfl := Option.some.inj H
  obtain ⟨p534, q534, ad534, e534, hx534_0, hx534_1⟩ := ato80_ HR0 a1
  cases e534
  obtain ⟨p535, q535, ad535, e535, hx535_0, hx535_1⟩ := ato80_ HR0 (ji7)
  obtain rfl : ad534 = ad535 := (by injection e535)
  go_enter Try.func95, Try.ntmps95
  go_wp2_with (first | (go_at_call 63; (with_reducible refine (impl_within.calls ((rd_T80 l0 a1).f1) 1 (wrap64 (((rd_T80 l0 (ji7)).f1) + 1)) t536 _ A10.out).mono ?_); rintro e w' ⟨rfl, ⟨nd, rfl⟩⟩; (try first | exact ⟨rfl, _, World.drewN_drewN _ _ _⟩ | exact ⟨rfl, _, Eq.trans (World.drewN_drewN _ _ _) (congrArg (World.drewN _) (Nat.add_assoc _ _ _))⟩)))
  repeat (go_quiet (first | (go_at_call 63; (with_reducible refine (impl_within.calls ((rd_T80 l0 a1).f1) 1 (wrap64 (((rd_T80 l0 (ji7)).f1) + 1)) t536 _ A10.out).mono ?_); rintro e w' ⟨rfl, ⟨nd, rfl⟩⟩; (try first | exact ⟨rfl, _, World.drewN_drewN _ _ _⟩ | exact ⟨rfl, _, Eq.trans (World.drewN_drewN _ _ _) (congrArg (World.drewN _) (Nat.add_assoc _ _ _))⟩))); try go_wp2_with (first | (go_at_call 63; (with_reducible refine (impl_within.calls ((rd_T80 l0 a1).f1) 1 (wrap64 (((rd_T80 l0 (ji7)).f1) + 1)) t536 _ A10.out).mono ?_); rintro e w' ⟨rfl, ⟨nd, rfl⟩⟩; (try first | exact ⟨rfl, _, World.drewN_drewN _ _ _⟩ | exact ⟨rfl, _, Eq.trans (World.drewN_drewN _ _ _) (congrArg (World.drewN _) (Nat.add_assoc _ _ _))⟩))))
  go_ret
  exact ⟨by first | rfl | (simp; done) | (simp only [← hji7] <;> (first | rfl | simp)) | (simp [*]; done), z50_⟩

/-! ### impl_TreeOk: function 50 -/
def impl_TreeOk.l0 : Nat → List (S80) → List (S80) → Int → Int → Option (Bool)
 | 0, _, _, _, _ => none
 | k + 1, x0, x9, x10, x11 => if x11 < x10 then (if 0 ≤ x11 then (if x11 < (x9.length : Int) then ((impl_LabelOk.f ((rd_T80 x9 x11).f0)).bind fun t540 => (if t540 = true then ((impl_within.f ((rd_T80 x9 x11).f1) 0 12).bind fun t541 => (if t541 = true then ((impl_depthOk.f x0 x11).bind fun t542 => (if t542 = true then (impl_TreeOk.l0 k x0 x9 x10 (wrap64 (x11 + 1))) else (some false))) else (some false))) else (some false))) else (none)) else (none)) else (some true)
def impl_TreeOk.f (k : Nat) (l0 : List (S80)) : Option (Bool) := (impl_within.f (l0.length : Int) 1 24).bind fun t537 => (if t537 = true then (impl_TreeOk.l0 k l0 l0 (l0.length : Int) 0) else (some false))
set_option maxHeartbeats 8000000 in
set_option maxRecDepth 100000 in
theorem impl_TreeOk.calls (k : Nat) (A0 : Option Addr) (c0 : Nat) (l0 : List (S80)) (r : Bool) (w : World) (hr0 : Kd.C k80 w A0 l0.length l0) (hc0 : l0.length ≤ c0) (h : impl_TreeOk.f k l0 = some r) :
  Calls Try.prog 50 #[.slice A0 l0.length c0] w fun e w' => e = .returned (.bool r) ∧ Below w.heap.size w w' := by
 have hu80 := Try.underlying80
 have HR0 := Aside0.mk hr0
 have HC0 := Aside0.mk hc0
 clear hr0 hc0
 have HB := Aside0.mk (Below.refl w.heap.size w)
 have H : ((impl_within.f (l0.length : Int) 1 24).bind fun t537 => (if t537 = true then (impl_TreeOk.l0 k l0 l0 (l0.length : Int) 0) else (some false))) = some r := h
 clear h
 obtain ⟨t537, A2, H⟩ := bnd_ H
 by_cases c3 : t537 = true
 ·subst c3
  replace H := ift_ H
  have H' := Aside0.mk H
  clear H
  go_enter Try.func50, Try.ntmps50
  go_wp2_with (first | ((with_reducible refine gate_callee (f := 63) rfl ?_); refine goesL_ (some 7) rfl rfl Try.func63 (by kernel_rfl) rfl #[.int .i64 (l0.length : Int), .int .i64 1, .int .i64 24] rfl z1_ ?_; (with_reducible refine (impl_within.calls (l0.length : Int) 1 24 true _ A2.out).mono ?_); rintro e w' ⟨rfl, ⟨nd, rfl⟩⟩; refine ⟨_, rfl, ?_⟩))
  go_loopg [11] k (fun kq v11 w' => ∃ (x11_1 : Int), v11 = .int .i64 x11_1 ∧ Aside0 (impl_TreeOk.l0 kq l0 l0 (l0.length : Int) x11_1 = some r) ∧ Aside0 (kq ≤ k) ∧ Aside0 (Below w.heap.size w w'))
  case atStart => exact ⟨(0), z11_, H', ⟨Nat.le_refl _⟩, ⟨z0_⟩⟩
  case round =>
   clear H'
   try clear p2
   try clear c3
   obtain ⟨x11_1, rfl, HA, HK1, HB⟩ := hrel
   cases gk with
   | zero => exact absurd HA.out (by simp [impl_TreeOk.l0])
   | succ k1 =>
    have H := HA.out
    clear HA
    simp only [impl_TreeOk.l0] at H
    by_cases c4 : x11_1 < (l0.length : Int)
    ·rw [if_pos c4] at H
     have c4b0 := decide_eq_true c4
     clear c4
     obtain ⟨c5b0, H⟩ := ifd_ H
     obtain ⟨c6b0, H⟩ := ifd_ H
     obtain ⟨t540, A7, H⟩ := bnd_ H
     by_cases c8 : t540 = true
     ·subst c8
      replace H := ift_ H
      obtain ⟨t541, A9, H⟩ := bnd_ H
      by_cases c10 : t541 = true
      ·subst c10
       replace H := ift_ H
       obtain ⟨t542, A11, H⟩ := bnd_ H
       by_cases c12 : t542 = true
       ·subst c12
        replace H := ift_ H
        have H' := Aside0.mk H
        clear H
        obtain ⟨p538, q538, ad538, e538, hx538_0, hx538_1⟩ := atb80_ HR0 HB x11_1
        cases e538
        go_wp2_with (first | ((with_reducible refine gate_dst (N := 4) rfl ?_); refine box_event ?hg (N := 4) ?hd (cs := #[.int .i64 0, .int .i64 0]) (t := 80) ?hr ?_; (case hd => rfl); (case hg => rfl); (case hr => exact z20_); intro gb539 hg w13 hbox hb; have BK539 := Aside0.mk (hbox); have GW539 := Aside0.mk ((by rw [hg]; exact (below_size z0_) : w.heap.size ≤ gb539)); have GE539 := Aside0.mk ((by rw [hg]; exact (below_size z0_) : w.heap.size ≤ gb539)); replace HB := Aside0.mk (below_step z0_ hb); clear hb hbox hg; obtain ⟨hcz14_0, hcz14_1, hfz14_0, hfz14_1⟩ := bx2_ BK539.out) | ((with_reducible refine gate_callee (f := 94) rfl ?_); refine goesL_ (some 18) rfl rfl Try.func94 (by kernel_rfl) rfl #[.int .i64 ((rd_T80 l0 x11_1).f0)] rfl z1_ ?_; (with_reducible refine (impl_LabelOk.calls ((rd_T80 l0 x11_1).f0) true _ A7.out).mono ?_); rintro e w' ⟨rfl, ⟨nd, rfl⟩⟩; refine ⟨_, rfl, ?_⟩) | (go_at_call 63; (with_reducible refine (impl_within.calls ((rd_T80 l0 x11_1).f1) 0 12 true _ A9.out).mono ?_); rintro e w' ⟨rfl, ⟨nd, rfl⟩⟩) | (go_at_call 95; (with_reducible refine (impl_depthOk.calls _ _ l0 x11_1 true _ ?side1 ?side2 A11.out).mono ?_); (case side1 => exact z152_); (case side2 => exact HC0.out); rintro e w' ⟨rfl, ⟨nd, rfl⟩⟩))
        go_roundg k1
        case measure => have := HK1.out; omega
        case rel => exact ⟨(wrap64 (x11_1 + 1)), z11_, H', ⟨z106_⟩, ⟨z73_⟩⟩
       ·replace c12 := Bool.eq_false_iff.mpr c12
        subst c12
        replace H := iff_ H
        obtain rfl := Option.some.inj H
        obtain ⟨p538, q538, ad538, e538, hx538_0, hx538_1⟩ := atb80_ HR0 HB x11_1
        cases e538
        go_wp2_with (first | ((with_reducible refine gate_dst (N := 4) rfl ?_); refine box_event ?hg (N := 4) ?hd (cs := #[.int .i64 0, .int .i64 0]) (t := 80) ?hr ?_; (case hd => rfl); (case hg => rfl); (case hr => exact z20_); intro gb539 hg w15 hbox hb; have BK539 := Aside0.mk (hbox); have GW539 := Aside0.mk ((by rw [hg]; exact (below_size z0_) : w.heap.size ≤ gb539)); have GE539 := Aside0.mk ((by rw [hg]; exact (below_size z0_) : w.heap.size ≤ gb539)); replace HB := Aside0.mk (below_step z0_ hb); clear hb hbox hg; obtain ⟨hcz16_0, hcz16_1, hfz16_0, hfz16_1⟩ := bx2_ BK539.out) | ((with_reducible refine gate_callee (f := 94) rfl ?_); refine goesL_ (some 18) rfl rfl Try.func94 (by kernel_rfl) rfl #[.int .i64 ((rd_T80 l0 x11_1).f0)] rfl z1_ ?_; (with_reducible refine (impl_LabelOk.calls ((rd_T80 l0 x11_1).f0) true _ A7.out).mono ?_); rintro e w' ⟨rfl, ⟨nd, rfl⟩⟩; refine ⟨_, rfl, ?_⟩) | (go_at_call 63; (with_reducible refine (impl_within.calls ((rd_T80 l0 x11_1).f1) 0 12 true _ A9.out).mono ?_); rintro e w' ⟨rfl, ⟨nd, rfl⟩⟩) | (go_at_call 95; (with_reducible refine (impl_depthOk.calls _ _ l0 x11_1 false _ ?side1 ?side2 A11.out).mono ?_); (case side1 => exact z152_); (case side2 => exact HC0.out); rintro e w' ⟨rfl, ⟨nd, rfl⟩⟩))
        go_ret
        exact ⟨z6_, z73_⟩
      ·replace c10 := Bool.eq_false_iff.mpr c10
       subst c10
       replace H := iff_ H
       obtain rfl := Option.some.inj H
       obtain ⟨p538, q538, ad538, e538, hx538_0, hx538_1⟩ := atb80_ HR0 HB x11_1
       cases e538
       go_wp2_with (first | ((with_reducible refine gate_dst (N := 4) rfl ?_); refine box_event ?hg (N := 4) ?hd (cs := #[.int .i64 0, .int .i64 0]) (t := 80) ?hr ?_; (case hd => rfl); (case hg => rfl); (case hr => exact z20_); intro gb539 hg w17 hbox hb; have BK539 := Aside0.mk (hbox); have GW539 := Aside0.mk ((by rw [hg]; exact (below_size z0_) : w.heap.size ≤ gb539)); have GE539 := Aside0.mk ((by rw [hg]; exact (below_size z0_) : w.heap.size ≤ gb539)); replace HB := Aside0.mk (below_step z0_ hb); clear hb hbox hg; obtain ⟨hcz18_0, hcz18_1, hfz18_0, hfz18_1⟩ := bx2_ BK539.out) | ((with_reducible refine gate_callee (f := 94) rfl ?_); refine goesL_ (some 18) rfl rfl Try.func94 (by kernel_rfl) rfl #[.int .i64 ((rd_T80 l0 x11_1).f0)] rfl z1_ ?_; (with_reducible refine (impl_LabelOk.calls ((rd_T80 l0 x11_1).f0) true _ A7.out).mono ?_); rintro e w' ⟨rfl, ⟨nd, rfl⟩⟩; refine ⟨_, rfl, ?_⟩) | (go_at_call 63; (with_reducible refine (impl_within.calls ((rd_T80 l0 x11_1).f1) 0 12 false _ A9.out).mono ?_); rintro e w' ⟨rfl, ⟨nd, rfl⟩⟩))
       go_ret
       exact ⟨z6_, z73_⟩
     ·replace c8 := Bool.eq_false_iff.mpr c8
      subst c8
      replace H := iff_ H
      obtain rfl := Option.some.inj H
      obtain ⟨p538, q538, ad538, e538, hx538_0, hx538_1⟩ := atb80_ HR0 HB x11_1
      cases e538
      go_wp2_with (first | ((with_reducible refine gate_dst (N := 4) rfl ?_); refine box_event ?hg (N := 4) ?hd (cs := #[.int .i64 0, .int .i64 0]) (t := 80) ?hr ?_; (case hd => rfl); (case hg => rfl); (case hr => exact z20_); intro gb539 hg w19 hbox hb; have BK539 := Aside0.mk (hbox); have GW539 := Aside0.mk ((by rw [hg]; exact (below_size z0_) : w.heap.size ≤ gb539)); have GE539 := Aside0.mk ((by rw [hg]; exact (below_size z0_) : w.heap.size ≤ gb539)); replace HB := Aside0.mk (below_step z0_ hb); clear hb hbox hg; obtain ⟨hcz20_0, hcz20_1, hfz20_0, hfz20_1⟩ := bx2_ BK539.out) | ((with_reducible refine gate_callee (f := 94) rfl ?_); refine goesL_ (some 18) rfl rfl Try.func94 (by kernel_rfl) rfl #[.int .i64 ((rd_T80 l0 x11_1).f0)] rfl z1_ ?_; (with_reducible refine (impl_LabelOk.calls ((rd_T80 l0 x11_1).f0) false _ A7.out).mono ?_); rintro e w' ⟨rfl, ⟨nd, rfl⟩⟩; refine ⟨_, rfl, ?_⟩))
      go_ret
      exact ⟨z6_, z73_⟩
    ·rw [if_neg c4] at H
     have c4b0 := decide_eq_false c4
     clear c4
     obtain rfl := Option.some.inj H
     go_wp2
     go_ret
     exact ⟨z6_, z0_⟩
 ·replace c3 := Bool.eq_false_iff.mpr c3
  subst c3
  replace H := iff_ H
  obtain rfl := Option.some.inj H
  go_enter Try.func50, Try.ntmps50
  go_wp2_with (first | ((with_reducible refine gate_callee (f := 63) rfl ?_); refine goesL_ (some 7) rfl rfl Try.func63 (by kernel_rfl) rfl #[.int .i64 (l0.length : Int), .int .i64 1, .int .i64 24] rfl z1_ ?_; (with_reducible refine (impl_within.calls (l0.length : Int) 1 24 false _ A2.out).mono ?_); rintro e w' ⟨rfl, ⟨nd, rfl⟩⟩; refine ⟨_, rfl, ?_⟩))
  go_ret
  exact ⟨z6_, z0_⟩

/-! ### slices_Clone_Node: function 75 -/
def slices_Clone_Node.f (l0 : List (S80)) : Option ((List (S80))) := (some (([] : List (S80)) : List (S80))).bind fun y543 => (if y543.length + l0.length < 8796093022208 then (some (y543 ++ l0)) else (none))
set_option maxHeartbeats 8000000 in
set_option maxRecDepth 100000 in
theorem slices_Clone_Node.calls (A0 : Option Addr) (c0 : Nat) (l0 : List (S80)) (r : List (S80)) (w : World) (hr0 : Kd.C k80 w A0 l0.length l0) (hc0 : l0.length ≤ c0) (h : slices_Clone_Node.f l0 = some r) :
  Calls Try.prog 75 #[.slice A0 l0.length c0] w fun e w' => ∃ v0_ : Value, e = .returned (v0_) ∧ Kd.R k80 80 w' w.heap.size (fun _ => True) v0_ r ∧ Below w.heap.size w w' := by
 have q_nil : ∀ (w : World) (a : Option Addr) (n c n' c' : Nat), (binOp .eql 29 (.slice a n c) (.slice none n' c')).run Try.prog w = .ok (.bool a.isNone) w := fun w a n c n' c' => Lib.run_eql_slice_nil w _ _ a n c n' c' Try.underlying29
 rcases A0 with _ | ad0
 ·have h0_ : l0 = [] := by
   rcases Nat.eq_zero_or_pos l0.length with h0 | h0
   ·exact List.eq_nil_of_length_eq_zero h0
   ·obtain ⟨ad, h, _⟩ := hr0.2.2 h0
    cases h
  subst h0_
  have hr_ : r = [] := by simpa [slices_Clone_Node.f] using h.symm
  subst hr_
  clear hr0 h
  go_enter Try.func75, Try.ntmps75
  go_wp2
  go_ret
  exact ⟨_, rfl, Kd.R_nil _ _ _ _ _, Below.refl _ _⟩
 have HR0 := Aside0.mk hr0
 have HC0 := Aside0.mk hc0
 clear hr0 hc0
 have HB := Aside0.mk (Below.refl w.heap.size w)
 have H : ((some (([] : List (S80)) : List (S80))).bind fun y543 => (if y543.length + l0.length < 8796093022208 then (some (y543 ++ l0)) else (none))) = some r := h
 clear h
 first | ((with_reducible have hz_ := gy_ H); obtain ⟨y543, Ny543, H⟩ := hz_) | (generalize hy_ : (([] : List (S80))) = y543 at H; have Ny543 := Aside0.mk hy_.symm; clear hy_)
 obtain ⟨c2, H⟩ := ifs_ H
 have LMc2 := Aside0.mk c2
 clear c2
 first | ((with_reducible have hz_ := gy_ H); obtain ⟨y546, Ny546, H⟩ := hz_) | (generalize hy_ : (y543 ++ l0) = y546 at H; have Ny546 := Aside0.mk hy_.symm; clear hy_)
 obtain rfl := Option.some.inj H
 go_enter Try.func75, Try.ntmps75
 go_wp2_with (first | ((with_reducible refine gate_dst (N := 5) rfl ?_); refine Kd.R_lit k80 _ 80 ?hg (N := 5) ?hd (xs := ([] : List (S80))) (inner := []) (ok := fun _ => True) (okp := fun _ => True) ?hr ?hp (fun _ hk => hk) trivial (Below.refl _ _) (Nat.le_refl _) (by simp) ?_; (case hd => rfl); (case hg => rfl); (case hr => exact z20_); (case hp => exact z139_); intro v544 w3 ho4 hb hg_ hnew_; clear hg_ hnew_; (first | rw [← Ny543.out] at ho4 | (simp only [Int.reduceToNat] at ho4; rw [← Ny543.out] at ho4)); have HO545 := Aside0.mk (Kd.R_lower ho4 (below_size z0_)); replace HB := Aside0.mk (below_step z0_ hb); clear hb ho4) | ((with_reducible refine gate_builtin (b := .append) (xs := #[.tmp 5, .tmp 6]) rfl ?_); at_builtin; refine Kd.R_append_rows k80 (w0 := w) w.heap.size rfl (.tmp 5) (.tmp 6) 29 80 (.agg #[(.int .i64 0), (.int .i64 0)]) 16 rfl Try.underlying29 info80 rfl (by decide) (by omega) v544 y543 l0 _ _ _ (fun _ => True) (fun _ => False) rfl rfl ?aO ?aR (fun _ _ h => h) (fun _ h => h.elim) ?aF ?aB ?aS ?aL ?_; (case aR => exact z5_); (case aB => exact z51_); (case aF => exact z116_); (case aO => exact (by (with_reducible repeat (first | apply Kd.R_alloc | apply Kd.R_drewN | apply Kd.R_drew)); exact HO545.out)); (case aS => exact z46_); (case aL => have := LMc2.out; omega); intro v547 w5 ho hb hg hat; rw [← Ny546.out] at ho; replace HB := Aside0.mk (hb); have HO548 := Aside0.mk (ho); clear HO545; clear ho hb hg hat))
 go_ret
 exact ⟨_, z6_, by (with_reducible repeat (first | apply Kd.R_alloc | apply Kd.R_drewN | apply Kd.R_drew)); exact HO548.out, z0_⟩

end Go.Proofs.Ytdapeboajjidmaa.PFnJoined
