/- Laid by a program of this session out of the kit's print for the law FnInverted: what it says of the machine is proved here, function by function; each contract under the conditions that it names. -/
import Derived.Test.YtdapeboajjidmabMFnInvertedx0
import Derived.Test.YtdapeboajjidmabMFnInvertedx11
import Derived.Test.YtdapeboajjidmabMFnInvertedx12
import Derived.Test.YtdapeboajjidmabMFnInvertedx15
import Derived.Test.YtdapeboajjidmabMFnInvertedx18
namespace Go.Proofs.Ytdapeboajjidmab.PFnInverted
open Go.RowKit Go.Proofs.YtdapeboajjidmabW.PrintWords Go.Proofs.YtdapeboajjidmabW.PrintLast Go.Proofs.YtdapeboajjidmabW.PrintMore
attribute [local go_sem] max2_int min2_int max_two min_two max_three min_three max_four min_four   -- for this text's walks alone
set_option linter.unusedVariables false
set_option linter.unusedSimpArgs false

/-! ### impl_ScriptCost: function 49 -/
mutual
def impl_ScriptCost.j0 : Nat → List (S62) → List (S121) → Bool → List Int → List Int → List Int → Option (Int)
 | 0, _, _, _, _, _, _ => none
 | k + 1, x0, x1, x21, x665000, x665001, x665002 => if x21 = true then (some (-1)) else ((slices_Clone_Node.f x0).bind fun t667 => (impl_ScriptCost.l0 k 0 t667 x1 (x1.length : Int) 0 x665000 x665001 x665002))
def impl_ScriptCost.l0 : Nat → Int → List (S62) → List (S121) → Int → Int → List Int → List Int → List Int → Option (Int)
 | 0, _, _, _, _, _, _, _, _ => none
 | k + 1, x7, x8, x24, x25, x26, x665000, x665001, x665002 => if x26 < x25 then (if 0 ≤ x26 then (if x26 < (x24.length : Int) then ((impl_NodeAt.f k x8 ((rd_T121 x24 x26).f1)).bind fun t672 => ((impl_ApplyOp.f k x8 ((rd_T121 x24 x26).f0) ((rd_T121 x24 x26).f1) ((rd_T121 x24 x26).f2) ((rd_T121 x24 x26).f3) ((rd_T121 x24 x26).f4)).bind fun bt673 => (if bt673.2 = 0 then (if ((rd_T121 x24 x26).f0) = 1 then (if 0 ≤ t672 then (if t672 < (x8.length : Int) then ((impl_RelCost.f k x665000 x665001 x665002 ((rd_T62 x8 t672).f0) ((rd_T121 x24 x26).f2)).bind fun t678 => (impl_ScriptCost.l0 k (wrap64 (x7 + t678)) bt673.1 x24 x25 (wrap64 (x26 + 1)) x665000 x665001 x665002)) else (none)) else (none)) else (if ((rd_T121 x24 x26).f0) = 2 then (if 0 ≤ t672 then (if t672 < (x8.length : Int) then ((impl_DelCost.f k x665000 x665001 x665002 ((rd_T62 x8 t672).f0)).bind fun t680 => (impl_ScriptCost.l0 k (wrap64 (x7 + t680)) bt673.1 x24 x25 (wrap64 (x26 + 1)) x665000 x665001 x665002)) else (none)) else (none)) else ((impl_InsCost.f k x665000 x665001 x665002 ((rd_T121 x24 x26).f2)).bind fun t681 => (impl_ScriptCost.l0 k (wrap64 (x7 + t681)) bt673.1 x24 x25 (wrap64 (x26 + 1)) x665000 x665001 x665002)))) else (some (-1))))) else (none)) else (none)) else (some x7)
end
def impl_ScriptCost.f (k : Nat) (l0 : List (S62)) (l1 : List (S121)) (l2_0 : List Int) (l2_1 : List Int) (l2_2 : List Int) : Option (Int) := (impl_TreeOk.f k l0).bind fun t665 => (if t665 = true then ((impl_CostOk.f k l2_0 l2_1 l2_2).bind fun t666 => (impl_ScriptCost.j0 k l0 l1 (!t666) l2_0 l2_1 l2_2)) else (impl_ScriptCost.j0 k l0 l1 true l2_0 l2_1 l2_2))
def impl_ScriptCost.T14 : Bool × List (List Nat × List Nat) := (true, [([], []), ([], []), ([], []), ([], []), ([2, 3], [2, 3]), ([4], [4]), ([5], [5]), ([], []), ([7], [7]), ([1, 6, 8], [1, 6, 8]), ([0, 9], [0, 9]), ([10, 9, 0, 1, 2, 3, 4, 5, 6, 7, 8, 9, 10], [0, 10])])
def impl_ScriptCost.B14 : List Nat := [0, 0, 0, 0, 12, 28, 60, 0, 128, 510, 1023, 2047]
theorem impl_ScriptCost.tab14 : rtab .any (opsOf Try.f49 14) = impl_ScriptCost.T14 := by kernel_rfl
theorem impl_ScriptCost.bits14 : waitsOk impl_ScriptCost.T14.2 impl_ScriptCost.B14 = true := by kernel_rfl
def impl_ScriptCost.T16 : Bool × List (List Nat × List Nat) := (true, [([], []), ([], []), ([], []), ([], []), ([2, 3], [2, 3]), ([4], [4]), ([5], [5]), ([1, 6], [1, 6]), ([0, 7], [0, 7]), ([8, 7, 0, 1, 2, 3, 4, 5, 6, 7, 8], [0, 8])])
def impl_ScriptCost.B16 : List Nat := [0, 0, 0, 0, 12, 28, 60, 126, 255, 511]
theorem impl_ScriptCost.tab16 : rtab .any (opsOf Try.f49 16) = impl_ScriptCost.T16 := by kernel_rfl
theorem impl_ScriptCost.bits16 : waitsOk impl_ScriptCost.T16.2 impl_ScriptCost.B16 = true := by kernel_rfl
set_option maxHeartbeats 8000000 in
set_option maxRecDepth 100000 in
theorem impl_ScriptCost.calls (k : Nat) (A0 : Option Addr) (c0 : Nat) (l0 : List (S62)) (A1 : Option Addr) (c1 : Nat) (l1 : List (S121)) (A2_0 : Option Addr) (c2_0 : Nat) (l2_0 : List Int) (A2_1 : Option Addr) (c2_1 : Nat) (l2_1 : List Int) (A2_2 : Option Addr) (c2_2 : Nat) (l2_2 : List Int) (r : Int) (w : World) (hr0 : Kd.C k62 w A0 l0.length l0) (hc0 : l0.length ≤ c0) (hr1 : Kd.C k121 w A1 l1.length l1) (hc1 : l1.length ≤ c1) (hr2_0 : Kd.C (Kd.int .i64) w A2_0 l2_0.length l2_0) (hc2_0 : l2_0.length ≤ c2_0) (hr2_1 : Kd.C (Kd.int .i64) w A2_1 l2_1.length l2_1) (hc2_1 : l2_1.length ≤ c2_1) (hr2_2 : Kd.C (Kd.int .i64) w A2_2 l2_2.length l2_2) (hc2_2 : l2_2.length ≤ c2_2) (h : impl_ScriptCost.f k l0 l1 l2_0 l2_1 l2_2 = some r) :
  Calls Try.prog 49 #[.slice A0 l0.length c0, .slice A1 l1.length c1, .agg #[.slice A2_0 l2_0.length c2_0, .slice A2_1 l2_1.length c2_1, .slice A2_2 l2_2.length c2_2]] w fun e w' => e = .returned (.int .i64 r) ∧ Below w.heap.size w w' := by
 have hu51 := Try.underlying51
 have hu121 := Try.underlying121
 have HR0 := Aside0.mk hr0
 have HC0 := Aside0.mk hc0
 clear hr0 hc0
 have HR1 := Aside0.mk hr1
 have HC1 := Aside0.mk hc1
 clear hr1 hc1
 have HR2_0 := Aside0.mk hr2_0
 have HC2_0 := Aside0.mk hc2_0
 clear hr2_0 hc2_0
 have HR2_1 := Aside0.mk hr2_1
 have HC2_1 := Aside0.mk hc2_1
 clear hr2_1 hc2_1
 have HR2_2 := Aside0.mk hr2_2
 have HC2_2 := Aside0.mk hc2_2
 clear hr2_2 hc2_2
 have HB := Aside0.mk (Below.refl w.heap.size w)
 have H : ((impl_TreeOk.f k l0).bind fun t665 => (if t665 = true then ((impl_CostOk.f k l2_0 l2_1 l2_2).bind fun t666 => (impl_ScriptCost.j0 k l0 l1 (!t666) l2_0 l2_1 l2_2)) else (impl_ScriptCost.j0 k l0 l1 true l2_0 l2_1 l2_2))) = some r := h
 clear h
 have HC4 := Aside0.mk H
 clear H
 go_enter Try.func49, Try.ntmps49
 go_upto_region 1 with (first | ((with_reducible refine gate_dst (N := 5) rfl ?_); refine box_event ?hg (N := 5) ?hd (cs := #[.slice A2_0 l2_0.length c2_0, .slice A2_1 l2_1.length c2_1, .slice A2_2 l2_2.length c2_2]) (t := 51) ?hr ?_; (case hd => rfl); (case hg => rfl); (case hr => exact z21_); intro gb664 hg w5 hbox hb; have BK664 := Aside0.mk (hbox); have GW664 := Aside0.mk ((by rw [hg]; exact (below_size z0_) : w.heap.size ≤ gb664)); have GE664 := Aside0.mk ((by rw [hg]; exact (below_size z0_) : w.heap.size ≤ gb664)); replace HB := Aside0.mk (below_step z0_ hb); clear hb hbox hg))
 (try simp only [Act.put, List.setIfInBounds_toArray, List.set_cons_zero, List.set_cons_succ])
 go_cut [21] (fun v21 wc => ∃ (kq : Nat) (x21_3 : Bool), v21 = .bool x21_3 ∧ Aside0 (impl_ScriptCost.j0 kq l0 l1 x21_3 l2_0 l2_1 l2_2 = some r) ∧ Aside0 (kq ≤ k) ∧ Aside0 (wc.heap[gb664]? = some (.cells #[(.slice A2_0 l2_0.length c2_0), (.slice A2_1 l2_1.length c2_1), (.slice A2_2 l2_2.length c2_2)] 51 (0, 0))) ∧ Aside0 (Below w.heap.size w wc))
 case first =>
  have H := HC4.out
  clear HC4
  obtain ⟨t665, A6, H⟩ := bnd_ H
  by_cases c7 : t665 = true
  ·subst c7
   replace H := ift_ H
   obtain ⟨t666, A8, H⟩ := bnd_ H
   have H' := Aside0.mk H
   clear H
   go_wp2_with (first | ((with_reducible refine gate_callee (f := 52) rfl ?_); refine goesL_ (some 15) rfl rfl Try.func52 (by kernel_rfl) rfl #[.slice A0 l0.length c0] rfl z1_ ?_; (with_reducible refine (impl_TreeOk.calls k _ _ l0 true _ ?side1 ?side2 A6.out).mono ?_); (case side1 => exact z2_); (case side2 => exact HC0.out); rintro e w9 ⟨rfl, hb⟩; refine ⟨_, rfl, ?_⟩; replace BK664 := Aside0.mk (blk_below (g := gb664) (o := .cells #[.slice A2_0 l2_0.length c2_0, .slice A2_1 l2_1.length c2_1, .slice A2_2 l2_2.length c2_2] 51 (0, 0)) z27_ hb); replace HB := Aside0.mk (below_step z25_ hb); (try clear hb); obtain ⟨hcz10_0, hcz10_1, hcz10_2, hfz10_0, hfz10_1, hfz10_2⟩ := bx3_ BK664.out) | (go_at_call 102; (with_reducible refine (impl_CostOk.calls k _ _ l2_0 _ _ l2_1 _ _ l2_2 t666 _ ?side1 ?side2 ?side3 ?side4 ?side5 ?side6 A8.out).mono ?_); (case side1 => exact z108_); (case side2 => exact HC2_0.out); (case side3 => exact z109_); (case side4 => exact HC2_1.out); (case side5 => exact z110_); (case side6 => exact HC2_2.out); rintro e w11 ⟨rfl, hb⟩; replace BK664 := Aside0.mk (blk_below (g := gb664) (o := .cells #[.slice A2_0 l2_0.length c2_0, .slice A2_1 l2_1.length c2_1, .slice A2_2 l2_2.length c2_2] 51 (0, 0)) z27_ hb); replace HB := Aside0.mk (below_step z25_ hb); (try clear hb)))
   go_meet
   case rel => exact ⟨_, (!t666), z15_, H', ⟨z145_⟩, ⟨z27_⟩, ⟨z25_⟩⟩
  ·replace c7 := Bool.eq_false_iff.mpr c7
   subst c7
   replace H := iff_ H
   have H' := Aside0.mk H
   clear H
   go_wp2_with (first | ((with_reducible refine gate_callee (f := 52) rfl ?_); refine goesL_ (some 15) rfl rfl Try.func52 (by kernel_rfl) rfl #[.slice A0 l0.length c0] rfl z1_ ?_; (with_reducible refine (impl_TreeOk.calls k _ _ l0 false _ ?side1 ?side2 A6.out).mono ?_); (case side1 => exact z2_); (case side2 => exact HC0.out); rintro e w12 ⟨rfl, hb⟩; refine ⟨_, rfl, ?_⟩; replace BK664 := Aside0.mk (blk_below (g := gb664) (o := .cells #[.slice A2_0 l2_0.length c2_0, .slice A2_1 l2_1.length c2_1, .slice A2_2 l2_2.length c2_2] 51 (0, 0)) z27_ hb); replace HB := Aside0.mk (below_step z25_ hb); (try clear hb)))
   go_meet
   case rel => exact ⟨_, (true), z15_, H', ⟨z145_⟩, ⟨z27_⟩, ⟨z25_⟩⟩
 case rest =>
  clear HC4
  try clear c1
  try clear c2
  try clear p2
  try clear c4
  try clear c5
  try clear c7
  try clear hcz10_0
  try clear hcz10_1
  try clear hcz10_2
  try clear hfz10_0
  try clear hfz10_1
  try clear hfz10_2
  obtain ⟨kq, x21_3, rfl, HA, HJ3, BK664, HB⟩ := hcut
  cases kq with
  | zero => exact absurd HA.out (by simp [impl_ScriptCost.j0])
  | succ kj3 =>
   have H := HA.out
   clear HA
   simp only [impl_ScriptCost.j0] at H
   by_cases c13 : x21_3 = true
   ·subst c13
    replace H := ift_ H
    obtain rfl := Option.some.inj H
    go_wp2
    go_ret
    exact ⟨z6_, z25_⟩
   ·replace c13 := Bool.eq_false_iff.mpr c13
    subst c13
    replace H := iff_ H
    obtain ⟨t667, A14, H⟩ := bnd_ H
    have H' := Aside0.mk H
    clear H
    go_wp2_with (first | ((with_reducible refine gate_callee (f := 101) rfl ?_); refine goesL_ (some 23) rfl rfl Try.func101 (by kernel_rfl) rfl #[.slice A0 l0.length c0] rfl z1_ ?_; (with_reducible refine (slices_Clone_Node.calls _ _ l0 t667 _ ?side1 ?side2 A14.out).mono ?_); (case side1 => exact z2_); (case side2 => exact HC0.out); rintro e w15 ⟨v668, rfl, ho0, hb⟩; refine ⟨_, rfl, ?_⟩; have HO669 := Aside0.mk (Kd.R_lower ho0 (below_size z25_)); replace BK664 := Aside0.mk (blk_below (g := gb664) (o := .cells #[.slice A2_0 l2_0.length c2_0, .slice A2_1 l2_1.length c2_1, .slice A2_2 l2_2.length c2_2] 51 (0, 0)) z27_ hb); replace HB := Aside0.mk (below_step z25_ hb); (try clear hb ho0)))
    go_loopg [7, 8, 26] kj3 (fun kq v7 v8 v26 w' => ∃ (x7_2 : Int) (x8_2 : List (S62)) (x26_2 : Int), v7 = .int .i64 x7_2 ∧ v26 = .int .i64 x26_2 ∧ Aside0 (impl_ScriptCost.l0 kq x7_2 x8_2 l1 (l1.length : Int) x26_2 l2_0 l2_1 l2_2 = some r) ∧ Aside0 (kq ≤ kj3) ∧ Aside0 (Kd.R k62 62 w' w.heap.size (fun _ => True) v8 x8_2) ∧ Aside0 (w'.heap[gb664]? = some (.cells #[(.slice A2_0 l2_0.length c2_0), (.slice A2_1 l2_1.length c2_1), (.slice A2_2 l2_2.length c2_2)] 51 (0, 0))) ∧ Aside0 (Below w.heap.size w w'))
    case atStart => exact ⟨(0), (t667), (0), z15_, z15_, H', ⟨Nat.le_refl _⟩, ⟨by (with_reducible repeat (first | apply Kd.R_alloc | apply Kd.R_drewN | apply Kd.R_drew)); exact HO669.out⟩, ⟨z27_⟩, ⟨z25_⟩⟩
    case round =>
     clear H'
     try clear c1
     try clear c2
     try clear p2
     try clear c4
     try clear c5
     try clear c7
     try clear c10
     try clear c13
     try clear hcz10_0
     try clear hcz10_1
     try clear hcz10_2
     try clear hfz10_0
     try clear hfz10_1
     try clear hfz10_2
     try clear p2
     obtain ⟨x7_2, x8_2, x26_2, rfl, rfl, HA, HK2, HO_8, BK664, HB⟩ := hrel
     cases gk with
     | zero => exact absurd HA.out (by simp [impl_ScriptCost.l0])
     | succ k2 =>
      have H := HA.out
      clear HA
      simp only [impl_ScriptCost.l0] at H
      by_cases c16 : x26_2 < (l1.length : Int)
      ·rw [if_pos c16] at H
       have c16b0 := decide_eq_true c16
       clear c16
       obtain ⟨c17b0, H⟩ := ifd_ H
       obtain ⟨c18b0, H⟩ := ifd_ H
       obtain ⟨t672, A19, H⟩ := bnd_ H
       replace H := Option.bind_eq_some_iff.mp H
       obtain ⟨⟨t673, t676⟩, A200, H⟩ := H
       try dsimp only at H
       have A20 := Aside0.mk A200
       clear A200
       by_cases c21 : t676 = 0
       ·rw [if_pos c21] at H
        have c21b0 : (t676 == 0) = true := beq_iff_eq.mpr c21
        have c21b1 : (t676 != 0) = false := bne_eq_false_iff_eq.mpr c21
        clear c21
        by_cases c22 : ((rd_T121 l1 x26_2).f0) = 1
        ·rw [if_pos c22] at H
         have c22b0 : (((rd_T121 l1 x26_2).f0) == 1) = true := beq_iff_eq.mpr c22
         have c22b1 : (((rd_T121 l1 x26_2).f0) != 1) = false := bne_eq_false_iff_eq.mpr c22
         clear c22
         obtain ⟨c23b0, H⟩ := ifd_ H
         obtain ⟨c24b0, H⟩ := ifd_ H
         obtain ⟨t678, A25, H⟩ := bnd_ H
         have H' := Aside0.mk H
         clear H
         have p670 : 0 ≤ (x26_2 : Int) := odt_
         have q670 : x26_2 < (l1.length : Int) := odt_
         obtain ⟨ad670, A670_1, c670_1, e670, hx670_0, hx670_1, hx670_2, hx670_3, hx670_4, hl670_1, hi670_1⟩ := at_T121 HR1.out x26_2 p670 q670
         cases e670
         replace hx670_0 := (HB.out.cell (World.block_lt_of_cell? w _ hx670_0)).trans hx670_0
         replace hx670_1 := (HB.out.cell (World.block_lt_of_cell? w _ hx670_1)).trans hx670_1
         replace hx670_2 := (HB.out.cell (World.block_lt_of_cell? w _ hx670_2)).trans hx670_2
         replace hx670_3 := (HB.out.cell (World.block_lt_of_cell? w _ hx670_3)).trans hx670_3
         replace hx670_4 := (HB.out.cell (World.block_lt_of_cell? w _ hx670_4)).trans hx670_4
         have HR670_1 := Aside0.mk hi670_1
         have HC670_1 := Aside0.mk hl670_1
         clear hi670_1 hl670_1
         replace p670 := eq_true p670
         replace q670 := eq_true q670
         try go_wp2_with (first | ((with_reducible refine gate_dst (N := 10) rfl ?_); refine box_event ?hg (N := 10) ?hd (cs := #[.int .i64 0, .slice none 0 0, .int .i64 0, .int .i64 0, .int .i64 0]) (t := 121) ?hr ?_; (case hd => rfl); (case hg => rfl); (case hr => exact z21_); intro gb671 hg w26 hbox hb; replace HO_8 := Aside0.mk (Kd.R_below z48_ hb); have BK671 := Aside0.mk (hbox); have GW671 := Aside0.mk ((by rw [hg]; exact (below_size z25_) : w.heap.size ≤ gb671)); have GE671 := Aside0.mk ((by rw [hg]; exact (below_size z25_) : w.heap.size ≤ gb671)); replace HB := Aside0.mk (below_step z25_ hb); have NB664_671 := Aside0.mk ((by rw [hg]; exact Nat.ne_of_lt (blk_lt (g := gb664) (o := .cells #[.slice A2_0 l2_0.length c2_0, .slice A2_1 l2_1.length c2_1, .slice A2_2 l2_2.length c2_2] 51 (0, 0)) z27_) : gb664 ≠ gb671)); have NB671_664 := Aside0.mk ((by rw [hg]; exact Nat.ne_of_gt (blk_lt (g := gb664) (o := .cells #[.slice A2_0 l2_0.length c2_0, .slice A2_1 l2_1.length c2_1, .slice A2_2 l2_2.length c2_2] 51 (0, 0)) z27_) : gb671 ≠ gb664)); replace BK664 := Aside0.mk (blk_below (g := gb664) (o := .cells #[.slice A2_0 l2_0.length c2_0, .slice A2_1 l2_1.length c2_1, .slice A2_2 l2_2.length c2_2] 51 (0, 0)) z27_ hb); clear hb hbox hg; have hnb27 := NB671_664.out; have hnc27 := NB664_671.out; obtain ⟨hcz28_0, hcz28_1, hcz28_2, hcz28_3, hcz28_4, hfz28_0, hfz28_1, hfz28_2, hfz28_3, hfz28_4⟩ := bx5_ BK671.out; obtain ⟨Ao29, co29, eo29⟩ := Kd.R_slice HO_8.out; subst eo29) | ((with_reducible refine gate_callee (f := 103) rfl ?_); refine goesL_ (some 33) rfl rfl Try.func103 (by kernel_rfl) rfl #[.slice Ao29 x8_2.length co29, .slice A670_1 ((rd_T121 l1 x26_2).f1).length c670_1] rfl z1_ ?_; (with_reducible refine (impl_NodeAt.calls k2 _ _ x8_2 _ _ ((rd_T121 l1 x26_2).f1) t672 _ ?side1 ?side2 ?side3 ?side4 A19.out).mono ?_); (case side1 => refine (Kd.R_reads' (e := 62) (base := w.heap.size) (ok := fun k_ => True) (n := x8_2.length) (c := co29) ?_).2.2; exact z16_); (case side2 => exact z173_); (case side3 => exact z87_); (case side4 => exact HC670_1.out); rintro e w30 ⟨rfl, hb⟩; refine ⟨_, rfl, ?_⟩; replace HO_8 := Aside0.mk (Kd.R_below z16_ hb); replace BK664 := Aside0.mk (blk_below (g := gb664) (o := .cells #[.slice A2_0 l2_0.length c2_0, .slice A2_1 l2_1.length c2_1, .slice A2_2 l2_2.length c2_2] 51 (0, 0)) z34_ hb); replace BK671 := Aside0.mk (blk_below (g := gb671) (o := .cells #[.int .i64 ((rd_T121 l1 x26_2).f0), .slice A670_1 ((rd_T121 l1 x26_2).f1).length c670_1, .int .i64 ((rd_T121 l1 x26_2).f2), .int .i64 ((rd_T121 l1 x26_2).f3), .int .i64 ((rd_T121 l1 x26_2).f4)] 121 (0, 0)) z13_ hb); replace HB := Aside0.mk (below_step z19_ hb); (try clear hb); obtain ⟨hcz31_0, hcz31_1, hcz31_2, hcz31_3, hcz31_4, hfz31_0, hfz31_1, hfz31_2, hfz31_3, hfz31_4⟩ := bx5_ BK671.out) | ((with_reducible refine gate_callee (f := 97) rfl ?_); refine goesL_ (some 37) rfl rfl Try.func97 (by kernel_rfl) rfl #[.slice Ao29 x8_2.length co29, .agg #[.int .i64 ((rd_T121 l1 x26_2).f0), .slice A670_1 ((rd_T121 l1 x26_2).f1).length c670_1, .int .i64 ((rd_T121 l1 x26_2).f2), .int .i64 ((rd_T121 l1 x26_2).f3), .int .i64 ((rd_T121 l1 x26_2).f4)]] rfl z1_ ?_; (with_reducible refine (impl_ApplyOp.calls k2 _ _ x8_2 ((rd_T121 l1 x26_2).f0) _ _ ((rd_T121 l1 x26_2).f1) ((rd_T121 l1 x26_2).f2) ((rd_T121 l1 x26_2).f3) ((rd_T121 l1 x26_2).f4) t673 t676 _ ?side1 ?side2 ?side3 ?side4 A20.out).mono ?_); (case side1 => exact z111_); (case side2 => exact z173_); (case side3 => exact z107_); (case side4 => exact HC670_1.out); rintro e w32 ⟨v674, rfl, ho0, hb⟩; refine ⟨_, rfl, ?_⟩; have HO675 := Aside0.mk (Kd.R_lower (Kd.R_new' ho0 (Kd.R_lt z48_)) (below_size z19_)); replace HO_8 := Aside0.mk (Kd.R_elder' z48_ (Kd.R_base ho0) hb); replace BK664 := Aside0.mk (blk_below (g := gb664) (o := .cells #[.slice A2_0 l2_0.length c2_0, .slice A2_1 l2_1.length c2_1, .slice A2_2 l2_2.length c2_2] 51 (0, 0)) z27_ hb); replace BK671 := Aside0.mk (blk_below (g := gb671) (o := .cells #[.int .i64 ((rd_T121 l1 x26_2).f0), .slice A670_1 ((rd_T121 l1 x26_2).f1).length c670_1, .int .i64 ((rd_T121 l1 x26_2).f2), .int .i64 ((rd_T121 l1 x26_2).f3), .int .i64 ((rd_T121 l1 x26_2).f4)] 121 (0, 0)) z103_ hb); replace HB := Aside0.mk (below_step z19_ hb); (try clear hb ho0); obtain ⟨hcz33_0, hcz33_1, hcz33_2, hcz33_3, hcz33_4, hfz33_0, hfz33_1, hfz33_2, hfz33_3, hfz33_4⟩ := bx5_ BK671.out))
         have n0_ := Aside0.mk (Kd.R_drew HO_8.out)
         have n1_ := Aside0.mk (Kd.R_drew HO675.out)
         have n2_ := Aside0.mk (blk_drew BK664.out)
         have n3_ := Aside0.mk (blk_drew BK671.out)
         have n4_ := Aside0.mk (below_drew1 HB.out)
         clear HO_8
         clear HO675
         clear BK664
         clear BK671
         clear HB
         have HO_8 := n0_
         have HO675 := n1_
         have BK664 := n2_
         have BK671 := n3_
         have HB := n4_
         clear n0_ n1_ n2_ n3_ n4_
         have p677 : 0 ≤ (t672 : Int) := odt_
         have q677 : t672 < (x8_2.length : Int) := odt_
         obtain ⟨ad677, e677, hx677_0, hx677_1⟩ := at_T62 (Kd.R_reads' HO_8.out).2.2 t672 p677 q677
         cases e677
         replace p677 := eq_true p677
         replace q677 := eq_true q677
         refine start_ (n := 12) (S := fun w' => w'.cell? ⟨gb664, 0, none⟩ = some (.slice A2_0 l2_0.length c2_0) ∧ w'.cell? ⟨gb664, 1, none⟩ = some (.slice A2_1 l2_1.length c2_1) ∧ w'.cell? ⟨gb664, 2, none⟩ = some (.slice A2_2 l2_2.length c2_2) ∧ w'.cell? ⟨gb671, 0, none⟩ = some (.int .i64 ((rd_T121 l1 x26_2).f0)) ∧ w'.cell? ⟨gb671, 1, none⟩ = some (.slice A670_1 ((rd_T121 l1 x26_2).f1).length c670_1) ∧ w'.cell? ⟨gb671, 2, none⟩ = some (.int .i64 ((rd_T121 l1 x26_2).f2)) ∧ w'.cell? ⟨gb671, 3, none⟩ = some (.int .i64 ((rd_T121 l1 x26_2).f3)) ∧ w'.cell? ⟨gb671, 4, none⟩ = some (.int .i64 ((rd_T121 l1 x26_2).f4)) ∧ w'.cell? (ad677.add ((t672).toNat * 2)) = some (.int .i64 ((rd_T62 x8_2 t672).f0)) ∧ w'.cell? ⟨(ad677.add ((t672).toNat * 2)).block, (ad677.add ((t672).toNat * 2)).off + 1, none⟩ = some (.int .i64 ((rd_T62 x8_2 t672).f1))) (ds := []) (fl_ 12 0) (by kernel_rfl) rfl (fl_zero _) ⟨(blk_cell BK664.out 0).trans rfl, (blk_cell BK664.out 1).trans rfl, (blk_cell BK664.out 2).trans rfl, (blk_cell BK671.out 0).trans rfl, (blk_cell BK671.out 1).trans rfl, (blk_cell BK671.out 2).trans rfl, (blk_cell BK671.out 3).trans rfl, (blk_cell BK671.out 4).trans rfl, hx677_0, hx677_1⟩ (fun hHeld => ?_); refine with_tabW impl_ScriptCost.tab14 impl_ScriptCost.bits14 (fun HT_ HW_ => ?_)
         generalize w32.drew = w34 at HO_8 HO675 BK664 BK671 HB hx677_0 hx677_1 hHeld ⊢
         refine zp_ HT_ rfl rfl (by kernel_rfl) (fun _ _ _ h => h) (by rfl) ?_
         refine zpg_ (i := 2) (ra_ [1, 1, 1, 9]) HT_ rfl rfl (by kernel_rfl) (fun _ _ _ h => h) (by rfl) ?_
         refine zpg_ (i := 3) (ra_ [1, 1, 2, 8]) HT_ rfl rfl (by kernel_rfl) (fun _ _ _ h => h) (by rfl) ?_
         refine zpg_ (i := 4) (ra_ [1, 1, 3, 7]) HT_ rfl rfl (by kernel_rfl) (fun _ _ _ h => h) (by rfl) ?_
         refine zpg_ (i := 5) (ra_ [1, 1, 4, 6]) HT_ rfl rfl (by kernel_rfl) (fun _ _ _ h => h) (by rfl) ?_
         refine zpg_ (i := 7) (ra_ [1, 1, 4, 1, 1, 4]) HT_ rfl rfl (by kernel_rfl) (fun _ _ _ h => h) (by rfl) ?_
         refine ztg_ (i := 1) (ra_ [6, 1, 1, 4]) HT_ HW_ rfl rfl (by kernel_rfl) (fun _ _ _ h => h) (by rfl) hHeld ?_ z208_
         refine ztg_ (i := 6) (fl_ 12 8) HT_ HW_ rfl rfl (by kernel_rfl) (fun _ _ _ h => h) (by rfl) hHeld ?_ z208_
         refine zt_ HT_ HW_ rfl rfl (by kernel_rfl) (fun _ _ _ h => h) (by rfl) hHeld ?_ z208_
         refine one_ (i := 9) (N := some 61) (fl_ 12 10) rfl rfl (one_of HT_.out (by kernel_rfl)) (by decide) (fun K hK => ?_)
         refine goes_ Try.func104 (by kernel_rfl) rfl #[.agg #[.slice A2_0 l2_0.length c2_0, .slice A2_1 l2_1.length c2_1, .slice A2_2 l2_2.length c2_2], .int .i64 ((rd_T62 x8_2 t672).f0), .int .i64 ((rd_T121 l1 x26_2).f2)] (by rfl) rfl rfl z1_ ?_
         with_reducible refine (impl_RelCost.calls k2 _ _ l2_0 _ _ l2_1 _ _ l2_2 ((rd_T62 x8_2 t672).f0) ((rd_T121 l1 x26_2).f2) t678 _ ?side1 ?side2 ?side3 ?side4 ?side5 ?side6 A25.out).mono ?_
         (case side1 => exact z108_)
         (case side2 => exact HC2_0.out)
         (case side3 => exact z109_)
         (case side4 => exact HC2_1.out)
         (case side5 => exact z110_)
         (case side6 => exact HC2_2.out)
         rintro e w35 ⟨rfl, hb⟩
         have HS8_ := (hb.cell (World.block_lt_of_cell? _ _ (hHeld.2.2.2.2.2.2.2.2.1))).trans (hHeld.2.2.2.2.2.2.2.2.1)
         have HS9_ := (hb.cell (World.block_lt_of_cell? _ _ (hHeld.2.2.2.2.2.2.2.2.2))).trans (hHeld.2.2.2.2.2.2.2.2.2)
         refine ⟨_, rfl, ?_⟩
         have n0_ := Aside0.mk (Kd.R_below z48_ hb)
         have n1_ := Aside0.mk (Kd.R_below z180_ hb)
         have n2_ := Aside0.mk (blk_below (g := gb664) (o := .cells #[.slice A2_0 l2_0.length c2_0, .slice A2_1 l2_1.length c2_1, .slice A2_2 l2_2.length c2_2] 51 (0, 0)) z27_ hb)
         have n3_ := Aside0.mk (blk_below (g := gb671) (o := .cells #[.int .i64 ((rd_T121 l1 x26_2).f0), .slice A670_1 ((rd_T121 l1 x26_2).f1).length c670_1, .int .i64 ((rd_T121 l1 x26_2).f2), .int .i64 ((rd_T121 l1 x26_2).f3), .int .i64 ((rd_T121 l1 x26_2).f4)] 121 (0, 0)) z103_ hb)
         have n4_ := Aside0.mk (below_step z19_ hb)
         clear HO_8
         clear HO675
         clear BK664
         clear BK671
         clear HB
         have HO_8 := n0_
         have HO675 := n1_
         have BK664 := n2_
         have BK671 := n3_
         have HB := n4_
         clear n0_ n1_ n2_ n3_ n4_
         (try clear hb)
         (try clear hb2)
         (try clear hk)
         (try clear hi)
         refine hK.out _ _ ⟨(blk_cell BK664.out 0).trans rfl, (blk_cell BK664.out 1).trans rfl, (blk_cell BK664.out 2).trans rfl, (blk_cell BK671.out 0).trans rfl, (blk_cell BK671.out 1).trans rfl, (blk_cell BK671.out 2).trans rfl, (blk_cell BK671.out 3).trans rfl, (blk_cell BK671.out 4).trans rfl, HS8_, HS9_⟩ (fun hHeld => ?_)
         clear hK K
         refine zn_ rfl ?_
         iterate 2 refine zp_ HT_ rfl rfl (by kernel_rfl) (fun _ _ _ h => h) (by rfl) ?_
         refine done_ (done_of HT_.out (by kernel_rfl)) ?_
         try go_wp2
         go_roundg k2
         case measure => have := HJ3.out; have := HK2.out; omega
         case rel => exact ⟨(wrap64 (x7_2 + t678)), (t673), (wrap64 (x26_2 + 1)), z15_, z15_, H', ⟨by have := HJ3.out; have := HK2.out; omega⟩, ⟨z153_⟩, ⟨z27_⟩, ⟨z19_⟩⟩
        ·rw [if_neg c22] at H
         have c22b0 : (((rd_T121 l1 x26_2).f0) == 1) = false := beq_eq_false_iff_ne.mpr c22
         have c22b1 : (((rd_T121 l1 x26_2).f0) != 1) = true := bne_iff_ne.mpr c22
         by_cases c36 : ((rd_T121 l1 x26_2).f0) = 2
         ·rw [if_pos c36] at H
          have c36b0 : (((rd_T121 l1 x26_2).f0) == 2) = true := beq_iff_eq.mpr c36
          have c36b1 : (((rd_T121 l1 x26_2).f0) != 2) = false := bne_eq_false_iff_eq.mpr c36
          clear c36
          obtain ⟨c37b0, H⟩ := ifd_ H
          obtain ⟨c38b0, H⟩ := ifd_ H
          obtain ⟨t680, A39, H⟩ := bnd_ H
          have H' := Aside0.mk H
          clear H
          have p670 : 0 ≤ (x26_2 : Int) := odt_
          have q670 : x26_2 < (l1.length : Int) := odt_
          obtain ⟨ad670, A670_1, c670_1, e670, hx670_0, hx670_1, hx670_2, hx670_3, hx670_4, hl670_1, hi670_1⟩ := at_T121 HR1.out x26_2 p670 q670
          cases e670
          replace hx670_0 := (HB.out.cell (World.block_lt_of_cell? w _ hx670_0)).trans hx670_0
          replace hx670_1 := (HB.out.cell (World.block_lt_of_cell? w _ hx670_1)).trans hx670_1
          replace hx670_2 := (HB.out.cell (World.block_lt_of_cell? w _ hx670_2)).trans hx670_2
          replace hx670_3 := (HB.out.cell (World.block_lt_of_cell? w _ hx670_3)).trans hx670_3
          replace hx670_4 := (HB.out.cell (World.block_lt_of_cell? w _ hx670_4)).trans hx670_4
          have HR670_1 := Aside0.mk hi670_1
          have HC670_1 := Aside0.mk hl670_1
          clear hi670_1 hl670_1
          replace p670 := eq_true p670
          replace q670 := eq_true q670
          try go_wp2_with (first | ((with_reducible refine gate_dst (N := 10) rfl ?_); refine box_event ?hg (N := 10) ?hd (cs := #[.int .i64 0, .slice none 0 0, .int .i64 0, .int .i64 0, .int .i64 0]) (t := 121) ?hr ?_; (case hd => rfl); (case hg => rfl); (case hr => exact z21_); intro gb671 hg w40 hbox hb; replace HO_8 := Aside0.mk (Kd.R_below z48_ hb); have BK671 := Aside0.mk (hbox); have GW671 := Aside0.mk ((by rw [hg]; exact (below_size z25_) : w.heap.size ≤ gb671)); have GE671 := Aside0.mk ((by rw [hg]; exact (below_size z25_) : w.heap.size ≤ gb671)); replace HB := Aside0.mk (below_step z25_ hb); have NB664_671 := Aside0.mk ((by rw [hg]; exact Nat.ne_of_lt (blk_lt (g := gb664) (o := .cells #[.slice A2_0 l2_0.length c2_0, .slice A2_1 l2_1.length c2_1, .slice A2_2 l2_2.length c2_2] 51 (0, 0)) z27_) : gb664 ≠ gb671)); have NB671_664 := Aside0.mk ((by rw [hg]; exact Nat.ne_of_gt (blk_lt (g := gb664) (o := .cells #[.slice A2_0 l2_0.length c2_0, .slice A2_1 l2_1.length c2_1, .slice A2_2 l2_2.length c2_2] 51 (0, 0)) z27_) : gb671 ≠ gb664)); replace BK664 := Aside0.mk (blk_below (g := gb664) (o := .cells #[.slice A2_0 l2_0.length c2_0, .slice A2_1 l2_1.length c2_1, .slice A2_2 l2_2.length c2_2] 51 (0, 0)) z27_ hb); clear hb hbox hg; have hnb41 := NB671_664.out; have hnc41 := NB664_671.out; obtain ⟨hcz42_0, hcz42_1, hcz42_2, hcz42_3, hcz42_4, hfz42_0, hfz42_1, hfz42_2, hfz42_3, hfz42_4⟩ := bx5_ BK671.out; obtain ⟨Ao43, co43, eo43⟩ := Kd.R_slice HO_8.out; subst eo43) | ((with_reducible refine gate_callee (f := 103) rfl ?_); refine goesL_ (some 33) rfl rfl Try.func103 (by kernel_rfl) rfl #[.slice Ao43 x8_2.length co43, .slice A670_1 ((rd_T121 l1 x26_2).f1).length c670_1] rfl z1_ ?_; (with_reducible refine (impl_NodeAt.calls k2 _ _ x8_2 _ _ ((rd_T121 l1 x26_2).f1) t672 _ ?side1 ?side2 ?side3 ?side4 A19.out).mono ?_); (case side1 => refine (Kd.R_reads' (e := 62) (base := w.heap.size) (ok := fun k_ => True) (n := x8_2.length) (c := co43) ?_).2.2; exact z16_); (case side2 => exact z173_); (case side3 => exact z87_); (case side4 => exact HC670_1.out); rintro e w44 ⟨rfl, hb⟩; refine ⟨_, rfl, ?_⟩; replace HO_8 := Aside0.mk (Kd.R_below z16_ hb); replace BK664 := Aside0.mk (blk_below (g := gb664) (o := .cells #[.slice A2_0 l2_0.length c2_0, .slice A2_1 l2_1.length c2_1, .slice A2_2 l2_2.length c2_2] 51 (0, 0)) z34_ hb); replace BK671 := Aside0.mk (blk_below (g := gb671) (o := .cells #[.int .i64 ((rd_T121 l1 x26_2).f0), .slice A670_1 ((rd_T121 l1 x26_2).f1).length c670_1, .int .i64 ((rd_T121 l1 x26_2).f2), .int .i64 ((rd_T121 l1 x26_2).f3), .int .i64 ((rd_T121 l1 x26_2).f4)] 121 (0, 0)) z13_ hb); replace HB := Aside0.mk (below_step z19_ hb); (try clear hb); obtain ⟨hcz45_0, hcz45_1, hcz45_2, hcz45_3, hcz45_4, hfz45_0, hfz45_1, hfz45_2, hfz45_3, hfz45_4⟩ := bx5_ BK671.out) | ((with_reducible refine gate_callee (f := 97) rfl ?_); refine goesL_ (some 37) rfl rfl Try.func97 (by kernel_rfl) rfl #[.slice Ao43 x8_2.length co43, .agg #[.int .i64 ((rd_T121 l1 x26_2).f0), .slice A670_1 ((rd_T121 l1 x26_2).f1).length c670_1, .int .i64 ((rd_T121 l1 x26_2).f2), .int .i64 ((rd_T121 l1 x26_2).f3), .int .i64 ((rd_T121 l1 x26_2).f4)]] rfl z1_ ?_; (with_reducible refine (impl_ApplyOp.calls k2 _ _ x8_2 ((rd_T121 l1 x26_2).f0) _ _ ((rd_T121 l1 x26_2).f1) ((rd_T121 l1 x26_2).f2) ((rd_T121 l1 x26_2).f3) ((rd_T121 l1 x26_2).f4) t673 t676 _ ?side1 ?side2 ?side3 ?side4 A20.out).mono ?_); (case side1 => exact z111_); (case side2 => exact z173_); (case side3 => exact z107_); (case side4 => exact HC670_1.out); rintro e w46 ⟨v674, rfl, ho0, hb⟩; refine ⟨_, rfl, ?_⟩; have HO675 := Aside0.mk (Kd.R_lower (Kd.R_new' ho0 (Kd.R_lt z48_)) (below_size z19_)); replace HO_8 := Aside0.mk (Kd.R_elder' z48_ (Kd.R_base ho0) hb); replace BK664 := Aside0.mk (blk_below (g := gb664) (o := .cells #[.slice A2_0 l2_0.length c2_0, .slice A2_1 l2_1.length c2_1, .slice A2_2 l2_2.length c2_2] 51 (0, 0)) z27_ hb); replace BK671 := Aside0.mk (blk_below (g := gb671) (o := .cells #[.int .i64 ((rd_T121 l1 x26_2).f0), .slice A670_1 ((rd_T121 l1 x26_2).f1).length c670_1, .int .i64 ((rd_T121 l1 x26_2).f2), .int .i64 ((rd_T121 l1 x26_2).f3), .int .i64 ((rd_T121 l1 x26_2).f4)] 121 (0, 0)) z103_ hb); replace HB := Aside0.mk (below_step z19_ hb); (try clear hb ho0); obtain ⟨hcz47_0, hcz47_1, hcz47_2, hcz47_3, hcz47_4, hfz47_0, hfz47_1, hfz47_2, hfz47_3, hfz47_4⟩ := bx5_ BK671.out))
          have n0_ := Aside0.mk (Kd.R_drew HO_8.out)
          have n1_ := Aside0.mk (Kd.R_drew HO675.out)
          have n2_ := Aside0.mk (blk_drew BK664.out)
          have n3_ := Aside0.mk (blk_drew BK671.out)
          have n4_ := Aside0.mk (below_drew1 HB.out)
          clear HO_8
          clear HO675
          clear BK664
          clear BK671
          clear HB
          have HO_8 := n0_
          have HO675 := n1_
          have BK664 := n2_
          have BK671 := n3_
          have HB := n4_
          clear n0_ n1_ n2_ n3_ n4_
          have p679 : 0 ≤ (t672 : Int) := odt_
          have q679 : t672 < (x8_2.length : Int) := odt_
          obtain ⟨ad679, e679, hx679_0, hx679_1⟩ := at_T62 (Kd.R_reads' HO_8.out).2.2 t672 p679 q679
          cases e679
          replace p679 := eq_true p679
          replace q679 := eq_true q679
          refine start_ (n := 10) (S := fun w' => w'.cell? ⟨gb664, 0, none⟩ = some (.slice A2_0 l2_0.length c2_0) ∧ w'.cell? ⟨gb664, 1, none⟩ = some (.slice A2_1 l2_1.length c2_1) ∧ w'.cell? ⟨gb664, 2, none⟩ = some (.slice A2_2 l2_2.length c2_2) ∧ w'.cell? (ad679.add ((t672).toNat * 2)) = some (.int .i64 ((rd_T62 x8_2 t672).f0)) ∧ w'.cell? ⟨(ad679.add ((t672).toNat * 2)).block, (ad679.add ((t672).toNat * 2)).off + 1, none⟩ = some (.int .i64 ((rd_T62 x8_2 t672).f1))) (ds := []) (fl_ 10 0) (by kernel_rfl) rfl (fl_zero _) ⟨(blk_cell BK664.out 0).trans rfl, (blk_cell BK664.out 1).trans rfl, (blk_cell BK664.out 2).trans rfl, hx679_0, hx679_1⟩ (fun hHeld => ?_); refine with_tabW impl_ScriptCost.tab16 impl_ScriptCost.bits16 (fun HT_ HW_ => ?_)
          generalize w46.drew = w48 at HO_8 HO675 BK664 BK671 HB hx679_0 hx679_1 hHeld ⊢
          refine zp_ HT_ rfl rfl (by kernel_rfl) (fun _ _ _ h => h) (by rfl) ?_
          refine zpg_ (i := 2) (ra_ [1, 1, 1, 7]) HT_ rfl rfl (by kernel_rfl) (fun _ _ _ h => h) (by rfl) ?_
          refine zpg_ (i := 3) (ra_ [1, 1, 2, 6]) HT_ rfl rfl (by kernel_rfl) (fun _ _ _ h => h) (by rfl) ?_
          refine zpg_ (i := 4) (ra_ [1, 1, 3, 5]) HT_ rfl rfl (by kernel_rfl) (fun _ _ _ h => h) (by rfl) ?_
          refine zpg_ (i := 5) (ra_ [1, 1, 4, 4]) HT_ rfl rfl (by kernel_rfl) (fun _ _ _ h => h) (by rfl) ?_
          refine ztg_ (i := 1) (fl_ 10 6) HT_ HW_ rfl rfl (by kernel_rfl) (fun _ _ _ h => h) (by rfl) hHeld ?_ z129_
          refine zt_ HT_ HW_ rfl rfl (by kernel_rfl) (fun _ _ _ h => h) (by rfl) hHeld ?_ z129_
          refine one_ (i := 7) (N := some 72) (fl_ 10 8) rfl rfl (one_of HT_.out (by kernel_rfl)) (by decide) (fun K hK => ?_)
          refine goes_ Try.func105 (by kernel_rfl) rfl #[.agg #[.slice A2_0 l2_0.length c2_0, .slice A2_1 l2_1.length c2_1, .slice A2_2 l2_2.length c2_2], .int .i64 ((rd_T62 x8_2 t672).f0)] (by rfl) rfl rfl z1_ ?_
          with_reducible refine (impl_DelCost.calls k2 _ _ l2_0 _ _ l2_1 _ _ l2_2 ((rd_T62 x8_2 t672).f0) t680 _ ?side1 ?side2 ?side3 ?side4 ?side5 ?side6 A39.out).mono ?_
          (case side1 => exact z108_)
          (case side2 => exact HC2_0.out)
          (case side3 => exact z109_)
          (case side4 => exact HC2_1.out)
          (case side5 => exact z110_)
          (case side6 => exact HC2_2.out)
          rintro e w49 ⟨rfl, hb⟩
          have HS3_ := (hb.cell (World.block_lt_of_cell? _ _ (hHeld.2.2.2.1))).trans (hHeld.2.2.2.1)
          have HS4_ := (hb.cell (World.block_lt_of_cell? _ _ (hHeld.2.2.2.2))).trans (hHeld.2.2.2.2)
          refine ⟨_, rfl, ?_⟩
          have n0_ := Aside0.mk (Kd.R_below z48_ hb)
          have n1_ := Aside0.mk (Kd.R_below z180_ hb)
          have n2_ := Aside0.mk (blk_below (g := gb664) (o := .cells #[.slice A2_0 l2_0.length c2_0, .slice A2_1 l2_1.length c2_1, .slice A2_2 l2_2.length c2_2] 51 (0, 0)) z27_ hb)
          have n3_ := Aside0.mk (blk_below (g := gb671) (o := .cells #[.int .i64 ((rd_T121 l1 x26_2).f0), .slice A670_1 ((rd_T121 l1 x26_2).f1).length c670_1, .int .i64 ((rd_T121 l1 x26_2).f2), .int .i64 ((rd_T121 l1 x26_2).f3), .int .i64 ((rd_T121 l1 x26_2).f4)] 121 (0, 0)) z103_ hb)
          have n4_ := Aside0.mk (below_step z19_ hb)
          clear HO_8
          clear HO675
          clear BK664
          clear BK671
          clear HB
          have HO_8 := n0_
          have HO675 := n1_
          have BK664 := n2_
          have BK671 := n3_
          have HB := n4_
          clear n0_ n1_ n2_ n3_ n4_
          (try clear hb)
          (try clear hb2)
          (try clear hk)
          (try clear hi)
          refine hK.out _ _ ⟨(blk_cell BK664.out 0).trans rfl, (blk_cell BK664.out 1).trans rfl, (blk_cell BK664.out 2).trans rfl, HS3_, HS4_⟩ (fun hHeld => ?_)
          clear hK K
          refine zn_ rfl ?_
          iterate 2 refine zp_ HT_ rfl rfl (by kernel_rfl) (fun _ _ _ h => h) (by rfl) ?_
          refine done_ (done_of HT_.out (by kernel_rfl)) ?_
          try go_wp2
          go_roundg k2
          case measure => have := HJ3.out; have := HK2.out; omega
          case rel => exact ⟨(wrap64 (x7_2 + t680)), (t673), (wrap64 (x26_2 + 1)), z15_, z15_, H', ⟨by have := HJ3.out; have := HK2.out; omega⟩, ⟨z153_⟩, ⟨z27_⟩, ⟨z19_⟩⟩
         ·rw [if_neg c36] at H
          have c36b0 : (((rd_T121 l1 x26_2).f0) == 2) = false := beq_eq_false_iff_ne.mpr c36
          have c36b1 : (((rd_T121 l1 x26_2).f0) != 2) = true := bne_iff_ne.mpr c36
          obtain ⟨t681, A50, H⟩ := bnd_ H
          have H' := Aside0.mk H
          clear H
          have p670 : 0 ≤ (x26_2 : Int) := odt_
          have q670 : x26_2 < (l1.length : Int) := odt_
          obtain ⟨ad670, A670_1, c670_1, e670, hx670_0, hx670_1, hx670_2, hx670_3, hx670_4, hl670_1, hi670_1⟩ := at_T121 HR1.out x26_2 p670 q670
          cases e670
          replace hx670_0 := (HB.out.cell (World.block_lt_of_cell? w _ hx670_0)).trans hx670_0
          replace hx670_1 := (HB.out.cell (World.block_lt_of_cell? w _ hx670_1)).trans hx670_1
          replace hx670_2 := (HB.out.cell (World.block_lt_of_cell? w _ hx670_2)).trans hx670_2
          replace hx670_3 := (HB.out.cell (World.block_lt_of_cell? w _ hx670_3)).trans hx670_3
          replace hx670_4 := (HB.out.cell (World.block_lt_of_cell? w _ hx670_4)).trans hx670_4
          have HR670_1 := Aside0.mk hi670_1
          have HC670_1 := Aside0.mk hl670_1
          clear hi670_1 hl670_1
          replace p670 := eq_true p670
          replace q670 := eq_true q670
          go_wp2_with (first | ((with_reducible refine gate_dst (N := 10) rfl ?_); refine box_event ?hg (N := 10) ?hd (cs := #[.int .i64 0, .slice none 0 0, .int .i64 0, .int .i64 0, .int .i64 0]) (t := 121) ?hr ?_; (case hd => rfl); (case hg => rfl); (case hr => exact z21_); intro gb671 hg w51 hbox hb; replace HO_8 := Aside0.mk (Kd.R_below z48_ hb); have BK671 := Aside0.mk (hbox); have GW671 := Aside0.mk ((by rw [hg]; exact (below_size z25_) : w.heap.size ≤ gb671)); have GE671 := Aside0.mk ((by rw [hg]; exact (below_size z25_) : w.heap.size ≤ gb671)); replace HB := Aside0.mk (below_step z25_ hb); have NB664_671 := Aside0.mk ((by rw [hg]; exact Nat.ne_of_lt (blk_lt (g := gb664) (o := .cells #[.slice A2_0 l2_0.length c2_0, .slice A2_1 l2_1.length c2_1, .slice A2_2 l2_2.length c2_2] 51 (0, 0)) z27_) : gb664 ≠ gb671)); have NB671_664 := Aside0.mk ((by rw [hg]; exact Nat.ne_of_gt (blk_lt (g := gb664) (o := .cells #[.slice A2_0 l2_0.length c2_0, .slice A2_1 l2_1.length c2_1, .slice A2_2 l2_2.length c2_2] 51 (0, 0)) z27_) : gb671 ≠ gb664)); replace BK664 := Aside0.mk (blk_below (g := gb664) (o := .cells #[.slice A2_0 l2_0.length c2_0, .slice A2_1 l2_1.length c2_1, .slice A2_2 l2_2.length c2_2] 51 (0, 0)) z27_ hb); clear hb hbox hg; have hnb52 := NB671_664.out; have hnc52 := NB664_671.out; obtain ⟨hcz53_0, hcz53_1, hcz53_2, hcz53_3, hcz53_4, hfz53_0, hfz53_1, hfz53_2, hfz53_3, hfz53_4⟩ := bx5_ BK671.out; obtain ⟨Ao54, co54, eo54⟩ := Kd.R_slice HO_8.out; subst eo54) | ((with_reducible refine gate_callee (f := 103) rfl ?_); refine goesL_ (some 33) rfl rfl Try.func103 (by kernel_rfl) rfl #[.slice Ao54 x8_2.length co54, .slice A670_1 ((rd_T121 l1 x26_2).f1).length c670_1] rfl z1_ ?_; (with_reducible refine (impl_NodeAt.calls k2 _ _ x8_2 _ _ ((rd_T121 l1 x26_2).f1) t672 _ ?side1 ?side2 ?side3 ?side4 A19.out).mono ?_); (case side1 => refine (Kd.R_reads' (e := 62) (base := w.heap.size) (ok := fun k_ => True) (n := x8_2.length) (c := co54) ?_).2.2; exact z16_); (case side2 => exact z173_); (case side3 => exact z87_); (case side4 => exact HC670_1.out); rintro e w55 ⟨rfl, hb⟩; refine ⟨_, rfl, ?_⟩; replace HO_8 := Aside0.mk (Kd.R_below z16_ hb); replace BK664 := Aside0.mk (blk_below (g := gb664) (o := .cells #[.slice A2_0 l2_0.length c2_0, .slice A2_1 l2_1.length c2_1, .slice A2_2 l2_2.length c2_2] 51 (0, 0)) z34_ hb); replace BK671 := Aside0.mk (blk_below (g := gb671) (o := .cells #[.int .i64 ((rd_T121 l1 x26_2).f0), .slice A670_1 ((rd_T121 l1 x26_2).f1).length c670_1, .int .i64 ((rd_T121 l1 x26_2).f2), .int .i64 ((rd_T121 l1 x26_2).f3), .int .i64 ((rd_T121 l1 x26_2).f4)] 121 (0, 0)) z13_ hb); replace HB := Aside0.mk (below_step z19_ hb); (try clear hb); obtain ⟨hcz56_0, hcz56_1, hcz56_2, hcz56_3, hcz56_4, hfz56_0, hfz56_1, hfz56_2, hfz56_3, hfz56_4⟩ := bx5_ BK671.out) | ((with_reducible refine gate_callee (f := 97) rfl ?_); refine goesL_ (some 37) rfl rfl Try.func97 (by kernel_rfl) rfl #[.slice Ao54 x8_2.length co54, .agg #[.int .i64 ((rd_T121 l1 x26_2).f0), .slice A670_1 ((rd_T121 l1 x26_2).f1).length c670_1, .int .i64 ((rd_T121 l1 x26_2).f2), .int .i64 ((rd_T121 l1 x26_2).f3), .int .i64 ((rd_T121 l1 x26_2).f4)]] rfl z1_ ?_; (with_reducible refine (impl_ApplyOp.calls k2 _ _ x8_2 ((rd_T121 l1 x26_2).f0) _ _ ((rd_T121 l1 x26_2).f1) ((rd_T121 l1 x26_2).f2) ((rd_T121 l1 x26_2).f3) ((rd_T121 l1 x26_2).f4) t673 t676 _ ?side1 ?side2 ?side3 ?side4 A20.out).mono ?_); (case side1 => exact z111_); (case side2 => exact z173_); (case side3 => exact z107_); (case side4 => exact HC670_1.out); rintro e w57 ⟨v674, rfl, ho0, hb⟩; refine ⟨_, rfl, ?_⟩; have HO675 := Aside0.mk (Kd.R_lower (Kd.R_new' ho0 (Kd.R_lt z48_)) (below_size z19_)); replace HO_8 := Aside0.mk (Kd.R_elder' z48_ (Kd.R_base ho0) hb); replace BK664 := Aside0.mk (blk_below (g := gb664) (o := .cells #[.slice A2_0 l2_0.length c2_0, .slice A2_1 l2_1.length c2_1, .slice A2_2 l2_2.length c2_2] 51 (0, 0)) z27_ hb); replace BK671 := Aside0.mk (blk_below (g := gb671) (o := .cells #[.int .i64 ((rd_T121 l1 x26_2).f0), .slice A670_1 ((rd_T121 l1 x26_2).f1).length c670_1, .int .i64 ((rd_T121 l1 x26_2).f2), .int .i64 ((rd_T121 l1 x26_2).f3), .int .i64 ((rd_T121 l1 x26_2).f4)] 121 (0, 0)) z103_ hb); replace HB := Aside0.mk (below_step z19_ hb); (try clear hb ho0); obtain ⟨hcz58_0, hcz58_1, hcz58_2, hcz58_3, hcz58_4, hfz58_0, hfz58_1, hfz58_2, hfz58_3, hfz58_4⟩ := bx5_ BK671.out; obtain ⟨hcz59_0, hcz59_1, hcz59_2, hfz59_0, hfz59_1, hfz59_2⟩ := bx3_ BK664.out) | ((with_reducible refine gate_callee (f := 106) rfl ?_); refine goesL_ (some 48) rfl rfl Try.func106 (by kernel_rfl) rfl #[.agg #[.slice A2_0 l2_0.length c2_0, .slice A2_1 l2_1.length c2_1, .slice A2_2 l2_2.length c2_2], .int .i64 ((rd_T121 l1 x26_2).f2)] rfl z1_ ?_; (with_reducible refine (impl_InsCost.calls k2 _ _ l2_0 _ _ l2_1 _ _ l2_2 ((rd_T121 l1 x26_2).f2) t681 _ ?side1 ?side2 ?side3 ?side4 ?side5 ?side6 A50.out).mono ?_); (case side1 => exact z108_); (case side2 => exact HC2_0.out); (case side3 => exact z109_); (case side4 => exact HC2_1.out); (case side5 => exact z110_); (case side6 => exact HC2_2.out); rintro e w60 ⟨rfl, hb⟩; refine ⟨_, rfl, ?_⟩; replace HO_8 := Aside0.mk (Kd.R_below z48_ hb); replace HO675 := Aside0.mk (Kd.R_below z180_ hb); replace BK664 := Aside0.mk (blk_below (g := gb664) (o := .cells #[.slice A2_0 l2_0.length c2_0, .slice A2_1 l2_1.length c2_1, .slice A2_2 l2_2.length c2_2] 51 (0, 0)) z27_ hb); replace BK671 := Aside0.mk (blk_below (g := gb671) (o := .cells #[.int .i64 ((rd_T121 l1 x26_2).f0), .slice A670_1 ((rd_T121 l1 x26_2).f1).length c670_1, .int .i64 ((rd_T121 l1 x26_2).f2), .int .i64 ((rd_T121 l1 x26_2).f3), .int .i64 ((rd_T121 l1 x26_2).f4)] 121 (0, 0)) z103_ hb); replace HB := Aside0.mk (below_step z19_ hb); (try clear hb)))
          go_roundg k2
          case measure => have := HJ3.out; have := HK2.out; omega
          case rel => exact ⟨(wrap64 (x7_2 + t681)), (t673), (wrap64 (x26_2 + 1)), z15_, z15_, H', ⟨by have := HJ3.out; have := HK2.out; omega⟩, ⟨z153_⟩, ⟨z27_⟩, ⟨z19_⟩⟩
       ·rw [if_neg c21] at H
        have c21b0 : (t676 == 0) = false := beq_eq_false_iff_ne.mpr c21
        have c21b1 : (t676 != 0) = true := bne_iff_ne.mpr c21
        obtain rfl := Option.some.inj H
        have p670 : 0 ≤ (x26_2 : Int) := odt_
        have q670 : x26_2 < (l1.length : Int) := odt_
        obtain ⟨ad670, A670_1, c670_1, e670, hx670_0, hx670_1, hx670_2, hx670_3, hx670_4, hl670_1, hi670_1⟩ := at_T121 HR1.out x26_2 p670 q670
        cases e670
        replace hx670_0 := (HB.out.cell (World.block_lt_of_cell? w _ hx670_0)).trans hx670_0
        replace hx670_1 := (HB.out.cell (World.block_lt_of_cell? w _ hx670_1)).trans hx670_1
        replace hx670_2 := (HB.out.cell (World.block_lt_of_cell? w _ hx670_2)).trans hx670_2
        replace hx670_3 := (HB.out.cell (World.block_lt_of_cell? w _ hx670_3)).trans hx670_3
        replace hx670_4 := (HB.out.cell (World.block_lt_of_cell? w _ hx670_4)).trans hx670_4
        have HR670_1 := Aside0.mk hi670_1
        have HC670_1 := Aside0.mk hl670_1
        clear hi670_1 hl670_1
        replace p670 := eq_true p670
        replace q670 := eq_true q670
        go_wp2_with (first | ((with_reducible refine gate_dst (N := 10) rfl ?_); refine box_event ?hg (N := 10) ?hd (cs := #[.int .i64 0, .slice none 0 0, .int .i64 0, .int .i64 0, .int .i64 0]) (t := 121) ?hr ?_; (case hd => rfl); (case hg => rfl); (case hr => exact z21_); intro gb671 hg w61 hbox hb; replace HO_8 := Aside0.mk (Kd.R_below z48_ hb); have BK671 := Aside0.mk (hbox); have GW671 := Aside0.mk ((by rw [hg]; exact (below_size z25_) : w.heap.size ≤ gb671)); have GE671 := Aside0.mk ((by rw [hg]; exact (below_size z25_) : w.heap.size ≤ gb671)); replace HB := Aside0.mk (below_step z25_ hb); have NB664_671 := Aside0.mk ((by rw [hg]; exact Nat.ne_of_lt (blk_lt (g := gb664) (o := .cells #[.slice A2_0 l2_0.length c2_0, .slice A2_1 l2_1.length c2_1, .slice A2_2 l2_2.length c2_2] 51 (0, 0)) z27_) : gb664 ≠ gb671)); have NB671_664 := Aside0.mk ((by rw [hg]; exact Nat.ne_of_gt (blk_lt (g := gb664) (o := .cells #[.slice A2_0 l2_0.length c2_0, .slice A2_1 l2_1.length c2_1, .slice A2_2 l2_2.length c2_2] 51 (0, 0)) z27_) : gb671 ≠ gb664)); replace BK664 := Aside0.mk (blk_below (g := gb664) (o := .cells #[.slice A2_0 l2_0.length c2_0, .slice A2_1 l2_1.length c2_1, .slice A2_2 l2_2.length c2_2] 51 (0, 0)) z27_ hb); clear hb hbox hg; have hnb62 := NB671_664.out; have hnc62 := NB664_671.out; obtain ⟨hcz63_0, hcz63_1, hcz63_2, hcz63_3, hcz63_4, hfz63_0, hfz63_1, hfz63_2, hfz63_3, hfz63_4⟩ := bx5_ BK671.out; obtain ⟨Ao64, co64, eo64⟩ := Kd.R_slice HO_8.out; subst eo64) | ((with_reducible refine gate_callee (f := 103) rfl ?_); refine goesL_ (some 33) rfl rfl Try.func103 (by kernel_rfl) rfl #[.slice Ao64 x8_2.length co64, .slice A670_1 ((rd_T121 l1 x26_2).f1).length c670_1] rfl z1_ ?_; (with_reducible refine (impl_NodeAt.calls k2 _ _ x8_2 _ _ ((rd_T121 l1 x26_2).f1) t672 _ ?side1 ?side2 ?side3 ?side4 A19.out).mono ?_); (case side1 => refine (Kd.R_reads' (e := 62) (base := w.heap.size) (ok := fun k_ => True) (n := x8_2.length) (c := co64) ?_).2.2; exact z16_); (case side2 => exact z173_); (case side3 => exact z87_); (case side4 => exact HC670_1.out); rintro e w65 ⟨rfl, hb⟩; refine ⟨_, rfl, ?_⟩; replace HO_8 := Aside0.mk (Kd.R_below z16_ hb); replace BK664 := Aside0.mk (blk_below (g := gb664) (o := .cells #[.slice A2_0 l2_0.length c2_0, .slice A2_1 l2_1.length c2_1, .slice A2_2 l2_2.length c2_2] 51 (0, 0)) z34_ hb); replace BK671 := Aside0.mk (blk_below (g := gb671) (o := .cells #[.int .i64 ((rd_T121 l1 x26_2).f0), .slice A670_1 ((rd_T121 l1 x26_2).f1).length c670_1, .int .i64 ((rd_T121 l1 x26_2).f2), .int .i64 ((rd_T121 l1 x26_2).f3), .int .i64 ((rd_T121 l1 x26_2).f4)] 121 (0, 0)) z13_ hb); replace HB := Aside0.mk (below_step z19_ hb); (try clear hb); obtain ⟨hcz66_0, hcz66_1, hcz66_2, hcz66_3, hcz66_4, hfz66_0, hfz66_1, hfz66_2, hfz66_3, hfz66_4⟩ := bx5_ BK671.out) | ((with_reducible refine gate_callee (f := 97) rfl ?_); refine goesL_ (some 37) rfl rfl Try.func97 (by kernel_rfl) rfl #[.slice Ao64 x8_2.length co64, .agg #[.int .i64 ((rd_T121 l1 x26_2).f0), .slice A670_1 ((rd_T121 l1 x26_2).f1).length c670_1, .int .i64 ((rd_T121 l1 x26_2).f2), .int .i64 ((rd_T121 l1 x26_2).f3), .int .i64 ((rd_T121 l1 x26_2).f4)]] rfl z1_ ?_; (with_reducible refine (impl_ApplyOp.calls k2 _ _ x8_2 ((rd_T121 l1 x26_2).f0) _ _ ((rd_T121 l1 x26_2).f1) ((rd_T121 l1 x26_2).f2) ((rd_T121 l1 x26_2).f3) ((rd_T121 l1 x26_2).f4) t673 t676 _ ?side1 ?side2 ?side3 ?side4 A20.out).mono ?_); (case side1 => exact z111_); (case side2 => exact z173_); (case side3 => exact z107_); (case side4 => exact HC670_1.out); rintro e w67 ⟨v674, rfl, ho0, hb⟩; refine ⟨_, rfl, ?_⟩; have HO675 := Aside0.mk (Kd.R_lower (Kd.R_new' ho0 (Kd.R_lt z48_)) (below_size z19_)); replace HO_8 := Aside0.mk (Kd.R_elder' z48_ (Kd.R_base ho0) hb); replace BK664 := Aside0.mk (blk_below (g := gb664) (o := .cells #[.slice A2_0 l2_0.length c2_0, .slice A2_1 l2_1.length c2_1, .slice A2_2 l2_2.length c2_2] 51 (0, 0)) z27_ hb); replace BK671 := Aside0.mk (blk_below (g := gb671) (o := .cells #[.int .i64 ((rd_T121 l1 x26_2).f0), .slice A670_1 ((rd_T121 l1 x26_2).f1).length c670_1, .int .i64 ((rd_T121 l1 x26_2).f2), .int .i64 ((rd_T121 l1 x26_2).f3), .int .i64 ((rd_T121 l1 x26_2).f4)] 121 (0, 0)) z103_ hb); replace HB := Aside0.mk (below_step z19_ hb); (try clear hb ho0)))
        go_ret
        exact ⟨z6_, z19_⟩
      ·rw [if_neg c16] at H
       have c16b0 := decide_eq_false c16
       clear c16
       obtain rfl := Option.some.inj H
       go_wp2
       go_ret
       exact ⟨z6_, z25_⟩

end Go.Proofs.Ytdapeboajjidmab.PFnInverted
