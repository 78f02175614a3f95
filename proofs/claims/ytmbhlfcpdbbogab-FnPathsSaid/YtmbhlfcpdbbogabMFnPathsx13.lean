/- Laid by a program of this session out of the kit's print for the law FnPaths: what it says of the machine is proved here, function by function; each contract under the conditions that it names. -/
import Derived.Test.YtmbhlfcpdbbogabMFnPathsx0
import Derived.Test.YtmbhlfcpdbbogabMFnPathsx4
import Derived.Test.YtmbhlfcpdbbogabMFnPathsx5
import Derived.Test.YtmbhlfcpdbbogabMFnPathsx6
import Derived.Test.YtmbhlfcpdbbogabMFnPathsx7
import Derived.Test.YtmbhlfcpdbbogabMFnPathsx8
import Derived.Test.YtmbhlfcpdbbogabMFnPathsx10
import Derived.Test.YtmbhlfcpdbbogabMFnPathsx12
namespace Go.Proofs.Ytmbhlfcpdbbogab.PFnPaths
open Go.RowKit Go.Proofs.YtmbhlfcpdbbogabW.PrintWords Go.Proofs.YtmbhlfcpdbbogabW.PrintLast Go.Proofs.YtmbhlfcpdbbogabW.PrintMore
attribute [local go_sem] max2_int min2_int max_two min_two max_three min_three max_four min_four   -- for this text's walks alone
set_option linter.unusedVariables false
set_option linter.unusedSimpArgs false

/-! ### impl_DomFind: function 30 -/
def impl_DomFind.f (k : Nat) (l0_0 : List (S90)) (l1 : List Int) : Option (Int) := (impl_Dom_walked.f k l0_0).bind fun bt463 => ((impl_NodeAt.f k bt463.1 l1).bind fun t470 => (if bt463.2.2 = true then (if t470 < 0 then (some (-1)) else (if 0 ≤ t470 then (if t470 < (bt463.2.1.length : Int) then (some (rd bt463.2.1 t470)) else (none)) else (none))) else (some (-1))))
theorem impl_DomFind.mono : ∀ a0 a1 k, LeO (impl_DomFind.f k a0 a1) (impl_DomFind.f (k + 1) a0 a1) := by
 intro a0 a1 k
 unfold impl_DomFind.f
 repeat' first | (with_reducible first | exact impl_Dom_walked.mono _ _ | exact impl_NodeAt.mono _ _ _ | exact LeO.refl _ | exact LeO.none _ | refine LeO.ite ?_ ?_ | refine LeO.bind ?_ (fun _ => ?_)) | exact impl_Dom_walked.mono _ _ | exact impl_NodeAt.mono _ _ _ | exact LeO.none _ | refine LeO.ite ?_ ?_ | refine LeO.bind ?_ (fun _ => ?_)
set_option maxHeartbeats 8000000 in
set_option maxRecDepth 100000 in
theorem impl_DomFind.calls (k : Nat) (A0_0 : Option Addr) (c0_0 : Nat) (l0_0 : List (S90)) (A1 : Option Addr) (c1 : Nat) (l1 : List Int) (r : Int) (w : World) (hr0_0 : Kd.C k90 w A0_0 l0_0.length l0_0) (hc0_0 : l0_0.length ≤ c0_0) (hr1 : Kd.C (Kd.int .i64) w A1 l1.length l1) (hc1 : l1.length ≤ c1) (h : impl_DomFind.f k l0_0 l1 = some r) :
  Calls Try.prog 30 #[.agg #[.slice A0_0 l0_0.length c0_0], .slice A1 l1.length c1] w fun e w' => e = .returned (.int .i64 r) ∧ Below w.heap.size w w' := by
 have hu28 := Try.underlying28
 have HR0_0 := Aside0.mk hr0_0
 have HC0_0 := Aside0.mk hc0_0
 clear hr0_0 hc0_0
 have HR1 := Aside0.mk hr1
 have HC1 := Aside0.mk hc1
 clear hr1 hc1
 have HB := Aside0.mk (Below.refl w.heap.size w)
 have H : ((impl_Dom_walked.f k l0_0).bind fun bt463 => ((impl_NodeAt.f k bt463.1 l1).bind fun t470 => (if bt463.2.2 = true then (if t470 < 0 then (some (-1)) else (if 0 ≤ t470 then (if t470 < (bt463.2.1.length : Int) then (some (rd bt463.2.1 t470)) else (none)) else (none))) else (some (-1))))) = some r := h
 clear h
 replace H := Option.bind_eq_some_iff.mp H
 obtain ⟨⟨t463, t466, t469⟩, A30, H⟩ := H
 replace H : ((impl_NodeAt.f k t463 l1).bind fun t470 => (if t469 = true then (if t470 < 0 then (some (-1)) else (if 0 ≤ t470 then (if t470 < (t466.length : Int) then (some (rd t466 t470)) else (none)) else (none))) else (some (-1)))) = some r := H
 have A3 := Aside0.mk A30
 clear A30
 obtain ⟨t470, A4, H⟩ := bnd_ H
 by_cases c5 : t469 = true
 ·subst c5
  replace H := ift_ H
  by_cases c6 : t470 < 0
  ·rw [if_pos c6] at H
   have c6b0 : decide (t470 < 0) = true := decide_eq_true c6
   clear c6
   obtain rfl := Option.some.inj H
   go_enter Try.func30, Try.ntmps30
   go_wp2_with (first | ((with_reducible refine gate_dst (N := 2) rfl ?_); refine box_event ?hg (N := 2) ?hd (cs := #[.slice A0_0 l0_0.length c0_0]) (t := 28) ?hr ?_; (case hd => rfl); (case hg => rfl); (case hr => exact z35_); intro gb462 hg w7 hbox hb; have BK462 := Aside0.mk (hbox); have GW462 := Aside0.mk ((by rw [hg]; exact (below_size z0_) : w.heap.size ≤ gb462)); have GE462 := Aside0.mk ((by rw [hg]; exact (below_size z0_) : w.heap.size ≤ gb462)); replace HB := Aside0.mk (below_step z0_ hb); clear hb hbox hg; have hcz8_0 : w7.cell? ⟨gb462, 0, none⟩ = some (.slice A0_0 l0_0.length c0_0) := (blk_cell BK462.out 0).trans rfl; have hfz8_0 := blk_frozen BK462.out 0) | ((with_reducible refine gate_callee (f := 84) rfl ?_); refine goesL_ (some 11) rfl rfl Try.func84 (by kernel_rfl) rfl #[.agg #[.slice A0_0 l0_0.length c0_0]] rfl z1_ ?_; (with_reducible refine (impl_Dom_walked.calls k _ _ l0_0 t463 t466 true _ ?side1 ?side2 A3.out).mono ?_); (case side1 => exact z104_); (case side2 => exact HC0_0.out); rintro e w9 ⟨v464, v467, rfl, ho0, ho1, hb⟩; refine ⟨_, rfl, ?_⟩; have HO465 := Aside0.mk (Kd.R_lower ho0 (below_size z27_)); have HO468 := Aside0.mk (Kd.R_lower ho1 (below_size z27_)); replace BK462 := Aside0.mk (blk_below (g := gb462) (o := .cells #[.slice A0_0 l0_0.length c0_0] 28 (0, 0)) z85_ hb); replace HB := Aside0.mk (below_step z27_ hb); (try clear hb ho0 ho1); obtain ⟨Ao10, co10, eo10⟩ := Kd.R_slice HO465.out; subst eo10) | ((with_reducible refine gate_callee (f := 26) rfl ?_); refine goesL_ (some 17) rfl rfl Try.func26 (by kernel_rfl) rfl #[.slice Ao10 t463.length co10, .slice A1 l1.length c1] rfl z1_ ?_; (with_reducible refine (impl_NodeAt.calls k _ _ t463 _ _ l1 t470 _ ?side1 ?side2 ?side3 ?side4 A4.out).mono ?_); (case side1 => exact z107_); (case side2 => exact (Kd.R_reads' HO465.out).2.1); (case side3 => exact z108_); (case side4 => exact HC1.out); rintro e w11 ⟨rfl, hb⟩; refine ⟨_, rfl, ?_⟩; replace HO465 := Aside0.mk (Kd.R_below z130_ hb); replace HO468 := Aside0.mk (Kd.R_below z131_ hb); replace BK462 := Aside0.mk (blk_below (g := gb462) (o := .cells #[.slice A0_0 l0_0.length c0_0] 28 (0, 0)) z85_ hb); replace HB := Aside0.mk (below_step z27_ hb); (try clear hb)))
   go_ret
   exact ⟨z9_, z27_⟩
  ·rw [if_neg c6] at H
   have c6b0 : decide (t470 < 0) = false := decide_eq_false c6
   clear c6
   obtain ⟨c12b0, H⟩ := ifd_ H
   obtain ⟨c13b0, H⟩ := ifd_ H
   obtain rfl := Option.some.inj H
   go_enter Try.func30, Try.ntmps30
   go_wp2_with (first | ((with_reducible refine gate_dst (N := 2) rfl ?_); refine box_event ?hg (N := 2) ?hd (cs := #[.slice A0_0 l0_0.length c0_0]) (t := 28) ?hr ?_; (case hd => rfl); (case hg => rfl); (case hr => exact z35_); intro gb462 hg w14 hbox hb; have BK462 := Aside0.mk (hbox); have GW462 := Aside0.mk ((by rw [hg]; exact (below_size z0_) : w.heap.size ≤ gb462)); have GE462 := Aside0.mk ((by rw [hg]; exact (below_size z0_) : w.heap.size ≤ gb462)); replace HB := Aside0.mk (below_step z0_ hb); clear hb hbox hg; have hcz15_0 : w14.cell? ⟨gb462, 0, none⟩ = some (.slice A0_0 l0_0.length c0_0) := (blk_cell BK462.out 0).trans rfl; have hfz15_0 := blk_frozen BK462.out 0) | ((with_reducible refine gate_callee (f := 84) rfl ?_); refine goesL_ (some 11) rfl rfl Try.func84 (by kernel_rfl) rfl #[.agg #[.slice A0_0 l0_0.length c0_0]] rfl z1_ ?_; (with_reducible refine (impl_Dom_walked.calls k _ _ l0_0 t463 t466 true _ ?side1 ?side2 A3.out).mono ?_); (case side1 => exact z104_); (case side2 => exact HC0_0.out); rintro e w16 ⟨v464, v467, rfl, ho0, ho1, hb⟩; refine ⟨_, rfl, ?_⟩; have HO465 := Aside0.mk (Kd.R_lower ho0 (below_size z27_)); have HO468 := Aside0.mk (Kd.R_lower ho1 (below_size z27_)); replace BK462 := Aside0.mk (blk_below (g := gb462) (o := .cells #[.slice A0_0 l0_0.length c0_0] 28 (0, 0)) z85_ hb); replace HB := Aside0.mk (below_step z27_ hb); (try clear hb ho0 ho1); obtain ⟨Ao17, co17, eo17⟩ := Kd.R_slice HO465.out; subst eo17) | ((with_reducible refine gate_callee (f := 26) rfl ?_); refine goesL_ (some 17) rfl rfl Try.func26 (by kernel_rfl) rfl #[.slice Ao17 t463.length co17, .slice A1 l1.length c1] rfl z1_ ?_; (with_reducible refine (impl_NodeAt.calls k _ _ t463 _ _ l1 t470 _ ?side1 ?side2 ?side3 ?side4 A4.out).mono ?_); (case side1 => exact z107_); (case side2 => exact (Kd.R_reads' HO465.out).2.1); (case side3 => exact z108_); (case side4 => exact HC1.out); rintro e w18 ⟨rfl, hb⟩; refine ⟨_, rfl, ?_⟩; replace HO465 := Aside0.mk (Kd.R_below z130_ hb); replace HO468 := Aside0.mk (Kd.R_below z131_ hb); replace BK462 := Aside0.mk (blk_below (g := gb462) (o := .cells #[.slice A0_0 l0_0.length c0_0] 28 (0, 0)) z85_ hb); replace HB := Aside0.mk (below_step z27_ hb); (try clear hb); obtain ⟨Ao19, co19, eo19⟩ := Kd.R_slice HO468.out; subst eo19; have p471 : 0 ≤ (t470 : Int) := odt_; have q471 : t470 < (t466.length : Int) := odt_; obtain ⟨ad471, e471, hx471_0⟩ := Kd.at_int (Kd.R_reads' HO468.out).2.2 t470 p471 q471; cases e471; replace p471 := eq_true p471; replace q471 := eq_true q471))
   go_ret
   exact ⟨z9_, z27_⟩
 ·replace c5 := Bool.eq_false_iff.mpr c5
  subst c5
  replace H := iff_ H
  obtain rfl := Option.some.inj H
  go_enter Try.func30, Try.ntmps30
  go_wp2_with (first | ((with_reducible refine gate_dst (N := 2) rfl ?_); refine box_event ?hg (N := 2) ?hd (cs := #[.slice A0_0 l0_0.length c0_0]) (t := 28) ?hr ?_; (case hd => rfl); (case hg => rfl); (case hr => exact z35_); intro gb462 hg w20 hbox hb; have BK462 := Aside0.mk (hbox); have GW462 := Aside0.mk ((by rw [hg]; exact (below_size z0_) : w.heap.size ≤ gb462)); have GE462 := Aside0.mk ((by rw [hg]; exact (below_size z0_) : w.heap.size ≤ gb462)); replace HB := Aside0.mk (below_step z0_ hb); clear hb hbox hg; have hcz21_0 : w20.cell? ⟨gb462, 0, none⟩ = some (.slice A0_0 l0_0.length c0_0) := (blk_cell BK462.out 0).trans rfl; have hfz21_0 := blk_frozen BK462.out 0) | ((with_reducible refine gate_callee (f := 84) rfl ?_); refine goesL_ (some 11) rfl rfl Try.func84 (by kernel_rfl) rfl #[.agg #[.slice A0_0 l0_0.length c0_0]] rfl z1_ ?_; (with_reducible refine (impl_Dom_walked.calls k _ _ l0_0 t463 t466 false _ ?side1 ?side2 A3.out).mono ?_); (case side1 => exact z104_); (case side2 => exact HC0_0.out); rintro e w22 ⟨v464, v467, rfl, ho0, ho1, hb⟩; refine ⟨_, rfl, ?_⟩; have HO465 := Aside0.mk (Kd.R_lower ho0 (below_size z27_)); have HO468 := Aside0.mk (Kd.R_lower ho1 (below_size z27_)); replace BK462 := Aside0.mk (blk_below (g := gb462) (o := .cells #[.slice A0_0 l0_0.length c0_0] 28 (0, 0)) z85_ hb); replace HB := Aside0.mk (below_step z27_ hb); (try clear hb ho0 ho1); obtain ⟨Ao23, co23, eo23⟩ := Kd.R_slice HO465.out; subst eo23) | ((with_reducible refine gate_callee (f := 26) rfl ?_); refine goesL_ (some 17) rfl rfl Try.func26 (by kernel_rfl) rfl #[.slice Ao23 t463.length co23, .slice A1 l1.length c1] rfl z1_ ?_; (with_reducible refine (impl_NodeAt.calls k _ _ t463 _ _ l1 t470 _ ?side1 ?side2 ?side3 ?side4 A4.out).mono ?_); (case side1 => exact z107_); (case side2 => exact (Kd.R_reads' HO465.out).2.1); (case side3 => exact z108_); (case side4 => exact HC1.out); rintro e w24 ⟨rfl, hb⟩; refine ⟨_, rfl, ?_⟩; replace HO465 := Aside0.mk (Kd.R_below z130_ hb); replace HO468 := Aside0.mk (Kd.R_below z131_ hb); replace BK462 := Aside0.mk (blk_below (g := gb462) (o := .cells #[.slice A0_0 l0_0.length c0_0] 28 (0, 0)) z85_ hb); replace HB := Aside0.mk (below_step z27_ hb); (try clear hb)))
  go_ret
  exact ⟨z9_, z27_⟩

/-! ### laws_FnPaths: function 5 -/
mutual
def laws_FnPaths.j0 : Nat → List (S55) → Int → List Int → Bool → Option (Bool)
 | 0, _, _, _, _ => none
 | k + 1, x3, x4, x5, x43 => if x43 = true then (some false) else ((spec_TreeOk.f k x3).bind fun t492 => (if t492 = true then (if x4 < 0 then (laws_FnPaths.j1 k x3 x4 x5 true) else (laws_FnPaths.j1 k x3 x4 x5 (decide (x4 ≥ (x3.length : Int))))) else (laws_FnPaths.j1 k x3 x4 x5 true)))
def laws_FnPaths.j1 : Nat → List (S55) → Int → List Int → Bool → Option (Bool)
 | 0, _, _, _, _ => none
 | k + 1, x3, x4, x5, x56 => if x56 = true then (some ((x5.length : Int) == 0)) else ((impl_NodeAt.f k x3 x5).bind fun t493 => (if t493 = x4 then (if 0 ≤ x4 then (if x4 < (x3.length : Int) then (if (x5.length : Int) = ((rd_T55 x3 x4).f1) then ((impl_DomFrom.f k x3).bind fun t495 => ((impl_DomFind.f k t495 x5).bind fun t498 => (some (t498 == x4)))) else (some false)) else (none)) else (none)) else (some false)))
end
def laws_FnPaths.f (k : Nat) (l0 : List Int) : Option (Bool) := (laws_big.f l0).bind fun t472 => (if t472 = true then (some true) else ((spec_DrawPathOf.f k l0).bind fun bt473 => ((impl_PathOf.f k bt473.1 bt473.2).bind fun t477 => ((spec_DrawNodeAt.f k l0).bind fun bt480 => ((impl_NodeAt.f k bt480.1 bt480.2).bind fun t486 => ((spec_NodeAt.f k bt480.1 bt480.2).bind fun t487 => (if t486 = t487 then (if t486 ≥ 0 then ((impl_PathOf.f k bt480.1 t486).bind fun t488 => ((laws_sameInts.f k t488 bt480.2).bind fun t491 => (laws_FnPaths.j0 k bt473.1 bt473.2 t477 (!t491)))) else (laws_FnPaths.j0 k bt473.1 bt473.2 t477 false)) else (laws_FnPaths.j0 k bt473.1 bt473.2 t477 true))))))))
theorem laws_FnPaths.mono_l : ∀ k, (∀ y0 y1 y2 y3, LeO (laws_FnPaths.j0 k y0 y1 y2 y3) (laws_FnPaths.j0 (k + 1) y0 y1 y2 y3)) ∧ (∀ y0 y1 y2 y3, LeO (laws_FnPaths.j1 k y0 y1 y2 y3) (laws_FnPaths.j1 (k + 1) y0 y1 y2 y3))
 | 0 => ⟨fun _ _ _ _ r h => by simp [laws_FnPaths.j0] at h, fun _ _ _ _ r h => by simp [laws_FnPaths.j1] at h⟩
 | k + 1 => by
  obtain ⟨ih0, ih1⟩ := laws_FnPaths.mono_l k
  refine ⟨?_, ?_⟩
  ·intro y0 y1 y2 y3
   unfold laws_FnPaths.j0
   repeat' first | (with_reducible first | exact ih0 _ _ _ _ | exact ih1 _ _ _ _ | exact impl_DomFind.mono _ _ _ | exact impl_DomFrom.mono _ _ | exact impl_NodeAt.mono _ _ _ | exact impl_PathOf.mono _ _ _ | exact laws_sameInts.mono _ _ _ | exact spec_DrawNodeAt.mono _ _ | exact spec_DrawPathOf.mono _ _ | exact spec_NodeAt.mono _ _ _ | exact spec_TreeOk.mono _ _ | exact LeO.refl _ | exact LeO.none _ | refine LeO.ite ?_ ?_ | refine LeO.bind ?_ (fun _ => ?_)) | exact ih0 _ _ _ _ | exact ih1 _ _ _ _ | exact impl_DomFind.mono _ _ _ | exact impl_DomFrom.mono _ _ | exact impl_NodeAt.mono _ _ _ | exact impl_PathOf.mono _ _ _ | exact laws_sameInts.mono _ _ _ | exact spec_DrawNodeAt.mono _ _ | exact spec_DrawPathOf.mono _ _ | exact spec_NodeAt.mono _ _ _ | exact spec_TreeOk.mono _ _ | exact LeO.none _ | refine LeO.ite ?_ ?_ | refine LeO.bind ?_ (fun _ => ?_)
  ·intro y0 y1 y2 y3
   unfold laws_FnPaths.j1
   repeat' first | (with_reducible first | exact ih0 _ _ _ _ | exact ih1 _ _ _ _ | exact impl_DomFind.mono _ _ _ | exact impl_DomFrom.mono _ _ | exact impl_NodeAt.mono _ _ _ | exact impl_PathOf.mono _ _ _ | exact laws_sameInts.mono _ _ _ | exact spec_DrawNodeAt.mono _ _ | exact spec_DrawPathOf.mono _ _ | exact spec_NodeAt.mono _ _ _ | exact spec_TreeOk.mono _ _ | exact LeO.refl _ | exact LeO.none _ | refine LeO.ite ?_ ?_ | refine LeO.bind ?_ (fun _ => ?_)) | exact ih0 _ _ _ _ | exact ih1 _ _ _ _ | exact impl_DomFind.mono _ _ _ | exact impl_DomFrom.mono _ _ | exact impl_NodeAt.mono _ _ _ | exact impl_PathOf.mono _ _ _ | exact laws_sameInts.mono _ _ _ | exact spec_DrawNodeAt.mono _ _ | exact spec_DrawPathOf.mono _ _ | exact spec_NodeAt.mono _ _ _ | exact spec_TreeOk.mono _ _ | exact LeO.none _ | refine LeO.ite ?_ ?_ | refine LeO.bind ?_ (fun _ => ?_)
theorem laws_FnPaths.mono : ∀ a0 k, LeO (laws_FnPaths.f k a0) (laws_FnPaths.f (k + 1) a0) := by
 intro a0 k
 obtain ⟨ih0, ih1⟩ := laws_FnPaths.mono_l k
 unfold laws_FnPaths.f
 repeat' first | (with_reducible first | exact ih0 _ _ _ _ | exact ih1 _ _ _ _ | exact impl_DomFind.mono _ _ _ | exact impl_DomFrom.mono _ _ | exact impl_NodeAt.mono _ _ _ | exact impl_PathOf.mono _ _ _ | exact laws_sameInts.mono _ _ _ | exact spec_DrawNodeAt.mono _ _ | exact spec_DrawPathOf.mono _ _ | exact spec_NodeAt.mono _ _ _ | exact spec_TreeOk.mono _ _ | exact LeO.refl _ | exact LeO.none _ | refine LeO.ite ?_ ?_ | refine LeO.bind ?_ (fun _ => ?_)) | exact ih0 _ _ _ _ | exact ih1 _ _ _ _ | exact impl_DomFind.mono _ _ _ | exact impl_DomFrom.mono _ _ | exact impl_NodeAt.mono _ _ _ | exact impl_PathOf.mono _ _ _ | exact laws_sameInts.mono _ _ _ | exact spec_DrawNodeAt.mono _ _ | exact spec_DrawPathOf.mono _ _ | exact spec_NodeAt.mono _ _ _ | exact spec_TreeOk.mono _ _ | exact LeO.none _ | refine LeO.ite ?_ ?_ | refine LeO.bind ?_ (fun _ => ?_)
set_option maxHeartbeats 8000000 in
set_option maxRecDepth 100000 in
theorem laws_FnPaths.calls (k : Nat) (A0 : Option Addr) (c0 : Nat) (l0 : List Int) (r : Bool) (w : World) (hr0 : Kd.C (Kd.int .u8) w A0 l0.length l0) (hc0 : l0.length ≤ c0) (h : laws_FnPaths.f k l0 = some r) :
  Calls Try.prog 5 #[.slice A0 l0.length c0] w fun e w' => e = .returned (.bool r) ∧ Below w.heap.size w w' := by
 have HR0 := Aside0.mk hr0
 have HC0 := Aside0.mk hc0
 clear hr0 hc0
 have HB := Aside0.mk (Below.refl w.heap.size w)
 have H : ((laws_big.f l0).bind fun t472 => (if t472 = true then (some true) else ((spec_DrawPathOf.f k l0).bind fun bt473 => ((impl_PathOf.f k bt473.1 bt473.2).bind fun t477 => ((spec_DrawNodeAt.f k l0).bind fun bt480 => ((impl_NodeAt.f k bt480.1 bt480.2).bind fun t486 => ((spec_NodeAt.f k bt480.1 bt480.2).bind fun t487 => (if t486 = t487 then (if t486 ≥ 0 then ((impl_PathOf.f k bt480.1 t486).bind fun t488 => ((laws_sameInts.f k t488 bt480.2).bind fun t491 => (laws_FnPaths.j0 k bt473.1 bt473.2 t477 (!t491)))) else (laws_FnPaths.j0 k bt473.1 bt473.2 t477 false)) else (laws_FnPaths.j0 k bt473.1 bt473.2 t477 true))))))))) = some r := h
 clear h
 obtain ⟨t472, A2, H⟩ := bnd_ H
 by_cases c3 : t472 = true
 ·subst c3
  replace H := ift_ H
  obtain rfl := Option.some.inj H
  go_enter Try.func5, Try.ntmps5
  go_wp2_with (first | ((with_reducible refine gate_callee (f := 22) rfl ?_); refine goesL_ (some 10) rfl rfl Try.func22 (by kernel_rfl) rfl #[.slice A0 l0.length c0] rfl z1_ ?_; (with_reducible refine (laws_big.calls _ _ l0 true _ ?side1 ?side2 A2.out).mono ?_); (case side1 => exact z14_); (case side2 => exact HC0.out); rintro e w' ⟨rfl, ⟨nd, rfl⟩⟩; refine ⟨_, rfl, ?_⟩))
  go_ret
  exact ⟨z9_, z0_⟩
 ·replace c3 := Bool.eq_false_iff.mpr c3
  subst c3
  replace H := iff_ H
  replace H := Option.bind_eq_some_iff.mp H
  obtain ⟨⟨t473, t474⟩, A40, H⟩ := H
  replace H : ((impl_PathOf.f k t473 t474).bind fun t477 => ((spec_DrawNodeAt.f k l0).bind fun bt480 => ((impl_NodeAt.f k bt480.1 bt480.2).bind fun t486 => ((spec_NodeAt.f k bt480.1 bt480.2).bind fun t487 => (if t486 = t487 then (if t486 ≥ 0 then ((impl_PathOf.f k bt480.1 t486).bind fun t488 => ((laws_sameInts.f k t488 bt480.2).bind fun t491 => (laws_FnPaths.j0 k t473 t474 t477 (!t491)))) else (laws_FnPaths.j0 k t473 t474 t477 false)) else (laws_FnPaths.j0 k t473 t474 t477 true)))))) = some r := H
  have A4 := Aside0.mk A40
  clear A40
  obtain ⟨t477, A5, H⟩ := bnd_ H
  replace H := Option.bind_eq_some_iff.mp H
  obtain ⟨⟨t480, t481⟩, A60, H⟩ := H
  replace H : ((impl_NodeAt.f k t480 t481).bind fun t486 => ((spec_NodeAt.f k t480 t481).bind fun t487 => (if t486 = t487 then (if t486 ≥ 0 then ((impl_PathOf.f k t480 t486).bind fun t488 => ((laws_sameInts.f k t488 t481).bind fun t491 => (laws_FnPaths.j0 k t473 t474 t477 (!t491)))) else (laws_FnPaths.j0 k t473 t474 t477 false)) else (laws_FnPaths.j0 k t473 t474 t477 true)))) = some r := H
  have A6 := Aside0.mk A60
  clear A60
  obtain ⟨t486, A7, H⟩ := bnd_ H
  have HC8 := Aside0.mk H
  clear H
  go_enter Try.func5, Try.ntmps5
  go_upto_region 7 with (first | ((with_reducible refine gate_callee (f := 22) rfl ?_); refine goesL_ (some 10) rfl rfl Try.func22 (by kernel_rfl) rfl #[.slice A0 l0.length c0] rfl z1_ ?_; (with_reducible refine (laws_big.calls _ _ l0 false _ ?side1 ?side2 A2.out).mono ?_); (case side1 => exact z14_); (case side2 => exact HC0.out); rintro e w' ⟨rfl, ⟨nd, rfl⟩⟩; refine ⟨_, rfl, ?_⟩) | ((with_reducible refine gate_callee (f := 23) rfl ?_); refine goesL_ (some 13) rfl rfl Try.func23 (by kernel_rfl) rfl #[.slice A0 l0.length c0] rfl z1_ ?_; (with_reducible refine (spec_DrawPathOf.calls k _ _ l0 t473 t474 _ ?side1 ?side2 A4.out).mono ?_); (case side1 => exact z14_); (case side2 => exact HC0.out); rintro e w9 ⟨v475, rfl, ho0, hb⟩; refine ⟨_, rfl, ?_⟩; have HO476 := Aside0.mk (Kd.Q_lower ho0 (below_size z0_)); replace HB := Aside0.mk (below_step z0_ hb); (try clear hb ho0); obtain ⟨Ao10, co10, eo10, _⟩ := Kd.Q_slice HO476.out; subst eo10) | ((with_reducible refine gate_callee (f := 24) rfl ?_); refine goesL_ (some 18) rfl rfl Try.func24 (by kernel_rfl) rfl #[.slice Ao10 t473.length co10, .int .i64 t474] rfl z1_ ?_; (with_reducible refine (impl_PathOf.calls k _ _ t473 t474 t477 _ ?side1 ?side2 A5.out).mono ?_); (case side1 => repeat (first | exact (Kd.Q_reads' HO476.out).2.2 | (with_reducible refine Kd.C_alloc ?_ _) | (with_reducible refine Kd.C_drewN ?_ _) | (with_reducible refine Kd.C_drew ?_))); (case side2 => exact (Kd.Q_reads' HO476.out).2.1); rintro e w11 ⟨v478, rfl, ho0, hb⟩; refine ⟨_, rfl, ?_⟩; replace HO476 := Aside0.mk (Kd.Q_below z74_ hb); have HO479 := Aside0.mk (Kd.R_lower ho0 (below_size z0_)); replace HB := Aside0.mk (below_step z0_ hb); (try clear hb ho0)) | ((with_reducible refine gate_callee (f := 25) rfl ?_); refine goesL_ (some 21) rfl rfl Try.func25 (by kernel_rfl) rfl #[.slice A0 l0.length c0] rfl z1_ ?_; (with_reducible refine (spec_DrawNodeAt.calls k _ _ l0 t480 t481 _ ?side1 ?side2 A6.out).mono ?_); (case side1 => exact z7_); (case side2 => exact HC0.out); rintro e w12 ⟨v482, v484, rfl, ho0, ho1, hb⟩; refine ⟨_, rfl, ?_⟩; have HO483 := Aside0.mk (Kd.Q_lower (Kd.Q_new' ho0 (Kd.Q_lt z74_)) (below_size z0_)); replace HO476 := Aside0.mk (Kd.Q_elder' z74_ (Kd.Q_base ho0) hb); have HO485 := Aside0.mk (Kd.R_lower (Kd.R_new' ho1 (Kd.R_lt z75_)) (below_size z0_)); replace HO479 := Aside0.mk (Kd.R_elder' z75_ (Kd.R_base ho1) hb); replace HB := Aside0.mk (below_step z0_ hb); (try clear hb ho0 ho1); obtain ⟨Ao13, co13, eo13, _⟩ := Kd.Q_slice HO483.out; subst eo13; obtain ⟨Ao14, co14, eo14⟩ := Kd.R_slice HO485.out; subst eo14) | ((with_reducible refine gate_callee (f := 26) rfl ?_); refine goesL_ (some 26) rfl rfl Try.func26 (by kernel_rfl) rfl #[.slice Ao13 t480.length co13, .slice Ao14 t481.length co14] rfl z1_ ?_; (with_reducible refine (impl_NodeAt.calls k _ _ t480 _ _ t481 t486 _ ?side1 ?side2 ?side3 ?side4 A7.out).mono ?_); (case side1 => exact z69_); (case side2 => exact z150_); (case side3 => exact z70_); (case side4 => exact z151_); rintro e w15 ⟨rfl, hb⟩; refine ⟨_, rfl, ?_⟩; replace HO476 := Aside0.mk (Kd.Q_below z74_ hb); replace HO479 := Aside0.mk (Kd.R_below z75_ hb); replace HO483 := Aside0.mk (Kd.Q_below z106_ hb); replace HO485 := Aside0.mk (Kd.R_below z93_ hb); replace HB := Aside0.mk (below_step z0_ hb); (try clear hb)))
  (try simp only [Act.put, List.setIfInBounds_toArray, List.set_cons_zero, List.set_cons_succ])
  go_cut [43] (fun v43 wc => ∃ (kq : Nat) (x43_7 : Bool), v43 = .bool x43_7 ∧ Aside0 (laws_FnPaths.j0 kq t473 t474 t477 x43_7 = some r) ∧ Aside0 (kq ≤ k) ∧ Aside0 (Kd.Q k55 55 wc w.heap.size (fun _ => True) (.slice Ao10 t473.length co10) t473) ∧ Aside0 (Kd.R (Kd.int .i64) 3 wc w.heap.size (fun _ => True) v478 t477) ∧ Aside0 (Below w.heap.size w wc))
  case first =>
   have H := HC8.out
   clear HC8
   obtain ⟨t487, A16, H⟩ := bnd_ H
   by_cases c17 : t486 = t487
   ·rw [if_pos c17] at H
    have c17b0 : (t486 == t487) = true := beq_iff_eq.mpr c17
    have c17b1 : (t486 != t487) = false := bne_eq_false_iff_eq.mpr c17
    clear c17
    (first | rw [c17b0] | rw [c17b1] | (simp only [i64_w, i32_w]; rw [c17b0]) | skip)
    by_cases c18 : t486 ≥ 0
    ·rw [if_pos c18] at H
     have c18b0 : decide (0 ≤ t486) = true := decide_eq_true c18
     clear c18
     obtain ⟨t488, A19, H⟩ := bnd_ H
     obtain ⟨t491, A20, H⟩ := bnd_ H
     have H' := Aside0.mk H
     clear H
     go_wp2_with (first | ((with_reducible refine gate_callee (f := 27) rfl ?_); refine goesL_ (some 30) rfl rfl Try.func27 (by kernel_rfl) rfl #[.slice Ao13 t480.length co13, .slice Ao14 t481.length co14] rfl z1_ ?_; (with_reducible refine (spec_NodeAt.calls k _ _ t480 _ _ t481 t487 _ ?side1 ?side2 ?side3 ?side4 A16.out).mono ?_); (case side1 => exact z69_); (case side2 => exact z150_); (case side3 => exact z70_); (case side4 => exact z151_); rintro e w21 ⟨rfl, hb⟩; refine ⟨_, rfl, ?_⟩; replace HO476 := Aside0.mk (Kd.Q_below z74_ hb); replace HO479 := Aside0.mk (Kd.R_below z75_ hb); replace HO483 := Aside0.mk (Kd.Q_below z106_ hb); replace HO485 := Aside0.mk (Kd.R_below z93_ hb); replace HB := Aside0.mk (below_step z0_ hb); (try clear hb)) | (go_at_call 24; (with_reducible refine (impl_PathOf.calls k _ _ t480 t486 t488 _ ?side1 ?side2 A19.out).mono ?_); (case side1 => exact z69_); (case side2 => exact z150_); rintro e w22 ⟨v489, rfl, ho0, hb⟩; replace HO476 := Aside0.mk (Kd.Q_below z74_ hb); replace HO483 := Aside0.mk (Kd.Q_below z106_ hb); have HO490 := Aside0.mk (Kd.R_lower (Kd.R_new' (Kd.R_new' ho0 (Kd.R_lt z75_)) (Kd.R_lt z93_)) (below_size z0_)); replace HO479 := Aside0.mk (Kd.R_elder' z75_ (Kd.R_base ho0) hb); replace HO485 := Aside0.mk (Kd.R_elder' z93_ (Kd.R_base ho0) hb); replace HB := Aside0.mk (below_step z0_ hb); (try clear hb ho0); obtain ⟨Ao23, co23, eo23⟩ := Kd.R_slice HO490.out; subst eo23) | (go_at_call 28; (with_reducible refine (laws_sameInts.calls k _ _ t488 _ _ t481 t491 _ ?side1 ?side2 ?side3 ?side4 A20.out).mono ?_); (case side1 => repeat (first | exact (Kd.R_reads' HO490.out).2.2 | (with_reducible refine Kd.C_alloc ?_ _) | (with_reducible refine Kd.C_drewN ?_ _) | (with_reducible refine Kd.C_drew ?_))); (case side2 => exact (Kd.R_reads' HO490.out).2.1); (case side3 => exact z70_); (case side4 => exact z151_); rintro e w' ⟨rfl, ⟨nd, rfl⟩⟩))
     go_meet
     case rel => exact ⟨_, (!t491), z15_, H', ⟨z124_⟩, ⟨z120_⟩, ⟨z121_⟩, ⟨z0_⟩⟩
    ·rw [if_neg c18] at H
     have c18b0 : decide (0 ≤ t486) = false := decide_eq_false c18
     clear c18
     have H' := Aside0.mk H
     clear H
     go_wp2_with (first | ((with_reducible refine gate_callee (f := 27) rfl ?_); refine goesL_ (some 30) rfl rfl Try.func27 (by kernel_rfl) rfl #[.slice Ao13 t480.length co13, .slice Ao14 t481.length co14] rfl z1_ ?_; (with_reducible refine (spec_NodeAt.calls k _ _ t480 _ _ t481 t487 _ ?side1 ?side2 ?side3 ?side4 A16.out).mono ?_); (case side1 => exact z69_); (case side2 => exact z150_); (case side3 => exact z70_); (case side4 => exact z151_); rintro e w24 ⟨rfl, hb⟩; refine ⟨_, rfl, ?_⟩; replace HO476 := Aside0.mk (Kd.Q_below z74_ hb); replace HO479 := Aside0.mk (Kd.R_below z75_ hb); replace HO483 := Aside0.mk (Kd.Q_below z106_ hb); replace HO485 := Aside0.mk (Kd.R_below z93_ hb); replace HB := Aside0.mk (below_step z0_ hb); (try clear hb)))
     go_meet
     case rel => exact ⟨_, (false), z15_, H', ⟨z124_⟩, ⟨z120_⟩, ⟨z121_⟩, ⟨z0_⟩⟩
   ·rw [if_neg c17] at H
    have c17b0 : (t486 == t487) = false := beq_eq_false_iff_ne.mpr c17
    have c17b1 : (t486 != t487) = true := bne_iff_ne.mpr c17
    (first | rw [c17b0] | rw [c17b1] | (simp only [i64_w, i32_w]; rw [c17b0]) | skip)
    have H' := Aside0.mk H
    clear H
    go_wp2_with (first | ((with_reducible refine gate_callee (f := 27) rfl ?_); refine goesL_ (some 30) rfl rfl Try.func27 (by kernel_rfl) rfl #[.slice Ao13 t480.length co13, .slice Ao14 t481.length co14] rfl z1_ ?_; (with_reducible refine (spec_NodeAt.calls k _ _ t480 _ _ t481 t487 _ ?side1 ?side2 ?side3 ?side4 A16.out).mono ?_); (case side1 => exact z69_); (case side2 => exact z150_); (case side3 => exact z70_); (case side4 => exact z151_); rintro e w25 ⟨rfl, hb⟩; refine ⟨_, rfl, ?_⟩; replace HO476 := Aside0.mk (Kd.Q_below z74_ hb); replace HO479 := Aside0.mk (Kd.R_below z75_ hb); replace HO483 := Aside0.mk (Kd.Q_below z106_ hb); replace HO485 := Aside0.mk (Kd.R_below z93_ hb); replace HB := Aside0.mk (below_step z0_ hb); (try clear hb)))
    go_meet
    case rel => exact ⟨_, (true), z15_, H', ⟨z124_⟩, ⟨z120_⟩, ⟨z121_⟩, ⟨z0_⟩⟩
  case rest =>
   clear HC8
   try clear c1
   try clear c2
   try clear p2
   try clear c3
   try clear c5
   try clear c17
   try clear c17b0
   try clear c17b1
   try clear c18
   try clear c18b0
   try clear c22
   try clear c23
   try clear c24
   try clear c25
   obtain ⟨kq, x43_7, rfl, HA, HJ7, HO_3, HO_5, HB⟩ := hcut
   cases kq with
   | zero => exact absurd HA.out (by simp [laws_FnPaths.j0])
   | succ kj7 =>
    have H := HA.out
    clear HA
    simp only [laws_FnPaths.j0] at H
    by_cases c26 : x43_7 = true
    ·subst c26
     replace H := ift_ H
     obtain rfl := Option.some.inj H
     go_wp2
     go_ret
     exact ⟨z9_, z0_⟩
    ·replace c26 := Bool.eq_false_iff.mpr c26
     subst c26
     replace H := iff_ H
     have HC27 := Aside0.mk H
     clear H
     go_upto_region 9 with (fail)
     go_cut [56] (fun v56 wc => ∃ (kq : Nat) (x56_26 : Bool), v56 = .bool x56_26 ∧ Aside0 (laws_FnPaths.j1 kq t473 t474 t477 x56_26 = some r) ∧ Aside0 (kq ≤ kj7) ∧ Aside0 (Kd.Q k55 55 wc w.heap.size (fun _ => True) (.slice Ao10 t473.length co10) t473) ∧ Aside0 (Kd.R (Kd.int .i64) 3 wc w.heap.size (fun _ => True) v478 t477) ∧ Aside0 (Below w.heap.size w wc))
     case first =>
      have H := HC27.out
      clear HC27
      obtain ⟨t492, A28, H⟩ := bnd_ H
      by_cases c29 : t492 = true
      ·subst c29
       replace H := ift_ H
       by_cases c30 : t474 < 0
       ·rw [if_pos c30] at H
        have c30b0 : decide (t474 < 0) = true := decide_eq_true c30
        clear c30
        (first | rw [c30b0] | rw [c30b1] | (simp only [i64_w, i32_w]; rw [c30b0]) | skip)
        have H' := Aside0.mk H
        clear H
        go_wp2_with (first | ((with_reducible refine gate_callee (f := 29) rfl ?_); refine goesL_ (some 45) rfl rfl Try.func29 (by kernel_rfl) rfl #[.slice Ao10 t473.length co10] rfl z1_ ?_; (with_reducible refine (spec_TreeOk.calls kj7 _ _ t473 true _ ?side1 ?side2 A28.out).mono ?_); (case side1 => exact z61_); (case side2 => exact z137_); rintro e w31 ⟨rfl, hb⟩; refine ⟨_, rfl, ?_⟩; replace HO_3 := Aside0.mk (Kd.Q_below z63_ hb); replace HO_5 := Aside0.mk (Kd.R_below z8_ hb); replace HB := Aside0.mk (below_step z0_ hb); (try clear hb)))
        go_meet
        case rel => exact ⟨_, (true), z15_, H', ⟨z153_⟩, ⟨z63_⟩, ⟨z8_⟩, ⟨z0_⟩⟩
       ·rw [if_neg c30] at H
        have c30b0 : decide (t474 < 0) = false := decide_eq_false c30
        clear c30
        (first | rw [c30b0] | rw [c30b1] | (simp only [i64_w, i32_w]; rw [c30b0]) | skip)
        have H' := Aside0.mk H
        clear H
        go_wp2_with (first | ((with_reducible refine gate_callee (f := 29) rfl ?_); refine goesL_ (some 45) rfl rfl Try.func29 (by kernel_rfl) rfl #[.slice Ao10 t473.length co10] rfl z1_ ?_; (with_reducible refine (spec_TreeOk.calls kj7 _ _ t473 true _ ?side1 ?side2 A28.out).mono ?_); (case side1 => exact z61_); (case side2 => exact z137_); rintro e w32 ⟨rfl, hb⟩; refine ⟨_, rfl, ?_⟩; replace HO_3 := Aside0.mk (Kd.Q_below z63_ hb); replace HO_5 := Aside0.mk (Kd.R_below z8_ hb); replace HB := Aside0.mk (below_step z0_ hb); (try clear hb)))
        go_meet
        case rel => exact ⟨_, (decide (t474 ≥ (t473.length : Int))), z15_, H', ⟨z153_⟩, ⟨z63_⟩, ⟨z8_⟩, ⟨z0_⟩⟩
      ·replace c29 := Bool.eq_false_iff.mpr c29
       subst c29
       replace H := iff_ H
       have H' := Aside0.mk H
       clear H
       go_wp2_with (first | ((with_reducible refine gate_callee (f := 29) rfl ?_); refine goesL_ (some 45) rfl rfl Try.func29 (by kernel_rfl) rfl #[.slice Ao10 t473.length co10] rfl z1_ ?_; (with_reducible refine (spec_TreeOk.calls kj7 _ _ t473 false _ ?side1 ?side2 A28.out).mono ?_); (case side1 => exact z61_); (case side2 => exact z137_); rintro e w33 ⟨rfl, hb⟩; refine ⟨_, rfl, ?_⟩; replace HO_3 := Aside0.mk (Kd.Q_below z63_ hb); replace HO_5 := Aside0.mk (Kd.R_below z8_ hb); replace HB := Aside0.mk (below_step z0_ hb); (try clear hb)))
       go_meet
       case rel => exact ⟨_, (true), z15_, H', ⟨z153_⟩, ⟨z63_⟩, ⟨z8_⟩, ⟨z0_⟩⟩
     case rest =>
      clear HC27
      try clear c1
      try clear c2
      try clear p2
      try clear c3
      try clear c5
      try clear c17
      try clear c17b0
      try clear c17b1
      try clear c18
      try clear c18b0
      try clear c22
      try clear c23
      try clear c24
      try clear c25
      try clear c26
      try clear c27
      try clear c29
      try clear c30
      try clear c30b0
      try clear p2
      obtain ⟨kq, x56_26, rfl, HA, HJ26, HO_3, HO_5, HB⟩ := hcut
      cases kq with
      | zero => exact absurd HA.out (by simp [laws_FnPaths.j1])
      | succ kj26 =>
       have H := HA.out
       clear HA
       simp only [laws_FnPaths.j1] at H
       by_cases c34 : x56_26 = true
       ·subst c34
        replace H := ift_ H
        obtain rfl := Option.some.inj H
        obtain ⟨Ao35, co35, eo35⟩ := Kd.R_slice HO_5.out
        subst eo35
        go_wp2
        go_ret
        exact ⟨z9_, z0_⟩
       ·replace c34 := Bool.eq_false_iff.mpr c34
        subst c34
        replace H := iff_ H
        obtain ⟨t493, A36, H⟩ := bnd_ H
        by_cases c37 : t493 = t474
        ·rw [if_pos c37] at H
         have c37b0 : (t493 == t474) = true := beq_iff_eq.mpr c37
         have c37b1 : (t493 != t474) = false := bne_eq_false_iff_eq.mpr c37
         clear c37
         obtain ⟨c38b0, H⟩ := ifd_ H
         obtain ⟨c39b0, H⟩ := ifd_ H
         by_cases c40 : (t477.length : Int) = ((rd_T55 t473 t474).f1)
         ·rw [if_pos c40] at H
          have c40b0 : ((t477.length : Int) == ((rd_T55 t473 t474).f1)) = true := beq_iff_eq.mpr c40
          have c40b1 : ((t477.length : Int) != ((rd_T55 t473 t474).f1)) = false := bne_eq_false_iff_eq.mpr c40
          clear c40
          obtain ⟨t495, A41, H⟩ := bnd_ H
          obtain ⟨t498, A42, H⟩ := bnd_ H
          obtain rfl := Option.some.inj H
          obtain ⟨Ao43, co43, eo43⟩ := Kd.R_slice HO_5.out
          subst eo43
          go_wp2_with (first | ((with_reducible refine gate_callee (f := 26) rfl ?_); refine goesL_ (some 62) rfl rfl Try.func26 (by kernel_rfl) rfl #[.slice Ao10 t473.length co10, .slice Ao43 t477.length co43] rfl z1_ ?_; (with_reducible refine (impl_NodeAt.calls kj26 _ _ t473 _ _ t477 t493 _ ?side1 ?side2 ?side3 ?side4 A36.out).mono ?_); (case side1 => exact z61_); (case side2 => exact z137_); (case side3 => exact z71_); (case side4 => exact z155_); rintro e w44 ⟨rfl, hb⟩; refine ⟨_, rfl, ?_⟩; replace HO_3 := Aside0.mk (Kd.Q_below z63_ hb); replace HO_5 := Aside0.mk (Kd.R_below z8_ hb); replace HB := Aside0.mk (below_step z0_ hb); (try clear hb); have p494 : 0 ≤ (t474 : Int) := odt_; have q494 : t474 < (t473.length : Int) := odt_; obtain ⟨ad494, e494, hx494_0, hx494_1⟩ := at_T55 (Kd.Q_reads' HO_3.out).2.2 t474 p494 q494; cases e494; replace p494 := eq_true p494; replace q494 := eq_true q494) | (go_at_call 19; (with_reducible refine (impl_DomFrom.calls kj26 _ _ t473 t495 _ ?side1 ?side2 A41.out).mono ?_); (case side1 => exact z61_); (case side2 => exact z137_); rintro e w45 ⟨v496, rfl, ho0, hb⟩; replace HO_3 := Aside0.mk (Kd.Q_below z63_ hb); replace HO_5 := Aside0.mk (Kd.R_below z8_ hb); have HO497 := Aside0.mk (Kd.R_lower ho0 (below_size z0_)); replace HB := Aside0.mk (below_step z0_ hb); (try clear hb ho0); obtain ⟨Ao46, co46, eo46⟩ := Kd.R_slice HO497.out; subst eo46) | (go_at_call 30; (with_reducible refine (impl_DomFind.calls kj26 _ _ t495 _ _ t477 t498 _ ?side1 ?side2 ?side3 ?side4 A42.out).mono ?_); (case side1 => repeat (first | exact (Kd.R_reads' HO497.out).2.2 | (with_reducible refine Kd.C_alloc ?_ _) | (with_reducible refine Kd.C_drewN ?_ _) | (with_reducible refine Kd.C_drew ?_))); (case side2 => exact (Kd.R_reads' HO497.out).2.1); (case side3 => exact z71_); (case side4 => exact z155_); rintro e w47 ⟨rfl, hb⟩; replace HO_3 := Aside0.mk (Kd.Q_below z63_ hb); replace HO_5 := Aside0.mk (Kd.R_below z8_ hb); replace HO497 := Aside0.mk (Kd.R_below (by (with_reducible repeat (first | apply Kd.R_alloc | apply Kd.R_drewN | apply Kd.R_drew)); exact HO497.out) hb); replace HB := Aside0.mk (below_step z0_ hb); (try clear hb)))
          go_ret
          exact ⟨z9_, z0_⟩
         ·rw [if_neg c40] at H
          have c40b0 : ((t477.length : Int) == ((rd_T55 t473 t474).f1)) = false := beq_eq_false_iff_ne.mpr c40
          have c40b1 : ((t477.length : Int) != ((rd_T55 t473 t474).f1)) = true := bne_iff_ne.mpr c40
          obtain rfl := Option.some.inj H
          obtain ⟨Ao48, co48, eo48⟩ := Kd.R_slice HO_5.out
          subst eo48
          go_wp2_with (first | ((with_reducible refine gate_callee (f := 26) rfl ?_); refine goesL_ (some 62) rfl rfl Try.func26 (by kernel_rfl) rfl #[.slice Ao10 t473.length co10, .slice Ao48 t477.length co48] rfl z1_ ?_; (with_reducible refine (impl_NodeAt.calls kj26 _ _ t473 _ _ t477 t493 _ ?side1 ?side2 ?side3 ?side4 A36.out).mono ?_); (case side1 => exact z61_); (case side2 => exact z137_); (case side3 => exact z71_); (case side4 => exact z155_); rintro e w49 ⟨rfl, hb⟩; refine ⟨_, rfl, ?_⟩; replace HO_3 := Aside0.mk (Kd.Q_below z63_ hb); replace HO_5 := Aside0.mk (Kd.R_below z8_ hb); replace HB := Aside0.mk (below_step z0_ hb); (try clear hb); have p494 : 0 ≤ (t474 : Int) := odt_; have q494 : t474 < (t473.length : Int) := odt_; obtain ⟨ad494, e494, hx494_0, hx494_1⟩ := at_T55 (Kd.Q_reads' HO_3.out).2.2 t474 p494 q494; cases e494; replace p494 := eq_true p494; replace q494 := eq_true q494))
          go_ret
          exact ⟨z9_, z0_⟩
        ·rw [if_neg c37] at H
         have c37b0 : (t493 == t474) = false := beq_eq_false_iff_ne.mpr c37
         have c37b1 : (t493 != t474) = true := bne_iff_ne.mpr c37
         obtain rfl := Option.some.inj H
         obtain ⟨Ao50, co50, eo50⟩ := Kd.R_slice HO_5.out
         subst eo50
         go_wp2_with (first | ((with_reducible refine gate_callee (f := 26) rfl ?_); refine goesL_ (some 62) rfl rfl Try.func26 (by kernel_rfl) rfl #[.slice Ao10 t473.length co10, .slice Ao50 t477.length co50] rfl z1_ ?_; (with_reducible refine (impl_NodeAt.calls kj26 _ _ t473 _ _ t477 t493 _ ?side1 ?side2 ?side3 ?side4 A36.out).mono ?_); (case side1 => exact z61_); (case side2 => exact z137_); (case side3 => exact z71_); (case side4 => exact z155_); rintro e w51 ⟨rfl, hb⟩; refine ⟨_, rfl, ?_⟩; replace HO_3 := Aside0.mk (Kd.Q_below z63_ hb); replace HO_5 := Aside0.mk (Kd.R_below z8_ hb); replace HB := Aside0.mk (below_step z0_ hb); (try clear hb)))
         go_ret
         exact ⟨z9_, z0_⟩

/-- THE ONE PURE STATEMENT of laws_FnPaths: yours. -/
def laws_FnPaths.Pure : Prop := ∀ (l0 : List Int), l0.length ≤ maxLen → l0.length * 1 ≤ 140737488351232 → (∀ x ∈ l0, (Lit.int .u8 x).wf = true) → ∃ k, laws_FnPaths.f k l0 = some true
theorem laws_FnPaths.walk (P : laws_FnPaths.Pure) (a0 : Option Addr) (len0 cap0 : Nat) (z0 : List Int) (w : World) (w0 : (a0 = none ∧ len0 = 0 ∧ cap0 = 0 ∧ z0 = []) ∨ ∃ x, a0 = some x ∧ len0 ≤ cap0 ∧ cap0 ≤ maxLen ∧ z0.length = cap0 ∧ (∀ i, i < z0.length → w.cell? (x.add i) = some (.int .u8 (z0.getD i 0))) ∧ ∀ n ∈ z0, (Lit.int .u8 n).wf = true) (y0 : len0 * 1 ≤ 140737488351232) :
  Calls Try.prog 5 #[.slice a0 len0 cap0] w fun e w' => e = .returned (.bool true) ∧ Below w.heap.size w w' := by
 obtain ⟨l0, rfl, hr0, hm0, hw0, hc0⟩ := ReadsInt.ofRowC w0
 obtain ⟨k, h⟩ := P l0 hm0 y0 hw0
 refine (laws_FnPaths.calls k _ _ l0 true w (Kd.C_of_reads (d := (0 : Int)) (h1 := fun _ => rfl) hr0) hc0 h).mono ?_
 rintro e w' ⟨rfl, hd⟩
 exact ⟨rfl, hd⟩

end Go.Proofs.Ytmbhlfcpdbbogab.PFnPaths
