/- Laid by a program of this session out of the kit's print for the law FnExactHistOk: what it says of the machine is proved here, function by function; each contract under the conditions that it names. -/
import Derived.Test.YtmbhlfcpdbbogabMFnExactHistOkx0
import Derived.Test.YtmbhlfcpdbbogabMFnExactHistOkx1
import Derived.Test.YtmbhlfcpdbbogabMFnExactHistOkx7
import Derived.Test.YtmbhlfcpdbbogabMFnExactHistOkx8
import Derived.Test.YtmbhlfcpdbbogabMFnExactHistOkx14
import Derived.Test.YtmbhlfcpdbbogabMFnExactHistOkx15
import Derived.Test.YtmbhlfcpdbbogabMFnExactHistOkx16
namespace Go.Proofs.Ytmbhlfcpdbbogab.PFnExactHistOk
open Go.RowKit Go.Proofs.YtmbhlfcpdbbogabW.PrintWords Go.Proofs.YtmbhlfcpdbbogabW.PrintLast Go.Proofs.YtmbhlfcpdbbogabW.PrintMore
attribute [local go_sem] max2_int min2_int max_two min_two max_three min_three max_four min_four   -- for this text's walks alone
set_option linter.unusedVariables false
set_option linter.unusedSimpArgs false

/-! ### laws_eqHist: function 51 -/
def laws_eqHist.f (k : Nat) (l0_0 : List (S55)) (l0_1 : List (List (S148))) (l1_0 : List (S55)) (l1_1 : List (List (S148))) : Option (Bool) := (laws_eqNodeS.f k l0_0 l1_0).bind fun t475 => (if t475 = true then ((laws_eqOpSS.f k l0_1 l1_1).bind fun t476 => (if t476 = true then (some true) else (some false))) else (some false))
theorem laws_eqHist.mono : ∀ a0 a1 a2 a3 k, LeO (laws_eqHist.f k a0 a1 a2 a3) (laws_eqHist.f (k + 1) a0 a1 a2 a3) := by
 intro a0 a1 a2 a3 k
 unfold laws_eqHist.f
 repeat' first | (with_reducible first | exact laws_eqNodeS.mono _ _ _ | exact laws_eqOpSS.mono _ _ _ | exact LeO.refl _ | exact LeO.none _ | refine LeO.ite ?_ ?_ | refine LeO.bind ?_ (fun _ => ?_)) | exact laws_eqNodeS.mono _ _ _ | exact laws_eqOpSS.mono _ _ _ | exact LeO.none _ | refine LeO.ite ?_ ?_ | refine LeO.bind ?_ (fun _ => ?_)
set_option maxHeartbeats 8000000 in
set_option maxRecDepth 100000 in
theorem laws_eqHist.calls (k : Nat) (A0_0 : Option Addr) (c0_0 : Nat) (l0_0 : List (S55)) (A0_1 : Option Addr) (c0_1 : Nat) (l0_1 : List (List (S148))) (A1_0 : Option Addr) (c1_0 : Nat) (l1_0 : List (S55)) (A1_1 : Option Addr) (c1_1 : Nat) (l1_1 : List (List (S148))) (r : Bool) (w : World) (hr0_0 : Kd.C k55 w A0_0 l0_0.length l0_0) (hc0_0 : l0_0.length ≤ c0_0) (hr0_1 : Kd.C (Kd.slice 148 k148) w A0_1 l0_1.length l0_1) (hc0_1 : l0_1.length ≤ c0_1) (hr1_0 : Kd.C k55 w A1_0 l1_0.length l1_0) (hc1_0 : l1_0.length ≤ c1_0) (hr1_1 : Kd.C (Kd.slice 148 k148) w A1_1 l1_1.length l1_1) (hc1_1 : l1_1.length ≤ c1_1) (h : laws_eqHist.f k l0_0 l0_1 l1_0 l1_1 = some r) :
  Calls Try.prog 51 #[.agg #[.slice A0_0 l0_0.length c0_0, .slice A0_1 l0_1.length c0_1], .agg #[.slice A1_0 l1_0.length c1_0, .slice A1_1 l1_1.length c1_1]] w fun e w' => e = .returned (.bool r) ∧ Below w.heap.size w w' := by
 have hu81 := Try.underlying81
 have HR0_0 := Aside0.mk hr0_0
 have HC0_0 := Aside0.mk hc0_0
 clear hr0_0 hc0_0
 have HR0_1 := Aside0.mk hr0_1
 have HC0_1 := Aside0.mk hc0_1
 clear hr0_1 hc0_1
 have HR1_0 := Aside0.mk hr1_0
 have HC1_0 := Aside0.mk hc1_0
 clear hr1_0 hc1_0
 have HR1_1 := Aside0.mk hr1_1
 have HC1_1 := Aside0.mk hc1_1
 clear hr1_1 hc1_1
 have HB := Aside0.mk (Below.refl w.heap.size w)
 have H : ((laws_eqNodeS.f k l0_0 l1_0).bind fun t475 => (if t475 = true then ((laws_eqOpSS.f k l0_1 l1_1).bind fun t476 => (if t476 = true then (some true) else (some false))) else (some false))) = some r := h
 clear h
 obtain ⟨t475, A3, H⟩ := bnd_ H
 by_cases c4 : t475 = true
 ·subst c4
  replace H := ift_ H
  obtain ⟨t476, A5, H⟩ := bnd_ H
  by_cases c6 : t476 = true
  ·subst c6
   replace H := ift_ H
   obtain rfl := Option.some.inj H
   go_enter Try.func51, Try.ntmps51
   go_wp2_with (first | ((with_reducible refine gate_dst (N := 2) rfl ?_); refine box_event ?hg (N := 2) ?hd (cs := #[.slice A0_0 l0_0.length c0_0, .slice A0_1 l0_1.length c0_1]) (t := 81) ?hr ?_; (case hd => rfl); (case hg => rfl); (case hr => exact z11_); intro gb473 hg w7 hbox hb; have BK473 := Aside0.mk (hbox); have GW473 := Aside0.mk ((by rw [hg]; exact (below_size z0_) : w.heap.size ≤ gb473)); have GE473 := Aside0.mk ((by rw [hg]; exact (below_size z0_) : w.heap.size ≤ gb473)); replace HB := Aside0.mk (below_step z0_ hb); clear hb hbox hg) | ((with_reducible refine gate_dst (N := 3) rfl ?_); refine box_event ?hg (N := 3) ?hd (cs := #[.slice A1_0 l1_0.length c1_0, .slice A1_1 l1_1.length c1_1]) (t := 81) ?hr ?_; (case hd => rfl); (case hg => rfl); (case hr => exact z11_); intro gb474 hg w8 hbox hb; have BK474 := Aside0.mk (hbox); have GW474 := Aside0.mk ((by rw [hg]; exact (below_size z40_) : w.heap.size ≤ gb474)); have GE474 := Aside0.mk ((by rw [hg]; exact (below_size z40_) : w.heap.size ≤ gb474)); replace HB := Aside0.mk (below_step z40_ hb); have NB473_474 := Aside0.mk ((by rw [hg]; exact Nat.ne_of_lt (blk_lt (g := gb473) (o := .cells #[.slice A0_0 l0_0.length c0_0, .slice A0_1 l0_1.length c0_1] 81 (0, 0)) z35_) : gb473 ≠ gb474)); have NB474_473 := Aside0.mk ((by rw [hg]; exact Nat.ne_of_gt (blk_lt (g := gb473) (o := .cells #[.slice A0_0 l0_0.length c0_0, .slice A0_1 l0_1.length c0_1] 81 (0, 0)) z35_) : gb474 ≠ gb473)); replace BK473 := Aside0.mk (blk_below (g := gb473) (o := .cells #[.slice A0_0 l0_0.length c0_0, .slice A0_1 l0_1.length c0_1] 81 (0, 0)) z35_ hb); clear hb hbox hg; have hnb9 := NB473_474.out; have hnc9 := NB474_473.out; have hcz10_0 : w8.cell? ⟨gb473, 0, none⟩ = some (.slice A0_0 l0_0.length c0_0) := (blk_cell BK473.out 0).trans rfl; have hcz10_1 : w8.cell? ⟨gb473, 1, none⟩ = some (.slice A0_1 l0_1.length c0_1) := (blk_cell BK473.out 1).trans rfl; have hfz10_0 := blk_frozen BK473.out 0; have hfz10_1 := blk_frozen BK473.out 1; have hcz11_0 : w8.cell? ⟨gb474, 0, none⟩ = some (.slice A1_0 l1_0.length c1_0) := (blk_cell BK474.out 0).trans rfl; have hcz11_1 : w8.cell? ⟨gb474, 1, none⟩ = some (.slice A1_1 l1_1.length c1_1) := (blk_cell BK474.out 1).trans rfl; have hfz11_0 := blk_frozen BK474.out 0; have hfz11_1 := blk_frozen BK474.out 1) | ((with_reducible refine gate_callee (f := 20) rfl ?_); refine goesL_ (some 9) rfl rfl Try.func20 (by kernel_rfl) rfl #[.slice A0_0 l0_0.length c0_0, .slice A1_0 l1_0.length c1_0] rfl z1_ ?_; (with_reducible refine (laws_eqNodeS.calls k _ _ l0_0 _ _ l1_0 true _ ?side1 ?side2 ?side3 ?side4 A3.out).mono ?_); (case side1 => exact z12_); (case side2 => exact HC0_0.out); (case side3 => exact z89_); (case side4 => exact HC1_0.out); rintro e w12 ⟨rfl, hb⟩; refine ⟨_, rfl, ?_⟩; replace BK473 := Aside0.mk (blk_below (g := gb473) (o := .cells #[.slice A0_0 l0_0.length c0_0, .slice A0_1 l0_1.length c0_1] 81 (0, 0)) z35_ hb); replace BK474 := Aside0.mk (blk_below (g := gb474) (o := .cells #[.slice A1_0 l1_0.length c1_0, .slice A1_1 l1_1.length c1_1] 81 (0, 0)) z83_ hb); replace HB := Aside0.mk (below_step z36_ hb); (try clear hb); have hcz13_0 : w12.cell? ⟨gb473, 0, none⟩ = some (.slice A0_0 l0_0.length c0_0) := (blk_cell BK473.out 0).trans rfl; have hcz13_1 : w12.cell? ⟨gb473, 1, none⟩ = some (.slice A0_1 l0_1.length c0_1) := (blk_cell BK473.out 1).trans rfl; have hfz13_0 := blk_frozen BK473.out 0; have hfz13_1 := blk_frozen BK473.out 1; have hcz14_0 : w12.cell? ⟨gb474, 0, none⟩ = some (.slice A1_0 l1_0.length c1_0) := (blk_cell BK474.out 0).trans rfl; have hcz14_1 : w12.cell? ⟨gb474, 1, none⟩ = some (.slice A1_1 l1_1.length c1_1) := (blk_cell BK474.out 1).trans rfl; have hfz14_0 := blk_frozen BK474.out 0; have hfz14_1 := blk_frozen BK474.out 1) | ((with_reducible refine gate_callee (f := 104) rfl ?_); refine goesL_ (some 15) rfl rfl Try.func104 (by kernel_rfl) rfl #[.slice A0_1 l0_1.length c0_1, .slice A1_1 l1_1.length c1_1] rfl z1_ ?_; (with_reducible refine (laws_eqOpSS.calls k _ _ l0_1 _ _ l1_1 true _ ?side1 ?side2 ?side3 ?side4 A5.out).mono ?_); (case side1 => exact z5_); (case side2 => exact HC0_1.out); (case side3 => exact z15_); (case side4 => exact HC1_1.out); rintro e w15 ⟨rfl, hb⟩; refine ⟨_, rfl, ?_⟩; replace BK473 := Aside0.mk (blk_below (g := gb473) (o := .cells #[.slice A0_0 l0_0.length c0_0, .slice A0_1 l0_1.length c0_1] 81 (0, 0)) z35_ hb); replace BK474 := Aside0.mk (blk_below (g := gb474) (o := .cells #[.slice A1_0 l1_0.length c1_0, .slice A1_1 l1_1.length c1_1] 81 (0, 0)) z83_ hb); replace HB := Aside0.mk (below_step z36_ hb); (try clear hb)))
   go_ret
   exact ⟨z3_, z36_⟩
  ·replace c6 := Bool.eq_false_iff.mpr c6
   subst c6
   replace H := iff_ H
   obtain rfl := Option.some.inj H
   go_enter Try.func51, Try.ntmps51
   go_wp2_with (first | ((with_reducible refine gate_dst (N := 2) rfl ?_); refine box_event ?hg (N := 2) ?hd (cs := #[.slice A0_0 l0_0.length c0_0, .slice A0_1 l0_1.length c0_1]) (t := 81) ?hr ?_; (case hd => rfl); (case hg => rfl); (case hr => exact z11_); intro gb473 hg w16 hbox hb; have BK473 := Aside0.mk (hbox); have GW473 := Aside0.mk ((by rw [hg]; exact (below_size z0_) : w.heap.size ≤ gb473)); have GE473 := Aside0.mk ((by rw [hg]; exact (below_size z0_) : w.heap.size ≤ gb473)); replace HB := Aside0.mk (below_step z0_ hb); clear hb hbox hg) | ((with_reducible refine gate_dst (N := 3) rfl ?_); refine box_event ?hg (N := 3) ?hd (cs := #[.slice A1_0 l1_0.length c1_0, .slice A1_1 l1_1.length c1_1]) (t := 81) ?hr ?_; (case hd => rfl); (case hg => rfl); (case hr => exact z11_); intro gb474 hg w17 hbox hb; have BK474 := Aside0.mk (hbox); have GW474 := Aside0.mk ((by rw [hg]; exact (below_size z40_) : w.heap.size ≤ gb474)); have GE474 := Aside0.mk ((by rw [hg]; exact (below_size z40_) : w.heap.size ≤ gb474)); replace HB := Aside0.mk (below_step z40_ hb); have NB473_474 := Aside0.mk ((by rw [hg]; exact Nat.ne_of_lt (blk_lt (g := gb473) (o := .cells #[.slice A0_0 l0_0.length c0_0, .slice A0_1 l0_1.length c0_1] 81 (0, 0)) z35_) : gb473 ≠ gb474)); have NB474_473 := Aside0.mk ((by rw [hg]; exact Nat.ne_of_gt (blk_lt (g := gb473) (o := .cells #[.slice A0_0 l0_0.length c0_0, .slice A0_1 l0_1.length c0_1] 81 (0, 0)) z35_) : gb474 ≠ gb473)); replace BK473 := Aside0.mk (blk_below (g := gb473) (o := .cells #[.slice A0_0 l0_0.length c0_0, .slice A0_1 l0_1.length c0_1] 81 (0, 0)) z35_ hb); clear hb hbox hg; have hnb18 := NB473_474.out; have hnc18 := NB474_473.out; have hcz19_0 : w17.cell? ⟨gb473, 0, none⟩ = some (.slice A0_0 l0_0.length c0_0) := (blk_cell BK473.out 0).trans rfl; have hcz19_1 : w17.cell? ⟨gb473, 1, none⟩ = some (.slice A0_1 l0_1.length c0_1) := (blk_cell BK473.out 1).trans rfl; have hfz19_0 := blk_frozen BK473.out 0; have hfz19_1 := blk_frozen BK473.out 1; have hcz20_0 : w17.cell? ⟨gb474, 0, none⟩ = some (.slice A1_0 l1_0.length c1_0) := (blk_cell BK474.out 0).trans rfl; have hcz20_1 : w17.cell? ⟨gb474, 1, none⟩ = some (.slice A1_1 l1_1.length c1_1) := (blk_cell BK474.out 1).trans rfl; have hfz20_0 := blk_frozen BK474.out 0; have hfz20_1 := blk_frozen BK474.out 1) | ((with_reducible refine gate_callee (f := 20) rfl ?_); refine goesL_ (some 9) rfl rfl Try.func20 (by kernel_rfl) rfl #[.slice A0_0 l0_0.length c0_0, .slice A1_0 l1_0.length c1_0] rfl z1_ ?_; (with_reducible refine (laws_eqNodeS.calls k _ _ l0_0 _ _ l1_0 true _ ?side1 ?side2 ?side3 ?side4 A3.out).mono ?_); (case side1 => exact z12_); (case side2 => exact HC0_0.out); (case side3 => exact z89_); (case side4 => exact HC1_0.out); rintro e w21 ⟨rfl, hb⟩; refine ⟨_, rfl, ?_⟩; replace BK473 := Aside0.mk (blk_below (g := gb473) (o := .cells #[.slice A0_0 l0_0.length c0_0, .slice A0_1 l0_1.length c0_1] 81 (0, 0)) z35_ hb); replace BK474 := Aside0.mk (blk_below (g := gb474) (o := .cells #[.slice A1_0 l1_0.length c1_0, .slice A1_1 l1_1.length c1_1] 81 (0, 0)) z83_ hb); replace HB := Aside0.mk (below_step z36_ hb); (try clear hb); have hcz22_0 : w21.cell? ⟨gb473, 0, none⟩ = some (.slice A0_0 l0_0.length c0_0) := (blk_cell BK473.out 0).trans rfl; have hcz22_1 : w21.cell? ⟨gb473, 1, none⟩ = some (.slice A0_1 l0_1.length c0_1) := (blk_cell BK473.out 1).trans rfl; have hfz22_0 := blk_frozen BK473.out 0; have hfz22_1 := blk_frozen BK473.out 1; have hcz23_0 : w21.cell? ⟨gb474, 0, none⟩ = some (.slice A1_0 l1_0.length c1_0) := (blk_cell BK474.out 0).trans rfl; have hcz23_1 : w21.cell? ⟨gb474, 1, none⟩ = some (.slice A1_1 l1_1.length c1_1) := (blk_cell BK474.out 1).trans rfl; have hfz23_0 := blk_frozen BK474.out 0; have hfz23_1 := blk_frozen BK474.out 1) | ((with_reducible refine gate_callee (f := 104) rfl ?_); refine goesL_ (some 15) rfl rfl Try.func104 (by kernel_rfl) rfl #[.slice A0_1 l0_1.length c0_1, .slice A1_1 l1_1.length c1_1] rfl z1_ ?_; (with_reducible refine (laws_eqOpSS.calls k _ _ l0_1 _ _ l1_1 false _ ?side1 ?side2 ?side3 ?side4 A5.out).mono ?_); (case side1 => exact z5_); (case side2 => exact HC0_1.out); (case side3 => exact z15_); (case side4 => exact HC1_1.out); rintro e w24 ⟨rfl, hb⟩; refine ⟨_, rfl, ?_⟩; replace BK473 := Aside0.mk (blk_below (g := gb473) (o := .cells #[.slice A0_0 l0_0.length c0_0, .slice A0_1 l0_1.length c0_1] 81 (0, 0)) z35_ hb); replace BK474 := Aside0.mk (blk_below (g := gb474) (o := .cells #[.slice A1_0 l1_0.length c1_0, .slice A1_1 l1_1.length c1_1] 81 (0, 0)) z83_ hb); replace HB := Aside0.mk (below_step z36_ hb); (try clear hb)))
   go_ret
   exact ⟨z3_, z36_⟩
 ·replace c4 := Bool.eq_false_iff.mpr c4
  subst c4
  replace H := iff_ H
  obtain rfl := Option.some.inj H
  go_enter Try.func51, Try.ntmps51
  go_wp2_with (first | ((with_reducible refine gate_dst (N := 2) rfl ?_); refine box_event ?hg (N := 2) ?hd (cs := #[.slice A0_0 l0_0.length c0_0, .slice A0_1 l0_1.length c0_1]) (t := 81) ?hr ?_; (case hd => rfl); (case hg => rfl); (case hr => exact z11_); intro gb473 hg w25 hbox hb; have BK473 := Aside0.mk (hbox); have GW473 := Aside0.mk ((by rw [hg]; exact (below_size z0_) : w.heap.size ≤ gb473)); have GE473 := Aside0.mk ((by rw [hg]; exact (below_size z0_) : w.heap.size ≤ gb473)); replace HB := Aside0.mk (below_step z0_ hb); clear hb hbox hg) | ((with_reducible refine gate_dst (N := 3) rfl ?_); refine box_event ?hg (N := 3) ?hd (cs := #[.slice A1_0 l1_0.length c1_0, .slice A1_1 l1_1.length c1_1]) (t := 81) ?hr ?_; (case hd => rfl); (case hg => rfl); (case hr => exact z11_); intro gb474 hg w26 hbox hb; have BK474 := Aside0.mk (hbox); have GW474 := Aside0.mk ((by rw [hg]; exact (below_size z40_) : w.heap.size ≤ gb474)); have GE474 := Aside0.mk ((by rw [hg]; exact (below_size z40_) : w.heap.size ≤ gb474)); replace HB := Aside0.mk (below_step z40_ hb); have NB473_474 := Aside0.mk ((by rw [hg]; exact Nat.ne_of_lt (blk_lt (g := gb473) (o := .cells #[.slice A0_0 l0_0.length c0_0, .slice A0_1 l0_1.length c0_1] 81 (0, 0)) z35_) : gb473 ≠ gb474)); have NB474_473 := Aside0.mk ((by rw [hg]; exact Nat.ne_of_gt (blk_lt (g := gb473) (o := .cells #[.slice A0_0 l0_0.length c0_0, .slice A0_1 l0_1.length c0_1] 81 (0, 0)) z35_) : gb474 ≠ gb473)); replace BK473 := Aside0.mk (blk_below (g := gb473) (o := .cells #[.slice A0_0 l0_0.length c0_0, .slice A0_1 l0_1.length c0_1] 81 (0, 0)) z35_ hb); clear hb hbox hg; have hnb27 := NB473_474.out; have hnc27 := NB474_473.out; have hcz28_0 : w26.cell? ⟨gb473, 0, none⟩ = some (.slice A0_0 l0_0.length c0_0) := (blk_cell BK473.out 0).trans rfl; have hcz28_1 : w26.cell? ⟨gb473, 1, none⟩ = some (.slice A0_1 l0_1.length c0_1) := (blk_cell BK473.out 1).trans rfl; have hfz28_0 := blk_frozen BK473.out 0; have hfz28_1 := blk_frozen BK473.out 1; have hcz29_0 : w26.cell? ⟨gb474, 0, none⟩ = some (.slice A1_0 l1_0.length c1_0) := (blk_cell BK474.out 0).trans rfl; have hcz29_1 : w26.cell? ⟨gb474, 1, none⟩ = some (.slice A1_1 l1_1.length c1_1) := (blk_cell BK474.out 1).trans rfl; have hfz29_0 := blk_frozen BK474.out 0; have hfz29_1 := blk_frozen BK474.out 1) | ((with_reducible refine gate_callee (f := 20) rfl ?_); refine goesL_ (some 9) rfl rfl Try.func20 (by kernel_rfl) rfl #[.slice A0_0 l0_0.length c0_0, .slice A1_0 l1_0.length c1_0] rfl z1_ ?_; (with_reducible refine (laws_eqNodeS.calls k _ _ l0_0 _ _ l1_0 false _ ?side1 ?side2 ?side3 ?side4 A3.out).mono ?_); (case side1 => exact z12_); (case side2 => exact HC0_0.out); (case side3 => exact z89_); (case side4 => exact HC1_0.out); rintro e w30 ⟨rfl, hb⟩; refine ⟨_, rfl, ?_⟩; replace BK473 := Aside0.mk (blk_below (g := gb473) (o := .cells #[.slice A0_0 l0_0.length c0_0, .slice A0_1 l0_1.length c0_1] 81 (0, 0)) z35_ hb); replace BK474 := Aside0.mk (blk_below (g := gb474) (o := .cells #[.slice A1_0 l1_0.length c1_0, .slice A1_1 l1_1.length c1_1] 81 (0, 0)) z83_ hb); replace HB := Aside0.mk (below_step z36_ hb); (try clear hb)))
  go_ret
  exact ⟨z3_, z36_⟩

/-! ### laws_FnExactHistOk: function 8 -/
def laws_FnExactHistOk.f (k : Nat) (l0_0 : List (S96)) (l0_1 : List (List (S160))) : Option (Bool) := (laws_szHist.f k l0_0 l0_1 1048576).bind fun t478 => (if t478 < 0 then (some true) else ((laws_toHist.f k l0_0 l0_1).bind fun bt479 => ((spec_HistOk.f k bt479.1 bt479.2).bind fun t485 => ((laws_toHist.f k l0_0 l0_1).bind fun bt486 => ((impl_HistOk.f k bt486.1 bt486.2).bind fun t493 => (if (t493 != t485) = true then (some false) else ((laws_toHist.f k l0_0 l0_1).bind fun bt494 => ((laws_eqHist.f k bt486.1 bt486.2 bt494.1 bt494.2).bind fun t500 => (if t500 = true then (some true) else (some false))))))))))
theorem laws_FnExactHistOk.mono : ∀ a0 a1 k, LeO (laws_FnExactHistOk.f k a0 a1) (laws_FnExactHistOk.f (k + 1) a0 a1) := by
 intro a0 a1 k
 unfold laws_FnExactHistOk.f
 repeat' first | (with_reducible first | exact impl_HistOk.mono _ _ _ | exact laws_eqHist.mono _ _ _ _ _ | exact laws_szHist.mono _ _ _ _ | exact laws_toHist.mono _ _ _ | exact spec_HistOk.mono _ _ _ | exact LeO.refl _ | exact LeO.none _ | refine LeO.ite ?_ ?_ | refine LeO.bind ?_ (fun _ => ?_)) | exact impl_HistOk.mono _ _ _ | exact laws_eqHist.mono _ _ _ _ _ | exact laws_szHist.mono _ _ _ _ | exact laws_toHist.mono _ _ _ | exact spec_HistOk.mono _ _ _ | exact LeO.none _ | refine LeO.ite ?_ ?_ | refine LeO.bind ?_ (fun _ => ?_)
set_option maxHeartbeats 8000000 in
set_option maxRecDepth 100000 in
theorem laws_FnExactHistOk.calls (k : Nat) (A0_0 : Option Addr) (c0_0 : Nat) (l0_0 : List (S96)) (A0_1 : Option Addr) (c0_1 : Nat) (l0_1 : List (List (S160))) (r : Bool) (w : World) (hr0_0 : Kd.C k96 w A0_0 l0_0.length l0_0) (hc0_0 : l0_0.length ≤ c0_0) (hr0_1 : Kd.C (Kd.slice 160 k160) w A0_1 l0_1.length l0_1) (hc0_1 : l0_1.length ≤ c0_1) (h : laws_FnExactHistOk.f k l0_0 l0_1 = some r) :
  Calls Try.prog 8 #[.agg #[.slice A0_0 l0_0.length c0_0, .slice A0_1 l0_1.length c0_1]] w fun e w' => e = .returned (.bool r) ∧ Below w.heap.size w w' := by
 have hu76 := Try.underlying76
 have hu81 := Try.underlying81
 have HR0_0 := Aside0.mk hr0_0
 have HC0_0 := Aside0.mk hc0_0
 clear hr0_0 hc0_0
 have HR0_1 := Aside0.mk hr0_1
 have HC0_1 := Aside0.mk hc0_1
 clear hr0_1 hc0_1
 have HB := Aside0.mk (Below.refl w.heap.size w)
 have H : ((laws_szHist.f k l0_0 l0_1 1048576).bind fun t478 => (if t478 < 0 then (some true) else ((laws_toHist.f k l0_0 l0_1).bind fun bt479 => ((spec_HistOk.f k bt479.1 bt479.2).bind fun t485 => ((laws_toHist.f k l0_0 l0_1).bind fun bt486 => ((impl_HistOk.f k bt486.1 bt486.2).bind fun t493 => (if (t493 != t485) = true then (some false) else ((laws_toHist.f k l0_0 l0_1).bind fun bt494 => ((laws_eqHist.f k bt486.1 bt486.2 bt494.1 bt494.2).bind fun t500 => (if t500 = true then (some true) else (some false))))))))))) = some r := h
 clear h
 obtain ⟨t478, A2, H⟩ := bnd_ H
 by_cases c3 : t478 < 0
 ·rw [if_pos c3] at H
  have c3b0 : decide (t478 < 0) = true := decide_eq_true c3
  clear c3
  obtain rfl := Option.some.inj H
  go_enter Try.func8, Try.ntmps8
  go_wp2_with (first | ((with_reducible refine gate_dst (N := 1) rfl ?_); refine box_event ?hg (N := 1) ?hd (cs := #[.slice A0_0 l0_0.length c0_0, .slice A0_1 l0_1.length c0_1]) (t := 76) ?hr ?_; (case hd => rfl); (case hg => rfl); (case hr => exact z11_); intro gb477 hg w4 hbox hb; have BK477 := Aside0.mk (hbox); have GW477 := Aside0.mk ((by rw [hg]; exact (below_size z0_) : w.heap.size ≤ gb477)); have GE477 := Aside0.mk ((by rw [hg]; exact (below_size z0_) : w.heap.size ≤ gb477)); replace HB := Aside0.mk (below_step z0_ hb); clear hb hbox hg; have hcz5_0 : w4.cell? ⟨gb477, 0, none⟩ = some (.slice A0_0 l0_0.length c0_0) := (blk_cell BK477.out 0).trans rfl; have hcz5_1 : w4.cell? ⟨gb477, 1, none⟩ = some (.slice A0_1 l0_1.length c0_1) := (blk_cell BK477.out 1).trans rfl; have hfz5_0 := blk_frozen BK477.out 0; have hfz5_1 := blk_frozen BK477.out 1) | ((with_reducible refine gate_callee (f := 47) rfl ?_); refine goesL_ (some 9) rfl rfl Try.func47 (by kernel_rfl) rfl #[.agg #[.slice A0_0 l0_0.length c0_0, .slice A0_1 l0_1.length c0_1], .int .i64 1048576] rfl z1_ ?_; (with_reducible refine (laws_szHist.calls k _ _ l0_0 _ _ l0_1 1048576 t478 _ ?side1 ?side2 ?side3 ?side4 A2.out).mono ?_); (case side1 => exact z12_); (case side2 => exact HC0_0.out); (case side3 => exact z5_); (case side4 => exact HC0_1.out); rintro e w6 ⟨rfl, hb⟩; refine ⟨_, rfl, ?_⟩; replace BK477 := Aside0.mk (blk_below (g := gb477) (o := .cells #[.slice A0_0 l0_0.length c0_0, .slice A0_1 l0_1.length c0_1] 76 (0, 0)) z21_ hb); replace HB := Aside0.mk (below_step z8_ hb); (try clear hb)))
  go_ret
  exact ⟨z3_, z8_⟩
 ·rw [if_neg c3] at H
  have c3b0 : decide (t478 < 0) = false := decide_eq_false c3
  clear c3
  replace H := Option.bind_eq_some_iff.mp H
  obtain ⟨⟨t479, t482⟩, A70, H⟩ := H
  replace H : ((spec_HistOk.f k t479 t482).bind fun t485 => ((laws_toHist.f k l0_0 l0_1).bind fun bt486 => ((impl_HistOk.f k bt486.1 bt486.2).bind fun t493 => (if (t493 != t485) = true then (some false) else ((laws_toHist.f k l0_0 l0_1).bind fun bt494 => ((laws_eqHist.f k bt486.1 bt486.2 bt494.1 bt494.2).bind fun t500 => (if t500 = true then (some true) else (some false)))))))) = some r := H
  have A7 := Aside0.mk A70
  clear A70
  obtain ⟨t485, A8, H⟩ := bnd_ H
  replace H := Option.bind_eq_some_iff.mp H
  obtain ⟨⟨t486, t489⟩, A90, H⟩ := H
  replace H : ((impl_HistOk.f k t486 t489).bind fun t493 => (if (t493 != t485) = true then (some false) else ((laws_toHist.f k l0_0 l0_1).bind fun bt494 => ((laws_eqHist.f k t486 t489 bt494.1 bt494.2).bind fun t500 => (if t500 = true then (some true) else (some false)))))) = some r := H
  have A9 := Aside0.mk A90
  clear A90
  obtain ⟨t493, A10, H⟩ := bnd_ H
  by_cases c11 : (t493 != t485) = true
  ·rw [if_pos c11] at H
   have c11b0 : (t493 != t485) = true := c11
   (try (have c11b1 : decide (t493 = t485) = false := by simpa using c11))
   (try (have c11b2 : (t493 == t485) = false := by simpa using c11))
   (try (have c11b3 : ¬ (t493 = t485) := by simpa using c11))
   clear c11
   obtain rfl := Option.some.inj H
   go_enter Try.func8, Try.ntmps8
   go_wp2_with (first | ((with_reducible refine gate_dst (N := 1) rfl ?_); refine box_event ?hg (N := 1) ?hd (cs := #[.slice A0_0 l0_0.length c0_0, .slice A0_1 l0_1.length c0_1]) (t := 76) ?hr ?_; (case hd => rfl); (case hg => rfl); (case hr => exact z11_); intro gb477 hg w12 hbox hb; have BK477 := Aside0.mk (hbox); have GW477 := Aside0.mk ((by rw [hg]; exact (below_size z0_) : w.heap.size ≤ gb477)); have GE477 := Aside0.mk ((by rw [hg]; exact (below_size z0_) : w.heap.size ≤ gb477)); replace HB := Aside0.mk (below_step z0_ hb); clear hb hbox hg; have hcz13_0 : w12.cell? ⟨gb477, 0, none⟩ = some (.slice A0_0 l0_0.length c0_0) := (blk_cell BK477.out 0).trans rfl; have hcz13_1 : w12.cell? ⟨gb477, 1, none⟩ = some (.slice A0_1 l0_1.length c0_1) := (blk_cell BK477.out 1).trans rfl; have hfz13_0 := blk_frozen BK477.out 0; have hfz13_1 := blk_frozen BK477.out 1) | ((with_reducible refine gate_callee (f := 47) rfl ?_); refine goesL_ (some 9) rfl rfl Try.func47 (by kernel_rfl) rfl #[.agg #[.slice A0_0 l0_0.length c0_0, .slice A0_1 l0_1.length c0_1], .int .i64 1048576] rfl z1_ ?_; (with_reducible refine (laws_szHist.calls k _ _ l0_0 _ _ l0_1 1048576 t478 _ ?side1 ?side2 ?side3 ?side4 A2.out).mono ?_); (case side1 => exact z12_); (case side2 => exact HC0_0.out); (case side3 => exact z5_); (case side4 => exact HC0_1.out); rintro e w14 ⟨rfl, hb⟩; refine ⟨_, rfl, ?_⟩; replace BK477 := Aside0.mk (blk_below (g := gb477) (o := .cells #[.slice A0_0 l0_0.length c0_0, .slice A0_1 l0_1.length c0_1] 76 (0, 0)) z21_ hb); replace HB := Aside0.mk (below_step z8_ hb); (try clear hb); have hcz15_0 : w14.cell? ⟨gb477, 0, none⟩ = some (.slice A0_0 l0_0.length c0_0) := (blk_cell BK477.out 0).trans rfl; have hcz15_1 : w14.cell? ⟨gb477, 1, none⟩ = some (.slice A0_1 l0_1.length c0_1) := (blk_cell BK477.out 1).trans rfl; have hfz15_0 := blk_frozen BK477.out 0; have hfz15_1 := blk_frozen BK477.out 1) | ((with_reducible refine gate_callee (f := 49) rfl ?_); refine goesL_ (some 13) rfl rfl Try.func49 (by kernel_rfl) rfl #[.agg #[.slice A0_0 l0_0.length c0_0, .slice A0_1 l0_1.length c0_1]] rfl z1_ ?_; (with_reducible refine (laws_toHist.calls k _ _ l0_0 _ _ l0_1 t479 t482 _ ?side1 ?side2 ?side3 ?side4 A7.out).mono ?_); (case side1 => exact z12_); (case side2 => exact HC0_0.out); (case side3 => exact z5_); (case side4 => exact HC0_1.out); rintro e w16 ⟨v480, v483, rfl, ho0, ho1, hb⟩; refine ⟨_, rfl, ?_⟩; have HO481 := Aside0.mk (Kd.R_lower ho0 (below_size z8_)); have HO484 := Aside0.mk (Kd.R_lower ho1 (below_size z8_)); replace BK477 := Aside0.mk (blk_below (g := gb477) (o := .cells #[.slice A0_0 l0_0.length c0_0, .slice A0_1 l0_1.length c0_1] 76 (0, 0)) z21_ hb); replace HB := Aside0.mk (below_step z8_ hb); (try clear hb ho0 ho1); obtain ⟨Ao17, co17, eo17⟩ := Kd.R_slice HO481.out; subst eo17; obtain ⟨Ao18, co18, eo18⟩ := Kd.R_slice HO484.out; subst eo18) | ((with_reducible refine gate_callee (f := 48) rfl ?_); refine goesL_ (some 14) rfl rfl Try.func48 (by kernel_rfl) rfl #[.agg #[.slice Ao17 t479.length co17, .slice Ao18 t482.length co18]] rfl z1_ ?_; (with_reducible refine (spec_HistOk.calls k _ _ t479 _ _ t482 t485 _ ?side1 ?side2 ?side3 ?side4 A8.out).mono ?_); (case side1 => exact z90_); (case side2 => exact (Kd.R_reads' HO481.out).2.1); (case side3 => exact z91_); (case side4 => exact (Kd.R_reads' HO484.out).2.1); rintro e w19 ⟨rfl, hb⟩; refine ⟨_, rfl, ?_⟩; replace HO481 := Aside0.mk (Kd.R_below z30_ hb); replace HO484 := Aside0.mk (Kd.R_below z31_ hb); replace BK477 := Aside0.mk (blk_below (g := gb477) (o := .cells #[.slice A0_0 l0_0.length c0_0, .slice A0_1 l0_1.length c0_1] 76 (0, 0)) z21_ hb); replace HB := Aside0.mk (below_step z8_ hb); (try clear hb); have hcz20_0 : w19.cell? ⟨gb477, 0, none⟩ = some (.slice A0_0 l0_0.length c0_0) := (blk_cell BK477.out 0).trans rfl; have hcz20_1 : w19.cell? ⟨gb477, 1, none⟩ = some (.slice A0_1 l0_1.length c0_1) := (blk_cell BK477.out 1).trans rfl; have hfz20_0 := blk_frozen BK477.out 0; have hfz20_1 := blk_frozen BK477.out 1) | ((with_reducible refine gate_callee (f := 49) rfl ?_); refine goesL_ (some 16) rfl rfl Try.func49 (by kernel_rfl) rfl #[.agg #[.slice A0_0 l0_0.length c0_0, .slice A0_1 l0_1.length c0_1]] rfl z1_ ?_; (with_reducible refine (laws_toHist.calls k _ _ l0_0 _ _ l0_1 t486 t489 _ ?side1 ?side2 ?side3 ?side4 A9.out).mono ?_); (case side1 => exact z12_); (case side2 => exact HC0_0.out); (case side3 => exact z5_); (case side4 => exact HC0_1.out); rintro e w21 ⟨v487, v490, rfl, ho0, ho1, hb⟩; refine ⟨_, rfl, ?_⟩; have HO488 := Aside0.mk (Kd.R_lower (Kd.R_new' ho0 (Kd.R_lt z30_)) (below_size z8_)); replace HO481 := Aside0.mk (Kd.R_elder' z30_ (Kd.R_base ho0) hb); have HO491 := Aside0.mk (Kd.R_lower (Kd.R_new' ho1 (Kd.R_lt z31_)) (below_size z8_)); replace HO484 := Aside0.mk (Kd.R_elder' z31_ (Kd.R_base ho1) hb); replace BK477 := Aside0.mk (blk_below (g := gb477) (o := .cells #[.slice A0_0 l0_0.length c0_0, .slice A0_1 l0_1.length c0_1] 76 (0, 0)) z21_ hb); replace HB := Aside0.mk (below_step z8_ hb); (try clear hb ho0 ho1)) | ((with_reducible refine gate_dst (N := 5) rfl ?_); refine box_event ?hg (N := 5) ?hd (cs := #[.slice none 0 0, .slice none 0 0]) (t := 81) ?hr ?_; (case hd => rfl); (case hg => rfl); (case hr => exact z11_); intro gb492 hg w22 hbox hb; replace HO481 := Aside0.mk (Kd.R_below z30_ hb); replace HO484 := Aside0.mk (Kd.R_below z31_ hb); replace HO488 := Aside0.mk (Kd.R_below z56_ hb); replace HO491 := Aside0.mk (Kd.R_below z57_ hb); have BK492 := Aside0.mk (hbox); have GW492 := Aside0.mk ((by rw [hg]; exact (below_size z8_) : w.heap.size ≤ gb492)); have GE492 := Aside0.mk ((by rw [hg]; exact (below_size z8_) : w.heap.size ≤ gb492)); replace HB := Aside0.mk (below_step z8_ hb); have NB477_492 := Aside0.mk ((by rw [hg]; exact Nat.ne_of_lt (blk_lt (g := gb477) (o := .cells #[.slice A0_0 l0_0.length c0_0, .slice A0_1 l0_1.length c0_1] 76 (0, 0)) z21_) : gb477 ≠ gb492)); have NB492_477 := Aside0.mk ((by rw [hg]; exact Nat.ne_of_gt (blk_lt (g := gb477) (o := .cells #[.slice A0_0 l0_0.length c0_0, .slice A0_1 l0_1.length c0_1] 76 (0, 0)) z21_) : gb492 ≠ gb477)); replace BK477 := Aside0.mk (blk_below (g := gb477) (o := .cells #[.slice A0_0 l0_0.length c0_0, .slice A0_1 l0_1.length c0_1] 76 (0, 0)) z21_ hb); clear hb hbox hg; obtain ⟨Ao23, co23, eo23⟩ := Kd.R_slice HO488.out; subst eo23; have hnb24 := NB492_477.out; have hnc24 := NB477_492.out; have hcz25_0 : w22.cell? ⟨gb492, 0, none⟩ = some (.slice none 0 0) := (blk_cell BK492.out 0).trans rfl; have hcz25_1 : w22.cell? ⟨gb492, 1, none⟩ = some (.slice none 0 0) := (blk_cell BK492.out 1).trans rfl; have hfz25_0 := blk_frozen BK492.out 0; have hfz25_1 := blk_frozen BK492.out 1; obtain ⟨Ao26, co26, eo26⟩ := Kd.R_slice HO491.out; subst eo26) | ((with_reducible refine gate_callee (f := 50) rfl ?_); refine goesL_ (some 18) rfl rfl Try.func50 (by kernel_rfl) rfl #[.agg #[.slice Ao23 t486.length co23, .slice Ao26 t489.length co26]] rfl z1_ ?_; (with_reducible refine (impl_HistOk.calls k _ _ t486 _ _ t489 t493 _ ?side1 ?side2 ?side3 ?side4 A10.out).mono ?_); (case side1 => refine (Kd.R_reads' (e := 55) (base := w.heap.size) (ok := fun k_ => (True ∧ some k_ ≠ (.slice Ao17 t479.length co17 : Value).ownBlock)) (n := t486.length) (c := co23) ?_).2.2; exact z71_); (case side2 => exact z161_); (case side3 => refine (Kd.R_reads' (e := 123) (base := w.heap.size) (ok := fun k_ => (True ∧ some k_ ≠ (.slice Ao18 t482.length co18 : Value).ownBlock)) (n := t489.length) (c := co26) ?_).2.2; exact z72_); (case side4 => exact z162_); rintro e w27 ⟨rfl, hb⟩; refine ⟨_, rfl, ?_⟩; replace HO481 := Aside0.mk (Kd.R_below (by (with_reducible repeat (first | apply Kd.R_alloc | apply Kd.R_drewN | apply Kd.R_drew)); exact (Kd.R_mono (Kd.R_far (p := ⟨gb492, 1, none⟩) (Kd.R_far (p := ⟨gb492, 0, none⟩) (Kd.R_types HO481.out BK492.out (by decide)) (fun _ hk => hk.2) (.slice Ao23 t486.length co23)) (fun _ hk => hk.2) (.slice Ao26 t489.length co26)) (fun _ h_ => h_.1))) hb); replace HO484 := Aside0.mk (Kd.R_below (by (with_reducible repeat (first | apply Kd.R_alloc | apply Kd.R_drewN | apply Kd.R_drew)); exact (Kd.R_mono (Kd.R_far (p := ⟨gb492, 1, none⟩) (Kd.R_far (p := ⟨gb492, 0, none⟩) (Kd.R_types HO484.out BK492.out (by decide)) (fun _ hk => hk.2) (.slice Ao23 t486.length co23)) (fun _ hk => hk.2) (.slice Ao26 t489.length co26)) (fun _ h_ => h_.1))) hb); replace HO488 := Aside0.mk (Kd.R_below z71_ hb); replace HO491 := Aside0.mk (Kd.R_below z72_ hb); replace BK477 := Aside0.mk (blk_below (g := gb477) (o := .cells #[.slice A0_0 l0_0.length c0_0, .slice A0_1 l0_1.length c0_1] 76 (0, 0)) z48_ hb); replace BK492 := Aside0.mk (blk_below (g := gb492) (o := .cells #[.slice Ao23 t486.length co23, .slice Ao26 t489.length co26] 81 (0, 0)) (by (with_reducible repeat (first | refine blk_drewN ?_ _ | refine blk_drew ?_ | refine blk_alloc ?_ _)); refine blk_put (cs := #[.slice Ao23 t486.length co23, .slice none 0 0]) ?_ 1 _ rfl; (with_reducible repeat (first | refine blk_drewN ?_ _ | refine blk_drew ?_ | refine blk_alloc ?_ _)); refine blk_put (cs := #[.slice none 0 0, .slice none 0 0]) ?_ 0 _ rfl; (with_reducible repeat (first | refine blk_drewN ?_ _ | refine blk_drew ?_ | refine blk_alloc ?_ _)); exact BK492.out) hb); replace HB := Aside0.mk (below_step z24_ hb); (try clear hb)))
   go_ret
   exact ⟨z3_, z24_⟩
  ·rw [if_neg c11] at H
   have c11b0 : (t493 != t485) = false := by simpa using c11
   (try (have c11b1 : decide (t493 = t485) = true := by simpa using c11))
   (try (have c11b2 : (t493 == t485) = true := by simpa using c11))
   clear c11
   replace H := Option.bind_eq_some_iff.mp H
   obtain ⟨⟨t494, t497⟩, A280, H⟩ := H
   replace H : ((laws_eqHist.f k t486 t489 t494 t497).bind fun t500 => (if t500 = true then (some true) else (some false))) = some r := H
   have A28 := Aside0.mk A280
   clear A280
   obtain ⟨t500, A29, H⟩ := bnd_ H
   by_cases c30 : t500 = true
   ·subst c30
    replace H := ift_ H
    obtain rfl := Option.some.inj H
    go_enter Try.func8, Try.ntmps8
    try go_wp2_with (first | ((with_reducible refine gate_dst (N := 1) rfl ?_); refine box_event ?hg (N := 1) ?hd (cs := #[.slice A0_0 l0_0.length c0_0, .slice A0_1 l0_1.length c0_1]) (t := 76) ?hr ?_; (case hd => rfl); (case hg => rfl); (case hr => exact z11_); intro gb477 hg w31 hbox hb; have BK477 := Aside0.mk (hbox); have GW477 := Aside0.mk ((by rw [hg]; exact (below_size z0_) : w.heap.size ≤ gb477)); have GE477 := Aside0.mk ((by rw [hg]; exact (below_size z0_) : w.heap.size ≤ gb477)); replace HB := Aside0.mk (below_step z0_ hb); clear hb hbox hg; have hcz32_0 : w31.cell? ⟨gb477, 0, none⟩ = some (.slice A0_0 l0_0.length c0_0) := (blk_cell BK477.out 0).trans rfl; have hcz32_1 : w31.cell? ⟨gb477, 1, none⟩ = some (.slice A0_1 l0_1.length c0_1) := (blk_cell BK477.out 1).trans rfl; have hfz32_0 := blk_frozen BK477.out 0; have hfz32_1 := blk_frozen BK477.out 1) | ((with_reducible refine gate_callee (f := 47) rfl ?_); refine goesL_ (some 9) rfl rfl Try.func47 (by kernel_rfl) rfl #[.agg #[.slice A0_0 l0_0.length c0_0, .slice A0_1 l0_1.length c0_1], .int .i64 1048576] rfl z1_ ?_; (with_reducible refine (laws_szHist.calls k _ _ l0_0 _ _ l0_1 1048576 t478 _ ?side1 ?side2 ?side3 ?side4 A2.out).mono ?_); (case side1 => exact z12_); (case side2 => exact HC0_0.out); (case side3 => exact z5_); (case side4 => exact HC0_1.out); rintro e w33 ⟨rfl, hb⟩; refine ⟨_, rfl, ?_⟩; replace BK477 := Aside0.mk (blk_below (g := gb477) (o := .cells #[.slice A0_0 l0_0.length c0_0, .slice A0_1 l0_1.length c0_1] 76 (0, 0)) z21_ hb); replace HB := Aside0.mk (below_step z8_ hb); (try clear hb); have hcz34_0 : w33.cell? ⟨gb477, 0, none⟩ = some (.slice A0_0 l0_0.length c0_0) := (blk_cell BK477.out 0).trans rfl; have hcz34_1 : w33.cell? ⟨gb477, 1, none⟩ = some (.slice A0_1 l0_1.length c0_1) := (blk_cell BK477.out 1).trans rfl; have hfz34_0 := blk_frozen BK477.out 0; have hfz34_1 := blk_frozen BK477.out 1) | ((with_reducible refine gate_callee (f := 49) rfl ?_); refine goesL_ (some 13) rfl rfl Try.func49 (by kernel_rfl) rfl #[.agg #[.slice A0_0 l0_0.length c0_0, .slice A0_1 l0_1.length c0_1]] rfl z1_ ?_; (with_reducible refine (laws_toHist.calls k _ _ l0_0 _ _ l0_1 t479 t482 _ ?side1 ?side2 ?side3 ?side4 A7.out).mono ?_); (case side1 => exact z12_); (case side2 => exact HC0_0.out); (case side3 => exact z5_); (case side4 => exact HC0_1.out); rintro e w35 ⟨v480, v483, rfl, ho0, ho1, hb⟩; refine ⟨_, rfl, ?_⟩; have HO481 := Aside0.mk (Kd.R_lower ho0 (below_size z8_)); have HO484 := Aside0.mk (Kd.R_lower ho1 (below_size z8_)); replace BK477 := Aside0.mk (blk_below (g := gb477) (o := .cells #[.slice A0_0 l0_0.length c0_0, .slice A0_1 l0_1.length c0_1] 76 (0, 0)) z21_ hb); replace HB := Aside0.mk (below_step z8_ hb); (try clear hb ho0 ho1); obtain ⟨Ao36, co36, eo36⟩ := Kd.R_slice HO481.out; subst eo36; obtain ⟨Ao37, co37, eo37⟩ := Kd.R_slice HO484.out; subst eo37) | ((with_reducible refine gate_callee (f := 48) rfl ?_); refine goesL_ (some 14) rfl rfl Try.func48 (by kernel_rfl) rfl #[.agg #[.slice Ao36 t479.length co36, .slice Ao37 t482.length co37]] rfl z1_ ?_; (with_reducible refine (spec_HistOk.calls k _ _ t479 _ _ t482 t485 _ ?side1 ?side2 ?side3 ?side4 A8.out).mono ?_); (case side1 => exact z90_); (case side2 => exact (Kd.R_reads' HO481.out).2.1); (case side3 => exact z91_); (case side4 => exact (Kd.R_reads' HO484.out).2.1); rintro e w38 ⟨rfl, hb⟩; refine ⟨_, rfl, ?_⟩; replace HO481 := Aside0.mk (Kd.R_below z30_ hb); replace HO484 := Aside0.mk (Kd.R_below z31_ hb); replace BK477 := Aside0.mk (blk_below (g := gb477) (o := .cells #[.slice A0_0 l0_0.length c0_0, .slice A0_1 l0_1.length c0_1] 76 (0, 0)) z21_ hb); replace HB := Aside0.mk (below_step z8_ hb); (try clear hb); have hcz39_0 : w38.cell? ⟨gb477, 0, none⟩ = some (.slice A0_0 l0_0.length c0_0) := (blk_cell BK477.out 0).trans rfl; have hcz39_1 : w38.cell? ⟨gb477, 1, none⟩ = some (.slice A0_1 l0_1.length c0_1) := (blk_cell BK477.out 1).trans rfl; have hfz39_0 := blk_frozen BK477.out 0; have hfz39_1 := blk_frozen BK477.out 1) | ((with_reducible refine gate_callee (f := 49) rfl ?_); refine goesL_ (some 16) rfl rfl Try.func49 (by kernel_rfl) rfl #[.agg #[.slice A0_0 l0_0.length c0_0, .slice A0_1 l0_1.length c0_1]] rfl z1_ ?_; (with_reducible refine (laws_toHist.calls k _ _ l0_0 _ _ l0_1 t486 t489 _ ?side1 ?side2 ?side3 ?side4 A9.out).mono ?_); (case side1 => exact z12_); (case side2 => exact HC0_0.out); (case side3 => exact z5_); (case side4 => exact HC0_1.out); rintro e w40 ⟨v487, v490, rfl, ho0, ho1, hb⟩; refine ⟨_, rfl, ?_⟩; have HO488 := Aside0.mk (Kd.R_lower (Kd.R_new' ho0 (Kd.R_lt z30_)) (below_size z8_)); replace HO481 := Aside0.mk (Kd.R_elder' z30_ (Kd.R_base ho0) hb); have HO491 := Aside0.mk (Kd.R_lower (Kd.R_new' ho1 (Kd.R_lt z31_)) (below_size z8_)); replace HO484 := Aside0.mk (Kd.R_elder' z31_ (Kd.R_base ho1) hb); replace BK477 := Aside0.mk (blk_below (g := gb477) (o := .cells #[.slice A0_0 l0_0.length c0_0, .slice A0_1 l0_1.length c0_1] 76 (0, 0)) z21_ hb); replace HB := Aside0.mk (below_step z8_ hb); (try clear hb ho0 ho1)) | ((with_reducible refine gate_dst (N := 5) rfl ?_); refine box_event ?hg (N := 5) ?hd (cs := #[.slice none 0 0, .slice none 0 0]) (t := 81) ?hr ?_; (case hd => rfl); (case hg => rfl); (case hr => exact z11_); intro gb492 hg w41 hbox hb; replace HO481 := Aside0.mk (Kd.R_below z30_ hb); replace HO484 := Aside0.mk (Kd.R_below z31_ hb); replace HO488 := Aside0.mk (Kd.R_below z56_ hb); replace HO491 := Aside0.mk (Kd.R_below z57_ hb); have BK492 := Aside0.mk (hbox); have GW492 := Aside0.mk ((by rw [hg]; exact (below_size z8_) : w.heap.size ≤ gb492)); have GE492 := Aside0.mk ((by rw [hg]; exact (below_size z8_) : w.heap.size ≤ gb492)); replace HB := Aside0.mk (below_step z8_ hb); have NB477_492 := Aside0.mk ((by rw [hg]; exact Nat.ne_of_lt (blk_lt (g := gb477) (o := .cells #[.slice A0_0 l0_0.length c0_0, .slice A0_1 l0_1.length c0_1] 76 (0, 0)) z21_) : gb477 ≠ gb492)); have NB492_477 := Aside0.mk ((by rw [hg]; exact Nat.ne_of_gt (blk_lt (g := gb477) (o := .cells #[.slice A0_0 l0_0.length c0_0, .slice A0_1 l0_1.length c0_1] 76 (0, 0)) z21_) : gb492 ≠ gb477)); replace BK477 := Aside0.mk (blk_below (g := gb477) (o := .cells #[.slice A0_0 l0_0.length c0_0, .slice A0_1 l0_1.length c0_1] 76 (0, 0)) z21_ hb); clear hb hbox hg; obtain ⟨Ao42, co42, eo42⟩ := Kd.R_slice HO488.out; subst eo42; have hnb43 := NB492_477.out; have hnc43 := NB477_492.out; have hcz44_0 : w41.cell? ⟨gb492, 0, none⟩ = some (.slice none 0 0) := (blk_cell BK492.out 0).trans rfl; have hcz44_1 : w41.cell? ⟨gb492, 1, none⟩ = some (.slice none 0 0) := (blk_cell BK492.out 1).trans rfl; have hfz44_0 := blk_frozen BK492.out 0; have hfz44_1 := blk_frozen BK492.out 1; obtain ⟨Ao45, co45, eo45⟩ := Kd.R_slice HO491.out; subst eo45) | ((with_reducible refine gate_callee (f := 50) rfl ?_); refine goesL_ (some 18) rfl rfl Try.func50 (by kernel_rfl) rfl #[.agg #[.slice Ao42 t486.length co42, .slice Ao45 t489.length co45]] rfl z1_ ?_; (with_reducible refine (impl_HistOk.calls k _ _ t486 _ _ t489 t493 _ ?side1 ?side2 ?side3 ?side4 A10.out).mono ?_); (case side1 => refine (Kd.R_reads' (e := 55) (base := w.heap.size) (ok := fun k_ => (True ∧ some k_ ≠ (.slice Ao36 t479.length co36 : Value).ownBlock)) (n := t486.length) (c := co42) ?_).2.2; exact z73_); (case side2 => exact z161_); (case side3 => refine (Kd.R_reads' (e := 123) (base := w.heap.size) (ok := fun k_ => (True ∧ some k_ ≠ (.slice Ao37 t482.length co37 : Value).ownBlock)) (n := t489.length) (c := co45) ?_).2.2; exact z74_); (case side4 => exact z162_); rintro e w46 ⟨rfl, hb⟩; refine ⟨_, rfl, ?_⟩; replace HO481 := Aside0.mk (Kd.R_below (by (with_reducible repeat (first | apply Kd.R_alloc | apply Kd.R_drewN | apply Kd.R_drew)); exact (Kd.R_mono (Kd.R_far (p := ⟨gb492, 1, none⟩) (Kd.R_far (p := ⟨gb492, 0, none⟩) (Kd.R_types HO481.out BK492.out (by decide)) (fun _ hk => hk.2) (.slice Ao42 t486.length co42)) (fun _ hk => hk.2) (.slice Ao45 t489.length co45)) (fun _ h_ => h_.1))) hb); replace HO484 := Aside0.mk (Kd.R_below (by (with_reducible repeat (first | apply Kd.R_alloc | apply Kd.R_drewN | apply Kd.R_drew)); exact (Kd.R_mono (Kd.R_far (p := ⟨gb492, 1, none⟩) (Kd.R_far (p := ⟨gb492, 0, none⟩) (Kd.R_types HO484.out BK492.out (by decide)) (fun _ hk => hk.2) (.slice Ao42 t486.length co42)) (fun _ hk => hk.2) (.slice Ao45 t489.length co45)) (fun _ h_ => h_.1))) hb); replace HO488 := Aside0.mk (Kd.R_below z73_ hb); replace HO491 := Aside0.mk (Kd.R_below z74_ hb); replace BK477 := Aside0.mk (blk_below (g := gb477) (o := .cells #[.slice A0_0 l0_0.length c0_0, .slice A0_1 l0_1.length c0_1] 76 (0, 0)) z48_ hb); replace BK492 := Aside0.mk (blk_below (g := gb492) (o := .cells #[.slice Ao42 t486.length co42, .slice Ao45 t489.length co45] 81 (0, 0)) (by (with_reducible repeat (first | refine blk_drewN ?_ _ | refine blk_drew ?_ | refine blk_alloc ?_ _)); refine blk_put (cs := #[.slice Ao42 t486.length co42, .slice none 0 0]) ?_ 1 _ rfl; (with_reducible repeat (first | refine blk_drewN ?_ _ | refine blk_drew ?_ | refine blk_alloc ?_ _)); refine blk_put (cs := #[.slice none 0 0, .slice none 0 0]) ?_ 0 _ rfl; (with_reducible repeat (first | refine blk_drewN ?_ _ | refine blk_drew ?_ | refine blk_alloc ?_ _)); exact BK492.out) hb); replace HB := Aside0.mk (below_step z24_ hb); (try clear hb)))
    have n0_ := Aside0.mk (Kd.R_drew HO481.out)
    have n1_ := Aside0.mk (Kd.R_drew HO484.out)
    have n2_ := Aside0.mk (Kd.R_drew HO488.out)
    have n3_ := Aside0.mk (Kd.R_drew HO491.out)
    have n4_ := Aside0.mk (blk_drew BK477.out)
    have n5_ := Aside0.mk (blk_drew BK492.out)
    have n6_ := Aside0.mk (below_drew1 HB.out)
    clear HO481
    clear HO484
    clear HO488
    clear HO491
    clear BK477
    clear BK492
    clear HB
    have HO481 := n0_
    have HO484 := n1_
    have HO488 := n2_
    have HO491 := n3_
    have BK477 := n4_
    have BK492 := n5_
    have HB := n6_
    clear n0_ n1_ n2_ n3_ n4_ n5_ n6_
    refine start_ (n := 5) (S := fun w' => w'.cell? ⟨gb492, 0, none⟩ = some (.slice Ao42 t486.length co42) ∧ w'.cell? ⟨gb492, 1, none⟩ = some (.slice Ao45 t489.length co45) ∧ w'.cell? ⟨gb477, 0, none⟩ = some (.slice A0_0 l0_0.length c0_0) ∧ w'.cell? ⟨gb477, 1, none⟩ = some (.slice A0_1 l0_1.length c0_1)) (ds := []) (fl_ 5 0) (by kernel_rfl) rfl (fl_zero _) ⟨(blk_cell BK492.out 0).trans rfl, (blk_cell BK492.out 1).trans rfl, (blk_cell BK477.out 0).trans rfl, (blk_cell BK477.out 1).trans rfl⟩ (fun hHeld => ?_)
    generalize w46.drew = w47 at HO481 HO484 HO488 HO491 BK477 BK492 HB hHeld ⊢
    refine take_ (i := 0) (N := some 22) (v := ?_) (a' := ?_) #[true, false, false, false, false] rfl rfl (by kernel_rfl) (fun _ _ _ h => h) (Or.inl ⟨by rfl, ?_⟩) hHeld ?_ ?_
    rotate_left
    ·rintro w' ⟨s0, s1, s2, s3⟩
     go_simp
     with_reducible rfl
    rotate_left
    ·simp only [Act.put, List.setIfInBounds_toArray, List.set_cons_zero, List.set_cons_succ, i64_w, i32_w]
     rfl
    refine take_ (i := 1) (N := some 23) (v := ?_) (a' := ?_) #[true, true, false, false, false] rfl rfl (by kernel_rfl) (fun _ _ _ h => h) (Or.inl ⟨by rfl, ?_⟩) hHeld ?_ ?_
    rotate_left
    ·rintro w' ⟨s0, s1, s2, s3⟩
     go_simp
     with_reducible rfl
    rotate_left
    ·simp only [Act.put, List.setIfInBounds_toArray, List.set_cons_zero, List.set_cons_succ, i64_w, i32_w]
     rfl
    refine one_ (i := 2) (N := some 24) (fl_ 5 3) rfl rfl (by kernel_rfl) (by decide) (fun K hK => ?_)
    refine goes_ Try.func49 (by kernel_rfl) rfl #[.agg #[.slice A0_0 l0_0.length c0_0, .slice A0_1 l0_1.length c0_1]] (by rfl) rfl rfl z1_ ?_
    with_reducible refine (laws_toHist.calls k _ _ l0_0 _ _ l0_1 t494 t497 _ ?side1 ?side2 ?side3 ?side4 A28.out).mono ?_
    (case side1 => exact z12_)
    (case side2 => exact HC0_0.out)
    (case side3 => exact z5_)
    (case side4 => exact HC0_1.out)
    rintro e w48 ⟨v495, v498, rfl, ho0, ho1, hb⟩
    refine ⟨_, rfl, ?_⟩
    have n0_ := Aside0.mk (Kd.R_elder' z30_ (Kd.R_base ho0) hb)
    have n1_ := Aside0.mk (Kd.R_elder' z31_ (Kd.R_base ho1) hb)
    have n2_ := Aside0.mk (Kd.R_elder' z56_ (Kd.R_base ho0) hb)
    have n3_ := Aside0.mk (Kd.R_elder' z57_ (Kd.R_base ho1) hb)
    have n4_ := Aside0.mk (Kd.R_lower (Kd.R_new' (Kd.R_new' ho0 (Kd.R_lt z30_)) (Kd.R_lt z56_)) (below_size z24_))
    have n5_ := Aside0.mk (Kd.R_lower (Kd.R_new' (Kd.R_new' ho1 (Kd.R_lt z31_)) (Kd.R_lt z57_)) (below_size z24_))
    have n6_ := Aside0.mk (blk_below (g := gb477) (o := .cells #[.slice A0_0 l0_0.length c0_0, .slice A0_1 l0_1.length c0_1] 76 (0, 0)) z21_ hb)
    have n7_ := Aside0.mk (blk_below (g := gb492) (o := .cells #[.slice Ao42 t486.length co42, .slice Ao45 t489.length co45] 81 (0, 0)) z100_ hb)
    have n8_ := Aside0.mk (below_step z24_ hb)
    clear HO481
    clear HO484
    clear HO488
    clear HO491
    clear BK477
    clear BK492
    clear HB
    have HO481 := n0_
    have HO484 := n1_
    have HO488 := n2_
    have HO491 := n3_
    have HO496 := n4_
    have HO499 := n5_
    have BK477 := n6_
    have BK492 := n7_
    have HB := n8_
    clear n0_ n1_ n2_ n3_ n4_ n5_ n6_ n7_ n8_
    (try clear hb)
    (try clear hb2)
    (try clear hk)
    (try clear hi)
    (try clear ho0)
    (try clear ho1)
    obtain ⟨Ao49, co49, eo49⟩ := Kd.R_slice HO496.out
    (first | subst eo49 | (injection eo49 with f1_ f2_ f3_; have f4_ := f1_.symm; have f5_ := f3_.symm; clear f1_ f2_ f3_; subst f4_; subst f5_))
    obtain ⟨Ao50, co50, eo50⟩ := Kd.R_slice HO499.out
    (first | subst eo50 | (injection eo50 with f1_ f2_ f3_; have f4_ := f1_.symm; have f5_ := f3_.symm; clear f1_ f2_ f3_; subst f4_; subst f5_))
    refine hK.out _ _ ⟨(blk_cell BK492.out 0).trans rfl, (blk_cell BK492.out 1).trans rfl, (blk_cell BK477.out 0).trans rfl, (blk_cell BK477.out 1).trans rfl⟩ (fun hHeld => ?_)
    clear hK K
    refine zn_ rfl ?_
    refine one_ (i := 3) (N := some 25) (fl_ 5 4) rfl rfl (by kernel_rfl) (by decide) (fun K hK => ?_)
    refine goes_ Try.func51 (by kernel_rfl) rfl #[.agg #[.slice Ao42 t486.length co42, .slice Ao45 t489.length co45], .agg #[.slice Ao49 t494.length co49, .slice Ao50 t497.length co50]] (by rfl) rfl rfl z1_ ?_
    with_reducible refine (laws_eqHist.calls k _ _ t486 _ _ t489 _ _ t494 _ _ t497 true _ ?side1 ?side2 ?side3 ?side4 ?side5 ?side6 ?side7 ?side8 A29.out).mono ?_
    (case side1 => exact z122_)
    (case side2 => exact z161_)
    (case side3 => exact z123_)
    (case side4 => exact z162_)
    (case side5 => exact z124_)
    (case side6 => exact (Kd.R_reads' HO496.out).2.1)
    (case side7 => exact z125_)
    (case side8 => exact (Kd.R_reads' HO499.out).2.1)
    rintro e w51 ⟨rfl, hb⟩
    refine ⟨_, rfl, ?_⟩
    have n0_ := Aside0.mk (Kd.R_below z30_ hb)
    have n1_ := Aside0.mk (Kd.R_below z31_ hb)
    have n2_ := Aside0.mk (Kd.R_below z56_ hb)
    have n3_ := Aside0.mk (Kd.R_below z57_ hb)
    have n4_ := Aside0.mk (Kd.R_below z156_ hb)
    have n5_ := Aside0.mk (Kd.R_below z157_ hb)
    have n6_ := Aside0.mk (blk_below (g := gb477) (o := .cells #[.slice A0_0 l0_0.length c0_0, .slice A0_1 l0_1.length c0_1] 76 (0, 0)) z21_ hb)
    have n7_ := Aside0.mk (blk_below (g := gb492) (o := .cells #[.slice Ao42 t486.length co42, .slice Ao45 t489.length co45] 81 (0, 0)) z100_ hb)
    have n8_ := Aside0.mk (below_step z24_ hb)
    clear HO481
    clear HO484
    clear HO488
    clear HO491
    clear HO496
    clear HO499
    clear BK477
    clear BK492
    clear HB
    have HO481 := n0_
    have HO484 := n1_
    have HO488 := n2_
    have HO491 := n3_
    have HO496 := n4_
    have HO499 := n5_
    have BK477 := n6_
    have BK492 := n7_
    have HB := n8_
    clear n0_ n1_ n2_ n3_ n4_ n5_ n6_ n7_ n8_
    (try clear hb)
    (try clear hb2)
    (try clear hk)
    (try clear hi)
    refine hK.out _ _ ⟨(blk_cell BK492.out 0).trans rfl, (blk_cell BK492.out 1).trans rfl, (blk_cell BK477.out 0).trans rfl, (blk_cell BK477.out 1).trans rfl⟩ (fun hHeld => ?_)
    clear hK K
    refine zn_ rfl ?_
    refine pure_ (i := 4) (N := some 26) (v := ?_) (a' := ?_) #[true, true, true, true, true] rfl rfl (by kernel_rfl) (fun _ _ _ h => h) (Or.inl ⟨by rfl, ?_⟩) ?_ ?_
    rotate_left
    ·intro w'
     go_simp
     with_reducible rfl
    rotate_left
    ·simp only [Act.put, List.setIfInBounds_toArray, List.set_cons_zero, List.set_cons_succ, i64_w, i32_w]
     rfl
    refine done_ (by kernel_rfl) ?_
    try go_wp2
    go_ret
    exact ⟨z3_, z24_⟩
   ·replace c30 := Bool.eq_false_iff.mpr c30
    subst c30
    replace H := iff_ H
    obtain rfl := Option.some.inj H
    go_enter Try.func8, Try.ntmps8
    try go_wp2_with (first | ((with_reducible refine gate_dst (N := 1) rfl ?_); refine box_event ?hg (N := 1) ?hd (cs := #[.slice A0_0 l0_0.length c0_0, .slice A0_1 l0_1.length c0_1]) (t := 76) ?hr ?_; (case hd => rfl); (case hg => rfl); (case hr => exact z11_); intro gb477 hg w52 hbox hb; have BK477 := Aside0.mk (hbox); have GW477 := Aside0.mk ((by rw [hg]; exact (below_size z0_) : w.heap.size ≤ gb477)); have GE477 := Aside0.mk ((by rw [hg]; exact (below_size z0_) : w.heap.size ≤ gb477)); replace HB := Aside0.mk (below_step z0_ hb); clear hb hbox hg; have hcz53_0 : w52.cell? ⟨gb477, 0, none⟩ = some (.slice A0_0 l0_0.length c0_0) := (blk_cell BK477.out 0).trans rfl; have hcz53_1 : w52.cell? ⟨gb477, 1, none⟩ = some (.slice A0_1 l0_1.length c0_1) := (blk_cell BK477.out 1).trans rfl; have hfz53_0 := blk_frozen BK477.out 0; have hfz53_1 := blk_frozen BK477.out 1) | ((with_reducible refine gate_callee (f := 47) rfl ?_); refine goesL_ (some 9) rfl rfl Try.func47 (by kernel_rfl) rfl #[.agg #[.slice A0_0 l0_0.length c0_0, .slice A0_1 l0_1.length c0_1], .int .i64 1048576] rfl z1_ ?_; (with_reducible refine (laws_szHist.calls k _ _ l0_0 _ _ l0_1 1048576 t478 _ ?side1 ?side2 ?side3 ?side4 A2.out).mono ?_); (case side1 => exact z12_); (case side2 => exact HC0_0.out); (case side3 => exact z5_); (case side4 => exact HC0_1.out); rintro e w54 ⟨rfl, hb⟩; refine ⟨_, rfl, ?_⟩; replace BK477 := Aside0.mk (blk_below (g := gb477) (o := .cells #[.slice A0_0 l0_0.length c0_0, .slice A0_1 l0_1.length c0_1] 76 (0, 0)) z21_ hb); replace HB := Aside0.mk (below_step z8_ hb); (try clear hb); have hcz55_0 : w54.cell? ⟨gb477, 0, none⟩ = some (.slice A0_0 l0_0.length c0_0) := (blk_cell BK477.out 0).trans rfl; have hcz55_1 : w54.cell? ⟨gb477, 1, none⟩ = some (.slice A0_1 l0_1.length c0_1) := (blk_cell BK477.out 1).trans rfl; have hfz55_0 := blk_frozen BK477.out 0; have hfz55_1 := blk_frozen BK477.out 1) | ((with_reducible refine gate_callee (f := 49) rfl ?_); refine goesL_ (some 13) rfl rfl Try.func49 (by kernel_rfl) rfl #[.agg #[.slice A0_0 l0_0.length c0_0, .slice A0_1 l0_1.length c0_1]] rfl z1_ ?_; (with_reducible refine (laws_toHist.calls k _ _ l0_0 _ _ l0_1 t479 t482 _ ?side1 ?side2 ?side3 ?side4 A7.out).mono ?_); (case side1 => exact z12_); (case side2 => exact HC0_0.out); (case side3 => exact z5_); (case side4 => exact HC0_1.out); rintro e w56 ⟨v480, v483, rfl, ho0, ho1, hb⟩; refine ⟨_, rfl, ?_⟩; have HO481 := Aside0.mk (Kd.R_lower ho0 (below_size z8_)); have HO484 := Aside0.mk (Kd.R_lower ho1 (below_size z8_)); replace BK477 := Aside0.mk (blk_below (g := gb477) (o := .cells #[.slice A0_0 l0_0.length c0_0, .slice A0_1 l0_1.length c0_1] 76 (0, 0)) z21_ hb); replace HB := Aside0.mk (below_step z8_ hb); (try clear hb ho0 ho1); obtain ⟨Ao57, co57, eo57⟩ := Kd.R_slice HO481.out; subst eo57; obtain ⟨Ao58, co58, eo58⟩ := Kd.R_slice HO484.out; subst eo58) | ((with_reducible refine gate_callee (f := 48) rfl ?_); refine goesL_ (some 14) rfl rfl Try.func48 (by kernel_rfl) rfl #[.agg #[.slice Ao57 t479.length co57, .slice Ao58 t482.length co58]] rfl z1_ ?_; (with_reducible refine (spec_HistOk.calls k _ _ t479 _ _ t482 t485 _ ?side1 ?side2 ?side3 ?side4 A8.out).mono ?_); (case side1 => exact z90_); (case side2 => exact (Kd.R_reads' HO481.out).2.1); (case side3 => exact z91_); (case side4 => exact (Kd.R_reads' HO484.out).2.1); rintro e w59 ⟨rfl, hb⟩; refine ⟨_, rfl, ?_⟩; replace HO481 := Aside0.mk (Kd.R_below z30_ hb); replace HO484 := Aside0.mk (Kd.R_below z31_ hb); replace BK477 := Aside0.mk (blk_below (g := gb477) (o := .cells #[.slice A0_0 l0_0.length c0_0, .slice A0_1 l0_1.length c0_1] 76 (0, 0)) z21_ hb); replace HB := Aside0.mk (below_step z8_ hb); (try clear hb); have hcz60_0 : w59.cell? ⟨gb477, 0, none⟩ = some (.slice A0_0 l0_0.length c0_0) := (blk_cell BK477.out 0).trans rfl; have hcz60_1 : w59.cell? ⟨gb477, 1, none⟩ = some (.slice A0_1 l0_1.length c0_1) := (blk_cell BK477.out 1).trans rfl; have hfz60_0 := blk_frozen BK477.out 0; have hfz60_1 := blk_frozen BK477.out 1) | ((with_reducible refine gate_callee (f := 49) rfl ?_); refine goesL_ (some 16) rfl rfl Try.func49 (by kernel_rfl) rfl #[.agg #[.slice A0_0 l0_0.length c0_0, .slice A0_1 l0_1.length c0_1]] rfl z1_ ?_; (with_reducible refine (laws_toHist.calls k _ _ l0_0 _ _ l0_1 t486 t489 _ ?side1 ?side2 ?side3 ?side4 A9.out).mono ?_); (case side1 => exact z12_); (case side2 => exact HC0_0.out); (case side3 => exact z5_); (case side4 => exact HC0_1.out); rintro e w61 ⟨v487, v490, rfl, ho0, ho1, hb⟩; refine ⟨_, rfl, ?_⟩; have HO488 := Aside0.mk (Kd.R_lower (Kd.R_new' ho0 (Kd.R_lt z30_)) (below_size z8_)); replace HO481 := Aside0.mk (Kd.R_elder' z30_ (Kd.R_base ho0) hb); have HO491 := Aside0.mk (Kd.R_lower (Kd.R_new' ho1 (Kd.R_lt z31_)) (below_size z8_)); replace HO484 := Aside0.mk (Kd.R_elder' z31_ (Kd.R_base ho1) hb); replace BK477 := Aside0.mk (blk_below (g := gb477) (o := .cells #[.slice A0_0 l0_0.length c0_0, .slice A0_1 l0_1.length c0_1] 76 (0, 0)) z21_ hb); replace HB := Aside0.mk (below_step z8_ hb); (try clear hb ho0 ho1)) | ((with_reducible refine gate_dst (N := 5) rfl ?_); refine box_event ?hg (N := 5) ?hd (cs := #[.slice none 0 0, .slice none 0 0]) (t := 81) ?hr ?_; (case hd => rfl); (case hg => rfl); (case hr => exact z11_); intro gb492 hg w62 hbox hb; replace HO481 := Aside0.mk (Kd.R_below z30_ hb); replace HO484 := Aside0.mk (Kd.R_below z31_ hb); replace HO488 := Aside0.mk (Kd.R_below z56_ hb); replace HO491 := Aside0.mk (Kd.R_below z57_ hb); have BK492 := Aside0.mk (hbox); have GW492 := Aside0.mk ((by rw [hg]; exact (below_size z8_) : w.heap.size ≤ gb492)); have GE492 := Aside0.mk ((by rw [hg]; exact (below_size z8_) : w.heap.size ≤ gb492)); replace HB := Aside0.mk (below_step z8_ hb); have NB477_492 := Aside0.mk ((by rw [hg]; exact Nat.ne_of_lt (blk_lt (g := gb477) (o := .cells #[.slice A0_0 l0_0.length c0_0, .slice A0_1 l0_1.length c0_1] 76 (0, 0)) z21_) : gb477 ≠ gb492)); have NB492_477 := Aside0.mk ((by rw [hg]; exact Nat.ne_of_gt (blk_lt (g := gb477) (o := .cells #[.slice A0_0 l0_0.length c0_0, .slice A0_1 l0_1.length c0_1] 76 (0, 0)) z21_) : gb492 ≠ gb477)); replace BK477 := Aside0.mk (blk_below (g := gb477) (o := .cells #[.slice A0_0 l0_0.length c0_0, .slice A0_1 l0_1.length c0_1] 76 (0, 0)) z21_ hb); clear hb hbox hg; obtain ⟨Ao63, co63, eo63⟩ := Kd.R_slice HO488.out; subst eo63; have hnb64 := NB492_477.out; have hnc64 := NB477_492.out; have hcz65_0 : w62.cell? ⟨gb492, 0, none⟩ = some (.slice none 0 0) := (blk_cell BK492.out 0).trans rfl; have hcz65_1 : w62.cell? ⟨gb492, 1, none⟩ = some (.slice none 0 0) := (blk_cell BK492.out 1).trans rfl; have hfz65_0 := blk_frozen BK492.out 0; have hfz65_1 := blk_frozen BK492.out 1; obtain ⟨Ao66, co66, eo66⟩ := Kd.R_slice HO491.out; subst eo66) | ((with_reducible refine gate_callee (f := 50) rfl ?_); refine goesL_ (some 18) rfl rfl Try.func50 (by kernel_rfl) rfl #[.agg #[.slice Ao63 t486.length co63, .slice Ao66 t489.length co66]] rfl z1_ ?_; (with_reducible refine (impl_HistOk.calls k _ _ t486 _ _ t489 t493 _ ?side1 ?side2 ?side3 ?side4 A10.out).mono ?_); (case side1 => refine (Kd.R_reads' (e := 55) (base := w.heap.size) (ok := fun k_ => (True ∧ some k_ ≠ (.slice Ao57 t479.length co57 : Value).ownBlock)) (n := t486.length) (c := co63) ?_).2.2; exact z75_); (case side2 => exact z161_); (case side3 => refine (Kd.R_reads' (e := 123) (base := w.heap.size) (ok := fun k_ => (True ∧ some k_ ≠ (.slice Ao58 t482.length co58 : Value).ownBlock)) (n := t489.length) (c := co66) ?_).2.2; exact z76_); (case side4 => exact z162_); rintro e w67 ⟨rfl, hb⟩; refine ⟨_, rfl, ?_⟩; replace HO481 := Aside0.mk (Kd.R_below (by (with_reducible repeat (first | apply Kd.R_alloc | apply Kd.R_drewN | apply Kd.R_drew)); exact (Kd.R_mono (Kd.R_far (p := ⟨gb492, 1, none⟩) (Kd.R_far (p := ⟨gb492, 0, none⟩) (Kd.R_types HO481.out BK492.out (by decide)) (fun _ hk => hk.2) (.slice Ao63 t486.length co63)) (fun _ hk => hk.2) (.slice Ao66 t489.length co66)) (fun _ h_ => h_.1))) hb); replace HO484 := Aside0.mk (Kd.R_below (by (with_reducible repeat (first | apply Kd.R_alloc | apply Kd.R_drewN | apply Kd.R_drew)); exact (Kd.R_mono (Kd.R_far (p := ⟨gb492, 1, none⟩) (Kd.R_far (p := ⟨gb492, 0, none⟩) (Kd.R_types HO484.out BK492.out (by decide)) (fun _ hk => hk.2) (.slice Ao63 t486.length co63)) (fun _ hk => hk.2) (.slice Ao66 t489.length co66)) (fun _ h_ => h_.1))) hb); replace HO488 := Aside0.mk (Kd.R_below z75_ hb); replace HO491 := Aside0.mk (Kd.R_below z76_ hb); replace BK477 := Aside0.mk (blk_below (g := gb477) (o := .cells #[.slice A0_0 l0_0.length c0_0, .slice A0_1 l0_1.length c0_1] 76 (0, 0)) z48_ hb); replace BK492 := Aside0.mk (blk_below (g := gb492) (o := .cells #[.slice Ao63 t486.length co63, .slice Ao66 t489.length co66] 81 (0, 0)) (by (with_reducible repeat (first | refine blk_drewN ?_ _ | refine blk_drew ?_ | refine blk_alloc ?_ _)); refine blk_put (cs := #[.slice Ao63 t486.length co63, .slice none 0 0]) ?_ 1 _ rfl; (with_reducible repeat (first | refine blk_drewN ?_ _ | refine blk_drew ?_ | refine blk_alloc ?_ _)); refine blk_put (cs := #[.slice none 0 0, .slice none 0 0]) ?_ 0 _ rfl; (with_reducible repeat (first | refine blk_drewN ?_ _ | refine blk_drew ?_ | refine blk_alloc ?_ _)); exact BK492.out) hb); replace HB := Aside0.mk (below_step z24_ hb); (try clear hb)))
    have n0_ := Aside0.mk (Kd.R_drew HO481.out)
    have n1_ := Aside0.mk (Kd.R_drew HO484.out)
    have n2_ := Aside0.mk (Kd.R_drew HO488.out)
    have n3_ := Aside0.mk (Kd.R_drew HO491.out)
    have n4_ := Aside0.mk (blk_drew BK477.out)
    have n5_ := Aside0.mk (blk_drew BK492.out)
    have n6_ := Aside0.mk (below_drew1 HB.out)
    clear HO481
    clear HO484
    clear HO488
    clear HO491
    clear BK477
    clear BK492
    clear HB
    have HO481 := n0_
    have HO484 := n1_
    have HO488 := n2_
    have HO491 := n3_
    have BK477 := n4_
    have BK492 := n5_
    have HB := n6_
    clear n0_ n1_ n2_ n3_ n4_ n5_ n6_
    refine start_ (n := 5) (S := fun w' => w'.cell? ⟨gb492, 0, none⟩ = some (.slice Ao63 t486.length co63) ∧ w'.cell? ⟨gb492, 1, none⟩ = some (.slice Ao66 t489.length co66) ∧ w'.cell? ⟨gb477, 0, none⟩ = some (.slice A0_0 l0_0.length c0_0) ∧ w'.cell? ⟨gb477, 1, none⟩ = some (.slice A0_1 l0_1.length c0_1)) (ds := []) (fl_ 5 0) (by kernel_rfl) rfl (fl_zero _) ⟨(blk_cell BK492.out 0).trans rfl, (blk_cell BK492.out 1).trans rfl, (blk_cell BK477.out 0).trans rfl, (blk_cell BK477.out 1).trans rfl⟩ (fun hHeld => ?_)
    generalize w67.drew = w68 at HO481 HO484 HO488 HO491 BK477 BK492 HB hHeld ⊢
    refine take_ (i := 0) (N := some 22) (v := ?_) (a' := ?_) #[true, false, false, false, false] rfl rfl (by kernel_rfl) (fun _ _ _ h => h) (Or.inl ⟨by rfl, ?_⟩) hHeld ?_ ?_
    rotate_left
    ·rintro w' ⟨s0, s1, s2, s3⟩
     go_simp
     with_reducible rfl
    rotate_left
    ·simp only [Act.put, List.setIfInBounds_toArray, List.set_cons_zero, List.set_cons_succ, i64_w, i32_w]
     rfl
    refine take_ (i := 1) (N := some 23) (v := ?_) (a' := ?_) #[true, true, false, false, false] rfl rfl (by kernel_rfl) (fun _ _ _ h => h) (Or.inl ⟨by rfl, ?_⟩) hHeld ?_ ?_
    rotate_left
    ·rintro w' ⟨s0, s1, s2, s3⟩
     go_simp
     with_reducible rfl
    rotate_left
    ·simp only [Act.put, List.setIfInBounds_toArray, List.set_cons_zero, List.set_cons_succ, i64_w, i32_w]
     rfl
    refine one_ (i := 2) (N := some 24) (fl_ 5 3) rfl rfl (by kernel_rfl) (by decide) (fun K hK => ?_)
    refine goes_ Try.func49 (by kernel_rfl) rfl #[.agg #[.slice A0_0 l0_0.length c0_0, .slice A0_1 l0_1.length c0_1]] (by rfl) rfl rfl z1_ ?_
    with_reducible refine (laws_toHist.calls k _ _ l0_0 _ _ l0_1 t494 t497 _ ?side1 ?side2 ?side3 ?side4 A28.out).mono ?_
    (case side1 => exact z12_)
    (case side2 => exact HC0_0.out)
    (case side3 => exact z5_)
    (case side4 => exact HC0_1.out)
    rintro e w69 ⟨v495, v498, rfl, ho0, ho1, hb⟩
    refine ⟨_, rfl, ?_⟩
    have n0_ := Aside0.mk (Kd.R_elder' z30_ (Kd.R_base ho0) hb)
    have n1_ := Aside0.mk (Kd.R_elder' z31_ (Kd.R_base ho1) hb)
    have n2_ := Aside0.mk (Kd.R_elder' z56_ (Kd.R_base ho0) hb)
    have n3_ := Aside0.mk (Kd.R_elder' z57_ (Kd.R_base ho1) hb)
    have n4_ := Aside0.mk (Kd.R_lower (Kd.R_new' (Kd.R_new' ho0 (Kd.R_lt z30_)) (Kd.R_lt z56_)) (below_size z24_))
    have n5_ := Aside0.mk (Kd.R_lower (Kd.R_new' (Kd.R_new' ho1 (Kd.R_lt z31_)) (Kd.R_lt z57_)) (below_size z24_))
    have n6_ := Aside0.mk (blk_below (g := gb477) (o := .cells #[.slice A0_0 l0_0.length c0_0, .slice A0_1 l0_1.length c0_1] 76 (0, 0)) z21_ hb)
    have n7_ := Aside0.mk (blk_below (g := gb492) (o := .cells #[.slice Ao63 t486.length co63, .slice Ao66 t489.length co66] 81 (0, 0)) z100_ hb)
    have n8_ := Aside0.mk (below_step z24_ hb)
    clear HO481
    clear HO484
    clear HO488
    clear HO491
    clear BK477
    clear BK492
    clear HB
    have HO481 := n0_
    have HO484 := n1_
    have HO488 := n2_
    have HO491 := n3_
    have HO496 := n4_
    have HO499 := n5_
    have BK477 := n6_
    have BK492 := n7_
    have HB := n8_
    clear n0_ n1_ n2_ n3_ n4_ n5_ n6_ n7_ n8_
    (try clear hb)
    (try clear hb2)
    (try clear hk)
    (try clear hi)
    (try clear ho0)
    (try clear ho1)
    obtain ⟨Ao70, co70, eo70⟩ := Kd.R_slice HO496.out
    (first | subst eo70 | (injection eo70 with f1_ f2_ f3_; have f4_ := f1_.symm; have f5_ := f3_.symm; clear f1_ f2_ f3_; subst f4_; subst f5_))
    obtain ⟨Ao71, co71, eo71⟩ := Kd.R_slice HO499.out
    (first | subst eo71 | (injection eo71 with f1_ f2_ f3_; have f4_ := f1_.symm; have f5_ := f3_.symm; clear f1_ f2_ f3_; subst f4_; subst f5_))
    refine hK.out _ _ ⟨(blk_cell BK492.out 0).trans rfl, (blk_cell BK492.out 1).trans rfl, (blk_cell BK477.out 0).trans rfl, (blk_cell BK477.out 1).trans rfl⟩ (fun hHeld => ?_)
    clear hK K
    refine zn_ rfl ?_
    refine one_ (i := 3) (N := some 25) (fl_ 5 4) rfl rfl (by kernel_rfl) (by decide) (fun K hK => ?_)
    refine goes_ Try.func51 (by kernel_rfl) rfl #[.agg #[.slice Ao63 t486.length co63, .slice Ao66 t489.length co66], .agg #[.slice Ao70 t494.length co70, .slice Ao71 t497.length co71]] (by rfl) rfl rfl z1_ ?_
    with_reducible refine (laws_eqHist.calls k _ _ t486 _ _ t489 _ _ t494 _ _ t497 false _ ?side1 ?side2 ?side3 ?side4 ?side5 ?side6 ?side7 ?side8 A29.out).mono ?_
    (case side1 => exact z122_)
    (case side2 => exact z161_)
    (case side3 => exact z123_)
    (case side4 => exact z162_)
    (case side5 => exact z124_)
    (case side6 => exact (Kd.R_reads' HO496.out).2.1)
    (case side7 => exact z125_)
    (case side8 => exact (Kd.R_reads' HO499.out).2.1)
    rintro e w72 ⟨rfl, hb⟩
    refine ⟨_, rfl, ?_⟩
    have n0_ := Aside0.mk (Kd.R_below z30_ hb)
    have n1_ := Aside0.mk (Kd.R_below z31_ hb)
    have n2_ := Aside0.mk (Kd.R_below z56_ hb)
    have n3_ := Aside0.mk (Kd.R_below z57_ hb)
    have n4_ := Aside0.mk (Kd.R_below z156_ hb)
    have n5_ := Aside0.mk (Kd.R_below z157_ hb)
    have n6_ := Aside0.mk (blk_below (g := gb477) (o := .cells #[.slice A0_0 l0_0.length c0_0, .slice A0_1 l0_1.length c0_1] 76 (0, 0)) z21_ hb)
    have n7_ := Aside0.mk (blk_below (g := gb492) (o := .cells #[.slice Ao63 t486.length co63, .slice Ao66 t489.length co66] 81 (0, 0)) z100_ hb)
    have n8_ := Aside0.mk (below_step z24_ hb)
    clear HO481
    clear HO484
    clear HO488
    clear HO491
    clear HO496
    clear HO499
    clear BK477
    clear BK492
    clear HB
    have HO481 := n0_
    have HO484 := n1_
    have HO488 := n2_
    have HO491 := n3_
    have HO496 := n4_
    have HO499 := n5_
    have BK477 := n6_
    have BK492 := n7_
    have HB := n8_
    clear n0_ n1_ n2_ n3_ n4_ n5_ n6_ n7_ n8_
    (try clear hb)
    (try clear hb2)
    (try clear hk)
    (try clear hi)
    refine hK.out _ _ ⟨(blk_cell BK492.out 0).trans rfl, (blk_cell BK492.out 1).trans rfl, (blk_cell BK477.out 0).trans rfl, (blk_cell BK477.out 1).trans rfl⟩ (fun hHeld => ?_)
    clear hK K
    refine zn_ rfl ?_
    refine pure_ (i := 4) (N := some 26) (v := ?_) (a' := ?_) #[true, true, true, true, true] rfl rfl (by kernel_rfl) (fun _ _ _ h => h) (Or.inl ⟨by rfl, ?_⟩) ?_ ?_
    rotate_left
    ·intro w'
     go_simp
     with_reducible rfl
    rotate_left
    ·simp only [Act.put, List.setIfInBounds_toArray, List.set_cons_zero, List.set_cons_succ, i64_w, i32_w]
     rfl
    refine done_ (by kernel_rfl) ?_
    try go_wp2
    go_ret
    exact ⟨z3_, z24_⟩

end Go.Proofs.Ytmbhlfcpdbbogab.PFnExactHistOk
