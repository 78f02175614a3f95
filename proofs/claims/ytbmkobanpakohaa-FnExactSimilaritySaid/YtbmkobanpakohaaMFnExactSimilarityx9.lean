/- Laid by a program of this session out of the kit's print for the law FnExactSimilarity: what it says of the machine is proved here, function by function; each contract under the conditions that it names. -/
import Derived.Test.YtbmkobanpakohaaMFnExactSimilarityx0
import Derived.Test.YtbmkobanpakohaaMFnExactSimilarityx1
import Derived.Test.YtbmkobanpakohaaMFnExactSimilarityx3
import Derived.Test.YtbmkobanpakohaaMFnExactSimilarityx8
namespace Go.Proofs.Ytbmkobanpakohaa.PFnExactSimilarity
open Go.RowKit Go.Proofs.YtbmkobanpakohaaW.PrintWords Go.Proofs.YtbmkobanpakohaaW.PrintLast Go.Proofs.YtbmkobanpakohaaW.PrintMore
attribute [local go_sem] max2_int min2_int max_two min_two max_three min_three max_four min_four   -- for this text's walks alone
set_option linter.unusedVariables false
set_option linter.unusedSimpArgs false

/-! ### spec_RelCost: function 63 -/
def spec_RelCost.f (k : Nat) (l0_0 : List Int) (l0_1 : List Int) (l0_2 : List Int) (a1 : Int) (a2 : Int) : Option (Int) := (spec_CostOk.f k l0_0 l0_1 l0_2).bind fun t297 => (if t297 = true then ((spec_LabelOk.f a1).bind fun t298 => (if t298 = true then ((spec_LabelOk.f a2).bind fun t299 => (if t299 = true then (if 0 ≤ (wrap64 ((wrap64 (a1 * 6)) + a2)) then (if (wrap64 ((wrap64 (a1 * 6)) + a2)) < (l0_2.length : Int) then (some (rd l0_2 (wrap64 ((wrap64 (a1 * 6)) + a2)))) else (none)) else (none)) else (some 0))) else (some 0))) else (some 0))
set_option maxHeartbeats 8000000 in
set_option maxRecDepth 100000 in
theorem spec_RelCost.calls (k : Nat) (A0_0 : Option Addr) (c0_0 : Nat) (l0_0 : List Int) (A0_1 : Option Addr) (c0_1 : Nat) (l0_1 : List Int) (A0_2 : Option Addr) (c0_2 : Nat) (l0_2 : List Int) (a1 : Int) (a2 : Int) (r : Int) (w : World) (hr0_0 : Kd.C (Kd.int .i64) w A0_0 l0_0.length l0_0) (hc0_0 : l0_0.length ≤ c0_0) (hr0_1 : Kd.C (Kd.int .i64) w A0_1 l0_1.length l0_1) (hc0_1 : l0_1.length ≤ c0_1) (hr0_2 : Kd.C (Kd.int .i64) w A0_2 l0_2.length l0_2) (hc0_2 : l0_2.length ≤ c0_2) (h : spec_RelCost.f k l0_0 l0_1 l0_2 a1 a2 = some r) :
  Calls Try.prog 63 #[.agg #[.slice A0_0 l0_0.length c0_0, .slice A0_1 l0_1.length c0_1, .slice A0_2 l0_2.length c0_2], .int .i64 a1, .int .i64 a2] w fun e w' => e = .returned (.int .i64 r) ∧ Below w.heap.size w w' := by
 have hu38 := Try.underlying38
 have HR0_0 := Aside0.mk hr0_0
 have HC0_0 := Aside0.mk hc0_0
 clear hr0_0 hc0_0
 have HR0_1 := Aside0.mk hr0_1
 have HC0_1 := Aside0.mk hc0_1
 clear hr0_1 hc0_1
 have HR0_2 := Aside0.mk hr0_2
 have HC0_2 := Aside0.mk hc0_2
 clear hr0_2 hc0_2
 have HB := Aside0.mk (Below.refl w.heap.size w)
 have H : ((spec_CostOk.f k l0_0 l0_1 l0_2).bind fun t297 => (if t297 = true then ((spec_LabelOk.f a1).bind fun t298 => (if t298 = true then ((spec_LabelOk.f a2).bind fun t299 => (if t299 = true then (if 0 ≤ (wrap64 ((wrap64 (a1 * 6)) + a2)) then (if (wrap64 ((wrap64 (a1 * 6)) + a2)) < (l0_2.length : Int) then (some (rd l0_2 (wrap64 ((wrap64 (a1 * 6)) + a2)))) else (none)) else (none)) else (some 0))) else (some 0))) else (some 0))) = some r := h
 clear h
 obtain ⟨t297, A4, H⟩ := bnd_ H
 by_cases c5 : t297 = true
 ·subst c5
  replace H := ift_ H
  obtain ⟨t298, A6, H⟩ := bnd_ H
  by_cases c7 : t298 = true
  ·subst c7
   replace H := ift_ H
   obtain ⟨t299, A8, H⟩ := bnd_ H
   by_cases c9 : t299 = true
   ·subst c9
    replace H := ift_ H
    obtain ⟨ji10, hji10⟩ : ∃ j_ : Int, (wrap64 ((wrap64 (a1 * 6)) + a2)) = j_ := ⟨_, rfl⟩
    first | rw [hji10] at H | simp only [hji10] at H
    (try rw [hji10] at A4)
    (try rw [hji10] at A6)
    (try rw [hji10] at A8)
    have hji10w : (IntKind.i64.wrap ((wrap64 (a1 * 6)) + a2)) = ji10 := (i64_w _).trans hji10
    obtain ⟨c11b0, H⟩ := ifd_ H
    obtain ⟨c12b0, H⟩ := ifd_ H
    obtain rfl := Option.some.inj H
    go_enter Try.func63, Try.ntmps63
    go_wp2_with (first | ((with_reducible refine gate_dst (N := 3) rfl ?_); refine box_event ?hg (N := 3) ?hd (cs := #[.slice A0_0 l0_0.length c0_0, .slice A0_1 l0_1.length c0_1, .slice A0_2 l0_2.length c0_2]) (t := 38) ?hr ?_; (case hd => rfl); (case hg => rfl); (case hr => exact z14_); intro gb296 hg w13 hbox hb; have BK296 := Aside0.mk (hbox); have GW296 := Aside0.mk ((by rw [hg]; exact (below_size z0_) : w.heap.size ≤ gb296)); have GE296 := Aside0.mk ((by rw [hg]; exact (below_size z0_) : w.heap.size ≤ gb296)); replace HB := Aside0.mk (below_step z0_ hb); clear hb hbox hg; obtain ⟨hcz14_0, hcz14_1, hcz14_2, hfz14_0, hfz14_1, hfz14_2⟩ := bx3_ BK296.out) | ((with_reducible refine gate_callee (f := 79) rfl ?_); refine goesL_ (some 8) rfl rfl Try.func79 (by kernel_rfl) rfl #[.agg #[.slice A0_0 l0_0.length c0_0, .slice A0_1 l0_1.length c0_1, .slice A0_2 l0_2.length c0_2]] rfl z1_ ?_; (with_reducible refine (spec_CostOk.calls k _ _ l0_0 _ _ l0_1 _ _ l0_2 true _ ?side1 ?side2 ?side3 ?side4 ?side5 ?side6 A4.out).mono ?_); (case side1 => exact z29_); (case side2 => exact HC0_0.out); (case side3 => exact z64_); (case side4 => exact HC0_1.out); (case side5 => exact z65_); (case side6 => exact HC0_2.out); rintro e w15 ⟨rfl, hb⟩; refine ⟨_, rfl, ?_⟩; replace BK296 := Aside0.mk (blk_below (g := gb296) (o := .cells #[.slice A0_0 l0_0.length c0_0, .slice A0_1 l0_1.length c0_1, .slice A0_2 l0_2.length c0_2] 38 (0, 0)) z162_ hb); replace HB := Aside0.mk (below_step z72_ hb); (try clear hb)) | (go_at_call 54; (with_reducible refine (spec_LabelOk.calls a1 true _ A6.out).mono ?_); rintro e w' ⟨rfl, ⟨nd, rfl⟩⟩) | (go_at_call 54; (with_reducible refine (spec_LabelOk.calls a2 true _ A8.out).mono ?_); rintro e w' ⟨rfl, ⟨nd, rfl⟩⟩; obtain ⟨hcz16_0, hcz16_1, hcz16_2, hfz16_0, hfz16_1, hfz16_2⟩ := bx3_ BK296.out; have p300 : 0 ≤ ((ji10) : Int) := odt_; have q300 : (ji10) < (l0_2.length : Int) := odt_; obtain ⟨ad300, e300, hx300_0⟩ := Kd.at_int HR0_2.out (ji10) p300 q300; cases e300; replace hx300_0 := (HB.out.cell (World.block_lt_of_cell? w _ hx300_0)).trans hx300_0; replace p300 := eq_true p300; replace q300 := eq_true q300))
    go_ret
    exact ⟨z201_, z72_⟩
   ·replace c9 := Bool.eq_false_iff.mpr c9
    subst c9
    replace H := iff_ H
    obtain rfl := Option.some.inj H
    go_enter Try.func63, Try.ntmps63
    go_wp2_with (first | ((with_reducible refine gate_dst (N := 3) rfl ?_); refine box_event ?hg (N := 3) ?hd (cs := #[.slice A0_0 l0_0.length c0_0, .slice A0_1 l0_1.length c0_1, .slice A0_2 l0_2.length c0_2]) (t := 38) ?hr ?_; (case hd => rfl); (case hg => rfl); (case hr => exact z14_); intro gb296 hg w17 hbox hb; have BK296 := Aside0.mk (hbox); have GW296 := Aside0.mk ((by rw [hg]; exact (below_size z0_) : w.heap.size ≤ gb296)); have GE296 := Aside0.mk ((by rw [hg]; exact (below_size z0_) : w.heap.size ≤ gb296)); replace HB := Aside0.mk (below_step z0_ hb); clear hb hbox hg; obtain ⟨hcz18_0, hcz18_1, hcz18_2, hfz18_0, hfz18_1, hfz18_2⟩ := bx3_ BK296.out) | ((with_reducible refine gate_callee (f := 79) rfl ?_); refine goesL_ (some 8) rfl rfl Try.func79 (by kernel_rfl) rfl #[.agg #[.slice A0_0 l0_0.length c0_0, .slice A0_1 l0_1.length c0_1, .slice A0_2 l0_2.length c0_2]] rfl z1_ ?_; (with_reducible refine (spec_CostOk.calls k _ _ l0_0 _ _ l0_1 _ _ l0_2 true _ ?side1 ?side2 ?side3 ?side4 ?side5 ?side6 A4.out).mono ?_); (case side1 => exact z29_); (case side2 => exact HC0_0.out); (case side3 => exact z64_); (case side4 => exact HC0_1.out); (case side5 => exact z65_); (case side6 => exact HC0_2.out); rintro e w19 ⟨rfl, hb⟩; refine ⟨_, rfl, ?_⟩; replace BK296 := Aside0.mk (blk_below (g := gb296) (o := .cells #[.slice A0_0 l0_0.length c0_0, .slice A0_1 l0_1.length c0_1, .slice A0_2 l0_2.length c0_2] 38 (0, 0)) z162_ hb); replace HB := Aside0.mk (below_step z72_ hb); (try clear hb)) | (go_at_call 54; (with_reducible refine (spec_LabelOk.calls a1 true _ A6.out).mono ?_); rintro e w' ⟨rfl, ⟨nd, rfl⟩⟩) | (go_at_call 54; (with_reducible refine (spec_LabelOk.calls a2 false _ A8.out).mono ?_); rintro e w' ⟨rfl, ⟨nd, rfl⟩⟩))
    go_ret
    exact ⟨z5_, z72_⟩
  ·replace c7 := Bool.eq_false_iff.mpr c7
   subst c7
   replace H := iff_ H
   obtain rfl := Option.some.inj H
   go_enter Try.func63, Try.ntmps63
   go_wp2_with (first | ((with_reducible refine gate_dst (N := 3) rfl ?_); refine box_event ?hg (N := 3) ?hd (cs := #[.slice A0_0 l0_0.length c0_0, .slice A0_1 l0_1.length c0_1, .slice A0_2 l0_2.length c0_2]) (t := 38) ?hr ?_; (case hd => rfl); (case hg => rfl); (case hr => exact z14_); intro gb296 hg w20 hbox hb; have BK296 := Aside0.mk (hbox); have GW296 := Aside0.mk ((by rw [hg]; exact (below_size z0_) : w.heap.size ≤ gb296)); have GE296 := Aside0.mk ((by rw [hg]; exact (below_size z0_) : w.heap.size ≤ gb296)); replace HB := Aside0.mk (below_step z0_ hb); clear hb hbox hg; obtain ⟨hcz21_0, hcz21_1, hcz21_2, hfz21_0, hfz21_1, hfz21_2⟩ := bx3_ BK296.out) | ((with_reducible refine gate_callee (f := 79) rfl ?_); refine goesL_ (some 8) rfl rfl Try.func79 (by kernel_rfl) rfl #[.agg #[.slice A0_0 l0_0.length c0_0, .slice A0_1 l0_1.length c0_1, .slice A0_2 l0_2.length c0_2]] rfl z1_ ?_; (with_reducible refine (spec_CostOk.calls k _ _ l0_0 _ _ l0_1 _ _ l0_2 true _ ?side1 ?side2 ?side3 ?side4 ?side5 ?side6 A4.out).mono ?_); (case side1 => exact z29_); (case side2 => exact HC0_0.out); (case side3 => exact z64_); (case side4 => exact HC0_1.out); (case side5 => exact z65_); (case side6 => exact HC0_2.out); rintro e w22 ⟨rfl, hb⟩; refine ⟨_, rfl, ?_⟩; replace BK296 := Aside0.mk (blk_below (g := gb296) (o := .cells #[.slice A0_0 l0_0.length c0_0, .slice A0_1 l0_1.length c0_1, .slice A0_2 l0_2.length c0_2] 38 (0, 0)) z162_ hb); replace HB := Aside0.mk (below_step z72_ hb); (try clear hb)) | (go_at_call 54; (with_reducible refine (spec_LabelOk.calls a1 false _ A6.out).mono ?_); rintro e w' ⟨rfl, ⟨nd, rfl⟩⟩))
   go_ret
   exact ⟨z5_, z72_⟩
 ·replace c5 := Bool.eq_false_iff.mpr c5
  subst c5
  replace H := iff_ H
  obtain rfl := Option.some.inj H
  go_enter Try.func63, Try.ntmps63
  go_wp2_with (first | ((with_reducible refine gate_dst (N := 3) rfl ?_); refine box_event ?hg (N := 3) ?hd (cs := #[.slice A0_0 l0_0.length c0_0, .slice A0_1 l0_1.length c0_1, .slice A0_2 l0_2.length c0_2]) (t := 38) ?hr ?_; (case hd => rfl); (case hg => rfl); (case hr => exact z14_); intro gb296 hg w23 hbox hb; have BK296 := Aside0.mk (hbox); have GW296 := Aside0.mk ((by rw [hg]; exact (below_size z0_) : w.heap.size ≤ gb296)); have GE296 := Aside0.mk ((by rw [hg]; exact (below_size z0_) : w.heap.size ≤ gb296)); replace HB := Aside0.mk (below_step z0_ hb); clear hb hbox hg; obtain ⟨hcz24_0, hcz24_1, hcz24_2, hfz24_0, hfz24_1, hfz24_2⟩ := bx3_ BK296.out) | ((with_reducible refine gate_callee (f := 79) rfl ?_); refine goesL_ (some 8) rfl rfl Try.func79 (by kernel_rfl) rfl #[.agg #[.slice A0_0 l0_0.length c0_0, .slice A0_1 l0_1.length c0_1, .slice A0_2 l0_2.length c0_2]] rfl z1_ ?_; (with_reducible refine (spec_CostOk.calls k _ _ l0_0 _ _ l0_1 _ _ l0_2 false _ ?side1 ?side2 ?side3 ?side4 ?side5 ?side6 A4.out).mono ?_); (case side1 => exact z29_); (case side2 => exact HC0_0.out); (case side3 => exact z64_); (case side4 => exact HC0_1.out); (case side5 => exact z65_); (case side6 => exact HC0_2.out); rintro e w25 ⟨rfl, hb⟩; refine ⟨_, rfl, ?_⟩; replace BK296 := Aside0.mk (blk_below (g := gb296) (o := .cells #[.slice A0_0 l0_0.length c0_0, .slice A0_1 l0_1.length c0_1, .slice A0_2 l0_2.length c0_2] 38 (0, 0)) z162_ hb); replace HB := Aside0.mk (below_step z72_ hb); (try clear hb)))
  go_ret
  exact ⟨z5_, z72_⟩

/-! ### spec_RootDist: function 37 -/
def spec_RootDist.f (k : Nat) (l0 : List (S61)) (l1 : List (S61)) (l2_0 : List Int) (l2_1 : List Int) (l2_2 : List Int) : Option (Int) := (spec_l8Three.f k l0 l1 l2_0 l2_1 l2_2).bind fun t302 => (if t302 = true then ((spec_l8All.f k l0 l1 l2_0 l2_1 l2_2).bind fun bt303 => (if 0 ≤ (wrap64 ((wrap64 ((wrap64 ((wrap64 ((l0.length : Int) - 1)) * (wrap64 ((l1.length : Int) + 1)))) + (l1.length : Int))) - 1)) then (if (wrap64 ((wrap64 ((wrap64 ((wrap64 ((l0.length : Int) - 1)) * (wrap64 ((l1.length : Int) + 1)))) + (l1.length : Int))) - 1)) < (bt303.2.length : Int) then (if 0 < (l0.length : Int) then (if 0 < (l1.length : Int) then ((spec_RelCost.f k l2_0 l2_1 l2_2 ((rd_T61 l0 0).f0) ((rd_T61 l1 0).f0)).bind fun t312 => (some (wrap64 ((rd bt303.2 (wrap64 ((wrap64 ((wrap64 ((wrap64 ((l0.length : Int) - 1)) * (wrap64 ((l1.length : Int) + 1)))) + (l1.length : Int))) - 1))) + t312)))) else (none)) else (none)) else (none)) else (none))) else (some (-1)))
def spec_RootDist.T5 : Bool × List (List Nat × List Nat) := (true, [([], []), ([], []), ([1], [1]), ([2], [2]), ([], []), ([3, 4], [3, 4]), ([], []), ([6], [6]), ([5, 7], [5, 7]), ([8], [8]), ([0, 9], [0, 9]), ([10], [10]), ([], []), ([], []), ([13], [13]), ([14], [14]), ([15], [15]), ([], []), ([17], [17]), ([18], [18]), ([19], [19]), ([12, 16, 20], [12, 16, 20]), ([11, 21], [11, 21]), ([22, 21, 0, 1, 2, 3, 4, 5, 6, 7, 8, 9, 10, 11, 12, 13, 14, 15, 16, 17, 18, 19, 20, 21, 22], [22])])
def spec_RootDist.B5 : List Nat := [0, 0, 2, 6, 0, 30, 0, 64, 254, 510, 1023, 2047, 0, 0, 8192, 24576, 57344, 0, 131072, 393216, 917504, 2093056, 4194303, 8388607]
theorem spec_RootDist.tab5 : rtab .any (opsOf Try.f37 5) = spec_RootDist.T5 := by kernel_rfl
theorem spec_RootDist.bits5 : waitsOk spec_RootDist.T5.2 spec_RootDist.B5 = true := by kernel_rfl
set_option maxHeartbeats 8000000 in
set_option maxRecDepth 100000 in
theorem spec_RootDist.calls (k : Nat) (A0 : Option Addr) (c0 : Nat) (l0 : List (S61)) (A1 : Option Addr) (c1 : Nat) (l1 : List (S61)) (A2_0 : Option Addr) (c2_0 : Nat) (l2_0 : List Int) (A2_1 : Option Addr) (c2_1 : Nat) (l2_1 : List Int) (A2_2 : Option Addr) (c2_2 : Nat) (l2_2 : List Int) (r : Int) (w : World) (hr0 : Kd.C k61 w A0 l0.length l0) (hc0 : l0.length ≤ c0) (hr1 : Kd.C k61 w A1 l1.length l1) (hc1 : l1.length ≤ c1) (hr2_0 : Kd.C (Kd.int .i64) w A2_0 l2_0.length l2_0) (hc2_0 : l2_0.length ≤ c2_0) (hr2_1 : Kd.C (Kd.int .i64) w A2_1 l2_1.length l2_1) (hc2_1 : l2_1.length ≤ c2_1) (hr2_2 : Kd.C (Kd.int .i64) w A2_2 l2_2.length l2_2) (hc2_2 : l2_2.length ≤ c2_2) (h : spec_RootDist.f k l0 l1 l2_0 l2_1 l2_2 = some r) :
  Calls Try.prog 37 #[.slice A0 l0.length c0, .slice A1 l1.length c1, .agg #[.slice A2_0 l2_0.length c2_0, .slice A2_1 l2_1.length c2_1, .slice A2_2 l2_2.length c2_2]] w fun e w' => e = .returned (.int .i64 r) ∧ Below w.heap.size w w' := by
 have hu38 := Try.underlying38
 have HR0 := Aside0.mk hr0
 have HC0 := Aside0.mk hc0
 clear hr0 hc0
 have HR1 := Aside0.mk hr1
 have HC1 := Aside0.mk hc1
 clear hr1 hc1
 have HR2_0 := Aside0.mk hr2_0
 have HC2_0 := Aside0.mk hc2_0
 clear hr2_0 hc2_0
 have HR2_1 := Aside0.mk hr2_1
 have HC2_1 := Aside0.mk hc2_1
 clear hr2_1 hc2_1
 have HR2_2 := Aside0.mk hr2_2
 have HC2_2 := Aside0.mk hc2_2
 clear hr2_2 hc2_2
 have HB := Aside0.mk (Below.refl w.heap.size w)
 have H : ((spec_l8Three.f k l0 l1 l2_0 l2_1 l2_2).bind fun t302 => (if t302 = true then ((spec_l8All.f k l0 l1 l2_0 l2_1 l2_2).bind fun bt303 => (if 0 ≤ (wrap64 ((wrap64 ((wrap64 ((wrap64 ((l0.length : Int) - 1)) * (wrap64 ((l1.length : Int) + 1)))) + (l1.length : Int))) - 1)) then (if (wrap64 ((wrap64 ((wrap64 ((wrap64 ((l0.length : Int) - 1)) * (wrap64 ((l1.length : Int) + 1)))) + (l1.length : Int))) - 1)) < (bt303.2.length : Int) then (if 0 < (l0.length : Int) then (if 0 < (l1.length : Int) then ((spec_RelCost.f k l2_0 l2_1 l2_2 ((rd_T61 l0 0).f0) ((rd_T61 l1 0).f0)).bind fun t312 => (some (wrap64 ((rd bt303.2 (wrap64 ((wrap64 ((wrap64 ((wrap64 ((l0.length : Int) - 1)) * (wrap64 ((l1.length : Int) + 1)))) + (l1.length : Int))) - 1))) + t312)))) else (none)) else (none)) else (none)) else (none))) else (some (-1)))) = some r := h
 clear h
 obtain ⟨t302, A4, H⟩ := bnd_ H
 by_cases c5 : t302 = true
 ·subst c5
  replace H := ift_ H
  replace H := Option.bind_eq_some_iff.mp H
  obtain ⟨⟨t303, t306⟩, A60, H⟩ := H
  try dsimp only at H
  have A6 := Aside0.mk A60
  clear A60
  obtain ⟨ji7, hji7⟩ : ∃ j_ : Int, (wrap64 ((wrap64 ((wrap64 ((wrap64 ((l0.length : Int) - 1)) * (wrap64 ((l1.length : Int) + 1)))) + (l1.length : Int))) - 1)) = j_ := ⟨_, rfl⟩
  first | rw [hji7] at H | simp only [hji7] at H
  (try rw [hji7] at A4)
  (try rw [hji7] at A6)
  have hji7w : (IntKind.i64.wrap ((wrap64 ((wrap64 ((wrap64 ((l0.length : Int) - 1)) * (wrap64 ((l1.length : Int) + 1)))) + (l1.length : Int))) - 1)) = ji7 := (i64_w _).trans hji7
  obtain ⟨c8b0, H⟩ := ifd_ H
  obtain ⟨c9b0, H⟩ := ifd_ H
  obtain ⟨c10, H⟩ := ifs_ H
  have c10b0 := decide_eq_true c10
  have c10b1 : decide (0 < l0.length) = true := decide_eq_true (by omega)
  clear c10
  obtain ⟨c11, H⟩ := ifs_ H
  have c11b0 := decide_eq_true c11
  have c11b1 : decide (0 < l1.length) = true := decide_eq_true (by omega)
  clear c11
  obtain ⟨t312, A12, H⟩ := bnd_ H
  obtain rfl := Option.some.inj H
  go_enter Try.func37, Try.ntmps37
  try go_wp2_with (first | ((with_reducible refine gate_dst (N := 5) rfl ?_); refine box_event ?hg (N := 5) ?hd (cs := #[.slice A2_0 l2_0.length c2_0, .slice A2_1 l2_1.length c2_1, .slice A2_2 l2_2.length c2_2]) (t := 38) ?hr ?_; (case hd => rfl); (case hg => rfl); (case hr => exact z14_); intro gb301 hg w13 hbox hb; have BK301 := Aside0.mk (hbox); have GW301 := Aside0.mk ((by rw [hg]; exact (below_size z0_) : w.heap.size ≤ gb301)); have GE301 := Aside0.mk ((by rw [hg]; exact (below_size z0_) : w.heap.size ≤ gb301)); replace HB := Aside0.mk (below_step z0_ hb); clear hb hbox hg; obtain ⟨hcz14_0, hcz14_1, hcz14_2, hfz14_0, hfz14_1, hfz14_2⟩ := bx3_ BK301.out) | ((with_reducible refine gate_callee (f := 61) rfl ?_); refine goesL_ (some 13) rfl rfl Try.func61 (by kernel_rfl) rfl #[.slice A0 l0.length c0, .slice A1 l1.length c1, .agg #[.slice A2_0 l2_0.length c2_0, .slice A2_1 l2_1.length c2_1, .slice A2_2 l2_2.length c2_2]] rfl z1_ ?_; (with_reducible refine (spec_l8Three.calls k _ _ l0 _ _ l1 _ _ l2_0 _ _ l2_1 _ _ l2_2 true _ ?side1 ?side2 ?side3 ?side4 ?side5 ?side6 ?side7 ?side8 ?side9 ?side10 A4.out).mono ?_); (case side1 => exact z3_); (case side2 => exact HC0.out); (case side3 => exact z8_); (case side4 => exact HC1.out); (case side5 => exact z50_); (case side6 => exact HC2_0.out); (case side7 => exact z51_); (case side8 => exact HC2_1.out); (case side9 => exact z52_); (case side10 => exact HC2_2.out); rintro e w15 ⟨rfl, hb⟩; refine ⟨_, rfl, ?_⟩; replace BK301 := Aside0.mk (blk_below (g := gb301) (o := .cells #[.slice A2_0 l2_0.length c2_0, .slice A2_1 l2_1.length c2_1, .slice A2_2 l2_2.length c2_2] 38 (0, 0)) z163_ hb); replace HB := Aside0.mk (below_step z73_ hb); (try clear hb); obtain ⟨hcz16_0, hcz16_1, hcz16_2, hfz16_0, hfz16_1, hfz16_2⟩ := bx3_ BK301.out) | ((with_reducible refine gate_callee (f := 62) rfl ?_); refine goesL_ (some 19) rfl rfl Try.func62 (by kernel_rfl) rfl #[.slice A0 l0.length c0, .slice A1 l1.length c1, .agg #[.slice A2_0 l2_0.length c2_0, .slice A2_1 l2_1.length c2_1, .slice A2_2 l2_2.length c2_2]] rfl z1_ ?_; (with_reducible refine (spec_l8All.calls k _ _ l0 _ _ l1 _ _ l2_0 _ _ l2_1 _ _ l2_2 t303 t306 _ ?side1 ?side2 ?side3 ?side4 ?side5 ?side6 ?side7 ?side8 ?side9 ?side10 A6.out).mono ?_); (case side1 => exact z3_); (case side2 => exact HC0.out); (case side3 => exact z8_); (case side4 => exact HC1.out); (case side5 => exact z50_); (case side6 => exact HC2_0.out); (case side7 => exact z51_); (case side8 => exact HC2_1.out); (case side9 => exact z52_); (case side10 => exact HC2_2.out); rintro e w17 ⟨v304, v307, rfl, ho0, ho1, hb⟩; refine ⟨_, rfl, ?_⟩; have HO305 := Aside0.mk (Kd.R_lower ho0 (below_size z73_)); have HO308 := Aside0.mk (Kd.R_lower ho1 (below_size z73_)); replace BK301 := Aside0.mk (blk_below (g := gb301) (o := .cells #[.slice A2_0 l2_0.length c2_0, .slice A2_1 l2_1.length c2_1, .slice A2_2 l2_2.length c2_2] 38 (0, 0)) z163_ hb); replace HB := Aside0.mk (below_step z73_ hb); (try clear hb ho0 ho1)))
  have n0_ := Aside0.mk (Kd.R_drew HO305.out)
  have n1_ := Aside0.mk (Kd.R_drew HO308.out)
  have n2_ := Aside0.mk (blk_drew BK301.out)
  have n3_ := Aside0.mk (below_drew1 HB.out)
  clear HO305
  clear HO308
  clear BK301
  clear HB
  have HO305 := n0_
  have HO308 := n1_
  have BK301 := n2_
  have HB := n3_
  clear n0_ n1_ n2_ n3_
  obtain ⟨Ao19, co19, eo19⟩ := Kd.R_slice HO308.out
  (first | subst eo19 | (injection eo19 with f1_ f2_ f3_; have f4_ := f1_.symm; have f5_ := f3_.symm; clear f1_ f2_ f3_; subst f4_; subst f5_))
  have p309 : 0 ≤ ((ji7) : Int) := odt_
  have q309 : (ji7) < (t306.length : Int) := odt_
  obtain ⟨ad309, e309, hx309_0⟩ := Kd.at_int (Kd.R_reads' HO308.out).2.2 (ji7) p309 q309
  cases e309
  replace p309 := eq_true p309
  replace q309 := eq_true q309
  have p310 : 0 ≤ (0 : Int) := (by omega)
  have q310 : 0 < (l0.length : Int) := odt_
  obtain ⟨ad310, e310, hx310_0, hx310_1⟩ := at_T61 HR0.out 0 p310 q310
  have hw310_1 := hx310_1
  (try rw [show ((0 : Int)).toNat = 0 from rfl] at hw310_1)
  (try rw [show 0 * 2 = 0 from rfl] at hw310_1)
  (try rw [Addr.add_zero'] at hw310_1)
  have hw310_0 := hx310_0
  (try rw [show ((0 : Int)).toNat = 0 from rfl] at hw310_0)
  (try rw [show 0 * 2 = 0 from rfl] at hw310_0)
  (try rw [Addr.add_zero'] at hw310_0)
  cases e310
  have qi310 : (0 < l0.length) = True := eq_true (by omega)
  (try rw [show ((0 : Int)).toNat = 0 from rfl] at hx310_0)
  (try rw [show 0 * 2 = 0 from rfl] at hx310_0)
  (try rw [Addr.add_zero'] at hx310_0)
  (try rw [show ((0 : Int)).toNat = 0 from rfl] at hx310_1)
  (try rw [show 0 * 2 = 0 from rfl] at hx310_1)
  (try rw [Addr.add_zero'] at hx310_1)
  replace hx310_0 := (HB.out.cell (World.block_lt_of_cell? w _ hx310_0)).trans hx310_0
  replace hx310_1 := (HB.out.cell (World.block_lt_of_cell? w _ hx310_1)).trans hx310_1
  replace p310 := eq_true p310
  replace q310 := eq_true q310
  have p311 : 0 ≤ (0 : Int) := (by omega)
  have q311 : 0 < (l1.length : Int) := odt_
  obtain ⟨ad311, e311, hx311_0, hx311_1⟩ := at_T61 HR1.out 0 p311 q311
  have hw311_1 := hx311_1
  (try rw [show ((0 : Int)).toNat = 0 from rfl] at hw311_1)
  (try rw [show 0 * 2 = 0 from rfl] at hw311_1)
  (try rw [Addr.add_zero'] at hw311_1)
  have hw311_0 := hx311_0
  (try rw [show ((0 : Int)).toNat = 0 from rfl] at hw311_0)
  (try rw [show 0 * 2 = 0 from rfl] at hw311_0)
  (try rw [Addr.add_zero'] at hw311_0)
  cases e311
  have qi311 : (0 < l1.length) = True := eq_true (by omega)
  (try rw [show ((0 : Int)).toNat = 0 from rfl] at hx311_0)
  (try rw [show 0 * 2 = 0 from rfl] at hx311_0)
  (try rw [Addr.add_zero'] at hx311_0)
  (try rw [show ((0 : Int)).toNat = 0 from rfl] at hx311_1)
  (try rw [show 0 * 2 = 0 from rfl] at hx311_1)
  (try rw [Addr.add_zero'] at hx311_1)
  replace hx311_0 := (HB.out.cell (World.block_lt_of_cell? w _ hx311_0)).trans hx311_0
  replace hx311_1 := (HB.out.cell (World.block_lt_of_cell? w _ hx311_1)).trans hx311_1
  replace p311 := eq_true p311
  replace q311 := eq_true q311
  refine start_ (n := 24) (S := fun w' => w'.cell? ⟨gb301, 0, none⟩ = some (.slice A2_0 l2_0.length c2_0) ∧ w'.cell? ⟨gb301, 1, none⟩ = some (.slice A2_1 l2_1.length c2_1) ∧ w'.cell? ⟨gb301, 2, none⟩ = some (.slice A2_2 l2_2.length c2_2) ∧ w'.cell? (ad309.add ((ji7)).toNat) = some (.int .i64 (rd t306 (ji7))) ∧ w'.cell? ad310 = some (.int .i64 ((rd_T61 l0 0).f0)) ∧ w'.cell? ⟨ad310.block, ad310.off + 1, none⟩ = some (.int .i64 ((rd_T61 l0 0).f1)) ∧ w'.cell? ad311 = some (.int .i64 ((rd_T61 l1 0).f0)) ∧ w'.cell? ⟨ad311.block, ad311.off + 1, none⟩ = some (.int .i64 ((rd_T61 l1 0).f1))) (ds := []) (fl_ 24 0) (by kernel_rfl) rfl (fl_zero _) ⟨(blk_cell BK301.out 0).trans rfl, (blk_cell BK301.out 1).trans rfl, (blk_cell BK301.out 2).trans rfl, hx309_0, ((HB.out.cell (World.block_lt_of_cell? w _ hw310_0)).trans hw310_0), ((HB.out.cell (World.block_lt_of_cell? w _ hw310_1)).trans hw310_1), ((HB.out.cell (World.block_lt_of_cell? w _ hw311_0)).trans hw311_0), ((HB.out.cell (World.block_lt_of_cell? w _ hw311_1)).trans hw311_1)⟩ (fun hHeld => ?_); refine with_tabW spec_RootDist.tab5 spec_RootDist.bits5 (fun HT_ HW_ => ?_)
  generalize w17.drew = w18 at HO305 HO308 BK301 HB hx309_0 hx310_0 hx310_1 hx311_0 hx311_1 hHeld ⊢
  iterate 11 refine zp_ HT_ rfl rfl (by kernel_rfl) (fun _ _ _ h => h) (by rfl) ?_
  refine zpg_ (i := 13) (ra_ [11, 2, 1, 10]) HT_ rfl rfl (by kernel_rfl) (fun _ _ _ h => h) (by rfl) ?_
  refine zpg_ (i := 14) (ra_ [11, 2, 2, 9]) HT_ rfl rfl (by kernel_rfl) (fun _ _ _ h => h) (by rfl) ?_
  refine zpg_ (i := 15) (ra_ [11, 2, 3, 8]) HT_ rfl rfl (by kernel_rfl) (fun _ _ _ h => h) (by rfl) ?_
  refine zpg_ (i := 17) (ra_ [11, 2, 3, 1, 1, 6]) HT_ rfl rfl (by kernel_rfl) (fun _ _ _ h => h) (by rfl) ?_
  refine zpg_ (i := 18) (ra_ [11, 2, 3, 1, 2, 5]) HT_ rfl rfl (by kernel_rfl) (fun _ _ _ h => h) (by rfl) ?_
  refine zpg_ (i := 19) (ra_ [11, 2, 3, 1, 3, 4]) HT_ rfl rfl (by kernel_rfl) (fun _ _ _ h => h) (by rfl) ?_
  refine ztg_ (i := 11) (ra_ [12, 1, 3, 1, 3, 4]) HT_ HW_ rfl rfl (by kernel_rfl) (fun _ _ _ h => h) (by rfl) hHeld ?_ z133_
  refine ztg_ (i := 12) (ra_ [16, 1, 3, 4]) HT_ HW_ rfl rfl (by kernel_rfl) (fun _ _ _ h => h) (by rfl) hHeld ?_ z133_
  refine ztg_ (i := 16) (fl_ 24 20) HT_ HW_ rfl rfl (by kernel_rfl) (fun _ _ _ h => h) (by rfl) hHeld ?_ z133_
  refine zt_ HT_ HW_ rfl rfl (by kernel_rfl) (fun _ _ _ h => h) (by rfl) hHeld ?_ z133_
  refine one_ (i := 21) (N := some 46) (fl_ 24 22) rfl rfl (one_of HT_.out (by kernel_rfl)) (by decide) (fun K hK => ?_)
  refine goes_ Try.func63 (by kernel_rfl) rfl #[.agg #[.slice A2_0 l2_0.length c2_0, .slice A2_1 l2_1.length c2_1, .slice A2_2 l2_2.length c2_2], .int .i64 ((rd_T61 l0 0).f0), .int .i64 ((rd_T61 l1 0).f0)] (by rfl) rfl rfl z1_ ?_
  with_reducible refine (spec_RelCost.calls k _ _ l2_0 _ _ l2_1 _ _ l2_2 ((rd_T61 l0 0).f0) ((rd_T61 l1 0).f0) t312 _ ?side1 ?side2 ?side3 ?side4 ?side5 ?side6 A12.out).mono ?_
  (case side1 => exact z50_)
  (case side2 => exact HC2_0.out)
  (case side3 => exact z51_)
  (case side4 => exact HC2_1.out)
  (case side5 => exact z52_)
  (case side6 => exact HC2_2.out)
  rintro e w20 ⟨rfl, hb⟩
  have HS3_ := (hb.cell (World.block_lt_of_cell? _ _ (hHeld.2.2.2.1))).trans (hHeld.2.2.2.1)
  refine ⟨_, rfl, ?_⟩
  have n0_ := Aside0.mk (Kd.R_below (by (with_reducible repeat (first | apply Kd.R_alloc | apply Kd.R_drewN | apply Kd.R_drew)); exact HO305.out) hb)
  have n1_ := Aside0.mk (Kd.R_below (by (with_reducible repeat (first | apply Kd.R_alloc | apply Kd.R_drewN | apply Kd.R_drew)); exact HO308.out) hb)
  have n2_ := Aside0.mk (blk_below (g := gb301) (o := .cells #[.slice A2_0 l2_0.length c2_0, .slice A2_1 l2_1.length c2_1, .slice A2_2 l2_2.length c2_2] 38 (0, 0)) z163_ hb)
  have n3_ := Aside0.mk (below_step z73_ hb)
  clear HO305
  clear HO308
  clear BK301
  clear HB
  have HO305 := n0_
  have HO308 := n1_
  have BK301 := n2_
  have HB := n3_
  clear n0_ n1_ n2_ n3_
  (try clear hb)
  (try clear hb2)
  (try clear hk)
  (try clear hi)
  refine hK.out _ _ ⟨(blk_cell BK301.out 0).trans rfl, (blk_cell BK301.out 1).trans rfl, (blk_cell BK301.out 2).trans rfl, HS3_, ((HB.out.cell (World.block_lt_of_cell? w _ hw310_0)).trans hw310_0), ((HB.out.cell (World.block_lt_of_cell? w _ hw310_1)).trans hw310_1), ((HB.out.cell (World.block_lt_of_cell? w _ hw311_0)).trans hw311_0), ((HB.out.cell (World.block_lt_of_cell? w _ hw311_1)).trans hw311_1)⟩ (fun hHeld => ?_)
  clear hK K
  refine zn_ rfl ?_
  iterate 2 refine zp_ HT_ rfl rfl (by kernel_rfl) (fun _ _ _ h => h) (by rfl) ?_
  refine done_ (done_of HT_.out (by kernel_rfl)) ?_
  try go_wp2
  go_ret
  exact ⟨by first | rfl | (simp [errW_none, errW_some] <;> rfl) | (simp only [← hji7]; first | rfl | (simp [errW_none, errW_some] <;> rfl)) | (simp [*, errW_none, errW_some] <;> rfl), z73_⟩
 ·replace c5 := Bool.eq_false_iff.mpr c5
  subst c5
  replace H := iff_ H
  obtain rfl := Option.some.inj H
  go_enter Try.func37, Try.ntmps37
  go_wp2_with (first | ((with_reducible refine gate_dst (N := 5) rfl ?_); refine box_event ?hg (N := 5) ?hd (cs := #[.slice A2_0 l2_0.length c2_0, .slice A2_1 l2_1.length c2_1, .slice A2_2 l2_2.length c2_2]) (t := 38) ?hr ?_; (case hd => rfl); (case hg => rfl); (case hr => exact z14_); intro gb301 hg w21 hbox hb; have BK301 := Aside0.mk (hbox); have GW301 := Aside0.mk ((by rw [hg]; exact (below_size z0_) : w.heap.size ≤ gb301)); have GE301 := Aside0.mk ((by rw [hg]; exact (below_size z0_) : w.heap.size ≤ gb301)); replace HB := Aside0.mk (below_step z0_ hb); clear hb hbox hg; obtain ⟨hcz22_0, hcz22_1, hcz22_2, hfz22_0, hfz22_1, hfz22_2⟩ := bx3_ BK301.out) | ((with_reducible refine gate_callee (f := 61) rfl ?_); refine goesL_ (some 13) rfl rfl Try.func61 (by kernel_rfl) rfl #[.slice A0 l0.length c0, .slice A1 l1.length c1, .agg #[.slice A2_0 l2_0.length c2_0, .slice A2_1 l2_1.length c2_1, .slice A2_2 l2_2.length c2_2]] rfl z1_ ?_; (with_reducible refine (spec_l8Three.calls k _ _ l0 _ _ l1 _ _ l2_0 _ _ l2_1 _ _ l2_2 false _ ?side1 ?side2 ?side3 ?side4 ?side5 ?side6 ?side7 ?side8 ?side9 ?side10 A4.out).mono ?_); (case side1 => exact z3_); (case side2 => exact HC0.out); (case side3 => exact z8_); (case side4 => exact HC1.out); (case side5 => exact z50_); (case side6 => exact HC2_0.out); (case side7 => exact z51_); (case side8 => exact HC2_1.out); (case side9 => exact z52_); (case side10 => exact HC2_2.out); rintro e w23 ⟨rfl, hb⟩; refine ⟨_, rfl, ?_⟩; replace BK301 := Aside0.mk (blk_below (g := gb301) (o := .cells #[.slice A2_0 l2_0.length c2_0, .slice A2_1 l2_1.length c2_1, .slice A2_2 l2_2.length c2_2] 38 (0, 0)) z163_ hb); replace HB := Aside0.mk (below_step z73_ hb); (try clear hb)))
  go_ret
  exact ⟨z5_, z73_⟩

/-! ### spec_UnitCost: function 38 -/
mutual
def spec_UnitCost.l0 : Nat → Int → List Int → List Int → List Int → Option (List Int × List Int × List Int)
 | 0, _, _, _, _ => none
 | k + 1, x2, x315000, x315001, x315002 => if x2 < 6 then (if x315000.length < 17592186044416 then (if x315001.length < 17592186044416 then (spec_UnitCost.l1 k x2 0 (x315000 ++ [1]) (x315001 ++ [1]) x315002) else (none)) else (none)) else (some (x315000, x315001, x315002))
def spec_UnitCost.l1 : Nat → Int → Int → List Int → List Int → List Int → Option (List Int × List Int × List Int)
 | 0, _, _, _, _, _ => none
 | k + 1, x2, x3, x315000, x315001, x315002 => if x3 < 6 then (if x2 = x3 then (if x315002.length < 17592186044416 then (spec_UnitCost.l1 k x2 (wrap64 (x3 + 1)) x315000 x315001 (x315002 ++ [0])) else (none)) else (if x315002.length < 17592186044416 then (spec_UnitCost.l1 k x2 (wrap64 (x3 + 1)) x315000 x315001 (x315002 ++ [1])) else (none))) else (spec_UnitCost.l0 k (wrap64 (x2 + 1)) x315000 x315001 x315002)
end
def spec_UnitCost.f (k : Nat)  : Option (List Int × List Int × List Int) := spec_UnitCost.l0 k 0 ([] : List Int) ([] : List Int) ([] : List Int)
set_option maxHeartbeats 8000000 in
set_option maxRecDepth 100000 in
theorem spec_UnitCost.calls (k : Nat)  (r1 : List Int) (r2 : List Int) (r3 : List Int) (w : World) (h : spec_UnitCost.f k  = some (r1, r2, r3)) :
  Calls Try.prog 38 #[] w fun e w' => ∃ v0_ v1_ v2_ : Value, e = .returned (.agg #[v0_, v1_, v2_]) ∧ Kd.R (Kd.int .i64) 3 w' w.heap.size (fun k_ => some k_ ≠ (v1_ : Value).ownBlock ∧ some k_ ≠ (v2_ : Value).ownBlock) v0_ r1 ∧ Kd.R (Kd.int .i64) 3 w' w.heap.size (fun k_ => some k_ ≠ (v0_ : Value).ownBlock ∧ some k_ ≠ (v2_ : Value).ownBlock) v1_ r2 ∧ Kd.R (Kd.int .i64) 3 w' w.heap.size (fun k_ => some k_ ≠ (v0_ : Value).ownBlock ∧ some k_ ≠ (v1_ : Value).ownBlock) v2_ r3 ∧ Below w.heap.size w w' := by
 have hu38 := Try.underlying38
 have HB := Aside0.mk (Below.refl w.heap.size w)
 have H : (spec_UnitCost.l0 k 0 ([] : List Int) ([] : List Int) ([] : List Int)) = some (r1, r2, r3) := h
 clear h
 have H' := Aside0.mk H
 clear H
 go_enter Try.func38, Try.ntmps38
 go_wp2_with (first | ((with_reducible refine gate_dst (N := 0) rfl ?_); refine box_event ?hg (N := 0) ?hd (cs := #[.slice none 0 0, .slice none 0 0, .slice none 0 0]) (t := 38) ?hr ?_; (case hd => rfl); (case hg => rfl); (case hr => exact z14_); intro gb313 hg w1 hbox hb; have BK313 := Aside0.mk (hbox); have GW313 := Aside0.mk ((by rw [hg]; exact (below_size z0_) : w.heap.size ≤ gb313)); have GE313 := Aside0.mk ((by rw [hg]; exact (below_size z0_) : w.heap.size ≤ gb313)); replace HB := Aside0.mk (below_step z0_ hb); clear hb hbox hg) | ((with_reducible refine gate_dst (N := 1) rfl ?_); refine box_event ?hg (N := 1) ?hd (cs := #[.slice none 0 0, .slice none 0 0, .slice none 0 0]) (t := 38) ?hr ?_; (case hd => rfl); (case hg => rfl); (case hr => exact z14_); intro gb314 hg w2 hbox hb; have BK314 := Aside0.mk (hbox); have GW314 := Aside0.mk ((by rw [hg]; exact (below_size z157_) : w.heap.size ≤ gb314)); have GE314 := Aside0.mk ((by rw [hg]; exact (below_size z157_) : w.heap.size ≤ gb314)); replace HB := Aside0.mk (below_step z157_ hb); have NB313_314 := Aside0.mk ((by rw [hg]; exact Nat.ne_of_lt (blk_lt (g := gb313) (o := .cells #[.slice none 0 0, .slice none 0 0, .slice none 0 0] 38 (0, 0)) z93_) : gb313 ≠ gb314)); have NB314_313 := Aside0.mk ((by rw [hg]; exact Nat.ne_of_gt (blk_lt (g := gb313) (o := .cells #[.slice none 0 0, .slice none 0 0, .slice none 0 0] 38 (0, 0)) z93_) : gb314 ≠ gb313)); replace BK313 := Aside0.mk (blk_below (g := gb313) (o := .cells #[.slice none 0 0, .slice none 0 0, .slice none 0 0] 38 (0, 0)) z93_ hb); clear hb hbox hg; have hnb3 := NB314_313.out; have hnc3 := NB313_314.out; obtain ⟨hcz4_0, hcz4_1, hcz4_2, hfz4_0, hfz4_1, hfz4_2⟩ := bx3_ BK314.out))
 go_loopg [2] k (fun kq v2 w' => ∃ (x2_1 : Int) (x315000_1 : List Int) (x315001_1 : List Int) (x315002_1 : List Int) (u315000 : Value) (u315001 : Value) (u315002 : Value), v2 = .int .i64 x2_1 ∧ Aside0 (spec_UnitCost.l0 kq x2_1 x315000_1 x315001_1 x315002_1 = some (r1, r2, r3)) ∧ Aside0 (kq ≤ k) ∧ Aside0 (Kd.R (Kd.int .i64) 3 w' w.heap.size (fun k_ => some k_ ≠ (u315001 : Value).ownBlock ∧ some k_ ≠ (u315002 : Value).ownBlock) u315000 x315000_1) ∧ Aside0 (Kd.R (Kd.int .i64) 3 w' w.heap.size (fun k_ => some k_ ≠ (u315000 : Value).ownBlock ∧ some k_ ≠ (u315002 : Value).ownBlock) u315001 x315001_1) ∧ Aside0 (Kd.R (Kd.int .i64) 3 w' w.heap.size (fun k_ => some k_ ≠ (u315000 : Value).ownBlock ∧ some k_ ≠ (u315001 : Value).ownBlock) u315002 x315002_1) ∧ Aside0 (w'.heap[gb313]? = some (.cells #[(.slice none 0 0), (.slice none 0 0), (.slice none 0 0)] 38 (0, 0))) ∧ Aside0 (w'.heap[gb314]? = some (.cells #[u315000, u315001, u315002] 38 (0, 0))) ∧ Aside0 (Below w.heap.size w w'))
 case atStart => exact ⟨(0), (([] : List Int)), (([] : List Int)), (([] : List Int)), (.slice none 0 0), (.slice none 0 0), (.slice none 0 0), z7_, H', ⟨Nat.le_refl _⟩, ⟨z41_⟩, ⟨z41_⟩, ⟨z41_⟩, ⟨by (with_reducible repeat (first | refine blk_drewN ?_ _ | refine blk_drew ?_ | refine blk_alloc ?_ _)); refine blk_far ?_ NB313_314.out _; (with_reducible repeat (first | refine blk_drewN ?_ _ | refine blk_drew ?_ | refine blk_alloc ?_ _)); refine blk_far ?_ NB313_314.out _; (with_reducible repeat (first | refine blk_drewN ?_ _ | refine blk_drew ?_ | refine blk_alloc ?_ _)); refine blk_far ?_ NB313_314.out _; (with_reducible repeat (first | refine blk_drewN ?_ _ | refine blk_drew ?_ | refine blk_alloc ?_ _)); exact BK313.out⟩, ⟨by (with_reducible repeat (first | refine blk_drewN ?_ _ | refine blk_drew ?_ | refine blk_alloc ?_ _)); refine blk_put (cs := #[.slice none 0 0, .slice none 0 0, .slice none 0 0]) ?_ 2 _ rfl; (with_reducible repeat (first | refine blk_drewN ?_ _ | refine blk_drew ?_ | refine blk_alloc ?_ _)); refine blk_put (cs := #[.slice none 0 0, .slice none 0 0, .slice none 0 0]) ?_ 1 _ rfl; (with_reducible repeat (first | refine blk_drewN ?_ _ | refine blk_drew ?_ | refine blk_alloc ?_ _)); refine blk_put (cs := #[.slice none 0 0, .slice none 0 0, .slice none 0 0]) ?_ 0 _ rfl; (with_reducible repeat (first | refine blk_drewN ?_ _ | refine blk_drew ?_ | refine blk_alloc ?_ _)); exact BK314.out⟩, ⟨z27_⟩⟩
 case round =>
  clear H'
  try clear p2
  try clear c3
  try clear hcz4_0
  try clear hcz4_1
  try clear hcz4_2
  try clear hfz4_0
  try clear hfz4_1
  try clear hfz4_2
  obtain ⟨x2_1, x315000_1, x315001_1, x315002_1, u315000, u315001, u315002, rfl, HA, HK1, HO_315000, HO_315001, HO_315002, BK313, BK314, HB⟩ := hrel
  cases gk with
  | zero => exact absurd HA.out (by simp [spec_UnitCost.l0])
  | succ k1 =>
   have H := HA.out
   clear HA
   simp only [spec_UnitCost.l0] at H
   by_cases c5 : x2_1 < 6
   ·rw [if_pos c5] at H
    have c5b0 := decide_eq_true c5
    clear c5
    obtain ⟨c6, H⟩ := ifs_ H
    have LMc6 := Aside0.mk c6
    clear c6
    first | ((with_reducible have hz_ := gy_ H); obtain ⟨y315, Ny315, H⟩ := hz_) | (generalize hy_ : ((x315000_1 ++ [1]) : List Int) = y315 at H; have Ny315 := Aside0.mk hy_.symm; clear hy_)
    obtain ⟨c7, H⟩ := ifs_ H
    have LMc7 := Aside0.mk c7
    clear c7
    first | ((with_reducible have hz_ := gy_ H); obtain ⟨y318, Ny318, H⟩ := hz_) | (generalize hy_ : ((x315001_1 ++ [1]) : List Int) = y318 at H; have Ny318 := Aside0.mk hy_.symm; clear hy_)
    have H' := Aside0.mk H
    clear H
    have hnb8 := NB314_313.out
    have hnc8 := NB313_314.out
    obtain ⟨hcz9_0, hcz9_1, hcz9_2, hfz9_0, hfz9_1, hfz9_2⟩ := bx3_ BK314.out
    go_wp2_with (first | ((with_reducible refine gate_builtin (b := .append) (xs := #[.tmp 11, .tmp 12]) rfl ?_); at_builtin; refine Kd.R_append (Kd.int .i64) (w0 := w) w.heap.size rfl (.tmp 11) (.tmp 12) 30 3 (.int .i64 0) 8 rfl Try.underlying30 info3 rfl (by decide) (by omega) u315000 x315000_1 1 [.int .i64 1] (fun k_ => some k_ ≠ (u315001 : Value).ownBlock ∧ some k_ ≠ (u315002 : Value).ownBlock) (fun _ => False) rfl rfl ?aP (fun _ hk => hk.elim) ?aF ?aO ?aB ?aS ?aL ?_; (case aP => exact rfl); (case aB => exact z91_); (case aF => exact (fun k_ hk => ⟨Kd.fresh' (Kd.R_lt z120_) k_ hk, Kd.fresh' (Kd.R_lt z167_) k_ hk⟩)); (case aO => exact z121_); (case aS => exact z87_); (case aL => have := LMc6.out; omega); intro v316 w10 ho hb hg hat; rw [← Ny315.out] at ho; replace HO_315001 := Aside0.mk (Kd.R_after (ok := (fun k_ => some k_ ≠ (u315002 : Value).ownBlock)) (by (with_reducible repeat (first | apply Kd.R_alloc | apply Kd.R_drewN | apply Kd.R_drew)); exact Kd.R_mono HO_315001.out (fun _ hk => ⟨hk.2, hk.1⟩)) hg hat); replace HO_315002 := Aside0.mk (Kd.R_after (ok := (fun k_ => some k_ ≠ (u315001 : Value).ownBlock)) (by (with_reducible repeat (first | apply Kd.R_alloc | apply Kd.R_drewN | apply Kd.R_drew)); exact Kd.R_mono HO_315002.out (fun _ hk => ⟨hk.2, hk.1⟩)) hg hat); replace BK313 := Aside0.mk (blk_grown (g := gb313) (o := .cells #[.slice none 0 0, .slice none 0 0, .slice none 0 0] 38 (0, 0)) z93_ hg (Kd.R_ne HO_315000.out BK313.out (by decide))); replace BK314 := Aside0.mk (blk_grown (g := gb314) (o := .cells #[u315000, u315001, u315002] 38 (0, 0)) z164_ hg (Kd.R_ne HO_315000.out BK314.out (by decide))); replace HB := Aside0.mk (hb); have HO317 := Aside0.mk (ho); clear HO_315000; clear ho hb hg hat; obtain ⟨Ao11, co11, eo11⟩ := Kd.R_slice HO317.out; subst eo11; obtain ⟨hcz12_0, hcz12_1, hcz12_2, hfz12_0, hfz12_1, hfz12_2⟩ := bx3_ BK314.out) | ((with_reducible refine gate_builtin (b := .append) (xs := #[.tmp 16, .tmp 17]) rfl ?_); at_builtin; refine Kd.R_append (Kd.int .i64) (w0 := w) w.heap.size rfl (.tmp 16) (.tmp 17) 30 3 (.int .i64 0) 8 rfl Try.underlying30 info3 rfl (by decide) (by omega) u315001 x315001_1 1 [.int .i64 1] (fun k_ => some k_ ≠ (u315002 : Value).ownBlock ∧ some k_ ≠ (.slice Ao11 y315.length co11 : Value).ownBlock) (fun _ => False) rfl z14_ ?aP (fun _ hk => hk.elim) ?aF ?aO ?aB ?aS ?aL ?_; (case aP => exact rfl); (case aB => exact z91_); (case aF => exact (fun k_ hk => ⟨Kd.fresh' (Kd.R_lt (by (with_reducible repeat (first | apply Kd.R_alloc | apply Kd.R_drewN | apply Kd.R_drew)); exact (Kd.R_mono (Kd.R_far (p := ⟨gb314, 0, none⟩) (Kd.R_types HO_315002.out BK314.out (by decide)) (fun _ hk => hk.2) (.slice Ao11 y315.length co11)) (fun _ h_ => h_.1)))) k_ hk, Kd.fresh' (Kd.R_lt (by (with_reducible repeat (first | apply Kd.R_alloc | apply Kd.R_drewN | apply Kd.R_drew)); exact (Kd.R_mono (Kd.R_far (p := ⟨gb314, 0, none⟩) (Kd.R_types HO317.out BK314.out (by decide)) (fun _ hk => hk.2) (.slice Ao11 y315.length co11)) (fun _ h_ => h_.1)))) k_ hk⟩)); (case aO => exact (by (with_reducible repeat (first | apply Kd.R_alloc | apply Kd.R_drewN | apply Kd.R_drew)); exact Kd.R_mono (Kd.R_far (p := ⟨gb314, 0, none⟩) (Kd.R_types HO_315001.out BK314.out (by decide)) (fun _ hk => hk.2) (.slice Ao11 y315.length co11)) (fun _ hk => ⟨hk.1.1, hk.1.2⟩))); (case aS => exact z87_); (case aL => have := LMc7.out; omega); intro v319 w13 ho hb hg hat; rw [← Ny318.out] at ho; replace HO_315002 := Aside0.mk (Kd.R_after (ok := (fun k_ => some k_ ≠ (.slice Ao11 y315.length co11 : Value).ownBlock)) (by (with_reducible repeat (first | apply Kd.R_alloc | apply Kd.R_drewN | apply Kd.R_drew)); exact Kd.R_mono (Kd.R_far (p := ⟨gb314, 0, none⟩) (Kd.R_types HO_315002.out BK314.out (by decide)) (fun _ hk => hk.2) (.slice Ao11 y315.length co11)) (fun _ hk => ⟨hk.1.2, hk.1.1⟩)) hg hat); replace BK313 := Aside0.mk (blk_grown (g := gb313) (o := .cells #[.slice none 0 0, .slice none 0 0, .slice none 0 0] 38 (0, 0)) z81_ hg (Kd.R_ne HO_315001.out BK313.out (by decide))); replace HO317 := Aside0.mk (Kd.R_after (ok := (fun k_ => some k_ ≠ (u315002 : Value).ownBlock)) (by (with_reducible repeat (first | apply Kd.R_alloc | apply Kd.R_drewN | apply Kd.R_drew)); exact Kd.R_mono (Kd.R_far (p := ⟨gb314, 0, none⟩) (Kd.R_types HO317.out BK314.out (by decide)) (fun _ hk => hk.2) (.slice Ao11 y315.length co11)) (fun _ hk => ⟨hk.1.2, hk.1.1⟩)) hg hat); replace BK314 := Aside0.mk (blk_grown (g := gb314) (o := .cells #[.slice Ao11 y315.length co11, u315001, u315002] 38 (0, 0)) (by (with_reducible repeat (first | refine blk_drewN ?_ _ | refine blk_drew ?_ | refine blk_alloc ?_ _)); refine blk_put (cs := #[u315000, u315001, u315002]) ?_ 0 _ rfl; (with_reducible repeat (first | refine blk_drewN ?_ _ | refine blk_drew ?_ | refine blk_alloc ?_ _)); exact BK314.out) hg (Kd.R_ne HO_315001.out BK314.out (by decide))); replace HB := Aside0.mk (hb); have HO320 := Aside0.mk (ho); clear HO_315001; clear ho hb hg hat; obtain ⟨Ao14, co14, eo14⟩ := Kd.R_slice HO320.out; subst eo14; obtain ⟨hcz15_0, hcz15_1, hcz15_2, hfz15_0, hfz15_1, hfz15_2⟩ := bx3_ BK314.out))
    go_loopg [3] k1 (fun kq v3 w' => ∃ (x3_2 : Int) (x315002_2 : List Int) (u315002 : Value), v3 = .int .i64 x3_2 ∧ Aside0 (spec_UnitCost.l1 kq x2_1 x3_2 y315 y318 x315002_2 = some (r1, r2, r3)) ∧ Aside0 (kq ≤ k1) ∧ Aside0 (Kd.R (Kd.int .i64) 3 w' w.heap.size (fun k_ => some k_ ≠ ((.slice Ao14 y318.length co14) : Value).ownBlock ∧ some k_ ≠ (u315002 : Value).ownBlock) (.slice Ao11 y315.length co11) y315) ∧ Aside0 (Kd.R (Kd.int .i64) 3 w' w.heap.size (fun k_ => some k_ ≠ ((.slice Ao11 y315.length co11) : Value).ownBlock ∧ some k_ ≠ (u315002 : Value).ownBlock) (.slice Ao14 y318.length co14) y318) ∧ Aside0 (Kd.R (Kd.int .i64) 3 w' w.heap.size (fun k_ => some k_ ≠ ((.slice Ao11 y315.length co11) : Value).ownBlock ∧ some k_ ≠ ((.slice Ao14 y318.length co14) : Value).ownBlock) u315002 x315002_2) ∧ Aside0 (w'.heap[gb313]? = some (.cells #[(.slice none 0 0), (.slice none 0 0), (.slice none 0 0)] 38 (0, 0))) ∧ Aside0 (w'.heap[gb314]? = some (.cells #[(.slice Ao11 y315.length co11), (.slice Ao14 y318.length co14), u315002] 38 (0, 0))) ∧ Aside0 (Below w.heap.size w w'))
    case atStart => exact ⟨(0), (x315002_1), (u315002), z7_, H', ⟨Nat.le_refl _⟩, ⟨by (with_reducible repeat (first | apply Kd.R_alloc | apply Kd.R_drewN | apply Kd.R_drew)); exact Kd.R_mono (Kd.R_far (p := ⟨gb314, 1, none⟩) (Kd.R_types HO317.out BK314.out (by decide)) (fun _ hk => hk.2) (.slice Ao14 y318.length co14)) (fun _ hk => ⟨hk.1.2, hk.1.1⟩)⟩, ⟨by (with_reducible repeat (first | apply Kd.R_alloc | apply Kd.R_drewN | apply Kd.R_drew)); exact Kd.R_mono (Kd.R_far (p := ⟨gb314, 1, none⟩) (Kd.R_types HO320.out BK314.out (by decide)) (fun _ hk => hk.2) (.slice Ao14 y318.length co14)) (fun _ hk => ⟨hk.1.2, hk.1.1⟩)⟩, ⟨by (with_reducible repeat (first | apply Kd.R_alloc | apply Kd.R_drewN | apply Kd.R_drew)); exact Kd.R_mono (Kd.R_far (p := ⟨gb314, 1, none⟩) (Kd.R_types HO_315002.out BK314.out (by decide)) (fun _ hk => hk.2) (.slice Ao14 y318.length co14)) (fun _ hk => ⟨hk.1.1, hk.1.2⟩)⟩, ⟨z81_⟩, ⟨by (with_reducible repeat (first | refine blk_drewN ?_ _ | refine blk_drew ?_ | refine blk_alloc ?_ _)); refine blk_put (cs := #[.slice Ao11 y315.length co11, u315001, u315002]) ?_ 1 _ rfl; (with_reducible repeat (first | refine blk_drewN ?_ _ | refine blk_drew ?_ | refine blk_alloc ?_ _)); exact BK314.out⟩, ⟨z27_⟩⟩
    case round =>
     clear H'
     try clear p2
     try clear c3
     try clear c5
     try clear c5b0
     try clear c6
     try clear c7
     try clear c8
     try clear hcz12_0
     try clear hcz12_1
     try clear hcz12_2
     try clear hcz15_0
     try clear hcz15_1
     try clear hcz15_2
     try clear hcz4_0
     try clear hcz4_1
     try clear hcz4_2
     try clear hcz9_0
     try clear hcz9_1
     try clear hcz9_2
     try clear hfz12_0
     try clear hfz12_1
     try clear hfz12_2
     try clear hfz15_0
     try clear hfz15_1
     try clear hfz15_2
     try clear hfz4_0
     try clear hfz4_1
     try clear hfz4_2
     try clear hfz9_0
     try clear hfz9_1
     try clear hfz9_2
     try clear p2
     obtain ⟨x3_2, x315002_2, u315002, rfl, HA, HK2, HO_315000, HO_315001, HO_315002, BK313, BK314, HB⟩ := hrel
     cases gk with
     | zero => exact absurd HA.out (by simp [spec_UnitCost.l1])
     | succ k2 =>
      have H := HA.out
      clear HA
      simp only [spec_UnitCost.l1] at H
      by_cases c16 : x3_2 < 6
      ·rw [if_pos c16] at H
       have c16b0 := decide_eq_true c16
       clear c16
       by_cases c17 : x2_1 = x3_2
       ·rw [if_pos c17] at H
        have c17b0 : (x2_1 == x3_2) = true := beq_iff_eq.mpr c17
        have c17b1 : (x2_1 != x3_2) = false := bne_eq_false_iff_eq.mpr c17
        clear c17
        obtain ⟨c18, H⟩ := ifs_ H
        have LMc18 := Aside0.mk c18
        clear c18
        first | ((with_reducible have hz_ := gy_ H); obtain ⟨y321, Ny321, H⟩ := hz_) | (generalize hy_ : ((x315002_2 ++ [0]) : List Int) = y321 at H; have Ny321 := Aside0.mk hy_.symm; clear hy_)
        have H' := Aside0.mk H
        clear H
        have hnb19 := NB314_313.out
        have hnc19 := NB313_314.out
        obtain ⟨hcz20_0, hcz20_1, hcz20_2, hfz20_0, hfz20_1, hfz20_2⟩ := bx3_ BK314.out
        go_wp2_with (first | ((with_reducible refine gate_builtin (b := .append) (xs := #[.tmp 28, .tmp 30]) rfl ?_); at_builtin; refine Kd.R_append (Kd.int .i64) (w0 := w) w.heap.size rfl (.tmp 28) (.tmp 30) 30 3 (.int .i64 0) 8 rfl Try.underlying30 info3 rfl (by decide) (by omega) u315002 x315002_2 0 [.int .i64 0] (fun k_ => some k_ ≠ (.slice Ao11 y315.length co11 : Value).ownBlock ∧ some k_ ≠ (.slice Ao14 y318.length co14 : Value).ownBlock) (fun _ => False) rfl rfl ?aP (fun _ hk => hk.elim) ?aF ?aO ?aB ?aS ?aL ?_; (case aP => exact rfl); (case aB => exact z91_); (case aF => exact z125_); (case aO => exact z240_); (case aS => exact z87_); (case aL => have := LMc18.out; omega); intro v322 w21 ho hb hg hat; rw [← Ny321.out] at ho; replace HO_315000 := Aside0.mk (Kd.R_after (ok := (fun k_ => some k_ ≠ (.slice Ao14 y318.length co14 : Value).ownBlock)) z121_ hg hat); replace HO_315001 := Aside0.mk (Kd.R_after (ok := (fun k_ => some k_ ≠ (.slice Ao11 y315.length co11 : Value).ownBlock)) z120_ hg hat); replace BK313 := Aside0.mk (blk_grown (g := gb313) (o := .cells #[.slice none 0 0, .slice none 0 0, .slice none 0 0] 38 (0, 0)) z93_ hg (Kd.R_ne HO_315002.out BK313.out (by decide))); replace BK314 := Aside0.mk (blk_grown (g := gb314) (o := .cells #[.slice Ao11 y315.length co11, .slice Ao14 y318.length co14, u315002] 38 (0, 0)) z164_ hg (Kd.R_ne HO_315002.out BK314.out (by decide))); replace HB := Aside0.mk (hb); have HO323 := Aside0.mk (ho); clear HO_315002; clear ho hb hg hat; obtain ⟨Ao22, co22, eo22⟩ := Kd.R_slice HO323.out; subst eo22; obtain ⟨hcz23_0, hcz23_1, hcz23_2, hfz23_0, hfz23_1, hfz23_2⟩ := bx3_ BK314.out))
        go_roundg k2
        case measure => have := HK1.out; have := HK2.out; omega
        case rel => exact ⟨(wrap64 (x3_2 + 1)), (y321), (.slice Ao22 y321.length co22), z7_, H', ⟨z122_⟩, ⟨by (with_reducible repeat (first | apply Kd.R_alloc | apply Kd.R_drewN | apply Kd.R_drew)); exact Kd.R_mono (Kd.R_far (p := ⟨gb314, 2, none⟩) (Kd.R_types HO_315000.out BK314.out (by decide)) (fun _ hk => hk.2) (.slice Ao22 y321.length co22)) (fun _ hk => ⟨hk.1.1, hk.1.2⟩)⟩, ⟨by (with_reducible repeat (first | apply Kd.R_alloc | apply Kd.R_drewN | apply Kd.R_drew)); exact Kd.R_mono (Kd.R_far (p := ⟨gb314, 2, none⟩) (Kd.R_types HO_315001.out BK314.out (by decide)) (fun _ hk => hk.2) (.slice Ao22 y321.length co22)) (fun _ hk => ⟨hk.1.1, hk.1.2⟩)⟩, ⟨by (with_reducible repeat (first | apply Kd.R_alloc | apply Kd.R_drewN | apply Kd.R_drew)); exact Kd.R_mono (Kd.R_far (p := ⟨gb314, 2, none⟩) (Kd.R_types HO323.out BK314.out (by decide)) (fun _ hk => hk.2) (.slice Ao22 y321.length co22)) (fun _ hk => ⟨hk.1.1, hk.1.2⟩)⟩, ⟨z81_⟩, ⟨z118_⟩, ⟨z27_⟩⟩
       ·rw [if_neg c17] at H
        have c17b0 : (x2_1 == x3_2) = false := beq_eq_false_iff_ne.mpr c17
        have c17b1 : (x2_1 != x3_2) = true := bne_iff_ne.mpr c17
        obtain ⟨c24, H⟩ := ifs_ H
        have LMc24 := Aside0.mk c24
        clear c24
        first | ((with_reducible have hz_ := gy_ H); obtain ⟨y324, Ny324, H⟩ := hz_) | (generalize hy_ : ((x315002_2 ++ [1]) : List Int) = y324 at H; have Ny324 := Aside0.mk hy_.symm; clear hy_)
        have H' := Aside0.mk H
        clear H
        have hnb25 := NB314_313.out
        have hnc25 := NB313_314.out
        obtain ⟨hcz26_0, hcz26_1, hcz26_2, hfz26_0, hfz26_1, hfz26_2⟩ := bx3_ BK314.out
        go_wp2_with (first | ((with_reducible refine gate_builtin (b := .append) (xs := #[.tmp 28, .tmp 30]) rfl ?_); at_builtin; refine Kd.R_append (Kd.int .i64) (w0 := w) w.heap.size rfl (.tmp 28) (.tmp 30) 30 3 (.int .i64 0) 8 rfl Try.underlying30 info3 rfl (by decide) (by omega) u315002 x315002_2 1 [.int .i64 1] (fun k_ => some k_ ≠ (.slice Ao11 y315.length co11 : Value).ownBlock ∧ some k_ ≠ (.slice Ao14 y318.length co14 : Value).ownBlock) (fun _ => False) rfl rfl ?aP (fun _ hk => hk.elim) ?aF ?aO ?aB ?aS ?aL ?_; (case aP => exact rfl); (case aB => exact z91_); (case aF => exact z125_); (case aO => exact z240_); (case aS => exact z87_); (case aL => have := LMc24.out; omega); intro v325 w27 ho hb hg hat; rw [← Ny324.out] at ho; replace HO_315000 := Aside0.mk (Kd.R_after (ok := (fun k_ => some k_ ≠ (.slice Ao14 y318.length co14 : Value).ownBlock)) z121_ hg hat); replace HO_315001 := Aside0.mk (Kd.R_after (ok := (fun k_ => some k_ ≠ (.slice Ao11 y315.length co11 : Value).ownBlock)) z120_ hg hat); replace BK313 := Aside0.mk (blk_grown (g := gb313) (o := .cells #[.slice none 0 0, .slice none 0 0, .slice none 0 0] 38 (0, 0)) z93_ hg (Kd.R_ne HO_315002.out BK313.out (by decide))); replace BK314 := Aside0.mk (blk_grown (g := gb314) (o := .cells #[.slice Ao11 y315.length co11, .slice Ao14 y318.length co14, u315002] 38 (0, 0)) z164_ hg (Kd.R_ne HO_315002.out BK314.out (by decide))); replace HB := Aside0.mk (hb); have HO326 := Aside0.mk (ho); clear HO_315002; clear ho hb hg hat; obtain ⟨Ao28, co28, eo28⟩ := Kd.R_slice HO326.out; subst eo28; obtain ⟨hcz29_0, hcz29_1, hcz29_2, hfz29_0, hfz29_1, hfz29_2⟩ := bx3_ BK314.out))
        go_roundg k2
        case measure => have := HK1.out; have := HK2.out; omega
        case rel => exact ⟨(wrap64 (x3_2 + 1)), (y324), (.slice Ao28 y324.length co28), z7_, H', ⟨z122_⟩, ⟨by (with_reducible repeat (first | apply Kd.R_alloc | apply Kd.R_drewN | apply Kd.R_drew)); exact Kd.R_mono (Kd.R_far (p := ⟨gb314, 2, none⟩) (Kd.R_types HO_315000.out BK314.out (by decide)) (fun _ hk => hk.2) (.slice Ao28 y324.length co28)) (fun _ hk => ⟨hk.1.1, hk.1.2⟩)⟩, ⟨by (with_reducible repeat (first | apply Kd.R_alloc | apply Kd.R_drewN | apply Kd.R_drew)); exact Kd.R_mono (Kd.R_far (p := ⟨gb314, 2, none⟩) (Kd.R_types HO_315001.out BK314.out (by decide)) (fun _ hk => hk.2) (.slice Ao28 y324.length co28)) (fun _ hk => ⟨hk.1.1, hk.1.2⟩)⟩, ⟨by (with_reducible repeat (first | apply Kd.R_alloc | apply Kd.R_drewN | apply Kd.R_drew)); exact Kd.R_mono (Kd.R_far (p := ⟨gb314, 2, none⟩) (Kd.R_types HO326.out BK314.out (by decide)) (fun _ hk => hk.2) (.slice Ao28 y324.length co28)) (fun _ hk => ⟨hk.1.1, hk.1.2⟩)⟩, ⟨z81_⟩, ⟨z118_⟩, ⟨z27_⟩⟩
      ·rw [if_neg c16] at H
       have c16b0 := decide_eq_false c16
       clear c16
       have H' := Aside0.mk H
       clear H
       go_wp2
       go_roundg k2
       case measure => have := HK1.out; have := HK2.out; omega
       case rel => exact ⟨(wrap64 (x2_1 + 1)), (y315), (y318), (x315002_2), (.slice Ao11 y315.length co11), (.slice Ao14 y318.length co14), (u315002), z7_, H', ⟨z122_⟩, ⟨z121_⟩, ⟨z120_⟩, ⟨z167_⟩, ⟨z93_⟩, ⟨z164_⟩, ⟨z27_⟩⟩
   ·rw [if_neg c5] at H
    have c5b0 := decide_eq_false c5
    clear c5
    simp only [Option.some.injEq, Prod.mk.injEq] at H
    obtain ⟨rfl, rfl, rfl⟩ := H
    have hnb30 := NB314_313.out
    have hnc30 := NB313_314.out
    obtain ⟨hcz31_0, hcz31_1, hcz31_2, hfz31_0, hfz31_1, hfz31_2⟩ := bx3_ BK314.out
    obtain ⟨Ao32, co32, eo32⟩ := Kd.R_slice HO_315000.out
    subst eo32
    obtain ⟨hcz33_0, hcz33_1, hcz33_2, hfz33_0, hfz33_1, hfz33_2⟩ := bx3_ BK313.out
    obtain ⟨Ao34, co34, eo34⟩ := Kd.R_slice HO_315001.out
    subst eo34
    obtain ⟨Ao35, co35, eo35⟩ := Kd.R_slice HO_315002.out
    subst eo35
    go_wp2
    refine bodyPost_ret (results_cell_row rfl _ _ gb313 38 #[.slice Ao32 x315000_1.length co32, .slice Ao34 x315001_1.length co34, .slice Ao35 x315002_1.length co35] (0, 0) _ rfl (by (with_reducible repeat (first | refine blk_drewN ?_ _ | refine blk_drew ?_ | refine blk_alloc ?_ _)); refine blk_put (cs := #[.slice Ao32 x315000_1.length co32, .slice Ao34 x315001_1.length co34, .slice none 0 0]) ?_ 2 _ rfl; (with_reducible repeat (first | refine blk_drewN ?_ _ | refine blk_drew ?_ | refine blk_alloc ?_ _)); refine blk_put (cs := #[.slice Ao32 x315000_1.length co32, .slice none 0 0, .slice none 0 0]) ?_ 1 _ rfl; (with_reducible repeat (first | refine blk_drewN ?_ _ | refine blk_drew ?_ | refine blk_alloc ?_ _)); refine blk_put (cs := #[.slice none 0 0, .slice none 0 0, .slice none 0 0]) ?_ 0 _ rfl; (with_reducible repeat (first | refine blk_drewN ?_ _ | refine blk_drew ?_ | refine blk_alloc ?_ _)); exact BK313.out) Try.underlying38 rfl (by kernel_rfl)) rfl ?_
    exact ⟨_, _, _, z5_, by (with_reducible repeat (first | apply Kd.R_alloc | apply Kd.R_drewN | apply Kd.R_drew)); exact Kd.R_mono (Kd.R_far (p := ⟨gb313, 2, none⟩) (Kd.R_far (p := ⟨gb313, 1, none⟩) (Kd.R_far (p := ⟨gb313, 0, none⟩) (Kd.R_types HO_315000.out BK313.out (by decide)) (fun _ hk => hk.2) (.slice Ao32 x315000_1.length co32)) (fun _ hk => hk.2) (.slice Ao34 x315001_1.length co34)) (fun _ hk => hk.2) (.slice Ao35 x315002_1.length co35)) (fun _ hk => ⟨hk.1.1, hk.1.2⟩), by (with_reducible repeat (first | apply Kd.R_alloc | apply Kd.R_drewN | apply Kd.R_drew)); exact Kd.R_mono (Kd.R_far (p := ⟨gb313, 2, none⟩) (Kd.R_far (p := ⟨gb313, 1, none⟩) (Kd.R_far (p := ⟨gb313, 0, none⟩) (Kd.R_types HO_315001.out BK313.out (by decide)) (fun _ hk => hk.2) (.slice Ao32 x315000_1.length co32)) (fun _ hk => hk.2) (.slice Ao34 x315001_1.length co34)) (fun _ hk => hk.2) (.slice Ao35 x315002_1.length co35)) (fun _ hk => ⟨hk.1.1, hk.1.2⟩), by (with_reducible repeat (first | apply Kd.R_alloc | apply Kd.R_drewN | apply Kd.R_drew)); exact Kd.R_mono (Kd.R_far (p := ⟨gb313, 2, none⟩) (Kd.R_far (p := ⟨gb313, 1, none⟩) (Kd.R_far (p := ⟨gb313, 0, none⟩) (Kd.R_types HO_315002.out BK313.out (by decide)) (fun _ hk => hk.2) (.slice Ao32 x315000_1.length co32)) (fun _ hk => hk.2) (.slice Ao34 x315001_1.length co34)) (fun _ hk => hk.2) (.slice Ao35 x315002_1.length co35)) (fun _ hk => ⟨hk.1.1, hk.1.2⟩), z27_⟩

/-! ### spec_Similarity: function 10 -/
def spec_Similarity.f (k : Nat) (l0 : List (S61)) (l1 : List (S61)) : Option (Int) := (spec_UnitCost.f k).bind fun bt327 => ((spec_RootDist.f k l0 l1 bt327.1 bt327.2.1 bt327.2.2).bind fun t336 => (if t336 < 0 then (some (-1)) else (if (wrap64 ((l0.length : Int) + (l1.length : Int))) = 0 then (none) else (some (wrap64 (100 - (wrap64 (Int.tdiv (wrap64 (100 * t336)) (wrap64 ((l0.length : Int) + (l1.length : Int)))))))))))
set_option maxHeartbeats 8000000 in
set_option maxRecDepth 100000 in
theorem spec_Similarity.calls (k : Nat) (A0 : Option Addr) (c0 : Nat) (l0 : List (S61)) (A1 : Option Addr) (c1 : Nat) (l1 : List (S61)) (r : Int) (w : World) (hr0 : Kd.C k61 w A0 l0.length l0) (hc0 : l0.length ≤ c0) (hr1 : Kd.C k61 w A1 l1.length l1) (hc1 : l1.length ≤ c1) (h : spec_Similarity.f k l0 l1 = some r) :
  Calls Try.prog 10 #[.slice A0 l0.length c0, .slice A1 l1.length c1] w fun e w' => e = .returned (.int .i64 r) ∧ Below w.heap.size w w' := by
 have HR0 := Aside0.mk hr0
 have HC0 := Aside0.mk hc0
 clear hr0 hc0
 have HR1 := Aside0.mk hr1
 have HC1 := Aside0.mk hc1
 clear hr1 hc1
 have HB := Aside0.mk (Below.refl w.heap.size w)
 have H : ((spec_UnitCost.f k).bind fun bt327 => ((spec_RootDist.f k l0 l1 bt327.1 bt327.2.1 bt327.2.2).bind fun t336 => (if t336 < 0 then (some (-1)) else (if (wrap64 ((l0.length : Int) + (l1.length : Int))) = 0 then (none) else (some (wrap64 (100 - (wrap64 (Int.tdiv (wrap64 (100 * t336)) (wrap64 ((l0.length : Int) + (l1.length : Int)))))))))))) = some r := h
 clear h
 replace H := Option.bind_eq_some_iff.mp H
 obtain ⟨⟨t327, t330, t333⟩, A30, H⟩ := H
 try dsimp only at H
 have A3 := Aside0.mk A30
 clear A30
 obtain ⟨t336, A4, H⟩ := bnd_ H
 by_cases c5 : t336 < 0
 ·rw [if_pos c5] at H
  have c5b0 := decide_eq_true c5
  clear c5
  obtain rfl := Option.some.inj H
  go_enter Try.func10, Try.ntmps10
  go_wp2_with (first | ((with_reducible refine gate_callee (f := 38) rfl ?_); refine goesL_ (some 8) rfl rfl Try.func38 (by kernel_rfl) rfl #[] rfl z1_ ?_; (with_reducible refine (spec_UnitCost.calls k  t327 t330 t333 _ A3.out).mono ?_); rintro e w6 ⟨v328, v331, v334, rfl, ho0, ho1, ho2, hb⟩; refine ⟨_, rfl, ?_⟩; have HO329 := Aside0.mk (Kd.R_lower ho0 (below_size z0_)); have HO332 := Aside0.mk (Kd.R_lower ho1 (below_size z0_)); have HO335 := Aside0.mk (Kd.R_lower ho2 (below_size z0_)); replace HB := Aside0.mk (below_step z0_ hb); (try clear hb ho0 ho1 ho2); obtain ⟨Ao7, co7, eo7⟩ := Kd.R_slice HO329.out; subst eo7; obtain ⟨Ao8, co8, eo8⟩ := Kd.R_slice HO332.out; subst eo8; obtain ⟨Ao9, co9, eo9⟩ := Kd.R_slice HO335.out; subst eo9) | ((with_reducible refine gate_callee (f := 37) rfl ?_); refine goesL_ (some 9) rfl rfl Try.func37 (by kernel_rfl) rfl #[.slice A0 l0.length c0, .slice A1 l1.length c1, .agg #[.slice Ao7 t327.length co7, .slice Ao8 t330.length co8, .slice Ao9 t333.length co9]] rfl z1_ ?_; (with_reducible refine (spec_RootDist.calls k _ _ l0 _ _ l1 _ _ t327 _ _ t330 _ _ t333 t336 _ ?side1 ?side2 ?side3 ?side4 ?side5 ?side6 ?side7 ?side8 ?side9 ?side10 A4.out).mono ?_); (case side1 => exact z3_); (case side2 => exact HC0.out); (case side3 => exact z8_); (case side4 => exact HC1.out); (case side5 => exact z193_); (case side6 => exact (Kd.R_reads' HO329.out).2.1); (case side7 => exact z194_); (case side8 => exact (Kd.R_reads' HO332.out).2.1); (case side9 => exact z195_); (case side10 => exact (Kd.R_reads' HO335.out).2.1); rintro e w10 ⟨rfl, hb⟩; refine ⟨_, rfl, ?_⟩; replace HO329 := Aside0.mk (Kd.R_below z249_ hb); replace HO332 := Aside0.mk (Kd.R_below z250_ hb); replace HO335 := Aside0.mk (Kd.R_below z251_ hb); replace HB := Aside0.mk (below_step z0_ hb); (try clear hb)))
  go_ret
  exact ⟨z5_, z0_⟩
 ·rw [if_neg c5] at H
  have c5b0 := decide_eq_false c5
  clear c5
  by_cases c11 : (wrap64 ((l0.length : Int) + (l1.length : Int))) = 0
  ·rw [if_pos c11] at H
   exact absurd H (by simp)
  ·rw [if_neg c11] at H
   have c11b0 : ((wrap64 ((l0.length : Int) + (l1.length : Int))) == 0) = false := beq_eq_false_iff_ne.mpr c11
   have c11b1 : ((wrap64 ((l0.length : Int) + (l1.length : Int))) != 0) = true := bne_iff_ne.mpr c11
   obtain rfl := Option.some.inj H
   go_enter Try.func10, Try.ntmps10
   go_wp2_with (first | ((with_reducible refine gate_callee (f := 38) rfl ?_); refine goesL_ (some 8) rfl rfl Try.func38 (by kernel_rfl) rfl #[] rfl z1_ ?_; (with_reducible refine (spec_UnitCost.calls k  t327 t330 t333 _ A3.out).mono ?_); rintro e w12 ⟨v328, v331, v334, rfl, ho0, ho1, ho2, hb⟩; refine ⟨_, rfl, ?_⟩; have HO329 := Aside0.mk (Kd.R_lower ho0 (below_size z0_)); have HO332 := Aside0.mk (Kd.R_lower ho1 (below_size z0_)); have HO335 := Aside0.mk (Kd.R_lower ho2 (below_size z0_)); replace HB := Aside0.mk (below_step z0_ hb); (try clear hb ho0 ho1 ho2); obtain ⟨Ao13, co13, eo13⟩ := Kd.R_slice HO329.out; subst eo13; obtain ⟨Ao14, co14, eo14⟩ := Kd.R_slice HO332.out; subst eo14; obtain ⟨Ao15, co15, eo15⟩ := Kd.R_slice HO335.out; subst eo15) | ((with_reducible refine gate_callee (f := 37) rfl ?_); refine goesL_ (some 9) rfl rfl Try.func37 (by kernel_rfl) rfl #[.slice A0 l0.length c0, .slice A1 l1.length c1, .agg #[.slice Ao13 t327.length co13, .slice Ao14 t330.length co14, .slice Ao15 t333.length co15]] rfl z1_ ?_; (with_reducible refine (spec_RootDist.calls k _ _ l0 _ _ l1 _ _ t327 _ _ t330 _ _ t333 t336 _ ?side1 ?side2 ?side3 ?side4 ?side5 ?side6 ?side7 ?side8 ?side9 ?side10 A4.out).mono ?_); (case side1 => exact z3_); (case side2 => exact HC0.out); (case side3 => exact z8_); (case side4 => exact HC1.out); (case side5 => exact z193_); (case side6 => exact (Kd.R_reads' HO329.out).2.1); (case side7 => exact z194_); (case side8 => exact (Kd.R_reads' HO332.out).2.1); (case side9 => exact z195_); (case side10 => exact (Kd.R_reads' HO335.out).2.1); rintro e w16 ⟨rfl, hb⟩; refine ⟨_, rfl, ?_⟩; replace HO329 := Aside0.mk (Kd.R_below z249_ hb); replace HO332 := Aside0.mk (Kd.R_below z250_ hb); replace HO335 := Aside0.mk (Kd.R_below z251_ hb); replace HB := Aside0.mk (below_step z0_ hb); (try clear hb)))
   go_ret
   exact ⟨z5_, z0_⟩

/-! ### laws_toNode: function 39 -/
def laws_toNode.f (a0_0 : Int) (a0_1 : Int) : Option (Int × Int) := some (a0_0, a0_1)
set_option maxHeartbeats 8000000 in
set_option maxRecDepth 100000 in
theorem laws_toNode.calls (a0_0 : Int) (a0_1 : Int) (r1 : Int) (r2 : Int) (w : World) (h : laws_toNode.f a0_0 a0_1 = some (r1, r2)) :
  Calls Try.prog 39 #[.agg #[.int .i64 a0_0, .int .i64 a0_1]] w fun e w' => e = .returned (.agg #[.int .i64 r1, .int .i64 r2]) ∧ Below w.heap.size w w' := by
 have hu63 := Try.underlying63
 have hu61 := Try.underlying61
 have HB := Aside0.mk (Below.refl w.heap.size w)
 have H : (some (a0_0, a0_1)) = some (r1, r2) := h
 clear h
 simp only [Option.some.injEq, Prod.mk.injEq] at H
 obtain ⟨rfl, rfl⟩ := H
 go_enter Try.func39, Try.ntmps39
 go_wp2_with (first | ((with_reducible refine gate_dst (N := 1) rfl ?_); refine box_event ?hg (N := 1) ?hd (cs := #[.int .i64 a0_0, .int .i64 a0_1]) (t := 63) ?hr ?_; (case hd => rfl); (case hg => rfl); (case hr => exact z14_); intro gb337 hg w2 hbox hb; have BK337 := Aside0.mk (hbox); have GW337 := Aside0.mk ((by rw [hg]; exact (below_size z0_) : w.heap.size ≤ gb337)); have GE337 := Aside0.mk ((by rw [hg]; exact (below_size z0_) : w.heap.size ≤ gb337)); replace HB := Aside0.mk (below_step z0_ hb); clear hb hbox hg) | ((with_reducible refine gate_dst (N := 2) rfl ?_); refine box_event ?hg (N := 2) ?hd (cs := #[.int .i64 0, .int .i64 0]) (t := 61) ?hr ?_; (case hd => rfl); (case hg => rfl); (case hr => exact z14_); intro gb338 hg w3 hbox hb; have BK338 := Aside0.mk (hbox); have GW338 := Aside0.mk ((by rw [hg]; exact (below_size z158_) : w.heap.size ≤ gb338)); have GE338 := Aside0.mk ((by rw [hg]; exact (below_size z158_) : w.heap.size ≤ gb338)); replace HB := Aside0.mk (below_step z158_ hb); have NB337_338 := Aside0.mk ((by rw [hg]; exact Nat.ne_of_lt (blk_lt (g := gb337) (o := .cells #[.int .i64 a0_0, .int .i64 a0_1] 63 (0, 0)) z110_) : gb337 ≠ gb338)); have NB338_337 := Aside0.mk ((by rw [hg]; exact Nat.ne_of_gt (blk_lt (g := gb337) (o := .cells #[.int .i64 a0_0, .int .i64 a0_1] 63 (0, 0)) z110_) : gb338 ≠ gb337)); replace BK337 := Aside0.mk (blk_below (g := gb337) (o := .cells #[.int .i64 a0_0, .int .i64 a0_1] 63 (0, 0)) z110_ hb); clear hb hbox hg) | ((with_reducible refine gate_dst (N := 3) rfl ?_); refine box_event ?hg (N := 3) ?hd (cs := #[.int .i64 0, .int .i64 0]) (t := 61) ?hr ?_; (case hd => rfl); (case hg => rfl); (case hr => exact z14_); intro gb339 hg w4 hbox hb; have BK339 := Aside0.mk (hbox); have GW339 := Aside0.mk ((by rw [hg]; exact (below_size z127_) : w.heap.size ≤ gb339)); have GE339 := Aside0.mk ((by rw [hg]; exact (below_size z127_) : w.heap.size ≤ gb339)); replace HB := Aside0.mk (below_step z127_ hb); have NB337_339 := Aside0.mk ((by rw [hg]; exact Nat.ne_of_lt (blk_lt (g := gb337) (o := .cells #[.int .i64 a0_0, .int .i64 a0_1] 63 (0, 0)) z110_) : gb337 ≠ gb339)); have NB339_337 := Aside0.mk ((by rw [hg]; exact Nat.ne_of_gt (blk_lt (g := gb337) (o := .cells #[.int .i64 a0_0, .int .i64 a0_1] 63 (0, 0)) z110_) : gb339 ≠ gb337)); replace BK337 := Aside0.mk (blk_below (g := gb337) (o := .cells #[.int .i64 a0_0, .int .i64 a0_1] 63 (0, 0)) z110_ hb); have NB338_339 := Aside0.mk ((by rw [hg]; exact Nat.ne_of_lt (blk_lt (g := gb338) (o := .cells #[.int .i64 0, .int .i64 0] 61 (0, 0)) z191_) : gb338 ≠ gb339)); have NB339_338 := Aside0.mk ((by rw [hg]; exact Nat.ne_of_gt (blk_lt (g := gb338) (o := .cells #[.int .i64 0, .int .i64 0] 61 (0, 0)) z191_) : gb339 ≠ gb338)); replace BK338 := Aside0.mk (blk_below (g := gb338) (o := .cells #[.int .i64 0, .int .i64 0] 61 (0, 0)) z191_ hb); clear hb hbox hg; have hnb5 := NB337_338.out; have hnc5 := NB338_337.out; have hnb6 := NB337_339.out; have hnc6 := NB339_337.out; obtain ⟨hcz7_0, hcz7_1, hfz7_0, hfz7_1⟩ := bx2_ BK337.out; have hnb8 := NB339_338.out; have hnc8 := NB338_339.out; obtain ⟨hcz9_0, hcz9_1, hfz9_0, hfz9_1⟩ := bx2_ BK339.out; obtain ⟨hcz10_0, hcz10_1, hfz10_0, hfz10_1⟩ := bx2_ BK338.out))
 refine bodyPost_ret (results_cell_row rfl _ _ gb338 61 #[.int .i64 a0_0, .int .i64 a0_1] (0, 0) _ rfl (by (with_reducible repeat (first | refine blk_drewN ?_ _ | refine blk_drew ?_ | refine blk_alloc ?_ _)); refine blk_put (cs := #[.int .i64 a0_0, .int .i64 0]) ?_ 1 _ rfl; (with_reducible repeat (first | refine blk_drewN ?_ _ | refine blk_drew ?_ | refine blk_alloc ?_ _)); refine blk_put (cs := #[.int .i64 0, .int .i64 0]) ?_ 0 _ rfl; (with_reducible repeat (first | refine blk_drewN ?_ _ | refine blk_drew ?_ | refine blk_alloc ?_ _)); refine blk_far ?_ NB338_339.out _; (with_reducible repeat (first | refine blk_drewN ?_ _ | refine blk_drew ?_ | refine blk_alloc ?_ _)); refine blk_far ?_ NB338_339.out _; (with_reducible repeat (first | refine blk_drewN ?_ _ | refine blk_drew ?_ | refine blk_alloc ?_ _)); exact BK338.out) Try.underlying61 rfl (by kernel_rfl)) rfl ?_
 exact ⟨z5_, by repeat (first | (with_reducible first | exact HB.out | apply below_alloc | apply pw_below_drewN | apply below_drew1 | refine below_set ?_ GE337.out | refine below_set ?_ GE338.out | refine below_set ?_ GE339.out) | exact HB.out)⟩

end Go.Proofs.Ytbmkobanpakohaa.PFnExactSimilarity
