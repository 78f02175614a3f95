/- Laid by a program of this session out of the kit's print for the law FnExactMedian: what it says of the machine is proved here, function by function; each contract under the conditions that it names. -/
import Derived.Test.YtbmkobanpakohaaMFnExactMedianx0
import Derived.Test.YtbmkobanpakohaaMFnExactMedianx3
import Derived.Test.YtbmkobanpakohaaMFnExactMedianx5
import Derived.Test.YtbmkobanpakohaaMFnExactMedianx10
namespace Go.Proofs.Ytbmkobanpakohaa.PFnExactMedian
open Go.RowKit Go.Proofs.YtbmkobanpakohaaW.PrintWords Go.Proofs.YtbmkobanpakohaaW.PrintLast Go.Proofs.YtbmkobanpakohaaW.PrintMore
attribute [local go_sem] max2_int min2_int max_two min_two max_three min_three max_four min_four   -- for this text's walks alone
set_option linter.unusedVariables false
set_option linter.unusedSimpArgs false

/-! ### spec_RelCost: function 63 -/
def spec_RelCost.f (k : Nat) (l0_0 : List Int) (l0_1 : List Int) (l0_2 : List Int) (a1 : Int) (a2 : Int) : Option (Int) := (spec_CostOk.f k l0_0 l0_1 l0_2).bind fun t353 => (if t353 = true then ((spec_LabelOk.f a1).bind fun t354 => (if t354 = true then ((spec_LabelOk.f a2).bind fun t355 => (if t355 = true then (if 0 ≤ (wrap64 ((wrap64 (a1 * 6)) + a2)) then (if (wrap64 ((wrap64 (a1 * 6)) + a2)) < (l0_2.length : Int) then (some (rd l0_2 (wrap64 ((wrap64 (a1 * 6)) + a2)))) else (none)) else (none)) else (some 0))) else (some 0))) else (some 0))
set_option maxHeartbeats 8000000 in
set_option maxRecDepth 100000 in
theorem spec_RelCost.calls (k : Nat) (A0_0 : Option Addr) (c0_0 : Nat) (l0_0 : List Int) (A0_1 : Option Addr) (c0_1 : Nat) (l0_1 : List Int) (A0_2 : Option Addr) (c0_2 : Nat) (l0_2 : List Int) (a1 : Int) (a2 : Int) (r : Int) (w : World) (hr0_0 : Kd.C (Kd.int .i64) w A0_0 l0_0.length l0_0) (hc0_0 : l0_0.length ≤ c0_0) (hr0_1 : Kd.C (Kd.int .i64) w A0_1 l0_1.length l0_1) (hc0_1 : l0_1.length ≤ c0_1) (hr0_2 : Kd.C (Kd.int .i64) w A0_2 l0_2.length l0_2) (hc0_2 : l0_2.length ≤ c0_2) (h : spec_RelCost.f k l0_0 l0_1 l0_2 a1 a2 = some r) :
  Calls Try.prog 63 #[.agg #[.slice A0_0 l0_0.length c0_0, .slice A0_1 l0_1.length c0_1, .slice A0_2 l0_2.length c0_2], .int .i64 a1, .int .i64 a2] w fun e w' => e = .returned (.int .i64 r) ∧ Below w.heap.size w w' := by
 have hu38 := Try.underlying38
 have HR0_0 := Aside0.mk hr0_0
 have HC0_0 := Aside0.mk hc0_0
 clear hr0_0 hc0_0
 have HR0_1 := Aside0.mk hr0_1
 have HC0_1 := Aside0.mk hc0_1
 clear hr0_1 hc0_1
 have HR0_2 := Aside0.mk hr0_2
 have HC0_2 := Aside0.mk hc0_2
 clear hr0_2 hc0_2
 have HB := Aside0.mk (Below.refl w.heap.size w)
 have H : ((spec_CostOk.f k l0_0 l0_1 l0_2).bind fun t353 => (if t353 = true then ((spec_LabelOk.f a1).bind fun t354 => (if t354 = true then ((spec_LabelOk.f a2).bind fun t355 => (if t355 = true then (if 0 ≤ (wrap64 ((wrap64 (a1 * 6)) + a2)) then (if (wrap64 ((wrap64 (a1 * 6)) + a2)) < (l0_2.length : Int) then (some (rd l0_2 (wrap64 ((wrap64 (a1 * 6)) + a2)))) else (none)) else (none)) else (some 0))) else (some 0))) else (some 0))) = some r := h
 clear h
 obtain ⟨t353, A4, H⟩ := bnd_ H
 by_cases c5 : t353 = true
 ·subst c5
  replace H := ift_ H
  obtain ⟨t354, A6, H⟩ := bnd_ H
  by_cases c7 : t354 = true
  ·subst c7
   replace H := ift_ H
   obtain ⟨t355, A8, H⟩ := bnd_ H
   by_cases c9 : t355 = true
   ·subst c9
    replace H := ift_ H
    obtain ⟨ji10, hji10⟩ : ∃ j_ : Int, (wrap64 ((wrap64 (a1 * 6)) + a2)) = j_ := ⟨_, rfl⟩
    first | rw [hji10] at H | simp only [hji10] at H
    (try rw [hji10] at A4)
    (try rw [hji10] at A6)
    (try rw [hji10] at A8)
    have hji10w : (IntKind.i64.wrap ((wrap64 (a1 * 6)) + a2)) = ji10 := (i64_w _).trans hji10
    obtain ⟨c11b0, H⟩ := ifd_ H
    obtain ⟨c12b0, H⟩ := ifd_ H
    obtain rfl := Option.some.inj H
    go_enter Try.func63, Try.ntmps63
    go_wp2_with (first | ((with_reducible refine gate_dst (N := 3) rfl ?_); refine box_event ?hg (N := 3) ?hd (cs := #[.slice A0_0 l0_0.length c0_0, .slice A0_1 l0_1.length c0_1, .slice A0_2 l0_2.length c0_2]) (t := 38) ?hr ?_; (case hd => rfl); (case hg => rfl); (case hr => exact z9_); intro gb352 hg w13 hbox hb; have BK352 := Aside0.mk (hbox); have GW352 := Aside0.mk ((by rw [hg]; exact (below_size z0_) : w.heap.size ≤ gb352)); have GE352 := Aside0.mk ((by rw [hg]; exact (below_size z0_) : w.heap.size ≤ gb352)); replace HB := Aside0.mk (below_step z0_ hb); clear hb hbox hg; obtain ⟨hcz14_0, hcz14_1, hcz14_2, hfz14_0, hfz14_1, hfz14_2⟩ := bx3_ BK352.out) | ((with_reducible refine gate_callee (f := 79) rfl ?_); refine goesL_ (some 8) rfl rfl Try.func79 (by kernel_rfl) rfl #[.agg #[.slice A0_0 l0_0.length c0_0, .slice A0_1 l0_1.length c0_1, .slice A0_2 l0_2.length c0_2]] rfl z1_ ?_; (with_reducible refine (spec_CostOk.calls k _ _ l0_0 _ _ l0_1 _ _ l0_2 true _ ?side1 ?side2 ?side3 ?side4 ?side5 ?side6 A4.out).mono ?_); (case side1 => exact z12_); (case side2 => exact HC0_0.out); (case side3 => exact z60_); (case side4 => exact HC0_1.out); (case side5 => exact z61_); (case side6 => exact HC0_2.out); rintro e w15 ⟨rfl, hb⟩; refine ⟨_, rfl, ?_⟩; replace BK352 := Aside0.mk (blk_below z157_ hb); replace HB := Aside0.mk (below_step z67_ hb); (try clear hb)) | (go_at_call 54; (with_reducible refine (spec_LabelOk.calls a1 true _ A6.out).mono ?_); rintro e w' ⟨rfl, ⟨nd, rfl⟩⟩) | (go_at_call 54; (with_reducible refine (spec_LabelOk.calls a2 true _ A8.out).mono ?_); rintro e w' ⟨rfl, ⟨nd, rfl⟩⟩; obtain ⟨hcz16_0, hcz16_1, hcz16_2, hfz16_0, hfz16_1, hfz16_2⟩ := bx3_ BK352.out; have p356 : 0 ≤ ((ji10) : Int) := odt_; have q356 : (ji10) < (l0_2.length : Int) := odt_; obtain ⟨ad356, e356, hx356_0⟩ := Kd.at_int HR0_2.out (ji10) p356 q356; cases e356; replace hx356_0 := (HB.out.cell (World.block_lt_of_cell? w _ hx356_0)).trans hx356_0; replace p356 := eq_true p356; replace q356 := eq_true q356))
    go_ret
    exact ⟨z189_, z67_⟩
   ·replace c9 := Bool.eq_false_iff.mpr c9
    subst c9
    replace H := iff_ H
    obtain rfl := Option.some.inj H
    go_enter Try.func63, Try.ntmps63
    go_wp2_with (first | ((with_reducible refine gate_dst (N := 3) rfl ?_); refine box_event ?hg (N := 3) ?hd (cs := #[.slice A0_0 l0_0.length c0_0, .slice A0_1 l0_1.length c0_1, .slice A0_2 l0_2.length c0_2]) (t := 38) ?hr ?_; (case hd => rfl); (case hg => rfl); (case hr => exact z9_); intro gb352 hg w17 hbox hb; have BK352 := Aside0.mk (hbox); have GW352 := Aside0.mk ((by rw [hg]; exact (below_size z0_) : w.heap.size ≤ gb352)); have GE352 := Aside0.mk ((by rw [hg]; exact (below_size z0_) : w.heap.size ≤ gb352)); replace HB := Aside0.mk (below_step z0_ hb); clear hb hbox hg; obtain ⟨hcz18_0, hcz18_1, hcz18_2, hfz18_0, hfz18_1, hfz18_2⟩ := bx3_ BK352.out) | ((with_reducible refine gate_callee (f := 79) rfl ?_); refine goesL_ (some 8) rfl rfl Try.func79 (by kernel_rfl) rfl #[.agg #[.slice A0_0 l0_0.length c0_0, .slice A0_1 l0_1.length c0_1, .slice A0_2 l0_2.length c0_2]] rfl z1_ ?_; (with_reducible refine (spec_CostOk.calls k _ _ l0_0 _ _ l0_1 _ _ l0_2 true _ ?side1 ?side2 ?side3 ?side4 ?side5 ?side6 A4.out).mono ?_); (case side1 => exact z12_); (case side2 => exact HC0_0.out); (case side3 => exact z60_); (case side4 => exact HC0_1.out); (case side5 => exact z61_); (case side6 => exact HC0_2.out); rintro e w19 ⟨rfl, hb⟩; refine ⟨_, rfl, ?_⟩; replace BK352 := Aside0.mk (blk_below z157_ hb); replace HB := Aside0.mk (below_step z67_ hb); (try clear hb)) | (go_at_call 54; (with_reducible refine (spec_LabelOk.calls a1 true _ A6.out).mono ?_); rintro e w' ⟨rfl, ⟨nd, rfl⟩⟩) | (go_at_call 54; (with_reducible refine (spec_LabelOk.calls a2 false _ A8.out).mono ?_); rintro e w' ⟨rfl, ⟨nd, rfl⟩⟩))
    go_ret
    exact ⟨z5_, z67_⟩
  ·replace c7 := Bool.eq_false_iff.mpr c7
   subst c7
   replace H := iff_ H
   obtain rfl := Option.some.inj H
   go_enter Try.func63, Try.ntmps63
   go_wp2_with (first | ((with_reducible refine gate_dst (N := 3) rfl ?_); refine box_event ?hg (N := 3) ?hd (cs := #[.slice A0_0 l0_0.length c0_0, .slice A0_1 l0_1.length c0_1, .slice A0_2 l0_2.length c0_2]) (t := 38) ?hr ?_; (case hd => rfl); (case hg => rfl); (case hr => exact z9_); intro gb352 hg w20 hbox hb; have BK352 := Aside0.mk (hbox); have GW352 := Aside0.mk ((by rw [hg]; exact (below_size z0_) : w.heap.size ≤ gb352)); have GE352 := Aside0.mk ((by rw [hg]; exact (below_size z0_) : w.heap.size ≤ gb352)); replace HB := Aside0.mk (below_step z0_ hb); clear hb hbox hg; obtain ⟨hcz21_0, hcz21_1, hcz21_2, hfz21_0, hfz21_1, hfz21_2⟩ := bx3_ BK352.out) | ((with_reducible refine gate_callee (f := 79) rfl ?_); refine goesL_ (some 8) rfl rfl Try.func79 (by kernel_rfl) rfl #[.agg #[.slice A0_0 l0_0.length c0_0, .slice A0_1 l0_1.length c0_1, .slice A0_2 l0_2.length c0_2]] rfl z1_ ?_; (with_reducible refine (spec_CostOk.calls k _ _ l0_0 _ _ l0_1 _ _ l0_2 true _ ?side1 ?side2 ?side3 ?side4 ?side5 ?side6 A4.out).mono ?_); (case side1 => exact z12_); (case side2 => exact HC0_0.out); (case side3 => exact z60_); (case side4 => exact HC0_1.out); (case side5 => exact z61_); (case side6 => exact HC0_2.out); rintro e w22 ⟨rfl, hb⟩; refine ⟨_, rfl, ?_⟩; replace BK352 := Aside0.mk (blk_below z157_ hb); replace HB := Aside0.mk (below_step z67_ hb); (try clear hb)) | (go_at_call 54; (with_reducible refine (spec_LabelOk.calls a1 false _ A6.out).mono ?_); rintro e w' ⟨rfl, ⟨nd, rfl⟩⟩))
   go_ret
   exact ⟨z5_, z67_⟩
 ·replace c5 := Bool.eq_false_iff.mpr c5
  subst c5
  replace H := iff_ H
  obtain rfl := Option.some.inj H
  go_enter Try.func63, Try.ntmps63
  go_wp2_with (first | ((with_reducible refine gate_dst (N := 3) rfl ?_); refine box_event ?hg (N := 3) ?hd (cs := #[.slice A0_0 l0_0.length c0_0, .slice A0_1 l0_1.length c0_1, .slice A0_2 l0_2.length c0_2]) (t := 38) ?hr ?_; (case hd => rfl); (case hg => rfl); (case hr => exact z9_); intro gb352 hg w23 hbox hb; have BK352 := Aside0.mk (hbox); have GW352 := Aside0.mk ((by rw [hg]; exact (below_size z0_) : w.heap.size ≤ gb352)); have GE352 := Aside0.mk ((by rw [hg]; exact (below_size z0_) : w.heap.size ≤ gb352)); replace HB := Aside0.mk (below_step z0_ hb); clear hb hbox hg; obtain ⟨hcz24_0, hcz24_1, hcz24_2, hfz24_0, hfz24_1, hfz24_2⟩ := bx3_ BK352.out) | ((with_reducible refine gate_callee (f := 79) rfl ?_); refine goesL_ (some 8) rfl rfl Try.func79 (by kernel_rfl) rfl #[.agg #[.slice A0_0 l0_0.length c0_0, .slice A0_1 l0_1.length c0_1, .slice A0_2 l0_2.length c0_2]] rfl z1_ ?_; (with_reducible refine (spec_CostOk.calls k _ _ l0_0 _ _ l0_1 _ _ l0_2 false _ ?side1 ?side2 ?side3 ?side4 ?side5 ?side6 A4.out).mono ?_); (case side1 => exact z12_); (case side2 => exact HC0_0.out); (case side3 => exact z60_); (case side4 => exact HC0_1.out); (case side5 => exact z61_); (case side6 => exact HC0_2.out); rintro e w25 ⟨rfl, hb⟩; refine ⟨_, rfl, ?_⟩; replace BK352 := Aside0.mk (blk_below z157_ hb); replace HB := Aside0.mk (below_step z67_ hb); (try clear hb)))
  go_ret
  exact ⟨z5_, z67_⟩

/-! ### spec_RootDist: function 37 -/
def spec_RootDist.f (k : Nat) (l0 : List (S61)) (l1 : List (S61)) (l2_0 : List Int) (l2_1 : List Int) (l2_2 : List Int) : Option (Int) := (spec_l8Three.f k l0 l1 l2_0 l2_1 l2_2).bind fun t358 => (if t358 = true then ((spec_l8All.f k l0 l1 l2_0 l2_1 l2_2).bind fun bt359 => (if 0 ≤ (wrap64 ((wrap64 ((wrap64 ((wrap64 ((l0.length : Int) - 1)) * (wrap64 ((l1.length : Int) + 1)))) + (l1.length : Int))) - 1)) then (if (wrap64 ((wrap64 ((wrap64 ((wrap64 ((l0.length : Int) - 1)) * (wrap64 ((l1.length : Int) + 1)))) + (l1.length : Int))) - 1)) < (bt359.2.length : Int) then (if 0 < (l0.length : Int) then (if 0 < (l1.length : Int) then ((spec_RelCost.f k l2_0 l2_1 l2_2 ((rd_T61 l0 0).f0) ((rd_T61 l1 0).f0)).bind fun t368 => (some (wrap64 ((rd bt359.2 (wrap64 ((wrap64 ((wrap64 ((wrap64 ((l0.length : Int) - 1)) * (wrap64 ((l1.length : Int) + 1)))) + (l1.length : Int))) - 1))) + t368)))) else (none)) else (none)) else (none)) else (none))) else (some (-1)))
def spec_RootDist.T5 : Bool × List (List Nat × List Nat) := (true, [([], []), ([], []), ([1], [1]), ([2], [2]), ([], []), ([3, 4], [3, 4]), ([], []), ([6], [6]), ([5, 7], [5, 7]), ([8], [8]), ([0, 9], [0, 9]), ([10], [10]), ([], []), ([], []), ([13], [13]), ([14], [14]), ([15], [15]), ([], []), ([17], [17]), ([18], [18]), ([19], [19]), ([12, 16, 20], [12, 16, 20]), ([11, 21], [11, 21]), ([22, 21, 0, 1, 2, 3, 4, 5, 6, 7, 8, 9, 10, 11, 12, 13, 14, 15, 16, 17, 18, 19, 20, 21, 22], [22])])
def spec_RootDist.B5 : List Nat := [0, 0, 2, 6, 0, 30, 0, 64, 254, 510, 1023, 2047, 0, 0, 8192, 24576, 57344, 0, 131072, 393216, 917504, 2093056, 4194303, 8388607]
theorem spec_RootDist.tab5 : rtab .any (opsOf Try.f37 5) = spec_RootDist.T5 := by kernel_rfl
theorem spec_RootDist.bits5 : waitsOk spec_RootDist.T5.2 spec_RootDist.B5 = true := by kernel_rfl
set_option maxHeartbeats 8000000 in
set_option maxRecDepth 100000 in
theorem spec_RootDist.calls (k : Nat) (A0 : Option Addr) (c0 : Nat) (l0 : List (S61)) (A1 : Option Addr) (c1 : Nat) (l1 : List (S61)) (A2_0 : Option Addr) (c2_0 : Nat) (l2_0 : List Int) (A2_1 : Option Addr) (c2_1 : Nat) (l2_1 : List Int) (A2_2 : Option Addr) (c2_2 : Nat) (l2_2 : List Int) (r : Int) (w : World) (hr0 : Kd.C k61 w A0 l0.length l0) (hc0 : l0.length ≤ c0) (hr1 : Kd.C k61 w A1 l1.length l1) (hc1 : l1.length ≤ c1) (hr2_0 : Kd.C (Kd.int .i64) w A2_0 l2_0.length l2_0) (hc2_0 : l2_0.length ≤ c2_0) (hr2_1 : Kd.C (Kd.int .i64) w A2_1 l2_1.length l2_1) (hc2_1 : l2_1.length ≤ c2_1) (hr2_2 : Kd.C (Kd.int .i64) w A2_2 l2_2.length l2_2) (hc2_2 : l2_2.length ≤ c2_2) (h : spec_RootDist.f k l0 l1 l2_0 l2_1 l2_2 = some r) :
  Calls Try.prog 37 #[.slice A0 l0.length c0, .slice A1 l1.length c1, .agg #[.slice A2_0 l2_0.length c2_0, .slice A2_1 l2_1.length c2_1, .slice A2_2 l2_2.length c2_2]] w fun e w' => e = .returned (.int .i64 r) ∧ Below w.heap.size w w' := by
 have hu38 := Try.underlying38
 have HR0 := Aside0.mk hr0
 have HC0 := Aside0.mk hc0
 clear hr0 hc0
 have HR1 := Aside0.mk hr1
 have HC1 := Aside0.mk hc1
 clear hr1 hc1
 have HR2_0 := Aside0.mk hr2_0
 have HC2_0 := Aside0.mk hc2_0
 clear hr2_0 hc2_0
 have HR2_1 := Aside0.mk hr2_1
 have HC2_1 := Aside0.mk hc2_1
 clear hr2_1 hc2_1
 have HR2_2 := Aside0.mk hr2_2
 have HC2_2 := Aside0.mk hc2_2
 clear hr2_2 hc2_2
 have HB := Aside0.mk (Below.refl w.heap.size w)
 have H : ((spec_l8Three.f k l0 l1 l2_0 l2_1 l2_2).bind fun t358 => (if t358 = true then ((spec_l8All.f k l0 l1 l2_0 l2_1 l2_2).bind fun bt359 => (if 0 ≤ (wrap64 ((wrap64 ((wrap64 ((wrap64 ((l0.length : Int) - 1)) * (wrap64 ((l1.length : Int) + 1)))) + (l1.length : Int))) - 1)) then (if (wrap64 ((wrap64 ((wrap64 ((wrap64 ((l0.length : Int) - 1)) * (wrap64 ((l1.length : Int) + 1)))) + (l1.length : Int))) - 1)) < (bt359.2.length : Int) then (if 0 < (l0.length : Int) then (if 0 < (l1.length : Int) then ((spec_RelCost.f k l2_0 l2_1 l2_2 ((rd_T61 l0 0).f0) ((rd_T61 l1 0).f0)).bind fun t368 => (some (wrap64 ((rd bt359.2 (wrap64 ((wrap64 ((wrap64 ((wrap64 ((l0.length : Int) - 1)) * (wrap64 ((l1.length : Int) + 1)))) + (l1.length : Int))) - 1))) + t368)))) else (none)) else (none)) else (none)) else (none))) else (some (-1)))) = some r := h
 clear h
 obtain ⟨t358, A4, H⟩ := bnd_ H
 by_cases c5 : t358 = true
 ·subst c5
  replace H := ift_ H
  replace H := Option.bind_eq_some_iff.mp H
  obtain ⟨⟨t359, t362⟩, A60, H⟩ := H
  try dsimp only at H
  have A6 := Aside0.mk A60
  clear A60
  obtain ⟨ji7, hji7⟩ : ∃ j_ : Int, (wrap64 ((wrap64 ((wrap64 ((wrap64 ((l0.length : Int) - 1)) * (wrap64 ((l1.length : Int) + 1)))) + (l1.length : Int))) - 1)) = j_ := ⟨_, rfl⟩
  first | rw [hji7] at H | simp only [hji7] at H
  (try rw [hji7] at A4)
  (try rw [hji7] at A6)
  have hji7w : (IntKind.i64.wrap ((wrap64 ((wrap64 ((wrap64 ((l0.length : Int) - 1)) * (wrap64 ((l1.length : Int) + 1)))) + (l1.length : Int))) - 1)) = ji7 := (i64_w _).trans hji7
  obtain ⟨c8b0, H⟩ := ifd_ H
  obtain ⟨c9b0, H⟩ := ifd_ H
  obtain ⟨c10, H⟩ := ifs_ H
  have c10b0 := decide_eq_true c10
  have c10b1 : decide (0 < l0.length) = true := decide_eq_true (by omega)
  clear c10
  obtain ⟨c11, H⟩ := ifs_ H
  have c11b0 := decide_eq_true c11
  have c11b1 : decide (0 < l1.length) = true := decide_eq_true (by omega)
  clear c11
  obtain ⟨t368, A12, H⟩ := bnd_ H
  obtain rfl := Option.some.inj H
  go_enter Try.func37, Try.ntmps37
  try go_wp2_with (first | ((with_reducible refine gate_dst (N := 5) rfl ?_); refine box_event ?hg (N := 5) ?hd (cs := #[.slice A2_0 l2_0.length c2_0, .slice A2_1 l2_1.length c2_1, .slice A2_2 l2_2.length c2_2]) (t := 38) ?hr ?_; (case hd => rfl); (case hg => rfl); (case hr => exact z9_); intro gb357 hg w13 hbox hb; have BK357 := Aside0.mk (hbox); have GW357 := Aside0.mk ((by rw [hg]; exact (below_size z0_) : w.heap.size ≤ gb357)); have GE357 := Aside0.mk ((by rw [hg]; exact (below_size z0_) : w.heap.size ≤ gb357)); replace HB := Aside0.mk (below_step z0_ hb); clear hb hbox hg; obtain ⟨hcz14_0, hcz14_1, hcz14_2, hfz14_0, hfz14_1, hfz14_2⟩ := bx3_ BK357.out) | ((with_reducible refine gate_callee (f := 61) rfl ?_); refine goesL_ (some 13) rfl rfl Try.func61 (by kernel_rfl) rfl #[.slice A0 l0.length c0, .slice A1 l1.length c1, .agg #[.slice A2_0 l2_0.length c2_0, .slice A2_1 l2_1.length c2_1, .slice A2_2 l2_2.length c2_2]] rfl z1_ ?_; (with_reducible refine (spec_l8Three.calls k _ _ l0 _ _ l1 _ _ l2_0 _ _ l2_1 _ _ l2_2 true _ ?side1 ?side2 ?side3 ?side4 ?side5 ?side6 ?side7 ?side8 ?side9 ?side10 A4.out).mono ?_); (case side1 => exact z3_); (case side2 => exact HC0.out); (case side3 => exact z22_); (case side4 => exact HC1.out); (case side5 => exact z43_); (case side6 => exact HC2_0.out); (case side7 => exact z44_); (case side8 => exact HC2_1.out); (case side9 => exact z45_); (case side10 => exact HC2_2.out); rintro e w15 ⟨rfl, hb⟩; refine ⟨_, rfl, ?_⟩; replace BK357 := Aside0.mk (blk_below z158_ hb); replace HB := Aside0.mk (below_step z68_ hb); (try clear hb); obtain ⟨hcz16_0, hcz16_1, hcz16_2, hfz16_0, hfz16_1, hfz16_2⟩ := bx3_ BK357.out) | ((with_reducible refine gate_callee (f := 62) rfl ?_); refine goesL_ (some 19) rfl rfl Try.func62 (by kernel_rfl) rfl #[.slice A0 l0.length c0, .slice A1 l1.length c1, .agg #[.slice A2_0 l2_0.length c2_0, .slice A2_1 l2_1.length c2_1, .slice A2_2 l2_2.length c2_2]] rfl z1_ ?_; (with_reducible refine (spec_l8All.calls k _ _ l0 _ _ l1 _ _ l2_0 _ _ l2_1 _ _ l2_2 t359 t362 _ ?side1 ?side2 ?side3 ?side4 ?side5 ?side6 ?side7 ?side8 ?side9 ?side10 A6.out).mono ?_); (case side1 => exact z3_); (case side2 => exact HC0.out); (case side3 => exact z22_); (case side4 => exact HC1.out); (case side5 => exact z43_); (case side6 => exact HC2_0.out); (case side7 => exact z44_); (case side8 => exact HC2_1.out); (case side9 => exact z45_); (case side10 => exact HC2_2.out); rintro e w17 ⟨v360, v363, rfl, ho0, ho1, hb⟩; refine ⟨_, rfl, ?_⟩; have HO361 := Aside0.mk (Kd.R_lower ho0 (below_size z68_)); have HO364 := Aside0.mk (Kd.R_lower ho1 (below_size z68_)); replace BK357 := Aside0.mk (blk_below z158_ hb); replace HB := Aside0.mk (below_step z68_ hb); (try clear hb ho0 ho1)))
  have n0_ := Aside0.mk (Kd.R_drew HO361.out)
  have n1_ := Aside0.mk (Kd.R_drew HO364.out)
  have n2_ := Aside0.mk (blk_drew BK357.out)
  have n3_ := Aside0.mk (below_drew1 HB.out)
  clear HO361
  clear HO364
  clear BK357
  clear HB
  have HO361 := n0_
  have HO364 := n1_
  have BK357 := n2_
  have HB := n3_
  clear n0_ n1_ n2_ n3_
  obtain ⟨Ao19, co19, eo19⟩ := Kd.R_slice HO364.out
  (first | subst eo19 | (injection eo19 with f1_ f2_ f3_; have f4_ := f1_.symm; have f5_ := f3_.symm; clear f1_ f2_ f3_; subst f4_; subst f5_))
  have p365 : 0 ≤ ((ji7) : Int) := odt_
  have q365 : (ji7) < (t362.length : Int) := odt_
  obtain ⟨ad365, e365, hx365_0⟩ := Kd.at_int (Kd.R_reads' HO364.out).2.2 (ji7) p365 q365
  cases e365
  replace p365 := eq_true p365
  replace q365 := eq_true q365
  have p366 : 0 ≤ (0 : Int) := (by omega)
  have q366 : 0 < (l0.length : Int) := odt_
  obtain ⟨ad366, e366, hx366_0, hx366_1⟩ := at_T61 HR0.out 0 p366 q366
  have hw366_1 := hx366_1
  (try rw [show ((0 : Int)).toNat = 0 from rfl] at hw366_1)
  (try rw [show 0 * 2 = 0 from rfl] at hw366_1)
  (try rw [Addr.add_zero'] at hw366_1)
  have hw366_0 := hx366_0
  (try rw [show ((0 : Int)).toNat = 0 from rfl] at hw366_0)
  (try rw [show 0 * 2 = 0 from rfl] at hw366_0)
  (try rw [Addr.add_zero'] at hw366_0)
  cases e366
  have qi366 : (0 < l0.length) = True := eq_true (by omega)
  (try rw [show ((0 : Int)).toNat = 0 from rfl] at hx366_0)
  (try rw [show 0 * 2 = 0 from rfl] at hx366_0)
  (try rw [Addr.add_zero'] at hx366_0)
  (try rw [show ((0 : Int)).toNat = 0 from rfl] at hx366_1)
  (try rw [show 0 * 2 = 0 from rfl] at hx366_1)
  (try rw [Addr.add_zero'] at hx366_1)
  replace hx366_0 := (HB.out.cell (World.block_lt_of_cell? w _ hx366_0)).trans hx366_0
  replace hx366_1 := (HB.out.cell (World.block_lt_of_cell? w _ hx366_1)).trans hx366_1
  replace p366 := eq_true p366
  replace q366 := eq_true q366
  have p367 : 0 ≤ (0 : Int) := (by omega)
  have q367 : 0 < (l1.length : Int) := odt_
  obtain ⟨ad367, e367, hx367_0, hx367_1⟩ := at_T61 HR1.out 0 p367 q367
  have hw367_1 := hx367_1
  (try rw [show ((0 : Int)).toNat = 0 from rfl] at hw367_1)
  (try rw [show 0 * 2 = 0 from rfl] at hw367_1)
  (try rw [Addr.add_zero'] at hw367_1)
  have hw367_0 := hx367_0
  (try rw [show ((0 : Int)).toNat = 0 from rfl] at hw367_0)
  (try rw [show 0 * 2 = 0 from rfl] at hw367_0)
  (try rw [Addr.add_zero'] at hw367_0)
  cases e367
  have qi367 : (0 < l1.length) = True := eq_true (by omega)
  (try rw [show ((0 : Int)).toNat = 0 from rfl] at hx367_0)
  (try rw [show 0 * 2 = 0 from rfl] at hx367_0)
  (try rw [Addr.add_zero'] at hx367_0)
  (try rw [show ((0 : Int)).toNat = 0 from rfl] at hx367_1)
  (try rw [show 0 * 2 = 0 from rfl] at hx367_1)
  (try rw [Addr.add_zero'] at hx367_1)
  replace hx367_0 := (HB.out.cell (World.block_lt_of_cell? w _ hx367_0)).trans hx367_0
  replace hx367_1 := (HB.out.cell (World.block_lt_of_cell? w _ hx367_1)).trans hx367_1
  replace p367 := eq_true p367
  replace q367 := eq_true q367
  refine start_ (n := 24) (S := fun w' => w'.cell? ⟨gb357, 0, none⟩ = some (.slice A2_0 l2_0.length c2_0) ∧ w'.cell? ⟨gb357, 1, none⟩ = some (.slice A2_1 l2_1.length c2_1) ∧ w'.cell? ⟨gb357, 2, none⟩ = some (.slice A2_2 l2_2.length c2_2) ∧ w'.cell? (ad365.add ((ji7)).toNat) = some (.int .i64 (rd t362 (ji7))) ∧ w'.cell? ad366 = some (.int .i64 ((rd_T61 l0 0).f0)) ∧ w'.cell? ⟨ad366.block, ad366.off + 1, none⟩ = some (.int .i64 ((rd_T61 l0 0).f1)) ∧ w'.cell? ad367 = some (.int .i64 ((rd_T61 l1 0).f0)) ∧ w'.cell? ⟨ad367.block, ad367.off + 1, none⟩ = some (.int .i64 ((rd_T61 l1 0).f1))) (ds := []) (fl_ 24 0) (by kernel_rfl) rfl (fl_zero _) ⟨(blk_cell BK357.out 0).trans rfl, (blk_cell BK357.out 1).trans rfl, (blk_cell BK357.out 2).trans rfl, hx365_0, ((HB.out.cell (World.block_lt_of_cell? w _ hw366_0)).trans hw366_0), ((HB.out.cell (World.block_lt_of_cell? w _ hw366_1)).trans hw366_1), ((HB.out.cell (World.block_lt_of_cell? w _ hw367_0)).trans hw367_0), ((HB.out.cell (World.block_lt_of_cell? w _ hw367_1)).trans hw367_1)⟩ (fun hHeld => ?_); refine with_tabW spec_RootDist.tab5 spec_RootDist.bits5 (fun HT_ HW_ => ?_)
  generalize w17.drew = w18 at HO361 HO364 BK357 HB hx365_0 hx366_0 hx366_1 hx367_0 hx367_1 hHeld ⊢
  iterate 11 refine zp_ HT_ rfl rfl (by kernel_rfl) (fun _ _ _ h => h) (by rfl) ?_
  refine zpg_ (i := 13) (ra_ [11, 2, 1, 10]) HT_ rfl rfl (by kernel_rfl) (fun _ _ _ h => h) (by rfl) ?_
  refine zpg_ (i := 14) (ra_ [11, 2, 2, 9]) HT_ rfl rfl (by kernel_rfl) (fun _ _ _ h => h) (by rfl) ?_
  refine zpg_ (i := 15) (ra_ [11, 2, 3, 8]) HT_ rfl rfl (by kernel_rfl) (fun _ _ _ h => h) (by rfl) ?_
  refine zpg_ (i := 17) (ra_ [11, 2, 3, 1, 1, 6]) HT_ rfl rfl (by kernel_rfl) (fun _ _ _ h => h) (by rfl) ?_
  refine zpg_ (i := 18) (ra_ [11, 2, 3, 1, 2, 5]) HT_ rfl rfl (by kernel_rfl) (fun _ _ _ h => h) (by rfl) ?_
  refine zpg_ (i := 19) (ra_ [11, 2, 3, 1, 3, 4]) HT_ rfl rfl (by kernel_rfl) (fun _ _ _ h => h) (by rfl) ?_
  refine ztg_ (i := 11) (ra_ [12, 1, 3, 1, 3, 4]) HT_ HW_ rfl rfl (by kernel_rfl) (fun _ _ _ h => h) (by rfl) hHeld ?_ z128_
  refine ztg_ (i := 12) (ra_ [16, 1, 3, 4]) HT_ HW_ rfl rfl (by kernel_rfl) (fun _ _ _ h => h) (by rfl) hHeld ?_ z128_
  refine ztg_ (i := 16) (fl_ 24 20) HT_ HW_ rfl rfl (by kernel_rfl) (fun _ _ _ h => h) (by rfl) hHeld ?_ z128_
  refine zt_ HT_ HW_ rfl rfl (by kernel_rfl) (fun _ _ _ h => h) (by rfl) hHeld ?_ z128_
  refine one_ (i := 21) (N := some 46) (fl_ 24 22) rfl rfl (one_of HT_.out (by kernel_rfl)) (by decide) (fun K hK => ?_)
  refine goes_ Try.func63 (by kernel_rfl) rfl #[.agg #[.slice A2_0 l2_0.length c2_0, .slice A2_1 l2_1.length c2_1, .slice A2_2 l2_2.length c2_2], .int .i64 ((rd_T61 l0 0).f0), .int .i64 ((rd_T61 l1 0).f0)] (by rfl) rfl rfl z1_ ?_
  with_reducible refine (spec_RelCost.calls k _ _ l2_0 _ _ l2_1 _ _ l2_2 ((rd_T61 l0 0).f0) ((rd_T61 l1 0).f0) t368 _ ?side1 ?side2 ?side3 ?side4 ?side5 ?side6 A12.out).mono ?_
  (case side1 => exact z43_)
  (case side2 => exact HC2_0.out)
  (case side3 => exact z44_)
  (case side4 => exact HC2_1.out)
  (case side5 => exact z45_)
  (case side6 => exact HC2_2.out)
  rintro e w20 ⟨rfl, hb⟩
  have HS3_ := (hb.cell (World.block_lt_of_cell? _ _ (hHeld.2.2.2.1))).trans (hHeld.2.2.2.1)
  refine ⟨_, rfl, ?_⟩
  have n0_ := Aside0.mk (Kd.R_below (by (with_reducible repeat (first | apply Kd.R_alloc | apply Kd.R_drewN | apply Kd.R_drew)); exact HO361.out) hb)
  have n1_ := Aside0.mk (Kd.R_below (by (with_reducible repeat (first | apply Kd.R_alloc | apply Kd.R_drewN | apply Kd.R_drew)); exact HO364.out) hb)
  have n2_ := Aside0.mk (blk_below z158_ hb)
  have n3_ := Aside0.mk (below_step z68_ hb)
  clear HO361
  clear HO364
  clear BK357
  clear HB
  have HO361 := n0_
  have HO364 := n1_
  have BK357 := n2_
  have HB := n3_
  clear n0_ n1_ n2_ n3_
  (try clear hb)
  (try clear hb2)
  (try clear hk)
  (try clear hi)
  refine hK.out _ _ ⟨(blk_cell BK357.out 0).trans rfl, (blk_cell BK357.out 1).trans rfl, (blk_cell BK357.out 2).trans rfl, HS3_, ((HB.out.cell (World.block_lt_of_cell? w _ hw366_0)).trans hw366_0), ((HB.out.cell (World.block_lt_of_cell? w _ hw366_1)).trans hw366_1), ((HB.out.cell (World.block_lt_of_cell? w _ hw367_0)).trans hw367_0), ((HB.out.cell (World.block_lt_of_cell? w _ hw367_1)).trans hw367_1)⟩ (fun hHeld => ?_)
  clear hK K
  refine zn_ rfl ?_
  iterate 2 refine zp_ HT_ rfl rfl (by kernel_rfl) (fun _ _ _ h => h) (by rfl) ?_
  refine done_ (done_of HT_.out (by kernel_rfl)) ?_
  try go_wp2
  go_ret
  exact ⟨by first | rfl | (simp [errW_none, errW_some] <;> rfl) | (simp only [← hji7]; first | rfl | (simp [errW_none, errW_some] <;> rfl)) | (simp [*, errW_none, errW_some] <;> rfl), z68_⟩
 ·replace c5 := Bool.eq_false_iff.mpr c5
  subst c5
  replace H := iff_ H
  obtain rfl := Option.some.inj H
  go_enter Try.func37, Try.ntmps37
  go_wp2_with (first | ((with_reducible refine gate_dst (N := 5) rfl ?_); refine box_event ?hg (N := 5) ?hd (cs := #[.slice A2_0 l2_0.length c2_0, .slice A2_1 l2_1.length c2_1, .slice A2_2 l2_2.length c2_2]) (t := 38) ?hr ?_; (case hd => rfl); (case hg => rfl); (case hr => exact z9_); intro gb357 hg w21 hbox hb; have BK357 := Aside0.mk (hbox); have GW357 := Aside0.mk ((by rw [hg]; exact (below_size z0_) : w.heap.size ≤ gb357)); have GE357 := Aside0.mk ((by rw [hg]; exact (below_size z0_) : w.heap.size ≤ gb357)); replace HB := Aside0.mk (below_step z0_ hb); clear hb hbox hg; obtain ⟨hcz22_0, hcz22_1, hcz22_2, hfz22_0, hfz22_1, hfz22_2⟩ := bx3_ BK357.out) | ((with_reducible refine gate_callee (f := 61) rfl ?_); refine goesL_ (some 13) rfl rfl Try.func61 (by kernel_rfl) rfl #[.slice A0 l0.length c0, .slice A1 l1.length c1, .agg #[.slice A2_0 l2_0.length c2_0, .slice A2_1 l2_1.length c2_1, .slice A2_2 l2_2.length c2_2]] rfl z1_ ?_; (with_reducible refine (spec_l8Three.calls k _ _ l0 _ _ l1 _ _ l2_0 _ _ l2_1 _ _ l2_2 false _ ?side1 ?side2 ?side3 ?side4 ?side5 ?side6 ?side7 ?side8 ?side9 ?side10 A4.out).mono ?_); (case side1 => exact z3_); (case side2 => exact HC0.out); (case side3 => exact z22_); (case side4 => exact HC1.out); (case side5 => exact z43_); (case side6 => exact HC2_0.out); (case side7 => exact z44_); (case side8 => exact HC2_1.out); (case side9 => exact z45_); (case side10 => exact HC2_2.out); rintro e w23 ⟨rfl, hb⟩; refine ⟨_, rfl, ?_⟩; replace BK357 := Aside0.mk (blk_below z158_ hb); replace HB := Aside0.mk (below_step z68_ hb); (try clear hb)))
  go_ret
  exact ⟨z5_, z68_⟩

end Go.Proofs.Ytbmkobanpakohaa.PFnExactMedian
