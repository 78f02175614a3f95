/- Laid by a program of this session out of the kit's print for the law FnExactNearest: what it says of the machine is proved here, function by function; each contract under the conditions that it names. -/
import Derived.Test.YtbmkobanpakohaaMFnExactNearestx0
import Derived.Test.YtbmkobanpakohaaMFnExactNearestx11
import Derived.Test.YtbmkobanpakohaaMFnExactNearestx12
import Derived.Test.YtbmkobanpakohaaMFnExactNearestx13
namespace Go.Proofs.Ytbmkobanpakohaa.PFnExactNearest
open Go.RowKit Go.Proofs.YtbmkobanpakohaaW.PrintWords Go.Proofs.YtbmkobanpakohaaW.PrintLast Go.Proofs.YtbmkobanpakohaaW.PrintMore
attribute [local go_sem] max2_int min2_int max_two min_two max_three min_three max_four min_four   -- for this text's walks alone
set_option linter.unusedVariables false
set_option linter.unusedSimpArgs false

/-! ### impl_measureOf: function 67 -/
mutual
def impl_measureOf.j0 : Nat → List (S61) → List (S61) → Bool → List Int → List Int → List Int → Option (List Int × List Int × List Int × List Int × List Int × List Int × (List (List Int)) × Bool)
 | 0, _, _, _, _, _, _ => none
 | k + 1, x0, x1, x28, x420000, x420001, x420002 => if x28 = true then (some (([] : List Int), ([] : List Int), ([] : List Int), ([] : List Int), ([] : List Int), ([] : List Int), ([] : List (List Int)), false)) else ((impl_PostOrder.f k x0).bind fun t424 => ((impl_PostOrder.f k x1).bind fun t427 => ((impl_LeftLeaf.f k x0).bind fun t430 => ((impl_LeftLeaf.f k x1).bind fun t433 => (impl_measureOf.l0 k x0 x1 t427 (t427.length : Int) 0 x420000 x420001 x420002 t424 t427 t430 t433 ([] : List Int))))))
def impl_measureOf.l0 : Nat → List (S61) → List (S61) → List Int → Int → Int → List Int → List Int → List Int → List Int → List Int → List Int → List Int → List Int → Option (List Int × List Int × List Int × List Int × List Int × List Int × (List (List Int)) × Bool)
 | 0, _, _, _, _, _, _, _, _, _, _, _, _, _ => none
 | k + 1, x0, x1, x40, x41, x42, x420000, x420001, x420002, x437000, x437001, x437002, x437003, x437005 => if x42 < x41 then (if 0 ≤ x42 then (if x42 < (x40.length : Int) then (if 0 ≤ (rd x40 x42) then (if (rd x40 x42) < (x1.length : Int) then (if 0 ≤ ((rd_T61 x1 (rd x40 x42)).f0) then (if ((rd_T61 x1 (rd x40 x42)).f0) < (x420001.length : Int) then (if x437005.length < 17592186044416 then (impl_measureOf.l0 k x0 x1 x40 x41 (wrap64 (x42 + 1)) x420000 x420001 x420002 x437000 x437001 x437002 x437003 (x437005 ++ [rd x420001 ((rd_T61 x1 (rd x40 x42)).f0)])) else (none)) else (none)) else (none)) else (none)) else (none)) else (none)) else (none)) else (impl_measureOf.l1 k x0 x1 x437000 (x437000.length : Int) 0 x420000 x420001 x420002 x437000 x437001 x437002 x437003 ([] : List Int) x437005 ([] : List (List Int)))
def impl_measureOf.l1 : Nat → List (S61) → List (S61) → List Int → Int → Int → List Int → List Int → List Int → List Int → List Int → List Int → List Int → List Int → List Int → List (List Int) → Option (List Int × List Int × List Int × List Int × List Int × List Int × (List (List Int)) × Bool)
 | 0, _, _, _, _, _, _, _, _, _, _, _, _, _, _, _ => none
 | k + 1, x0, x1, x62, x63, x64, x420000, x420001, x420002, x437000, x437001, x437002, x437003, x437004, x437005, x437006 => if x64 < x63 then (if 0 ≤ x64 then (if x64 < (x62.length : Int) then (if 0 ≤ (rd x62 x64) then (if (rd x62 x64) < (x0.length : Int) then (if 0 ≤ ((rd_T61 x0 (rd x62 x64)).f0) then (if ((rd_T61 x0 (rd x62 x64)).f0) < (x420000.length : Int) then (if x437004.length < 17592186044416 then (impl_measureOf.l2 k x0 x1 (rd x62 x64) (([] : List Int)) x62 x63 x64 x437001 (x437001.length : Int) 0 x420000 x420001 x420002 x437000 x437001 x437002 x437003 (x437004 ++ [rd x420000 ((rd_T61 x0 (rd x62 x64)).f0)]) x437005 x437006) else (none)) else (none)) else (none)) else (none)) else (none)) else (none)) else (none)) else (some (x437000, x437001, x437002, x437003, x437004, x437005, x437006, true))
def impl_measureOf.l2 : Nat → List (S61) → List (S61) → Int → List Int → List Int → Int → Int → List Int → Int → Int → List Int → List Int → List Int → List Int → List Int → List Int → List Int → List Int → List Int → List (List Int) → Option (List Int × List Int × List Int × List Int × List Int × List Int × (List (List Int)) × Bool)
 | 0, _, _, _, _, _, _, _, _, _, _, _, _, _, _, _, _, _, _, _, _ => none
 | k + 1, x0, x1, x12, x13, x62, x63, x64, x84, x85, x86, x420000, x420001, x420002, x437000, x437001, x437002, x437003, x437004, x437005, x437006 => if x86 < x85 then (if 0 ≤ x86 then (if x86 < (x84.length : Int) then (if 0 ≤ x12 then (if x12 < (x0.length : Int) then (if 0 ≤ (rd x84 x86) then (if (rd x84 x86) < (x1.length : Int) then (if 0 ≤ (wrap64 ((wrap64 (((rd_T61 x0 x12).f0) * 6)) + ((rd_T61 x1 (rd x84 x86)).f0))) then (if (wrap64 ((wrap64 (((rd_T61 x0 x12).f0) * 6)) + ((rd_T61 x1 (rd x84 x86)).f0))) < (x420002.length : Int) then (if x13.length < 17592186044416 then (impl_measureOf.l2 k x0 x1 x12 (x13 ++ [rd x420002 (wrap64 ((wrap64 (((rd_T61 x0 x12).f0) * 6)) + ((rd_T61 x1 (rd x84 x86)).f0)))]) x62 x63 x64 x84 x85 (wrap64 (x86 + 1)) x420000 x420001 x420002 x437000 x437001 x437002 x437003 x437004 x437005 x437006) else (none)) else (none)) else (none)) else (none)) else (none)) else (none)) else (none)) else (none)) else (none)) else (if x437006.length < 5864062014805 then (impl_measureOf.l1 k x0 x1 x62 x63 (wrap64 (x64 + 1)) x420000 x420001 x420002 x437000 x437001 x437002 x437003 x437004 x437005 (x437006 ++ [x13])) else (none))
end
def impl_measureOf.f (k : Nat) (l0 : List (S61)) (l1 : List (S61)) (l2_0 : List Int) (l2_1 : List Int) (l2_2 : List Int) : Option (List Int × List Int × List Int × List Int × List Int × List Int × (List (List Int)) × Bool) := (impl_TreeOk.f k l0).bind fun t421 => (if t421 = true then ((impl_TreeOk.f k l1).bind fun t422 => (if t422 = true then ((impl_CostOk.f k l2_0 l2_1 l2_2).bind fun t423 => (impl_measureOf.j0 k l0 l1 (!t423) l2_0 l2_1 l2_2)) else (impl_measureOf.j0 k l0 l1 true l2_0 l2_1 l2_2))) else (impl_measureOf.j0 k l0 l1 true l2_0 l2_1 l2_2))
def impl_measureOf.T7 : Bool × List (List Nat × List Nat) := (true, [([], []), ([0], [0]), ([], []), ([2], [2]), ([], []), ([], []), ([4, 5], [4, 5]), ([6], [6]), ([7], [7]), ([3, 8], [3, 8]), ([9], [9]), ([10], [10]), ([1, 11], [1, 11]), ([0, 1, 2, 3, 4, 5, 6, 7, 8, 9, 10, 11, 12], []), ([13, 12, 12, 0, 1, 2, 3, 4, 5, 6, 7, 8, 9, 10, 11, 12], [12, 13])])
def impl_measureOf.B7 : List Nat := [0, 1, 0, 4, 0, 0, 48, 112, 240, 508, 1020, 2044, 4095, 8191, 16383]
theorem impl_measureOf.tab7 : rtab .any (opsOf Try.f67 7) = impl_measureOf.T7 := by kernel_rfl
theorem impl_measureOf.bits7 : waitsOk impl_measureOf.T7.2 impl_measureOf.B7 = true := by kernel_rfl
def impl_measureOf.T12 : Bool × List (List Nat × List Nat) := (true, [([], []), ([0], [0]), ([], []), ([2], [2]), ([], []), ([], []), ([4, 5], [4, 5]), ([6], [6]), ([7], [7]), ([3, 8], [3, 8]), ([9], [9]), ([10], [10]), ([1, 11], [1, 11]), ([0, 1, 2, 3, 4, 5, 6, 7, 8, 9, 10, 11, 12], []), ([13, 12, 12, 0, 1, 2, 3, 4, 5, 6, 7, 8, 9, 10, 11, 12], [12, 13])])
def impl_measureOf.B12 : List Nat := [0, 1, 0, 4, 0, 0, 48, 112, 240, 508, 1020, 2044, 4095, 8191, 16383]
theorem impl_measureOf.tab12 : rtab .any (opsOf Try.f67 12) = impl_measureOf.T12 := by kernel_rfl
theorem impl_measureOf.bits12 : waitsOk impl_measureOf.T12.2 impl_measureOf.B12 = true := by kernel_rfl
def impl_measureOf.T17 : Bool × List (List Nat × List Nat) := (true, [([], []), ([], []), ([1], [1]), ([], []), ([], []), ([3, 4], [3, 4]), ([5], [5]), ([6], [6]), ([7], [7]), ([], []), ([], []), ([9, 10], [9, 10]), ([11], [11]), ([12], [12]), ([8, 13], [8, 13]), ([2, 14], [2, 14]), ([15], [15]), ([16], [16]), ([0, 17], [0, 17]), ([18, 18, 0, 1, 2, 3, 4, 5, 6, 7, 8, 9, 10, 11, 12, 13, 14, 15, 16, 17, 18], [0, 18])])
def impl_measureOf.B17 : List Nat := [0, 0, 2, 0, 0, 24, 56, 120, 248, 0, 0, 1536, 3584, 7680, 16376, 32766, 65534, 131070, 262143, 524287]
theorem impl_measureOf.tab17 : rtab .any (opsOf Try.f67 17) = impl_measureOf.T17 := by kernel_rfl
theorem impl_measureOf.bits17 : waitsOk impl_measureOf.T17.2 impl_measureOf.B17 = true := by kernel_rfl
set_option maxHeartbeats 8000000 in
set_option maxRecDepth 100000 in
theorem impl_measureOf.calls (k : Nat) (A0 : Option Addr) (c0 : Nat) (l0 : List (S61)) (A1 : Option Addr) (c1 : Nat) (l1 : List (S61)) (A2_0 : Option Addr) (c2_0 : Nat) (l2_0 : List Int) (A2_1 : Option Addr) (c2_1 : Nat) (l2_1 : List Int) (A2_2 : Option Addr) (c2_2 : Nat) (l2_2 : List Int) (r1 : List Int) (r2 : List Int) (r3 : List Int) (r4 : List Int) (r5 : List Int) (r6 : List Int) (r7 : List (List Int)) (r8 : Bool) (w : World) (hr0 : Kd.C k61 w A0 l0.length l0) (hc0 : l0.length ≤ c0) (hr1 : Kd.C k61 w A1 l1.length l1) (hc1 : l1.length ≤ c1) (hr2_0 : Kd.C (Kd.int .i64) w A2_0 l2_0.length l2_0) (hc2_0 : l2_0.length ≤ c2_0) (hr2_1 : Kd.C (Kd.int .i64) w A2_1 l2_1.length l2_1) (hc2_1 : l2_1.length ≤ c2_1) (hr2_2 : Kd.C (Kd.int .i64) w A2_2 l2_2.length l2_2) (hc2_2 : l2_2.length ≤ c2_2) (h : impl_measureOf.f k l0 l1 l2_0 l2_1 l2_2 = some (r1, r2, r3, r4, r5, r6, r7, r8)) :
  Calls Try.prog 67 #[.slice A0 l0.length c0, .slice A1 l1.length c1, .agg #[.slice A2_0 l2_0.length c2_0, .slice A2_1 l2_1.length c2_1, .slice A2_2 l2_2.length c2_2]] w fun e w' => ∃ v0_ v1_ v2_ v3_ v4_ v5_ v6_ : Value, e = .returned (.tuple #[.agg #[v0_, v1_, v2_, v3_, v4_, v5_, v6_], .bool r8]) ∧ Kd.R (Kd.int .i64) 3 w' w.heap.size (fun k_ => some k_ ≠ (v1_ : Value).ownBlock ∧ some k_ ≠ (v2_ : Value).ownBlock ∧ some k_ ≠ (v3_ : Value).ownBlock ∧ some k_ ≠ (v4_ : Value).ownBlock ∧ some k_ ≠ (v5_ : Value).ownBlock) v0_ r1 ∧ Kd.R (Kd.int .i64) 3 w' w.heap.size (fun k_ => some k_ ≠ (v0_ : Value).ownBlock ∧ some k_ ≠ (v2_ : Value).ownBlock ∧ some k_ ≠ (v3_ : Value).ownBlock ∧ some k_ ≠ (v4_ : Value).ownBlock ∧ some k_ ≠ (v5_ : Value).ownBlock) v1_ r2 ∧ Kd.R (Kd.int .i64) 3 w' w.heap.size (fun k_ => some k_ ≠ (v0_ : Value).ownBlock ∧ some k_ ≠ (v1_ : Value).ownBlock ∧ some k_ ≠ (v3_ : Value).ownBlock ∧ some k_ ≠ (v4_ : Value).ownBlock ∧ some k_ ≠ (v5_ : Value).ownBlock) v2_ r3 ∧ Kd.R (Kd.int .i64) 3 w' w.heap.size (fun k_ => some k_ ≠ (v0_ : Value).ownBlock ∧ some k_ ≠ (v1_ : Value).ownBlock ∧ some k_ ≠ (v2_ : Value).ownBlock ∧ some k_ ≠ (v4_ : Value).ownBlock ∧ some k_ ≠ (v5_ : Value).ownBlock) v3_ r4 ∧ Kd.R (Kd.int .i64) 3 w' w.heap.size (fun k_ => some k_ ≠ (v0_ : Value).ownBlock ∧ some k_ ≠ (v1_ : Value).ownBlock ∧ some k_ ≠ (v2_ : Value).ownBlock ∧ some k_ ≠ (v3_ : Value).ownBlock ∧ some k_ ≠ (v5_ : Value).ownBlock) v4_ r5 ∧ Kd.R (Kd.int .i64) 3 w' w.heap.size (fun k_ => some k_ ≠ (v0_ : Value).ownBlock ∧ some k_ ≠ (v1_ : Value).ownBlock ∧ some k_ ≠ (v2_ : Value).ownBlock ∧ some k_ ≠ (v3_ : Value).ownBlock ∧ some k_ ≠ (v4_ : Value).ownBlock) v5_ r6 ∧ Kd.S (Kd.slice 3 (Kd.int .i64)) 30 w' w.heap.size (fun k_ => some k_ ≠ (v0_ : Value).ownBlock ∧ some k_ ≠ (v1_ : Value).ownBlock ∧ some k_ ≠ (v2_ : Value).ownBlock ∧ some k_ ≠ (v3_ : Value).ownBlock ∧ some k_ ≠ (v4_ : Value).ownBlock ∧ some k_ ≠ (v5_ : Value).ownBlock) v6_ r7 ∧ Below w.heap.size w w' := by
 have hu38 := Try.underlying38
 have hu91 := Try.underlying91
 have HR0 := Aside0.mk hr0
 have HC0 := Aside0.mk hc0
 clear hr0 hc0
 have HR1 := Aside0.mk hr1
 have HC1 := Aside0.mk hc1
 clear hr1 hc1
 have HR2_0 := Aside0.mk hr2_0
 have HC2_0 := Aside0.mk hc2_0
 clear hr2_0 hc2_0
 have HR2_1 := Aside0.mk hr2_1
 have HC2_1 := Aside0.mk hc2_1
 clear hr2_1 hc2_1
 have HR2_2 := Aside0.mk hr2_2
 have HC2_2 := Aside0.mk hc2_2
 clear hr2_2 hc2_2
 have HB := Aside0.mk (Below.refl w.heap.size w)
 have H : ((impl_TreeOk.f k l0).bind fun t421 => (if t421 = true then ((impl_TreeOk.f k l1).bind fun t422 => (if t422 = true then ((impl_CostOk.f k l2_0 l2_1 l2_2).bind fun t423 => (impl_measureOf.j0 k l0 l1 (!t423) l2_0 l2_1 l2_2)) else (impl_measureOf.j0 k l0 l1 true l2_0 l2_1 l2_2))) else (impl_measureOf.j0 k l0 l1 true l2_0 l2_1 l2_2))) = some (r1, r2, r3, r4, r5, r6, r7, r8) := h
 clear h
 have HC4 := Aside0.mk H
 clear H
 go_enter Try.func67, Try.ntmps67
 go_upto_region 1 with (first | ((with_reducible refine gate_dst (N := 5) rfl ?_); refine box_event ?hg (N := 5) ?hd (cs := #[.slice A2_0 l2_0.length c2_0, .slice A2_1 l2_1.length c2_1, .slice A2_2 l2_2.length c2_2]) (t := 38) ?hr ?_; (case hd => rfl); (case hg => rfl); (case hr => exact z9_); intro gb419 hg w5 hbox hb; have BK419 := Aside0.mk (hbox); have GW419 := Aside0.mk ((by rw [hg]; exact (below_size z0_) : w.heap.size ≤ gb419)); have GE419 := Aside0.mk ((by rw [hg]; exact (below_size z0_) : w.heap.size ≤ gb419)); replace HB := Aside0.mk (below_step z0_ hb); clear hb hbox hg) | ((with_reducible refine gate_dst (N := 6) rfl ?_); refine box_event ?hg (N := 6) ?hd (cs := #[.slice none 0 0, .slice none 0 0, .slice none 0 0, .slice none 0 0, .slice none 0 0, .slice none 0 0, .slice none 0 0]) (t := 91) ?hr ?_; (case hd => rfl); (case hg => rfl); (case hr => exact z9_); intro gb420 hg w6 hbox hb; have BK420 := Aside0.mk (hbox); have GW420 := Aside0.mk ((by rw [hg]; exact (below_size z152_) : w.heap.size ≤ gb420)); have GE420 := Aside0.mk ((by rw [hg]; exact (below_size z152_) : w.heap.size ≤ gb420)); replace HB := Aside0.mk (below_step z152_ hb); have NB419_420 := Aside0.mk ((by rw [hg]; exact Nat.ne_of_lt (blk_lt (g := gb419) (o := .cells #[.slice A2_0 l2_0.length c2_0, .slice A2_1 l2_1.length c2_1, .slice A2_2 l2_2.length c2_2] 38 (0, 0)) z18_) : gb419 ≠ gb420)); have NB420_419 := Aside0.mk ((by rw [hg]; exact Nat.ne_of_gt (blk_lt (g := gb419) (o := .cells #[.slice A2_0 l2_0.length c2_0, .slice A2_1 l2_1.length c2_1, .slice A2_2 l2_2.length c2_2] 38 (0, 0)) z18_) : gb420 ≠ gb419)); replace BK419 := Aside0.mk (blk_below z18_ hb); clear hb hbox hg))
 (try simp only [Act.put, List.setIfInBounds_toArray, List.set_cons_zero, List.set_cons_succ])
 go_cut [28] (fun v28 wc => ∃ (kq : Nat) (x28_3 : Bool), v28 = .bool x28_3 ∧ Aside0 (impl_measureOf.j0 kq l0 l1 x28_3 l2_0 l2_1 l2_2 = some (r1, r2, r3, r4, r5, r6, r7, r8)) ∧ Aside0 (kq ≤ k) ∧ Aside0 (wc.heap[gb419]? = some (.cells #[(.slice A2_0 l2_0.length c2_0), (.slice A2_1 l2_1.length c2_1), (.slice A2_2 l2_2.length c2_2)] 38 (0, 0))) ∧ Aside0 (wc.heap[gb420]? = some (.cells #[(.slice none 0 0), (.slice none 0 0), (.slice none 0 0), (.slice none 0 0), (.slice none 0 0), (.slice none 0 0), (.slice none 0 0)] 91 (0, 0))) ∧ Aside0 (Below w.heap.size w wc))
 case first =>
  have H := HC4.out
  clear HC4
  obtain ⟨t421, A7, H⟩ := bnd_ H
  by_cases c8 : t421 = true
  ·subst c8
   replace H := ift_ H
   obtain ⟨t422, A9, H⟩ := bnd_ H
   by_cases c10 : t422 = true
   ·subst c10
    replace H := ift_ H
    obtain ⟨t423, A11, H⟩ := bnd_ H
    have H' := Aside0.mk H
    clear H
    go_wp2_with (first | ((with_reducible refine gate_callee (f := 57) rfl ?_); refine goesL_ (some 17) rfl rfl Try.func57 (by kernel_rfl) rfl #[.slice A0 l0.length c0] rfl z1_ ?_; (with_reducible refine (impl_TreeOk.calls k _ _ l0 true _ ?side1 ?side2 A7.out).mono ?_); (case side1 => exact z3_); (case side2 => exact HC0.out); rintro e w12 ⟨rfl, hb⟩; refine ⟨_, rfl, ?_⟩; replace BK419 := Aside0.mk (blk_below z18_ hb); replace BK420 := Aside0.mk (blk_below z27_ hb); replace HB := Aside0.mk (below_step z12_ hb); (try clear hb)) | (go_at_call 57; (with_reducible refine (impl_TreeOk.calls k _ _ l1 true _ ?side1 ?side2 A9.out).mono ?_); (case side1 => exact z10_); (case side2 => exact HC1.out); rintro e w13 ⟨rfl, hb⟩; replace BK419 := Aside0.mk (blk_below z18_ hb); replace BK420 := Aside0.mk (blk_below z27_ hb); replace HB := Aside0.mk (below_step z12_ hb); (try clear hb); have hnb14 := NB419_420.out; have hnc14 := NB420_419.out; obtain ⟨hcz15_0, hcz15_1, hcz15_2, hfz15_0, hfz15_1, hfz15_2⟩ := bx3_ BK419.out) | (go_at_call 69; (with_reducible refine (impl_CostOk.calls k _ _ l2_0 _ _ l2_1 _ _ l2_2 t423 _ ?side1 ?side2 ?side3 ?side4 ?side5 ?side6 A11.out).mono ?_); (case side1 => exact z19_); (case side2 => exact HC2_0.out); (case side3 => exact z20_); (case side4 => exact HC2_1.out); (case side5 => exact z21_); (case side6 => exact HC2_2.out); rintro e w16 ⟨rfl, hb⟩; replace BK419 := Aside0.mk (blk_below z18_ hb); replace BK420 := Aside0.mk (blk_below z27_ hb); replace HB := Aside0.mk (below_step z12_ hb); (try clear hb)))
    go_meet
    case rel => exact ⟨_, (!t423), z4_, H', ⟨z153_⟩, ⟨z18_⟩, ⟨z27_⟩, ⟨z12_⟩⟩
   ·replace c10 := Bool.eq_false_iff.mpr c10
    subst c10
    replace H := iff_ H
    have H' := Aside0.mk H
    clear H
    go_wp2_with (first | ((with_reducible refine gate_callee (f := 57) rfl ?_); refine goesL_ (some 17) rfl rfl Try.func57 (by kernel_rfl) rfl #[.slice A0 l0.length c0] rfl z1_ ?_; (with_reducible refine (impl_TreeOk.calls k _ _ l0 true _ ?side1 ?side2 A7.out).mono ?_); (case side1 => exact z3_); (case side2 => exact HC0.out); rintro e w17 ⟨rfl, hb⟩; refine ⟨_, rfl, ?_⟩; replace BK419 := Aside0.mk (blk_below z18_ hb); replace BK420 := Aside0.mk (blk_below z27_ hb); replace HB := Aside0.mk (below_step z12_ hb); (try clear hb)) | (go_at_call 57; (with_reducible refine (impl_TreeOk.calls k _ _ l1 false _ ?side1 ?side2 A9.out).mono ?_); (case side1 => exact z10_); (case side2 => exact HC1.out); rintro e w18 ⟨rfl, hb⟩; replace BK419 := Aside0.mk (blk_below z18_ hb); replace BK420 := Aside0.mk (blk_below z27_ hb); replace HB := Aside0.mk (below_step z12_ hb); (try clear hb)))
    go_meet
    case rel => exact ⟨_, (true), z4_, H', ⟨z153_⟩, ⟨z18_⟩, ⟨z27_⟩, ⟨z12_⟩⟩
  ·replace c8 := Bool.eq_false_iff.mpr c8
   subst c8
   replace H := iff_ H
   have H' := Aside0.mk H
   clear H
   go_wp2_with (first | ((with_reducible refine gate_callee (f := 57) rfl ?_); refine goesL_ (some 17) rfl rfl Try.func57 (by kernel_rfl) rfl #[.slice A0 l0.length c0] rfl z1_ ?_; (with_reducible refine (impl_TreeOk.calls k _ _ l0 false _ ?side1 ?side2 A7.out).mono ?_); (case side1 => exact z3_); (case side2 => exact HC0.out); rintro e w19 ⟨rfl, hb⟩; refine ⟨_, rfl, ?_⟩; replace BK419 := Aside0.mk (blk_below z18_ hb); replace BK420 := Aside0.mk (blk_below z27_ hb); replace HB := Aside0.mk (below_step z12_ hb); (try clear hb)))
   go_meet
   case rel => exact ⟨_, (true), z4_, H', ⟨z153_⟩, ⟨z18_⟩, ⟨z27_⟩, ⟨z12_⟩⟩
 case rest =>
  clear HC4
  obtain ⟨kq, x28_3, rfl, HA, HJ3, BK419, BK420, HB⟩ := hcut
  cases kq with
  | zero => exact absurd HA.out (by simp [impl_measureOf.j0])
  | succ kj3 =>
   have H := HA.out
   clear HA
   simp only [impl_measureOf.j0] at H
   by_cases c20 : x28_3 = true
   ·subst c20
    replace H := ift_ H
    simp only [Option.some.injEq, Prod.mk.injEq] at H
    obtain ⟨rfl, rfl, rfl, rfl, rfl, rfl, rfl, rfl⟩ := H
    have hnb21 := NB420_419.out
    have hnc21 := NB419_420.out
    obtain ⟨hcz22_0, hcz22_1, hcz22_2, hcz22_3, hcz22_4, hcz22_5, hcz22_6, hfz22_0, hfz22_1, hfz22_2, hfz22_3, hfz22_4, hfz22_5, hfz22_6⟩ := bx7_ BK420.out
    go_wp2
    refine bodyPost_ret (results_ct rfl _ _ gb420 91 #[.slice none 0 0, .slice none 0 0, .slice none 0 0, .slice none 0 0, .slice none 0 0, .slice none 0 0, .slice none 0 0] (0, 0) _ rfl (by (with_reducible repeat (first | refine blk_drewN ?_ _ | refine blk_drew ?_ | refine blk_alloc ?_ _)); refine blk_put (cs := #[.slice none 0 0, .slice none 0 0, .slice none 0 0, .slice none 0 0, .slice none 0 0, .slice none 0 0, .slice none 0 0]) ?_ 6 _ rfl; (with_reducible repeat (first | refine blk_drewN ?_ _ | refine blk_drew ?_ | refine blk_alloc ?_ _)); refine blk_put (cs := #[.slice none 0 0, .slice none 0 0, .slice none 0 0, .slice none 0 0, .slice none 0 0, .slice none 0 0, .slice none 0 0]) ?_ 5 _ rfl; (with_reducible repeat (first | refine blk_drewN ?_ _ | refine blk_drew ?_ | refine blk_alloc ?_ _)); refine blk_put (cs := #[.slice none 0 0, .slice none 0 0, .slice none 0 0, .slice none 0 0, .slice none 0 0, .slice none 0 0, .slice none 0 0]) ?_ 4 _ rfl; (with_reducible repeat (first | refine blk_drewN ?_ _ | refine blk_drew ?_ | refine blk_alloc ?_ _)); refine blk_put (cs := #[.slice none 0 0, .slice none 0 0, .slice none 0 0, .slice none 0 0, .slice none 0 0, .slice none 0 0, .slice none 0 0]) ?_ 3 _ rfl; (with_reducible repeat (first | refine blk_drewN ?_ _ | refine blk_drew ?_ | refine blk_alloc ?_ _)); refine blk_put (cs := #[.slice none 0 0, .slice none 0 0, .slice none 0 0, .slice none 0 0, .slice none 0 0, .slice none 0 0, .slice none 0 0]) ?_ 2 _ rfl; (with_reducible repeat (first | refine blk_drewN ?_ _ | refine blk_drew ?_ | refine blk_alloc ?_ _)); refine blk_put (cs := #[.slice none 0 0, .slice none 0 0, .slice none 0 0, .slice none 0 0, .slice none 0 0, .slice none 0 0, .slice none 0 0]) ?_ 1 _ rfl; (with_reducible repeat (first | refine blk_drewN ?_ _ | refine blk_drew ?_ | refine blk_alloc ?_ _)); refine blk_put (cs := #[.slice none 0 0, .slice none 0 0, .slice none 0 0, .slice none 0 0, .slice none 0 0, .slice none 0 0, .slice none 0 0]) ?_ 0 _ rfl; (with_reducible repeat (first | refine blk_drewN ?_ _ | refine blk_drew ?_ | refine blk_alloc ?_ _)); exact BK420.out) Try.underlying91 rfl (by kernel_rfl)) rfl ?_
    exact ⟨_, _, _, _, _, _, _, z5_, z70_, z70_, z70_, z70_, z70_, z70_, z210_, z12_⟩
   ·replace c20 := Bool.eq_false_iff.mpr c20
    subst c20
    replace H := iff_ H
    obtain ⟨t424, A23, H⟩ := bnd_ H
    obtain ⟨t427, A24, H⟩ := bnd_ H
    obtain ⟨t430, A25, H⟩ := bnd_ H
    obtain ⟨t433, A26, H⟩ := bnd_ H
    have H' := Aside0.mk H
    clear H
    go_wp2_with (first | ((with_reducible refine gate_callee (f := 85) rfl ?_); refine goesL_ (some 31) rfl rfl Try.func85 (by kernel_rfl) rfl #[.slice A0 l0.length c0] rfl z1_ ?_; (with_reducible refine (impl_PostOrder.calls kj3 _ _ l0 t424 _ ?side1 ?side2 A23.out).mono ?_); (case side1 => exact z3_); (case side2 => exact HC0.out); rintro e w27 ⟨v425, rfl, ho0, hb⟩; refine ⟨_, rfl, ?_⟩; have HO426 := Aside0.mk (Kd.R_lower ho0 (below_size z12_)); replace BK419 := Aside0.mk (blk_below z18_ hb); replace BK420 := Aside0.mk (blk_below z27_ hb); replace HB := Aside0.mk (below_step z12_ hb); (try clear hb ho0)) | ((with_reducible refine gate_callee (f := 85) rfl ?_); refine goesL_ (some 33) rfl rfl Try.func85 (by kernel_rfl) rfl #[.slice A1 l1.length c1] rfl z1_ ?_; (with_reducible refine (impl_PostOrder.calls kj3 _ _ l1 t427 _ ?side1 ?side2 A24.out).mono ?_); (case side1 => exact z10_); (case side2 => exact HC1.out); rintro e w28 ⟨v428, rfl, ho0, hb⟩; refine ⟨_, rfl, ?_⟩; have HO429 := Aside0.mk (Kd.R_lower (Kd.R_new' ho0 (Kd.R_lt z97_)) (below_size z12_)); replace HO426 := Aside0.mk (Kd.R_elder' z97_ (Kd.R_base ho0) hb); replace BK419 := Aside0.mk (blk_below z18_ hb); replace BK420 := Aside0.mk (blk_below z27_ hb); replace HB := Aside0.mk (below_step z12_ hb); (try clear hb ho0)) | ((with_reducible refine gate_callee (f := 86) rfl ?_); refine goesL_ (some 35) rfl rfl Try.func86 (by kernel_rfl) rfl #[.slice A0 l0.length c0] rfl z1_ ?_; (with_reducible refine (impl_LeftLeaf.calls kj3 _ _ l0 t430 _ ?side1 ?side2 A25.out).mono ?_); (case side1 => exact z3_); (case side2 => exact HC0.out); rintro e w29 ⟨v431, rfl, ho0, hb⟩; refine ⟨_, rfl, ?_⟩; have HO432 := Aside0.mk (Kd.R_lower (Kd.R_new' (Kd.R_new' ho0 (Kd.R_lt z97_)) (Kd.R_lt z137_)) (below_size z12_)); replace HO426 := Aside0.mk (Kd.R_elder' z97_ (Kd.R_base ho0) hb); replace HO429 := Aside0.mk (Kd.R_elder' z137_ (Kd.R_base ho0) hb); replace BK419 := Aside0.mk (blk_below z18_ hb); replace BK420 := Aside0.mk (blk_below z27_ hb); replace HB := Aside0.mk (below_step z12_ hb); (try clear hb ho0)) | ((with_reducible refine gate_callee (f := 86) rfl ?_); refine goesL_ (some 37) rfl rfl Try.func86 (by kernel_rfl) rfl #[.slice A1 l1.length c1] rfl z1_ ?_; (with_reducible refine (impl_LeftLeaf.calls kj3 _ _ l1 t433 _ ?side1 ?side2 A26.out).mono ?_); (case side1 => exact z10_); (case side2 => exact HC1.out); rintro e w30 ⟨v434, rfl, ho0, hb⟩; refine ⟨_, rfl, ?_⟩; have HO435 := Aside0.mk (Kd.R_lower (Kd.R_new' (Kd.R_new' (Kd.R_new' ho0 (Kd.R_lt z97_)) (Kd.R_lt z137_)) (Kd.R_lt z199_)) (below_size z12_)); replace HO426 := Aside0.mk (Kd.R_elder' z97_ (Kd.R_base ho0) hb); replace HO429 := Aside0.mk (Kd.R_elder' z137_ (Kd.R_base ho0) hb); replace HO432 := Aside0.mk (Kd.R_elder' z199_ (Kd.R_base ho0) hb); replace BK419 := Aside0.mk (blk_below z18_ hb); replace BK420 := Aside0.mk (blk_below z27_ hb); replace HB := Aside0.mk (below_step z12_ hb); (try clear hb ho0); obtain ⟨Ao31, co31, eo31⟩ := Kd.R_slice HO435.out; subst eo31; obtain ⟨Ao32, co32, eo32⟩ := Kd.R_slice HO432.out; subst eo32; obtain ⟨Ao33, co33, eo33⟩ := Kd.R_slice HO429.out; subst eo33; obtain ⟨Ao34, co34, eo34⟩ := Kd.R_slice HO426.out; subst eo34) | ((with_reducible refine gate_dst (N := 8) rfl ?_); refine box_event ?hg (N := 8) ?hd (cs := #[.slice none 0 0, .slice none 0 0, .slice none 0 0, .slice none 0 0, .slice none 0 0, .slice none 0 0, .slice none 0 0]) (t := 91) ?hr ?_; (case hd => rfl); (case hg => rfl); (case hr => exact z9_); intro gb436 hg w35 hbox hb; replace HO426 := Aside0.mk (Kd.R_below z97_ hb); replace HO429 := Aside0.mk (Kd.R_below z137_ hb); replace HO432 := Aside0.mk (Kd.R_below z199_ hb); replace HO435 := Aside0.mk (Kd.R_below (by (with_reducible repeat (first | apply Kd.R_alloc | apply Kd.R_drewN | apply Kd.R_drew)); exact HO435.out) hb); have BK436 := Aside0.mk (hbox); have GW436 := Aside0.mk ((by rw [hg]; exact (below_size z12_) : w.heap.size ≤ gb436)); have GE436 := Aside0.mk ((by rw [hg]; exact (below_size z12_) : w.heap.size ≤ gb436)); replace HB := Aside0.mk (below_step z12_ hb); have NB419_436 := Aside0.mk ((by rw [hg]; exact Nat.ne_of_lt (blk_lt (g := gb419) (o := .cells #[.slice A2_0 l2_0.length c2_0, .slice A2_1 l2_1.length c2_1, .slice A2_2 l2_2.length c2_2] 38 (0, 0)) z18_) : gb419 ≠ gb436)); have NB436_419 := Aside0.mk ((by rw [hg]; exact Nat.ne_of_gt (blk_lt (g := gb419) (o := .cells #[.slice A2_0 l2_0.length c2_0, .slice A2_1 l2_1.length c2_1, .slice A2_2 l2_2.length c2_2] 38 (0, 0)) z18_) : gb436 ≠ gb419)); replace BK419 := Aside0.mk (blk_below z18_ hb); have NB420_436 := Aside0.mk ((by rw [hg]; exact Nat.ne_of_lt (blk_lt (g := gb420) (o := .cells #[.slice none 0 0, .slice none 0 0, .slice none 0 0, .slice none 0 0, .slice none 0 0, .slice none 0 0, .slice none 0 0] 91 (0, 0)) z27_) : gb420 ≠ gb436)); have NB436_420 := Aside0.mk ((by rw [hg]; exact Nat.ne_of_gt (blk_lt (g := gb420) (o := .cells #[.slice none 0 0, .slice none 0 0, .slice none 0 0, .slice none 0 0, .slice none 0 0, .slice none 0 0, .slice none 0 0] 91 (0, 0)) z27_) : gb436 ≠ gb420)); replace BK420 := Aside0.mk (blk_below z27_ hb); clear hb hbox hg; have hnb36 := NB436_419.out; have hnc36 := NB419_436.out; have hnb37 := NB436_420.out; have hnc37 := NB420_436.out; obtain ⟨hcz38_0, hcz38_1, hcz38_2, hcz38_3, hcz38_4, hcz38_5, hcz38_6, hfz38_0, hfz38_1, hfz38_2, hfz38_3, hfz38_4, hfz38_5, hfz38_6⟩ := bx7_ BK436.out))
    go_loopg [42] kj3 (fun kq v42 w' => ∃ (x42_2 : Int) (x437005_2 : List Int) (u437005 : Value), v42 = .int .i64 x42_2 ∧ Aside0 (impl_measureOf.l0 kq l0 l1 t427 (t427.length : Int) x42_2 l2_0 l2_1 l2_2 t424 t427 t430 t433 x437005_2 = some (r1, r2, r3, r4, r5, r6, r7, r8)) ∧ Aside0 (kq ≤ kj3) ∧ Aside0 (Kd.R (Kd.int .i64) 3 w' w.heap.size (fun k_ => some k_ ≠ ((.slice Ao34 t424.length co34) : Value).ownBlock ∧ some k_ ≠ ((.slice Ao32 t430.length co32) : Value).ownBlock ∧ some k_ ≠ ((.slice Ao31 t433.length co31) : Value).ownBlock ∧ some k_ ≠ (u437005 : Value).ownBlock) (.slice Ao33 t427.length co33) t427) ∧ Aside0 (Kd.R (Kd.int .i64) 3 w' w.heap.size (fun k_ => some k_ ≠ ((.slice Ao33 t427.length co33) : Value).ownBlock ∧ some k_ ≠ ((.slice Ao33 t427.length co33) : Value).ownBlock ∧ some k_ ≠ ((.slice Ao32 t430.length co32) : Value).ownBlock ∧ some k_ ≠ ((.slice Ao31 t433.length co31) : Value).ownBlock ∧ some k_ ≠ (u437005 : Value).ownBlock) (.slice Ao34 t424.length co34) t424) ∧ Aside0 (Kd.R (Kd.int .i64) 3 w' w.heap.size (fun k_ => some k_ ≠ ((.slice Ao34 t424.length co34) : Value).ownBlock ∧ some k_ ≠ ((.slice Ao32 t430.length co32) : Value).ownBlock ∧ some k_ ≠ ((.slice Ao31 t433.length co31) : Value).ownBlock ∧ some k_ ≠ (u437005 : Value).ownBlock) (.slice Ao33 t427.length co33) t427) ∧ Aside0 (Kd.R (Kd.int .i64) 3 w' w.heap.size (fun k_ => some k_ ≠ ((.slice Ao33 t427.length co33) : Value).ownBlock ∧ some k_ ≠ ((.slice Ao34 t424.length co34) : Value).ownBlock ∧ some k_ ≠ ((.slice Ao33 t427.length co33) : Value).ownBlock ∧ some k_ ≠ ((.slice Ao31 t433.length co31) : Value).ownBlock ∧ some k_ ≠ (u437005 : Value).ownBlock) (.slice Ao32 t430.length co32) t430) ∧ Aside0 (Kd.R (Kd.int .i64) 3 w' w.heap.size (fun k_ => some k_ ≠ ((.slice Ao33 t427.length co33) : Value).ownBlock ∧ some k_ ≠ ((.slice Ao34 t424.length co34) : Value).ownBlock ∧ some k_ ≠ ((.slice Ao33 t427.length co33) : Value).ownBlock ∧ some k_ ≠ ((.slice Ao32 t430.length co32) : Value).ownBlock ∧ some k_ ≠ (u437005 : Value).ownBlock) (.slice Ao31 t433.length co31) t433) ∧ Aside0 (Kd.R (Kd.int .i64) 3 w' w.heap.size (fun k_ => some k_ ≠ ((.slice Ao33 t427.length co33) : Value).ownBlock ∧ some k_ ≠ ((.slice Ao34 t424.length co34) : Value).ownBlock ∧ some k_ ≠ ((.slice Ao33 t427.length co33) : Value).ownBlock ∧ some k_ ≠ ((.slice Ao32 t430.length co32) : Value).ownBlock ∧ some k_ ≠ ((.slice Ao31 t433.length co31) : Value).ownBlock) u437005 x437005_2) ∧ Aside0 (w'.heap[gb419]? = some (.cells #[(.slice A2_0 l2_0.length c2_0), (.slice A2_1 l2_1.length c2_1), (.slice A2_2 l2_2.length c2_2)] 38 (0, 0))) ∧ Aside0 (w'.heap[gb420]? = some (.cells #[(.slice none 0 0), (.slice none 0 0), (.slice none 0 0), (.slice none 0 0), (.slice none 0 0), (.slice none 0 0), (.slice none 0 0)] 91 (0, 0))) ∧ Aside0 (w'.heap[gb436]? = some (.cells #[(.slice Ao34 t424.length co34), (.slice Ao33 t427.length co33), (.slice Ao32 t430.length co32), (.slice Ao31 t433.length co31), (.slice none 0 0), u437005, (.slice none 0 0)] 91 (0, 0))) ∧ Aside0 (Below w.heap.size w w'))
    case atStart => exact ⟨(0), (([] : List Int)), (.slice none 0 0), z4_, H', ⟨Nat.le_refl _⟩, ⟨z46_⟩, ⟨by (with_reducible repeat (first | apply Kd.R_alloc | apply Kd.R_drewN | apply Kd.R_drew)); exact Kd.R_mono (Kd.R_far (p := ⟨gb436, 6, none⟩) (Kd.R_far (p := ⟨gb436, 5, none⟩) (Kd.R_far (p := ⟨gb436, 4, none⟩) (Kd.R_far (p := ⟨gb436, 3, none⟩) (Kd.R_far (p := ⟨gb436, 2, none⟩) (Kd.R_far (p := ⟨gb436, 1, none⟩) (Kd.R_far (p := ⟨gb436, 0, none⟩) (Kd.R_types HO426.out BK436.out (by decide)) (fun _ hk => hk.2) (.slice Ao34 t424.length co34)) (fun _ hk => hk.2) (.slice Ao33 t427.length co33)) (fun _ hk => hk.2) (.slice Ao32 t430.length co32)) (fun _ hk => hk.2) (.slice Ao31 t433.length co31)) (fun _ hk => hk.2) (.slice none 0 0)) (fun _ hk => hk.2) (.slice none 0 0)) (fun _ hk => hk.2) (.slice none 0 0)) (fun _ hk => ⟨hk.1.1.1.2, ⟨hk.1.1.1.2, ⟨hk.1.1.2, ⟨hk.1.2, z214_⟩⟩⟩⟩)⟩, ⟨z46_⟩, ⟨by (with_reducible repeat (first | apply Kd.R_alloc | apply Kd.R_drewN | apply Kd.R_drew)); exact Kd.R_mono (Kd.R_far (p := ⟨gb436, 6, none⟩) (Kd.R_far (p := ⟨gb436, 5, none⟩) (Kd.R_far (p := ⟨gb436, 4, none⟩) (Kd.R_far (p := ⟨gb436, 3, none⟩) (Kd.R_far (p := ⟨gb436, 2, none⟩) (Kd.R_far (p := ⟨gb436, 1, none⟩) (Kd.R_far (p := ⟨gb436, 0, none⟩) (Kd.R_types HO432.out BK436.out (by decide)) (fun _ hk => hk.2) (.slice Ao34 t424.length co34)) (fun _ hk => hk.2) (.slice Ao33 t427.length co33)) (fun _ hk => hk.2) (.slice Ao32 t430.length co32)) (fun _ hk => hk.2) (.slice Ao31 t433.length co31)) (fun _ hk => hk.2) (.slice none 0 0)) (fun _ hk => hk.2) (.slice none 0 0)) (fun _ hk => hk.2) (.slice none 0 0)) (fun _ hk => ⟨hk.1.1.2, ⟨hk.1.1.1.2, ⟨hk.1.1.2, ⟨hk.1.2, z214_⟩⟩⟩⟩)⟩, ⟨by (with_reducible repeat (first | apply Kd.R_alloc | apply Kd.R_drewN | apply Kd.R_drew)); exact Kd.R_mono (Kd.R_far (p := ⟨gb436, 6, none⟩) (Kd.R_far (p := ⟨gb436, 5, none⟩) (Kd.R_far (p := ⟨gb436, 4, none⟩) (Kd.R_far (p := ⟨gb436, 3, none⟩) (Kd.R_far (p := ⟨gb436, 2, none⟩) (Kd.R_far (p := ⟨gb436, 1, none⟩) (Kd.R_far (p := ⟨gb436, 0, none⟩) (Kd.R_types HO435.out BK436.out (by decide)) (fun _ hk => hk.2) (.slice Ao34 t424.length co34)) (fun _ hk => hk.2) (.slice Ao33 t427.length co33)) (fun _ hk => hk.2) (.slice Ao32 t430.length co32)) (fun _ hk => hk.2) (.slice Ao31 t433.length co31)) (fun _ hk => hk.2) (.slice none 0 0)) (fun _ hk => hk.2) (.slice none 0 0)) (fun _ hk => hk.2) (.slice none 0 0)) (fun _ hk => ⟨hk.1.1.2, ⟨hk.1.1.1.2, ⟨hk.1.1.2, ⟨hk.1.2, z214_⟩⟩⟩⟩)⟩, ⟨z70_⟩, ⟨by (with_reducible repeat (first | refine blk_drewN ?_ _ | refine blk_drew ?_ | refine blk_alloc ?_ _)); refine blk_far ?_ NB419_436.out _; (with_reducible repeat (first | refine blk_drewN ?_ _ | refine blk_drew ?_ | refine blk_alloc ?_ _)); refine blk_far ?_ NB419_436.out _; (with_reducible repeat (first | refine blk_drewN ?_ _ | refine blk_drew ?_ | refine blk_alloc ?_ _)); refine blk_far ?_ NB419_436.out _; (with_reducible repeat (first | refine blk_drewN ?_ _ | refine blk_drew ?_ | refine blk_alloc ?_ _)); refine blk_far ?_ NB419_436.out _; (with_reducible repeat (first | refine blk_drewN ?_ _ | refine blk_drew ?_ | refine blk_alloc ?_ _)); refine blk_far ?_ NB419_436.out _; (with_reducible repeat (first | refine blk_drewN ?_ _ | refine blk_drew ?_ | refine blk_alloc ?_ _)); refine blk_far ?_ NB419_436.out _; (with_reducible repeat (first | refine blk_drewN ?_ _ | refine blk_drew ?_ | refine blk_alloc ?_ _)); refine blk_far ?_ NB419_436.out _; (with_reducible repeat (first | refine blk_drewN ?_ _ | refine blk_drew ?_ | refine blk_alloc ?_ _)); exact BK419.out⟩, ⟨by (with_reducible repeat (first | refine blk_drewN ?_ _ | refine blk_drew ?_ | refine blk_alloc ?_ _)); refine blk_far ?_ NB420_436.out _; (with_reducible repeat (first | refine blk_drewN ?_ _ | refine blk_drew ?_ | refine blk_alloc ?_ _)); refine blk_far ?_ NB420_436.out _; (with_reducible repeat (first | refine blk_drewN ?_ _ | refine blk_drew ?_ | refine blk_alloc ?_ _)); refine blk_far ?_ NB420_436.out _; (with_reducible repeat (first | refine blk_drewN ?_ _ | refine blk_drew ?_ | refine blk_alloc ?_ _)); refine blk_far ?_ NB420_436.out _; (with_reducible repeat (first | refine blk_drewN ?_ _ | refine blk_drew ?_ | refine blk_alloc ?_ _)); refine blk_far ?_ NB420_436.out _; (with_reducible repeat (first | refine blk_drewN ?_ _ | refine blk_drew ?_ | refine blk_alloc ?_ _)); refine blk_far ?_ NB420_436.out _; (with_reducible repeat (first | refine blk_drewN ?_ _ | refine blk_drew ?_ | refine blk_alloc ?_ _)); refine blk_far ?_ NB420_436.out _; (with_reducible repeat (first | refine blk_drewN ?_ _ | refine blk_drew ?_ | refine blk_alloc ?_ _)); exact BK420.out⟩, ⟨by (with_reducible repeat (first | refine blk_drewN ?_ _ | refine blk_drew ?_ | refine blk_alloc ?_ _)); refine blk_put (cs := #[.slice Ao34 t424.length co34, .slice Ao33 t427.length co33, .slice Ao32 t430.length co32, .slice Ao31 t433.length co31, .slice none 0 0, .slice none 0 0, .slice none 0 0]) ?_ 6 _ rfl; (with_reducible repeat (first | refine blk_drewN ?_ _ | refine blk_drew ?_ | refine blk_alloc ?_ _)); refine blk_put (cs := #[.slice Ao34 t424.length co34, .slice Ao33 t427.length co33, .slice Ao32 t430.length co32, .slice Ao31 t433.length co31, .slice none 0 0, .slice none 0 0, .slice none 0 0]) ?_ 5 _ rfl; (with_reducible repeat (first | refine blk_drewN ?_ _ | refine blk_drew ?_ | refine blk_alloc ?_ _)); refine blk_put (cs := #[.slice Ao34 t424.length co34, .slice Ao33 t427.length co33, .slice Ao32 t430.length co32, .slice Ao31 t433.length co31, .slice none 0 0, .slice none 0 0, .slice none 0 0]) ?_ 4 _ rfl; (with_reducible repeat (first | refine blk_drewN ?_ _ | refine blk_drew ?_ | refine blk_alloc ?_ _)); refine blk_put (cs := #[.slice Ao34 t424.length co34, .slice Ao33 t427.length co33, .slice Ao32 t430.length co32, .slice none 0 0, .slice none 0 0, .slice none 0 0, .slice none 0 0]) ?_ 3 _ rfl; (with_reducible repeat (first | refine blk_drewN ?_ _ | refine blk_drew ?_ | refine blk_alloc ?_ _)); refine blk_put (cs := #[.slice Ao34 t424.length co34, .slice Ao33 t427.length co33, .slice none 0 0, .slice none 0 0, .slice none 0 0, .slice none 0 0, .slice none 0 0]) ?_ 2 _ rfl; (with_reducible repeat (first | refine blk_drewN ?_ _ | refine blk_drew ?_ | refine blk_alloc ?_ _)); refine blk_put (cs := #[.slice Ao34 t424.length co34, .slice none 0 0, .slice none 0 0, .slice none 0 0, .slice none 0 0, .slice none 0 0, .slice none 0 0]) ?_ 1 _ rfl; (with_reducible repeat (first | refine blk_drewN ?_ _ | refine blk_drew ?_ | refine blk_alloc ?_ _)); refine blk_put (cs := #[.slice none 0 0, .slice none 0 0, .slice none 0 0, .slice none 0 0, .slice none 0 0, .slice none 0 0, .slice none 0 0]) ?_ 0 _ rfl; (with_reducible repeat (first | refine blk_drewN ?_ _ | refine blk_drew ?_ | refine blk_alloc ?_ _)); exact BK436.out⟩, ⟨z14_⟩⟩
    case round =>
     clear H'
     obtain ⟨x42_2, x437005_2, u437005, rfl, HA, HK2, HO_40, HO_437000, HO_437001, HO_437002, HO_437003, HO_437005, BK419, BK420, BK436, HB⟩ := hrel
     cases gk with
     | zero => exact absurd HA.out (by simp [impl_measureOf.l0])
     | succ k2 =>
      have H := HA.out
      clear HA
      simp only [impl_measureOf.l0] at H
      by_cases c39 : x42_2 < (t427.length : Int)
      ·rw [if_pos c39] at H
       have c39b0 := decide_eq_true c39
       clear c39
       obtain ⟨c40b0, H⟩ := ifd_ H
       obtain ⟨c41b0, H⟩ := ifd_ H
       obtain ⟨c42b0, H⟩ := ifd_ H
       obtain ⟨c43b0, H⟩ := ifd_ H
       obtain ⟨c44b0, H⟩ := ifd_ H
       obtain ⟨c45b0, H⟩ := ifd_ H
       obtain ⟨c46, H⟩ := ifs_ H
       have LMc46 := Aside0.mk c46
       clear c46
       first | ((with_reducible have hz_ := gy_ H); obtain ⟨y440, Ny440, H⟩ := hz_) | (generalize hy_ : ((x437005_2 ++ [rd l2_1 ((rd_T61 l1 (rd t427 x42_2)).f0)]) : List Int) = y440 at H; have Ny440 := Aside0.mk hy_.symm; clear hy_)
       have H' := Aside0.mk H
       clear H
       have p437 : 0 ≤ (x42_2 : Int) := odt_
       have q437 : x42_2 < (t427.length : Int) := odt_
       obtain ⟨ad437, e437, hx437_0⟩ := Kd.at_int (Kd.R_reads' HO_40.out).2.2 x42_2 p437 q437
       cases e437
       replace p437 := eq_true p437
       replace q437 := eq_true q437
       try go_wp2
       have n0_ := Aside0.mk (Kd.R_drew HO_40.out)
       have n1_ := Aside0.mk (Kd.R_drew HO_437000.out)
       have n2_ := Aside0.mk (Kd.R_drew HO_437001.out)
       have n3_ := Aside0.mk (Kd.R_drew HO_437002.out)
       have n4_ := Aside0.mk (Kd.R_drew HO_437003.out)
       have n5_ := Aside0.mk (Kd.R_drew HO_437005.out)
       have n6_ := Aside0.mk (blk_drew BK419.out)
       have n7_ := Aside0.mk (blk_drew BK420.out)
       have n8_ := Aside0.mk (blk_drew BK436.out)
       have n9_ := Aside0.mk (below_drew1 HB.out)
       clear HO_40
       clear HO_437000
       clear HO_437001
       clear HO_437002
       clear HO_437003
       clear HO_437005
       clear BK419
       clear BK420
       clear BK436
       clear HB
       have HO_40 := n0_
       have HO_437000 := n1_
       have HO_437001 := n2_
       have HO_437002 := n3_
       have HO_437003 := n4_
       have HO_437005 := n5_
       have BK419 := n6_
       have BK420 := n7_
       have BK436 := n8_
       have HB := n9_
       clear n0_ n1_ n2_ n3_ n4_ n5_ n6_ n7_ n8_ n9_
       obtain ⟨p438, q438, ad438, e438, hw438_0, hw438_1, hx438_0, hx438_1⟩ := atw61_ HR1 HB (rd t427 x42_2)
       cases e438
       have p439 : 0 ≤ (((rd_T61 l1 (rd t427 x42_2)).f0) : Int) := odt_
       have q439 : ((rd_T61 l1 (rd t427 x42_2)).f0) < (l2_1.length : Int) := odt_
       obtain ⟨ad439, e439, hx439_0⟩ := Kd.at_int HR2_1.out ((rd_T61 l1 (rd t427 x42_2)).f0) p439 q439
       have hw439_0 := hx439_0
       cases e439
       replace hx439_0 := (HB.out.cell (World.block_lt_of_cell? w _ hx439_0)).trans hx439_0
       replace p439 := eq_true p439
       replace q439 := eq_true q439
       refine start_ (n := 15) (S := fun w' => w'.cell? ⟨gb436, 0, none⟩ = some (.slice Ao34 t424.length co34) ∧ w'.cell? ⟨gb436, 1, none⟩ = some (.slice (some ad437) t427.length co33) ∧ w'.cell? ⟨gb436, 2, none⟩ = some (.slice Ao32 t430.length co32) ∧ w'.cell? ⟨gb436, 3, none⟩ = some (.slice Ao31 t433.length co31) ∧ w'.cell? ⟨gb436, 4, none⟩ = some (.slice none 0 0) ∧ w'.cell? ⟨gb436, 5, none⟩ = some (u437005) ∧ w'.cell? ⟨gb436, 6, none⟩ = some (.slice none 0 0) ∧ w'.cell? ⟨gb419, 0, none⟩ = some (.slice A2_0 l2_0.length c2_0) ∧ w'.cell? ⟨gb419, 1, none⟩ = some (.slice (some ad439) l2_1.length c2_1) ∧ w'.cell? ⟨gb419, 2, none⟩ = some (.slice A2_2 l2_2.length c2_2) ∧ w'.cell? (ad438.add (((rd t427 x42_2)).toNat * 2)) = some (.int .i64 ((rd_T61 l1 (rd t427 x42_2)).f0)) ∧ w'.cell? ⟨(ad438.add (((rd t427 x42_2)).toNat * 2)).block, (ad438.add (((rd t427 x42_2)).toNat * 2)).off + 1, none⟩ = some (.int .i64 ((rd_T61 l1 (rd t427 x42_2)).f1)) ∧ w'.cell? (ad439.add (((rd_T61 l1 (rd t427 x42_2)).f0)).toNat) = some (.int .i64 (rd l2_1 ((rd_T61 l1 (rd t427 x42_2)).f0)))) (ds := [14]) (fl_ 15 0) (by kernel_rfl) rfl (fl_zero _) ⟨(blk_cell BK436.out 0).trans rfl, (blk_cell BK436.out 1).trans rfl, (blk_cell BK436.out 2).trans rfl, (blk_cell BK436.out 3).trans rfl, (blk_cell BK436.out 4).trans rfl, (blk_cell BK436.out 5).trans rfl, (blk_cell BK436.out 6).trans rfl, (blk_cell BK419.out 0).trans rfl, (blk_cell BK419.out 1).trans rfl, (blk_cell BK419.out 2).trans rfl, ((HB.out.cell (World.block_lt_of_cell? w _ hw438_0)).trans hw438_0), ((HB.out.cell (World.block_lt_of_cell? w _ hw438_1)).trans hw438_1), ((HB.out.cell (World.block_lt_of_cell? w _ hw439_0)).trans hw439_0)⟩ (fun hHeld => ?_); refine with_tabW impl_measureOf.tab7 impl_measureOf.bits7 (fun HT_ HW_ => ?_)
       generalize wr.drew = w47 at HO_40 HO_437000 HO_437001 HO_437002 HO_437003 HO_437005 BK419 BK420 BK436 HB hx438_0 hx438_1 hx439_0 hHeld ⊢
       refine zp_ HT_ rfl rfl (by kernel_rfl) (fun _ _ _ h => h) (by rfl) ?_
       refine zpg_ (i := 2) (ra_ [1, 1, 1, 12]) HT_ rfl rfl (by kernel_rfl) (fun _ _ _ h => h) (by rfl) ?_
       refine zpg_ (i := 4) (ra_ [1, 1, 1, 1, 1, 10]) HT_ rfl rfl (by kernel_rfl) (fun _ _ _ h => h) (by rfl) ?_
       refine zpg_ (i := 5) (ra_ [1, 1, 1, 1, 2, 9]) HT_ rfl rfl (by kernel_rfl) (fun _ _ _ h => h) (by rfl) ?_
       refine zpg_ (i := 6) (ra_ [1, 1, 1, 1, 3, 8]) HT_ rfl rfl (by kernel_rfl) (fun _ _ _ h => h) (by rfl) ?_
       refine zpg_ (i := 7) (ra_ [1, 1, 1, 1, 4, 7]) HT_ rfl rfl (by kernel_rfl) (fun _ _ _ h => h) (by rfl) ?_
       refine ztg_ (i := 1) (ra_ [3, 1, 4, 7]) HT_ HW_ rfl rfl (by kernel_rfl) (fun _ _ _ h => h) (by rfl) hHeld ?_ z11_
       refine ztg_ (i := 3) (fl_ 15 8) HT_ HW_ rfl rfl (by kernel_rfl) (fun _ _ _ h => h) (by rfl) hHeld ?_ z11_
       refine zt_ HT_ HW_ rfl rfl (by kernel_rfl) (fun _ _ _ h => h) (by rfl) hHeld ?_ z11_
       refine zp_ HT_ rfl rfl (by kernel_rfl) (fun _ _ _ h => h) (by rfl) ?_
       refine zt_ HT_ HW_ rfl rfl (by kernel_rfl) (fun _ _ _ h => h) (by rfl) hHeld ?_ z11_
       refine one_ (i := 11) (N := some 57) (fl_ 15 12) rfl rfl (one_of HT_.out (by kernel_rfl)) (by decide) (fun K hK => ?_)
       refine value_ (w1 := ?_) (v := ?_) (by rfl) rfl ?_ ?_
       rotate_left 2
       ·go_simp
        constructor
        ·rfl
        ·rfl
       refine hK.out _ _ ⟨(blk_cell (blk_alloc BK436.out _) 0).trans rfl, (blk_cell (blk_alloc BK436.out _) 1).trans rfl, (blk_cell (blk_alloc BK436.out _) 2).trans rfl, (blk_cell (blk_alloc BK436.out _) 3).trans rfl, (blk_cell (blk_alloc BK436.out _) 4).trans rfl, (blk_cell (blk_alloc BK436.out _) 5).trans rfl, (blk_cell (blk_alloc BK436.out _) 6).trans rfl, (blk_cell (blk_alloc BK419.out _) 0).trans rfl, (blk_cell (blk_alloc BK419.out _) 1).trans rfl, (blk_cell (blk_alloc BK419.out _) 2).trans rfl, (World.cell?_alloc_lt _ _ _ (World.block_lt_of_cell? _ _ (((HB.out.cell (World.block_lt_of_cell? w _ hw438_0)).trans hw438_0)))).trans (((HB.out.cell (World.block_lt_of_cell? w _ hw438_0)).trans hw438_0)), (World.cell?_alloc_lt _ _ _ (World.block_lt_of_cell? _ _ (((HB.out.cell (World.block_lt_of_cell? w _ hw438_1)).trans hw438_1)))).trans (((HB.out.cell (World.block_lt_of_cell? w _ hw438_1)).trans hw438_1)), (World.cell?_alloc_lt _ _ _ (World.block_lt_of_cell? _ _ (((HB.out.cell (World.block_lt_of_cell? w _ hw439_0)).trans hw439_0)))).trans (((HB.out.cell (World.block_lt_of_cell? w _ hw439_0)).trans hw439_0))⟩ (fun hHeld => ?_)
       clear hK K
       refine zn_ rfl ?_
       refine one_ (i := 12) (N := some 58) (fl_ 15 13) rfl rfl (one_of HT_.out (by kernel_rfl)) (by decide) (fun K hK => ?_)
       refine Kd.R_append_step (Kd.int .i64) (w0 := w) w.heap.size (by rfl) (.tmp 47) (.tmp 57) 30 3 (.int .i64 0) 8 rfl Try.underlying30 info3 rfl (by decide) (by omega) u437005 x437005_2 (rd l2_1 ((rd_T61 l1 (rd t427 x42_2)).f0)) [.int .i64 (rd l2_1 ((rd_T61 l1 (rd t427 x42_2)).f0))] (fun k_ => some k_ ≠ (.slice (some ad437) t427.length co33 : Value).ownBlock ∧ some k_ ≠ (.slice Ao34 t424.length co34 : Value).ownBlock ∧ some k_ ≠ (.slice (some ad437) t427.length co33 : Value).ownBlock ∧ some k_ ≠ (.slice Ao32 t430.length co32 : Value).ownBlock ∧ some k_ ≠ (.slice Ao31 t433.length co31 : Value).ownBlock) (fun _ => False) rfl rfl ?aP (fun _ hk => hk.elim) ?aF ?aO ?aB ?aS ?aL ?_
       (case aP => exact rfl)
       (case aB => exact z82_)
       (case aF => exact (fun k_ hk => ⟨Kd.fresh' (Kd.R_lt (by (with_reducible repeat (first | apply Kd.R_alloc | apply Kd.R_drewN | apply Kd.R_drew)); exact HO_40.out)) k_ hk, Kd.fresh' (Kd.R_lt z132_) k_ hk, Kd.fresh' (Kd.R_lt z133_) k_ hk, Kd.fresh' (Kd.R_lt z134_) k_ hk, Kd.fresh' (Kd.R_lt z135_) k_ hk⟩))
       (case aO => exact z136_)
       (case aS => exact z80_)
       (case aL => have := LMc46.out; omega)
       intro v441 w48 ho hb hg hat
       rw [← Ny440.out] at ho
       have n0_ := Aside0.mk (Kd.R_after (ok := (fun k_ => some k_ ≠ (.slice Ao34 t424.length co34 : Value).ownBlock ∧ some k_ ≠ (.slice Ao32 t430.length co32 : Value).ownBlock ∧ some k_ ≠ (.slice Ao31 t433.length co31 : Value).ownBlock)) (by (with_reducible repeat (first | apply Kd.R_alloc | apply Kd.R_drewN | apply Kd.R_drew)); exact Kd.R_mono HO_40.out (fun _ hk => ⟨⟨hk.1, ⟨hk.2.1, hk.2.2.1⟩⟩, hk.2.2.2⟩)) hg hat)
       have n1_ := Aside0.mk (Kd.R_after (ok := (fun k_ => some k_ ≠ (.slice (some ad437) t427.length co33 : Value).ownBlock ∧ some k_ ≠ (.slice (some ad437) t427.length co33 : Value).ownBlock ∧ some k_ ≠ (.slice Ao32 t430.length co32 : Value).ownBlock ∧ some k_ ≠ (.slice Ao31 t433.length co31 : Value).ownBlock)) (by (with_reducible repeat (first | apply Kd.R_alloc | apply Kd.R_drewN | apply Kd.R_drew)); exact Kd.R_mono HO_437000.out (fun _ hk => ⟨⟨hk.1, ⟨hk.2.1, ⟨hk.2.2.1, hk.2.2.2.1⟩⟩⟩, hk.2.2.2.2⟩)) hg hat)
       have n2_ := Aside0.mk (Kd.R_after (ok := (fun k_ => some k_ ≠ (.slice Ao34 t424.length co34 : Value).ownBlock ∧ some k_ ≠ (.slice Ao32 t430.length co32 : Value).ownBlock ∧ some k_ ≠ (.slice Ao31 t433.length co31 : Value).ownBlock)) (by (with_reducible repeat (first | apply Kd.R_alloc | apply Kd.R_drewN | apply Kd.R_drew)); exact Kd.R_mono HO_437001.out (fun _ hk => ⟨⟨hk.1, ⟨hk.2.1, hk.2.2.1⟩⟩, hk.2.2.2⟩)) hg hat)
       have n3_ := Aside0.mk (Kd.R_after (ok := (fun k_ => some k_ ≠ (.slice (some ad437) t427.length co33 : Value).ownBlock ∧ some k_ ≠ (.slice Ao34 t424.length co34 : Value).ownBlock ∧ some k_ ≠ (.slice (some ad437) t427.length co33 : Value).ownBlock ∧ some k_ ≠ (.slice Ao31 t433.length co31 : Value).ownBlock)) (by (with_reducible repeat (first | apply Kd.R_alloc | apply Kd.R_drewN | apply Kd.R_drew)); exact Kd.R_mono HO_437002.out (fun _ hk => ⟨⟨hk.1, ⟨hk.2.1, ⟨hk.2.2.1, hk.2.2.2.1⟩⟩⟩, hk.2.2.2.2⟩)) hg hat)
       have n4_ := Aside0.mk (Kd.R_after (ok := (fun k_ => some k_ ≠ (.slice (some ad437) t427.length co33 : Value).ownBlock ∧ some k_ ≠ (.slice Ao34 t424.length co34 : Value).ownBlock ∧ some k_ ≠ (.slice (some ad437) t427.length co33 : Value).ownBlock ∧ some k_ ≠ (.slice Ao32 t430.length co32 : Value).ownBlock)) (by (with_reducible repeat (first | apply Kd.R_alloc | apply Kd.R_drewN | apply Kd.R_drew)); exact Kd.R_mono HO_437003.out (fun _ hk => ⟨⟨hk.1, ⟨hk.2.1, ⟨hk.2.2.1, hk.2.2.2.1⟩⟩⟩, hk.2.2.2.2⟩)) hg hat)
       have n5_ := Aside0.mk (blk_grown z18_ hg (Kd.R_ne HO_437005.out BK419.out (by decide)))
       have n6_ := Aside0.mk (blk_grown z27_ hg (Kd.R_ne HO_437005.out BK420.out (by decide)))
       have n7_ := Aside0.mk (blk_grown z89_ hg (Kd.R_ne HO_437005.out BK436.out (by decide)))
       have n8_ := Aside0.mk (hb)
       have n9_ := Aside0.mk (ho)
       clear HO_40
       clear HO_437000
       clear HO_437001
       clear HO_437002
       clear HO_437003
       clear BK419
       clear BK420
       clear BK436
       clear HB
       clear HO_437005
       have HO_40 := n0_
       have HO_437000 := n1_
       have HO_437001 := n2_
       have HO_437002 := n3_
       have HO_437003 := n4_
       have BK419 := n5_
       have BK420 := n6_
       have BK436 := n7_
       have HB := n8_
       have HO442 := n9_
       clear n0_ n1_ n2_ n3_ n4_ n5_ n6_ n7_ n8_ n9_
       clear ho hb hg hat
       obtain ⟨Ao49, co49, eo49⟩ := Kd.R_slice HO442.out
       (first | subst eo49 | (injection eo49 with f1_ f2_ f3_; have f4_ := f1_.symm; have f5_ := f3_.symm; clear f1_ f2_ f3_; subst f4_; subst f5_))
       refine hK.out _ _ ⟨(blk_cell BK436.out 0).trans rfl, (blk_cell BK436.out 1).trans rfl, (blk_cell BK436.out 2).trans rfl, (blk_cell BK436.out 3).trans rfl, (blk_cell BK436.out 4).trans rfl, (blk_cell BK436.out 5).trans rfl, (blk_cell BK436.out 6).trans rfl, (blk_cell BK419.out 0).trans rfl, (blk_cell BK419.out 1).trans rfl, (blk_cell BK419.out 2).trans rfl, ((HB.out.cell (World.block_lt_of_cell? w _ hw438_0)).trans hw438_0), ((HB.out.cell (World.block_lt_of_cell? w _ hw438_1)).trans hw438_1), ((HB.out.cell (World.block_lt_of_cell? w _ hw439_0)).trans hw439_0)⟩ (fun hHeld => ?_)
       clear hK K
       refine zn_ rfl ?_
       refine zp_ HT_ rfl rfl (by kernel_rfl) (fun _ _ _ h => h) (by rfl) ?_
       refine last_ (i := 14) (N := none) (fl_ 15 15) rfl rfl (one_of HT_.out (by kernel_rfl)) (by decide) (fun K hK => ?_)
       have hs50 : w48.cell? ⟨gb436, 5, none⟩ = some (u437005) := (blk_cell BK436.out 5).trans rfl
       have hfs50 := blk_frozen BK436.out 5
       have hns50_0 := NB419_436.out
       have hns50_1 := NB420_436.out
       have hms50_0 := NB436_419.out
       have hms50_1 := NB436_420.out
       refine skip_ (w1 := ?_) (by rfl) rfl ?_ ?_
       rotate_left
       ·go_simp
        rfl
       refine hK.out _ _ ?_
       clear hK K
       refine done_ (done_of HT_.out (by kernel_rfl)) ?_
       try go_wp2
       go_roundg k2
       case measure => have := HJ3.out; have := HK2.out; omega
       case rel => exact ⟨(wrap64 (x42_2 + 1)), (y440), (.slice Ao49 y440.length co49), z4_, H', ⟨by have := HJ3.out; have := HK2.out; omega⟩, ⟨by (with_reducible repeat (first | apply Kd.R_alloc | apply Kd.R_drewN | apply Kd.R_drew)); exact Kd.R_mono (Kd.R_far (p := ⟨gb436, 5, none⟩) (Kd.R_types HO_40.out BK436.out (by decide)) (fun _ hk => hk.2) (.slice Ao49 y440.length co49)) (fun _ hk => ⟨hk.1.1.1, ⟨hk.1.1.2.1, ⟨hk.1.1.2.2, hk.1.2⟩⟩⟩)⟩, ⟨by (with_reducible repeat (first | apply Kd.R_alloc | apply Kd.R_drewN | apply Kd.R_drew)); exact Kd.R_mono (Kd.R_far (p := ⟨gb436, 5, none⟩) (Kd.R_types HO_437000.out BK436.out (by decide)) (fun _ hk => hk.2) (.slice Ao49 y440.length co49)) (fun _ hk => ⟨hk.1.1.1, ⟨hk.1.1.2.1, ⟨hk.1.1.2.2.1, ⟨hk.1.1.2.2.2, hk.1.2⟩⟩⟩⟩)⟩, ⟨by (with_reducible repeat (first | apply Kd.R_alloc | apply Kd.R_drewN | apply Kd.R_drew)); exact Kd.R_mono (Kd.R_far (p := ⟨gb436, 5, none⟩) (Kd.R_types HO_437001.out BK436.out (by decide)) (fun _ hk => hk.2) (.slice Ao49 y440.length co49)) (fun _ hk => ⟨hk.1.1.1, ⟨hk.1.1.2.1, ⟨hk.1.1.2.2, hk.1.2⟩⟩⟩)⟩, ⟨by (with_reducible repeat (first | apply Kd.R_alloc | apply Kd.R_drewN | apply Kd.R_drew)); exact Kd.R_mono (Kd.R_far (p := ⟨gb436, 5, none⟩) (Kd.R_types HO_437002.out BK436.out (by decide)) (fun _ hk => hk.2) (.slice Ao49 y440.length co49)) (fun _ hk => ⟨hk.1.1.1, ⟨hk.1.1.2.1, ⟨hk.1.1.2.2.1, ⟨hk.1.1.2.2.2, hk.1.2⟩⟩⟩⟩)⟩, ⟨by (with_reducible repeat (first | apply Kd.R_alloc | apply Kd.R_drewN | apply Kd.R_drew)); exact Kd.R_mono (Kd.R_far (p := ⟨gb436, 5, none⟩) (Kd.R_types HO_437003.out BK436.out (by decide)) (fun _ hk => hk.2) (.slice Ao49 y440.length co49)) (fun _ hk => ⟨hk.1.1.1, ⟨hk.1.1.2.1, ⟨hk.1.1.2.2.1, ⟨hk.1.1.2.2.2, hk.1.2⟩⟩⟩⟩)⟩, ⟨by (with_reducible repeat (first | apply Kd.R_alloc | apply Kd.R_drewN | apply Kd.R_drew)); exact Kd.R_mono (Kd.R_far (p := ⟨gb436, 5, none⟩) (Kd.R_types HO442.out BK436.out (by decide)) (fun _ hk => hk.2) (.slice Ao49 y440.length co49)) (fun _ hk => ⟨hk.1.1, ⟨hk.1.2.1, ⟨hk.1.2.2.1, ⟨hk.1.2.2.2.1, hk.1.2.2.2.2⟩⟩⟩⟩)⟩, ⟨z91_⟩, ⟨z92_⟩, ⟨by (with_reducible repeat (first | refine blk_drewN ?_ _ | refine blk_drew ?_ | refine blk_alloc ?_ _)); refine blk_put (cs := #[.slice Ao34 t424.length co34, .slice (some ad437) t427.length co33, .slice Ao32 t430.length co32, .slice Ao31 t433.length co31, .slice none 0 0, u437005, .slice none 0 0]) ?_ 5 _ rfl; (with_reducible repeat (first | refine blk_drewN ?_ _ | refine blk_drew ?_ | refine blk_alloc ?_ _)); exact BK436.out⟩, ⟨z14_⟩⟩
      ·rw [if_neg c39] at H
       have c39b0 := decide_eq_false c39
       clear c39
       have H' := Aside0.mk H
       clear H
       have hnb51 := NB436_419.out
       have hnc51 := NB419_436.out
       have hnb52 := NB436_420.out
       have hnc52 := NB420_436.out
       obtain ⟨hcz53_0, hcz53_1, hcz53_2, hcz53_3, hcz53_4, hcz53_5, hcz53_6, hfz53_0, hfz53_1, hfz53_2, hfz53_3, hfz53_4, hfz53_5, hfz53_6⟩ := bx7_ BK436.out
       go_wp2
       go_loopg [64] k2 (fun kq v64 w' => ∃ (x64_3 : Int) (x437004_3 : List Int) (x437006_3 : List (List Int)) (u437004 : Value) (u437006 : Value), v64 = .int .i64 x64_3 ∧ Aside0 (impl_measureOf.l1 kq l0 l1 t424 (t424.length : Int) x64_3 l2_0 l2_1 l2_2 t424 t427 t430 t433 x437004_3 x437005_2 x437006_3 = some (r1, r2, r3, r4, r5, r6, r7, r8)) ∧ Aside0 (kq ≤ k2) ∧ Aside0 (Kd.R (Kd.int .i64) 3 w' w.heap.size (fun k_ => some k_ ≠ ((.slice Ao33 t427.length co33) : Value).ownBlock ∧ some k_ ≠ ((.slice Ao32 t430.length co32) : Value).ownBlock ∧ some k_ ≠ ((.slice Ao31 t433.length co31) : Value).ownBlock ∧ some k_ ≠ (u437004 : Value).ownBlock ∧ some k_ ≠ (u437005 : Value).ownBlock) (.slice Ao34 t424.length co34) t424) ∧ Aside0 (Kd.R (Kd.int .i64) 3 w' w.heap.size (fun k_ => some k_ ≠ ((.slice Ao33 t427.length co33) : Value).ownBlock ∧ some k_ ≠ ((.slice Ao32 t430.length co32) : Value).ownBlock ∧ some k_ ≠ ((.slice Ao31 t433.length co31) : Value).ownBlock ∧ some k_ ≠ (u437004 : Value).ownBlock ∧ some k_ ≠ (u437005 : Value).ownBlock) (.slice Ao34 t424.length co34) t424) ∧ Aside0 (Kd.R (Kd.int .i64) 3 w' w.heap.size (fun k_ => some k_ ≠ ((.slice Ao34 t424.length co34) : Value).ownBlock ∧ some k_ ≠ ((.slice Ao34 t424.length co34) : Value).ownBlock ∧ some k_ ≠ ((.slice Ao32 t430.length co32) : Value).ownBlock ∧ some k_ ≠ ((.slice Ao31 t433.length co31) : Value).ownBlock ∧ some k_ ≠ (u437004 : Value).ownBlock ∧ some k_ ≠ (u437005 : Value).ownBlock) (.slice Ao33 t427.length co33) t427) ∧ Aside0 (Kd.R (Kd.int .i64) 3 w' w.heap.size (fun k_ => some k_ ≠ ((.slice Ao34 t424.length co34) : Value).ownBlock ∧ some k_ ≠ ((.slice Ao34 t424.length co34) : Value).ownBlock ∧ some k_ ≠ ((.slice Ao33 t427.length co33) : Value).ownBlock ∧ some k_ ≠ ((.slice Ao31 t433.length co31) : Value).ownBlock ∧ some k_ ≠ (u437004 : Value).ownBlock ∧ some k_ ≠ (u437005 : Value).ownBlock) (.slice Ao32 t430.length co32) t430) ∧ Aside0 (Kd.R (Kd.int .i64) 3 w' w.heap.size (fun k_ => some k_ ≠ ((.slice Ao34 t424.length co34) : Value).ownBlock ∧ some k_ ≠ ((.slice Ao34 t424.length co34) : Value).ownBlock ∧ some k_ ≠ ((.slice Ao33 t427.length co33) : Value).ownBlock ∧ some k_ ≠ ((.slice Ao32 t430.length co32) : Value).ownBlock ∧ some k_ ≠ (u437004 : Value).ownBlock ∧ some k_ ≠ (u437005 : Value).ownBlock) (.slice Ao31 t433.length co31) t433) ∧ Aside0 (Kd.R (Kd.int .i64) 3 w' w.heap.size (fun k_ => some k_ ≠ ((.slice Ao34 t424.length co34) : Value).ownBlock ∧ some k_ ≠ ((.slice Ao34 t424.length co34) : Value).ownBlock ∧ some k_ ≠ ((.slice Ao33 t427.length co33) : Value).ownBlock ∧ some k_ ≠ ((.slice Ao32 t430.length co32) : Value).ownBlock ∧ some k_ ≠ ((.slice Ao31 t433.length co31) : Value).ownBlock ∧ some k_ ≠ (u437005 : Value).ownBlock) u437004 x437004_3) ∧ Aside0 (Kd.R (Kd.int .i64) 3 w' w.heap.size (fun k_ => some k_ ≠ ((.slice Ao34 t424.length co34) : Value).ownBlock ∧ some k_ ≠ ((.slice Ao34 t424.length co34) : Value).ownBlock ∧ some k_ ≠ ((.slice Ao33 t427.length co33) : Value).ownBlock ∧ some k_ ≠ ((.slice Ao32 t430.length co32) : Value).ownBlock ∧ some k_ ≠ ((.slice Ao31 t433.length co31) : Value).ownBlock ∧ some k_ ≠ (u437004 : Value).ownBlock) u437005 x437005_2) ∧ Aside0 (Kd.S (Kd.slice 3 (Kd.int .i64)) 30 w' w.heap.size (fun k_ => some k_ ≠ ((.slice Ao34 t424.length co34) : Value).ownBlock ∧ some k_ ≠ ((.slice Ao34 t424.length co34) : Value).ownBlock ∧ some k_ ≠ ((.slice Ao33 t427.length co33) : Value).ownBlock ∧ some k_ ≠ ((.slice Ao32 t430.length co32) : Value).ownBlock ∧ some k_ ≠ ((.slice Ao31 t433.length co31) : Value).ownBlock ∧ some k_ ≠ (u437004 : Value).ownBlock ∧ some k_ ≠ (u437005 : Value).ownBlock) u437006 x437006_3) ∧ Aside0 (w'.heap[gb419]? = some (.cells #[(.slice A2_0 l2_0.length c2_0), (.slice A2_1 l2_1.length c2_1), (.slice A2_2 l2_2.length c2_2)] 38 (0, 0))) ∧ Aside0 (w'.heap[gb420]? = some (.cells #[(.slice none 0 0), (.slice none 0 0), (.slice none 0 0), (.slice none 0 0), (.slice none 0 0), (.slice none 0 0), (.slice none 0 0)] 91 (0, 0))) ∧ Aside0 (w'.heap[gb436]? = some (.cells #[(.slice Ao34 t424.length co34), (.slice Ao33 t427.length co33), (.slice Ao32 t430.length co32), (.slice Ao31 t433.length co31), u437004, u437005, u437006] 91 (0, 0))) ∧ Aside0 (Below w.heap.size w w'))
       case atStart => exact ⟨(0), (([] : List Int)), (([] : List (List Int))), (.slice none 0 0), (.slice none 0 0), z4_, H', ⟨Nat.le_refl _⟩, ⟨z160_⟩, ⟨z160_⟩, ⟨by (with_reducible repeat (first | apply Kd.R_alloc | apply Kd.R_drewN | apply Kd.R_drew)); exact Kd.R_mono HO_437001.out (fun _ hk => ⟨hk.1, ⟨hk.1, ⟨hk.2.1, ⟨hk.2.2.1, ⟨z214_, hk.2.2.2⟩⟩⟩⟩⟩)⟩, ⟨by (with_reducible repeat (first | apply Kd.R_alloc | apply Kd.R_drewN | apply Kd.R_drew)); exact Kd.R_mono HO_437002.out (fun _ hk => ⟨hk.2.1, ⟨hk.2.1, ⟨hk.2.2.1, ⟨hk.2.2.2.1, ⟨z214_, hk.2.2.2.2⟩⟩⟩⟩⟩)⟩, ⟨by (with_reducible repeat (first | apply Kd.R_alloc | apply Kd.R_drewN | apply Kd.R_drew)); exact Kd.R_mono HO_437003.out (fun _ hk => ⟨hk.2.1, ⟨hk.2.1, ⟨hk.2.2.1, ⟨hk.2.2.2.1, ⟨z214_, hk.2.2.2.2⟩⟩⟩⟩⟩)⟩, ⟨z70_⟩, ⟨by (with_reducible repeat (first | apply Kd.R_alloc | apply Kd.R_drewN | apply Kd.R_drew)); exact Kd.R_mono HO_437005.out (fun _ hk => ⟨hk.2.1, ⟨hk.2.1, ⟨hk.2.2.1, ⟨hk.2.2.2.1, ⟨hk.2.2.2.2, z214_⟩⟩⟩⟩⟩)⟩, ⟨z210_⟩, ⟨z18_⟩, ⟨z27_⟩, ⟨z89_⟩, ⟨z14_⟩⟩
       case round =>
        clear H'
        obtain ⟨x64_3, x437004_3, x437006_3, u437004, u437006, rfl, HA, HK3, HO_62, HO_437000, HO_437001, HO_437002, HO_437003, HO_437004, HO_437005, HO_437006, BK419, BK420, BK436, HB⟩ := hrel
        cases gk with
        | zero => exact absurd HA.out (by simp [impl_measureOf.l1])
        | succ k3 =>
         have H := HA.out
         clear HA
         simp only [impl_measureOf.l1] at H
         by_cases c54 : x64_3 < (t424.length : Int)
         ·rw [if_pos c54] at H
          have c54b0 := decide_eq_true c54
          clear c54
          obtain ⟨c55b0, H⟩ := ifd_ H
          obtain ⟨c56b0, H⟩ := ifd_ H
          obtain ⟨c57b0, H⟩ := ifd_ H
          obtain ⟨c58b0, H⟩ := ifd_ H
          obtain ⟨c59b0, H⟩ := ifd_ H
          obtain ⟨c60b0, H⟩ := ifd_ H
          obtain ⟨c61, H⟩ := ifs_ H
          have LMc61 := Aside0.mk c61
          clear c61
          first | ((with_reducible have hz_ := gy_ H); obtain ⟨y446, Ny446, H⟩ := hz_) | (generalize hy_ : ((x437004_3 ++ [rd l2_0 ((rd_T61 l0 (rd t424 x64_3)).f0)]) : List Int) = y446 at H; have Ny446 := Aside0.mk hy_.symm; clear hy_)
          first | ((with_reducible have hz_ := gy_ H); obtain ⟨y449, Ny449, H⟩ := hz_) | (generalize hy_ : ((([] : List Int)) : List Int) = y449 at H; have Ny449 := Aside0.mk hy_.symm; clear hy_)
          have H' := Aside0.mk H
          clear H
          have p443 : 0 ≤ (x64_3 : Int) := odt_
          have q443 : x64_3 < (t424.length : Int) := odt_
          obtain ⟨ad443, e443, hx443_0⟩ := Kd.at_int (Kd.R_reads' HO_62.out).2.2 x64_3 p443 q443
          cases e443
          replace p443 := eq_true p443
          replace q443 := eq_true q443
          try go_wp2
          have n0_ := Aside0.mk (Kd.R_drew HO_62.out)
          have n1_ := Aside0.mk (Kd.R_drew HO_437000.out)
          have n2_ := Aside0.mk (Kd.R_drew HO_437001.out)
          have n3_ := Aside0.mk (Kd.R_drew HO_437002.out)
          have n4_ := Aside0.mk (Kd.R_drew HO_437003.out)
          have n5_ := Aside0.mk (Kd.R_drew HO_437004.out)
          have n6_ := Aside0.mk (Kd.R_drew HO_437005.out)
          have n7_ := Aside0.mk (Kd.S_drew HO_437006.out)
          have n8_ := Aside0.mk (blk_drew BK419.out)
          have n9_ := Aside0.mk (blk_drew BK420.out)
          have n10_ := Aside0.mk (blk_drew BK436.out)
          have n11_ := Aside0.mk (below_drew1 HB.out)
          clear HO_62
          clear HO_437000
          clear HO_437001
          clear HO_437002
          clear HO_437003
          clear HO_437004
          clear HO_437005
          clear HO_437006
          clear BK419
          clear BK420
          clear BK436
          clear HB
          have HO_62 := n0_
          have HO_437000 := n1_
          have HO_437001 := n2_
          have HO_437002 := n3_
          have HO_437003 := n4_
          have HO_437004 := n5_
          have HO_437005 := n6_
          have HO_437006 := n7_
          have BK419 := n8_
          have BK420 := n9_
          have BK436 := n10_
          have HB := n11_
          clear n0_ n1_ n2_ n3_ n4_ n5_ n6_ n7_ n8_ n9_ n10_ n11_
          obtain ⟨p444, q444, ad444, e444, hw444_0, hw444_1, hx444_0, hx444_1⟩ := atw61_ HR0 HB (rd t424 x64_3)
          cases e444
          have p445 : 0 ≤ (((rd_T61 l0 (rd t424 x64_3)).f0) : Int) := odt_
          have q445 : ((rd_T61 l0 (rd t424 x64_3)).f0) < (l2_0.length : Int) := odt_
          obtain ⟨ad445, e445, hx445_0⟩ := Kd.at_int HR2_0.out ((rd_T61 l0 (rd t424 x64_3)).f0) p445 q445
          have hw445_0 := hx445_0
          cases e445
          replace hx445_0 := (HB.out.cell (World.block_lt_of_cell? w _ hx445_0)).trans hx445_0
          replace p445 := eq_true p445
          replace q445 := eq_true q445
          refine start_ (n := 15) (S := fun w' => w'.cell? ⟨gb436, 0, none⟩ = some (.slice (some ad443) t424.length co34) ∧ w'.cell? ⟨gb436, 1, none⟩ = some (.slice Ao33 t427.length co33) ∧ w'.cell? ⟨gb436, 2, none⟩ = some (.slice Ao32 t430.length co32) ∧ w'.cell? ⟨gb436, 3, none⟩ = some (.slice Ao31 t433.length co31) ∧ w'.cell? ⟨gb436, 4, none⟩ = some (u437004) ∧ w'.cell? ⟨gb436, 5, none⟩ = some (u437005) ∧ w'.cell? ⟨gb436, 6, none⟩ = some (u437006) ∧ w'.cell? ⟨gb419, 0, none⟩ = some (.slice (some ad445) l2_0.length c2_0) ∧ w'.cell? ⟨gb419, 1, none⟩ = some (.slice A2_1 l2_1.length c2_1) ∧ w'.cell? ⟨gb419, 2, none⟩ = some (.slice A2_2 l2_2.length c2_2) ∧ w'.cell? (ad444.add (((rd t424 x64_3)).toNat * 2)) = some (.int .i64 ((rd_T61 l0 (rd t424 x64_3)).f0)) ∧ w'.cell? ⟨(ad444.add (((rd t424 x64_3)).toNat * 2)).block, (ad444.add (((rd t424 x64_3)).toNat * 2)).off + 1, none⟩ = some (.int .i64 ((rd_T61 l0 (rd t424 x64_3)).f1)) ∧ w'.cell? (ad445.add (((rd_T61 l0 (rd t424 x64_3)).f0)).toNat) = some (.int .i64 (rd l2_0 ((rd_T61 l0 (rd t424 x64_3)).f0)))) (ds := [14]) (fl_ 15 0) (by kernel_rfl) rfl (fl_zero _) ⟨(blk_cell BK436.out 0).trans rfl, (blk_cell BK436.out 1).trans rfl, (blk_cell BK436.out 2).trans rfl, (blk_cell BK436.out 3).trans rfl, (blk_cell BK436.out 4).trans rfl, (blk_cell BK436.out 5).trans rfl, (blk_cell BK436.out 6).trans rfl, (blk_cell BK419.out 0).trans rfl, (blk_cell BK419.out 1).trans rfl, (blk_cell BK419.out 2).trans rfl, ((HB.out.cell (World.block_lt_of_cell? w _ hw444_0)).trans hw444_0), ((HB.out.cell (World.block_lt_of_cell? w _ hw444_1)).trans hw444_1), ((HB.out.cell (World.block_lt_of_cell? w _ hw445_0)).trans hw445_0)⟩ (fun hHeld => ?_); refine with_tabW impl_measureOf.tab12 impl_measureOf.bits12 (fun HT_ HW_ => ?_)
          generalize wr.drew = w62 at HO_62 HO_437000 HO_437001 HO_437002 HO_437003 HO_437004 HO_437005 HO_437006 BK419 BK420 BK436 HB hx444_0 hx444_1 hx445_0 hHeld ⊢
          refine zp_ HT_ rfl rfl (by kernel_rfl) (fun _ _ _ h => h) (by rfl) ?_
          refine zpg_ (i := 2) (ra_ [1, 1, 1, 12]) HT_ rfl rfl (by kernel_rfl) (fun _ _ _ h => h) (by rfl) ?_
          refine zpg_ (i := 4) (ra_ [1, 1, 1, 1, 1, 10]) HT_ rfl rfl (by kernel_rfl) (fun _ _ _ h => h) (by rfl) ?_
          refine zpg_ (i := 5) (ra_ [1, 1, 1, 1, 2, 9]) HT_ rfl rfl (by kernel_rfl) (fun _ _ _ h => h) (by rfl) ?_
          refine zpg_ (i := 6) (ra_ [1, 1, 1, 1, 3, 8]) HT_ rfl rfl (by kernel_rfl) (fun _ _ _ h => h) (by rfl) ?_
          refine zpg_ (i := 7) (ra_ [1, 1, 1, 1, 4, 7]) HT_ rfl rfl (by kernel_rfl) (fun _ _ _ h => h) (by rfl) ?_
          refine ztg_ (i := 1) (ra_ [3, 1, 4, 7]) HT_ HW_ rfl rfl (by kernel_rfl) (fun _ _ _ h => h) (by rfl) hHeld ?_ z11_
          refine ztg_ (i := 3) (fl_ 15 8) HT_ HW_ rfl rfl (by kernel_rfl) (fun _ _ _ h => h) (by rfl) hHeld ?_ z11_
          refine zt_ HT_ HW_ rfl rfl (by kernel_rfl) (fun _ _ _ h => h) (by rfl) hHeld ?_ z11_
          refine zp_ HT_ rfl rfl (by kernel_rfl) (fun _ _ _ h => h) (by rfl) ?_
          refine zt_ HT_ HW_ rfl rfl (by kernel_rfl) (fun _ _ _ h => h) (by rfl) hHeld ?_ z11_
          refine one_ (i := 11) (N := some 79) (fl_ 15 12) rfl rfl (one_of HT_.out (by kernel_rfl)) (by decide) (fun K hK => ?_)
          refine value_ (w1 := ?_) (v := ?_) (by rfl) rfl ?_ ?_
          rotate_left 2
          ·go_simp
           constructor
           ·rfl
           ·rfl
          refine hK.out _ _ ⟨(blk_cell (blk_alloc BK436.out _) 0).trans rfl, (blk_cell (blk_alloc BK436.out _) 1).trans rfl, (blk_cell (blk_alloc BK436.out _) 2).trans rfl, (blk_cell (blk_alloc BK436.out _) 3).trans rfl, (blk_cell (blk_alloc BK436.out _) 4).trans rfl, (blk_cell (blk_alloc BK436.out _) 5).trans rfl, (blk_cell (blk_alloc BK436.out _) 6).trans rfl, (blk_cell (blk_alloc BK419.out _) 0).trans rfl, (blk_cell (blk_alloc BK419.out _) 1).trans rfl, (blk_cell (blk_alloc BK419.out _) 2).trans rfl, (World.cell?_alloc_lt _ _ _ (World.block_lt_of_cell? _ _ (((HB.out.cell (World.block_lt_of_cell? w _ hw444_0)).trans hw444_0)))).trans (((HB.out.cell (World.block_lt_of_cell? w _ hw444_0)).trans hw444_0)), (World.cell?_alloc_lt _ _ _ (World.block_lt_of_cell? _ _ (((HB.out.cell (World.block_lt_of_cell? w _ hw444_1)).trans hw444_1)))).trans (((HB.out.cell (World.block_lt_of_cell? w _ hw444_1)).trans hw444_1)), (World.cell?_alloc_lt _ _ _ (World.block_lt_of_cell? _ _ (((HB.out.cell (World.block_lt_of_cell? w _ hw445_0)).trans hw445_0)))).trans (((HB.out.cell (World.block_lt_of_cell? w _ hw445_0)).trans hw445_0))⟩ (fun hHeld => ?_)
          clear hK K
          refine zn_ rfl ?_
          refine one_ (i := 12) (N := some 80) (fl_ 15 13) rfl rfl (one_of HT_.out (by kernel_rfl)) (by decide) (fun K hK => ?_)
          refine Kd.R_append_step (Kd.int .i64) (w0 := w) w.heap.size (by rfl) (.tmp 69) (.tmp 79) 30 3 (.int .i64 0) 8 rfl Try.underlying30 info3 rfl (by decide) (by omega) u437004 x437004_3 (rd l2_0 ((rd_T61 l0 (rd t424 x64_3)).f0)) [.int .i64 (rd l2_0 ((rd_T61 l0 (rd t424 x64_3)).f0))] (fun k_ => some k_ ≠ (.slice (some ad443) t424.length co34 : Value).ownBlock ∧ some k_ ≠ (.slice (some ad443) t424.length co34 : Value).ownBlock ∧ some k_ ≠ (.slice Ao33 t427.length co33 : Value).ownBlock ∧ some k_ ≠ (.slice Ao32 t430.length co32 : Value).ownBlock ∧ some k_ ≠ (.slice Ao31 t433.length co31 : Value).ownBlock ∧ some k_ ≠ (u437005 : Value).ownBlock) (fun _ => False) rfl rfl ?aP (fun _ hk => hk.elim) ?aF ?aO ?aB ?aS ?aL ?_
          (case aP => exact rfl)
          (case aB => exact z82_)
          (case aF => exact (fun k_ hk => ⟨Kd.fresh' (Kd.R_lt z166_) k_ hk, Kd.fresh' (Kd.R_lt z132_) k_ hk, Kd.fresh' (Kd.R_lt z133_) k_ hk, Kd.fresh' (Kd.R_lt z134_) k_ hk, Kd.fresh' (Kd.R_lt z135_) k_ hk, Kd.fresh' (Kd.R_lt z136_) k_ hk⟩))
          (case aO => exact z159_)
          (case aS => exact z80_)
          (case aL => have := LMc61.out; omega)
          intro v447 w63 ho hb hg hat
          rw [← Ny446.out] at ho
          have n0_ := Aside0.mk (Kd.R_after (ok := (fun k_ => some k_ ≠ (.slice Ao33 t427.length co33 : Value).ownBlock ∧ some k_ ≠ (.slice Ao32 t430.length co32 : Value).ownBlock ∧ some k_ ≠ (.slice Ao31 t433.length co31 : Value).ownBlock ∧ some k_ ≠ (u437005 : Value).ownBlock)) (by (with_reducible repeat (first | apply Kd.R_alloc | apply Kd.R_drewN | apply Kd.R_drew)); exact Kd.R_mono HO_62.out (fun _ hk => ⟨⟨hk.1, ⟨hk.2.1, ⟨hk.2.2.1, hk.2.2.2.2⟩⟩⟩, hk.2.2.2.1⟩)) hg hat)
          have n1_ := Aside0.mk (Kd.R_after (ok := (fun k_ => some k_ ≠ (.slice Ao33 t427.length co33 : Value).ownBlock ∧ some k_ ≠ (.slice Ao32 t430.length co32 : Value).ownBlock ∧ some k_ ≠ (.slice Ao31 t433.length co31 : Value).ownBlock ∧ some k_ ≠ (u437005 : Value).ownBlock)) (by (with_reducible repeat (first | apply Kd.R_alloc | apply Kd.R_drewN | apply Kd.R_drew)); exact Kd.R_mono HO_437000.out (fun _ hk => ⟨⟨hk.1, ⟨hk.2.1, ⟨hk.2.2.1, hk.2.2.2.2⟩⟩⟩, hk.2.2.2.1⟩)) hg hat)
          have n2_ := Aside0.mk (Kd.R_after (ok := (fun k_ => some k_ ≠ (.slice (some ad443) t424.length co34 : Value).ownBlock ∧ some k_ ≠ (.slice (some ad443) t424.length co34 : Value).ownBlock ∧ some k_ ≠ (.slice Ao32 t430.length co32 : Value).ownBlock ∧ some k_ ≠ (.slice Ao31 t433.length co31 : Value).ownBlock ∧ some k_ ≠ (u437005 : Value).ownBlock)) (by (with_reducible repeat (first | apply Kd.R_alloc | apply Kd.R_drewN | apply Kd.R_drew)); exact Kd.R_mono HO_437001.out (fun _ hk => ⟨⟨hk.1, ⟨hk.2.1, ⟨hk.2.2.1, ⟨hk.2.2.2.1, hk.2.2.2.2.2⟩⟩⟩⟩, hk.2.2.2.2.1⟩)) hg hat)
          have n3_ := Aside0.mk (Kd.R_after (ok := (fun k_ => some k_ ≠ (.slice (some ad443) t424.length co34 : Value).ownBlock ∧ some k_ ≠ (.slice (some ad443) t424.length co34 : Value).ownBlock ∧ some k_ ≠ (.slice Ao33 t427.length co33 : Value).ownBlock ∧ some k_ ≠ (.slice Ao31 t433.length co31 : Value).ownBlock ∧ some k_ ≠ (u437005 : Value).ownBlock)) (by (with_reducible repeat (first | apply Kd.R_alloc | apply Kd.R_drewN | apply Kd.R_drew)); exact Kd.R_mono HO_437002.out (fun _ hk => ⟨⟨hk.1, ⟨hk.2.1, ⟨hk.2.2.1, ⟨hk.2.2.2.1, hk.2.2.2.2.2⟩⟩⟩⟩, hk.2.2.2.2.1⟩)) hg hat)
          have n4_ := Aside0.mk (Kd.R_after (ok := (fun k_ => some k_ ≠ (.slice (some ad443) t424.length co34 : Value).ownBlock ∧ some k_ ≠ (.slice (some ad443) t424.length co34 : Value).ownBlock ∧ some k_ ≠ (.slice Ao33 t427.length co33 : Value).ownBlock ∧ some k_ ≠ (.slice Ao32 t430.length co32 : Value).ownBlock ∧ some k_ ≠ (u437005 : Value).ownBlock)) (by (with_reducible repeat (first | apply Kd.R_alloc | apply Kd.R_drewN | apply Kd.R_drew)); exact Kd.R_mono HO_437003.out (fun _ hk => ⟨⟨hk.1, ⟨hk.2.1, ⟨hk.2.2.1, ⟨hk.2.2.2.1, hk.2.2.2.2.2⟩⟩⟩⟩, hk.2.2.2.2.1⟩)) hg hat)
          have n5_ := Aside0.mk (Kd.R_after (ok := (fun k_ => some k_ ≠ (.slice (some ad443) t424.length co34 : Value).ownBlock ∧ some k_ ≠ (.slice (some ad443) t424.length co34 : Value).ownBlock ∧ some k_ ≠ (.slice Ao33 t427.length co33 : Value).ownBlock ∧ some k_ ≠ (.slice Ao32 t430.length co32 : Value).ownBlock ∧ some k_ ≠ (.slice Ao31 t433.length co31 : Value).ownBlock)) (by (with_reducible repeat (first | apply Kd.R_alloc | apply Kd.R_drewN | apply Kd.R_drew)); exact Kd.R_mono HO_437005.out (fun _ hk => ⟨⟨hk.1, ⟨hk.2.1, ⟨hk.2.2.1, ⟨hk.2.2.2.1, hk.2.2.2.2.1⟩⟩⟩⟩, hk.2.2.2.2.2⟩)) hg hat)
          have n6_ := Aside0.mk (Kd.S_after (ok := (fun k_ => some k_ ≠ (.slice (some ad443) t424.length co34 : Value).ownBlock ∧ some k_ ≠ (.slice (some ad443) t424.length co34 : Value).ownBlock ∧ some k_ ≠ (.slice Ao33 t427.length co33 : Value).ownBlock ∧ some k_ ≠ (.slice Ao32 t430.length co32 : Value).ownBlock ∧ some k_ ≠ (.slice Ao31 t433.length co31 : Value).ownBlock ∧ some k_ ≠ (u437005 : Value).ownBlock)) (by (with_reducible repeat (first | apply Kd.S_alloc | apply Kd.S_drewN | apply Kd.S_drew)); exact Kd.S_mono HO_437006.out (fun _ hk => ⟨⟨hk.1, ⟨hk.2.1, ⟨hk.2.2.1, ⟨hk.2.2.2.1, ⟨hk.2.2.2.2.1, hk.2.2.2.2.2.2⟩⟩⟩⟩⟩, hk.2.2.2.2.2.1⟩)) hg hat)
          have n7_ := Aside0.mk (blk_grown z18_ hg (Kd.R_ne HO_437004.out BK419.out (by decide)))
          have n8_ := Aside0.mk (blk_grown z27_ hg (Kd.R_ne HO_437004.out BK420.out (by decide)))
          have n9_ := Aside0.mk (blk_grown z89_ hg (Kd.R_ne HO_437004.out BK436.out (by decide)))
          have n10_ := Aside0.mk (hb)
          have n11_ := Aside0.mk (ho)
          clear HO_62
          clear HO_437000
          clear HO_437001
          clear HO_437002
          clear HO_437003
          clear HO_437005
          clear HO_437006
          clear BK419
          clear BK420
          clear BK436
          clear HB
          clear HO_437004
          have HO_62 := n0_
          have HO_437000 := n1_
          have HO_437001 := n2_
          have HO_437002 := n3_
          have HO_437003 := n4_
          have HO_437005 := n5_
          have HO_437006 := n6_
          have BK419 := n7_
          have BK420 := n8_
          have BK436 := n9_
          have HB := n10_
          have HO448 := n11_
          clear n0_ n1_ n2_ n3_ n4_ n5_ n6_ n7_ n8_ n9_ n10_ n11_
          clear ho hb hg hat
          obtain ⟨Ao64, co64, eo64⟩ := Kd.R_slice HO448.out
          (first | subst eo64 | (injection eo64 with f1_ f2_ f3_; have f4_ := f1_.symm; have f5_ := f3_.symm; clear f1_ f2_ f3_; subst f4_; subst f5_))
          refine hK.out _ _ ⟨(blk_cell BK436.out 0).trans rfl, (blk_cell BK436.out 1).trans rfl, (blk_cell BK436.out 2).trans rfl, (blk_cell BK436.out 3).trans rfl, (blk_cell BK436.out 4).trans rfl, (blk_cell BK436.out 5).trans rfl, (blk_cell BK436.out 6).trans rfl, (blk_cell BK419.out 0).trans rfl, (blk_cell BK419.out 1).trans rfl, (blk_cell BK419.out 2).trans rfl, ((HB.out.cell (World.block_lt_of_cell? w _ hw444_0)).trans hw444_0), ((HB.out.cell (World.block_lt_of_cell? w _ hw444_1)).trans hw444_1), ((HB.out.cell (World.block_lt_of_cell? w _ hw445_0)).trans hw445_0)⟩ (fun hHeld => ?_)
          clear hK K
          refine zn_ rfl ?_
          refine zp_ HT_ rfl rfl (by kernel_rfl) (fun _ _ _ h => h) (by rfl) ?_
          refine last_ (i := 14) (N := none) (fl_ 15 15) rfl rfl (one_of HT_.out (by kernel_rfl)) (by decide) (fun K hK => ?_)
          have hs65 : w63.cell? ⟨gb436, 4, none⟩ = some (u437004) := (blk_cell BK436.out 4).trans rfl
          have hfs65 := blk_frozen BK436.out 4
          have hns65_0 := NB419_436.out
          have hns65_1 := NB420_436.out
          have hms65_0 := NB436_419.out
          have hms65_1 := NB436_420.out
          refine skip_ (w1 := ?_) (by rfl) rfl ?_ ?_
          rotate_left
          ·go_simp
           rfl
          refine hK.out _ _ ?_
          clear hK K
          refine done_ (done_of HT_.out (by kernel_rfl)) ?_
          try go_wp2_with (first | ((with_reducible refine gate_dst (N := 82) rfl ?_); refine Kd.R_lit (Kd.int .i64) _ 3 ?hg (N := 82) ?hd (xs := ([] : List Int)) (inner := []) (ok := fun _ => True) (okp := fun _ => True) ?hr ?hp (fun _ hk => hk) trivial (Below.refl _ _) (Nat.le_refl _) (by simp) ?_; (case hd => rfl); (case hg => rfl); (case hr => exact z9_); (case hp => exact z196_); intro v450 w66 ho67 hb hg_ hnew_; clear hg_ hnew_; (first | rw [← Ny449.out] at ho67 | (simp only [Int.reduceToNat] at ho67; rw [← Ny449.out] at ho67)); replace HO_437006 := Aside0.mk (Kd.S_elder' (by (with_reducible repeat (first | apply Kd.S_alloc | apply Kd.S_drewN | apply Kd.S_drew)); exact (Kd.S_mono (Kd.S_far (p := ⟨gb436, 4, none⟩) (Kd.S_types HO_437006.out BK436.out (by decide)) (fun _ hk => hk.2) (.slice Ao64 y446.length co64)) (fun _ h_ => h_.1))) (Kd.R_base ho67) hb); have HO451 := Aside0.mk (Kd.R_lower (Kd.R_new' (Kd.R_new' (Kd.R_new' (Kd.R_new' (Kd.R_new' (Kd.R_new' (Kd.R_new' ho67 (Kd.R_lt z146_)) (Kd.R_lt z138_)) (Kd.R_lt z139_)) (Kd.R_lt z140_)) (Kd.R_lt z141_)) (Kd.R_lt z142_)) (Kd.R_lt z147_)) (below_size z14_)); replace HO_62 := Aside0.mk (Kd.R_elder' z146_ (Kd.R_base ho67) hb); replace HO_437000 := Aside0.mk (Kd.R_elder' z138_ (Kd.R_base ho67) hb); replace HO_437001 := Aside0.mk (Kd.R_elder' z139_ (Kd.R_base ho67) hb); replace HO_437002 := Aside0.mk (Kd.R_elder' z140_ (Kd.R_base ho67) hb); replace HO_437003 := Aside0.mk (Kd.R_elder' z141_ (Kd.R_base ho67) hb); replace HO_437005 := Aside0.mk (Kd.R_elder' z142_ (Kd.R_base ho67) hb); replace HO448 := Aside0.mk (Kd.R_elder' z147_ (Kd.R_base ho67) hb); replace BK419 := Aside0.mk (blk_below (g := gb419) (o := .cells #[.slice (some ad445) l2_0.length c2_0, .slice A2_1 l2_1.length c2_1, .slice A2_2 l2_2.length c2_2] 38 (0, 0)) z91_ hb); replace BK420 := Aside0.mk (blk_below (g := gb420) (o := .cells #[.slice none 0 0, .slice none 0 0, .slice none 0 0, .slice none 0 0, .slice none 0 0, .slice none 0 0, .slice none 0 0] 91 (0, 0)) z92_ hb); replace BK436 := Aside0.mk (blk_below (g := gb436) (o := .cells #[.slice (some ad443) t424.length co34, .slice Ao33 t427.length co33, .slice Ao32 t430.length co32, .slice Ao31 t433.length co31, .slice Ao64 y446.length co64, u437005, u437006] 91 (0, 0)) (by (with_reducible repeat (first | refine blk_drewN ?_ _ | refine blk_drew ?_ | refine blk_alloc ?_ _)); refine blk_put (cs := #[.slice (some ad443) t424.length co34, .slice Ao33 t427.length co33, .slice Ao32 t430.length co32, .slice Ao31 t433.length co31, u437004, u437005, u437006]) ?_ 4 _ rfl; (with_reducible repeat (first | refine blk_drewN ?_ _ | refine blk_drew ?_ | refine blk_alloc ?_ _)); exact BK436.out) hb); replace HB := Aside0.mk (below_step z14_ hb); clear hb ho67; have hnb68 := NB436_419.out; have hnc68 := NB419_436.out; have hnb69 := NB436_420.out; have hnc69 := NB420_436.out; obtain ⟨hcz70_0, hcz70_1, hcz70_2, hcz70_3, hcz70_4, hcz70_5, hcz70_6, hfz70_0, hfz70_1, hfz70_2, hfz70_3, hfz70_4, hfz70_5, hfz70_6⟩ := bx7_ BK436.out))
          go_loopg [13, 86] k3 (fun kq v13 v86 w' => ∃ (x13_4 : List Int) (x86_4 : Int), v86 = .int .i64 x86_4 ∧ Aside0 (impl_measureOf.l2 kq l0 l1 (rd t424 x64_3) x13_4 t424 (t424.length : Int) x64_3 t427 (t427.length : Int) x86_4 l2_0 l2_1 l2_2 t424 t427 t430 t433 y446 x437005_2 x437006_3 = some (r1, r2, r3, r4, r5, r6, r7, r8)) ∧ Aside0 (kq ≤ k3) ∧ Aside0 (Kd.R (Kd.int .i64) 3 w' w.heap.size (fun k_ => some k_ ≠ ((.slice (some ad443) t424.length co34) : Value).ownBlock ∧ some k_ ≠ ((.slice Ao33 t427.length co33) : Value).ownBlock ∧ some k_ ≠ ((.slice (some ad443) t424.length co34) : Value).ownBlock ∧ some k_ ≠ ((.slice Ao33 t427.length co33) : Value).ownBlock ∧ some k_ ≠ ((.slice Ao32 t430.length co32) : Value).ownBlock ∧ some k_ ≠ ((.slice Ao31 t433.length co31) : Value).ownBlock ∧ some k_ ≠ ((.slice Ao64 y446.length co64) : Value).ownBlock ∧ some k_ ≠ (u437005 : Value).ownBlock) v13 x13_4) ∧ Aside0 (Kd.R (Kd.int .i64) 3 w' w.heap.size (fun k_ => some k_ ≠ (v13 : Value).ownBlock ∧ some k_ ≠ ((.slice Ao33 t427.length co33) : Value).ownBlock ∧ some k_ ≠ ((.slice Ao33 t427.length co33) : Value).ownBlock ∧ some k_ ≠ ((.slice Ao32 t430.length co32) : Value).ownBlock ∧ some k_ ≠ ((.slice Ao31 t433.length co31) : Value).ownBlock ∧ some k_ ≠ ((.slice Ao64 y446.length co64) : Value).ownBlock ∧ some k_ ≠ (u437005 : Value).ownBlock) (.slice (some ad443) t424.length co34) t424) ∧ Aside0 (Kd.R (Kd.int .i64) 3 w' w.heap.size (fun k_ => some k_ ≠ (v13 : Value).ownBlock ∧ some k_ ≠ ((.slice (some ad443) t424.length co34) : Value).ownBlock ∧ some k_ ≠ ((.slice (some ad443) t424.length co34) : Value).ownBlock ∧ some k_ ≠ ((.slice Ao32 t430.length co32) : Value).ownBlock ∧ some k_ ≠ ((.slice Ao31 t433.length co31) : Value).ownBlock ∧ some k_ ≠ ((.slice Ao64 y446.length co64) : Value).ownBlock ∧ some k_ ≠ (u437005 : Value).ownBlock) (.slice Ao33 t427.length co33) t427) ∧ Aside0 (Kd.R (Kd.int .i64) 3 w' w.heap.size (fun k_ => some k_ ≠ (v13 : Value).ownBlock ∧ some k_ ≠ ((.slice Ao33 t427.length co33) : Value).ownBlock ∧ some k_ ≠ ((.slice Ao33 t427.length co33) : Value).ownBlock ∧ some k_ ≠ ((.slice Ao32 t430.length co32) : Value).ownBlock ∧ some k_ ≠ ((.slice Ao31 t433.length co31) : Value).ownBlock ∧ some k_ ≠ ((.slice Ao64 y446.length co64) : Value).ownBlock ∧ some k_ ≠ (u437005 : Value).ownBlock) (.slice (some ad443) t424.length co34) t424) ∧ Aside0 (Kd.R (Kd.int .i64) 3 w' w.heap.size (fun k_ => some k_ ≠ (v13 : Value).ownBlock ∧ some k_ ≠ ((.slice (some ad443) t424.length co34) : Value).ownBlock ∧ some k_ ≠ ((.slice (some ad443) t424.length co34) : Value).ownBlock ∧ some k_ ≠ ((.slice Ao32 t430.length co32) : Value).ownBlock ∧ some k_ ≠ ((.slice Ao31 t433.length co31) : Value).ownBlock ∧ some k_ ≠ ((.slice Ao64 y446.length co64) : Value).ownBlock ∧ some k_ ≠ (u437005 : Value).ownBlock) (.slice Ao33 t427.length co33) t427) ∧ Aside0 (Kd.R (Kd.int .i64) 3 w' w.heap.size (fun k_ => some k_ ≠ (v13 : Value).ownBlock ∧ some k_ ≠ ((.slice (some ad443) t424.length co34) : Value).ownBlock ∧ some k_ ≠ ((.slice Ao33 t427.length co33) : Value).ownBlock ∧ some k_ ≠ ((.slice (some ad443) t424.length co34) : Value).ownBlock ∧ some k_ ≠ ((.slice Ao33 t427.length co33) : Value).ownBlock ∧ some k_ ≠ ((.slice Ao31 t433.length co31) : Value).ownBlock ∧ some k_ ≠ ((.slice Ao64 y446.length co64) : Value).ownBlock ∧ some k_ ≠ (u437005 : Value).ownBlock) (.slice Ao32 t430.length co32) t430) ∧ Aside0 (Kd.R (Kd.int .i64) 3 w' w.heap.size (fun k_ => some k_ ≠ (v13 : Value).ownBlock ∧ some k_ ≠ ((.slice (some ad443) t424.length co34) : Value).ownBlock ∧ some k_ ≠ ((.slice Ao33 t427.length co33) : Value).ownBlock ∧ some k_ ≠ ((.slice (some ad443) t424.length co34) : Value).ownBlock ∧ some k_ ≠ ((.slice Ao33 t427.length co33) : Value).ownBlock ∧ some k_ ≠ ((.slice Ao32 t430.length co32) : Value).ownBlock ∧ some k_ ≠ ((.slice Ao64 y446.length co64) : Value).ownBlock ∧ some k_ ≠ (u437005 : Value).ownBlock) (.slice Ao31 t433.length co31) t433) ∧ Aside0 (Kd.R (Kd.int .i64) 3 w' w.heap.size (fun k_ => some k_ ≠ (v13 : Value).ownBlock ∧ some k_ ≠ ((.slice (some ad443) t424.length co34) : Value).ownBlock ∧ some k_ ≠ ((.slice Ao33 t427.length co33) : Value).ownBlock ∧ some k_ ≠ ((.slice (some ad443) t424.length co34) : Value).ownBlock ∧ some k_ ≠ ((.slice Ao33 t427.length co33) : Value).ownBlock ∧ some k_ ≠ ((.slice Ao32 t430.length co32) : Value).ownBlock ∧ some k_ ≠ ((.slice Ao31 t433.length co31) : Value).ownBlock ∧ some k_ ≠ (u437005 : Value).ownBlock) (.slice Ao64 y446.length co64) y446) ∧ Aside0 (Kd.R (Kd.int .i64) 3 w' w.heap.size (fun k_ => some k_ ≠ (v13 : Value).ownBlock ∧ some k_ ≠ ((.slice (some ad443) t424.length co34) : Value).ownBlock ∧ some k_ ≠ ((.slice Ao33 t427.length co33) : Value).ownBlock ∧ some k_ ≠ ((.slice (some ad443) t424.length co34) : Value).ownBlock ∧ some k_ ≠ ((.slice Ao33 t427.length co33) : Value).ownBlock ∧ some k_ ≠ ((.slice Ao32 t430.length co32) : Value).ownBlock ∧ some k_ ≠ ((.slice Ao31 t433.length co31) : Value).ownBlock ∧ some k_ ≠ ((.slice Ao64 y446.length co64) : Value).ownBlock) u437005 x437005_2) ∧ Aside0 (Kd.S (Kd.slice 3 (Kd.int .i64)) 30 w' w.heap.size (fun k_ => some k_ ≠ (v13 : Value).ownBlock ∧ some k_ ≠ ((.slice (some ad443) t424.length co34) : Value).ownBlock ∧ some k_ ≠ ((.slice Ao33 t427.length co33) : Value).ownBlock ∧ some k_ ≠ ((.slice (some ad443) t424.length co34) : Value).ownBlock ∧ some k_ ≠ ((.slice Ao33 t427.length co33) : Value).ownBlock ∧ some k_ ≠ ((.slice Ao32 t430.length co32) : Value).ownBlock ∧ some k_ ≠ ((.slice Ao31 t433.length co31) : Value).ownBlock ∧ some k_ ≠ ((.slice Ao64 y446.length co64) : Value).ownBlock ∧ some k_ ≠ (u437005 : Value).ownBlock) u437006 x437006_3) ∧ Aside0 (w'.heap[gb419]? = some (.cells #[(.slice (some ad445) l2_0.length c2_0), (.slice A2_1 l2_1.length c2_1), (.slice A2_2 l2_2.length c2_2)] 38 (0, 0))) ∧ Aside0 (w'.heap[gb420]? = some (.cells #[(.slice none 0 0), (.slice none 0 0), (.slice none 0 0), (.slice none 0 0), (.slice none 0 0), (.slice none 0 0), (.slice none 0 0)] 91 (0, 0))) ∧ Aside0 (w'.heap[gb436]? = some (.cells #[(.slice (some ad443) t424.length co34), (.slice Ao33 t427.length co33), (.slice Ao32 t430.length co32), (.slice Ao31 t433.length co31), (.slice Ao64 y446.length co64), u437005, u437006] 91 (0, 0))) ∧ Aside0 (Below w.heap.size w w'))
          case atStart => exact ⟨(y449), (0), z4_, H', ⟨Nat.le_refl _⟩, ⟨by (with_reducible repeat (first | apply Kd.R_alloc | apply Kd.R_drewN | apply Kd.R_drew)); exact Kd.R_mono HO451.out (fun _ hk => ⟨hk.1.1.1.1.1.1.2, ⟨hk.1.1.1.1.2, ⟨hk.1.1.1.1.1.2, ⟨hk.1.1.1.1.2, ⟨hk.1.1.1.2, ⟨hk.1.1.2, ⟨hk.2, hk.1.2⟩⟩⟩⟩⟩⟩⟩)⟩, ⟨by (with_reducible repeat (first | apply Kd.R_alloc | apply Kd.R_drewN | apply Kd.R_drew)); exact Kd.R_mono HO_62.out (fun _ hk => ⟨hk.2, ⟨hk.1.1.1, ⟨hk.1.1.1, ⟨hk.1.1.2.1, ⟨hk.1.1.2.2.1, ⟨hk.1.2, hk.1.1.2.2.2⟩⟩⟩⟩⟩⟩)⟩, ⟨z158_⟩, ⟨by (with_reducible repeat (first | apply Kd.R_alloc | apply Kd.R_drewN | apply Kd.R_drew)); exact Kd.R_mono HO_437000.out (fun _ hk => ⟨hk.2, ⟨hk.1.1.1, ⟨hk.1.1.1, ⟨hk.1.1.2.1, ⟨hk.1.1.2.2.1, ⟨hk.1.2, hk.1.1.2.2.2⟩⟩⟩⟩⟩⟩)⟩, ⟨z158_⟩, ⟨by (with_reducible repeat (first | apply Kd.R_alloc | apply Kd.R_drewN | apply Kd.R_drew)); exact Kd.R_mono HO_437002.out (fun _ hk => ⟨hk.2, ⟨hk.1.1.1, ⟨hk.1.1.2.2.1, ⟨hk.1.1.2.1, ⟨hk.1.1.2.2.1, ⟨hk.1.1.2.2.2.1, ⟨hk.1.2, hk.1.1.2.2.2.2⟩⟩⟩⟩⟩⟩⟩)⟩, ⟨by (with_reducible repeat (first | apply Kd.R_alloc | apply Kd.R_drewN | apply Kd.R_drew)); exact Kd.R_mono HO_437003.out (fun _ hk => ⟨hk.2, ⟨hk.1.1.1, ⟨hk.1.1.2.2.1, ⟨hk.1.1.2.1, ⟨hk.1.1.2.2.1, ⟨hk.1.1.2.2.2.1, ⟨hk.1.2, hk.1.1.2.2.2.2⟩⟩⟩⟩⟩⟩⟩)⟩, ⟨by (with_reducible repeat (first | apply Kd.R_alloc | apply Kd.R_drewN | apply Kd.R_drew)); exact Kd.R_mono HO448.out (fun _ hk => ⟨hk.2, ⟨hk.1.1, ⟨hk.1.2.2.1, ⟨hk.1.2.1, ⟨hk.1.2.2.1, ⟨hk.1.2.2.2.1, ⟨hk.1.2.2.2.2.1, hk.1.2.2.2.2.2⟩⟩⟩⟩⟩⟩⟩)⟩, ⟨by (with_reducible repeat (first | apply Kd.R_alloc | apply Kd.R_drewN | apply Kd.R_drew)); exact Kd.R_mono HO_437005.out (fun _ hk => ⟨hk.2, ⟨hk.1.1.1, ⟨hk.1.1.2.2.1, ⟨hk.1.1.2.1, ⟨hk.1.1.2.2.1, ⟨hk.1.1.2.2.2.1, ⟨hk.1.1.2.2.2.2, hk.1.2⟩⟩⟩⟩⟩⟩⟩)⟩, ⟨by (with_reducible repeat (first | apply Kd.S_alloc | apply Kd.S_drewN | apply Kd.S_drew)); exact Kd.S_mono HO_437006.out (fun _ hk => ⟨hk.2, ⟨hk.1.1.1, ⟨hk.1.1.2.2.1, ⟨hk.1.1.2.1, ⟨hk.1.1.2.2.1, ⟨hk.1.1.2.2.2.1, ⟨hk.1.1.2.2.2.2.1, ⟨hk.1.2, hk.1.1.2.2.2.2.2⟩⟩⟩⟩⟩⟩⟩⟩)⟩, ⟨z18_⟩, ⟨z27_⟩, ⟨z89_⟩, ⟨z14_⟩⟩
          case round =>
           clear H'
           obtain ⟨x13_4, x86_4, rfl, HA, HK4, HO_13, HO_62, HO_84, HO_437000, HO_437001, HO_437002, HO_437003, HO_437004, HO_437005, HO_437006, BK419, BK420, BK436, HB⟩ := hrel
           cases gk with
           | zero => exact absurd HA.out (by simp [impl_measureOf.l2])
           | succ k4 =>
            have H := HA.out
            clear HA
            simp only [impl_measureOf.l2] at H
            by_cases c71 : x86_4 < (t427.length : Int)
            ·rw [if_pos c71] at H
             have c71b0 := decide_eq_true c71
             clear c71
             obtain ⟨c72b0, H⟩ := ifd_ H
             obtain ⟨c73b0, H⟩ := ifd_ H
             obtain ⟨c74b0, H⟩ := ifd_ H
             obtain ⟨c75b0, H⟩ := ifd_ H
             obtain ⟨c76b0, H⟩ := ifd_ H
             obtain ⟨c77b0, H⟩ := ifd_ H
             obtain ⟨ji78, hji78⟩ : ∃ j_ : Int, (wrap64 ((wrap64 (((rd_T61 l0 (rd t424 x64_3)).f0) * 6)) + ((rd_T61 l1 (rd t427 x86_4)).f0))) = j_ := ⟨_, rfl⟩
             first | rw [hji78] at H | simp only [hji78] at H
             have hji78w : (IntKind.i64.wrap ((wrap64 (((rd_T61 l0 (rd t424 x64_3)).f0) * 6)) + ((rd_T61 l1 (rd t427 x86_4)).f0))) = ji78 := (i64_w _).trans hji78
             obtain ⟨c79b0, H⟩ := ifd_ H
             obtain ⟨c80b0, H⟩ := ifd_ H
             obtain ⟨c81, H⟩ := ifs_ H
             have LMc81 := Aside0.mk c81
             clear c81
             first | ((with_reducible have hz_ := gy_ H); obtain ⟨y456, Ny456, H⟩ := hz_) | (generalize hy_ : ((x13_4 ++ [rd l2_2 (ji78)]) : List Int) = y456 at H; have Ny456 := Aside0.mk hy_.symm; clear hy_)
             have H' := Aside0.mk H
             clear H
             have p452 : 0 ≤ (x86_4 : Int) := odt_
             have q452 : x86_4 < (t427.length : Int) := odt_
             obtain ⟨ad452, e452, hx452_0⟩ := Kd.at_int (Kd.R_reads' HO_84.out).2.2 x86_4 p452 q452
             cases e452
             replace p452 := eq_true p452
             replace q452 := eq_true q452
             try go_wp2
             have n0_ := Aside0.mk (Kd.R_drew HO_13.out)
             have n1_ := Aside0.mk (Kd.R_drew HO_62.out)
             have n2_ := Aside0.mk (Kd.R_drew HO_84.out)
             have n3_ := Aside0.mk (Kd.R_drew HO_437000.out)
             have n4_ := Aside0.mk (Kd.R_drew HO_437001.out)
             have n5_ := Aside0.mk (Kd.R_drew HO_437002.out)
             have n6_ := Aside0.mk (Kd.R_drew HO_437003.out)
             have n7_ := Aside0.mk (Kd.R_drew HO_437004.out)
             have n8_ := Aside0.mk (Kd.R_drew HO_437005.out)
             have n9_ := Aside0.mk (Kd.S_drew HO_437006.out)
             have n10_ := Aside0.mk (blk_drew BK419.out)
             have n11_ := Aside0.mk (blk_drew BK420.out)
             have n12_ := Aside0.mk (blk_drew BK436.out)
             have n13_ := Aside0.mk (below_drew1 HB.out)
             clear HO_13
             clear HO_62
             clear HO_84
             clear HO_437000
             clear HO_437001
             clear HO_437002
             clear HO_437003
             clear HO_437004
             clear HO_437005
             clear HO_437006
             clear BK419
             clear BK420
             clear BK436
             clear HB
             have HO_13 := n0_
             have HO_62 := n1_
             have HO_84 := n2_
             have HO_437000 := n3_
             have HO_437001 := n4_
             have HO_437002 := n5_
             have HO_437003 := n6_
             have HO_437004 := n7_
             have HO_437005 := n8_
             have HO_437006 := n9_
             have BK419 := n10_
             have BK420 := n11_
             have BK436 := n12_
             have HB := n13_
             clear n0_ n1_ n2_ n3_ n4_ n5_ n6_ n7_ n8_ n9_ n10_ n11_ n12_ n13_
             obtain ⟨p453, q453, ad453, e453, hw453_0, hw453_1, hx453_0, hx453_1⟩ := atw61_ HR0 HB (rd t424 x64_3)
             obtain rfl : ad444 = ad453 := (by injection e453)
             obtain ⟨p454, q454, ad454, e454, hw454_0, hw454_1, hx454_0, hx454_1⟩ := atw61_ HR1 HB (rd t427 x86_4)
             cases e454
             have p455 : 0 ≤ ((ji78) : Int) := odt_
             have q455 : (ji78) < (l2_2.length : Int) := odt_
             obtain ⟨ad455, e455, hx455_0⟩ := Kd.at_int HR2_2.out (ji78) p455 q455
             have hw455_0 := hx455_0
             cases e455
             replace hx455_0 := (HB.out.cell (World.block_lt_of_cell? w _ hx455_0)).trans hx455_0
             replace p455 := eq_true p455
             replace q455 := eq_true q455
             refine start_ (n := 20) (S := fun w' => w'.cell? ⟨gb419, 0, none⟩ = some (.slice (some ad445) l2_0.length c2_0) ∧ w'.cell? ⟨gb419, 1, none⟩ = some (.slice A2_1 l2_1.length c2_1) ∧ w'.cell? ⟨gb419, 2, none⟩ = some (.slice (some ad455) l2_2.length c2_2) ∧ w'.cell? (ad444.add (((rd t424 x64_3)).toNat * 2)) = some (.int .i64 ((rd_T61 l0 (rd t424 x64_3)).f0)) ∧ w'.cell? ⟨(ad444.add (((rd t424 x64_3)).toNat * 2)).block, (ad444.add (((rd t424 x64_3)).toNat * 2)).off + 1, none⟩ = some (.int .i64 ((rd_T61 l0 (rd t424 x64_3)).f1)) ∧ w'.cell? (ad454.add (((rd t427 x86_4)).toNat * 2)) = some (.int .i64 ((rd_T61 l1 (rd t427 x86_4)).f0)) ∧ w'.cell? ⟨(ad454.add (((rd t427 x86_4)).toNat * 2)).block, (ad454.add (((rd t427 x86_4)).toNat * 2)).off + 1, none⟩ = some (.int .i64 ((rd_T61 l1 (rd t427 x86_4)).f1)) ∧ w'.cell? (ad455.add ((ji78)).toNat) = some (.int .i64 (rd l2_2 (ji78)))) (ds := []) (fl_ 20 0) (by kernel_rfl) rfl (fl_zero _) ⟨(blk_cell BK419.out 0).trans rfl, (blk_cell BK419.out 1).trans rfl, (blk_cell BK419.out 2).trans rfl, ((HB.out.cell (World.block_lt_of_cell? w _ hw453_0)).trans hw453_0), ((HB.out.cell (World.block_lt_of_cell? w _ hw453_1)).trans hw453_1), ((HB.out.cell (World.block_lt_of_cell? w _ hw454_0)).trans hw454_0), ((HB.out.cell (World.block_lt_of_cell? w _ hw454_1)).trans hw454_1), ((HB.out.cell (World.block_lt_of_cell? w _ hw455_0)).trans hw455_0)⟩ (fun hHeld => ?_); refine with_tabW impl_measureOf.tab17 impl_measureOf.bits17 (fun HT_ HW_ => ?_)
             generalize wr.drew = w82 at HO_13 HO_62 HO_84 HO_437000 HO_437001 HO_437002 HO_437003 HO_437004 HO_437005 HO_437006 BK419 BK420 BK436 HB hx453_0 hx453_1 hx454_0 hx454_1 hx455_0 hHeld ⊢
             iterate 2 refine zp_ HT_ rfl rfl (by kernel_rfl) (fun _ _ _ h => h) (by rfl) ?_
             refine zpg_ (i := 3) (ra_ [2, 1, 1, 16]) HT_ rfl rfl (by kernel_rfl) (fun _ _ _ h => h) (by rfl) ?_
             refine zpg_ (i := 4) (ra_ [2, 1, 2, 15]) HT_ rfl rfl (by kernel_rfl) (fun _ _ _ h => h) (by rfl) ?_
             refine zpg_ (i := 5) (ra_ [2, 1, 3, 14]) HT_ rfl rfl (by kernel_rfl) (fun _ _ _ h => h) (by rfl) ?_
             refine zpg_ (i := 6) (ra_ [2, 1, 4, 13]) HT_ rfl rfl (by kernel_rfl) (fun _ _ _ h => h) (by rfl) ?_
             refine zpg_ (i := 9) (ra_ [2, 1, 4, 2, 1, 10]) HT_ rfl rfl (by kernel_rfl) (fun _ _ _ h => h) (by rfl) ?_
             refine zpg_ (i := 10) (ra_ [2, 1, 4, 2, 2, 9]) HT_ rfl rfl (by kernel_rfl) (fun _ _ _ h => h) (by rfl) ?_
             refine zpg_ (i := 11) (ra_ [2, 1, 4, 2, 3, 8]) HT_ rfl rfl (by kernel_rfl) (fun _ _ _ h => h) (by rfl) ?_
             refine zpg_ (i := 12) (ra_ [2, 1, 4, 2, 4, 7]) HT_ rfl rfl (by kernel_rfl) (fun _ _ _ h => h) (by rfl) ?_
             refine ztg_ (i := 2) (ra_ [7, 2, 4, 7]) HT_ HW_ rfl rfl (by kernel_rfl) (fun _ _ _ h => h) (by rfl) hHeld ?_ z127_
             refine ztg_ (i := 7) (ra_ [8, 1, 4, 7]) HT_ HW_ rfl rfl (by kernel_rfl) (fun _ _ _ h => h) (by rfl) hHeld ?_ z127_
             refine zpg_ (i := 8) (fl_ 20 13) HT_ rfl rfl (by kernel_rfl) (fun _ _ _ h => h) (by rfl) ?_
             refine zt_ HT_ HW_ rfl rfl (by kernel_rfl) (fun _ _ _ h => h) (by rfl) hHeld ?_ z127_
             iterate 2 refine zp_ HT_ rfl rfl (by kernel_rfl) (fun _ _ _ h => h) (by rfl) ?_
             refine zt_ HT_ HW_ rfl rfl (by kernel_rfl) (fun _ _ _ h => h) (by rfl) hHeld ?_ z127_
             refine one_ (i := 17) (N := some 107) (fl_ 20 18) rfl rfl (one_of HT_.out (by kernel_rfl)) (by decide) (fun K hK => ?_)
             refine value_ (w1 := ?_) (v := ?_) (by rfl) rfl ?_ ?_
             rotate_left 2
             ·go_simp
              constructor
              ·rfl
              ·rfl
             refine hK.out _ _ ⟨(blk_cell (blk_alloc BK419.out _) 0).trans rfl, (blk_cell (blk_alloc BK419.out _) 1).trans rfl, (blk_cell (blk_alloc BK419.out _) 2).trans rfl, (World.cell?_alloc_lt _ _ _ (World.block_lt_of_cell? _ _ (((HB.out.cell (World.block_lt_of_cell? w _ hw453_0)).trans hw453_0)))).trans (((HB.out.cell (World.block_lt_of_cell? w _ hw453_0)).trans hw453_0)), (World.cell?_alloc_lt _ _ _ (World.block_lt_of_cell? _ _ (((HB.out.cell (World.block_lt_of_cell? w _ hw453_1)).trans hw453_1)))).trans (((HB.out.cell (World.block_lt_of_cell? w _ hw453_1)).trans hw453_1)), (World.cell?_alloc_lt _ _ _ (World.block_lt_of_cell? _ _ (((HB.out.cell (World.block_lt_of_cell? w _ hw454_0)).trans hw454_0)))).trans (((HB.out.cell (World.block_lt_of_cell? w _ hw454_0)).trans hw454_0)), (World.cell?_alloc_lt _ _ _ (World.block_lt_of_cell? _ _ (((HB.out.cell (World.block_lt_of_cell? w _ hw454_1)).trans hw454_1)))).trans (((HB.out.cell (World.block_lt_of_cell? w _ hw454_1)).trans hw454_1)), (World.cell?_alloc_lt _ _ _ (World.block_lt_of_cell? _ _ (((HB.out.cell (World.block_lt_of_cell? w _ hw455_0)).trans hw455_0)))).trans (((HB.out.cell (World.block_lt_of_cell? w _ hw455_0)).trans hw455_0))⟩ (fun hHeld => ?_)
             clear hK K
             refine zn_ rfl ?_
             refine one_ (i := 18) (N := some 108) (fl_ 20 19) rfl rfl (one_of HT_.out (by kernel_rfl)) (by decide) (fun K hK => ?_)
             refine Kd.R_append_step (Kd.int .i64) (w0 := w) w.heap.size (by rfl) (.tmp 90) (.tmp 107) 30 3 (.int .i64 0) 8 rfl Try.underlying30 info3 rfl (by decide) (by omega) u13 x13_4 (rd l2_2 (ji78)) [.int .i64 (rd l2_2 (ji78))] (fun k_ => some k_ ≠ (.slice (some ad443) t424.length co34 : Value).ownBlock ∧ some k_ ≠ (.slice (some ad452) t427.length co33 : Value).ownBlock ∧ some k_ ≠ (.slice (some ad443) t424.length co34 : Value).ownBlock ∧ some k_ ≠ (.slice (some ad452) t427.length co33 : Value).ownBlock ∧ some k_ ≠ (.slice Ao32 t430.length co32 : Value).ownBlock ∧ some k_ ≠ (.slice Ao31 t433.length co31 : Value).ownBlock ∧ some k_ ≠ (.slice Ao64 y446.length co64 : Value).ownBlock ∧ some k_ ≠ (u437005 : Value).ownBlock) (fun _ => False) rfl rfl ?aP (fun _ hk => hk.elim) ?aF ?aO ?aB ?aS ?aL ?_
             (case aP => exact rfl)
             (case aB => exact z82_)
             (case aF => exact z31_)
             (case aO => exact z77_)
             (case aS => exact z80_)
             (case aL => have := LMc81.out; omega)
             intro v457 w83 ho hb hg hat
             rw [← Ny456.out] at ho
             have n0_ := Aside0.mk (Kd.R_after (ok := (fun k_ => some k_ ≠ (.slice (some ad452) t427.length co33 : Value).ownBlock ∧ some k_ ≠ (.slice (some ad452) t427.length co33 : Value).ownBlock ∧ some k_ ≠ (.slice Ao32 t430.length co32 : Value).ownBlock ∧ some k_ ≠ (.slice Ao31 t433.length co31 : Value).ownBlock ∧ some k_ ≠ (.slice Ao64 y446.length co64 : Value).ownBlock ∧ some k_ ≠ (u437005 : Value).ownBlock)) (by (with_reducible repeat (first | apply Kd.R_alloc | apply Kd.R_drewN | apply Kd.R_drew)); exact Kd.R_mono HO_62.out (fun _ hk => ⟨⟨hk.2.1, ⟨hk.2.2.1, ⟨hk.2.2.2.1, ⟨hk.2.2.2.2.1, ⟨hk.2.2.2.2.2.1, hk.2.2.2.2.2.2⟩⟩⟩⟩⟩, hk.1⟩)) hg hat)
             have n1_ := Aside0.mk (Kd.R_after (ok := (fun k_ => some k_ ≠ (.slice (some ad443) t424.length co34 : Value).ownBlock ∧ some k_ ≠ (.slice (some ad443) t424.length co34 : Value).ownBlock ∧ some k_ ≠ (.slice Ao32 t430.length co32 : Value).ownBlock ∧ some k_ ≠ (.slice Ao31 t433.length co31 : Value).ownBlock ∧ some k_ ≠ (.slice Ao64 y446.length co64 : Value).ownBlock ∧ some k_ ≠ (u437005 : Value).ownBlock)) (by (with_reducible repeat (first | apply Kd.R_alloc | apply Kd.R_drewN | apply Kd.R_drew)); exact Kd.R_mono HO_84.out (fun _ hk => ⟨⟨hk.2.1, ⟨hk.2.2.1, ⟨hk.2.2.2.1, ⟨hk.2.2.2.2.1, ⟨hk.2.2.2.2.2.1, hk.2.2.2.2.2.2⟩⟩⟩⟩⟩, hk.1⟩)) hg hat)
             have n2_ := Aside0.mk (Kd.R_after (ok := (fun k_ => some k_ ≠ (.slice (some ad452) t427.length co33 : Value).ownBlock ∧ some k_ ≠ (.slice (some ad452) t427.length co33 : Value).ownBlock ∧ some k_ ≠ (.slice Ao32 t430.length co32 : Value).ownBlock ∧ some k_ ≠ (.slice Ao31 t433.length co31 : Value).ownBlock ∧ some k_ ≠ (.slice Ao64 y446.length co64 : Value).ownBlock ∧ some k_ ≠ (u437005 : Value).ownBlock)) (by (with_reducible repeat (first | apply Kd.R_alloc | apply Kd.R_drewN | apply Kd.R_drew)); exact Kd.R_mono HO_437000.out (fun _ hk => ⟨⟨hk.2.1, ⟨hk.2.2.1, ⟨hk.2.2.2.1, ⟨hk.2.2.2.2.1, ⟨hk.2.2.2.2.2.1, hk.2.2.2.2.2.2⟩⟩⟩⟩⟩, hk.1⟩)) hg hat)
             have n3_ := Aside0.mk (Kd.R_after (ok := (fun k_ => some k_ ≠ (.slice (some ad443) t424.length co34 : Value).ownBlock ∧ some k_ ≠ (.slice (some ad443) t424.length co34 : Value).ownBlock ∧ some k_ ≠ (.slice Ao32 t430.length co32 : Value).ownBlock ∧ some k_ ≠ (.slice Ao31 t433.length co31 : Value).ownBlock ∧ some k_ ≠ (.slice Ao64 y446.length co64 : Value).ownBlock ∧ some k_ ≠ (u437005 : Value).ownBlock)) (by (with_reducible repeat (first | apply Kd.R_alloc | apply Kd.R_drewN | apply Kd.R_drew)); exact Kd.R_mono HO_437001.out (fun _ hk => ⟨⟨hk.2.1, ⟨hk.2.2.1, ⟨hk.2.2.2.1, ⟨hk.2.2.2.2.1, ⟨hk.2.2.2.2.2.1, hk.2.2.2.2.2.2⟩⟩⟩⟩⟩, hk.1⟩)) hg hat)
             have n4_ := Aside0.mk (Kd.R_after (ok := (fun k_ => some k_ ≠ (.slice (some ad443) t424.length co34 : Value).ownBlock ∧ some k_ ≠ (.slice (some ad452) t427.length co33 : Value).ownBlock ∧ some k_ ≠ (.slice (some ad443) t424.length co34 : Value).ownBlock ∧ some k_ ≠ (.slice (some ad452) t427.length co33 : Value).ownBlock ∧ some k_ ≠ (.slice Ao31 t433.length co31 : Value).ownBlock ∧ some k_ ≠ (.slice Ao64 y446.length co64 : Value).ownBlock ∧ some k_ ≠ (u437005 : Value).ownBlock)) (by (with_reducible repeat (first | apply Kd.R_alloc | apply Kd.R_drewN | apply Kd.R_drew)); exact Kd.R_mono HO_437002.out (fun _ hk => ⟨⟨hk.2.1, ⟨hk.2.2.1, ⟨hk.2.2.2.1, ⟨hk.2.2.2.2.1, ⟨hk.2.2.2.2.2.1, ⟨hk.2.2.2.2.2.2.1, hk.2.2.2.2.2.2.2⟩⟩⟩⟩⟩⟩, hk.1⟩)) hg hat)
             have n5_ := Aside0.mk (Kd.R_after (ok := (fun k_ => some k_ ≠ (.slice (some ad443) t424.length co34 : Value).ownBlock ∧ some k_ ≠ (.slice (some ad452) t427.length co33 : Value).ownBlock ∧ some k_ ≠ (.slice (some ad443) t424.length co34 : Value).ownBlock ∧ some k_ ≠ (.slice (some ad452) t427.length co33 : Value).ownBlock ∧ some k_ ≠ (.slice Ao32 t430.length co32 : Value).ownBlock ∧ some k_ ≠ (.slice Ao64 y446.length co64 : Value).ownBlock ∧ some k_ ≠ (u437005 : Value).ownBlock)) (by (with_reducible repeat (first | apply Kd.R_alloc | apply Kd.R_drewN | apply Kd.R_drew)); exact Kd.R_mono HO_437003.out (fun _ hk => ⟨⟨hk.2.1, ⟨hk.2.2.1, ⟨hk.2.2.2.1, ⟨hk.2.2.2.2.1, ⟨hk.2.2.2.2.2.1, ⟨hk.2.2.2.2.2.2.1, hk.2.2.2.2.2.2.2⟩⟩⟩⟩⟩⟩, hk.1⟩)) hg hat)
             have n6_ := Aside0.mk (Kd.R_after (ok := (fun k_ => some k_ ≠ (.slice (some ad443) t424.length co34 : Value).ownBlock ∧ some k_ ≠ (.slice (some ad452) t427.length co33 : Value).ownBlock ∧ some k_ ≠ (.slice (some ad443) t424.length co34 : Value).ownBlock ∧ some k_ ≠ (.slice (some ad452) t427.length co33 : Value).ownBlock ∧ some k_ ≠ (.slice Ao32 t430.length co32 : Value).ownBlock ∧ some k_ ≠ (.slice Ao31 t433.length co31 : Value).ownBlock ∧ some k_ ≠ (u437005 : Value).ownBlock)) (by (with_reducible repeat (first | apply Kd.R_alloc | apply Kd.R_drewN | apply Kd.R_drew)); exact Kd.R_mono HO_437004.out (fun _ hk => ⟨⟨hk.2.1, ⟨hk.2.2.1, ⟨hk.2.2.2.1, ⟨hk.2.2.2.2.1, ⟨hk.2.2.2.2.2.1, ⟨hk.2.2.2.2.2.2.1, hk.2.2.2.2.2.2.2⟩⟩⟩⟩⟩⟩, hk.1⟩)) hg hat)
             have n7_ := Aside0.mk (Kd.R_after (ok := (fun k_ => some k_ ≠ (.slice (some ad443) t424.length co34 : Value).ownBlock ∧ some k_ ≠ (.slice (some ad452) t427.length co33 : Value).ownBlock ∧ some k_ ≠ (.slice (some ad443) t424.length co34 : Value).ownBlock ∧ some k_ ≠ (.slice (some ad452) t427.length co33 : Value).ownBlock ∧ some k_ ≠ (.slice Ao32 t430.length co32 : Value).ownBlock ∧ some k_ ≠ (.slice Ao31 t433.length co31 : Value).ownBlock ∧ some k_ ≠ (.slice Ao64 y446.length co64 : Value).ownBlock)) (by (with_reducible repeat (first | apply Kd.R_alloc | apply Kd.R_drewN | apply Kd.R_drew)); exact Kd.R_mono HO_437005.out (fun _ hk => ⟨⟨hk.2.1, ⟨hk.2.2.1, ⟨hk.2.2.2.1, ⟨hk.2.2.2.2.1, ⟨hk.2.2.2.2.2.1, ⟨hk.2.2.2.2.2.2.1, hk.2.2.2.2.2.2.2⟩⟩⟩⟩⟩⟩, hk.1⟩)) hg hat)
             have n8_ := Aside0.mk (Kd.S_after (ok := (fun k_ => some k_ ≠ (.slice (some ad443) t424.length co34 : Value).ownBlock ∧ some k_ ≠ (.slice (some ad452) t427.length co33 : Value).ownBlock ∧ some k_ ≠ (.slice (some ad443) t424.length co34 : Value).ownBlock ∧ some k_ ≠ (.slice (some ad452) t427.length co33 : Value).ownBlock ∧ some k_ ≠ (.slice Ao32 t430.length co32 : Value).ownBlock ∧ some k_ ≠ (.slice Ao31 t433.length co31 : Value).ownBlock ∧ some k_ ≠ (.slice Ao64 y446.length co64 : Value).ownBlock ∧ some k_ ≠ (u437005 : Value).ownBlock)) (by (with_reducible repeat (first | apply Kd.S_alloc | apply Kd.S_drewN | apply Kd.S_drew)); exact Kd.S_mono HO_437006.out (fun _ hk => ⟨⟨hk.2.1, ⟨hk.2.2.1, ⟨hk.2.2.2.1, ⟨hk.2.2.2.2.1, ⟨hk.2.2.2.2.2.1, ⟨hk.2.2.2.2.2.2.1, ⟨hk.2.2.2.2.2.2.2.1, hk.2.2.2.2.2.2.2.2⟩⟩⟩⟩⟩⟩⟩, hk.1⟩)) hg hat)
             have n9_ := Aside0.mk (blk_grown z18_ hg (Kd.R_ne HO_13.out BK419.out (by decide)))
             have n10_ := Aside0.mk (blk_grown z27_ hg (Kd.R_ne HO_13.out BK420.out (by decide)))
             have n11_ := Aside0.mk (blk_grown z89_ hg (Kd.R_ne HO_13.out BK436.out (by decide)))
             have n12_ := Aside0.mk (hb)
             have n13_ := Aside0.mk (ho)
             clear HO_62
             clear HO_84
             clear HO_437000
             clear HO_437001
             clear HO_437002
             clear HO_437003
             clear HO_437004
             clear HO_437005
             clear HO_437006
             clear BK419
             clear BK420
             clear BK436
             clear HB
             clear HO_13
             have HO_62 := n0_
             have HO_84 := n1_
             have HO_437000 := n2_
             have HO_437001 := n3_
             have HO_437002 := n4_
             have HO_437003 := n5_
             have HO_437004 := n6_
             have HO_437005 := n7_
             have HO_437006 := n8_
             have BK419 := n9_
             have BK420 := n10_
             have BK436 := n11_
             have HB := n12_
             have HO458 := n13_
             clear n0_ n1_ n2_ n3_ n4_ n5_ n6_ n7_ n8_ n9_ n10_ n11_ n12_ n13_
             clear ho hb hg hat
             refine hK.out _ _ ⟨(blk_cell BK419.out 0).trans rfl, (blk_cell BK419.out 1).trans rfl, (blk_cell BK419.out 2).trans rfl, ((HB.out.cell (World.block_lt_of_cell? w _ hw453_0)).trans hw453_0), ((HB.out.cell (World.block_lt_of_cell? w _ hw453_1)).trans hw453_1), ((HB.out.cell (World.block_lt_of_cell? w _ hw454_0)).trans hw454_0), ((HB.out.cell (World.block_lt_of_cell? w _ hw454_1)).trans hw454_1), ((HB.out.cell (World.block_lt_of_cell? w _ hw455_0)).trans hw455_0)⟩ (fun hHeld => ?_)
             clear hK K
             refine zn_ rfl ?_
             refine zp_ HT_ rfl rfl (by kernel_rfl) (fun _ _ _ h => h) (by rfl) ?_
             refine done_ (done_of HT_.out (by kernel_rfl)) ?_
             try go_wp2
             go_roundg k4
             case measure => have := HJ3.out; have := HK2.out; have := HK3.out; have := HK4.out; omega
             case rel => exact ⟨(y456), (wrap64 (x86_4 + 1)), z4_, H', ⟨by have := HJ3.out; have := HK2.out; have := HK3.out; have := HK4.out; omega⟩, ⟨by (with_reducible repeat (first | apply Kd.R_alloc | apply Kd.R_drewN | apply Kd.R_drew)); exact HO458.out⟩, ⟨by (with_reducible repeat (first | apply Kd.R_alloc | apply Kd.R_drewN | apply Kd.R_drew)); exact Kd.R_mono HO_62.out (fun _ hk => ⟨hk.2, ⟨hk.1.1, ⟨hk.1.2.1, ⟨hk.1.2.2.1, ⟨hk.1.2.2.2.1, ⟨hk.1.2.2.2.2.1, hk.1.2.2.2.2.2⟩⟩⟩⟩⟩⟩)⟩, ⟨by (with_reducible repeat (first | apply Kd.R_alloc | apply Kd.R_drewN | apply Kd.R_drew)); exact Kd.R_mono HO_84.out (fun _ hk => ⟨hk.2, ⟨hk.1.1, ⟨hk.1.2.1, ⟨hk.1.2.2.1, ⟨hk.1.2.2.2.1, ⟨hk.1.2.2.2.2.1, hk.1.2.2.2.2.2⟩⟩⟩⟩⟩⟩)⟩, ⟨by (with_reducible repeat (first | apply Kd.R_alloc | apply Kd.R_drewN | apply Kd.R_drew)); exact Kd.R_mono HO_437000.out (fun _ hk => ⟨hk.2, ⟨hk.1.1, ⟨hk.1.2.1, ⟨hk.1.2.2.1, ⟨hk.1.2.2.2.1, ⟨hk.1.2.2.2.2.1, hk.1.2.2.2.2.2⟩⟩⟩⟩⟩⟩)⟩, ⟨by (with_reducible repeat (first | apply Kd.R_alloc | apply Kd.R_drewN | apply Kd.R_drew)); exact Kd.R_mono HO_437001.out (fun _ hk => ⟨hk.2, ⟨hk.1.1, ⟨hk.1.2.1, ⟨hk.1.2.2.1, ⟨hk.1.2.2.2.1, ⟨hk.1.2.2.2.2.1, hk.1.2.2.2.2.2⟩⟩⟩⟩⟩⟩)⟩, ⟨by (with_reducible repeat (first | apply Kd.R_alloc | apply Kd.R_drewN | apply Kd.R_drew)); exact Kd.R_mono HO_437002.out (fun _ hk => ⟨hk.2, ⟨hk.1.1, ⟨hk.1.2.1, ⟨hk.1.2.2.1, ⟨hk.1.2.2.2.1, ⟨hk.1.2.2.2.2.1, ⟨hk.1.2.2.2.2.2.1, hk.1.2.2.2.2.2.2⟩⟩⟩⟩⟩⟩⟩)⟩, ⟨by (with_reducible repeat (first | apply Kd.R_alloc | apply Kd.R_drewN | apply Kd.R_drew)); exact Kd.R_mono HO_437003.out (fun _ hk => ⟨hk.2, ⟨hk.1.1, ⟨hk.1.2.1, ⟨hk.1.2.2.1, ⟨hk.1.2.2.2.1, ⟨hk.1.2.2.2.2.1, ⟨hk.1.2.2.2.2.2.1, hk.1.2.2.2.2.2.2⟩⟩⟩⟩⟩⟩⟩)⟩, ⟨by (with_reducible repeat (first | apply Kd.R_alloc | apply Kd.R_drewN | apply Kd.R_drew)); exact Kd.R_mono HO_437004.out (fun _ hk => ⟨hk.2, ⟨hk.1.1, ⟨hk.1.2.1, ⟨hk.1.2.2.1, ⟨hk.1.2.2.2.1, ⟨hk.1.2.2.2.2.1, ⟨hk.1.2.2.2.2.2.1, hk.1.2.2.2.2.2.2⟩⟩⟩⟩⟩⟩⟩)⟩, ⟨by (with_reducible repeat (first | apply Kd.R_alloc | apply Kd.R_drewN | apply Kd.R_drew)); exact Kd.R_mono HO_437005.out (fun _ hk => ⟨hk.2, ⟨hk.1.1, ⟨hk.1.2.1, ⟨hk.1.2.2.1, ⟨hk.1.2.2.2.1, ⟨hk.1.2.2.2.2.1, ⟨hk.1.2.2.2.2.2.1, hk.1.2.2.2.2.2.2⟩⟩⟩⟩⟩⟩⟩)⟩, ⟨by (with_reducible repeat (first | apply Kd.S_alloc | apply Kd.S_drewN | apply Kd.S_drew)); exact Kd.S_mono HO_437006.out (fun _ hk => ⟨hk.2, ⟨hk.1.1, ⟨hk.1.2.1, ⟨hk.1.2.2.1, ⟨hk.1.2.2.2.1, ⟨hk.1.2.2.2.2.1, ⟨hk.1.2.2.2.2.2.1, ⟨hk.1.2.2.2.2.2.2.1, hk.1.2.2.2.2.2.2.2⟩⟩⟩⟩⟩⟩⟩⟩)⟩, ⟨z18_⟩, ⟨z27_⟩, ⟨z89_⟩, ⟨z14_⟩⟩
            ·rw [if_neg c71] at H
             have c71b0 := decide_eq_false c71
             clear c71
             obtain ⟨c84, H⟩ := ifs_ H
             have LMc84 := Aside0.mk c84
             clear c84
             first | ((with_reducible have hz_ := gy_ H); obtain ⟨y459, Ny459, H⟩ := hz_) | (generalize hy_ : ((x437006_3 ++ [x13_4]) : List (List Int)) = y459 at H; have Ny459 := Aside0.mk hy_.symm; clear hy_)
             have H' := Aside0.mk H
             clear H
             have hnb85 := NB436_419.out
             have hnc85 := NB419_436.out
             have hnb86 := NB436_420.out
             have hnc86 := NB420_436.out
             obtain ⟨hcz87_0, hcz87_1, hcz87_2, hcz87_3, hcz87_4, hcz87_5, hcz87_6, hfz87_0, hfz87_1, hfz87_2, hfz87_3, hfz87_4, hfz87_5, hfz87_6⟩ := bx7_ BK436.out
             obtain ⟨Ao89, co89, eo89⟩ := Kd.R_slice HO_13.out
             subst eo89
             go_wp2_with (first | ((with_reducible refine gate_builtin (b := .append) (xs := #[.tmp 111, .tmp 113]) rfl ?_); at_builtin; refine Kd.S_append (Kd.slice 3 (Kd.int .i64)) (w0 := w) w.heap.size rfl (.tmp 111) (.tmp 113) 89 30 (.slice none 0 0) 24 rfl Try.underlying89 info30 rfl (by decide) (by omega) u437006 x437006_3 x13_4 [.slice Ao89 x13_4.length co89] (fun k_ => some k_ ≠ (.slice (some ad443) t424.length co34 : Value).ownBlock ∧ some k_ ≠ (.slice Ao33 t427.length co33 : Value).ownBlock ∧ some k_ ≠ (.slice (some ad443) t424.length co34 : Value).ownBlock ∧ some k_ ≠ (.slice Ao33 t427.length co33 : Value).ownBlock ∧ some k_ ≠ (.slice Ao32 t430.length co32 : Value).ownBlock ∧ some k_ ≠ (.slice Ao31 t433.length co31 : Value).ownBlock ∧ some k_ ≠ (.slice Ao64 y446.length co64 : Value).ownBlock ∧ some k_ ≠ (u437005 : Value).ownBlock) (fun k_ => some k_ = (.slice Ao89 x13_4.length co89 : Value).ownBlock) rfl rfl ?aP (fun k_ hk_ => ((Kd.R_mono (ok' := fun k_ => ((fun k_ => some k_ ≠ (.slice (some ad443) t424.length co34 : Value).ownBlock ∧ some k_ ≠ (.slice Ao33 t427.length co33 : Value).ownBlock ∧ some k_ ≠ (.slice (some ad443) t424.length co34 : Value).ownBlock ∧ some k_ ≠ (.slice Ao33 t427.length co33 : Value).ownBlock ∧ some k_ ≠ (.slice Ao32 t430.length co32 : Value).ownBlock ∧ some k_ ≠ (.slice Ao31 t433.length co31 : Value).ownBlock ∧ some k_ ≠ (.slice Ao64 y446.length co64 : Value).ownBlock ∧ some k_ ≠ (u437005 : Value).ownBlock)) k_ ∧ some k_ ≠ (u437006 : Value).ownBlock) (Kd.R_apart' (HO_13.out) (Kd.S_typed HO_437006.out) (by decide)) (fun k_ hk => ⟨⟨hk.1.1, ⟨hk.1.2.1, ⟨hk.1.2.2.1, ⟨hk.1.2.2.2.1, ⟨hk.1.2.2.2.2.1, ⟨hk.1.2.2.2.2.2.1, ⟨hk.1.2.2.2.2.2.2.1, hk.1.2.2.2.2.2.2.2⟩⟩⟩⟩⟩⟩⟩, hk.2⟩))).1 k_ hk_.symm) ?aF ?aO ?aB ?aS ?aL ?_; (case aP => exact Kd.M_row (Kd.R_mono (Kd.R_tight rfl (Kd.R_mono (ok' := fun k_ => ((fun k_ => some k_ ≠ (.slice (some ad443) t424.length co34 : Value).ownBlock ∧ some k_ ≠ (.slice Ao33 t427.length co33 : Value).ownBlock ∧ some k_ ≠ (.slice (some ad443) t424.length co34 : Value).ownBlock ∧ some k_ ≠ (.slice Ao33 t427.length co33 : Value).ownBlock ∧ some k_ ≠ (.slice Ao32 t430.length co32 : Value).ownBlock ∧ some k_ ≠ (.slice Ao31 t433.length co31 : Value).ownBlock ∧ some k_ ≠ (.slice Ao64 y446.length co64 : Value).ownBlock ∧ some k_ ≠ (u437005 : Value).ownBlock)) k_ ∧ some k_ ≠ (u437006 : Value).ownBlock) (Kd.R_apart' (HO_13.out) (Kd.S_typed HO_437006.out) (by decide)) (fun k_ hk => ⟨⟨hk.1.1, ⟨hk.1.2.1, ⟨hk.1.2.2.1, ⟨hk.1.2.2.2.1, ⟨hk.1.2.2.2.2.1, ⟨hk.1.2.2.2.2.2.1, ⟨hk.1.2.2.2.2.2.2.1, hk.1.2.2.2.2.2.2.2⟩⟩⟩⟩⟩⟩⟩, hk.2⟩))) (fun _ h_ => h_))); (case aB => exact z82_); (case aF => exact z31_); (case aO => exact (by (with_reducible repeat (first | apply Kd.S_alloc | apply Kd.S_drewN | apply Kd.S_drew)); exact Kd.S_mono HO_437006.out (fun k_ hk => ⟨⟨hk.2.1, ⟨hk.2.2.1, ⟨hk.2.2.2.1, ⟨hk.2.2.2.2.1, ⟨hk.2.2.2.2.2.1, ⟨hk.2.2.2.2.2.2.1, ⟨hk.2.2.2.2.2.2.2.1, hk.2.2.2.2.2.2.2.2⟩⟩⟩⟩⟩⟩⟩, fun e_ => hk.1 e_⟩))); (case aS => exact z80_); (case aL => have := LMc84.out; omega); intro v460 w88 ho hb hg hat; rw [← Ny459.out] at ho; replace HO_62 := Aside0.mk (Kd.R_over' z166_ (Kd.S_typed z84_) (by decide) hg); replace HO_84 := Aside0.mk (Kd.R_over' z200_ (Kd.S_typed z84_) (by decide) hg); replace HO_437000 := Aside0.mk (Kd.R_over' z132_ (Kd.S_typed z84_) (by decide) hg); replace HO_437001 := Aside0.mk (Kd.R_over' z133_ (Kd.S_typed z84_) (by decide) hg); replace HO_437002 := Aside0.mk (Kd.R_over' z134_ (Kd.S_typed z84_) (by decide) hg); replace HO_437003 := Aside0.mk (Kd.R_over' z135_ (Kd.S_typed z84_) (by decide) hg); replace HO_437004 := Aside0.mk (Kd.R_over' z159_ (Kd.S_typed z84_) (by decide) hg); replace HO_437005 := Aside0.mk (Kd.R_over' z136_ (Kd.S_typed z84_) (by decide) hg); replace BK419 := Aside0.mk (blk_grown z18_ hg (Kd.S_ne HO_437006.out BK419.out (by decide))); replace BK420 := Aside0.mk (blk_grown z27_ hg (Kd.S_ne HO_437006.out BK420.out (by decide))); replace BK436 := Aside0.mk (blk_grown z89_ hg (Kd.S_ne HO_437006.out BK436.out (by decide))); replace HB := Aside0.mk (hb); have HO461 := Aside0.mk (ho); clear HO_437006 HO_13; clear ho hb hg hat; obtain ⟨Ao90, co90, eo90⟩ := Kd.S_slice HO461.out; subst eo90; obtain ⟨hcz91_0, hcz91_1, hcz91_2, hcz91_3, hcz91_4, hcz91_5, hcz91_6, hfz91_0, hfz91_1, hfz91_2, hfz91_3, hfz91_4, hfz91_5, hfz91_6⟩ := bx7_ BK436.out))
             go_roundg k4
             case measure => have := HJ3.out; have := HK2.out; have := HK3.out; have := HK4.out; omega
             case rel => exact ⟨(wrap64 (x64_3 + 1)), (y446), (y459), (.slice Ao64 y446.length co64), (.slice Ao90 y459.length co90), z4_, H', ⟨by have := HJ3.out; have := HK2.out; have := HK3.out; have := HK4.out; omega⟩, ⟨by (with_reducible repeat (first | apply Kd.R_alloc | apply Kd.R_drewN | apply Kd.R_drew)); exact Kd.R_mono (Kd.R_far (p := ⟨gb436, 6, none⟩) (Kd.R_types HO_62.out BK436.out (by decide)) (fun _ hk => hk.2) (.slice Ao90 y459.length co90)) (fun _ hk => ⟨hk.1.2.2.1, ⟨hk.1.2.2.2.1, ⟨hk.1.2.2.2.2.1, ⟨hk.1.2.2.2.2.2.1, hk.1.2.2.2.2.2.2⟩⟩⟩⟩)⟩, ⟨by (with_reducible repeat (first | apply Kd.R_alloc | apply Kd.R_drewN | apply Kd.R_drew)); exact Kd.R_mono (Kd.R_far (p := ⟨gb436, 6, none⟩) (Kd.R_types HO_437000.out BK436.out (by decide)) (fun _ hk => hk.2) (.slice Ao90 y459.length co90)) (fun _ hk => ⟨hk.1.2.2.1, ⟨hk.1.2.2.2.1, ⟨hk.1.2.2.2.2.1, ⟨hk.1.2.2.2.2.2.1, hk.1.2.2.2.2.2.2⟩⟩⟩⟩)⟩, ⟨by (with_reducible repeat (first | apply Kd.R_alloc | apply Kd.R_drewN | apply Kd.R_drew)); exact Kd.R_mono (Kd.R_far (p := ⟨gb436, 6, none⟩) (Kd.R_types HO_437001.out BK436.out (by decide)) (fun _ hk => hk.2) (.slice Ao90 y459.length co90)) (fun _ hk => ⟨hk.1.2.1, ⟨hk.1.2.2.1, ⟨hk.1.2.2.2.1, ⟨hk.1.2.2.2.2.1, ⟨hk.1.2.2.2.2.2.1, hk.1.2.2.2.2.2.2⟩⟩⟩⟩⟩)⟩, ⟨by (with_reducible repeat (first | apply Kd.R_alloc | apply Kd.R_drewN | apply Kd.R_drew)); exact Kd.R_mono (Kd.R_far (p := ⟨gb436, 6, none⟩) (Kd.R_types HO_437002.out BK436.out (by decide)) (fun _ hk => hk.2) (.slice Ao90 y459.length co90)) (fun _ hk => ⟨hk.1.2.1, ⟨hk.1.2.2.2.1, ⟨hk.1.2.2.2.2.1, ⟨hk.1.2.2.2.2.2.1, ⟨hk.1.2.2.2.2.2.2.1, hk.1.2.2.2.2.2.2.2⟩⟩⟩⟩⟩)⟩, ⟨by (with_reducible repeat (first | apply Kd.R_alloc | apply Kd.R_drewN | apply Kd.R_drew)); exact Kd.R_mono (Kd.R_far (p := ⟨gb436, 6, none⟩) (Kd.R_types HO_437003.out BK436.out (by decide)) (fun _ hk => hk.2) (.slice Ao90 y459.length co90)) (fun _ hk => ⟨hk.1.2.1, ⟨hk.1.2.2.2.1, ⟨hk.1.2.2.2.2.1, ⟨hk.1.2.2.2.2.2.1, ⟨hk.1.2.2.2.2.2.2.1, hk.1.2.2.2.2.2.2.2⟩⟩⟩⟩⟩)⟩, ⟨by (with_reducible repeat (first | apply Kd.R_alloc | apply Kd.R_drewN | apply Kd.R_drew)); exact Kd.R_mono (Kd.R_far (p := ⟨gb436, 6, none⟩) (Kd.R_types HO_437004.out BK436.out (by decide)) (fun _ hk => hk.2) (.slice Ao90 y459.length co90)) (fun _ hk => ⟨hk.1.2.1, ⟨hk.1.2.2.2.1, ⟨hk.1.2.2.2.2.1, ⟨hk.1.2.2.2.2.2.1, ⟨hk.1.2.2.2.2.2.2.1, hk.1.2.2.2.2.2.2.2⟩⟩⟩⟩⟩)⟩, ⟨by (with_reducible repeat (first | apply Kd.R_alloc | apply Kd.R_drewN | apply Kd.R_drew)); exact Kd.R_mono (Kd.R_far (p := ⟨gb436, 6, none⟩) (Kd.R_types HO_437005.out BK436.out (by decide)) (fun _ hk => hk.2) (.slice Ao90 y459.length co90)) (fun _ hk => ⟨hk.1.2.1, ⟨hk.1.2.2.2.1, ⟨hk.1.2.2.2.2.1, ⟨hk.1.2.2.2.2.2.1, ⟨hk.1.2.2.2.2.2.2.1, hk.1.2.2.2.2.2.2.2⟩⟩⟩⟩⟩)⟩, ⟨by (with_reducible repeat (first | apply Kd.S_alloc | apply Kd.S_drewN | apply Kd.S_drew)); exact Kd.S_mono (Kd.S_far (p := ⟨gb436, 6, none⟩) (Kd.S_types HO461.out BK436.out (by decide)) (fun _ hk => hk.2) (.slice Ao90 y459.length co90)) (fun _ hk => ⟨hk.1.1, ⟨hk.1.2.2.1, ⟨hk.1.2.2.2.1, ⟨hk.1.2.2.2.2.1, ⟨hk.1.2.2.2.2.2.1, ⟨hk.1.2.2.2.2.2.2.1, hk.1.2.2.2.2.2.2.2⟩⟩⟩⟩⟩⟩)⟩, ⟨z91_⟩, ⟨z92_⟩, ⟨by (with_reducible repeat (first | refine blk_drewN ?_ _ | refine blk_drew ?_ | refine blk_alloc ?_ _)); refine blk_put (cs := #[.slice (some ad443) t424.length co34, .slice Ao33 t427.length co33, .slice Ao32 t430.length co32, .slice Ao31 t433.length co31, .slice Ao64 y446.length co64, u437005, u437006]) ?_ 6 _ rfl; (with_reducible repeat (first | refine blk_drewN ?_ _ | refine blk_drew ?_ | refine blk_alloc ?_ _)); exact BK436.out⟩, ⟨z14_⟩⟩
         ·rw [if_neg c54] at H
          have c54b0 := decide_eq_false c54
          clear c54
          simp only [Option.some.injEq, Prod.mk.injEq] at H
          obtain ⟨rfl, rfl, rfl, rfl, rfl, rfl, rfl, rfl⟩ := H
          have hnb92 := NB436_419.out
          have hnc92 := NB419_436.out
          have hnb93 := NB436_420.out
          have hnc93 := NB420_436.out
          obtain ⟨hcz94_0, hcz94_1, hcz94_2, hcz94_3, hcz94_4, hcz94_5, hcz94_6, hfz94_0, hfz94_1, hfz94_2, hfz94_3, hfz94_4, hfz94_5, hfz94_6⟩ := bx7_ BK436.out
          have hnb95 := NB420_419.out
          have hnc95 := NB419_420.out
          obtain ⟨hcz96_0, hcz96_1, hcz96_2, hcz96_3, hcz96_4, hcz96_5, hcz96_6, hfz96_0, hfz96_1, hfz96_2, hfz96_3, hfz96_4, hfz96_5, hfz96_6⟩ := bx7_ BK420.out
          obtain ⟨Ao97, co97, eo97⟩ := Kd.R_slice HO_437004.out
          subst eo97
          obtain ⟨Ao98, co98, eo98⟩ := Kd.R_slice HO_437005.out
          subst eo98
          obtain ⟨Ao99, co99, eo99⟩ := Kd.S_slice HO_437006.out
          subst eo99
          go_wp2
          refine bodyPost_ret (results_ct rfl _ _ gb420 91 #[.slice Ao34 t424.length co34, .slice Ao33 t427.length co33, .slice Ao32 t430.length co32, .slice Ao31 t433.length co31, .slice Ao97 x437004_3.length co97, .slice Ao98 x437005_2.length co98, .slice Ao99 x437006_3.length co99] (0, 0) _ rfl (by (with_reducible repeat (first | refine blk_drewN ?_ _ | refine blk_drew ?_ | refine blk_alloc ?_ _)); refine blk_put (cs := #[.slice Ao34 t424.length co34, .slice Ao33 t427.length co33, .slice Ao32 t430.length co32, .slice Ao31 t433.length co31, .slice Ao97 x437004_3.length co97, .slice Ao98 x437005_2.length co98, .slice none 0 0]) ?_ 6 _ rfl; (with_reducible repeat (first | refine blk_drewN ?_ _ | refine blk_drew ?_ | refine blk_alloc ?_ _)); refine blk_put (cs := #[.slice Ao34 t424.length co34, .slice Ao33 t427.length co33, .slice Ao32 t430.length co32, .slice Ao31 t433.length co31, .slice Ao97 x437004_3.length co97, .slice none 0 0, .slice none 0 0]) ?_ 5 _ rfl; (with_reducible repeat (first | refine blk_drewN ?_ _ | refine blk_drew ?_ | refine blk_alloc ?_ _)); refine blk_put (cs := #[.slice Ao34 t424.length co34, .slice Ao33 t427.length co33, .slice Ao32 t430.length co32, .slice Ao31 t433.length co31, .slice none 0 0, .slice none 0 0, .slice none 0 0]) ?_ 4 _ rfl; (with_reducible repeat (first | refine blk_drewN ?_ _ | refine blk_drew ?_ | refine blk_alloc ?_ _)); refine blk_put (cs := #[.slice Ao34 t424.length co34, .slice Ao33 t427.length co33, .slice Ao32 t430.length co32, .slice none 0 0, .slice none 0 0, .slice none 0 0, .slice none 0 0]) ?_ 3 _ rfl; (with_reducible repeat (first | refine blk_drewN ?_ _ | refine blk_drew ?_ | refine blk_alloc ?_ _)); refine blk_put (cs := #[.slice Ao34 t424.length co34, .slice Ao33 t427.length co33, .slice none 0 0, .slice none 0 0, .slice none 0 0, .slice none 0 0, .slice none 0 0]) ?_ 2 _ rfl; (with_reducible repeat (first | refine blk_drewN ?_ _ | refine blk_drew ?_ | refine blk_alloc ?_ _)); refine blk_put (cs := #[.slice Ao34 t424.length co34, .slice none 0 0, .slice none 0 0, .slice none 0 0, .slice none 0 0, .slice none 0 0, .slice none 0 0]) ?_ 1 _ rfl; (with_reducible repeat (first | refine blk_drewN ?_ _ | refine blk_drew ?_ | refine blk_alloc ?_ _)); refine blk_put (cs := #[.slice none 0 0, .slice none 0 0, .slice none 0 0, .slice none 0 0, .slice none 0 0, .slice none 0 0, .slice none 0 0]) ?_ 0 _ rfl; (with_reducible repeat (first | refine blk_drewN ?_ _ | refine blk_drew ?_ | refine blk_alloc ?_ _)); exact BK420.out) Try.underlying91 rfl (by kernel_rfl)) rfl ?_
          exact ⟨_, _, _, _, _, _, _, z5_, by (with_reducible repeat (first | apply Kd.R_alloc | apply Kd.R_drewN | apply Kd.R_drew)); exact Kd.R_mono (Kd.R_far (p := ⟨gb420, 6, none⟩) (Kd.R_far (p := ⟨gb420, 5, none⟩) (Kd.R_far (p := ⟨gb420, 4, none⟩) (Kd.R_far (p := ⟨gb420, 3, none⟩) (Kd.R_far (p := ⟨gb420, 2, none⟩) (Kd.R_far (p := ⟨gb420, 1, none⟩) (Kd.R_far (p := ⟨gb420, 0, none⟩) (Kd.R_types HO_437000.out BK420.out (by decide)) (fun _ hk => hk.2) (.slice Ao34 t424.length co34)) (fun _ hk => hk.2) (.slice Ao33 t427.length co33)) (fun _ hk => hk.2) (.slice Ao32 t430.length co32)) (fun _ hk => hk.2) (.slice Ao31 t433.length co31)) (fun _ hk => hk.2) (.slice Ao97 x437004_3.length co97)) (fun _ hk => hk.2) (.slice Ao98 x437005_2.length co98)) (fun _ hk => hk.2) (.slice Ao99 x437006_3.length co99)) (fun _ hk => ⟨hk.1.1, ⟨hk.1.2.1, ⟨hk.1.2.2.1, ⟨hk.1.2.2.2.1, hk.1.2.2.2.2⟩⟩⟩⟩), by (with_reducible repeat (first | apply Kd.R_alloc | apply Kd.R_drewN | apply Kd.R_drew)); exact Kd.R_mono (Kd.R_far (p := ⟨gb420, 6, none⟩) (Kd.R_far (p := ⟨gb420, 5, none⟩) (Kd.R_far (p := ⟨gb420, 4, none⟩) (Kd.R_far (p := ⟨gb420, 3, none⟩) (Kd.R_far (p := ⟨gb420, 2, none⟩) (Kd.R_far (p := ⟨gb420, 1, none⟩) (Kd.R_far (p := ⟨gb420, 0, none⟩) (Kd.R_types HO_437001.out BK420.out (by decide)) (fun _ hk => hk.2) (.slice Ao34 t424.length co34)) (fun _ hk => hk.2) (.slice Ao33 t427.length co33)) (fun _ hk => hk.2) (.slice Ao32 t430.length co32)) (fun _ hk => hk.2) (.slice Ao31 t433.length co31)) (fun _ hk => hk.2) (.slice Ao97 x437004_3.length co97)) (fun _ hk => hk.2) (.slice Ao98 x437005_2.length co98)) (fun _ hk => hk.2) (.slice Ao99 x437006_3.length co99)) (fun _ hk => ⟨hk.1.2.1, ⟨hk.1.2.2.1, ⟨hk.1.2.2.2.1, ⟨hk.1.2.2.2.2.1, hk.1.2.2.2.2.2⟩⟩⟩⟩), by (with_reducible repeat (first | apply Kd.R_alloc | apply Kd.R_drewN | apply Kd.R_drew)); exact Kd.R_mono (Kd.R_far (p := ⟨gb420, 6, none⟩) (Kd.R_far (p := ⟨gb420, 5, none⟩) (Kd.R_far (p := ⟨gb420, 4, none⟩) (Kd.R_far (p := ⟨gb420, 3, none⟩) (Kd.R_far (p := ⟨gb420, 2, none⟩) (Kd.R_far (p := ⟨gb420, 1, none⟩) (Kd.R_far (p := ⟨gb420, 0, none⟩) (Kd.R_types HO_437002.out BK420.out (by decide)) (fun _ hk => hk.2) (.slice Ao34 t424.length co34)) (fun _ hk => hk.2) (.slice Ao33 t427.length co33)) (fun _ hk => hk.2) (.slice Ao32 t430.length co32)) (fun _ hk => hk.2) (.slice Ao31 t433.length co31)) (fun _ hk => hk.2) (.slice Ao97 x437004_3.length co97)) (fun _ hk => hk.2) (.slice Ao98 x437005_2.length co98)) (fun _ hk => hk.2) (.slice Ao99 x437006_3.length co99)) (fun _ hk => ⟨hk.1.2.1, ⟨hk.1.2.2.1, ⟨hk.1.2.2.2.1, ⟨hk.1.2.2.2.2.1, hk.1.2.2.2.2.2⟩⟩⟩⟩), by (with_reducible repeat (first | apply Kd.R_alloc | apply Kd.R_drewN | apply Kd.R_drew)); exact Kd.R_mono (Kd.R_far (p := ⟨gb420, 6, none⟩) (Kd.R_far (p := ⟨gb420, 5, none⟩) (Kd.R_far (p := ⟨gb420, 4, none⟩) (Kd.R_far (p := ⟨gb420, 3, none⟩) (Kd.R_far (p := ⟨gb420, 2, none⟩) (Kd.R_far (p := ⟨gb420, 1, none⟩) (Kd.R_far (p := ⟨gb420, 0, none⟩) (Kd.R_types HO_437003.out BK420.out (by decide)) (fun _ hk => hk.2) (.slice Ao34 t424.length co34)) (fun _ hk => hk.2) (.slice Ao33 t427.length co33)) (fun _ hk => hk.2) (.slice Ao32 t430.length co32)) (fun _ hk => hk.2) (.slice Ao31 t433.length co31)) (fun _ hk => hk.2) (.slice Ao97 x437004_3.length co97)) (fun _ hk => hk.2) (.slice Ao98 x437005_2.length co98)) (fun _ hk => hk.2) (.slice Ao99 x437006_3.length co99)) (fun _ hk => ⟨hk.1.2.1, ⟨hk.1.2.2.1, ⟨hk.1.2.2.2.1, ⟨hk.1.2.2.2.2.1, hk.1.2.2.2.2.2⟩⟩⟩⟩), by (with_reducible repeat (first | apply Kd.R_alloc | apply Kd.R_drewN | apply Kd.R_drew)); exact Kd.R_mono (Kd.R_far (p := ⟨gb420, 6, none⟩) (Kd.R_far (p := ⟨gb420, 5, none⟩) (Kd.R_far (p := ⟨gb420, 4, none⟩) (Kd.R_far (p := ⟨gb420, 3, none⟩) (Kd.R_far (p := ⟨gb420, 2, none⟩) (Kd.R_far (p := ⟨gb420, 1, none⟩) (Kd.R_far (p := ⟨gb420, 0, none⟩) (Kd.R_types HO_437004.out BK420.out (by decide)) (fun _ hk => hk.2) (.slice Ao34 t424.length co34)) (fun _ hk => hk.2) (.slice Ao33 t427.length co33)) (fun _ hk => hk.2) (.slice Ao32 t430.length co32)) (fun _ hk => hk.2) (.slice Ao31 t433.length co31)) (fun _ hk => hk.2) (.slice Ao97 x437004_3.length co97)) (fun _ hk => hk.2) (.slice Ao98 x437005_2.length co98)) (fun _ hk => hk.2) (.slice Ao99 x437006_3.length co99)) (fun _ hk => ⟨hk.1.2.1, ⟨hk.1.2.2.1, ⟨hk.1.2.2.2.1, ⟨hk.1.2.2.2.2.1, hk.1.2.2.2.2.2⟩⟩⟩⟩), by (with_reducible repeat (first | apply Kd.R_alloc | apply Kd.R_drewN | apply Kd.R_drew)); exact Kd.R_mono (Kd.R_far (p := ⟨gb420, 6, none⟩) (Kd.R_far (p := ⟨gb420, 5, none⟩) (Kd.R_far (p := ⟨gb420, 4, none⟩) (Kd.R_far (p := ⟨gb420, 3, none⟩) (Kd.R_far (p := ⟨gb420, 2, none⟩) (Kd.R_far (p := ⟨gb420, 1, none⟩) (Kd.R_far (p := ⟨gb420, 0, none⟩) (Kd.R_types HO_437005.out BK420.out (by decide)) (fun _ hk => hk.2) (.slice Ao34 t424.length co34)) (fun _ hk => hk.2) (.slice Ao33 t427.length co33)) (fun _ hk => hk.2) (.slice Ao32 t430.length co32)) (fun _ hk => hk.2) (.slice Ao31 t433.length co31)) (fun _ hk => hk.2) (.slice Ao97 x437004_3.length co97)) (fun _ hk => hk.2) (.slice Ao98 x437005_2.length co98)) (fun _ hk => hk.2) (.slice Ao99 x437006_3.length co99)) (fun _ hk => ⟨hk.1.2.1, ⟨hk.1.2.2.1, ⟨hk.1.2.2.2.1, ⟨hk.1.2.2.2.2.1, hk.1.2.2.2.2.2⟩⟩⟩⟩), by (with_reducible repeat (first | apply Kd.S_alloc | apply Kd.S_drewN | apply Kd.S_drew)); exact Kd.S_mono (Kd.S_far (p := ⟨gb420, 6, none⟩) (Kd.S_far (p := ⟨gb420, 5, none⟩) (Kd.S_far (p := ⟨gb420, 4, none⟩) (Kd.S_far (p := ⟨gb420, 3, none⟩) (Kd.S_far (p := ⟨gb420, 2, none⟩) (Kd.S_far (p := ⟨gb420, 1, none⟩) (Kd.S_far (p := ⟨gb420, 0, none⟩) (Kd.S_types HO_437006.out BK420.out (by decide)) (fun _ hk => hk.2) (.slice Ao34 t424.length co34)) (fun _ hk => hk.2) (.slice Ao33 t427.length co33)) (fun _ hk => hk.2) (.slice Ao32 t430.length co32)) (fun _ hk => hk.2) (.slice Ao31 t433.length co31)) (fun _ hk => hk.2) (.slice Ao97 x437004_3.length co97)) (fun _ hk => hk.2) (.slice Ao98 x437005_2.length co98)) (fun _ hk => hk.2) (.slice Ao99 x437006_3.length co99)) (fun _ hk => ⟨hk.1.2.1, ⟨hk.1.2.2.1, ⟨hk.1.2.2.2.1, ⟨hk.1.2.2.2.2.1, ⟨hk.1.2.2.2.2.2.1, hk.1.2.2.2.2.2.2⟩⟩⟩⟩⟩), z14_⟩

end Go.Proofs.Ytbmkobanpakohaa.PFnExactNearest
