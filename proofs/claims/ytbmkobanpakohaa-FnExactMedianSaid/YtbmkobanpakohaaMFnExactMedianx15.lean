/- Laid by a program of this session out of the kit's print for the law FnExactMedian: what it says of the machine is proved here, function by function; each contract under the conditions that it names. -/
import Derived.Test.YtbmkobanpakohaaMFnExactMedianx0
import Derived.Test.YtbmkobanpakohaaMFnExactMedianx12
import Derived.Test.YtbmkobanpakohaaMFnExactMedianx13
import Derived.Test.YtbmkobanpakohaaMFnExactMedianx14
namespace Go.Proofs.Ytbmkobanpakohaa.PFnExactMedian
open Go.RowKit Go.Proofs.YtbmkobanpakohaaW.PrintWords Go.Proofs.YtbmkobanpakohaaW.PrintLast Go.Proofs.YtbmkobanpakohaaW.PrintMore
attribute [local go_sem] max2_int min2_int max_two min_two max_three min_three max_four min_four   -- for this text's walks alone
set_option linter.unusedVariables false
set_option linter.unusedSimpArgs false

/-! ### impl_measureOf: function 67 -/
mutual
def impl_measureOf.j0 : Nat → List (S61) → List (S61) → Bool → List Int → List Int → List Int → Option (List Int × List Int × List Int × List Int × List Int × List Int × (List (List Int)) × Bool)
 | 0, _, _, _, _, _, _ => none
 | k + 1, x0, x1, x28, x431000, x431001, x431002 => if x28 = true then (some (([] : List Int), ([] : List Int), ([] : List Int), ([] : List Int), ([] : List Int), ([] : List Int), ([] : List (List Int)), false)) else ((impl_PostOrder.f k x0).bind fun t435 => ((impl_PostOrder.f k x1).bind fun t438 => ((impl_LeftLeaf.f k x0).bind fun t441 => ((impl_LeftLeaf.f k x1).bind fun t444 => (impl_measureOf.l0 k x0 x1 t438 (t438.length : Int) 0 x431000 x431001 x431002 t435 t438 t441 t444 ([] : List Int))))))
def impl_measureOf.l0 : Nat → List (S61) → List (S61) → List Int → Int → Int → List Int → List Int → List Int → List Int → List Int → List Int → List Int → List Int → Option (List Int × List Int × List Int × List Int × List Int × List Int × (List (List Int)) × Bool)
 | 0, _, _, _, _, _, _, _, _, _, _, _, _, _ => none
 | k + 1, x0, x1, x40, x41, x42, x431000, x431001, x431002, x448000, x448001, x448002, x448003, x448005 => if x42 < x41 then (if 0 ≤ x42 then (if x42 < (x40.length : Int) then (if 0 ≤ (rd x40 x42) then (if (rd x40 x42) < (x1.length : Int) then (if 0 ≤ ((rd_T61 x1 (rd x40 x42)).f0) then (if ((rd_T61 x1 (rd x40 x42)).f0) < (x431001.length : Int) then (if x448005.length < 17592186044416 then (impl_measureOf.l0 k x0 x1 x40 x41 (wrap64 (x42 + 1)) x431000 x431001 x431002 x448000 x448001 x448002 x448003 (x448005 ++ [rd x431001 ((rd_T61 x1 (rd x40 x42)).f0)])) else (none)) else (none)) else (none)) else (none)) else (none)) else (none)) else (none)) else (impl_measureOf.l1 k x0 x1 x448000 (x448000.length : Int) 0 x431000 x431001 x431002 x448000 x448001 x448002 x448003 ([] : List Int) x448005 ([] : List (List Int)))
def impl_measureOf.l1 : Nat → List (S61) → List (S61) → List Int → Int → Int → List Int → List Int → List Int → List Int → List Int → List Int → List Int → List Int → List Int → List (List Int) → Option (List Int × List Int × List Int × List Int × List Int × List Int × (List (List Int)) × Bool)
 | 0, _, _, _, _, _, _, _, _, _, _, _, _, _, _, _ => none
 | k + 1, x0, x1, x62, x63, x64, x431000, x431001, x431002, x448000, x448001, x448002, x448003, x448004, x448005, x448006 => if x64 < x63 then (if 0 ≤ x64 then (if x64 < (x62.length : Int) then (if 0 ≤ (rd x62 x64) then (if (rd x62 x64) < (x0.length : Int) then (if 0 ≤ ((rd_T61 x0 (rd x62 x64)).f0) then (if ((rd_T61 x0 (rd x62 x64)).f0) < (x431000.length : Int) then (if x448004.length < 17592186044416 then (impl_measureOf.l2 k x0 x1 (rd x62 x64) (([] : List Int)) x62 x63 x64 x448001 (x448001.length : Int) 0 x431000 x431001 x431002 x448000 x448001 x448002 x448003 (x448004 ++ [rd x431000 ((rd_T61 x0 (rd x62 x64)).f0)]) x448005 x448006) else (none)) else (none)) else (none)) else (none)) else (none)) else (none)) else (none)) else (some (x448000, x448001, x448002, x448003, x448004, x448005, x448006, true))
def impl_measureOf.l2 : Nat → List (S61) → List (S61) → Int → List Int → List Int → Int → Int → List Int → Int → Int → List Int → List Int → List Int → List Int → List Int → List Int → List Int → List Int → List Int → List (List Int) → Option (List Int × List Int × List Int × List Int × List Int × List Int × (List (List Int)) × Bool)
 | 0, _, _, _, _, _, _, _, _, _, _, _, _, _, _, _, _, _, _, _, _ => none
 | k + 1, x0, x1, x12, x13, x62, x63, x64, x84, x85, x86, x431000, x431001, x431002, x448000, x448001, x448002, x448003, x448004, x448005, x448006 => if x86 < x85 then (if 0 ≤ x86 then (if x86 < (x84.length : Int) then (if 0 ≤ x12 then (if x12 < (x0.length : Int) then (if 0 ≤ (rd x84 x86) then (if (rd x84 x86) < (x1.length : Int) then (if 0 ≤ (wrap64 ((wrap64 (((rd_T61 x0 x12).f0) * 6)) + ((rd_T61 x1 (rd x84 x86)).f0))) then (if (wrap64 ((wrap64 (((rd_T61 x0 x12).f0) * 6)) + ((rd_T61 x1 (rd x84 x86)).f0))) < (x431002.length : Int) then (if x13.length < 17592186044416 then (impl_measureOf.l2 k x0 x1 x12 (x13 ++ [rd x431002 (wrap64 ((wrap64 (((rd_T61 x0 x12).f0) * 6)) + ((rd_T61 x1 (rd x84 x86)).f0)))]) x62 x63 x64 x84 x85 (wrap64 (x86 + 1)) x431000 x431001 x431002 x448000 x448001 x448002 x448003 x448004 x448005 x448006) else (none)) else (none)) else (none)) else (none)) else (none)) else (none)) else (none)) else (none)) else (none)) else (if x448006.length < 5864062014805 then (impl_measureOf.l1 k x0 x1 x62 x63 (wrap64 (x64 + 1)) x431000 x431001 x431002 x448000 x448001 x448002 x448003 x448004 x448005 (x448006 ++ [x13])) else (none))
end
def impl_measureOf.f (k : Nat) (l0 : List (S61)) (l1 : List (S61)) (l2_0 : List Int) (l2_1 : List Int) (l2_2 : List Int) : Option (List Int × List Int × List Int × List Int × List Int × List Int × (List (List Int)) × Bool) := (impl_TreeOk.f k l0).bind fun t432 => (if t432 = true then ((impl_TreeOk.f k l1).bind fun t433 => (if t433 = true then ((impl_CostOk.f k l2_0 l2_1 l2_2).bind fun t434 => (impl_measureOf.j0 k l0 l1 (!t434) l2_0 l2_1 l2_2)) else (impl_measureOf.j0 k l0 l1 true l2_0 l2_1 l2_2))) else (impl_measureOf.j0 k l0 l1 true l2_0 l2_1 l2_2))
def impl_measureOf.T7 : Bool × List (List Nat × List Nat) := (true, [([], []), ([0], [0]), ([], []), ([2], [2]), ([], []), ([], []), ([4, 5], [4, 5]), ([6], [6]), ([7], [7]), ([3, 8], [3, 8]), ([9], [9]), ([10], [10]), ([1, 11], [1, 11]), ([0, 1, 2, 3, 4, 5, 6, 7, 8, 9, 10, 11, 12], []), ([13, 12, 12, 0, 1, 2, 3, 4, 5, 6, 7, 8, 9, 10, 11, 12], [12, 13])])
def impl_measureOf.B7 : List Nat := [0, 1, 0, 4, 0, 0, 48, 112, 240, 508, 1020, 2044, 4095, 8191, 16383]
theorem impl_measureOf.tab7 : rtab .any (opsOf Try.f67 7) = impl_measureOf.T7 := by kernel_rfl
theorem impl_measureOf.bits7 : waitsOk impl_measureOf.T7.2 impl_measureOf.B7 = true := by kernel_rfl
def impl_measureOf.T12 : Bool × List (List Nat × List Nat) := (true, [([], []), ([0], [0]), ([], []), ([2], [2]), ([], []), ([], []), ([4, 5], [4, 5]), ([6], [6]), ([7], [7]), ([3, 8], [3, 8]), ([9], [9]), ([10], [10]), ([1, 11], [1, 11]), ([0, 1, 2, 3, 4, 5, 6, 7, 8, 9, 10, 11, 12], []), ([13, 12, 12, 0, 1, 2, 3, 4, 5, 6, 7, 8, 9, 10, 11, 12], [12, 13])])
def impl_measureOf.B12 : List Nat := [0, 1, 0, 4, 0, 0, 48, 112, 240, 508, 1020, 2044, 4095, 8191, 16383]
theorem impl_measureOf.tab12 : rtab .any (opsOf Try.f67 12) = impl_measureOf.T12 := by kernel_rfl
theorem impl_measureOf.bits12 : waitsOk impl_measureOf.T12.2 impl_measureOf.B12 = true := by kernel_rfl
def impl_measureOf.T17 : Bool × List (List Nat × List Nat) := (true, [([], []), ([], []), ([1], [1]), ([], []), ([], []), ([3, 4], [3, 4]), ([5], [5]), ([6], [6]), ([7], [7]), ([], []), ([], []), ([9, 10], [9, 10]), ([11], [11]), ([12], [12]), ([8, 13], [8, 13]), ([2, 14], [2, 14]), ([15], [15]), ([16], [16]), ([0, 17], [0, 17]), ([18, 18, 0, 1, 2, 3, 4, 5, 6, 7, 8, 9, 10, 11, 12, 13, 14, 15, 16, 17, 18], [0, 18])])
def impl_measureOf.B17 : List Nat := [0, 0, 2, 0, 0, 24, 56, 120, 248, 0, 0, 1536, 3584, 7680, 16376, 32766, 65534, 131070, 262143, 524287]
theorem impl_measureOf.tab17 : rtab .any (opsOf Try.f67 17) = impl_measureOf.T17 := by kernel_rfl
theorem impl_measureOf.bits17 : waitsOk impl_measureOf.T17.2 impl_measureOf.B17 = true := by kernel_rfl
set_option maxHeartbeats 8000000 in
set_option maxRecDepth 100000 in
theorem impl_measureOf.calls (k : Nat) (A0 : Option Addr) (c0 : Nat) (l0 : List (S61)) (A1 : Option Addr) (c1 : Nat) (l1 : List (S61)) (A2_0 : Option Addr) (c2_0 : Nat) (l2_0 : List Int) (A2_1 : Option Addr) (c2_1 : Nat) (l2_1 : List Int) (A2_2 : Option Addr) (c2_2 : Nat) (l2_2 : List Int) (r1 : List Int) (r2 : List Int) (r3 : List Int) (r4 : List Int) (r5 : List Int) (r6 : List Int) (r7 : List (List Int)) (r8 : Bool) (w : World) (hr0 : Kd.C k61 w A0 l0.length l0) (hc0 : l0.length ≤ c0) (hr1 : Kd.C k61 w A1 l1.length l1) (hc1 : l1.length ≤ c1) (hr2_0 : Kd.C (Kd.int .i64) w A2_0 l2_0.length l2_0) (hc2_0 : l2_0.length ≤ c2_0) (hr2_1 : Kd.C (Kd.int .i64) w A2_1 l2_1.length l2_1) (hc2_1 : l2_1.length ≤ c2_1) (hr2_2 : Kd.C (Kd.int .i64) w A2_2 l2_2.length l2_2) (hc2_2 : l2_2.length ≤ c2_2) (h : impl_measureOf.f k l0 l1 l2_0 l2_1 l2_2 = some (r1, r2, r3, r4, r5, r6, r7, r8)) :
  Calls Try.prog 67 #[.slice A0 l0.length c0, .slice A1 l1.length c1, .agg #[.slice A2_0 l2_0.length c2_0, .slice A2_1 l2_1.length c2_1, .slice A2_2 l2_2.length c2_2]] w fun e w' => ∃ v0_ v1_ v2_ v3_ v4_ v5_ v6_ : Value, e = .returned (.tuple #[.agg #[v0_, v1_, v2_, v3_, v4_, v5_, v6_], .bool r8]) ∧ Kd.R (Kd.int .i64) 3 w' w.heap.size (fun k_ => some k_ ≠ (v1_ : Value).ownBlock ∧ some k_ ≠ (v2_ : Value).ownBlock ∧ some k_ ≠ (v3_ : Value).ownBlock ∧ some k_ ≠ (v4_ : Value).ownBlock ∧ some k_ ≠ (v5_ : Value).ownBlock) v0_ r1 ∧ Kd.R (Kd.int .i64) 3 w' w.heap.size (fun k_ => some k_ ≠ (v0_ : Value).ownBlock ∧ some k_ ≠ (v2_ : Value).ownBlock ∧ some k_ ≠ (v3_ : Value).ownBlock ∧ some k_ ≠ (v4_ : Value).ownBlock ∧ some k_ ≠ (v5_ : Value).ownBlock) v1_ r2 ∧ Kd.R (Kd.int .i64) 3 w' w.heap.size (fun k_ => some k_ ≠ (v0_ : Value).ownBlock ∧ some k_ ≠ (v1_ : Value).ownBlock ∧ some k_ ≠ (v3_ : Value).ownBlock ∧ some k_ ≠ (v4_ : Value).ownBlock ∧ some k_ ≠ (v5_ : Value).ownBlock) v2_ r3 ∧ Kd.R (Kd.int .i64) 3 w' w.heap.size (fun k_ => some k_ ≠ (v0_ : Value).ownBlock ∧ some k_ ≠ (v1_ : Value).ownBlock ∧ some k_ ≠ (v2_ : Value).ownBlock ∧ some k_ ≠ (v4_ : Value).ownBlock ∧ some k_ ≠ (v5_ : Value).ownBlock) v3_ r4 ∧ Kd.R (Kd.int .i64) 3 w' w.heap.size (fun k_ => some k_ ≠ (v0_ : Value).ownBlock ∧ some k_ ≠ (v1_ : Value).ownBlock ∧ some k_ ≠ (v2_ : Value).ownBlock ∧ some k_ ≠ (v3_ : Value).ownBlock ∧ some k_ ≠ (v5_ : Value).ownBlock) v4_ r5 ∧ Kd.R (Kd.int .i64) 3 w' w.heap.size (fun k_ => some k_ ≠ (v0_ : Value).ownBlock ∧ some k_ ≠ (v1_ : Value).ownBlock ∧ some k_ ≠ (v2_ : Value).ownBlock ∧ some k_ ≠ (v3_ : Value).ownBlock ∧ some k_ ≠ (v4_ : Value).ownBlock) v5_ r6 ∧ Kd.S (Kd.slice 3 (Kd.int .i64)) 30 w' w.heap.size (fun k_ => some k_ ≠ (v0_ : Value).ownBlock ∧ some k_ ≠ (v1_ : Value).ownBlock ∧ some k_ ≠ (v2_ : Value).ownBlock ∧ some k_ ≠ (v3_ : Value).ownBlock ∧ some k_ ≠ (v4_ : Value).ownBlock ∧ some k_ ≠ (v5_ : Value).ownBlock) v6_ r7 ∧ Below w.heap.size w w' := by
 have hu38 := Try.underlying38
 have hu91 := Try.underlying91
 have HR0 := Aside0.mk hr0
 have HC0 := Aside0.mk hc0
 clear hr0 hc0
 have HR1 := Aside0.mk hr1
 have HC1 := Aside0.mk hc1
 clear hr1 hc1
 have HR2_0 := Aside0.mk hr2_0
 have HC2_0 := Aside0.mk hc2_0
 clear hr2_0 hc2_0
 have HR2_1 := Aside0.mk hr2_1
 have HC2_1 := Aside0.mk hc2_1
 clear hr2_1 hc2_1
 have HR2_2 := Aside0.mk hr2_2
 have HC2_2 := Aside0.mk hc2_2
 clear hr2_2 hc2_2
 have HB := Aside0.mk (Below.refl w.heap.size w)
 have H : ((impl_TreeOk.f k l0).bind fun t432 => (if t432 = true then ((impl_TreeOk.f k l1).bind fun t433 => (if t433 = true then ((impl_CostOk.f k l2_0 l2_1 l2_2).bind fun t434 => (impl_measureOf.j0 k l0 l1 (!t434) l2_0 l2_1 l2_2)) else (impl_measureOf.j0 k l0 l1 true l2_0 l2_1 l2_2))) else (impl_measureOf.j0 k l0 l1 true l2_0 l2_1 l2_2))) = some (r1, r2, r3, r4, r5, r6, r7, r8) := h
 clear h
 have HC4 := Aside0.mk H
 clear H
 go_enter Try.func67, Try.ntmps67
 go_upto_region 1 with (first | ((with_reducible refine gate_dst (N := 5) rfl ?_); refine box_event ?hg (N := 5) ?hd (cs := #[.slice A2_0 l2_0.length c2_0, .slice A2_1 l2_1.length c2_1, .slice A2_2 l2_2.length c2_2]) (t := 38) ?hr ?_; (case hd => rfl); (case hg => rfl); (case hr => exact z9_); intro gb430 hg w5 hbox hb; have BK430 := Aside0.mk (hbox); have GW430 := Aside0.mk ((by rw [hg]; exact (below_size z0_) : w.heap.size ≤ gb430)); have GE430 := Aside0.mk ((by rw [hg]; exact (below_size z0_) : w.heap.size ≤ gb430)); replace HB := Aside0.mk (below_step z0_ hb); clear hb hbox hg) | ((with_reducible refine gate_dst (N := 6) rfl ?_); refine box_event ?hg (N := 6) ?hd (cs := #[.slice none 0 0, .slice none 0 0, .slice none 0 0, .slice none 0 0, .slice none 0 0, .slice none 0 0, .slice none 0 0]) (t := 91) ?hr ?_; (case hd => rfl); (case hg => rfl); (case hr => exact z9_); intro gb431 hg w6 hbox hb; have BK431 := Aside0.mk (hbox); have GW431 := Aside0.mk ((by rw [hg]; exact (below_size z153_) : w.heap.size ≤ gb431)); have GE431 := Aside0.mk ((by rw [hg]; exact (below_size z153_) : w.heap.size ≤ gb431)); replace HB := Aside0.mk (below_step z153_ hb); have NB430_431 := Aside0.mk ((by rw [hg]; exact Nat.ne_of_lt (blk_lt (g := gb430) (o := .cells #[.slice A2_0 l2_0.length c2_0, .slice A2_1 l2_1.length c2_1, .slice A2_2 l2_2.length c2_2] 38 (0, 0)) z17_) : gb430 ≠ gb431)); have NB431_430 := Aside0.mk ((by rw [hg]; exact Nat.ne_of_gt (blk_lt (g := gb430) (o := .cells #[.slice A2_0 l2_0.length c2_0, .slice A2_1 l2_1.length c2_1, .slice A2_2 l2_2.length c2_2] 38 (0, 0)) z17_) : gb431 ≠ gb430)); replace BK430 := Aside0.mk (blk_below z17_ hb); clear hb hbox hg))
 (try simp only [Act.put, List.setIfInBounds_toArray, List.set_cons_zero, List.set_cons_succ])
 go_cut [28] (fun v28 wc => ∃ (kq : Nat) (x28_3 : Bool), v28 = .bool x28_3 ∧ Aside0 (impl_measureOf.j0 kq l0 l1 x28_3 l2_0 l2_1 l2_2 = some (r1, r2, r3, r4, r5, r6, r7, r8)) ∧ Aside0 (kq ≤ k) ∧ Aside0 (wc.heap[gb430]? = some (.cells #[(.slice A2_0 l2_0.length c2_0), (.slice A2_1 l2_1.length c2_1), (.slice A2_2 l2_2.length c2_2)] 38 (0, 0))) ∧ Aside0 (wc.heap[gb431]? = some (.cells #[(.slice none 0 0), (.slice none 0 0), (.slice none 0 0), (.slice none 0 0), (.slice none 0 0), (.slice none 0 0), (.slice none 0 0)] 91 (0, 0))) ∧ Aside0 (Below w.heap.size w wc))
 case first =>
  have H := HC4.out
  clear HC4
  obtain ⟨t432, A7, H⟩ := bnd_ H
  by_cases c8 : t432 = true
  ·subst c8
   replace H := ift_ H
   obtain ⟨t433, A9, H⟩ := bnd_ H
   by_cases c10 : t433 = true
   ·subst c10
    replace H := ift_ H
    obtain ⟨t434, A11, H⟩ := bnd_ H
    have H' := Aside0.mk H
    clear H
    go_wp2_with (first | ((with_reducible refine gate_callee (f := 57) rfl ?_); refine goesL_ (some 17) rfl rfl Try.func57 (by kernel_rfl) rfl #[.slice A0 l0.length c0] rfl z1_ ?_; (with_reducible refine (impl_TreeOk.calls k _ _ l0 true _ ?side1 ?side2 A7.out).mono ?_); (case side1 => exact z3_); (case side2 => exact HC0.out); rintro e w12 ⟨rfl, hb⟩; refine ⟨_, rfl, ?_⟩; replace BK430 := Aside0.mk (blk_below z17_ hb); replace BK431 := Aside0.mk (blk_below z24_ hb); replace HB := Aside0.mk (below_step z11_ hb); (try clear hb)) | (go_at_call 57; (with_reducible refine (impl_TreeOk.calls k _ _ l1 true _ ?side1 ?side2 A9.out).mono ?_); (case side1 => exact z22_); (case side2 => exact HC1.out); rintro e w13 ⟨rfl, hb⟩; replace BK430 := Aside0.mk (blk_below z17_ hb); replace BK431 := Aside0.mk (blk_below z24_ hb); replace HB := Aside0.mk (below_step z11_ hb); (try clear hb); have hnb14 := NB430_431.out; have hnc14 := NB431_430.out; obtain ⟨hcz15_0, hcz15_1, hcz15_2, hfz15_0, hfz15_1, hfz15_2⟩ := bx3_ BK430.out) | (go_at_call 69; (with_reducible refine (impl_CostOk.calls k _ _ l2_0 _ _ l2_1 _ _ l2_2 t434 _ ?side1 ?side2 ?side3 ?side4 ?side5 ?side6 A11.out).mono ?_); (case side1 => exact z43_); (case side2 => exact HC2_0.out); (case side3 => exact z44_); (case side4 => exact HC2_1.out); (case side5 => exact z45_); (case side6 => exact HC2_2.out); rintro e w16 ⟨rfl, hb⟩; replace BK430 := Aside0.mk (blk_below z17_ hb); replace BK431 := Aside0.mk (blk_below z24_ hb); replace HB := Aside0.mk (below_step z11_ hb); (try clear hb)))
    go_meet
    case rel => exact ⟨_, (!t434), z4_, H', ⟨z154_⟩, ⟨z17_⟩, ⟨z24_⟩, ⟨z11_⟩⟩
   ·replace c10 := Bool.eq_false_iff.mpr c10
    subst c10
    replace H := iff_ H
    have H' := Aside0.mk H
    clear H
    go_wp2_with (first | ((with_reducible refine gate_callee (f := 57) rfl ?_); refine goesL_ (some 17) rfl rfl Try.func57 (by kernel_rfl) rfl #[.slice A0 l0.length c0] rfl z1_ ?_; (with_reducible refine (impl_TreeOk.calls k _ _ l0 true _ ?side1 ?side2 A7.out).mono ?_); (case side1 => exact z3_); (case side2 => exact HC0.out); rintro e w17 ⟨rfl, hb⟩; refine ⟨_, rfl, ?_⟩; replace BK430 := Aside0.mk (blk_below z17_ hb); replace BK431 := Aside0.mk (blk_below z24_ hb); replace HB := Aside0.mk (below_step z11_ hb); (try clear hb)) | (go_at_call 57; (with_reducible refine (impl_TreeOk.calls k _ _ l1 false _ ?side1 ?side2 A9.out).mono ?_); (case side1 => exact z22_); (case side2 => exact HC1.out); rintro e w18 ⟨rfl, hb⟩; replace BK430 := Aside0.mk (blk_below z17_ hb); replace BK431 := Aside0.mk (blk_below z24_ hb); replace HB := Aside0.mk (below_step z11_ hb); (try clear hb)))
    go_meet
    case rel => exact ⟨_, (true), z4_, H', ⟨z154_⟩, ⟨z17_⟩, ⟨z24_⟩, ⟨z11_⟩⟩
  ·replace c8 := Bool.eq_false_iff.mpr c8
   subst c8
   replace H := iff_ H
   have H' := Aside0.mk H
   clear H
   go_wp2_with (first | ((with_reducible refine gate_callee (f := 57) rfl ?_); refine goesL_ (some 17) rfl rfl Try.func57 (by kernel_rfl) rfl #[.slice A0 l0.length c0] rfl z1_ ?_; (with_reducible refine (impl_TreeOk.calls k _ _ l0 false _ ?side1 ?side2 A7.out).mono ?_); (case side1 => exact z3_); (case side2 => exact HC0.out); rintro e w19 ⟨rfl, hb⟩; refine ⟨_, rfl, ?_⟩; replace BK430 := Aside0.mk (blk_below z17_ hb); replace BK431 := Aside0.mk (blk_below z24_ hb); replace HB := Aside0.mk (below_step z11_ hb); (try clear hb)))
   go_meet
   case rel => exact ⟨_, (true), z4_, H', ⟨z154_⟩, ⟨z17_⟩, ⟨z24_⟩, ⟨z11_⟩⟩
 case rest =>
  clear HC4
  obtain ⟨kq, x28_3, rfl, HA, HJ3, BK430, BK431, HB⟩ := hcut
  cases kq with
  | zero => exact absurd HA.out (by simp [impl_measureOf.j0])
  | succ kj3 =>
   have H := HA.out
   clear HA
   simp only [impl_measureOf.j0] at H
   by_cases c20 : x28_3 = true
   ·subst c20
    replace H := ift_ H
    simp only [Option.some.injEq, Prod.mk.injEq] at H
    obtain ⟨rfl, rfl, rfl, rfl, rfl, rfl, rfl, rfl⟩ := H
    have hnb21 := NB431_430.out
    have hnc21 := NB430_431.out
    obtain ⟨hcz22_0, hcz22_1, hcz22_2, hcz22_3, hcz22_4, hcz22_5, hcz22_6, hfz22_0, hfz22_1, hfz22_2, hfz22_3, hfz22_4, hfz22_5, hfz22_6⟩ := bx7_ BK431.out
    go_wp2
    refine bodyPost_ret (results_ct rfl _ _ gb431 91 #[.slice none 0 0, .slice none 0 0, .slice none 0 0, .slice none 0 0, .slice none 0 0, .slice none 0 0, .slice none 0 0] (0, 0) _ rfl (by (with_reducible repeat (first | refine blk_drewN ?_ _ | refine blk_drew ?_ | refine blk_alloc ?_ _)); refine blk_put (cs := #[.slice none 0 0, .slice none 0 0, .slice none 0 0, .slice none 0 0, .slice none 0 0, .slice none 0 0, .slice none 0 0]) ?_ 6 _ rfl; (with_reducible repeat (first | refine blk_drewN ?_ _ | refine blk_drew ?_ | refine blk_alloc ?_ _)); refine blk_put (cs := #[.slice none 0 0, .slice none 0 0, .slice none 0 0, .slice none 0 0, .slice none 0 0, .slice none 0 0, .slice none 0 0]) ?_ 5 _ rfl; (with_reducible repeat (first | refine blk_drewN ?_ _ | refine blk_drew ?_ | refine blk_alloc ?_ _)); refine blk_put (cs := #[.slice none 0 0, .slice none 0 0, .slice none 0 0, .slice none 0 0, .slice none 0 0, .slice none 0 0, .slice none 0 0]) ?_ 4 _ rfl; (with_reducible repeat (first | refine blk_drewN ?_ _ | refine blk_drew ?_ | refine blk_alloc ?_ _)); refine blk_put (cs := #[.slice none 0 0, .slice none 0 0, .slice none 0 0, .slice none 0 0, .slice none 0 0, .slice none 0 0, .slice none 0 0]) ?_ 3 _ rfl; (with_reducible repeat (first | refine blk_drewN ?_ _ | refine blk_drew ?_ | refine blk_alloc ?_ _)); refine blk_put (cs := #[.slice none 0 0, .slice none 0 0, .slice none 0 0, .slice none 0 0, .slice none 0 0, .slice none 0 0, .slice none 0 0]) ?_ 2 _ rfl; (with_reducible repeat (first | refine blk_drewN ?_ _ | refine blk_drew ?_ | refine blk_alloc ?_ _)); refine blk_put (cs := #[.slice none 0 0, .slice none 0 0, .slice none 0 0, .slice none 0 0, .slice none 0 0, .slice none 0 0, .slice none 0 0]) ?_ 1 _ rfl; (with_reducible repeat (first | refine blk_drewN ?_ _ | refine blk_drew ?_ | refine blk_alloc ?_ _)); refine blk_put (cs := #[.slice none 0 0, .slice none 0 0, .slice none 0 0, .slice none 0 0, .slice none 0 0, .slice none 0 0, .slice none 0 0]) ?_ 0 _ rfl; (with_reducible repeat (first | refine blk_drewN ?_ _ | refine blk_drew ?_ | refine blk_alloc ?_ _)); exact BK431.out) Try.underlying91 rfl (by kernel_rfl)) rfl ?_
    exact ⟨_, _, _, _, _, _, _, z5_, z70_, z70_, z70_, z70_, z70_, z70_, z213_, z11_⟩
   ·replace c20 := Bool.eq_false_iff.mpr c20
    subst c20
    replace H := iff_ H
    obtain ⟨t435, A23, H⟩ := bnd_ H
    obtain ⟨t438, A24, H⟩ := bnd_ H
    obtain ⟨t441, A25, H⟩ := bnd_ H
    obtain ⟨t444, A26, H⟩ := bnd_ H
    have H' := Aside0.mk H
    clear H
    go_wp2_with (first | ((with_reducible refine gate_callee (f := 85) rfl ?_); refine goesL_ (some 31) rfl rfl Try.func85 (by kernel_rfl) rfl #[.slice A0 l0.length c0] rfl z1_ ?_; (with_reducible refine (impl_PostOrder.calls kj3 _ _ l0 t435 _ ?side1 ?side2 A23.out).mono ?_); (case side1 => exact z3_); (case side2 => exact HC0.out); rintro e w27 ⟨v436, rfl, ho0, hb⟩; refine ⟨_, rfl, ?_⟩; have HO437 := Aside0.mk (Kd.R_lower ho0 (below_size z11_)); replace BK430 := Aside0.mk (blk_below z17_ hb); replace BK431 := Aside0.mk (blk_below z24_ hb); replace HB := Aside0.mk (below_step z11_ hb); (try clear hb ho0)) | ((with_reducible refine gate_callee (f := 85) rfl ?_); refine goesL_ (some 33) rfl rfl Try.func85 (by kernel_rfl) rfl #[.slice A1 l1.length c1] rfl z1_ ?_; (with_reducible refine (impl_PostOrder.calls kj3 _ _ l1 t438 _ ?side1 ?side2 A24.out).mono ?_); (case side1 => exact z22_); (case side2 => exact HC1.out); rintro e w28 ⟨v439, rfl, ho0, hb⟩; refine ⟨_, rfl, ?_⟩; have HO440 := Aside0.mk (Kd.R_lower (Kd.R_new' ho0 (Kd.R_lt z96_)) (below_size z11_)); replace HO437 := Aside0.mk (Kd.R_elder' z96_ (Kd.R_base ho0) hb); replace BK430 := Aside0.mk (blk_below z17_ hb); replace BK431 := Aside0.mk (blk_below z24_ hb); replace HB := Aside0.mk (below_step z11_ hb); (try clear hb ho0)) | ((with_reducible refine gate_callee (f := 86) rfl ?_); refine goesL_ (some 35) rfl rfl Try.func86 (by kernel_rfl) rfl #[.slice A0 l0.length c0] rfl z1_ ?_; (with_reducible refine (impl_LeftLeaf.calls kj3 _ _ l0 t441 _ ?side1 ?side2 A25.out).mono ?_); (case side1 => exact z3_); (case side2 => exact HC0.out); rintro e w29 ⟨v442, rfl, ho0, hb⟩; refine ⟨_, rfl, ?_⟩; have HO443 := Aside0.mk (Kd.R_lower (Kd.R_new' (Kd.R_new' ho0 (Kd.R_lt z96_)) (Kd.R_lt z138_)) (below_size z11_)); replace HO437 := Aside0.mk (Kd.R_elder' z96_ (Kd.R_base ho0) hb); replace HO440 := Aside0.mk (Kd.R_elder' z138_ (Kd.R_base ho0) hb); replace BK430 := Aside0.mk (blk_below z17_ hb); replace BK431 := Aside0.mk (blk_below z24_ hb); replace HB := Aside0.mk (below_step z11_ hb); (try clear hb ho0)) | ((with_reducible refine gate_callee (f := 86) rfl ?_); refine goesL_ (some 37) rfl rfl Try.func86 (by kernel_rfl) rfl #[.slice A1 l1.length c1] rfl z1_ ?_; (with_reducible refine (impl_LeftLeaf.calls kj3 _ _ l1 t444 _ ?side1 ?side2 A26.out).mono ?_); (case side1 => exact z22_); (case side2 => exact HC1.out); rintro e w30 ⟨v445, rfl, ho0, hb⟩; refine ⟨_, rfl, ?_⟩; have HO446 := Aside0.mk (Kd.R_lower (Kd.R_new' (Kd.R_new' (Kd.R_new' ho0 (Kd.R_lt z96_)) (Kd.R_lt z138_)) (Kd.R_lt z202_)) (below_size z11_)); replace HO437 := Aside0.mk (Kd.R_elder' z96_ (Kd.R_base ho0) hb); replace HO440 := Aside0.mk (Kd.R_elder' z138_ (Kd.R_base ho0) hb); replace HO443 := Aside0.mk (Kd.R_elder' z202_ (Kd.R_base ho0) hb); replace BK430 := Aside0.mk (blk_below z17_ hb); replace BK431 := Aside0.mk (blk_below z24_ hb); replace HB := Aside0.mk (below_step z11_ hb); (try clear hb ho0); obtain ⟨Ao31, co31, eo31⟩ := Kd.R_slice HO446.out; subst eo31; obtain ⟨Ao32, co32, eo32⟩ := Kd.R_slice HO443.out; subst eo32; obtain ⟨Ao33, co33, eo33⟩ := Kd.R_slice HO440.out; subst eo33; obtain ⟨Ao34, co34, eo34⟩ := Kd.R_slice HO437.out; subst eo34) | ((with_reducible refine gate_dst (N := 8) rfl ?_); refine box_event ?hg (N := 8) ?hd (cs := #[.slice none 0 0, .slice none 0 0, .slice none 0 0, .slice none 0 0, .slice none 0 0, .slice none 0 0, .slice none 0 0]) (t := 91) ?hr ?_; (case hd => rfl); (case hg => rfl); (case hr => exact z9_); intro gb447 hg w35 hbox hb; replace HO437 := Aside0.mk (Kd.R_below z96_ hb); replace HO440 := Aside0.mk (Kd.R_below z138_ hb); replace HO443 := Aside0.mk (Kd.R_below z202_ hb); replace HO446 := Aside0.mk (Kd.R_below (by (with_reducible repeat (first | apply Kd.R_alloc | apply Kd.R_drewN | apply Kd.R_drew)); exact HO446.out) hb); have BK447 := Aside0.mk (hbox); have GW447 := Aside0.mk ((by rw [hg]; exact (below_size z11_) : w.heap.size ≤ gb447)); have GE447 := Aside0.mk ((by rw [hg]; exact (below_size z11_) : w.heap.size ≤ gb447)); replace HB := Aside0.mk (below_step z11_ hb); have NB430_447 := Aside0.mk ((by rw [hg]; exact Nat.ne_of_lt (blk_lt (g := gb430) (o := .cells #[.slice A2_0 l2_0.length c2_0, .slice A2_1 l2_1.length c2_1, .slice A2_2 l2_2.length c2_2] 38 (0, 0)) z17_) : gb430 ≠ gb447)); have NB447_430 := Aside0.mk ((by rw [hg]; exact Nat.ne_of_gt (blk_lt (g := gb430) (o := .cells #[.slice A2_0 l2_0.length c2_0, .slice A2_1 l2_1.length c2_1, .slice A2_2 l2_2.length c2_2] 38 (0, 0)) z17_) : gb447 ≠ gb430)); replace BK430 := Aside0.mk (blk_below z17_ hb); have NB431_447 := Aside0.mk ((by rw [hg]; exact Nat.ne_of_lt (blk_lt (g := gb431) (o := .cells #[.slice none 0 0, .slice none 0 0, .slice none 0 0, .slice none 0 0, .slice none 0 0, .slice none 0 0, .slice none 0 0] 91 (0, 0)) z24_) : gb431 ≠ gb447)); have NB447_431 := Aside0.mk ((by rw [hg]; exact Nat.ne_of_gt (blk_lt (g := gb431) (o := .cells #[.slice none 0 0, .slice none 0 0, .slice none 0 0, .slice none 0 0, .slice none 0 0, .slice none 0 0, .slice none 0 0] 91 (0, 0)) z24_) : gb447 ≠ gb431)); replace BK431 := Aside0.mk (blk_below z24_ hb); clear hb hbox hg; have hnb36 := NB447_430.out; have hnc36 := NB430_447.out; have hnb37 := NB447_431.out; have hnc37 := NB431_447.out; obtain ⟨hcz38_0, hcz38_1, hcz38_2, hcz38_3, hcz38_4, hcz38_5, hcz38_6, hfz38_0, hfz38_1, hfz38_2, hfz38_3, hfz38_4, hfz38_5, hfz38_6⟩ := bx7_ BK447.out))
    go_loopg [42] kj3 (fun kq v42 w' => ∃ (x42_2 : Int) (x448005_2 : List Int) (u448005 : Value), v42 = .int .i64 x42_2 ∧ Aside0 (impl_measureOf.l0 kq l0 l1 t438 (t438.length : Int) x42_2 l2_0 l2_1 l2_2 t435 t438 t441 t444 x448005_2 = some (r1, r2, r3, r4, r5, r6, r7, r8)) ∧ Aside0 (kq ≤ kj3) ∧ Aside0 (Kd.R (Kd.int .i64) 3 w' w.heap.size (fun k_ => some k_ ≠ ((.slice Ao34 t435.length co34) : Value).ownBlock ∧ some k_ ≠ ((.slice Ao32 t441.length co32) : Value).ownBlock ∧ some k_ ≠ ((.slice Ao31 t444.length co31) : Value).ownBlock ∧ some k_ ≠ (u448005 : Value).ownBlock) (.slice Ao33 t438.length co33) t438) ∧ Aside0 (Kd.R (Kd.int .i64) 3 w' w.heap.size (fun k_ => some k_ ≠ ((.slice Ao33 t438.length co33) : Value).ownBlock ∧ some k_ ≠ ((.slice Ao33 t438.length co33) : Value).ownBlock ∧ some k_ ≠ ((.slice Ao32 t441.length co32) : Value).ownBlock ∧ some k_ ≠ ((.slice Ao31 t444.length co31) : Value).ownBlock ∧ some k_ ≠ (u448005 : Value).ownBlock) (.slice Ao34 t435.length co34) t435) ∧ Aside0 (Kd.R (Kd.int .i64) 3 w' w.heap.size (fun k_ => some k_ ≠ ((.slice Ao34 t435.length co34) : Value).ownBlock ∧ some k_ ≠ ((.slice Ao32 t441.length co32) : Value).ownBlock ∧ some k_ ≠ ((.slice Ao31 t444.length co31) : Value).ownBlock ∧ some k_ ≠ (u448005 : Value).ownBlock) (.slice Ao33 t438.length co33) t438) ∧ Aside0 (Kd.R (Kd.int .i64) 3 w' w.heap.size (fun k_ => some k_ ≠ ((.slice Ao33 t438.length co33) : Value).ownBlock ∧ some k_ ≠ ((.slice Ao34 t435.length co34) : Value).ownBlock ∧ some k_ ≠ ((.slice Ao33 t438.length co33) : Value).ownBlock ∧ some k_ ≠ ((.slice Ao31 t444.length co31) : Value).ownBlock ∧ some k_ ≠ (u448005 : Value).ownBlock) (.slice Ao32 t441.length co32) t441) ∧ Aside0 (Kd.R (Kd.int .i64) 3 w' w.heap.size (fun k_ => some k_ ≠ ((.slice Ao33 t438.length co33) : Value).ownBlock ∧ some k_ ≠ ((.slice Ao34 t435.length co34) : Value).ownBlock ∧ some k_ ≠ ((.slice Ao33 t438.length co33) : Value).ownBlock ∧ some k_ ≠ ((.slice Ao32 t441.length co32) : Value).ownBlock ∧ some k_ ≠ (u448005 : Value).ownBlock) (.slice Ao31 t444.length co31) t444) ∧ Aside0 (Kd.R (Kd.int .i64) 3 w' w.heap.size (fun k_ => some k_ ≠ ((.slice Ao33 t438.length co33) : Value).ownBlock ∧ some k_ ≠ ((.slice Ao34 t435.length co34) : Value).ownBlock ∧ some k_ ≠ ((.slice Ao33 t438.length co33) : Value).ownBlock ∧ some k_ ≠ ((.slice Ao32 t441.length co32) : Value).ownBlock ∧ some k_ ≠ ((.slice Ao31 t444.length co31) : Value).ownBlock) u448005 x448005_2) ∧ Aside0 (w'.heap[gb430]? = some (.cells #[(.slice A2_0 l2_0.length c2_0), (.slice A2_1 l2_1.length c2_1), (.slice A2_2 l2_2.length c2_2)] 38 (0, 0))) ∧ Aside0 (w'.heap[gb431]? = some (.cells #[(.slice none 0 0), (.slice none 0 0), (.slice none 0 0), (.slice none 0 0), (.slice none 0 0), (.slice none 0 0), (.slice none 0 0)] 91 (0, 0))) ∧ Aside0 (w'.heap[gb447]? = some (.cells #[(.slice Ao34 t435.length co34), (.slice Ao33 t438.length co33), (.slice Ao32 t441.length co32), (.slice Ao31 t444.length co31), (.slice none 0 0), u448005, (.slice none 0 0)] 91 (0, 0))) ∧ Aside0 (Below w.heap.size w w'))
    case atStart => exact ⟨(0), (([] : List Int)), (.slice none 0 0), z4_, H', ⟨Nat.le_refl _⟩, ⟨z46_⟩, ⟨by (with_reducible repeat (first | apply Kd.R_alloc | apply Kd.R_drewN | apply Kd.R_drew)); exact Kd.R_mono (Kd.R_far (p := ⟨gb447, 6, none⟩) (Kd.R_far (p := ⟨gb447, 5, none⟩) (Kd.R_far (p := ⟨gb447, 4, none⟩) (Kd.R_far (p := ⟨gb447, 3, none⟩) (Kd.R_far (p := ⟨gb447, 2, none⟩) (Kd.R_far (p := ⟨gb447, 1, none⟩) (Kd.R_far (p := ⟨gb447, 0, none⟩) (Kd.R_types HO437.out BK447.out (by decide)) (fun _ hk => hk.2) (.slice Ao34 t435.length co34)) (fun _ hk => hk.2) (.slice Ao33 t438.length co33)) (fun _ hk => hk.2) (.slice Ao32 t441.length co32)) (fun _ hk => hk.2) (.slice Ao31 t444.length co31)) (fun _ hk => hk.2) (.slice none 0 0)) (fun _ hk => hk.2) (.slice none 0 0)) (fun _ hk => hk.2) (.slice none 0 0)) (fun _ hk => ⟨hk.1.1.1.2, ⟨hk.1.1.1.2, ⟨hk.1.1.2, ⟨hk.1.2, z217_⟩⟩⟩⟩)⟩, ⟨z46_⟩, ⟨by (with_reducible repeat (first | apply Kd.R_alloc | apply Kd.R_drewN | apply Kd.R_drew)); exact Kd.R_mono (Kd.R_far (p := ⟨gb447, 6, none⟩) (Kd.R_far (p := ⟨gb447, 5, none⟩) (Kd.R_far (p := ⟨gb447, 4, none⟩) (Kd.R_far (p := ⟨gb447, 3, none⟩) (Kd.R_far (p := ⟨gb447, 2, none⟩) (Kd.R_far (p := ⟨gb447, 1, none⟩) (Kd.R_far (p := ⟨gb447, 0, none⟩) (Kd.R_types HO443.out BK447.out (by decide)) (fun _ hk => hk.2) (.slice Ao34 t435.length co34)) (fun _ hk => hk.2) (.slice Ao33 t438.length co33)) (fun _ hk => hk.2) (.slice Ao32 t441.length co32)) (fun _ hk => hk.2) (.slice Ao31 t444.length co31)) (fun _ hk => hk.2) (.slice none 0 0)) (fun _ hk => hk.2) (.slice none 0 0)) (fun _ hk => hk.2) (.slice none 0 0)) (fun _ hk => ⟨hk.1.1.2, ⟨hk.1.1.1.2, ⟨hk.1.1.2, ⟨hk.1.2, z217_⟩⟩⟩⟩)⟩, ⟨by (with_reducible repeat (first | apply Kd.R_alloc | apply Kd.R_drewN | apply Kd.R_drew)); exact Kd.R_mono (Kd.R_far (p := ⟨gb447, 6, none⟩) (Kd.R_far (p := ⟨gb447, 5, none⟩) (Kd.R_far (p := ⟨gb447, 4, none⟩) (Kd.R_far (p := ⟨gb447, 3, none⟩) (Kd.R_far (p := ⟨gb447, 2, none⟩) (Kd.R_far (p := ⟨gb447, 1, none⟩) (Kd.R_far (p := ⟨gb447, 0, none⟩) (Kd.R_types HO446.out BK447.out (by decide)) (fun _ hk => hk.2) (.slice Ao34 t435.length co34)) (fun _ hk => hk.2) (.slice Ao33 t438.length co33)) (fun _ hk => hk.2) (.slice Ao32 t441.length co32)) (fun _ hk => hk.2) (.slice Ao31 t444.length co31)) (fun _ hk => hk.2) (.slice none 0 0)) (fun _ hk => hk.2) (.slice none 0 0)) (fun _ hk => hk.2) (.slice none 0 0)) (fun _ hk => ⟨hk.1.1.2, ⟨hk.1.1.1.2, ⟨hk.1.1.2, ⟨hk.1.2, z217_⟩⟩⟩⟩)⟩, ⟨z70_⟩, ⟨by (with_reducible repeat (first | refine blk_drewN ?_ _ | refine blk_drew ?_ | refine blk_alloc ?_ _)); refine blk_far ?_ NB430_447.out _; (with_reducible repeat (first | refine blk_drewN ?_ _ | refine blk_drew ?_ | refine blk_alloc ?_ _)); refine blk_far ?_ NB430_447.out _; (with_reducible repeat (first | refine blk_drewN ?_ _ | refine blk_drew ?_ | refine blk_alloc ?_ _)); refine blk_far ?_ NB430_447.out _; (with_reducible repeat (first | refine blk_drewN ?_ _ | refine blk_drew ?_ | refine blk_alloc ?_ _)); refine blk_far ?_ NB430_447.out _; (with_reducible repeat (first | refine blk_drewN ?_ _ | refine blk_drew ?_ | refine blk_alloc ?_ _)); refine blk_far ?_ NB430_447.out _; (with_reducible repeat (first | refine blk_drewN ?_ _ | refine blk_drew ?_ | refine blk_alloc ?_ _)); refine blk_far ?_ NB430_447.out _; (with_reducible repeat (first | refine blk_drewN ?_ _ | refine blk_drew ?_ | refine blk_alloc ?_ _)); refine blk_far ?_ NB430_447.out _; (with_reducible repeat (first | refine blk_drewN ?_ _ | refine blk_drew ?_ | refine blk_alloc ?_ _)); exact BK430.out⟩, ⟨by (with_reducible repeat (first | refine blk_drewN ?_ _ | refine blk_drew ?_ | refine blk_alloc ?_ _)); refine blk_far ?_ NB431_447.out _; (with_reducible repeat (first | refine blk_drewN ?_ _ | refine blk_drew ?_ | refine blk_alloc ?_ _)); refine blk_far ?_ NB431_447.out _; (with_reducible repeat (first | refine blk_drewN ?_ _ | refine blk_drew ?_ | refine blk_alloc ?_ _)); refine blk_far ?_ NB431_447.out _; (with_reducible repeat (first | refine blk_drewN ?_ _ | refine blk_drew ?_ | refine blk_alloc ?_ _)); refine blk_far ?_ NB431_447.out _; (with_reducible repeat (first | refine blk_drewN ?_ _ | refine blk_drew ?_ | refine blk_alloc ?_ _)); refine blk_far ?_ NB431_447.out _; (with_reducible repeat (first | refine blk_drewN ?_ _ | refine blk_drew ?_ | refine blk_alloc ?_ _)); refine blk_far ?_ NB431_447.out _; (with_reducible repeat (first | refine blk_drewN ?_ _ | refine blk_drew ?_ | refine blk_alloc ?_ _)); refine blk_far ?_ NB431_447.out _; (with_reducible repeat (first | refine blk_drewN ?_ _ | refine blk_drew ?_ | refine blk_alloc ?_ _)); exact BK431.out⟩, ⟨by (with_reducible repeat (first | refine blk_drewN ?_ _ | refine blk_drew ?_ | refine blk_alloc ?_ _)); refine blk_put (cs := #[.slice Ao34 t435.length co34, .slice Ao33 t438.length co33, .slice Ao32 t441.length co32, .slice Ao31 t444.length co31, .slice none 0 0, .slice none 0 0, .slice none 0 0]) ?_ 6 _ rfl; (with_reducible repeat (first | refine blk_drewN ?_ _ | refine blk_drew ?_ | refine blk_alloc ?_ _)); refine blk_put (cs := #[.slice Ao34 t435.length co34, .slice Ao33 t438.length co33, .slice Ao32 t441.length co32, .slice Ao31 t444.length co31, .slice none 0 0, .slice none 0 0, .slice none 0 0]) ?_ 5 _ rfl; (with_reducible repeat (first | refine blk_drewN ?_ _ | refine blk_drew ?_ | refine blk_alloc ?_ _)); refine blk_put (cs := #[.slice Ao34 t435.length co34, .slice Ao33 t438.length co33, .slice Ao32 t441.length co32, .slice Ao31 t444.length co31, .slice none 0 0, .slice none 0 0, .slice none 0 0]) ?_ 4 _ rfl; (with_reducible repeat (first | refine blk_drewN ?_ _ | refine blk_drew ?_ | refine blk_alloc ?_ _)); refine blk_put (cs := #[.slice Ao34 t435.length co34, .slice Ao33 t438.length co33, .slice Ao32 t441.length co32, .slice none 0 0, .slice none 0 0, .slice none 0 0, .slice none 0 0]) ?_ 3 _ rfl; (with_reducible repeat (first | refine blk_drewN ?_ _ | refine blk_drew ?_ | refine blk_alloc ?_ _)); refine blk_put (cs := #[.slice Ao34 t435.length co34, .slice Ao33 t438.length co33, .slice none 0 0, .slice none 0 0, .slice none 0 0, .slice none 0 0, .slice none 0 0]) ?_ 2 _ rfl; (with_reducible repeat (first | refine blk_drewN ?_ _ | refine blk_drew ?_ | refine blk_alloc ?_ _)); refine blk_put (cs := #[.slice Ao34 t435.length co34, .slice none 0 0, .slice none 0 0, .slice none 0 0, .slice none 0 0, .slice none 0 0, .slice none 0 0]) ?_ 1 _ rfl; (with_reducible repeat (first | refine blk_drewN ?_ _ | refine blk_drew ?_ | refine blk_alloc ?_ _)); refine blk_put (cs := #[.slice none 0 0, .slice none 0 0, .slice none 0 0, .slice none 0 0, .slice none 0 0, .slice none 0 0, .slice none 0 0]) ?_ 0 _ rfl; (with_reducible repeat (first | refine blk_drewN ?_ _ | refine blk_drew ?_ | refine blk_alloc ?_ _)); exact BK447.out⟩, ⟨z13_⟩⟩
    case round =>
     clear H'
     obtain ⟨x42_2, x448005_2, u448005, rfl, HA, HK2, HO_40, HO_448000, HO_448001, HO_448002, HO_448003, HO_448005, BK430, BK431, BK447, HB⟩ := hrel
     cases gk with
     | zero => exact absurd HA.out (by simp [impl_measureOf.l0])
     | succ k2 =>
      have H := HA.out
      clear HA
      simp only [impl_measureOf.l0] at H
      by_cases c39 : x42_2 < (t438.length : Int)
      ·rw [if_pos c39] at H
       have c39b0 := decide_eq_true c39
       clear c39
       obtain ⟨c40b0, H⟩ := ifd_ H
       obtain ⟨c41b0, H⟩ := ifd_ H
       obtain ⟨c42b0, H⟩ := ifd_ H
       obtain ⟨c43b0, H⟩ := ifd_ H
       obtain ⟨c44b0, H⟩ := ifd_ H
       obtain ⟨c45b0, H⟩ := ifd_ H
       obtain ⟨c46, H⟩ := ifs_ H
       have LMc46 := Aside0.mk c46
       clear c46
       first | ((with_reducible have hz_ := gy_ H); obtain ⟨y451, Ny451, H⟩ := hz_) | (generalize hy_ : ((x448005_2 ++ [rd l2_1 ((rd_T61 l1 (rd t438 x42_2)).f0)]) : List Int) = y451 at H; have Ny451 := Aside0.mk hy_.symm; clear hy_)
       have H' := Aside0.mk H
       clear H
       have p448 : 0 ≤ (x42_2 : Int) := odt_
       have q448 : x42_2 < (t438.length : Int) := odt_
       obtain ⟨ad448, e448, hx448_0⟩ := Kd.at_int (Kd.R_reads' HO_40.out).2.2 x42_2 p448 q448
       cases e448
       replace p448 := eq_true p448
       replace q448 := eq_true q448
       try go_wp2
       have n0_ := Aside0.mk (Kd.R_drew HO_40.out)
       have n1_ := Aside0.mk (Kd.R_drew HO_448000.out)
       have n2_ := Aside0.mk (Kd.R_drew HO_448001.out)
       have n3_ := Aside0.mk (Kd.R_drew HO_448002.out)
       have n4_ := Aside0.mk (Kd.R_drew HO_448003.out)
       have n5_ := Aside0.mk (Kd.R_drew HO_448005.out)
       have n6_ := Aside0.mk (blk_drew BK430.out)
       have n7_ := Aside0.mk (blk_drew BK431.out)
       have n8_ := Aside0.mk (blk_drew BK447.out)
       have n9_ := Aside0.mk (below_drew1 HB.out)
       clear HO_40
       clear HO_448000
       clear HO_448001
       clear HO_448002
       clear HO_448003
       clear HO_448005
       clear BK430
       clear BK431
       clear BK447
       clear HB
       have HO_40 := n0_
       have HO_448000 := n1_
       have HO_448001 := n2_
       have HO_448002 := n3_
       have HO_448003 := n4_
       have HO_448005 := n5_
       have BK430 := n6_
       have BK431 := n7_
       have BK447 := n8_
       have HB := n9_
       clear n0_ n1_ n2_ n3_ n4_ n5_ n6_ n7_ n8_ n9_
       obtain ⟨p449, q449, ad449, e449, hw449_0, hw449_1, hx449_0, hx449_1⟩ := atw61_ HR1 HB (rd t438 x42_2)
       cases e449
       have p450 : 0 ≤ (((rd_T61 l1 (rd t438 x42_2)).f0) : Int) := odt_
       have q450 : ((rd_T61 l1 (rd t438 x42_2)).f0) < (l2_1.length : Int) := odt_
       obtain ⟨ad450, e450, hx450_0⟩ := Kd.at_int HR2_1.out ((rd_T61 l1 (rd t438 x42_2)).f0) p450 q450
       have hw450_0 := hx450_0
       cases e450
       replace hx450_0 := (HB.out.cell (World.block_lt_of_cell? w _ hx450_0)).trans hx450_0
       replace p450 := eq_true p450
       replace q450 := eq_true q450
       refine start_ (n := 15) (S := fun w' => w'.cell? ⟨gb447, 0, none⟩ = some (.slice Ao34 t435.length co34) ∧ w'.cell? ⟨gb447, 1, none⟩ = some (.slice (some ad448) t438.length co33) ∧ w'.cell? ⟨gb447, 2, none⟩ = some (.slice Ao32 t441.length co32) ∧ w'.cell? ⟨gb447, 3, none⟩ = some (.slice Ao31 t444.length co31) ∧ w'.cell? ⟨gb447, 4, none⟩ = some (.slice none 0 0) ∧ w'.cell? ⟨gb447, 5, none⟩ = some (u448005) ∧ w'.cell? ⟨gb447, 6, none⟩ = some (.slice none 0 0) ∧ w'.cell? ⟨gb430, 0, none⟩ = some (.slice A2_0 l2_0.length c2_0) ∧ w'.cell? ⟨gb430, 1, none⟩ = some (.slice (some ad450) l2_1.length c2_1) ∧ w'.cell? ⟨gb430, 2, none⟩ = some (.slice A2_2 l2_2.length c2_2) ∧ w'.cell? (ad449.add (((rd t438 x42_2)).toNat * 2)) = some (.int .i64 ((rd_T61 l1 (rd t438 x42_2)).f0)) ∧ w'.cell? ⟨(ad449.add (((rd t438 x42_2)).toNat * 2)).block, (ad449.add (((rd t438 x42_2)).toNat * 2)).off + 1, none⟩ = some (.int .i64 ((rd_T61 l1 (rd t438 x42_2)).f1)) ∧ w'.cell? (ad450.add (((rd_T61 l1 (rd t438 x42_2)).f0)).toNat) = some (.int .i64 (rd l2_1 ((rd_T61 l1 (rd t438 x42_2)).f0)))) (ds := [14]) (fl_ 15 0) (by kernel_rfl) rfl (fl_zero _) ⟨(blk_cell BK447.out 0).trans rfl, (blk_cell BK447.out 1).trans rfl, (blk_cell BK447.out 2).trans rfl, (blk_cell BK447.out 3).trans rfl, (blk_cell BK447.out 4).trans rfl, (blk_cell BK447.out 5).trans rfl, (blk_cell BK447.out 6).trans rfl, (blk_cell BK430.out 0).trans rfl, (blk_cell BK430.out 1).trans rfl, (blk_cell BK430.out 2).trans rfl, ((HB.out.cell (World.block_lt_of_cell? w _ hw449_0)).trans hw449_0), ((HB.out.cell (World.block_lt_of_cell? w _ hw449_1)).trans hw449_1), ((HB.out.cell (World.block_lt_of_cell? w _ hw450_0)).trans hw450_0)⟩ (fun hHeld => ?_); refine with_tabW impl_measureOf.tab7 impl_measureOf.bits7 (fun HT_ HW_ => ?_)
       generalize wr.drew = w47 at HO_40 HO_448000 HO_448001 HO_448002 HO_448003 HO_448005 BK430 BK431 BK447 HB hx449_0 hx449_1 hx450_0 hHeld ⊢
       refine zp_ HT_ rfl rfl (by kernel_rfl) (fun _ _ _ h => h) (by rfl) ?_
       refine zpg_ (i := 2) (ra_ [1, 1, 1, 12]) HT_ rfl rfl (by kernel_rfl) (fun _ _ _ h => h) (by rfl) ?_
       refine zpg_ (i := 4) (ra_ [1, 1, 1, 1, 1, 10]) HT_ rfl rfl (by kernel_rfl) (fun _ _ _ h => h) (by rfl) ?_
       refine zpg_ (i := 5) (ra_ [1, 1, 1, 1, 2, 9]) HT_ rfl rfl (by kernel_rfl) (fun _ _ _ h => h) (by rfl) ?_
       refine zpg_ (i := 6) (ra_ [1, 1, 1, 1, 3, 8]) HT_ rfl rfl (by kernel_rfl) (fun _ _ _ h => h) (by rfl) ?_
       refine zpg_ (i := 7) (ra_ [1, 1, 1, 1, 4, 7]) HT_ rfl rfl (by kernel_rfl) (fun _ _ _ h => h) (by rfl) ?_
       refine ztg_ (i := 1) (ra_ [3, 1, 4, 7]) HT_ HW_ rfl rfl (by kernel_rfl) (fun _ _ _ h => h) (by rfl) hHeld ?_ z10_
       refine ztg_ (i := 3) (fl_ 15 8) HT_ HW_ rfl rfl (by kernel_rfl) (fun _ _ _ h => h) (by rfl) hHeld ?_ z10_
       refine zt_ HT_ HW_ rfl rfl (by kernel_rfl) (fun _ _ _ h => h) (by rfl) hHeld ?_ z10_
       refine zp_ HT_ rfl rfl (by kernel_rfl) (fun _ _ _ h => h) (by rfl) ?_
       refine zt_ HT_ HW_ rfl rfl (by kernel_rfl) (fun _ _ _ h => h) (by rfl) hHeld ?_ z10_
       refine one_ (i := 11) (N := some 57) (fl_ 15 12) rfl rfl (one_of HT_.out (by kernel_rfl)) (by decide) (fun K hK => ?_)
       refine value_ (w1 := ?_) (v := ?_) (by rfl) rfl ?_ ?_
       rotate_left 2
       ·go_simp
        constructor
        ·rfl
        ·rfl
       refine hK.out _ _ ⟨(blk_cell (blk_alloc BK447.out _) 0).trans rfl, (blk_cell (blk_alloc BK447.out _) 1).trans rfl, (blk_cell (blk_alloc BK447.out _) 2).trans rfl, (blk_cell (blk_alloc BK447.out _) 3).trans rfl, (blk_cell (blk_alloc BK447.out _) 4).trans rfl, (blk_cell (blk_alloc BK447.out _) 5).trans rfl, (blk_cell (blk_alloc BK447.out _) 6).trans rfl, (blk_cell (blk_alloc BK430.out _) 0).trans rfl, (blk_cell (blk_alloc BK430.out _) 1).trans rfl, (blk_cell (blk_alloc BK430.out _) 2).trans rfl, (World.cell?_alloc_lt _ _ _ (World.block_lt_of_cell? _ _ (((HB.out.cell (World.block_lt_of_cell? w _ hw449_0)).trans hw449_0)))).trans (((HB.out.cell (World.block_lt_of_cell? w _ hw449_0)).trans hw449_0)), (World.cell?_alloc_lt _ _ _ (World.block_lt_of_cell? _ _ (((HB.out.cell (World.block_lt_of_cell? w _ hw449_1)).trans hw449_1)))).trans (((HB.out.cell (World.block_lt_of_cell? w _ hw449_1)).trans hw449_1)), (World.cell?_alloc_lt _ _ _ (World.block_lt_of_cell? _ _ (((HB.out.cell (World.block_lt_of_cell? w _ hw450_0)).trans hw450_0)))).trans (((HB.out.cell (World.block_lt_of_cell? w _ hw450_0)).trans hw450_0))⟩ (fun hHeld => ?_)
       clear hK K
       refine zn_ rfl ?_
       refine one_ (i := 12) (N := some 58) (fl_ 15 13) rfl rfl (one_of HT_.out (by kernel_rfl)) (by decide) (fun K hK => ?_)
       refine Kd.R_append_step (Kd.int .i64) (w0 := w) w.heap.size (by rfl) (.tmp 47) (.tmp 57) 30 3 (.int .i64 0) 8 rfl Try.underlying30 info3 rfl (by decide) (by omega) u448005 x448005_2 (rd l2_1 ((rd_T61 l1 (rd t438 x42_2)).f0)) [.int .i64 (rd l2_1 ((rd_T61 l1 (rd t438 x42_2)).f0))] (fun k_ => some k_ ≠ (.slice (some ad448) t438.length co33 : Value).ownBlock ∧ some k_ ≠ (.slice Ao34 t435.length co34 : Value).ownBlock ∧ some k_ ≠ (.slice (some ad448) t438.length co33 : Value).ownBlock ∧ some k_ ≠ (.slice Ao32 t441.length co32 : Value).ownBlock ∧ some k_ ≠ (.slice Ao31 t444.length co31 : Value).ownBlock) (fun _ => False) rfl rfl ?aP (fun _ hk => hk.elim) ?aF ?aO ?aB ?aS ?aL ?_
       (case aP => exact rfl)
       (case aB => exact z79_)
       (case aF => exact (fun k_ hk => ⟨Kd.fresh' (Kd.R_lt (by (with_reducible repeat (first | apply Kd.R_alloc | apply Kd.R_drewN | apply Kd.R_drew)); exact HO_40.out)) k_ hk, Kd.fresh' (Kd.R_lt z133_) k_ hk, Kd.fresh' (Kd.R_lt z134_) k_ hk, Kd.fresh' (Kd.R_lt z135_) k_ hk, Kd.fresh' (Kd.R_lt z136_) k_ hk⟩))
       (case aO => exact z137_)
       (case aS => exact z77_)
       (case aL => have := LMc46.out; omega)
       intro v452 w48 ho hb hg hat
       rw [← Ny451.out] at ho
       have n0_ := Aside0.mk (Kd.R_after (ok := (fun k_ => some k_ ≠ (.slice Ao34 t435.length co34 : Value).ownBlock ∧ some k_ ≠ (.slice Ao32 t441.length co32 : Value).ownBlock ∧ some k_ ≠ (.slice Ao31 t444.length co31 : Value).ownBlock)) (by (with_reducible repeat (first | apply Kd.R_alloc | apply Kd.R_drewN | apply Kd.R_drew)); exact Kd.R_mono HO_40.out (fun _ hk => ⟨⟨hk.1, ⟨hk.2.1, hk.2.2.1⟩⟩, hk.2.2.2⟩)) hg hat)
       have n1_ := Aside0.mk (Kd.R_after (ok := (fun k_ => some k_ ≠ (.slice (some ad448) t438.length co33 : Value).ownBlock ∧ some k_ ≠ (.slice (some ad448) t438.length co33 : Value).ownBlock ∧ some k_ ≠ (.slice Ao32 t441.length co32 : Value).ownBlock ∧ some k_ ≠ (.slice Ao31 t444.length co31 : Value).ownBlock)) (by (with_reducible repeat (first | apply Kd.R_alloc | apply Kd.R_drewN | apply Kd.R_drew)); exact Kd.R_mono HO_448000.out (fun _ hk => ⟨⟨hk.1, ⟨hk.2.1, ⟨hk.2.2.1, hk.2.2.2.1⟩⟩⟩, hk.2.2.2.2⟩)) hg hat)
       have n2_ := Aside0.mk (Kd.R_after (ok := (fun k_ => some k_ ≠ (.slice Ao34 t435.length co34 : Value).ownBlock ∧ some k_ ≠ (.slice Ao32 t441.length co32 : Value).ownBlock ∧ some k_ ≠ (.slice Ao31 t444.length co31 : Value).ownBlock)) (by (with_reducible repeat (first | apply Kd.R_alloc | apply Kd.R_drewN | apply Kd.R_drew)); exact Kd.R_mono HO_448001.out (fun _ hk => ⟨⟨hk.1, ⟨hk.2.1, hk.2.2.1⟩⟩, hk.2.2.2⟩)) hg hat)
       have n3_ := Aside0.mk (Kd.R_after (ok := (fun k_ => some k_ ≠ (.slice (some ad448) t438.length co33 : Value).ownBlock ∧ some k_ ≠ (.slice Ao34 t435.length co34 : Value).ownBlock ∧ some k_ ≠ (.slice (some ad448) t438.length co33 : Value).ownBlock ∧ some k_ ≠ (.slice Ao31 t444.length co31 : Value).ownBlock)) (by (with_reducible repeat (first | apply Kd.R_alloc | apply Kd.R_drewN | apply Kd.R_drew)); exact Kd.R_mono HO_448002.out (fun _ hk => ⟨⟨hk.1, ⟨hk.2.1, ⟨hk.2.2.1, hk.2.2.2.1⟩⟩⟩, hk.2.2.2.2⟩)) hg hat)
       have n4_ := Aside0.mk (Kd.R_after (ok := (fun k_ => some k_ ≠ (.slice (some ad448) t438.length co33 : Value).ownBlock ∧ some k_ ≠ (.slice Ao34 t435.length co34 : Value).ownBlock ∧ some k_ ≠ (.slice (some ad448) t438.length co33 : Value).ownBlock ∧ some k_ ≠ (.slice Ao32 t441.length co32 : Value).ownBlock)) (by (with_reducible repeat (first | apply Kd.R_alloc | apply Kd.R_drewN | apply Kd.R_drew)); exact Kd.R_mono HO_448003.out (fun _ hk => ⟨⟨hk.1, ⟨hk.2.1, ⟨hk.2.2.1, hk.2.2.2.1⟩⟩⟩, hk.2.2.2.2⟩)) hg hat)
       have n5_ := Aside0.mk (blk_grown z17_ hg (Kd.R_ne HO_448005.out BK430.out (by decide)))
       have n6_ := Aside0.mk (blk_grown z24_ hg (Kd.R_ne HO_448005.out BK431.out (by decide)))
       have n7_ := Aside0.mk (blk_grown z89_ hg (Kd.R_ne HO_448005.out BK447.out (by decide)))
       have n8_ := Aside0.mk (hb)
       have n9_ := Aside0.mk (ho)
       clear HO_40
       clear HO_448000
       clear HO_448001
       clear HO_448002
       clear HO_448003
       clear BK430
       clear BK431
       clear BK447
       clear HB
       clear HO_448005
       have HO_40 := n0_
       have HO_448000 := n1_
       have HO_448001 := n2_
       have HO_448002 := n3_
       have HO_448003 := n4_
       have BK430 := n5_
       have BK431 := n6_
       have BK447 := n7_
       have HB := n8_
       have HO453 := n9_
       clear n0_ n1_ n2_ n3_ n4_ n5_ n6_ n7_ n8_ n9_
       clear ho hb hg hat
       obtain ⟨Ao49, co49, eo49⟩ := Kd.R_slice HO453.out
       (first | subst eo49 | (injection eo49 with f1_ f2_ f3_; have f4_ := f1_.symm; have f5_ := f3_.symm; clear f1_ f2_ f3_; subst f4_; subst f5_))
       refine hK.out _ _ ⟨(blk_cell BK447.out 0).trans rfl, (blk_cell BK447.out 1).trans rfl, (blk_cell BK447.out 2).trans rfl, (blk_cell BK447.out 3).trans rfl, (blk_cell BK447.out 4).trans rfl, (blk_cell BK447.out 5).trans rfl, (blk_cell BK447.out 6).trans rfl, (blk_cell BK430.out 0).trans rfl, (blk_cell BK430.out 1).trans rfl, (blk_cell BK430.out 2).trans rfl, ((HB.out.cell (World.block_lt_of_cell? w _ hw449_0)).trans hw449_0), ((HB.out.cell (World.block_lt_of_cell? w _ hw449_1)).trans hw449_1), ((HB.out.cell (World.block_lt_of_cell? w _ hw450_0)).trans hw450_0)⟩ (fun hHeld => ?_)
       clear hK K
       refine zn_ rfl ?_
       refine zp_ HT_ rfl rfl (by kernel_rfl) (fun _ _ _ h => h) (by rfl) ?_
       refine last_ (i := 14) (N := none) (fl_ 15 15) rfl rfl (one_of HT_.out (by kernel_rfl)) (by decide) (fun K hK => ?_)
       have hs50 : w48.cell? ⟨gb447, 5, none⟩ = some (u448005) := (blk_cell BK447.out 5).trans rfl
       have hfs50 := blk_frozen BK447.out 5
       have hns50_0 := NB430_447.out
       have hns50_1 := NB431_447.out
       have hms50_0 := NB447_430.out
       have hms50_1 := NB447_431.out
       refine skip_ (w1 := ?_) (by rfl) rfl ?_ ?_
       rotate_left
       ·go_simp
        rfl
       refine hK.out _ _ ?_
       clear hK K
       refine done_ (done_of HT_.out (by kernel_rfl)) ?_
       try go_wp2
       go_roundg k2
       case measure => have := HJ3.out; have := HK2.out; omega
       case rel => exact ⟨(wrap64 (x42_2 + 1)), (y451), (.slice Ao49 y451.length co49), z4_, H', ⟨by have := HJ3.out; have := HK2.out; omega⟩, ⟨by (with_reducible repeat (first | apply Kd.R_alloc | apply Kd.R_drewN | apply Kd.R_drew)); exact Kd.R_mono (Kd.R_far (p := ⟨gb447, 5, none⟩) (Kd.R_types HO_40.out BK447.out (by decide)) (fun _ hk => hk.2) (.slice Ao49 y451.length co49)) (fun _ hk => ⟨hk.1.1.1, ⟨hk.1.1.2.1, ⟨hk.1.1.2.2, hk.1.2⟩⟩⟩)⟩, ⟨by (with_reducible repeat (first | apply Kd.R_alloc | apply Kd.R_drewN | apply Kd.R_drew)); exact Kd.R_mono (Kd.R_far (p := ⟨gb447, 5, none⟩) (Kd.R_types HO_448000.out BK447.out (by decide)) (fun _ hk => hk.2) (.slice Ao49 y451.length co49)) (fun _ hk => ⟨hk.1.1.1, ⟨hk.1.1.2.1, ⟨hk.1.1.2.2.1, ⟨hk.1.1.2.2.2, hk.1.2⟩⟩⟩⟩)⟩, ⟨by (with_reducible repeat (first | apply Kd.R_alloc | apply Kd.R_drewN | apply Kd.R_drew)); exact Kd.R_mono (Kd.R_far (p := ⟨gb447, 5, none⟩) (Kd.R_types HO_448001.out BK447.out (by decide)) (fun _ hk => hk.2) (.slice Ao49 y451.length co49)) (fun _ hk => ⟨hk.1.1.1, ⟨hk.1.1.2.1, ⟨hk.1.1.2.2, hk.1.2⟩⟩⟩)⟩, ⟨by (with_reducible repeat (first | apply Kd.R_alloc | apply Kd.R_drewN | apply Kd.R_drew)); exact Kd.R_mono (Kd.R_far (p := ⟨gb447, 5, none⟩) (Kd.R_types HO_448002.out BK447.out (by decide)) (fun _ hk => hk.2) (.slice Ao49 y451.length co49)) (fun _ hk => ⟨hk.1.1.1, ⟨hk.1.1.2.1, ⟨hk.1.1.2.2.1, ⟨hk.1.1.2.2.2, hk.1.2⟩⟩⟩⟩)⟩, ⟨by (with_reducible repeat (first | apply Kd.R_alloc | apply Kd.R_drewN | apply Kd.R_drew)); exact Kd.R_mono (Kd.R_far (p := ⟨gb447, 5, none⟩) (Kd.R_types HO_448003.out BK447.out (by decide)) (fun _ hk => hk.2) (.slice Ao49 y451.length co49)) (fun _ hk => ⟨hk.1.1.1, ⟨hk.1.1.2.1, ⟨hk.1.1.2.2.1, ⟨hk.1.1.2.2.2, hk.1.2⟩⟩⟩⟩)⟩, ⟨by (with_reducible repeat (first | apply Kd.R_alloc | apply Kd.R_drewN | apply Kd.R_drew)); exact Kd.R_mono (Kd.R_far (p := ⟨gb447, 5, none⟩) (Kd.R_types HO453.out BK447.out (by decide)) (fun _ hk => hk.2) (.slice Ao49 y451.length co49)) (fun _ hk => ⟨hk.1.1, ⟨hk.1.2.1, ⟨hk.1.2.2.1, ⟨hk.1.2.2.2.1, hk.1.2.2.2.2⟩⟩⟩⟩)⟩, ⟨z91_⟩, ⟨z92_⟩, ⟨by (with_reducible repeat (first | refine blk_drewN ?_ _ | refine blk_drew ?_ | refine blk_alloc ?_ _)); refine blk_put (cs := #[.slice Ao34 t435.length co34, .slice (some ad448) t438.length co33, .slice Ao32 t441.length co32, .slice Ao31 t444.length co31, .slice none 0 0, u448005, .slice none 0 0]) ?_ 5 _ rfl; (with_reducible repeat (first | refine blk_drewN ?_ _ | refine blk_drew ?_ | refine blk_alloc ?_ _)); exact BK447.out⟩, ⟨z13_⟩⟩
      ·rw [if_neg c39] at H
       have c39b0 := decide_eq_false c39
       clear c39
       have H' := Aside0.mk H
       clear H
       have hnb51 := NB447_430.out
       have hnc51 := NB430_447.out
       have hnb52 := NB447_431.out
       have hnc52 := NB431_447.out
       obtain ⟨hcz53_0, hcz53_1, hcz53_2, hcz53_3, hcz53_4, hcz53_5, hcz53_6, hfz53_0, hfz53_1, hfz53_2, hfz53_3, hfz53_4, hfz53_5, hfz53_6⟩ := bx7_ BK447.out
       go_wp2
       go_loopg [64] k2 (fun kq v64 w' => ∃ (x64_3 : Int) (x448004_3 : List Int) (x448006_3 : List (List Int)) (u448004 : Value) (u448006 : Value), v64 = .int .i64 x64_3 ∧ Aside0 (impl_measureOf.l1 kq l0 l1 t435 (t435.length : Int) x64_3 l2_0 l2_1 l2_2 t435 t438 t441 t444 x448004_3 x448005_2 x448006_3 = some (r1, r2, r3, r4, r5, r6, r7, r8)) ∧ Aside0 (kq ≤ k2) ∧ Aside0 (Kd.R (Kd.int .i64) 3 w' w.heap.size (fun k_ => some k_ ≠ ((.slice Ao33 t438.length co33) : Value).ownBlock ∧ some k_ ≠ ((.slice Ao32 t441.length co32) : Value).ownBlock ∧ some k_ ≠ ((.slice Ao31 t444.length co31) : Value).ownBlock ∧ some k_ ≠ (u448004 : Value).ownBlock ∧ some k_ ≠ (u448005 : Value).ownBlock) (.slice Ao34 t435.length co34) t435) ∧ Aside0 (Kd.R (Kd.int .i64) 3 w' w.heap.size (fun k_ => some k_ ≠ ((.slice Ao33 t438.length co33) : Value).ownBlock ∧ some k_ ≠ ((.slice Ao32 t441.length co32) : Value).ownBlock ∧ some k_ ≠ ((.slice Ao31 t444.length co31) : Value).ownBlock ∧ some k_ ≠ (u448004 : Value).ownBlock ∧ some k_ ≠ (u448005 : Value).ownBlock) (.slice Ao34 t435.length co34) t435) ∧ Aside0 (Kd.R (Kd.int .i64) 3 w' w.heap.size (fun k_ => some k_ ≠ ((.slice Ao34 t435.length co34) : Value).ownBlock ∧ some k_ ≠ ((.slice Ao34 t435.length co34) : Value).ownBlock ∧ some k_ ≠ ((.slice Ao32 t441.length co32) : Value).ownBlock ∧ some k_ ≠ ((.slice Ao31 t444.length co31) : Value).ownBlock ∧ some k_ ≠ (u448004 : Value).ownBlock ∧ some k_ ≠ (u448005 : Value).ownBlock) (.slice Ao33 t438.length co33) t438) ∧ Aside0 (Kd.R (Kd.int .i64) 3 w' w.heap.size (fun k_ => some k_ ≠ ((.slice Ao34 t435.length co34) : Value).ownBlock ∧ some k_ ≠ ((.slice Ao34 t435.length co34) : Value).ownBlock ∧ some k_ ≠ ((.slice Ao33 t438.length co33) : Value).ownBlock ∧ some k_ ≠ ((.slice Ao31 t444.length co31) : Value).ownBlock ∧ some k_ ≠ (u448004 : Value).ownBlock ∧ some k_ ≠ (u448005 : Value).ownBlock) (.slice Ao32 t441.length co32) t441) ∧ Aside0 (Kd.R (Kd.int .i64) 3 w' w.heap.size (fun k_ => some k_ ≠ ((.slice Ao34 t435.length co34) : Value).ownBlock ∧ some k_ ≠ ((.slice Ao34 t435.length co34) : Value).ownBlock ∧ some k_ ≠ ((.slice Ao33 t438.length co33) : Value).ownBlock ∧ some k_ ≠ ((.slice Ao32 t441.length co32) : Value).ownBlock ∧ some k_ ≠ (u448004 : Value).ownBlock ∧ some k_ ≠ (u448005 : Value).ownBlock) (.slice Ao31 t444.length co31) t444) ∧ Aside0 (Kd.R (Kd.int .i64) 3 w' w.heap.size (fun k_ => some k_ ≠ ((.slice Ao34 t435.length co34) : Value).ownBlock ∧ some k_ ≠ ((.slice Ao34 t435.length co34) : Value).ownBlock ∧ some k_ ≠ ((.slice Ao33 t438.length co33) : Value).ownBlock ∧ some k_ ≠ ((.slice Ao32 t441.length co32) : Value).ownBlock ∧ some k_ ≠ ((.slice Ao31 t444.length co31) : Value).ownBlock ∧ some k_ ≠ (u448005 : Value).ownBlock) u448004 x448004_3) ∧ Aside0 (Kd.R (Kd.int .i64) 3 w' w.heap.size (fun k_ => some k_ ≠ ((.slice Ao34 t435.length co34) : Value).ownBlock ∧ some k_ ≠ ((.slice Ao34 t435.length co34) : Value).ownBlock ∧ some k_ ≠ ((.slice Ao33 t438.length co33) : Value).ownBlock ∧ some k_ ≠ ((.slice Ao32 t441.length co32) : Value).ownBlock ∧ some k_ ≠ ((.slice Ao31 t444.length co31) : Value).ownBlock ∧ some k_ ≠ (u448004 : Value).ownBlock) u448005 x448005_2) ∧ Aside0 (Kd.S (Kd.slice 3 (Kd.int .i64)) 30 w' w.heap.size (fun k_ => some k_ ≠ ((.slice Ao34 t435.length co34) : Value).ownBlock ∧ some k_ ≠ ((.slice Ao34 t435.length co34) : Value).ownBlock ∧ some k_ ≠ ((.slice Ao33 t438.length co33) : Value).ownBlock ∧ some k_ ≠ ((.slice Ao32 t441.length co32) : Value).ownBlock ∧ some k_ ≠ ((.slice Ao31 t444.length co31) : Value).ownBlock ∧ some k_ ≠ (u448004 : Value).ownBlock ∧ some k_ ≠ (u448005 : Value).ownBlock) u448006 x448006_3) ∧ Aside0 (w'.heap[gb430]? = some (.cells #[(.slice A2_0 l2_0.length c2_0), (.slice A2_1 l2_1.length c2_1), (.slice A2_2 l2_2.length c2_2)] 38 (0, 0))) ∧ Aside0 (w'.heap[gb431]? = some (.cells #[(.slice none 0 0), (.slice none 0 0), (.slice none 0 0), (.slice none 0 0), (.slice none 0 0), (.slice none 0 0), (.slice none 0 0)] 91 (0, 0))) ∧ Aside0 (w'.heap[gb447]? = some (.cells #[(.slice Ao34 t435.length co34), (.slice Ao33 t438.length co33), (.slice Ao32 t441.length co32), (.slice Ao31 t444.length co31), u448004, u448005, u448006] 91 (0, 0))) ∧ Aside0 (Below w.heap.size w w'))
       case atStart => exact ⟨(0), (([] : List Int)), (([] : List (List Int))), (.slice none 0 0), (.slice none 0 0), z4_, H', ⟨Nat.le_refl _⟩, ⟨z162_⟩, ⟨z162_⟩, ⟨by (with_reducible repeat (first | apply Kd.R_alloc | apply Kd.R_drewN | apply Kd.R_drew)); exact Kd.R_mono HO_448001.out (fun _ hk => ⟨hk.1, ⟨hk.1, ⟨hk.2.1, ⟨hk.2.2.1, ⟨z217_, hk.2.2.2⟩⟩⟩⟩⟩)⟩, ⟨by (with_reducible repeat (first | apply Kd.R_alloc | apply Kd.R_drewN | apply Kd.R_drew)); exact Kd.R_mono HO_448002.out (fun _ hk => ⟨hk.2.1, ⟨hk.2.1, ⟨hk.2.2.1, ⟨hk.2.2.2.1, ⟨z217_, hk.2.2.2.2⟩⟩⟩⟩⟩)⟩, ⟨by (with_reducible repeat (first | apply Kd.R_alloc | apply Kd.R_drewN | apply Kd.R_drew)); exact Kd.R_mono HO_448003.out (fun _ hk => ⟨hk.2.1, ⟨hk.2.1, ⟨hk.2.2.1, ⟨hk.2.2.2.1, ⟨z217_, hk.2.2.2.2⟩⟩⟩⟩⟩)⟩, ⟨z70_⟩, ⟨by (with_reducible repeat (first | apply Kd.R_alloc | apply Kd.R_drewN | apply Kd.R_drew)); exact Kd.R_mono HO_448005.out (fun _ hk => ⟨hk.2.1, ⟨hk.2.1, ⟨hk.2.2.1, ⟨hk.2.2.2.1, ⟨hk.2.2.2.2, z217_⟩⟩⟩⟩⟩)⟩, ⟨z213_⟩, ⟨z17_⟩, ⟨z24_⟩, ⟨z89_⟩, ⟨z13_⟩⟩
       case round =>
        clear H'
        obtain ⟨x64_3, x448004_3, x448006_3, u448004, u448006, rfl, HA, HK3, HO_62, HO_448000, HO_448001, HO_448002, HO_448003, HO_448004, HO_448005, HO_448006, BK430, BK431, BK447, HB⟩ := hrel
        cases gk with
        | zero => exact absurd HA.out (by simp [impl_measureOf.l1])
        | succ k3 =>
         have H := HA.out
         clear HA
         simp only [impl_measureOf.l1] at H
         by_cases c54 : x64_3 < (t435.length : Int)
         ·rw [if_pos c54] at H
          have c54b0 := decide_eq_true c54
          clear c54
          obtain ⟨c55b0, H⟩ := ifd_ H
          obtain ⟨c56b0, H⟩ := ifd_ H
          obtain ⟨c57b0, H⟩ := ifd_ H
          obtain ⟨c58b0, H⟩ := ifd_ H
          obtain ⟨c59b0, H⟩ := ifd_ H
          obtain ⟨c60b0, H⟩ := ifd_ H
          obtain ⟨c61, H⟩ := ifs_ H
          have LMc61 := Aside0.mk c61
          clear c61
          first | ((with_reducible have hz_ := gy_ H); obtain ⟨y457, Ny457, H⟩ := hz_) | (generalize hy_ : ((x448004_3 ++ [rd l2_0 ((rd_T61 l0 (rd t435 x64_3)).f0)]) : List Int) = y457 at H; have Ny457 := Aside0.mk hy_.symm; clear hy_)
          first | ((with_reducible have hz_ := gy_ H); obtain ⟨y460, Ny460, H⟩ := hz_) | (generalize hy_ : ((([] : List Int)) : List Int) = y460 at H; have Ny460 := Aside0.mk hy_.symm; clear hy_)
          have H' := Aside0.mk H
          clear H
          have p454 : 0 ≤ (x64_3 : Int) := odt_
          have q454 : x64_3 < (t435.length : Int) := odt_
          obtain ⟨ad454, e454, hx454_0⟩ := Kd.at_int (Kd.R_reads' HO_62.out).2.2 x64_3 p454 q454
          cases e454
          replace p454 := eq_true p454
          replace q454 := eq_true q454
          try go_wp2
          have n0_ := Aside0.mk (Kd.R_drew HO_62.out)
          have n1_ := Aside0.mk (Kd.R_drew HO_448000.out)
          have n2_ := Aside0.mk (Kd.R_drew HO_448001.out)
          have n3_ := Aside0.mk (Kd.R_drew HO_448002.out)
          have n4_ := Aside0.mk (Kd.R_drew HO_448003.out)
          have n5_ := Aside0.mk (Kd.R_drew HO_448004.out)
          have n6_ := Aside0.mk (Kd.R_drew HO_448005.out)
          have n7_ := Aside0.mk (Kd.S_drew HO_448006.out)
          have n8_ := Aside0.mk (blk_drew BK430.out)
          have n9_ := Aside0.mk (blk_drew BK431.out)
          have n10_ := Aside0.mk (blk_drew BK447.out)
          have n11_ := Aside0.mk (below_drew1 HB.out)
          clear HO_62
          clear HO_448000
          clear HO_448001
          clear HO_448002
          clear HO_448003
          clear HO_448004
          clear HO_448005
          clear HO_448006
          clear BK430
          clear BK431
          clear BK447
          clear HB
          have HO_62 := n0_
          have HO_448000 := n1_
          have HO_448001 := n2_
          have HO_448002 := n3_
          have HO_448003 := n4_
          have HO_448004 := n5_
          have HO_448005 := n6_
          have HO_448006 := n7_
          have BK430 := n8_
          have BK431 := n9_
          have BK447 := n10_
          have HB := n11_
          clear n0_ n1_ n2_ n3_ n4_ n5_ n6_ n7_ n8_ n9_ n10_ n11_
          obtain ⟨p455, q455, ad455, e455, hw455_0, hw455_1, hx455_0, hx455_1⟩ := atw61_ HR0 HB (rd t435 x64_3)
          cases e455
          have p456 : 0 ≤ (((rd_T61 l0 (rd t435 x64_3)).f0) : Int) := odt_
          have q456 : ((rd_T61 l0 (rd t435 x64_3)).f0) < (l2_0.length : Int) := odt_
          obtain ⟨ad456, e456, hx456_0⟩ := Kd.at_int HR2_0.out ((rd_T61 l0 (rd t435 x64_3)).f0) p456 q456
          have hw456_0 := hx456_0
          cases e456
          replace hx456_0 := (HB.out.cell (World.block_lt_of_cell? w _ hx456_0)).trans hx456_0
          replace p456 := eq_true p456
          replace q456 := eq_true q456
          refine start_ (n := 15) (S := fun w' => w'.cell? ⟨gb447, 0, none⟩ = some (.slice (some ad454) t435.length co34) ∧ w'.cell? ⟨gb447, 1, none⟩ = some (.slice Ao33 t438.length co33) ∧ w'.cell? ⟨gb447, 2, none⟩ = some (.slice Ao32 t441.length co32) ∧ w'.cell? ⟨gb447, 3, none⟩ = some (.slice Ao31 t444.length co31) ∧ w'.cell? ⟨gb447, 4, none⟩ = some (u448004) ∧ w'.cell? ⟨gb447, 5, none⟩ = some (u448005) ∧ w'.cell? ⟨gb447, 6, none⟩ = some (u448006) ∧ w'.cell? ⟨gb430, 0, none⟩ = some (.slice (some ad456) l2_0.length c2_0) ∧ w'.cell? ⟨gb430, 1, none⟩ = some (.slice A2_1 l2_1.length c2_1) ∧ w'.cell? ⟨gb430, 2, none⟩ = some (.slice A2_2 l2_2.length c2_2) ∧ w'.cell? (ad455.add (((rd t435 x64_3)).toNat * 2)) = some (.int .i64 ((rd_T61 l0 (rd t435 x64_3)).f0)) ∧ w'.cell? ⟨(ad455.add (((rd t435 x64_3)).toNat * 2)).block, (ad455.add (((rd t435 x64_3)).toNat * 2)).off + 1, none⟩ = some (.int .i64 ((rd_T61 l0 (rd t435 x64_3)).f1)) ∧ w'.cell? (ad456.add (((rd_T61 l0 (rd t435 x64_3)).f0)).toNat) = some (.int .i64 (rd l2_0 ((rd_T61 l0 (rd t435 x64_3)).f0)))) (ds := [14]) (fl_ 15 0) (by kernel_rfl) rfl (fl_zero _) ⟨(blk_cell BK447.out 0).trans rfl, (blk_cell BK447.out 1).trans rfl, (blk_cell BK447.out 2).trans rfl, (blk_cell BK447.out 3).trans rfl, (blk_cell BK447.out 4).trans rfl, (blk_cell BK447.out 5).trans rfl, (blk_cell BK447.out 6).trans rfl, (blk_cell BK430.out 0).trans rfl, (blk_cell BK430.out 1).trans rfl, (blk_cell BK430.out 2).trans rfl, ((HB.out.cell (World.block_lt_of_cell? w _ hw455_0)).trans hw455_0), ((HB.out.cell (World.block_lt_of_cell? w _ hw455_1)).trans hw455_1), ((HB.out.cell (World.block_lt_of_cell? w _ hw456_0)).trans hw456_0)⟩ (fun hHeld => ?_); refine with_tabW impl_measureOf.tab12 impl_measureOf.bits12 (fun HT_ HW_ => ?_)
          generalize wr.drew = w62 at HO_62 HO_448000 HO_448001 HO_448002 HO_448003 HO_448004 HO_448005 HO_448006 BK430 BK431 BK447 HB hx455_0 hx455_1 hx456_0 hHeld ⊢
          refine zp_ HT_ rfl rfl (by kernel_rfl) (fun _ _ _ h => h) (by rfl) ?_
          refine zpg_ (i := 2) (ra_ [1, 1, 1, 12]) HT_ rfl rfl (by kernel_rfl) (fun _ _ _ h => h) (by rfl) ?_
          refine zpg_ (i := 4) (ra_ [1, 1, 1, 1, 1, 10]) HT_ rfl rfl (by kernel_rfl) (fun _ _ _ h => h) (by rfl) ?_
          refine zpg_ (i := 5) (ra_ [1, 1, 1, 1, 2, 9]) HT_ rfl rfl (by kernel_rfl) (fun _ _ _ h => h) (by rfl) ?_
          refine zpg_ (i := 6) (ra_ [1, 1, 1, 1, 3, 8]) HT_ rfl rfl (by kernel_rfl) (fun _ _ _ h => h) (by rfl) ?_
          refine zpg_ (i := 7) (ra_ [1, 1, 1, 1, 4, 7]) HT_ rfl rfl (by kernel_rfl) (fun _ _ _ h => h) (by rfl) ?_
          refine ztg_ (i := 1) (ra_ [3, 1, 4, 7]) HT_ HW_ rfl rfl (by kernel_rfl) (fun _ _ _ h => h) (by rfl) hHeld ?_ z10_
          refine ztg_ (i := 3) (fl_ 15 8) HT_ HW_ rfl rfl (by kernel_rfl) (fun _ _ _ h => h) (by rfl) hHeld ?_ z10_
          refine zt_ HT_ HW_ rfl rfl (by kernel_rfl) (fun _ _ _ h => h) (by rfl) hHeld ?_ z10_
          refine zp_ HT_ rfl rfl (by kernel_rfl) (fun _ _ _ h => h) (by rfl) ?_
          refine zt_ HT_ HW_ rfl rfl (by kernel_rfl) (fun _ _ _ h => h) (by rfl) hHeld ?_ z10_
          refine one_ (i := 11) (N := some 79) (fl_ 15 12) rfl rfl (one_of HT_.out (by kernel_rfl)) (by decide) (fun K hK => ?_)
          refine value_ (w1 := ?_) (v := ?_) (by rfl) rfl ?_ ?_
          rotate_left 2
          ·go_simp
           constructor
           ·rfl
           ·rfl
          refine hK.out _ _ ⟨(blk_cell (blk_alloc BK447.out _) 0).trans rfl, (blk_cell (blk_alloc BK447.out _) 1).trans rfl, (blk_cell (blk_alloc BK447.out _) 2).trans rfl, (blk_cell (blk_alloc BK447.out _) 3).trans rfl, (blk_cell (blk_alloc BK447.out _) 4).trans rfl, (blk_cell (blk_alloc BK447.out _) 5).trans rfl, (blk_cell (blk_alloc BK447.out _) 6).trans rfl, (blk_cell (blk_alloc BK430.out _) 0).trans rfl, (blk_cell (blk_alloc BK430.out _) 1).trans rfl, (blk_cell (blk_alloc BK430.out _) 2).trans rfl, (World.cell?_alloc_lt _ _ _ (World.block_lt_of_cell? _ _ (((HB.out.cell (World.block_lt_of_cell? w _ hw455_0)).trans hw455_0)))).trans (((HB.out.cell (World.block_lt_of_cell? w _ hw455_0)).trans hw455_0)), (World.cell?_alloc_lt _ _ _ (World.block_lt_of_cell? _ _ (((HB.out.cell (World.block_lt_of_cell? w _ hw455_1)).trans hw455_1)))).trans (((HB.out.cell (World.block_lt_of_cell? w _ hw455_1)).trans hw455_1)), (World.cell?_alloc_lt _ _ _ (World.block_lt_of_cell? _ _ (((HB.out.cell (World.block_lt_of_cell? w _ hw456_0)).trans hw456_0)))).trans (((HB.out.cell (World.block_lt_of_cell? w _ hw456_0)).trans hw456_0))⟩ (fun hHeld => ?_)
          clear hK K
          refine zn_ rfl ?_
          refine one_ (i := 12) (N := some 80) (fl_ 15 13) rfl rfl (one_of HT_.out (by kernel_rfl)) (by decide) (fun K hK => ?_)
          refine Kd.R_append_step (Kd.int .i64) (w0 := w) w.heap.size (by rfl) (.tmp 69) (.tmp 79) 30 3 (.int .i64 0) 8 rfl Try.underlying30 info3 rfl (by decide) (by omega) u448004 x448004_3 (rd l2_0 ((rd_T61 l0 (rd t435 x64_3)).f0)) [.int .i64 (rd l2_0 ((rd_T61 l0 (rd t435 x64_3)).f0))] (fun k_ => some k_ ≠ (.slice (some ad454) t435.length co34 : Value).ownBlock ∧ some k_ ≠ (.slice (some ad454) t435.length co34 : Value).ownBlock ∧ some k_ ≠ (.slice Ao33 t438.length co33 : Value).ownBlock ∧ some k_ ≠ (.slice Ao32 t441.length co32 : Value).ownBlock ∧ some k_ ≠ (.slice Ao31 t444.length co31 : Value).ownBlock ∧ some k_ ≠ (u448005 : Value).ownBlock) (fun _ => False) rfl rfl ?aP (fun _ hk => hk.elim) ?aF ?aO ?aB ?aS ?aL ?_
          (case aP => exact rfl)
          (case aB => exact z79_)
          (case aF => exact (fun k_ hk => ⟨Kd.fresh' (Kd.R_lt z168_) k_ hk, Kd.fresh' (Kd.R_lt z133_) k_ hk, Kd.fresh' (Kd.R_lt z134_) k_ hk, Kd.fresh' (Kd.R_lt z135_) k_ hk, Kd.fresh' (Kd.R_lt z136_) k_ hk, Kd.fresh' (Kd.R_lt z137_) k_ hk⟩))
          (case aO => exact z161_)
          (case aS => exact z77_)
          (case aL => have := LMc61.out; omega)
          intro v458 w63 ho hb hg hat
          rw [← Ny457.out] at ho
          have n0_ := Aside0.mk (Kd.R_after (ok := (fun k_ => some k_ ≠ (.slice Ao33 t438.length co33 : Value).ownBlock ∧ some k_ ≠ (.slice Ao32 t441.length co32 : Value).ownBlock ∧ some k_ ≠ (.slice Ao31 t444.length co31 : Value).ownBlock ∧ some k_ ≠ (u448005 : Value).ownBlock)) (by (with_reducible repeat (first | apply Kd.R_alloc | apply Kd.R_drewN | apply Kd.R_drew)); exact Kd.R_mono HO_62.out (fun _ hk => ⟨⟨hk.1, ⟨hk.2.1, ⟨hk.2.2.1, hk.2.2.2.2⟩⟩⟩, hk.2.2.2.1⟩)) hg hat)
          have n1_ := Aside0.mk (Kd.R_after (ok := (fun k_ => some k_ ≠ (.slice Ao33 t438.length co33 : Value).ownBlock ∧ some k_ ≠ (.slice Ao32 t441.length co32 : Value).ownBlock ∧ some k_ ≠ (.slice Ao31 t444.length co31 : Value).ownBlock ∧ some k_ ≠ (u448005 : Value).ownBlock)) (by (with_reducible repeat (first | apply Kd.R_alloc | apply Kd.R_drewN | apply Kd.R_drew)); exact Kd.R_mono HO_448000.out (fun _ hk => ⟨⟨hk.1, ⟨hk.2.1, ⟨hk.2.2.1, hk.2.2.2.2⟩⟩⟩, hk.2.2.2.1⟩)) hg hat)
          have n2_ := Aside0.mk (Kd.R_after (ok := (fun k_ => some k_ ≠ (.slice (some ad454) t435.length co34 : Value).ownBlock ∧ some k_ ≠ (.slice (some ad454) t435.length co34 : Value).ownBlock ∧ some k_ ≠ (.slice Ao32 t441.length co32 : Value).ownBlock ∧ some k_ ≠ (.slice Ao31 t444.length co31 : Value).ownBlock ∧ some k_ ≠ (u448005 : Value).ownBlock)) (by (with_reducible repeat (first | apply Kd.R_alloc | apply Kd.R_drewN | apply Kd.R_drew)); exact Kd.R_mono HO_448001.out (fun _ hk => ⟨⟨hk.1, ⟨hk.2.1, ⟨hk.2.2.1, ⟨hk.2.2.2.1, hk.2.2.2.2.2⟩⟩⟩⟩, hk.2.2.2.2.1⟩)) hg hat)
          have n3_ := Aside0.mk (Kd.R_after (ok := (fun k_ => some k_ ≠ (.slice (some ad454) t435.length co34 : Value).ownBlock ∧ some k_ ≠ (.slice (some ad454) t435.length co34 : Value).ownBlock ∧ some k_ ≠ (.slice Ao33 t438.length co33 : Value).ownBlock ∧ some k_ ≠ (.slice Ao31 t444.length co31 : Value).ownBlock ∧ some k_ ≠ (u448005 : Value).ownBlock)) (by (with_reducible repeat (first | apply Kd.R_alloc | apply Kd.R_drewN | apply Kd.R_drew)); exact Kd.R_mono HO_448002.out (fun _ hk => ⟨⟨hk.1, ⟨hk.2.1, ⟨hk.2.2.1, ⟨hk.2.2.2.1, hk.2.2.2.2.2⟩⟩⟩⟩, hk.2.2.2.2.1⟩)) hg hat)
          have n4_ := Aside0.mk (Kd.R_after (ok := (fun k_ => some k_ ≠ (.slice (some ad454) t435.length co34 : Value).ownBlock ∧ some k_ ≠ (.slice (some ad454) t435.length co34 : Value).ownBlock ∧ some k_ ≠ (.slice Ao33 t438.length co33 : Value).ownBlock ∧ some k_ ≠ (.slice Ao32 t441.length co32 : Value).ownBlock ∧ some k_ ≠ (u448005 : Value).ownBlock)) (by (with_reducible repeat (first | apply Kd.R_alloc | apply Kd.R_drewN | apply Kd.R_drew)); exact Kd.R_mono HO_448003.out (fun _ hk => ⟨⟨hk.1, ⟨hk.2.1, ⟨hk.2.2.1, ⟨hk.2.2.2.1, hk.2.2.2.2.2⟩⟩⟩⟩, hk.2.2.2.2.1⟩)) hg hat)
          have n5_ := Aside0.mk (Kd.R_after (ok := (fun k_ => some k_ ≠ (.slice (some ad454) t435.length co34 : Value).ownBlock ∧ some k_ ≠ (.slice (some ad454) t435.length co34 : Value).ownBlock ∧ some k_ ≠ (.slice Ao33 t438.length co33 : Value).ownBlock ∧ some k_ ≠ (.slice Ao32 t441.length co32 : Value).ownBlock ∧ some k_ ≠ (.slice Ao31 t444.length co31 : Value).ownBlock)) (by (with_reducible repeat (first | apply Kd.R_alloc | apply Kd.R_drewN | apply Kd.R_drew)); exact Kd.R_mono HO_448005.out (fun _ hk => ⟨⟨hk.1, ⟨hk.2.1, ⟨hk.2.2.1, ⟨hk.2.2.2.1, hk.2.2.2.2.1⟩⟩⟩⟩, hk.2.2.2.2.2⟩)) hg hat)
          have n6_ := Aside0.mk (Kd.S_after (ok := (fun k_ => some k_ ≠ (.slice (some ad454) t435.length co34 : Value).ownBlock ∧ some k_ ≠ (.slice (some ad454) t435.length co34 : Value).ownBlock ∧ some k_ ≠ (.slice Ao33 t438.length co33 : Value).ownBlock ∧ some k_ ≠ (.slice Ao32 t441.length co32 : Value).ownBlock ∧ some k_ ≠ (.slice Ao31 t444.length co31 : Value).ownBlock ∧ some k_ ≠ (u448005 : Value).ownBlock)) (by (with_reducible repeat (first | apply Kd.S_alloc | apply Kd.S_drewN | apply Kd.S_drew)); exact Kd.S_mono HO_448006.out (fun _ hk => ⟨⟨hk.1, ⟨hk.2.1, ⟨hk.2.2.1, ⟨hk.2.2.2.1, ⟨hk.2.2.2.2.1, hk.2.2.2.2.2.2⟩⟩⟩⟩⟩, hk.2.2.2.2.2.1⟩)) hg hat)
          have n7_ := Aside0.mk (blk_grown z17_ hg (Kd.R_ne HO_448004.out BK430.out (by decide)))
          have n8_ := Aside0.mk (blk_grown z24_ hg (Kd.R_ne HO_448004.out BK431.out (by decide)))
          have n9_ := Aside0.mk (blk_grown z89_ hg (Kd.R_ne HO_448004.out BK447.out (by decide)))
          have n10_ := Aside0.mk (hb)
          have n11_ := Aside0.mk (ho)
          clear HO_62
          clear HO_448000
          clear HO_448001
          clear HO_448002
          clear HO_448003
          clear HO_448005
          clear HO_448006
          clear BK430
          clear BK431
          clear BK447
          clear HB
          clear HO_448004
          have HO_62 := n0_
          have HO_448000 := n1_
          have HO_448001 := n2_
          have HO_448002 := n3_
          have HO_448003 := n4_
          have HO_448005 := n5_
          have HO_448006 := n6_
          have BK430 := n7_
          have BK431 := n8_
          have BK447 := n9_
          have HB := n10_
          have HO459 := n11_
          clear n0_ n1_ n2_ n3_ n4_ n5_ n6_ n7_ n8_ n9_ n10_ n11_
          clear ho hb hg hat
          obtain ⟨Ao64, co64, eo64⟩ := Kd.R_slice HO459.out
          (first | subst eo64 | (injection eo64 with f1_ f2_ f3_; have f4_ := f1_.symm; have f5_ := f3_.symm; clear f1_ f2_ f3_; subst f4_; subst f5_))
          refine hK.out _ _ ⟨(blk_cell BK447.out 0).trans rfl, (blk_cell BK447.out 1).trans rfl, (blk_cell BK447.out 2).trans rfl, (blk_cell BK447.out 3).trans rfl, (blk_cell BK447.out 4).trans rfl, (blk_cell BK447.out 5).trans rfl, (blk_cell BK447.out 6).trans rfl, (blk_cell BK430.out 0).trans rfl, (blk_cell BK430.out 1).trans rfl, (blk_cell BK430.out 2).trans rfl, ((HB.out.cell (World.block_lt_of_cell? w _ hw455_0)).trans hw455_0), ((HB.out.cell (World.block_lt_of_cell? w _ hw455_1)).trans hw455_1), ((HB.out.cell (World.block_lt_of_cell? w _ hw456_0)).trans hw456_0)⟩ (fun hHeld => ?_)
          clear hK K
          refine zn_ rfl ?_
          refine zp_ HT_ rfl rfl (by kernel_rfl) (fun _ _ _ h => h) (by rfl) ?_
          refine last_ (i := 14) (N := none) (fl_ 15 15) rfl rfl (one_of HT_.out (by kernel_rfl)) (by decide) (fun K hK => ?_)
          have hs65 : w63.cell? ⟨gb447, 4, none⟩ = some (u448004) := (blk_cell BK447.out 4).trans rfl
          have hfs65 := blk_frozen BK447.out 4
          have hns65_0 := NB430_447.out
          have hns65_1 := NB431_447.out
          have hms65_0 := NB447_430.out
          have hms65_1 := NB447_431.out
          refine skip_ (w1 := ?_) (by rfl) rfl ?_ ?_
          rotate_left
          ·go_simp
           rfl
          refine hK.out _ _ ?_
          clear hK K
          refine done_ (done_of HT_.out (by kernel_rfl)) ?_
          try go_wp2_with (first | ((with_reducible refine gate_dst (N := 82) rfl ?_); refine Kd.R_lit (Kd.int .i64) _ 3 ?hg (N := 82) ?hd (xs := ([] : List Int)) (inner := []) (ok := fun _ => True) (okp := fun _ => True) ?hr ?hp (fun _ hk => hk) trivial (Below.refl _ _) (Nat.le_refl _) (by simp) ?_; (case hd => rfl); (case hg => rfl); (case hr => exact z9_); (case hp => exact z199_); intro v461 w66 ho67 hb hg_ hnew_; clear hg_ hnew_; (first | rw [← Ny460.out] at ho67 | (simp only [Int.reduceToNat] at ho67; rw [← Ny460.out] at ho67)); replace HO_448006 := Aside0.mk (Kd.S_elder' (by (with_reducible repeat (first | apply Kd.S_alloc | apply Kd.S_drewN | apply Kd.S_drew)); exact (Kd.S_mono (Kd.S_far (p := ⟨gb447, 4, none⟩) (Kd.S_types HO_448006.out BK447.out (by decide)) (fun _ hk => hk.2) (.slice Ao64 y457.length co64)) (fun _ h_ => h_.1))) (Kd.R_base ho67) hb); have HO462 := Aside0.mk (Kd.R_lower (Kd.R_new' (Kd.R_new' (Kd.R_new' (Kd.R_new' (Kd.R_new' (Kd.R_new' (Kd.R_new' ho67 (Kd.R_lt z147_)) (Kd.R_lt z139_)) (Kd.R_lt z140_)) (Kd.R_lt z141_)) (Kd.R_lt z142_)) (Kd.R_lt z143_)) (Kd.R_lt z148_)) (below_size z13_)); replace HO_62 := Aside0.mk (Kd.R_elder' z147_ (Kd.R_base ho67) hb); replace HO_448000 := Aside0.mk (Kd.R_elder' z139_ (Kd.R_base ho67) hb); replace HO_448001 := Aside0.mk (Kd.R_elder' z140_ (Kd.R_base ho67) hb); replace HO_448002 := Aside0.mk (Kd.R_elder' z141_ (Kd.R_base ho67) hb); replace HO_448003 := Aside0.mk (Kd.R_elder' z142_ (Kd.R_base ho67) hb); replace HO_448005 := Aside0.mk (Kd.R_elder' z143_ (Kd.R_base ho67) hb); replace HO459 := Aside0.mk (Kd.R_elder' z148_ (Kd.R_base ho67) hb); replace BK430 := Aside0.mk (blk_below (g := gb430) (o := .cells #[.slice (some ad456) l2_0.length c2_0, .slice A2_1 l2_1.length c2_1, .slice A2_2 l2_2.length c2_2] 38 (0, 0)) z91_ hb); replace BK431 := Aside0.mk (blk_below (g := gb431) (o := .cells #[.slice none 0 0, .slice none 0 0, .slice none 0 0, .slice none 0 0, .slice none 0 0, .slice none 0 0, .slice none 0 0] 91 (0, 0)) z92_ hb); replace BK447 := Aside0.mk (blk_below (g := gb447) (o := .cells #[.slice (some ad454) t435.length co34, .slice Ao33 t438.length co33, .slice Ao32 t441.length co32, .slice Ao31 t444.length co31, .slice Ao64 y457.length co64, u448005, u448006] 91 (0, 0)) (by (with_reducible repeat (first | refine blk_drewN ?_ _ | refine blk_drew ?_ | refine blk_alloc ?_ _)); refine blk_put (cs := #[.slice (some ad454) t435.length co34, .slice Ao33 t438.length co33, .slice Ao32 t441.length co32, .slice Ao31 t444.length co31, u448004, u448005, u448006]) ?_ 4 _ rfl; (with_reducible repeat (first | refine blk_drewN ?_ _ | refine blk_drew ?_ | refine blk_alloc ?_ _)); exact BK447.out) hb); replace HB := Aside0.mk (below_step z13_ hb); clear hb ho67; have hnb68 := NB447_430.out; have hnc68 := NB430_447.out; have hnb69 := NB447_431.out; have hnc69 := NB431_447.out; obtain ⟨hcz70_0, hcz70_1, hcz70_2, hcz70_3, hcz70_4, hcz70_5, hcz70_6, hfz70_0, hfz70_1, hfz70_2, hfz70_3, hfz70_4, hfz70_5, hfz70_6⟩ := bx7_ BK447.out))
          go_loopg [13, 86] k3 (fun kq v13 v86 w' => ∃ (x13_4 : List Int) (x86_4 : Int), v86 = .int .i64 x86_4 ∧ Aside0 (impl_measureOf.l2 kq l0 l1 (rd t435 x64_3) x13_4 t435 (t435.length : Int) x64_3 t438 (t438.length : Int) x86_4 l2_0 l2_1 l2_2 t435 t438 t441 t444 y457 x448005_2 x448006_3 = some (r1, r2, r3, r4, r5, r6, r7, r8)) ∧ Aside0 (kq ≤ k3) ∧ Aside0 (Kd.R (Kd.int .i64) 3 w' w.heap.size (fun k_ => some k_ ≠ ((.slice (some ad454) t435.length co34) : Value).ownBlock ∧ some k_ ≠ ((.slice Ao33 t438.length co33) : Value).ownBlock ∧ some k_ ≠ ((.slice (some ad454) t435.length co34) : Value).ownBlock ∧ some k_ ≠ ((.slice Ao33 t438.length co33) : Value).ownBlock ∧ some k_ ≠ ((.slice Ao32 t441.length co32) : Value).ownBlock ∧ some k_ ≠ ((.slice Ao31 t444.length co31) : Value).ownBlock ∧ some k_ ≠ ((.slice Ao64 y457.length co64) : Value).ownBlock ∧ some k_ ≠ (u448005 : Value).ownBlock) v13 x13_4) ∧ Aside0 (Kd.R (Kd.int .i64) 3 w' w.heap.size (fun k_ => some k_ ≠ (v13 : Value).ownBlock ∧ some k_ ≠ ((.slice Ao33 t438.length co33) : Value).ownBlock ∧ some k_ ≠ ((.slice Ao33 t438.length co33) : Value).ownBlock ∧ some k_ ≠ ((.slice Ao32 t441.length co32) : Value).ownBlock ∧ some k_ ≠ ((.slice Ao31 t444.length co31) : Value).ownBlock ∧ some k_ ≠ ((.slice Ao64 y457.length co64) : Value).ownBlock ∧ some k_ ≠ (u448005 : Value).ownBlock) (.slice (some ad454) t435.length co34) t435) ∧ Aside0 (Kd.R (Kd.int .i64) 3 w' w.heap.size (fun k_ => some k_ ≠ (v13 : Value).ownBlock ∧ some k_ ≠ ((.slice (some ad454) t435.length co34) : Value).ownBlock ∧ some k_ ≠ ((.slice (some ad454) t435.length co34) : Value).ownBlock ∧ some k_ ≠ ((.slice Ao32 t441.length co32) : Value).ownBlock ∧ some k_ ≠ ((.slice Ao31 t444.length co31) : Value).ownBlock ∧ some k_ ≠ ((.slice Ao64 y457.length co64) : Value).ownBlock ∧ some k_ ≠ (u448005 : Value).ownBlock) (.slice Ao33 t438.length co33) t438) ∧ Aside0 (Kd.R (Kd.int .i64) 3 w' w.heap.size (fun k_ => some k_ ≠ (v13 : Value).ownBlock ∧ some k_ ≠ ((.slice Ao33 t438.length co33) : Value).ownBlock ∧ some k_ ≠ ((.slice Ao33 t438.length co33) : Value).ownBlock ∧ some k_ ≠ ((.slice Ao32 t441.length co32) : Value).ownBlock ∧ some k_ ≠ ((.slice Ao31 t444.length co31) : Value).ownBlock ∧ some k_ ≠ ((.slice Ao64 y457.length co64) : Value).ownBlock ∧ some k_ ≠ (u448005 : Value).ownBlock) (.slice (some ad454) t435.length co34) t435) ∧ Aside0 (Kd.R (Kd.int .i64) 3 w' w.heap.size (fun k_ => some k_ ≠ (v13 : Value).ownBlock ∧ some k_ ≠ ((.slice (some ad454) t435.length co34) : Value).ownBlock ∧ some k_ ≠ ((.slice (some ad454) t435.length co34) : Value).ownBlock ∧ some k_ ≠ ((.slice Ao32 t441.length co32) : Value).ownBlock ∧ some k_ ≠ ((.slice Ao31 t444.length co31) : Value).ownBlock ∧ some k_ ≠ ((.slice Ao64 y457.length co64) : Value).ownBlock ∧ some k_ ≠ (u448005 : Value).ownBlock) (.slice Ao33 t438.length co33) t438) ∧ Aside0 (Kd.R (Kd.int .i64) 3 w' w.heap.size (fun k_ => some k_ ≠ (v13 : Value).ownBlock ∧ some k_ ≠ ((.slice (some ad454) t435.length co34) : Value).ownBlock ∧ some k_ ≠ ((.slice Ao33 t438.length co33) : Value).ownBlock ∧ some k_ ≠ ((.slice (some ad454) t435.length co34) : Value).ownBlock ∧ some k_ ≠ ((.slice Ao33 t438.length co33) : Value).ownBlock ∧ some k_ ≠ ((.slice Ao31 t444.length co31) : Value).ownBlock ∧ some k_ ≠ ((.slice Ao64 y457.length co64) : Value).ownBlock ∧ some k_ ≠ (u448005 : Value).ownBlock) (.slice Ao32 t441.length co32) t441) ∧ Aside0 (Kd.R (Kd.int .i64) 3 w' w.heap.size (fun k_ => some k_ ≠ (v13 : Value).ownBlock ∧ some k_ ≠ ((.slice (some ad454) t435.length co34) : Value).ownBlock ∧ some k_ ≠ ((.slice Ao33 t438.length co33) : Value).ownBlock ∧ some k_ ≠ ((.slice (some ad454) t435.length co34) : Value).ownBlock ∧ some k_ ≠ ((.slice Ao33 t438.length co33) : Value).ownBlock ∧ some k_ ≠ ((.slice Ao32 t441.length co32) : Value).ownBlock ∧ some k_ ≠ ((.slice Ao64 y457.length co64) : Value).ownBlock ∧ some k_ ≠ (u448005 : Value).ownBlock) (.slice Ao31 t444.length co31) t444) ∧ Aside0 (Kd.R (Kd.int .i64) 3 w' w.heap.size (fun k_ => some k_ ≠ (v13 : Value).ownBlock ∧ some k_ ≠ ((.slice (some ad454) t435.length co34) : Value).ownBlock ∧ some k_ ≠ ((.slice Ao33 t438.length co33) : Value).ownBlock ∧ some k_ ≠ ((.slice (some ad454) t435.length co34) : Value).ownBlock ∧ some k_ ≠ ((.slice Ao33 t438.length co33) : Value).ownBlock ∧ some k_ ≠ ((.slice Ao32 t441.length co32) : Value).ownBlock ∧ some k_ ≠ ((.slice Ao31 t444.length co31) : Value).ownBlock ∧ some k_ ≠ (u448005 : Value).ownBlock) (.slice Ao64 y457.length co64) y457) ∧ Aside0 (Kd.R (Kd.int .i64) 3 w' w.heap.size (fun k_ => some k_ ≠ (v13 : Value).ownBlock ∧ some k_ ≠ ((.slice (some ad454) t435.length co34) : Value).ownBlock ∧ some k_ ≠ ((.slice Ao33 t438.length co33) : Value).ownBlock ∧ some k_ ≠ ((.slice (some ad454) t435.length co34) : Value).ownBlock ∧ some k_ ≠ ((.slice Ao33 t438.length co33) : Value).ownBlock ∧ some k_ ≠ ((.slice Ao32 t441.length co32) : Value).ownBlock ∧ some k_ ≠ ((.slice Ao31 t444.length co31) : Value).ownBlock ∧ some k_ ≠ ((.slice Ao64 y457.length co64) : Value).ownBlock) u448005 x448005_2) ∧ Aside0 (Kd.S (Kd.slice 3 (Kd.int .i64)) 30 w' w.heap.size (fun k_ => some k_ ≠ (v13 : Value).ownBlock ∧ some k_ ≠ ((.slice (some ad454) t435.length co34) : Value).ownBlock ∧ some k_ ≠ ((.slice Ao33 t438.length co33) : Value).ownBlock ∧ some k_ ≠ ((.slice (some ad454) t435.length co34) : Value).ownBlock ∧ some k_ ≠ ((.slice Ao33 t438.length co33) : Value).ownBlock ∧ some k_ ≠ ((.slice Ao32 t441.length co32) : Value).ownBlock ∧ some k_ ≠ ((.slice Ao31 t444.length co31) : Value).ownBlock ∧ some k_ ≠ ((.slice Ao64 y457.length co64) : Value).ownBlock ∧ some k_ ≠ (u448005 : Value).ownBlock) u448006 x448006_3) ∧ Aside0 (w'.heap[gb430]? = some (.cells #[(.slice (some ad456) l2_0.length c2_0), (.slice A2_1 l2_1.length c2_1), (.slice A2_2 l2_2.length c2_2)] 38 (0, 0))) ∧ Aside0 (w'.heap[gb431]? = some (.cells #[(.slice none 0 0), (.slice none 0 0), (.slice none 0 0), (.slice none 0 0), (.slice none 0 0), (.slice none 0 0), (.slice none 0 0)] 91 (0, 0))) ∧ Aside0 (w'.heap[gb447]? = some (.cells #[(.slice (some ad454) t435.length co34), (.slice Ao33 t438.length co33), (.slice Ao32 t441.length co32), (.slice Ao31 t444.length co31), (.slice Ao64 y457.length co64), u448005, u448006] 91 (0, 0))) ∧ Aside0 (Below w.heap.size w w'))
          case atStart => exact ⟨(y460), (0), z4_, H', ⟨Nat.le_refl _⟩, ⟨by (with_reducible repeat (first | apply Kd.R_alloc | apply Kd.R_drewN | apply Kd.R_drew)); exact Kd.R_mono HO462.out (fun _ hk => ⟨hk.1.1.1.1.1.1.2, ⟨hk.1.1.1.1.2, ⟨hk.1.1.1.1.1.2, ⟨hk.1.1.1.1.2, ⟨hk.1.1.1.2, ⟨hk.1.1.2, ⟨hk.2, hk.1.2⟩⟩⟩⟩⟩⟩⟩)⟩, ⟨by (with_reducible repeat (first | apply Kd.R_alloc | apply Kd.R_drewN | apply Kd.R_drew)); exact Kd.R_mono HO_62.out (fun _ hk => ⟨hk.2, ⟨hk.1.1.1, ⟨hk.1.1.1, ⟨hk.1.1.2.1, ⟨hk.1.1.2.2.1, ⟨hk.1.2, hk.1.1.2.2.2⟩⟩⟩⟩⟩⟩)⟩, ⟨z160_⟩, ⟨by (with_reducible repeat (first | apply Kd.R_alloc | apply Kd.R_drewN | apply Kd.R_drew)); exact Kd.R_mono HO_448000.out (fun _ hk => ⟨hk.2, ⟨hk.1.1.1, ⟨hk.1.1.1, ⟨hk.1.1.2.1, ⟨hk.1.1.2.2.1, ⟨hk.1.2, hk.1.1.2.2.2⟩⟩⟩⟩⟩⟩)⟩, ⟨z160_⟩, ⟨by (with_reducible repeat (first | apply Kd.R_alloc | apply Kd.R_drewN | apply Kd.R_drew)); exact Kd.R_mono HO_448002.out (fun _ hk => ⟨hk.2, ⟨hk.1.1.1, ⟨hk.1.1.2.2.1, ⟨hk.1.1.2.1, ⟨hk.1.1.2.2.1, ⟨hk.1.1.2.2.2.1, ⟨hk.1.2, hk.1.1.2.2.2.2⟩⟩⟩⟩⟩⟩⟩)⟩, ⟨by (with_reducible repeat (first | apply Kd.R_alloc | apply Kd.R_drewN | apply Kd.R_drew)); exact Kd.R_mono HO_448003.out (fun _ hk => ⟨hk.2, ⟨hk.1.1.1, ⟨hk.1.1.2.2.1, ⟨hk.1.1.2.1, ⟨hk.1.1.2.2.1, ⟨hk.1.1.2.2.2.1, ⟨hk.1.2, hk.1.1.2.2.2.2⟩⟩⟩⟩⟩⟩⟩)⟩, ⟨by (with_reducible repeat (first | apply Kd.R_alloc | apply Kd.R_drewN | apply Kd.R_drew)); exact Kd.R_mono HO459.out (fun _ hk => ⟨hk.2, ⟨hk.1.1, ⟨hk.1.2.2.1, ⟨hk.1.2.1, ⟨hk.1.2.2.1, ⟨hk.1.2.2.2.1, ⟨hk.1.2.2.2.2.1, hk.1.2.2.2.2.2⟩⟩⟩⟩⟩⟩⟩)⟩, ⟨by (with_reducible repeat (first | apply Kd.R_alloc | apply Kd.R_drewN | apply Kd.R_drew)); exact Kd.R_mono HO_448005.out (fun _ hk => ⟨hk.2, ⟨hk.1.1.1, ⟨hk.1.1.2.2.1, ⟨hk.1.1.2.1, ⟨hk.1.1.2.2.1, ⟨hk.1.1.2.2.2.1, ⟨hk.1.1.2.2.2.2, hk.1.2⟩⟩⟩⟩⟩⟩⟩)⟩, ⟨by (with_reducible repeat (first | apply Kd.S_alloc | apply Kd.S_drewN | apply Kd.S_drew)); exact Kd.S_mono HO_448006.out (fun _ hk => ⟨hk.2, ⟨hk.1.1.1, ⟨hk.1.1.2.2.1, ⟨hk.1.1.2.1, ⟨hk.1.1.2.2.1, ⟨hk.1.1.2.2.2.1, ⟨hk.1.1.2.2.2.2.1, ⟨hk.1.2, hk.1.1.2.2.2.2.2⟩⟩⟩⟩⟩⟩⟩⟩)⟩, ⟨z17_⟩, ⟨z24_⟩, ⟨z89_⟩, ⟨z13_⟩⟩
          case round =>
           clear H'
           obtain ⟨x13_4, x86_4, rfl, HA, HK4, HO_13, HO_62, HO_84, HO_448000, HO_448001, HO_448002, HO_448003, HO_448004, HO_448005, HO_448006, BK430, BK431, BK447, HB⟩ := hrel
           cases gk with
           | zero => exact absurd HA.out (by simp [impl_measureOf.l2])
           | succ k4 =>
            have H := HA.out
            clear HA
            simp only [impl_measureOf.l2] at H
            by_cases c71 : x86_4 < (t438.length : Int)
            ·rw [if_pos c71] at H
             have c71b0 := decide_eq_true c71
             clear c71
             obtain ⟨c72b0, H⟩ := ifd_ H
             obtain ⟨c73b0, H⟩ := ifd_ H
             obtain ⟨c74b0, H⟩ := ifd_ H
             obtain ⟨c75b0, H⟩ := ifd_ H
             obtain ⟨c76b0, H⟩ := ifd_ H
             obtain ⟨c77b0, H⟩ := ifd_ H
             obtain ⟨ji78, hji78⟩ : ∃ j_ : Int, (wrap64 ((wrap64 (((rd_T61 l0 (rd t435 x64_3)).f0) * 6)) + ((rd_T61 l1 (rd t438 x86_4)).f0))) = j_ := ⟨_, rfl⟩
             first | rw [hji78] at H | simp only [hji78] at H
             have hji78w : (IntKind.i64.wrap ((wrap64 (((rd_T61 l0 (rd t435 x64_3)).f0) * 6)) + ((rd_T61 l1 (rd t438 x86_4)).f0))) = ji78 := (i64_w _).trans hji78
             obtain ⟨c79b0, H⟩ := ifd_ H
             obtain ⟨c80b0, H⟩ := ifd_ H
             obtain ⟨c81, H⟩ := ifs_ H
             have LMc81 := Aside0.mk c81
             clear c81
             first | ((with_reducible have hz_ := gy_ H); obtain ⟨y467, Ny467, H⟩ := hz_) | (generalize hy_ : ((x13_4 ++ [rd l2_2 (ji78)]) : List Int) = y467 at H; have Ny467 := Aside0.mk hy_.symm; clear hy_)
             have H' := Aside0.mk H
             clear H
             have p463 : 0 ≤ (x86_4 : Int) := odt_
             have q463 : x86_4 < (t438.length : Int) := odt_
             obtain ⟨ad463, e463, hx463_0⟩ := Kd.at_int (Kd.R_reads' HO_84.out).2.2 x86_4 p463 q463
             cases e463
             replace p463 := eq_true p463
             replace q463 := eq_true q463
             try go_wp2
             have n0_ := Aside0.mk (Kd.R_drew HO_13.out)
             have n1_ := Aside0.mk (Kd.R_drew HO_62.out)
             have n2_ := Aside0.mk (Kd.R_drew HO_84.out)
             have n3_ := Aside0.mk (Kd.R_drew HO_448000.out)
             have n4_ := Aside0.mk (Kd.R_drew HO_448001.out)
             have n5_ := Aside0.mk (Kd.R_drew HO_448002.out)
             have n6_ := Aside0.mk (Kd.R_drew HO_448003.out)
             have n7_ := Aside0.mk (Kd.R_drew HO_448004.out)
             have n8_ := Aside0.mk (Kd.R_drew HO_448005.out)
             have n9_ := Aside0.mk (Kd.S_drew HO_448006.out)
             have n10_ := Aside0.mk (blk_drew BK430.out)
             have n11_ := Aside0.mk (blk_drew BK431.out)
             have n12_ := Aside0.mk (blk_drew BK447.out)
             have n13_ := Aside0.mk (below_drew1 HB.out)
             clear HO_13
             clear HO_62
             clear HO_84
             clear HO_448000
             clear HO_448001
             clear HO_448002
             clear HO_448003
             clear HO_448004
             clear HO_448005
             clear HO_448006
             clear BK430
             clear BK431
             clear BK447
             clear HB
             have HO_13 := n0_
             have HO_62 := n1_
             have HO_84 := n2_
             have HO_448000 := n3_
             have HO_448001 := n4_
             have HO_448002 := n5_
             have HO_448003 := n6_
             have HO_448004 := n7_
             have HO_448005 := n8_
             have HO_448006 := n9_
             have BK430 := n10_
             have BK431 := n11_
             have BK447 := n12_
             have HB := n13_
             clear n0_ n1_ n2_ n3_ n4_ n5_ n6_ n7_ n8_ n9_ n10_ n11_ n12_ n13_
             obtain ⟨p464, q464, ad464, e464, hw464_0, hw464_1, hx464_0, hx464_1⟩ := atw61_ HR0 HB (rd t435 x64_3)
             obtain rfl : ad455 = ad464 := (by injection e464)
             obtain ⟨p465, q465, ad465, e465, hw465_0, hw465_1, hx465_0, hx465_1⟩ := atw61_ HR1 HB (rd t438 x86_4)
             cases e465
             have p466 : 0 ≤ ((ji78) : Int) := odt_
             have q466 : (ji78) < (l2_2.length : Int) := odt_
             obtain ⟨ad466, e466, hx466_0⟩ := Kd.at_int HR2_2.out (ji78) p466 q466
             have hw466_0 := hx466_0
             cases e466
             replace hx466_0 := (HB.out.cell (World.block_lt_of_cell? w _ hx466_0)).trans hx466_0
             replace p466 := eq_true p466
             replace q466 := eq_true q466
             refine start_ (n := 20) (S := fun w' => w'.cell? ⟨gb430, 0, none⟩ = some (.slice (some ad456) l2_0.length c2_0) ∧ w'.cell? ⟨gb430, 1, none⟩ = some (.slice A2_1 l2_1.length c2_1) ∧ w'.cell? ⟨gb430, 2, none⟩ = some (.slice (some ad466) l2_2.length c2_2) ∧ w'.cell? (ad455.add (((rd t435 x64_3)).toNat * 2)) = some (.int .i64 ((rd_T61 l0 (rd t435 x64_3)).f0)) ∧ w'.cell? ⟨(ad455.add (((rd t435 x64_3)).toNat * 2)).block, (ad455.add (((rd t435 x64_3)).toNat * 2)).off + 1, none⟩ = some (.int .i64 ((rd_T61 l0 (rd t435 x64_3)).f1)) ∧ w'.cell? (ad465.add (((rd t438 x86_4)).toNat * 2)) = some (.int .i64 ((rd_T61 l1 (rd t438 x86_4)).f0)) ∧ w'.cell? ⟨(ad465.add (((rd t438 x86_4)).toNat * 2)).block, (ad465.add (((rd t438 x86_4)).toNat * 2)).off + 1, none⟩ = some (.int .i64 ((rd_T61 l1 (rd t438 x86_4)).f1)) ∧ w'.cell? (ad466.add ((ji78)).toNat) = some (.int .i64 (rd l2_2 (ji78)))) (ds := []) (fl_ 20 0) (by kernel_rfl) rfl (fl_zero _) ⟨(blk_cell BK430.out 0).trans rfl, (blk_cell BK430.out 1).trans rfl, (blk_cell BK430.out 2).trans rfl, ((HB.out.cell (World.block_lt_of_cell? w _ hw464_0)).trans hw464_0), ((HB.out.cell (World.block_lt_of_cell? w _ hw464_1)).trans hw464_1), ((HB.out.cell (World.block_lt_of_cell? w _ hw465_0)).trans hw465_0), ((HB.out.cell (World.block_lt_of_cell? w _ hw465_1)).trans hw465_1), ((HB.out.cell (World.block_lt_of_cell? w _ hw466_0)).trans hw466_0)⟩ (fun hHeld => ?_); refine with_tabW impl_measureOf.tab17 impl_measureOf.bits17 (fun HT_ HW_ => ?_)
             generalize wr.drew = w82 at HO_13 HO_62 HO_84 HO_448000 HO_448001 HO_448002 HO_448003 HO_448004 HO_448005 HO_448006 BK430 BK431 BK447 HB hx464_0 hx464_1 hx465_0 hx465_1 hx466_0 hHeld ⊢
             iterate 2 refine zp_ HT_ rfl rfl (by kernel_rfl) (fun _ _ _ h => h) (by rfl) ?_
             refine zpg_ (i := 3) (ra_ [2, 1, 1, 16]) HT_ rfl rfl (by kernel_rfl) (fun _ _ _ h => h) (by rfl) ?_
             refine zpg_ (i := 4) (ra_ [2, 1, 2, 15]) HT_ rfl rfl (by kernel_rfl) (fun _ _ _ h => h) (by rfl) ?_
             refine zpg_ (i := 5) (ra_ [2, 1, 3, 14]) HT_ rfl rfl (by kernel_rfl) (fun _ _ _ h => h) (by rfl) ?_
             refine zpg_ (i := 6) (ra_ [2, 1, 4, 13]) HT_ rfl rfl (by kernel_rfl) (fun _ _ _ h => h) (by rfl) ?_
             refine zpg_ (i := 9) (ra_ [2, 1, 4, 2, 1, 10]) HT_ rfl rfl (by kernel_rfl) (fun _ _ _ h => h) (by rfl) ?_
             refine zpg_ (i := 10) (ra_ [2, 1, 4, 2, 2, 9]) HT_ rfl rfl (by kernel_rfl) (fun _ _ _ h => h) (by rfl) ?_
             refine zpg_ (i := 11) (ra_ [2, 1, 4, 2, 3, 8]) HT_ rfl rfl (by kernel_rfl) (fun _ _ _ h => h) (by rfl) ?_
             refine zpg_ (i := 12) (ra_ [2, 1, 4, 2, 4, 7]) HT_ rfl rfl (by kernel_rfl) (fun _ _ _ h => h) (by rfl) ?_
             refine ztg_ (i := 2) (ra_ [7, 2, 4, 7]) HT_ HW_ rfl rfl (by kernel_rfl) (fun _ _ _ h => h) (by rfl) hHeld ?_ z128_
             refine ztg_ (i := 7) (ra_ [8, 1, 4, 7]) HT_ HW_ rfl rfl (by kernel_rfl) (fun _ _ _ h => h) (by rfl) hHeld ?_ z128_
             refine zpg_ (i := 8) (fl_ 20 13) HT_ rfl rfl (by kernel_rfl) (fun _ _ _ h => h) (by rfl) ?_
             refine zt_ HT_ HW_ rfl rfl (by kernel_rfl) (fun _ _ _ h => h) (by rfl) hHeld ?_ z128_
             iterate 2 refine zp_ HT_ rfl rfl (by kernel_rfl) (fun _ _ _ h => h) (by rfl) ?_
             refine zt_ HT_ HW_ rfl rfl (by kernel_rfl) (fun _ _ _ h => h) (by rfl) hHeld ?_ z128_
             refine one_ (i := 17) (N := some 107) (fl_ 20 18) rfl rfl (one_of HT_.out (by kernel_rfl)) (by decide) (fun K hK => ?_)
             refine value_ (w1 := ?_) (v := ?_) (by rfl) rfl ?_ ?_
             rotate_left 2
             ·go_simp
              constructor
              ·rfl
              ·rfl
             refine hK.out _ _ ⟨(blk_cell (blk_alloc BK430.out _) 0).trans rfl, (blk_cell (blk_alloc BK430.out _) 1).trans rfl, (blk_cell (blk_alloc BK430.out _) 2).trans rfl, (World.cell?_alloc_lt _ _ _ (World.block_lt_of_cell? _ _ (((HB.out.cell (World.block_lt_of_cell? w _ hw464_0)).trans hw464_0)))).trans (((HB.out.cell (World.block_lt_of_cell? w _ hw464_0)).trans hw464_0)), (World.cell?_alloc_lt _ _ _ (World.block_lt_of_cell? _ _ (((HB.out.cell (World.block_lt_of_cell? w _ hw464_1)).trans hw464_1)))).trans (((HB.out.cell (World.block_lt_of_cell? w _ hw464_1)).trans hw464_1)), (World.cell?_alloc_lt _ _ _ (World.block_lt_of_cell? _ _ (((HB.out.cell (World.block_lt_of_cell? w _ hw465_0)).trans hw465_0)))).trans (((HB.out.cell (World.block_lt_of_cell? w _ hw465_0)).trans hw465_0)), (World.cell?_alloc_lt _ _ _ (World.block_lt_of_cell? _ _ (((HB.out.cell (World.block_lt_of_cell? w _ hw465_1)).trans hw465_1)))).trans (((HB.out.cell (World.block_lt_of_cell? w _ hw465_1)).trans hw465_1)), (World.cell?_alloc_lt _ _ _ (World.block_lt_of_cell? _ _ (((HB.out.cell (World.block_lt_of_cell? w _ hw466_0)).trans hw466_0)))).trans (((HB.out.cell (World.block_lt_of_cell? w _ hw466_0)).trans hw466_0))⟩ (fun hHeld => ?_)
             clear hK K
             refine zn_ rfl ?_
             refine one_ (i := 18) (N := some 108) (fl_ 20 19) rfl rfl (one_of HT_.out (by kernel_rfl)) (by decide) (fun K hK => ?_)
             refine Kd.R_append_step (Kd.int .i64) (w0 := w) w.heap.size (by rfl) (.tmp 90) (.tmp 107) 30 3 (.int .i64 0) 8 rfl Try.underlying30 info3 rfl (by decide) (by omega) u13 x13_4 (rd l2_2 (ji78)) [.int .i64 (rd l2_2 (ji78))] (fun k_ => some k_ ≠ (.slice (some ad454) t435.length co34 : Value).ownBlock ∧ some k_ ≠ (.slice (some ad463) t438.length co33 : Value).ownBlock ∧ some k_ ≠ (.slice (some ad454) t435.length co34 : Value).ownBlock ∧ some k_ ≠ (.slice (some ad463) t438.length co33 : Value).ownBlock ∧ some k_ ≠ (.slice Ao32 t441.length co32 : Value).ownBlock ∧ some k_ ≠ (.slice Ao31 t444.length co31 : Value).ownBlock ∧ some k_ ≠ (.slice Ao64 y457.length co64 : Value).ownBlock ∧ some k_ ≠ (u448005 : Value).ownBlock) (fun _ => False) rfl rfl ?aP (fun _ hk => hk.elim) ?aF ?aO ?aB ?aS ?aL ?_
             (case aP => exact rfl)
             (case aB => exact z79_)
             (case aF => exact z28_)
             (case aO => exact z74_)
             (case aS => exact z77_)
             (case aL => have := LMc81.out; omega)
             intro v468 w83 ho hb hg hat
             rw [← Ny467.out] at ho
             have n0_ := Aside0.mk (Kd.R_after (ok := (fun k_ => some k_ ≠ (.slice (some ad463) t438.length co33 : Value).ownBlock ∧ some k_ ≠ (.slice (some ad463) t438.length co33 : Value).ownBlock ∧ some k_ ≠ (.slice Ao32 t441.length co32 : Value).ownBlock ∧ some k_ ≠ (.slice Ao31 t444.length co31 : Value).ownBlock ∧ some k_ ≠ (.slice Ao64 y457.length co64 : Value).ownBlock ∧ some k_ ≠ (u448005 : Value).ownBlock)) (by (with_reducible repeat (first | apply Kd.R_alloc | apply Kd.R_drewN | apply Kd.R_drew)); exact Kd.R_mono HO_62.out (fun _ hk => ⟨⟨hk.2.1, ⟨hk.2.2.1, ⟨hk.2.2.2.1, ⟨hk.2.2.2.2.1, ⟨hk.2.2.2.2.2.1, hk.2.2.2.2.2.2⟩⟩⟩⟩⟩, hk.1⟩)) hg hat)
             have n1_ := Aside0.mk (Kd.R_after (ok := (fun k_ => some k_ ≠ (.slice (some ad454) t435.length co34 : Value).ownBlock ∧ some k_ ≠ (.slice (some ad454) t435.length co34 : Value).ownBlock ∧ some k_ ≠ (.slice Ao32 t441.length co32 : Value).ownBlock ∧ some k_ ≠ (.slice Ao31 t444.length co31 : Value).ownBlock ∧ some k_ ≠ (.slice Ao64 y457.length co64 : Value).ownBlock ∧ some k_ ≠ (u448005 : Value).ownBlock)) (by (with_reducible repeat (first | apply Kd.R_alloc | apply Kd.R_drewN | apply Kd.R_drew)); exact Kd.R_mono HO_84.out (fun _ hk => ⟨⟨hk.2.1, ⟨hk.2.2.1, ⟨hk.2.2.2.1, ⟨hk.2.2.2.2.1, ⟨hk.2.2.2.2.2.1, hk.2.2.2.2.2.2⟩⟩⟩⟩⟩, hk.1⟩)) hg hat)
             have n2_ := Aside0.mk (Kd.R_after (ok := (fun k_ => some k_ ≠ (.slice (some ad463) t438.length co33 : Value).ownBlock ∧ some k_ ≠ (.slice (some ad463) t438.length co33 : Value).ownBlock ∧ some k_ ≠ (.slice Ao32 t441.length co32 : Value).ownBlock ∧ some k_ ≠ (.slice Ao31 t444.length co31 : Value).ownBlock ∧ some k_ ≠ (.slice Ao64 y457.length co64 : Value).ownBlock ∧ some k_ ≠ (u448005 : Value).ownBlock)) (by (with_reducible repeat (first | apply Kd.R_alloc | apply Kd.R_drewN | apply Kd.R_drew)); exact Kd.R_mono HO_448000.out (fun _ hk => ⟨⟨hk.2.1, ⟨hk.2.2.1, ⟨hk.2.2.2.1, ⟨hk.2.2.2.2.1, ⟨hk.2.2.2.2.2.1, hk.2.2.2.2.2.2⟩⟩⟩⟩⟩, hk.1⟩)) hg hat)
             have n3_ := Aside0.mk (Kd.R_after (ok := (fun k_ => some k_ ≠ (.slice (some ad454) t435.length co34 : Value).ownBlock ∧ some k_ ≠ (.slice (some ad454) t435.length co34 : Value).ownBlock ∧ some k_ ≠ (.slice Ao32 t441.length co32 : Value).ownBlock ∧ some k_ ≠ (.slice Ao31 t444.length co31 : Value).ownBlock ∧ some k_ ≠ (.slice Ao64 y457.length co64 : Value).ownBlock ∧ some k_ ≠ (u448005 : Value).ownBlock)) (by (with_reducible repeat (first | apply Kd.R_alloc | apply Kd.R_drewN | apply Kd.R_drew)); exact Kd.R_mono HO_448001.out (fun _ hk => ⟨⟨hk.2.1, ⟨hk.2.2.1, ⟨hk.2.2.2.1, ⟨hk.2.2.2.2.1, ⟨hk.2.2.2.2.2.1, hk.2.2.2.2.2.2⟩⟩⟩⟩⟩, hk.1⟩)) hg hat)
             have n4_ := Aside0.mk (Kd.R_after (ok := (fun k_ => some k_ ≠ (.slice (some ad454) t435.length co34 : Value).ownBlock ∧ some k_ ≠ (.slice (some ad463) t438.length co33 : Value).ownBlock ∧ some k_ ≠ (.slice (some ad454) t435.length co34 : Value).ownBlock ∧ some k_ ≠ (.slice (some ad463) t438.length co33 : Value).ownBlock ∧ some k_ ≠ (.slice Ao31 t444.length co31 : Value).ownBlock ∧ some k_ ≠ (.slice Ao64 y457.length co64 : Value).ownBlock ∧ some k_ ≠ (u448005 : Value).ownBlock)) (by (with_reducible repeat (first | apply Kd.R_alloc | apply Kd.R_drewN | apply Kd.R_drew)); exact Kd.R_mono HO_448002.out (fun _ hk => ⟨⟨hk.2.1, ⟨hk.2.2.1, ⟨hk.2.2.2.1, ⟨hk.2.2.2.2.1, ⟨hk.2.2.2.2.2.1, ⟨hk.2.2.2.2.2.2.1, hk.2.2.2.2.2.2.2⟩⟩⟩⟩⟩⟩, hk.1⟩)) hg hat)
             have n5_ := Aside0.mk (Kd.R_after (ok := (fun k_ => some k_ ≠ (.slice (some ad454) t435.length co34 : Value).ownBlock ∧ some k_ ≠ (.slice (some ad463) t438.length co33 : Value).ownBlock ∧ some k_ ≠ (.slice (some ad454) t435.length co34 : Value).ownBlock ∧ some k_ ≠ (.slice (some ad463) t438.length co33 : Value).ownBlock ∧ some k_ ≠ (.slice Ao32 t441.length co32 : Value).ownBlock ∧ some k_ ≠ (.slice Ao64 y457.length co64 : Value).ownBlock ∧ some k_ ≠ (u448005 : Value).ownBlock)) (by (with_reducible repeat (first | apply Kd.R_alloc | apply Kd.R_drewN | apply Kd.R_drew)); exact Kd.R_mono HO_448003.out (fun _ hk => ⟨⟨hk.2.1, ⟨hk.2.2.1, ⟨hk.2.2.2.1, ⟨hk.2.2.2.2.1, ⟨hk.2.2.2.2.2.1, ⟨hk.2.2.2.2.2.2.1, hk.2.2.2.2.2.2.2⟩⟩⟩⟩⟩⟩, hk.1⟩)) hg hat)
             have n6_ := Aside0.mk (Kd.R_after (ok := (fun k_ => some k_ ≠ (.slice (some ad454) t435.length co34 : Value).ownBlock ∧ some k_ ≠ (.slice (some ad463) t438.length co33 : Value).ownBlock ∧ some k_ ≠ (.slice (some ad454) t435.length co34 : Value).ownBlock ∧ some k_ ≠ (.slice (some ad463) t438.length co33 : Value).ownBlock ∧ some k_ ≠ (.slice Ao32 t441.length co32 : Value).ownBlock ∧ some k_ ≠ (.slice Ao31 t444.length co31 : Value).ownBlock ∧ some k_ ≠ (u448005 : Value).ownBlock)) (by (with_reducible repeat (first | apply Kd.R_alloc | apply Kd.R_drewN | apply Kd.R_drew)); exact Kd.R_mono HO_448004.out (fun _ hk => ⟨⟨hk.2.1, ⟨hk.2.2.1, ⟨hk.2.2.2.1, ⟨hk.2.2.2.2.1, ⟨hk.2.2.2.2.2.1, ⟨hk.2.2.2.2.2.2.1, hk.2.2.2.2.2.2.2⟩⟩⟩⟩⟩⟩, hk.1⟩)) hg hat)
             have n7_ := Aside0.mk (Kd.R_after (ok := (fun k_ => some k_ ≠ (.slice (some ad454) t435.length co34 : Value).ownBlock ∧ some k_ ≠ (.slice (some ad463) t438.length co33 : Value).ownBlock ∧ some k_ ≠ (.slice (some ad454) t435.length co34 : Value).ownBlock ∧ some k_ ≠ (.slice (some ad463) t438.length co33 : Value).ownBlock ∧ some k_ ≠ (.slice Ao32 t441.length co32 : Value).ownBlock ∧ some k_ ≠ (.slice Ao31 t444.length co31 : Value).ownBlock ∧ some k_ ≠ (.slice Ao64 y457.length co64 : Value).ownBlock)) (by (with_reducible repeat (first | apply Kd.R_alloc | apply Kd.R_drewN | apply Kd.R_drew)); exact Kd.R_mono HO_448005.out (fun _ hk => ⟨⟨hk.2.1, ⟨hk.2.2.1, ⟨hk.2.2.2.1, ⟨hk.2.2.2.2.1, ⟨hk.2.2.2.2.2.1, ⟨hk.2.2.2.2.2.2.1, hk.2.2.2.2.2.2.2⟩⟩⟩⟩⟩⟩, hk.1⟩)) hg hat)
             have n8_ := Aside0.mk (Kd.S_after (ok := (fun k_ => some k_ ≠ (.slice (some ad454) t435.length co34 : Value).ownBlock ∧ some k_ ≠ (.slice (some ad463) t438.length co33 : Value).ownBlock ∧ some k_ ≠ (.slice (some ad454) t435.length co34 : Value).ownBlock ∧ some k_ ≠ (.slice (some ad463) t438.length co33 : Value).ownBlock ∧ some k_ ≠ (.slice Ao32 t441.length co32 : Value).ownBlock ∧ some k_ ≠ (.slice Ao31 t444.length co31 : Value).ownBlock ∧ some k_ ≠ (.slice Ao64 y457.length co64 : Value).ownBlock ∧ some k_ ≠ (u448005 : Value).ownBlock)) (by (with_reducible repeat (first | apply Kd.S_alloc | apply Kd.S_drewN | apply Kd.S_drew)); exact Kd.S_mono HO_448006.out (fun _ hk => ⟨⟨hk.2.1, ⟨hk.2.2.1, ⟨hk.2.2.2.1, ⟨hk.2.2.2.2.1, ⟨hk.2.2.2.2.2.1, ⟨hk.2.2.2.2.2.2.1, ⟨hk.2.2.2.2.2.2.2.1, hk.2.2.2.2.2.2.2.2⟩⟩⟩⟩⟩⟩⟩, hk.1⟩)) hg hat)
             have n9_ := Aside0.mk (blk_grown z17_ hg (Kd.R_ne HO_13.out BK430.out (by decide)))
             have n10_ := Aside0.mk (blk_grown z24_ hg (Kd.R_ne HO_13.out BK431.out (by decide)))
             have n11_ := Aside0.mk (blk_grown z89_ hg (Kd.R_ne HO_13.out BK447.out (by decide)))
             have n12_ := Aside0.mk (hb)
             have n13_ := Aside0.mk (ho)
             clear HO_62
             clear HO_84
             clear HO_448000
             clear HO_448001
             clear HO_448002
             clear HO_448003
             clear HO_448004
             clear HO_448005
             clear HO_448006
             clear BK430
             clear BK431
             clear BK447
             clear HB
             clear HO_13
             have HO_62 := n0_
             have HO_84 := n1_
             have HO_448000 := n2_
             have HO_448001 := n3_
             have HO_448002 := n4_
             have HO_448003 := n5_
             have HO_448004 := n6_
             have HO_448005 := n7_
             have HO_448006 := n8_
             have BK430 := n9_
             have BK431 := n10_
             have BK447 := n11_
             have HB := n12_
             have HO469 := n13_
             clear n0_ n1_ n2_ n3_ n4_ n5_ n6_ n7_ n8_ n9_ n10_ n11_ n12_ n13_
             clear ho hb hg hat
             refine hK.out _ _ ⟨(blk_cell BK430.out 0).trans rfl, (blk_cell BK430.out 1).trans rfl, (blk_cell BK430.out 2).trans rfl, ((HB.out.cell (World.block_lt_of_cell? w _ hw464_0)).trans hw464_0), ((HB.out.cell (World.block_lt_of_cell? w _ hw464_1)).trans hw464_1), ((HB.out.cell (World.block_lt_of_cell? w _ hw465_0)).trans hw465_0), ((HB.out.cell (World.block_lt_of_cell? w _ hw465_1)).trans hw465_1), ((HB.out.cell (World.block_lt_of_cell? w _ hw466_0)).trans hw466_0)⟩ (fun hHeld => ?_)
             clear hK K
             refine zn_ rfl ?_
             refine zp_ HT_ rfl rfl (by kernel_rfl) (fun _ _ _ h => h) (by rfl) ?_
             refine done_ (done_of HT_.out (by kernel_rfl)) ?_
             try go_wp2
             go_roundg k4
             case measure => have := HJ3.out; have := HK2.out; have := HK3.out; have := HK4.out; omega
             case rel => exact ⟨(y467), (wrap64 (x86_4 + 1)), z4_, H', ⟨by have := HJ3.out; have := HK2.out; have := HK3.out; have := HK4.out; omega⟩, ⟨by (with_reducible repeat (first | apply Kd.R_alloc | apply Kd.R_drewN | apply Kd.R_drew)); exact HO469.out⟩, ⟨by (with_reducible repeat (first | apply Kd.R_alloc | apply Kd.R_drewN | apply Kd.R_drew)); exact Kd.R_mono HO_62.out (fun _ hk => ⟨hk.2, ⟨hk.1.1, ⟨hk.1.2.1, ⟨hk.1.2.2.1, ⟨hk.1.2.2.2.1, ⟨hk.1.2.2.2.2.1, hk.1.2.2.2.2.2⟩⟩⟩⟩⟩⟩)⟩, ⟨by (with_reducible repeat (first | apply Kd.R_alloc | apply Kd.R_drewN | apply Kd.R_drew)); exact Kd.R_mono HO_84.out (fun _ hk => ⟨hk.2, ⟨hk.1.1, ⟨hk.1.2.1, ⟨hk.1.2.2.1, ⟨hk.1.2.2.2.1, ⟨hk.1.2.2.2.2.1, hk.1.2.2.2.2.2⟩⟩⟩⟩⟩⟩)⟩, ⟨by (with_reducible repeat (first | apply Kd.R_alloc | apply Kd.R_drewN | apply Kd.R_drew)); exact Kd.R_mono HO_448000.out (fun _ hk => ⟨hk.2, ⟨hk.1.1, ⟨hk.1.2.1, ⟨hk.1.2.2.1, ⟨hk.1.2.2.2.1, ⟨hk.1.2.2.2.2.1, hk.1.2.2.2.2.2⟩⟩⟩⟩⟩⟩)⟩, ⟨by (with_reducible repeat (first | apply Kd.R_alloc | apply Kd.R_drewN | apply Kd.R_drew)); exact Kd.R_mono HO_448001.out (fun _ hk => ⟨hk.2, ⟨hk.1.1, ⟨hk.1.2.1, ⟨hk.1.2.2.1, ⟨hk.1.2.2.2.1, ⟨hk.1.2.2.2.2.1, hk.1.2.2.2.2.2⟩⟩⟩⟩⟩⟩)⟩, ⟨by (with_reducible repeat (first | apply Kd.R_alloc | apply Kd.R_drewN | apply Kd.R_drew)); exact Kd.R_mono HO_448002.out (fun _ hk => ⟨hk.2, ⟨hk.1.1, ⟨hk.1.2.1, ⟨hk.1.2.2.1, ⟨hk.1.2.2.2.1, ⟨hk.1.2.2.2.2.1, ⟨hk.1.2.2.2.2.2.1, hk.1.2.2.2.2.2.2⟩⟩⟩⟩⟩⟩⟩)⟩, ⟨by (with_reducible repeat (first | apply Kd.R_alloc | apply Kd.R_drewN | apply Kd.R_drew)); exact Kd.R_mono HO_448003.out (fun _ hk => ⟨hk.2, ⟨hk.1.1, ⟨hk.1.2.1, ⟨hk.1.2.2.1, ⟨hk.1.2.2.2.1, ⟨hk.1.2.2.2.2.1, ⟨hk.1.2.2.2.2.2.1, hk.1.2.2.2.2.2.2⟩⟩⟩⟩⟩⟩⟩)⟩, ⟨by (with_reducible repeat (first | apply Kd.R_alloc | apply Kd.R_drewN | apply Kd.R_drew)); exact Kd.R_mono HO_448004.out (fun _ hk => ⟨hk.2, ⟨hk.1.1, ⟨hk.1.2.1, ⟨hk.1.2.2.1, ⟨hk.1.2.2.2.1, ⟨hk.1.2.2.2.2.1, ⟨hk.1.2.2.2.2.2.1, hk.1.2.2.2.2.2.2⟩⟩⟩⟩⟩⟩⟩)⟩, ⟨by (with_reducible repeat (first | apply Kd.R_alloc | apply Kd.R_drewN | apply Kd.R_drew)); exact Kd.R_mono HO_448005.out (fun _ hk => ⟨hk.2, ⟨hk.1.1, ⟨hk.1.2.1, ⟨hk.1.2.2.1, ⟨hk.1.2.2.2.1, ⟨hk.1.2.2.2.2.1, ⟨hk.1.2.2.2.2.2.1, hk.1.2.2.2.2.2.2⟩⟩⟩⟩⟩⟩⟩)⟩, ⟨by (with_reducible repeat (first | apply Kd.S_alloc | apply Kd.S_drewN | apply Kd.S_drew)); exact Kd.S_mono HO_448006.out (fun _ hk => ⟨hk.2, ⟨hk.1.1, ⟨hk.1.2.1, ⟨hk.1.2.2.1, ⟨hk.1.2.2.2.1, ⟨hk.1.2.2.2.2.1, ⟨hk.1.2.2.2.2.2.1, ⟨hk.1.2.2.2.2.2.2.1, hk.1.2.2.2.2.2.2.2⟩⟩⟩⟩⟩⟩⟩⟩)⟩, ⟨z17_⟩, ⟨z24_⟩, ⟨z89_⟩, ⟨z13_⟩⟩
            ·rw [if_neg c71] at H
             have c71b0 := decide_eq_false c71
             clear c71
             obtain ⟨c84, H⟩ := ifs_ H
             have LMc84 := Aside0.mk c84
             clear c84
             first | ((with_reducible have hz_ := gy_ H); obtain ⟨y470, Ny470, H⟩ := hz_) | (generalize hy_ : ((x448006_3 ++ [x13_4]) : List (List Int)) = y470 at H; have Ny470 := Aside0.mk hy_.symm; clear hy_)
             have H' := Aside0.mk H
             clear H
             have hnb85 := NB447_430.out
             have hnc85 := NB430_447.out
             have hnb86 := NB447_431.out
             have hnc86 := NB431_447.out
             obtain ⟨hcz87_0, hcz87_1, hcz87_2, hcz87_3, hcz87_4, hcz87_5, hcz87_6, hfz87_0, hfz87_1, hfz87_2, hfz87_3, hfz87_4, hfz87_5, hfz87_6⟩ := bx7_ BK447.out
             obtain ⟨Ao89, co89, eo89⟩ := Kd.R_slice HO_13.out
             subst eo89
             go_wp2_with (first | ((with_reducible refine gate_builtin (b := .append) (xs := #[.tmp 111, .tmp 113]) rfl ?_); at_builtin; refine Kd.S_append (Kd.slice 3 (Kd.int .i64)) (w0 := w) w.heap.size rfl (.tmp 111) (.tmp 113) 89 30 (.slice none 0 0) 24 rfl Try.underlying89 info30 rfl (by decide) (by omega) u448006 x448006_3 x13_4 [.slice Ao89 x13_4.length co89] (fun k_ => some k_ ≠ (.slice (some ad454) t435.length co34 : Value).ownBlock ∧ some k_ ≠ (.slice Ao33 t438.length co33 : Value).ownBlock ∧ some k_ ≠ (.slice (some ad454) t435.length co34 : Value).ownBlock ∧ some k_ ≠ (.slice Ao33 t438.length co33 : Value).ownBlock ∧ some k_ ≠ (.slice Ao32 t441.length co32 : Value).ownBlock ∧ some k_ ≠ (.slice Ao31 t444.length co31 : Value).ownBlock ∧ some k_ ≠ (.slice Ao64 y457.length co64 : Value).ownBlock ∧ some k_ ≠ (u448005 : Value).ownBlock) (fun k_ => some k_ = (.slice Ao89 x13_4.length co89 : Value).ownBlock) rfl rfl ?aP (fun k_ hk_ => ((Kd.R_mono (ok' := fun k_ => ((fun k_ => some k_ ≠ (.slice (some ad454) t435.length co34 : Value).ownBlock ∧ some k_ ≠ (.slice Ao33 t438.length co33 : Value).ownBlock ∧ some k_ ≠ (.slice (some ad454) t435.length co34 : Value).ownBlock ∧ some k_ ≠ (.slice Ao33 t438.length co33 : Value).ownBlock ∧ some k_ ≠ (.slice Ao32 t441.length co32 : Value).ownBlock ∧ some k_ ≠ (.slice Ao31 t444.length co31 : Value).ownBlock ∧ some k_ ≠ (.slice Ao64 y457.length co64 : Value).ownBlock ∧ some k_ ≠ (u448005 : Value).ownBlock)) k_ ∧ some k_ ≠ (u448006 : Value).ownBlock) (Kd.R_apart' (HO_13.out) (Kd.S_typed HO_448006.out) (by decide)) (fun k_ hk => ⟨⟨hk.1.1, ⟨hk.1.2.1, ⟨hk.1.2.2.1, ⟨hk.1.2.2.2.1, ⟨hk.1.2.2.2.2.1, ⟨hk.1.2.2.2.2.2.1, ⟨hk.1.2.2.2.2.2.2.1, hk.1.2.2.2.2.2.2.2⟩⟩⟩⟩⟩⟩⟩, hk.2⟩))).1 k_ hk_.symm) ?aF ?aO ?aB ?aS ?aL ?_; (case aP => exact Kd.M_row (Kd.R_mono (Kd.R_tight rfl (Kd.R_mono (ok' := fun k_ => ((fun k_ => some k_ ≠ (.slice (some ad454) t435.length co34 : Value).ownBlock ∧ some k_ ≠ (.slice Ao33 t438.length co33 : Value).ownBlock ∧ some k_ ≠ (.slice (some ad454) t435.length co34 : Value).ownBlock ∧ some k_ ≠ (.slice Ao33 t438.length co33 : Value).ownBlock ∧ some k_ ≠ (.slice Ao32 t441.length co32 : Value).ownBlock ∧ some k_ ≠ (.slice Ao31 t444.length co31 : Value).ownBlock ∧ some k_ ≠ (.slice Ao64 y457.length co64 : Value).ownBlock ∧ some k_ ≠ (u448005 : Value).ownBlock)) k_ ∧ some k_ ≠ (u448006 : Value).ownBlock) (Kd.R_apart' (HO_13.out) (Kd.S_typed HO_448006.out) (by decide)) (fun k_ hk => ⟨⟨hk.1.1, ⟨hk.1.2.1, ⟨hk.1.2.2.1, ⟨hk.1.2.2.2.1, ⟨hk.1.2.2.2.2.1, ⟨hk.1.2.2.2.2.2.1, ⟨hk.1.2.2.2.2.2.2.1, hk.1.2.2.2.2.2.2.2⟩⟩⟩⟩⟩⟩⟩, hk.2⟩))) (fun _ h_ => h_))); (case aB => exact z79_); (case aF => exact z28_); (case aO => exact (by (with_reducible repeat (first | apply Kd.S_alloc | apply Kd.S_drewN | apply Kd.S_drew)); exact Kd.S_mono HO_448006.out (fun k_ hk => ⟨⟨hk.2.1, ⟨hk.2.2.1, ⟨hk.2.2.2.1, ⟨hk.2.2.2.2.1, ⟨hk.2.2.2.2.2.1, ⟨hk.2.2.2.2.2.2.1, ⟨hk.2.2.2.2.2.2.2.1, hk.2.2.2.2.2.2.2.2⟩⟩⟩⟩⟩⟩⟩, fun e_ => hk.1 e_⟩))); (case aS => exact z77_); (case aL => have := LMc84.out; omega); intro v471 w88 ho hb hg hat; rw [← Ny470.out] at ho; replace HO_62 := Aside0.mk (Kd.R_over' z168_ (Kd.S_typed z84_) (by decide) hg); replace HO_84 := Aside0.mk (Kd.R_over' z203_ (Kd.S_typed z84_) (by decide) hg); replace HO_448000 := Aside0.mk (Kd.R_over' z133_ (Kd.S_typed z84_) (by decide) hg); replace HO_448001 := Aside0.mk (Kd.R_over' z134_ (Kd.S_typed z84_) (by decide) hg); replace HO_448002 := Aside0.mk (Kd.R_over' z135_ (Kd.S_typed z84_) (by decide) hg); replace HO_448003 := Aside0.mk (Kd.R_over' z136_ (Kd.S_typed z84_) (by decide) hg); replace HO_448004 := Aside0.mk (Kd.R_over' z161_ (Kd.S_typed z84_) (by decide) hg); replace HO_448005 := Aside0.mk (Kd.R_over' z137_ (Kd.S_typed z84_) (by decide) hg); replace BK430 := Aside0.mk (blk_grown z17_ hg (Kd.S_ne HO_448006.out BK430.out (by decide))); replace BK431 := Aside0.mk (blk_grown z24_ hg (Kd.S_ne HO_448006.out BK431.out (by decide))); replace BK447 := Aside0.mk (blk_grown z89_ hg (Kd.S_ne HO_448006.out BK447.out (by decide))); replace HB := Aside0.mk (hb); have HO472 := Aside0.mk (ho); clear HO_448006 HO_13; clear ho hb hg hat; obtain ⟨Ao90, co90, eo90⟩ := Kd.S_slice HO472.out; subst eo90; obtain ⟨hcz91_0, hcz91_1, hcz91_2, hcz91_3, hcz91_4, hcz91_5, hcz91_6, hfz91_0, hfz91_1, hfz91_2, hfz91_3, hfz91_4, hfz91_5, hfz91_6⟩ := bx7_ BK447.out))
             go_roundg k4
             case measure => have := HJ3.out; have := HK2.out; have := HK3.out; have := HK4.out; omega
             case rel => exact ⟨(wrap64 (x64_3 + 1)), (y457), (y470), (.slice Ao64 y457.length co64), (.slice Ao90 y470.length co90), z4_, H', ⟨by have := HJ3.out; have := HK2.out; have := HK3.out; have := HK4.out; omega⟩, ⟨by (with_reducible repeat (first | apply Kd.R_alloc | apply Kd.R_drewN | apply Kd.R_drew)); exact Kd.R_mono (Kd.R_far (p := ⟨gb447, 6, none⟩) (Kd.R_types HO_62.out BK447.out (by decide)) (fun _ hk => hk.2) (.slice Ao90 y470.length co90)) (fun _ hk => ⟨hk.1.2.2.1, ⟨hk.1.2.2.2.1, ⟨hk.1.2.2.2.2.1, ⟨hk.1.2.2.2.2.2.1, hk.1.2.2.2.2.2.2⟩⟩⟩⟩)⟩, ⟨by (with_reducible repeat (first | apply Kd.R_alloc | apply Kd.R_drewN | apply Kd.R_drew)); exact Kd.R_mono (Kd.R_far (p := ⟨gb447, 6, none⟩) (Kd.R_types HO_448000.out BK447.out (by decide)) (fun _ hk => hk.2) (.slice Ao90 y470.length co90)) (fun _ hk => ⟨hk.1.2.2.1, ⟨hk.1.2.2.2.1, ⟨hk.1.2.2.2.2.1, ⟨hk.1.2.2.2.2.2.1, hk.1.2.2.2.2.2.2⟩⟩⟩⟩)⟩, ⟨by (with_reducible repeat (first | apply Kd.R_alloc | apply Kd.R_drewN | apply Kd.R_drew)); exact Kd.R_mono (Kd.R_far (p := ⟨gb447, 6, none⟩) (Kd.R_types HO_448001.out BK447.out (by decide)) (fun _ hk => hk.2) (.slice Ao90 y470.length co90)) (fun _ hk => ⟨hk.1.2.1, ⟨hk.1.2.2.1, ⟨hk.1.2.2.2.1, ⟨hk.1.2.2.2.2.1, ⟨hk.1.2.2.2.2.2.1, hk.1.2.2.2.2.2.2⟩⟩⟩⟩⟩)⟩, ⟨by (with_reducible repeat (first | apply Kd.R_alloc | apply Kd.R_drewN | apply Kd.R_drew)); exact Kd.R_mono (Kd.R_far (p := ⟨gb447, 6, none⟩) (Kd.R_types HO_448002.out BK447.out (by decide)) (fun _ hk => hk.2) (.slice Ao90 y470.length co90)) (fun _ hk => ⟨hk.1.2.1, ⟨hk.1.2.2.2.1, ⟨hk.1.2.2.2.2.1, ⟨hk.1.2.2.2.2.2.1, ⟨hk.1.2.2.2.2.2.2.1, hk.1.2.2.2.2.2.2.2⟩⟩⟩⟩⟩)⟩, ⟨by (with_reducible repeat (first | apply Kd.R_alloc | apply Kd.R_drewN | apply Kd.R_drew)); exact Kd.R_mono (Kd.R_far (p := ⟨gb447, 6, none⟩) (Kd.R_types HO_448003.out BK447.out (by decide)) (fun _ hk => hk.2) (.slice Ao90 y470.length co90)) (fun _ hk => ⟨hk.1.2.1, ⟨hk.1.2.2.2.1, ⟨hk.1.2.2.2.2.1, ⟨hk.1.2.2.2.2.2.1, ⟨hk.1.2.2.2.2.2.2.1, hk.1.2.2.2.2.2.2.2⟩⟩⟩⟩⟩)⟩, ⟨by (with_reducible repeat (first | apply Kd.R_alloc | apply Kd.R_drewN | apply Kd.R_drew)); exact Kd.R_mono (Kd.R_far (p := ⟨gb447, 6, none⟩) (Kd.R_types HO_448004.out BK447.out (by decide)) (fun _ hk => hk.2) (.slice Ao90 y470.length co90)) (fun _ hk => ⟨hk.1.2.1, ⟨hk.1.2.2.2.1, ⟨hk.1.2.2.2.2.1, ⟨hk.1.2.2.2.2.2.1, ⟨hk.1.2.2.2.2.2.2.1, hk.1.2.2.2.2.2.2.2⟩⟩⟩⟩⟩)⟩, ⟨by (with_reducible repeat (first | apply Kd.R_alloc | apply Kd.R_drewN | apply Kd.R_drew)); exact Kd.R_mono (Kd.R_far (p := ⟨gb447, 6, none⟩) (Kd.R_types HO_448005.out BK447.out (by decide)) (fun _ hk => hk.2) (.slice Ao90 y470.length co90)) (fun _ hk => ⟨hk.1.2.1, ⟨hk.1.2.2.2.1, ⟨hk.1.2.2.2.2.1, ⟨hk.1.2.2.2.2.2.1, ⟨hk.1.2.2.2.2.2.2.1, hk.1.2.2.2.2.2.2.2⟩⟩⟩⟩⟩)⟩, ⟨by (with_reducible repeat (first | apply Kd.S_alloc | apply Kd.S_drewN | apply Kd.S_drew)); exact Kd.S_mono (Kd.S_far (p := ⟨gb447, 6, none⟩) (Kd.S_types HO472.out BK447.out (by decide)) (fun _ hk => hk.2) (.slice Ao90 y470.length co90)) (fun _ hk => ⟨hk.1.1, ⟨hk.1.2.2.1, ⟨hk.1.2.2.2.1, ⟨hk.1.2.2.2.2.1, ⟨hk.1.2.2.2.2.2.1, ⟨hk.1.2.2.2.2.2.2.1, hk.1.2.2.2.2.2.2.2⟩⟩⟩⟩⟩⟩)⟩, ⟨z91_⟩, ⟨z92_⟩, ⟨by (with_reducible repeat (first | refine blk_drewN ?_ _ | refine blk_drew ?_ | refine blk_alloc ?_ _)); refine blk_put (cs := #[.slice (some ad454) t435.length co34, .slice Ao33 t438.length co33, .slice Ao32 t441.length co32, .slice Ao31 t444.length co31, .slice Ao64 y457.length co64, u448005, u448006]) ?_ 6 _ rfl; (with_reducible repeat (first | refine blk_drewN ?_ _ | refine blk_drew ?_ | refine blk_alloc ?_ _)); exact BK447.out⟩, ⟨z13_⟩⟩
         ·rw [if_neg c54] at H
          have c54b0 := decide_eq_false c54
          clear c54
          simp only [Option.some.injEq, Prod.mk.injEq] at H
          obtain ⟨rfl, rfl, rfl, rfl, rfl, rfl, rfl, rfl⟩ := H
          have hnb92 := NB447_430.out
          have hnc92 := NB430_447.out
          have hnb93 := NB447_431.out
          have hnc93 := NB431_447.out
          obtain ⟨hcz94_0, hcz94_1, hcz94_2, hcz94_3, hcz94_4, hcz94_5, hcz94_6, hfz94_0, hfz94_1, hfz94_2, hfz94_3, hfz94_4, hfz94_5, hfz94_6⟩ := bx7_ BK447.out
          have hnb95 := NB431_430.out
          have hnc95 := NB430_431.out
          obtain ⟨hcz96_0, hcz96_1, hcz96_2, hcz96_3, hcz96_4, hcz96_5, hcz96_6, hfz96_0, hfz96_1, hfz96_2, hfz96_3, hfz96_4, hfz96_5, hfz96_6⟩ := bx7_ BK431.out
          obtain ⟨Ao97, co97, eo97⟩ := Kd.R_slice HO_448004.out
          subst eo97
          obtain ⟨Ao98, co98, eo98⟩ := Kd.R_slice HO_448005.out
          subst eo98
          obtain ⟨Ao99, co99, eo99⟩ := Kd.S_slice HO_448006.out
          subst eo99
          go_wp2
          refine bodyPost_ret (results_ct rfl _ _ gb431 91 #[.slice Ao34 t435.length co34, .slice Ao33 t438.length co33, .slice Ao32 t441.length co32, .slice Ao31 t444.length co31, .slice Ao97 x448004_3.length co97, .slice Ao98 x448005_2.length co98, .slice Ao99 x448006_3.length co99] (0, 0) _ rfl (by (with_reducible repeat (first | refine blk_drewN ?_ _ | refine blk_drew ?_ | refine blk_alloc ?_ _)); refine blk_put (cs := #[.slice Ao34 t435.length co34, .slice Ao33 t438.length co33, .slice Ao32 t441.length co32, .slice Ao31 t444.length co31, .slice Ao97 x448004_3.length co97, .slice Ao98 x448005_2.length co98, .slice none 0 0]) ?_ 6 _ rfl; (with_reducible repeat (first | refine blk_drewN ?_ _ | refine blk_drew ?_ | refine blk_alloc ?_ _)); refine blk_put (cs := #[.slice Ao34 t435.length co34, .slice Ao33 t438.length co33, .slice Ao32 t441.length co32, .slice Ao31 t444.length co31, .slice Ao97 x448004_3.length co97, .slice none 0 0, .slice none 0 0]) ?_ 5 _ rfl; (with_reducible repeat (first | refine blk_drewN ?_ _ | refine blk_drew ?_ | refine blk_alloc ?_ _)); refine blk_put (cs := #[.slice Ao34 t435.length co34, .slice Ao33 t438.length co33, .slice Ao32 t441.length co32, .slice Ao31 t444.length co31, .slice none 0 0, .slice none 0 0, .slice none 0 0]) ?_ 4 _ rfl; (with_reducible repeat (first | refine blk_drewN ?_ _ | refine blk_drew ?_ | refine blk_alloc ?_ _)); refine blk_put (cs := #[.slice Ao34 t435.length co34, .slice Ao33 t438.length co33, .slice Ao32 t441.length co32, .slice none 0 0, .slice none 0 0, .slice none 0 0, .slice none 0 0]) ?_ 3 _ rfl; (with_reducible repeat (first | refine blk_drewN ?_ _ | refine blk_drew ?_ | refine blk_alloc ?_ _)); refine blk_put (cs := #[.slice Ao34 t435.length co34, .slice Ao33 t438.length co33, .slice none 0 0, .slice none 0 0, .slice none 0 0, .slice none 0 0, .slice none 0 0]) ?_ 2 _ rfl; (with_reducible repeat (first | refine blk_drewN ?_ _ | refine blk_drew ?_ | refine blk_alloc ?_ _)); refine blk_put (cs := #[.slice Ao34 t435.length co34, .slice none 0 0, .slice none 0 0, .slice none 0 0, .slice none 0 0, .slice none 0 0, .slice none 0 0]) ?_ 1 _ rfl; (with_reducible repeat (first | refine blk_drewN ?_ _ | refine blk_drew ?_ | refine blk_alloc ?_ _)); refine blk_put (cs := #[.slice none 0 0, .slice none 0 0, .slice none 0 0, .slice none 0 0, .slice none 0 0, .slice none 0 0, .slice none 0 0]) ?_ 0 _ rfl; (with_reducible repeat (first | refine blk_drewN ?_ _ | refine blk_drew ?_ | refine blk_alloc ?_ _)); exact BK431.out) Try.underlying91 rfl (by kernel_rfl)) rfl ?_
          exact ⟨_, _, _, _, _, _, _, z5_, by (with_reducible repeat (first | apply Kd.R_alloc | apply Kd.R_drewN | apply Kd.R_drew)); exact Kd.R_mono (Kd.R_far (p := ⟨gb431, 6, none⟩) (Kd.R_far (p := ⟨gb431, 5, none⟩) (Kd.R_far (p := ⟨gb431, 4, none⟩) (Kd.R_far (p := ⟨gb431, 3, none⟩) (Kd.R_far (p := ⟨gb431, 2, none⟩) (Kd.R_far (p := ⟨gb431, 1, none⟩) (Kd.R_far (p := ⟨gb431, 0, none⟩) (Kd.R_types HO_448000.out BK431.out (by decide)) (fun _ hk => hk.2) (.slice Ao34 t435.length co34)) (fun _ hk => hk.2) (.slice Ao33 t438.length co33)) (fun _ hk => hk.2) (.slice Ao32 t441.length co32)) (fun _ hk => hk.2) (.slice Ao31 t444.length co31)) (fun _ hk => hk.2) (.slice Ao97 x448004_3.length co97)) (fun _ hk => hk.2) (.slice Ao98 x448005_2.length co98)) (fun _ hk => hk.2) (.slice Ao99 x448006_3.length co99)) (fun _ hk => ⟨hk.1.1, ⟨hk.1.2.1, ⟨hk.1.2.2.1, ⟨hk.1.2.2.2.1, hk.1.2.2.2.2⟩⟩⟩⟩), by (with_reducible repeat (first | apply Kd.R_alloc | apply Kd.R_drewN | apply Kd.R_drew)); exact Kd.R_mono (Kd.R_far (p := ⟨gb431, 6, none⟩) (Kd.R_far (p := ⟨gb431, 5, none⟩) (Kd.R_far (p := ⟨gb431, 4, none⟩) (Kd.R_far (p := ⟨gb431, 3, none⟩) (Kd.R_far (p := ⟨gb431, 2, none⟩) (Kd.R_far (p := ⟨gb431, 1, none⟩) (Kd.R_far (p := ⟨gb431, 0, none⟩) (Kd.R_types HO_448001.out BK431.out (by decide)) (fun _ hk => hk.2) (.slice Ao34 t435.length co34)) (fun _ hk => hk.2) (.slice Ao33 t438.length co33)) (fun _ hk => hk.2) (.slice Ao32 t441.length co32)) (fun _ hk => hk.2) (.slice Ao31 t444.length co31)) (fun _ hk => hk.2) (.slice Ao97 x448004_3.length co97)) (fun _ hk => hk.2) (.slice Ao98 x448005_2.length co98)) (fun _ hk => hk.2) (.slice Ao99 x448006_3.length co99)) (fun _ hk => ⟨hk.1.2.1, ⟨hk.1.2.2.1, ⟨hk.1.2.2.2.1, ⟨hk.1.2.2.2.2.1, hk.1.2.2.2.2.2⟩⟩⟩⟩), by (with_reducible repeat (first | apply Kd.R_alloc | apply Kd.R_drewN | apply Kd.R_drew)); exact Kd.R_mono (Kd.R_far (p := ⟨gb431, 6, none⟩) (Kd.R_far (p := ⟨gb431, 5, none⟩) (Kd.R_far (p := ⟨gb431, 4, none⟩) (Kd.R_far (p := ⟨gb431, 3, none⟩) (Kd.R_far (p := ⟨gb431, 2, none⟩) (Kd.R_far (p := ⟨gb431, 1, none⟩) (Kd.R_far (p := ⟨gb431, 0, none⟩) (Kd.R_types HO_448002.out BK431.out (by decide)) (fun _ hk => hk.2) (.slice Ao34 t435.length co34)) (fun _ hk => hk.2) (.slice Ao33 t438.length co33)) (fun _ hk => hk.2) (.slice Ao32 t441.length co32)) (fun _ hk => hk.2) (.slice Ao31 t444.length co31)) (fun _ hk => hk.2) (.slice Ao97 x448004_3.length co97)) (fun _ hk => hk.2) (.slice Ao98 x448005_2.length co98)) (fun _ hk => hk.2) (.slice Ao99 x448006_3.length co99)) (fun _ hk => ⟨hk.1.2.1, ⟨hk.1.2.2.1, ⟨hk.1.2.2.2.1, ⟨hk.1.2.2.2.2.1, hk.1.2.2.2.2.2⟩⟩⟩⟩), by (with_reducible repeat (first | apply Kd.R_alloc | apply Kd.R_drewN | apply Kd.R_drew)); exact Kd.R_mono (Kd.R_far (p := ⟨gb431, 6, none⟩) (Kd.R_far (p := ⟨gb431, 5, none⟩) (Kd.R_far (p := ⟨gb431, 4, none⟩) (Kd.R_far (p := ⟨gb431, 3, none⟩) (Kd.R_far (p := ⟨gb431, 2, none⟩) (Kd.R_far (p := ⟨gb431, 1, none⟩) (Kd.R_far (p := ⟨gb431, 0, none⟩) (Kd.R_types HO_448003.out BK431.out (by decide)) (fun _ hk => hk.2) (.slice Ao34 t435.length co34)) (fun _ hk => hk.2) (.slice Ao33 t438.length co33)) (fun _ hk => hk.2) (.slice Ao32 t441.length co32)) (fun _ hk => hk.2) (.slice Ao31 t444.length co31)) (fun _ hk => hk.2) (.slice Ao97 x448004_3.length co97)) (fun _ hk => hk.2) (.slice Ao98 x448005_2.length co98)) (fun _ hk => hk.2) (.slice Ao99 x448006_3.length co99)) (fun _ hk => ⟨hk.1.2.1, ⟨hk.1.2.2.1, ⟨hk.1.2.2.2.1, ⟨hk.1.2.2.2.2.1, hk.1.2.2.2.2.2⟩⟩⟩⟩), by (with_reducible repeat (first | apply Kd.R_alloc | apply Kd.R_drewN | apply Kd.R_drew)); exact Kd.R_mono (Kd.R_far (p := ⟨gb431, 6, none⟩) (Kd.R_far (p := ⟨gb431, 5, none⟩) (Kd.R_far (p := ⟨gb431, 4, none⟩) (Kd.R_far (p := ⟨gb431, 3, none⟩) (Kd.R_far (p := ⟨gb431, 2, none⟩) (Kd.R_far (p := ⟨gb431, 1, none⟩) (Kd.R_far (p := ⟨gb431, 0, none⟩) (Kd.R_types HO_448004.out BK431.out (by decide)) (fun _ hk => hk.2) (.slice Ao34 t435.length co34)) (fun _ hk => hk.2) (.slice Ao33 t438.length co33)) (fun _ hk => hk.2) (.slice Ao32 t441.length co32)) (fun _ hk => hk.2) (.slice Ao31 t444.length co31)) (fun _ hk => hk.2) (.slice Ao97 x448004_3.length co97)) (fun _ hk => hk.2) (.slice Ao98 x448005_2.length co98)) (fun _ hk => hk.2) (.slice Ao99 x448006_3.length co99)) (fun _ hk => ⟨hk.1.2.1, ⟨hk.1.2.2.1, ⟨hk.1.2.2.2.1, ⟨hk.1.2.2.2.2.1, hk.1.2.2.2.2.2⟩⟩⟩⟩), by (with_reducible repeat (first | apply Kd.R_alloc | apply Kd.R_drewN | apply Kd.R_drew)); exact Kd.R_mono (Kd.R_far (p := ⟨gb431, 6, none⟩) (Kd.R_far (p := ⟨gb431, 5, none⟩) (Kd.R_far (p := ⟨gb431, 4, none⟩) (Kd.R_far (p := ⟨gb431, 3, none⟩) (Kd.R_far (p := ⟨gb431, 2, none⟩) (Kd.R_far (p := ⟨gb431, 1, none⟩) (Kd.R_far (p := ⟨gb431, 0, none⟩) (Kd.R_types HO_448005.out BK431.out (by decide)) (fun _ hk => hk.2) (.slice Ao34 t435.length co34)) (fun _ hk => hk.2) (.slice Ao33 t438.length co33)) (fun _ hk => hk.2) (.slice Ao32 t441.length co32)) (fun _ hk => hk.2) (.slice Ao31 t444.length co31)) (fun _ hk => hk.2) (.slice Ao97 x448004_3.length co97)) (fun _ hk => hk.2) (.slice Ao98 x448005_2.length co98)) (fun _ hk => hk.2) (.slice Ao99 x448006_3.length co99)) (fun _ hk => ⟨hk.1.2.1, ⟨hk.1.2.2.1, ⟨hk.1.2.2.2.1, ⟨hk.1.2.2.2.2.1, hk.1.2.2.2.2.2⟩⟩⟩⟩), by (with_reducible repeat (first | apply Kd.S_alloc | apply Kd.S_drewN | apply Kd.S_drew)); exact Kd.S_mono (Kd.S_far (p := ⟨gb431, 6, none⟩) (Kd.S_far (p := ⟨gb431, 5, none⟩) (Kd.S_far (p := ⟨gb431, 4, none⟩) (Kd.S_far (p := ⟨gb431, 3, none⟩) (Kd.S_far (p := ⟨gb431, 2, none⟩) (Kd.S_far (p := ⟨gb431, 1, none⟩) (Kd.S_far (p := ⟨gb431, 0, none⟩) (Kd.S_types HO_448006.out BK431.out (by decide)) (fun _ hk => hk.2) (.slice Ao34 t435.length co34)) (fun _ hk => hk.2) (.slice Ao33 t438.length co33)) (fun _ hk => hk.2) (.slice Ao32 t441.length co32)) (fun _ hk => hk.2) (.slice Ao31 t444.length co31)) (fun _ hk => hk.2) (.slice Ao97 x448004_3.length co97)) (fun _ hk => hk.2) (.slice Ao98 x448005_2.length co98)) (fun _ hk => hk.2) (.slice Ao99 x448006_3.length co99)) (fun _ hk => ⟨hk.1.2.1, ⟨hk.1.2.2.1, ⟨hk.1.2.2.2.1, ⟨hk.1.2.2.2.2.1, ⟨hk.1.2.2.2.2.2.1, hk.1.2.2.2.2.2.2⟩⟩⟩⟩⟩), z13_⟩

end Go.Proofs.Ytbmkobanpakohaa.PFnExactMedian
