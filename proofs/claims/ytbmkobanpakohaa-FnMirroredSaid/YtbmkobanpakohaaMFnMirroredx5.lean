/- Laid by a program of this session out of the kit's print for the law FnMirrored: what it says of the machine is proved here, function by function; each contract under the conditions that it names. -/
import Derived.Test.YtbmkobanpakohaaMFnMirroredx0
import Derived.Test.YtbmkobanpakohaaMFnMirroredx2
import Derived.Test.YtbmkobanpakohaaMFnMirroredx3
import Derived.Test.YtbmkobanpakohaaMFnMirroredx4
namespace Go.Proofs.Ytbmkobanpakohaa.PFnMirrored
open Go.RowKit Go.Proofs.YtbmkobanpakohaaW.PrintWords Go.Proofs.YtbmkobanpakohaaW.PrintLast Go.Proofs.YtbmkobanpakohaaW.PrintMore
attribute [local go_sem] max2_int min2_int max_two min_two max_three min_three max_four min_four   -- for this text's walks alone
set_option linter.unusedVariables false
set_option linter.unusedSimpArgs false

/-! ### impl_measureOf: function 67 -/
mutual
def impl_measureOf.j0 : Nat → List (S61) → List (S61) → Bool → List Int → List Int → List Int → Option (List Int × List Int × List Int × List Int × List Int × List Int × (List (List Int)) × Bool)
 | 0, _, _, _, _, _, _ => none
 | k + 1, x0, x1, x28, x159000, x159001, x159002 => if x28 = true then (some (([] : List Int), ([] : List Int), ([] : List Int), ([] : List Int), ([] : List Int), ([] : List Int), ([] : List (List Int)), false)) else ((impl_PostOrder.f k x0).bind fun t163 => ((impl_PostOrder.f k x1).bind fun t166 => ((impl_LeftLeaf.f k x0).bind fun t169 => ((impl_LeftLeaf.f k x1).bind fun t172 => (impl_measureOf.l0 k x0 x1 t166 (t166.length : Int) 0 x159000 x159001 x159002 t163 t166 t169 t172 ([] : List Int))))))
def impl_measureOf.l0 : Nat → List (S61) → List (S61) → List Int → Int → Int → List Int → List Int → List Int → List Int → List Int → List Int → List Int → List Int → Option (List Int × List Int × List Int × List Int × List Int × List Int × (List (List Int)) × Bool)
 | 0, _, _, _, _, _, _, _, _, _, _, _, _, _ => none
 | k + 1, x0, x1, x40, x41, x42, x159000, x159001, x159002, x176000, x176001, x176002, x176003, x176005 => if x42 < x41 then (if 0 ≤ x42 then (if x42 < (x40.length : Int) then (if 0 ≤ (rd x40 x42) then (if (rd x40 x42) < (x1.length : Int) then (if 0 ≤ ((rd_T61 x1 (rd x40 x42)).f0) then (if ((rd_T61 x1 (rd x40 x42)).f0) < (x159001.length : Int) then (if x176005.length < 17592186044416 then (impl_measureOf.l0 k x0 x1 x40 x41 (wrap64 (x42 + 1)) x159000 x159001 x159002 x176000 x176001 x176002 x176003 (x176005 ++ [rd x159001 ((rd_T61 x1 (rd x40 x42)).f0)])) else (none)) else (none)) else (none)) else (none)) else (none)) else (none)) else (none)) else (impl_measureOf.l1 k x0 x1 x176000 (x176000.length : Int) 0 x159000 x159001 x159002 x176000 x176001 x176002 x176003 ([] : List Int) x176005 ([] : List (List Int)))
def impl_measureOf.l1 : Nat → List (S61) → List (S61) → List Int → Int → Int → List Int → List Int → List Int → List Int → List Int → List Int → List Int → List Int → List Int → List (List Int) → Option (List Int × List Int × List Int × List Int × List Int × List Int × (List (List Int)) × Bool)
 | 0, _, _, _, _, _, _, _, _, _, _, _, _, _, _, _ => none
 | k + 1, x0, x1, x62, x63, x64, x159000, x159001, x159002, x176000, x176001, x176002, x176003, x176004, x176005, x176006 => if x64 < x63 then (if 0 ≤ x64 then (if x64 < (x62.length : Int) then (if 0 ≤ (rd x62 x64) then (if (rd x62 x64) < (x0.length : Int) then (if 0 ≤ ((rd_T61 x0 (rd x62 x64)).f0) then (if ((rd_T61 x0 (rd x62 x64)).f0) < (x159000.length : Int) then (if x176004.length < 17592186044416 then (impl_measureOf.l2 k x0 x1 (rd x62 x64) (([] : List Int)) x62 x63 x64 x176001 (x176001.length : Int) 0 x159000 x159001 x159002 x176000 x176001 x176002 x176003 (x176004 ++ [rd x159000 ((rd_T61 x0 (rd x62 x64)).f0)]) x176005 x176006) else (none)) else (none)) else (none)) else (none)) else (none)) else (none)) else (none)) else (some (x176000, x176001, x176002, x176003, x176004, x176005, x176006, true))
def impl_measureOf.l2 : Nat → List (S61) → List (S61) → Int → List Int → List Int → Int → Int → List Int → Int → Int → List Int → List Int → List Int → List Int → List Int → List Int → List Int → List Int → List Int → List (List Int) → Option (List Int × List Int × List Int × List Int × List Int × List Int × (List (List Int)) × Bool)
 | 0, _, _, _, _, _, _, _, _, _, _, _, _, _, _, _, _, _, _, _, _ => none
 | k + 1, x0, x1, x12, x13, x62, x63, x64, x84, x85, x86, x159000, x159001, x159002, x176000, x176001, x176002, x176003, x176004, x176005, x176006 => if x86 < x85 then (if 0 ≤ x86 then (if x86 < (x84.length : Int) then (if 0 ≤ x12 then (if x12 < (x0.length : Int) then (if 0 ≤ (rd x84 x86) then (if (rd x84 x86) < (x1.length : Int) then (if 0 ≤ (wrap64 ((wrap64 (((rd_T61 x0 x12).f0) * 6)) + ((rd_T61 x1 (rd x84 x86)).f0))) then (if (wrap64 ((wrap64 (((rd_T61 x0 x12).f0) * 6)) + ((rd_T61 x1 (rd x84 x86)).f0))) < (x159002.length : Int) then (if x13.length < 17592186044416 then (impl_measureOf.l2 k x0 x1 x12 (x13 ++ [rd x159002 (wrap64 ((wrap64 (((rd_T61 x0 x12).f0) * 6)) + ((rd_T61 x1 (rd x84 x86)).f0)))]) x62 x63 x64 x84 x85 (wrap64 (x86 + 1)) x159000 x159001 x159002 x176000 x176001 x176002 x176003 x176004 x176005 x176006) else (none)) else (none)) else (none)) else (none)) else (none)) else (none)) else (none)) else (none)) else (none)) else (if x176006.length < 5864062014805 then (impl_measureOf.l1 k x0 x1 x62 x63 (wrap64 (x64 + 1)) x159000 x159001 x159002 x176000 x176001 x176002 x176003 x176004 x176005 (x176006 ++ [x13])) else (none))
end
def impl_measureOf.f (k : Nat) (l0 : List (S61)) (l1 : List (S61)) (l2_0 : List Int) (l2_1 : List Int) (l2_2 : List Int) : Option (List Int × List Int × List Int × List Int × List Int × List Int × (List (List Int)) × Bool) := (impl_TreeOk.f k l0).bind fun t160 => (if t160 = true then ((impl_TreeOk.f k l1).bind fun t161 => (if t161 = true then ((impl_CostOk.f k l2_0 l2_1 l2_2).bind fun t162 => (impl_measureOf.j0 k l0 l1 (!t162) l2_0 l2_1 l2_2)) else (impl_measureOf.j0 k l0 l1 true l2_0 l2_1 l2_2))) else (impl_measureOf.j0 k l0 l1 true l2_0 l2_1 l2_2))
def impl_measureOf.T7 : Bool × List (List Nat × List Nat) := (true, [([], []), ([0], [0]), ([], []), ([2], [2]), ([], []), ([], []), ([4, 5], [4, 5]), ([6], [6]), ([7], [7]), ([3, 8], [3, 8]), ([9], [9]), ([10], [10]), ([1, 11], [1, 11]), ([0, 1, 2, 3, 4, 5, 6, 7, 8, 9, 10, 11, 12], []), ([13, 12, 12, 0, 1, 2, 3, 4, 5, 6, 7, 8, 9, 10, 11, 12], [12, 13])])
def impl_measureOf.B7 : List Nat := [0, 1, 0, 4, 0, 0, 48, 112, 240, 508, 1020, 2044, 4095, 8191, 16383]
theorem impl_measureOf.tab7 : rtab .any (opsOf Try.f67 7) = impl_measureOf.T7 := by kernel_rfl
theorem impl_measureOf.bits7 : waitsOk impl_measureOf.T7.2 impl_measureOf.B7 = true := by kernel_rfl
def impl_measureOf.T12 : Bool × List (List Nat × List Nat) := (true, [([], []), ([0], [0]), ([], []), ([2], [2]), ([], []), ([], []), ([4, 5], [4, 5]), ([6], [6]), ([7], [7]), ([3, 8], [3, 8]), ([9], [9]), ([10], [10]), ([1, 11], [1, 11]), ([0, 1, 2, 3, 4, 5, 6, 7, 8, 9, 10, 11, 12], []), ([13, 12, 12, 0, 1, 2, 3, 4, 5, 6, 7, 8, 9, 10, 11, 12], [12, 13])])
def impl_measureOf.B12 : List Nat := [0, 1, 0, 4, 0, 0, 48, 112, 240, 508, 1020, 2044, 4095, 8191, 16383]
theorem impl_measureOf.tab12 : rtab .any (opsOf Try.f67 12) = impl_measureOf.T12 := by kernel_rfl
theorem impl_measureOf.bits12 : waitsOk impl_measureOf.T12.2 impl_measureOf.B12 = true := by kernel_rfl
def impl_measureOf.T17 : Bool × List (List Nat × List Nat) := (true, [([], []), ([], []), ([1], [1]), ([], []), ([], []), ([3, 4], [3, 4]), ([5], [5]), ([6], [6]), ([7], [7]), ([], []), ([], []), ([9, 10], [9, 10]), ([11], [11]), ([12], [12]), ([8, 13], [8, 13]), ([2, 14], [2, 14]), ([15], [15]), ([16], [16]), ([0, 17], [0, 17]), ([18, 18, 0, 1, 2, 3, 4, 5, 6, 7, 8, 9, 10, 11, 12, 13, 14, 15, 16, 17, 18], [0, 18])])
def impl_measureOf.B17 : List Nat := [0, 0, 2, 0, 0, 24, 56, 120, 248, 0, 0, 1536, 3584, 7680, 16376, 32766, 65534, 131070, 262143, 524287]
theorem impl_measureOf.tab17 : rtab .any (opsOf Try.f67 17) = impl_measureOf.T17 := by kernel_rfl
theorem impl_measureOf.bits17 : waitsOk impl_measureOf.T17.2 impl_measureOf.B17 = true := by kernel_rfl
set_option maxHeartbeats 8000000 in
set_option maxRecDepth 100000 in
theorem impl_measureOf.calls (k : Nat) (A0 : Option Addr) (c0 : Nat) (l0 : List (S61)) (A1 : Option Addr) (c1 : Nat) (l1 : List (S61)) (A2_0 : Option Addr) (c2_0 : Nat) (l2_0 : List Int) (A2_1 : Option Addr) (c2_1 : Nat) (l2_1 : List Int) (A2_2 : Option Addr) (c2_2 : Nat) (l2_2 : List Int) (r1 : List Int) (r2 : List Int) (r3 : List Int) (r4 : List Int) (r5 : List Int) (r6 : List Int) (r7 : List (List Int)) (r8 : Bool) (w : World) (hr0 : Kd.C k61 w A0 l0.length l0) (hc0 : l0.length ≤ c0) (hr1 : Kd.C k61 w A1 l1.length l1) (hc1 : l1.length ≤ c1) (hr2_0 : Kd.C (Kd.int .i64) w A2_0 l2_0.length l2_0) (hc2_0 : l2_0.length ≤ c2_0) (hr2_1 : Kd.C (Kd.int .i64) w A2_1 l2_1.length l2_1) (hc2_1 : l2_1.length ≤ c2_1) (hr2_2 : Kd.C (Kd.int .i64) w A2_2 l2_2.length l2_2) (hc2_2 : l2_2.length ≤ c2_2) (h : impl_measureOf.f k l0 l1 l2_0 l2_1 l2_2 = some (r1, r2, r3, r4, r5, r6, r7, r8)) :
  Calls Try.prog 67 #[.slice A0 l0.length c0, .slice A1 l1.length c1, .agg #[.slice A2_0 l2_0.length c2_0, .slice A2_1 l2_1.length c2_1, .slice A2_2 l2_2.length c2_2]] w fun e w' => ∃ v0_ v1_ v2_ v3_ v4_ v5_ v6_ : Value, e = .returned (.tuple #[.agg #[v0_, v1_, v2_, v3_, v4_, v5_, v6_], .bool r8]) ∧ Kd.R (Kd.int .i64) 3 w' w.heap.size (fun k_ => some k_ ≠ (v1_ : Value).ownBlock ∧ some k_ ≠ (v2_ : Value).ownBlock ∧ some k_ ≠ (v3_ : Value).ownBlock ∧ some k_ ≠ (v4_ : Value).ownBlock ∧ some k_ ≠ (v5_ : Value).ownBlock) v0_ r1 ∧ Kd.R (Kd.int .i64) 3 w' w.heap.size (fun k_ => some k_ ≠ (v0_ : Value).ownBlock ∧ some k_ ≠ (v2_ : Value).ownBlock ∧ some k_ ≠ (v3_ : Value).ownBlock ∧ some k_ ≠ (v4_ : Value).ownBlock ∧ some k_ ≠ (v5_ : Value).ownBlock) v1_ r2 ∧ Kd.R (Kd.int .i64) 3 w' w.heap.size (fun k_ => some k_ ≠ (v0_ : Value).ownBlock ∧ some k_ ≠ (v1_ : Value).ownBlock ∧ some k_ ≠ (v3_ : Value).ownBlock ∧ some k_ ≠ (v4_ : Value).ownBlock ∧ some k_ ≠ (v5_ : Value).ownBlock) v2_ r3 ∧ Kd.R (Kd.int .i64) 3 w' w.heap.size (fun k_ => some k_ ≠ (v0_ : Value).ownBlock ∧ some k_ ≠ (v1_ : Value).ownBlock ∧ some k_ ≠ (v2_ : Value).ownBlock ∧ some k_ ≠ (v4_ : Value).ownBlock ∧ some k_ ≠ (v5_ : Value).ownBlock) v3_ r4 ∧ Kd.R (Kd.int .i64) 3 w' w.heap.size (fun k_ => some k_ ≠ (v0_ : Value).ownBlock ∧ some k_ ≠ (v1_ : Value).ownBlock ∧ some k_ ≠ (v2_ : Value).ownBlock ∧ some k_ ≠ (v3_ : Value).ownBlock ∧ some k_ ≠ (v5_ : Value).ownBlock) v4_ r5 ∧ Kd.R (Kd.int .i64) 3 w' w.heap.size (fun k_ => some k_ ≠ (v0_ : Value).ownBlock ∧ some k_ ≠ (v1_ : Value).ownBlock ∧ some k_ ≠ (v2_ : Value).ownBlock ∧ some k_ ≠ (v3_ : Value).ownBlock ∧ some k_ ≠ (v4_ : Value).ownBlock) v5_ r6 ∧ Kd.S (Kd.slice 3 (Kd.int .i64)) 30 w' w.heap.size (fun k_ => some k_ ≠ (v0_ : Value).ownBlock ∧ some k_ ≠ (v1_ : Value).ownBlock ∧ some k_ ≠ (v2_ : Value).ownBlock ∧ some k_ ≠ (v3_ : Value).ownBlock ∧ some k_ ≠ (v4_ : Value).ownBlock ∧ some k_ ≠ (v5_ : Value).ownBlock) v6_ r7 ∧ Below w.heap.size w w' := by
 have hu38 := Try.underlying38
 have hu91 := Try.underlying91
 have HR0 := Aside0.mk hr0
 have HC0 := Aside0.mk hc0
 clear hr0 hc0
 have HR1 := Aside0.mk hr1
 have HC1 := Aside0.mk hc1
 clear hr1 hc1
 have HR2_0 := Aside0.mk hr2_0
 have HC2_0 := Aside0.mk hc2_0
 clear hr2_0 hc2_0
 have HR2_1 := Aside0.mk hr2_1
 have HC2_1 := Aside0.mk hc2_1
 clear hr2_1 hc2_1
 have HR2_2 := Aside0.mk hr2_2
 have HC2_2 := Aside0.mk hc2_2
 clear hr2_2 hc2_2
 have HB := Aside0.mk (Below.refl w.heap.size w)
 have H : ((impl_TreeOk.f k l0).bind fun t160 => (if t160 = true then ((impl_TreeOk.f k l1).bind fun t161 => (if t161 = true then ((impl_CostOk.f k l2_0 l2_1 l2_2).bind fun t162 => (impl_measureOf.j0 k l0 l1 (!t162) l2_0 l2_1 l2_2)) else (impl_measureOf.j0 k l0 l1 true l2_0 l2_1 l2_2))) else (impl_measureOf.j0 k l0 l1 true l2_0 l2_1 l2_2))) = some (r1, r2, r3, r4, r5, r6, r7, r8) := h
 clear h
 have HC4 := Aside0.mk H
 clear H
 go_enter Try.func67, Try.ntmps67
 go_upto_region 1 with (first | ((with_reducible refine gate_dst (N := 5) rfl ?_); refine box_event ?hg (N := 5) ?hd (cs := #[.slice A2_0 l2_0.length c2_0, .slice A2_1 l2_1.length c2_1, .slice A2_2 l2_2.length c2_2]) (t := 38) ?hr ?_; (case hd => rfl); (case hg => rfl); (case hr => exact z19_); intro gb158 hg w5 hbox hb; have BK158 := Aside0.mk (hbox); have GW158 := Aside0.mk ((by rw [hg]; exact (below_size z0_) : w.heap.size ≤ gb158)); have GE158 := Aside0.mk ((by rw [hg]; exact (below_size z0_) : w.heap.size ≤ gb158)); replace HB := Aside0.mk (below_step z0_ hb); clear hb hbox hg) | ((with_reducible refine gate_dst (N := 6) rfl ?_); refine box_event ?hg (N := 6) ?hd (cs := #[.slice none 0 0, .slice none 0 0, .slice none 0 0, .slice none 0 0, .slice none 0 0, .slice none 0 0, .slice none 0 0]) (t := 91) ?hr ?_; (case hd => rfl); (case hg => rfl); (case hr => exact z19_); intro gb159 hg w6 hbox hb; have BK159 := Aside0.mk (hbox); have GW159 := Aside0.mk ((by rw [hg]; exact (below_size z166_) : w.heap.size ≤ gb159)); have GE159 := Aside0.mk ((by rw [hg]; exact (below_size z166_) : w.heap.size ≤ gb159)); replace HB := Aside0.mk (below_step z166_ hb); have NB158_159 := Aside0.mk ((by rw [hg]; exact Nat.ne_of_lt (blk_lt (g := gb158) (o := .cells #[.slice A2_0 l2_0.length c2_0, .slice A2_1 l2_1.length c2_1, .slice A2_2 l2_2.length c2_2] 38 (0, 0)) z26_) : gb158 ≠ gb159)); have NB159_158 := Aside0.mk ((by rw [hg]; exact Nat.ne_of_gt (blk_lt (g := gb158) (o := .cells #[.slice A2_0 l2_0.length c2_0, .slice A2_1 l2_1.length c2_1, .slice A2_2 l2_2.length c2_2] 38 (0, 0)) z26_) : gb159 ≠ gb158)); replace BK158 := Aside0.mk (blk_below z26_ hb); clear hb hbox hg))
 go_cut [28] (fun v28 wc => ∃ (kq : Nat) (x28_3 : Bool), v28 = .bool x28_3 ∧ Aside0 (impl_measureOf.j0 kq l0 l1 x28_3 l2_0 l2_1 l2_2 = some (r1, r2, r3, r4, r5, r6, r7, r8)) ∧ Aside0 (kq ≤ k) ∧ Aside0 (wc.heap[gb158]? = some (.cells #[(.slice A2_0 l2_0.length c2_0), (.slice A2_1 l2_1.length c2_1), (.slice A2_2 l2_2.length c2_2)] 38 (0, 0))) ∧ Aside0 (wc.heap[gb159]? = some (.cells #[(.slice none 0 0), (.slice none 0 0), (.slice none 0 0), (.slice none 0 0), (.slice none 0 0), (.slice none 0 0), (.slice none 0 0)] 91 (0, 0))) ∧ Aside0 (Below w.heap.size w wc))
 case first =>
  have H := HC4.out
  clear HC4
  obtain ⟨t160, A7, H⟩ := bnd_ H
  by_cases c8 : t160 = true
  ·subst c8
   replace H := ift_ H
   obtain ⟨t161, A9, H⟩ := bnd_ H
   by_cases c10 : t161 = true
   ·subst c10
    replace H := ift_ H
    obtain ⟨t162, A11, H⟩ := bnd_ H
    have H' := Aside0.mk H
    clear H
    go_wp2_with (first | ((with_reducible refine gate_callee (f := 57) rfl ?_); refine goesL_ (some 17) rfl rfl Try.func57 (by kernel_rfl) rfl #[.slice A0 l0.length c0] rfl z1_ ?_; (with_reducible refine (impl_TreeOk.calls k _ _ l0 true _ ?side1 ?side2 A7.out).mono ?_); (case side1 => exact z7_); (case side2 => exact HC0.out); rintro e w12 ⟨rfl, hb⟩; refine ⟨_, rfl, ?_⟩; replace BK158 := Aside0.mk (blk_below z26_ hb); replace BK159 := Aside0.mk (blk_below z34_ hb); replace HB := Aside0.mk (below_step z13_ hb); (try clear hb)) | (go_at_call 57; (with_reducible refine (impl_TreeOk.calls k _ _ l1 true _ ?side1 ?side2 A9.out).mono ?_); (case side1 => exact z80_); (case side2 => exact HC1.out); rintro e w13 ⟨rfl, hb⟩; replace BK158 := Aside0.mk (blk_below z26_ hb); replace BK159 := Aside0.mk (blk_below z34_ hb); replace HB := Aside0.mk (below_step z13_ hb); (try clear hb); have hnb14 := NB158_159.out; have hnc14 := NB159_158.out; obtain ⟨hcz15_0, hcz15_1, hcz15_2, hfz15_0, hfz15_1, hfz15_2⟩ := bx3_ BK158.out) | (go_at_call 69; (with_reducible refine (impl_CostOk.calls k _ _ l2_0 _ _ l2_1 _ _ l2_2 t162 _ ?side1 ?side2 ?side3 ?side4 ?side5 ?side6 A11.out).mono ?_); (case side1 => exact z124_); (case side2 => exact HC2_0.out); (case side3 => exact z125_); (case side4 => exact HC2_1.out); (case side5 => exact z126_); (case side6 => exact HC2_2.out); rintro e w16 ⟨rfl, hb⟩; replace BK158 := Aside0.mk (blk_below z26_ hb); replace BK159 := Aside0.mk (blk_below z34_ hb); replace HB := Aside0.mk (below_step z13_ hb); (try clear hb)))
    go_meet
    case rel => exact ⟨_, (!t162), z10_, H', ⟨z152_⟩, ⟨z26_⟩, ⟨z34_⟩, ⟨z13_⟩⟩
   ·replace c10 := Bool.eq_false_iff.mpr c10
    subst c10
    replace H := iff_ H
    have H' := Aside0.mk H
    clear H
    go_wp2_with (first | ((with_reducible refine gate_callee (f := 57) rfl ?_); refine goesL_ (some 17) rfl rfl Try.func57 (by kernel_rfl) rfl #[.slice A0 l0.length c0] rfl z1_ ?_; (with_reducible refine (impl_TreeOk.calls k _ _ l0 true _ ?side1 ?side2 A7.out).mono ?_); (case side1 => exact z7_); (case side2 => exact HC0.out); rintro e w17 ⟨rfl, hb⟩; refine ⟨_, rfl, ?_⟩; replace BK158 := Aside0.mk (blk_below z26_ hb); replace BK159 := Aside0.mk (blk_below z34_ hb); replace HB := Aside0.mk (below_step z13_ hb); (try clear hb)) | (go_at_call 57; (with_reducible refine (impl_TreeOk.calls k _ _ l1 false _ ?side1 ?side2 A9.out).mono ?_); (case side1 => exact z80_); (case side2 => exact HC1.out); rintro e w18 ⟨rfl, hb⟩; replace BK158 := Aside0.mk (blk_below z26_ hb); replace BK159 := Aside0.mk (blk_below z34_ hb); replace HB := Aside0.mk (below_step z13_ hb); (try clear hb)))
    go_meet
    case rel => exact ⟨_, (true), z10_, H', ⟨z152_⟩, ⟨z26_⟩, ⟨z34_⟩, ⟨z13_⟩⟩
  ·replace c8 := Bool.eq_false_iff.mpr c8
   subst c8
   replace H := iff_ H
   have H' := Aside0.mk H
   clear H
   go_wp2_with (((with_reducible refine gate_callee (f := 57) rfl ?_); refine goesL_ (some 17) rfl rfl Try.func57 (by kernel_rfl) rfl #[.slice A0 l0.length c0] rfl z1_ ?_; (with_reducible refine (impl_TreeOk.calls k _ _ l0 false _ ?side1 ?side2 A7.out).mono ?_); (case side1 => exact z7_); (case side2 => exact HC0.out); rintro e w19 ⟨rfl, hb⟩; refine ⟨_, rfl, ?_⟩; replace BK158 := Aside0.mk (blk_below z26_ hb); replace BK159 := Aside0.mk (blk_below z34_ hb); replace HB := Aside0.mk (below_step z13_ hb); (try clear hb)))
   go_meet
   case rel => exact ⟨_, (true), z10_, H', ⟨z152_⟩, ⟨z26_⟩, ⟨z34_⟩, ⟨z13_⟩⟩
 case rest =>
  clear HC4
  obtain ⟨kq, x28_3, rfl, HA, HJ3, BK158, BK159, HB⟩ := hcut
  cases kq with
  | zero => exact absurd HA.out (by simp [impl_measureOf.j0])
  | succ kj3 =>
   have H := HA.out
   clear HA
   simp only [impl_measureOf.j0] at H
   by_cases c20 : x28_3 = true
   ·subst c20
    replace H := ift_ H
    simp only [Option.some.injEq, Prod.mk.injEq] at H
    obtain ⟨rfl, rfl, rfl, rfl, rfl, rfl, rfl, rfl⟩ := H
    have hnb21 := NB159_158.out
    have hnc21 := NB158_159.out
    obtain ⟨hcz22_0, hcz22_1, hcz22_2, hcz22_3, hcz22_4, hcz22_5, hcz22_6, hfz22_0, hfz22_1, hfz22_2, hfz22_3, hfz22_4, hfz22_5, hfz22_6⟩ := bx7_ BK159.out
    go_wp2
    refine bodyPost_ret (results_ct rfl _ _ gb159 91 #[.slice none 0 0, .slice none 0 0, .slice none 0 0, .slice none 0 0, .slice none 0 0, .slice none 0 0, .slice none 0 0] (0, 0) _ rfl (by refine blk_put (cs := #[.slice none 0 0, .slice none 0 0, .slice none 0 0, .slice none 0 0, .slice none 0 0, .slice none 0 0, .slice none 0 0]) ?_ 6 _ rfl; refine blk_put (cs := #[.slice none 0 0, .slice none 0 0, .slice none 0 0, .slice none 0 0, .slice none 0 0, .slice none 0 0, .slice none 0 0]) ?_ 5 _ rfl; refine blk_put (cs := #[.slice none 0 0, .slice none 0 0, .slice none 0 0, .slice none 0 0, .slice none 0 0, .slice none 0 0, .slice none 0 0]) ?_ 4 _ rfl; refine blk_put (cs := #[.slice none 0 0, .slice none 0 0, .slice none 0 0, .slice none 0 0, .slice none 0 0, .slice none 0 0, .slice none 0 0]) ?_ 3 _ rfl; refine blk_put (cs := #[.slice none 0 0, .slice none 0 0, .slice none 0 0, .slice none 0 0, .slice none 0 0, .slice none 0 0, .slice none 0 0]) ?_ 2 _ rfl; refine blk_put (cs := #[.slice none 0 0, .slice none 0 0, .slice none 0 0, .slice none 0 0, .slice none 0 0, .slice none 0 0, .slice none 0 0]) ?_ 1 _ rfl; refine blk_put (cs := #[.slice none 0 0, .slice none 0 0, .slice none 0 0, .slice none 0 0, .slice none 0 0, .slice none 0 0, .slice none 0 0]) ?_ 0 _ rfl; exact BK159.out) Try.underlying91 rfl (by kernel_rfl)) rfl ?_
    exact ⟨_, _, _, _, _, _, _, z6_, z62_, z62_, z62_, z62_, z62_, z62_, z210_, z13_⟩
   ·replace c20 := Bool.eq_false_iff.mpr c20
    subst c20
    replace H := iff_ H
    obtain ⟨t163, A23, H⟩ := bnd_ H
    obtain ⟨t166, A24, H⟩ := bnd_ H
    obtain ⟨t169, A25, H⟩ := bnd_ H
    obtain ⟨t172, A26, H⟩ := bnd_ H
    have H' := Aside0.mk H
    clear H
    go_wp2_with (first | ((with_reducible refine gate_callee (f := 85) rfl ?_); refine goesL_ (some 31) rfl rfl Try.func85 (by kernel_rfl) rfl #[.slice A0 l0.length c0] rfl z1_ ?_; (with_reducible refine (impl_PostOrder.calls kj3 _ _ l0 t163 _ ?side1 ?side2 A23.out).mono ?_); (case side1 => exact z7_); (case side2 => exact HC0.out); rintro e w27 ⟨v164, rfl, ho0, hb⟩; refine ⟨_, rfl, ?_⟩; have HO165 := Aside0.mk (Kd.R_lower ho0 (below_size z13_)); replace BK158 := Aside0.mk (blk_below z26_ hb); replace BK159 := Aside0.mk (blk_below z34_ hb); replace HB := Aside0.mk (below_step z13_ hb); (try clear hb ho0)) | ((with_reducible refine gate_callee (f := 85) rfl ?_); refine goesL_ (some 33) rfl rfl Try.func85 (by kernel_rfl) rfl #[.slice A1 l1.length c1] rfl z1_ ?_; (with_reducible refine (impl_PostOrder.calls kj3 _ _ l1 t166 _ ?side1 ?side2 A24.out).mono ?_); (case side1 => exact z80_); (case side2 => exact HC1.out); rintro e w28 ⟨v167, rfl, ho0, hb⟩; refine ⟨_, rfl, ?_⟩; have HO168 := Aside0.mk (Kd.R_lower (Kd.R_new' ho0 (Kd.R_lt z113_)) (below_size z13_)); replace HO165 := Aside0.mk (Kd.R_elder' z113_ (Kd.R_base ho0) hb); replace BK158 := Aside0.mk (blk_below z26_ hb); replace BK159 := Aside0.mk (blk_below z34_ hb); replace HB := Aside0.mk (below_step z13_ hb); (try clear hb ho0)) | ((with_reducible refine gate_callee (f := 86) rfl ?_); refine goesL_ (some 35) rfl rfl Try.func86 (by kernel_rfl) rfl #[.slice A0 l0.length c0] rfl z1_ ?_; (with_reducible refine (impl_LeftLeaf.calls kj3 _ _ l0 t169 _ ?side1 ?side2 A25.out).mono ?_); (case side1 => exact z7_); (case side2 => exact HC0.out); rintro e w29 ⟨v170, rfl, ho0, hb⟩; refine ⟨_, rfl, ?_⟩; have HO171 := Aside0.mk (Kd.R_lower (Kd.R_new' (Kd.R_new' ho0 (Kd.R_lt z113_)) (Kd.R_lt z153_)) (below_size z13_)); replace HO165 := Aside0.mk (Kd.R_elder' z113_ (Kd.R_base ho0) hb); replace HO168 := Aside0.mk (Kd.R_elder' z153_ (Kd.R_base ho0) hb); replace BK158 := Aside0.mk (blk_below z26_ hb); replace BK159 := Aside0.mk (blk_below z34_ hb); replace HB := Aside0.mk (below_step z13_ hb); (try clear hb ho0)) | ((with_reducible refine gate_callee (f := 86) rfl ?_); refine goesL_ (some 37) rfl rfl Try.func86 (by kernel_rfl) rfl #[.slice A1 l1.length c1] rfl z1_ ?_; (with_reducible refine (impl_LeftLeaf.calls kj3 _ _ l1 t172 _ ?side1 ?side2 A26.out).mono ?_); (case side1 => exact z80_); (case side2 => exact HC1.out); rintro e w30 ⟨v173, rfl, ho0, hb⟩; refine ⟨_, rfl, ?_⟩; have HO174 := Aside0.mk (Kd.R_lower (Kd.R_new' (Kd.R_new' (Kd.R_new' ho0 (Kd.R_lt z113_)) (Kd.R_lt z153_)) (Kd.R_lt z193_)) (below_size z13_)); replace HO165 := Aside0.mk (Kd.R_elder' z113_ (Kd.R_base ho0) hb); replace HO168 := Aside0.mk (Kd.R_elder' z153_ (Kd.R_base ho0) hb); replace HO171 := Aside0.mk (Kd.R_elder' z193_ (Kd.R_base ho0) hb); replace BK158 := Aside0.mk (blk_below z26_ hb); replace BK159 := Aside0.mk (blk_below z34_ hb); replace HB := Aside0.mk (below_step z13_ hb); (try clear hb ho0); obtain ⟨Ao31, co31, eo31⟩ := Kd.R_slice HO174.out; subst eo31; obtain ⟨Ao32, co32, eo32⟩ := Kd.R_slice HO171.out; subst eo32; obtain ⟨Ao33, co33, eo33⟩ := Kd.R_slice HO168.out; subst eo33; obtain ⟨Ao34, co34, eo34⟩ := Kd.R_slice HO165.out; subst eo34) | ((with_reducible refine gate_dst (N := 8) rfl ?_); refine box_event ?hg (N := 8) ?hd (cs := #[.slice none 0 0, .slice none 0 0, .slice none 0 0, .slice none 0 0, .slice none 0 0, .slice none 0 0, .slice none 0 0]) (t := 91) ?hr ?_; (case hd => rfl); (case hg => rfl); (case hr => exact z19_); intro gb175 hg w35 hbox hb; replace HO165 := Aside0.mk (Kd.R_below z113_ hb); replace HO168 := Aside0.mk (Kd.R_below z153_ hb); replace HO171 := Aside0.mk (Kd.R_below z193_ hb); replace HO174 := Aside0.mk (Kd.R_below (by exact HO174.out) hb); have BK175 := Aside0.mk (hbox); have GW175 := Aside0.mk ((by rw [hg]; exact (below_size z13_) : w.heap.size ≤ gb175)); have GE175 := Aside0.mk ((by rw [hg]; exact (below_size z13_) : w.heap.size ≤ gb175)); replace HB := Aside0.mk (below_step z13_ hb); have NB158_175 := Aside0.mk ((by rw [hg]; exact Nat.ne_of_lt (blk_lt (g := gb158) (o := .cells #[.slice A2_0 l2_0.length c2_0, .slice A2_1 l2_1.length c2_1, .slice A2_2 l2_2.length c2_2] 38 (0, 0)) z26_) : gb158 ≠ gb175)); have NB175_158 := Aside0.mk ((by rw [hg]; exact Nat.ne_of_gt (blk_lt (g := gb158) (o := .cells #[.slice A2_0 l2_0.length c2_0, .slice A2_1 l2_1.length c2_1, .slice A2_2 l2_2.length c2_2] 38 (0, 0)) z26_) : gb175 ≠ gb158)); replace BK158 := Aside0.mk (blk_below z26_ hb); have NB159_175 := Aside0.mk ((by rw [hg]; exact Nat.ne_of_lt (blk_lt (g := gb159) (o := .cells #[.slice none 0 0, .slice none 0 0, .slice none 0 0, .slice none 0 0, .slice none 0 0, .slice none 0 0, .slice none 0 0] 91 (0, 0)) z34_) : gb159 ≠ gb175)); have NB175_159 := Aside0.mk ((by rw [hg]; exact Nat.ne_of_gt (blk_lt (g := gb159) (o := .cells #[.slice none 0 0, .slice none 0 0, .slice none 0 0, .slice none 0 0, .slice none 0 0, .slice none 0 0, .slice none 0 0] 91 (0, 0)) z34_) : gb175 ≠ gb159)); replace BK159 := Aside0.mk (blk_below z34_ hb); clear hb hbox hg; have hnb36 := NB175_158.out; have hnc36 := NB158_175.out; have hnb37 := NB175_159.out; have hnc37 := NB159_175.out; obtain ⟨hcz38_0, hcz38_1, hcz38_2, hcz38_3, hcz38_4, hcz38_5, hcz38_6, hfz38_0, hfz38_1, hfz38_2, hfz38_3, hfz38_4, hfz38_5, hfz38_6⟩ := bx7_ BK175.out))
    go_loopg [42] kj3 (fun kq v42 w' => ∃ (x42_2 : Int) (x176005_2 : List Int) (u176005 : Value), v42 = .int .i64 x42_2 ∧ Aside0 (impl_measureOf.l0 kq l0 l1 t166 (t166.length : Int) x42_2 l2_0 l2_1 l2_2 t163 t166 t169 t172 x176005_2 = some (r1, r2, r3, r4, r5, r6, r7, r8)) ∧ Aside0 (kq ≤ kj3) ∧ Aside0 (Kd.R (Kd.int .i64) 3 w' w.heap.size (fun k_ => some k_ ≠ ((.slice Ao34 t163.length co34) : Value).ownBlock ∧ some k_ ≠ ((.slice Ao32 t169.length co32) : Value).ownBlock ∧ some k_ ≠ ((.slice Ao31 t172.length co31) : Value).ownBlock ∧ some k_ ≠ (u176005 : Value).ownBlock) (.slice Ao33 t166.length co33) t166) ∧ Aside0 (Kd.R (Kd.int .i64) 3 w' w.heap.size (fun k_ => some k_ ≠ ((.slice Ao33 t166.length co33) : Value).ownBlock ∧ some k_ ≠ ((.slice Ao33 t166.length co33) : Value).ownBlock ∧ some k_ ≠ ((.slice Ao32 t169.length co32) : Value).ownBlock ∧ some k_ ≠ ((.slice Ao31 t172.length co31) : Value).ownBlock ∧ some k_ ≠ (u176005 : Value).ownBlock) (.slice Ao34 t163.length co34) t163) ∧ Aside0 (Kd.R (Kd.int .i64) 3 w' w.heap.size (fun k_ => some k_ ≠ ((.slice Ao34 t163.length co34) : Value).ownBlock ∧ some k_ ≠ ((.slice Ao32 t169.length co32) : Value).ownBlock ∧ some k_ ≠ ((.slice Ao31 t172.length co31) : Value).ownBlock ∧ some k_ ≠ (u176005 : Value).ownBlock) (.slice Ao33 t166.length co33) t166) ∧ Aside0 (Kd.R (Kd.int .i64) 3 w' w.heap.size (fun k_ => some k_ ≠ ((.slice Ao33 t166.length co33) : Value).ownBlock ∧ some k_ ≠ ((.slice Ao34 t163.length co34) : Value).ownBlock ∧ some k_ ≠ ((.slice Ao33 t166.length co33) : Value).ownBlock ∧ some k_ ≠ ((.slice Ao31 t172.length co31) : Value).ownBlock ∧ some k_ ≠ (u176005 : Value).ownBlock) (.slice Ao32 t169.length co32) t169) ∧ Aside0 (Kd.R (Kd.int .i64) 3 w' w.heap.size (fun k_ => some k_ ≠ ((.slice Ao33 t166.length co33) : Value).ownBlock ∧ some k_ ≠ ((.slice Ao34 t163.length co34) : Value).ownBlock ∧ some k_ ≠ ((.slice Ao33 t166.length co33) : Value).ownBlock ∧ some k_ ≠ ((.slice Ao32 t169.length co32) : Value).ownBlock ∧ some k_ ≠ (u176005 : Value).ownBlock) (.slice Ao31 t172.length co31) t172) ∧ Aside0 (Kd.R (Kd.int .i64) 3 w' w.heap.size (fun k_ => some k_ ≠ ((.slice Ao33 t166.length co33) : Value).ownBlock ∧ some k_ ≠ ((.slice Ao34 t163.length co34) : Value).ownBlock ∧ some k_ ≠ ((.slice Ao33 t166.length co33) : Value).ownBlock ∧ some k_ ≠ ((.slice Ao32 t169.length co32) : Value).ownBlock ∧ some k_ ≠ ((.slice Ao31 t172.length co31) : Value).ownBlock) u176005 x176005_2) ∧ Aside0 (w'.heap[gb158]? = some (.cells #[(.slice A2_0 l2_0.length c2_0), (.slice A2_1 l2_1.length c2_1), (.slice A2_2 l2_2.length c2_2)] 38 (0, 0))) ∧ Aside0 (w'.heap[gb159]? = some (.cells #[(.slice none 0 0), (.slice none 0 0), (.slice none 0 0), (.slice none 0 0), (.slice none 0 0), (.slice none 0 0), (.slice none 0 0)] 91 (0, 0))) ∧ Aside0 (w'.heap[gb175]? = some (.cells #[(.slice Ao34 t163.length co34), (.slice Ao33 t166.length co33), (.slice Ao32 t169.length co32), (.slice Ao31 t172.length co31), (.slice none 0 0), u176005, (.slice none 0 0)] 91 (0, 0))) ∧ Aside0 (Below w.heap.size w w'))
    case atStart => exact ⟨(0), (([] : List Int)), (.slice none 0 0), z10_, H', ⟨Nat.le_refl _⟩, ⟨z61_⟩, ⟨by exact Kd.R_mono (Kd.R_far (p := ⟨gb175, 6, none⟩) (Kd.R_far (p := ⟨gb175, 5, none⟩) (Kd.R_far (p := ⟨gb175, 4, none⟩) (Kd.R_far (p := ⟨gb175, 3, none⟩) (Kd.R_far (p := ⟨gb175, 2, none⟩) (Kd.R_far (p := ⟨gb175, 1, none⟩) (Kd.R_far (p := ⟨gb175, 0, none⟩) (Kd.R_types HO165.out BK175.out (by decide)) (fun _ hk => hk.2) (.slice Ao34 t163.length co34)) (fun _ hk => hk.2) (.slice Ao33 t166.length co33)) (fun _ hk => hk.2) (.slice Ao32 t169.length co32)) (fun _ hk => hk.2) (.slice Ao31 t172.length co31)) (fun _ hk => hk.2) (.slice none 0 0)) (fun _ hk => hk.2) (.slice none 0 0)) (fun _ hk => hk.2) (.slice none 0 0)) (fun _ hk => ⟨hk.1.1.1.2, ⟨hk.1.1.1.2, ⟨hk.1.1.2, ⟨hk.1.2, z217_⟩⟩⟩⟩)⟩, ⟨z61_⟩, ⟨by exact Kd.R_mono (Kd.R_far (p := ⟨gb175, 6, none⟩) (Kd.R_far (p := ⟨gb175, 5, none⟩) (Kd.R_far (p := ⟨gb175, 4, none⟩) (Kd.R_far (p := ⟨gb175, 3, none⟩) (Kd.R_far (p := ⟨gb175, 2, none⟩) (Kd.R_far (p := ⟨gb175, 1, none⟩) (Kd.R_far (p := ⟨gb175, 0, none⟩) (Kd.R_types HO171.out BK175.out (by decide)) (fun _ hk => hk.2) (.slice Ao34 t163.length co34)) (fun _ hk => hk.2) (.slice Ao33 t166.length co33)) (fun _ hk => hk.2) (.slice Ao32 t169.length co32)) (fun _ hk => hk.2) (.slice Ao31 t172.length co31)) (fun _ hk => hk.2) (.slice none 0 0)) (fun _ hk => hk.2) (.slice none 0 0)) (fun _ hk => hk.2) (.slice none 0 0)) (fun _ hk => ⟨hk.1.1.2, ⟨hk.1.1.1.2, ⟨hk.1.1.2, ⟨hk.1.2, z217_⟩⟩⟩⟩)⟩, ⟨by exact Kd.R_mono (Kd.R_far (p := ⟨gb175, 6, none⟩) (Kd.R_far (p := ⟨gb175, 5, none⟩) (Kd.R_far (p := ⟨gb175, 4, none⟩) (Kd.R_far (p := ⟨gb175, 3, none⟩) (Kd.R_far (p := ⟨gb175, 2, none⟩) (Kd.R_far (p := ⟨gb175, 1, none⟩) (Kd.R_far (p := ⟨gb175, 0, none⟩) (Kd.R_types HO174.out BK175.out (by decide)) (fun _ hk => hk.2) (.slice Ao34 t163.length co34)) (fun _ hk => hk.2) (.slice Ao33 t166.length co33)) (fun _ hk => hk.2) (.slice Ao32 t169.length co32)) (fun _ hk => hk.2) (.slice Ao31 t172.length co31)) (fun _ hk => hk.2) (.slice none 0 0)) (fun _ hk => hk.2) (.slice none 0 0)) (fun _ hk => hk.2) (.slice none 0 0)) (fun _ hk => ⟨hk.1.1.2, ⟨hk.1.1.1.2, ⟨hk.1.1.2, ⟨hk.1.2, z217_⟩⟩⟩⟩)⟩, ⟨z62_⟩, ⟨by refine blk_far ?_ NB158_175.out _; refine blk_far ?_ NB158_175.out _; refine blk_far ?_ NB158_175.out _; refine blk_far ?_ NB158_175.out _; refine blk_far ?_ NB158_175.out _; refine blk_far ?_ NB158_175.out _; refine blk_far ?_ NB158_175.out _; exact BK158.out⟩, ⟨by refine blk_far ?_ NB159_175.out _; refine blk_far ?_ NB159_175.out _; refine blk_far ?_ NB159_175.out _; refine blk_far ?_ NB159_175.out _; refine blk_far ?_ NB159_175.out _; refine blk_far ?_ NB159_175.out _; refine blk_far ?_ NB159_175.out _; exact BK159.out⟩, ⟨by refine blk_put (cs := #[.slice Ao34 t163.length co34, .slice Ao33 t166.length co33, .slice Ao32 t169.length co32, .slice Ao31 t172.length co31, .slice none 0 0, .slice none 0 0, .slice none 0 0]) ?_ 6 _ rfl; refine blk_put (cs := #[.slice Ao34 t163.length co34, .slice Ao33 t166.length co33, .slice Ao32 t169.length co32, .slice Ao31 t172.length co31, .slice none 0 0, .slice none 0 0, .slice none 0 0]) ?_ 5 _ rfl; refine blk_put (cs := #[.slice Ao34 t163.length co34, .slice Ao33 t166.length co33, .slice Ao32 t169.length co32, .slice Ao31 t172.length co31, .slice none 0 0, .slice none 0 0, .slice none 0 0]) ?_ 4 _ rfl; refine blk_put (cs := #[.slice Ao34 t163.length co34, .slice Ao33 t166.length co33, .slice Ao32 t169.length co32, .slice none 0 0, .slice none 0 0, .slice none 0 0, .slice none 0 0]) ?_ 3 _ rfl; refine blk_put (cs := #[.slice Ao34 t163.length co34, .slice Ao33 t166.length co33, .slice none 0 0, .slice none 0 0, .slice none 0 0, .slice none 0 0, .slice none 0 0]) ?_ 2 _ rfl; refine blk_put (cs := #[.slice Ao34 t163.length co34, .slice none 0 0, .slice none 0 0, .slice none 0 0, .slice none 0 0, .slice none 0 0, .slice none 0 0]) ?_ 1 _ rfl; refine blk_put (cs := #[.slice none 0 0, .slice none 0 0, .slice none 0 0, .slice none 0 0, .slice none 0 0, .slice none 0 0, .slice none 0 0]) ?_ 0 _ rfl; exact BK175.out⟩, ⟨z14_⟩⟩
    case round =>
     clear H'
     obtain ⟨x42_2, x176005_2, u176005, rfl, HA, HK2, HO_40, HO_176000, HO_176001, HO_176002, HO_176003, HO_176005, BK158, BK159, BK175, HB⟩ := hrel
     cases gk with
     | zero => exact absurd HA.out (by simp [impl_measureOf.l0])
     | succ k2 =>
      have H := HA.out
      clear HA
      simp only [impl_measureOf.l0] at H
      by_cases c39 : x42_2 < (t166.length : Int)
      ·rw [if_pos c39] at H
       have c39b0 := decide_eq_true c39
       clear c39
       obtain ⟨c40b0, H⟩ := ifd_ H
       obtain ⟨c41b0, H⟩ := ifd_ H
       obtain ⟨c42b0, H⟩ := ifd_ H
       obtain ⟨c43b0, H⟩ := ifd_ H
       obtain ⟨c44b0, H⟩ := ifd_ H
       obtain ⟨c45b0, H⟩ := ifd_ H
       obtain ⟨c46, H⟩ := ifs_ H
       have LMc46 := Aside0.mk c46
       clear c46
       (generalize hy_ : ((x176005_2 ++ [rd l2_1 ((rd_T61 l1 (rd t166 x42_2)).f0)]) : List Int) = y179 at H; have Ny179 := Aside0.mk hy_.symm; clear hy_)
       have H' := Aside0.mk H
       clear H
       have p176 : 0 ≤ (x42_2 : Int) := odt_
       have q176 : x42_2 < (t166.length : Int) := odt_
       obtain ⟨ad176, e176, hx176_0⟩ := Kd.at_int (Kd.R_reads' HO_40.out).2.2 x42_2 p176 q176
       cases e176
       replace p176 := eq_true p176
       replace q176 := eq_true q176
       try go_wp2
       have n0_ := Aside0.mk (Kd.R_drew HO_40.out)
       have n1_ := Aside0.mk (Kd.R_drew HO_176000.out)
       have n2_ := Aside0.mk (Kd.R_drew HO_176001.out)
       have n3_ := Aside0.mk (Kd.R_drew HO_176002.out)
       have n4_ := Aside0.mk (Kd.R_drew HO_176003.out)
       have n5_ := Aside0.mk (Kd.R_drew HO_176005.out)
       have n6_ := Aside0.mk (blk_drew BK158.out)
       have n7_ := Aside0.mk (blk_drew BK159.out)
       have n8_ := Aside0.mk (blk_drew BK175.out)
       have n9_ := Aside0.mk (below_drew1 HB.out)
       clear HO_40
       clear HO_176000
       clear HO_176001
       clear HO_176002
       clear HO_176003
       clear HO_176005
       clear BK158
       clear BK159
       clear BK175
       clear HB
       have HO_40 := n0_
       have HO_176000 := n1_
       have HO_176001 := n2_
       have HO_176002 := n3_
       have HO_176003 := n4_
       have HO_176005 := n5_
       have BK158 := n6_
       have BK159 := n7_
       have BK175 := n8_
       have HB := n9_
       clear n0_ n1_ n2_ n3_ n4_ n5_ n6_ n7_ n8_ n9_
       obtain ⟨p177, q177, ad177, e177, hw177_0, hw177_1, hx177_0, hx177_1⟩ := atw61_ HR1 HB (rd t166 x42_2)
       cases e177
       have p178 : 0 ≤ (((rd_T61 l1 (rd t166 x42_2)).f0) : Int) := odt_
       have q178 : ((rd_T61 l1 (rd t166 x42_2)).f0) < (l2_1.length : Int) := odt_
       obtain ⟨ad178, e178, hx178_0⟩ := Kd.at_int HR2_1.out ((rd_T61 l1 (rd t166 x42_2)).f0) p178 q178
       have hw178_0 := hx178_0
       cases e178
       replace hx178_0 := (HB.out.cell (World.block_lt_of_cell? w _ hx178_0)).trans hx178_0
       replace p178 := eq_true p178
       replace q178 := eq_true q178
       refine start_ (n := 15) (S := fun w' => w'.cell? ⟨gb175, 0, none⟩ = some (.slice Ao34 t163.length co34) ∧ w'.cell? ⟨gb175, 1, none⟩ = some (.slice (some ad176) t166.length co33) ∧ w'.cell? ⟨gb175, 2, none⟩ = some (.slice Ao32 t169.length co32) ∧ w'.cell? ⟨gb175, 3, none⟩ = some (.slice Ao31 t172.length co31) ∧ w'.cell? ⟨gb175, 4, none⟩ = some (.slice none 0 0) ∧ w'.cell? ⟨gb175, 5, none⟩ = some (u176005) ∧ w'.cell? ⟨gb175, 6, none⟩ = some (.slice none 0 0) ∧ w'.cell? ⟨gb158, 0, none⟩ = some (.slice A2_0 l2_0.length c2_0) ∧ w'.cell? ⟨gb158, 1, none⟩ = some (.slice (some ad178) l2_1.length c2_1) ∧ w'.cell? ⟨gb158, 2, none⟩ = some (.slice A2_2 l2_2.length c2_2) ∧ w'.cell? (ad177.add (((rd t166 x42_2)).toNat * 2)) = some (.int .i64 ((rd_T61 l1 (rd t166 x42_2)).f0)) ∧ w'.cell? ⟨(ad177.add (((rd t166 x42_2)).toNat * 2)).block, (ad177.add (((rd t166 x42_2)).toNat * 2)).off + 1, none⟩ = some (.int .i64 ((rd_T61 l1 (rd t166 x42_2)).f1)) ∧ w'.cell? (ad178.add (((rd_T61 l1 (rd t166 x42_2)).f0)).toNat) = some (.int .i64 (rd l2_1 ((rd_T61 l1 (rd t166 x42_2)).f0)))) (ds := [14]) (fl_ 15 0) (by kernel_rfl) rfl (fl_zero _) ⟨(blk_cell BK175.out 0).trans rfl, (blk_cell BK175.out 1).trans rfl, (blk_cell BK175.out 2).trans rfl, (blk_cell BK175.out 3).trans rfl, (blk_cell BK175.out 4).trans rfl, (blk_cell BK175.out 5).trans rfl, (blk_cell BK175.out 6).trans rfl, (blk_cell BK158.out 0).trans rfl, (blk_cell BK158.out 1).trans rfl, (blk_cell BK158.out 2).trans rfl, ((HB.out.cell (World.block_lt_of_cell? w _ hw177_0)).trans hw177_0), ((HB.out.cell (World.block_lt_of_cell? w _ hw177_1)).trans hw177_1), ((HB.out.cell (World.block_lt_of_cell? w _ hw178_0)).trans hw178_0)⟩ (fun hHeld => ?_); refine with_tabW impl_measureOf.tab7 impl_measureOf.bits7 (fun HT_ HW_ => ?_)
       generalize wr.drew = w47 at HO_40 HO_176000 HO_176001 HO_176002 HO_176003 HO_176005 BK158 BK159 BK175 HB hx177_0 hx177_1 hx178_0 hHeld ⊢
       refine zp_ HT_ rfl rfl (by kernel_rfl) (fun _ _ _ h => h) (by rfl) ?_
       refine zpg_ (i := 2) (ra_ [1, 1, 1, 12]) HT_ rfl rfl (by kernel_rfl) (fun _ _ _ h => h) (by rfl) ?_
       refine zpg_ (i := 4) (ra_ [1, 1, 1, 1, 1, 10]) HT_ rfl rfl (by kernel_rfl) (fun _ _ _ h => h) (by rfl) ?_
       refine zpg_ (i := 5) (ra_ [1, 1, 1, 1, 2, 9]) HT_ rfl rfl (by kernel_rfl) (fun _ _ _ h => h) (by rfl) ?_
       refine zpg_ (i := 6) (ra_ [1, 1, 1, 1, 3, 8]) HT_ rfl rfl (by kernel_rfl) (fun _ _ _ h => h) (by rfl) ?_
       refine zpg_ (i := 7) (ra_ [1, 1, 1, 1, 4, 7]) HT_ rfl rfl (by kernel_rfl) (fun _ _ _ h => h) (by rfl) ?_
       refine ztg_ (i := 1) (ra_ [3, 1, 4, 7]) HT_ HW_ rfl rfl (by kernel_rfl) (fun _ _ _ h => h) (by rfl) hHeld ?_ z69_
       refine ztg_ (i := 3) (fl_ 15 8) HT_ HW_ rfl rfl (by kernel_rfl) (fun _ _ _ h => h) (by rfl) hHeld ?_ z69_
       refine zt_ HT_ HW_ rfl rfl (by kernel_rfl) (fun _ _ _ h => h) (by rfl) hHeld ?_ z69_
       refine zp_ HT_ rfl rfl (by kernel_rfl) (fun _ _ _ h => h) (by rfl) ?_
       refine zt_ HT_ HW_ rfl rfl (by kernel_rfl) (fun _ _ _ h => h) (by rfl) hHeld ?_ z69_
       refine one_ (i := 11) (N := some 57) (fl_ 15 12) rfl rfl (one_of HT_.out (by kernel_rfl)) (by decide) (fun K hK => ?_)
       refine value_ (w1 := ?_) (v := ?_) (by rfl) rfl ?_ ?_
       rotate_left 2
       ·go_simp
        constructor
        ·rfl
        ·rfl
       refine hK.out _ _ ⟨(blk_cell (blk_alloc BK175.out _) 0).trans rfl, (blk_cell (blk_alloc BK175.out _) 1).trans rfl, (blk_cell (blk_alloc BK175.out _) 2).trans rfl, (blk_cell (blk_alloc BK175.out _) 3).trans rfl, (blk_cell (blk_alloc BK175.out _) 4).trans rfl, (blk_cell (blk_alloc BK175.out _) 5).trans rfl, (blk_cell (blk_alloc BK175.out _) 6).trans rfl, (blk_cell (blk_alloc BK158.out _) 0).trans rfl, (blk_cell (blk_alloc BK158.out _) 1).trans rfl, (blk_cell (blk_alloc BK158.out _) 2).trans rfl, (World.cell?_alloc_lt _ _ _ (World.block_lt_of_cell? _ _ (((HB.out.cell (World.block_lt_of_cell? w _ hw177_0)).trans hw177_0)))).trans (((HB.out.cell (World.block_lt_of_cell? w _ hw177_0)).trans hw177_0)), (World.cell?_alloc_lt _ _ _ (World.block_lt_of_cell? _ _ (((HB.out.cell (World.block_lt_of_cell? w _ hw177_1)).trans hw177_1)))).trans (((HB.out.cell (World.block_lt_of_cell? w _ hw177_1)).trans hw177_1)), (World.cell?_alloc_lt _ _ _ (World.block_lt_of_cell? _ _ (((HB.out.cell (World.block_lt_of_cell? w _ hw178_0)).trans hw178_0)))).trans (((HB.out.cell (World.block_lt_of_cell? w _ hw178_0)).trans hw178_0))⟩ (fun hHeld => ?_)
       clear hK K
       refine zn_ rfl ?_
       refine one_ (i := 12) (N := some 58) (fl_ 15 13) rfl rfl (one_of HT_.out (by kernel_rfl)) (by decide) (fun K hK => ?_)
       refine Kd.R_append_step (Kd.int .i64) (w0 := w) w.heap.size (by rfl) (.tmp 47) (.tmp 57) 30 3 (.int .i64 0) 8 rfl Try.underlying30 info3 rfl (by decide) (by omega) u176005 x176005_2 (rd l2_1 ((rd_T61 l1 (rd t166 x42_2)).f0)) [.int .i64 (rd l2_1 ((rd_T61 l1 (rd t166 x42_2)).f0))] (fun k_ => some k_ ≠ (.slice (some ad176) t166.length co33 : Value).ownBlock ∧ some k_ ≠ (.slice Ao34 t163.length co34 : Value).ownBlock ∧ some k_ ≠ (.slice (some ad176) t166.length co33 : Value).ownBlock ∧ some k_ ≠ (.slice Ao32 t169.length co32 : Value).ownBlock ∧ some k_ ≠ (.slice Ao31 t172.length co31 : Value).ownBlock) (fun _ => False) rfl rfl ?aP (fun _ hk => hk.elim) ?aF ?aO ?aB ?aS ?aL ?_
       (case aP => exact rfl)
       (case aB => exact z86_)
       (case aF => exact (fun k_ hk => ⟨Kd.fresh' (Kd.R_lt (by exact HO_40.out)) k_ hk, Kd.fresh' (Kd.R_lt z147_) k_ hk, Kd.fresh' (Kd.R_lt z148_) k_ hk, Kd.fresh' (Kd.R_lt z149_) k_ hk, Kd.fresh' (Kd.R_lt z150_) k_ hk⟩))
       (case aO => exact z151_)
       (case aS => exact z83_)
       (case aL => have := LMc46.out; omega)
       intro v180 w48 ho hb hg hat
       rw [← Ny179.out] at ho
       have n0_ := Aside0.mk (Kd.R_after (ok := (fun k_ => some k_ ≠ (.slice Ao34 t163.length co34 : Value).ownBlock ∧ some k_ ≠ (.slice Ao32 t169.length co32 : Value).ownBlock ∧ some k_ ≠ (.slice Ao31 t172.length co31 : Value).ownBlock)) (by exact Kd.R_mono HO_40.out (fun _ hk => ⟨⟨hk.1, ⟨hk.2.1, hk.2.2.1⟩⟩, hk.2.2.2⟩)) hg hat)
       have n1_ := Aside0.mk (Kd.R_after (ok := (fun k_ => some k_ ≠ (.slice (some ad176) t166.length co33 : Value).ownBlock ∧ some k_ ≠ (.slice (some ad176) t166.length co33 : Value).ownBlock ∧ some k_ ≠ (.slice Ao32 t169.length co32 : Value).ownBlock ∧ some k_ ≠ (.slice Ao31 t172.length co31 : Value).ownBlock)) (by exact Kd.R_mono HO_176000.out (fun _ hk => ⟨⟨hk.1, ⟨hk.2.1, ⟨hk.2.2.1, hk.2.2.2.1⟩⟩⟩, hk.2.2.2.2⟩)) hg hat)
       have n2_ := Aside0.mk (Kd.R_after (ok := (fun k_ => some k_ ≠ (.slice Ao34 t163.length co34 : Value).ownBlock ∧ some k_ ≠ (.slice Ao32 t169.length co32 : Value).ownBlock ∧ some k_ ≠ (.slice Ao31 t172.length co31 : Value).ownBlock)) (by exact Kd.R_mono HO_176001.out (fun _ hk => ⟨⟨hk.1, ⟨hk.2.1, hk.2.2.1⟩⟩, hk.2.2.2⟩)) hg hat)
       have n3_ := Aside0.mk (Kd.R_after (ok := (fun k_ => some k_ ≠ (.slice (some ad176) t166.length co33 : Value).ownBlock ∧ some k_ ≠ (.slice Ao34 t163.length co34 : Value).ownBlock ∧ some k_ ≠ (.slice (some ad176) t166.length co33 : Value).ownBlock ∧ some k_ ≠ (.slice Ao31 t172.length co31 : Value).ownBlock)) (by exact Kd.R_mono HO_176002.out (fun _ hk => ⟨⟨hk.1, ⟨hk.2.1, ⟨hk.2.2.1, hk.2.2.2.1⟩⟩⟩, hk.2.2.2.2⟩)) hg hat)
       have n4_ := Aside0.mk (Kd.R_after (ok := (fun k_ => some k_ ≠ (.slice (some ad176) t166.length co33 : Value).ownBlock ∧ some k_ ≠ (.slice Ao34 t163.length co34 : Value).ownBlock ∧ some k_ ≠ (.slice (some ad176) t166.length co33 : Value).ownBlock ∧ some k_ ≠ (.slice Ao32 t169.length co32 : Value).ownBlock)) (by exact Kd.R_mono HO_176003.out (fun _ hk => ⟨⟨hk.1, ⟨hk.2.1, ⟨hk.2.2.1, hk.2.2.2.1⟩⟩⟩, hk.2.2.2.2⟩)) hg hat)
       have n5_ := Aside0.mk (blk_grown z26_ hg (Kd.R_ne HO_176005.out BK158.out (by decide)))
       have n6_ := Aside0.mk (blk_grown z34_ hg (Kd.R_ne HO_176005.out BK159.out (by decide)))
       have n7_ := Aside0.mk (blk_grown z103_ hg (Kd.R_ne HO_176005.out BK175.out (by decide)))
       have n8_ := Aside0.mk (hb)
       have n9_ := Aside0.mk (ho)
       clear HO_40
       clear HO_176000
       clear HO_176001
       clear HO_176002
       clear HO_176003
       clear BK158
       clear BK159
       clear BK175
       clear HB
       clear HO_176005
       have HO_40 := n0_
       have HO_176000 := n1_
       have HO_176001 := n2_
       have HO_176002 := n3_
       have HO_176003 := n4_
       have BK158 := n5_
       have BK159 := n6_
       have BK175 := n7_
       have HB := n8_
       have HO181 := n9_
       clear n0_ n1_ n2_ n3_ n4_ n5_ n6_ n7_ n8_ n9_
       clear ho hb hg hat
       obtain ⟨Ao49, co49, eo49⟩ := Kd.R_slice HO181.out
       (subst eo49)
       refine hK.out _ _ ⟨(blk_cell BK175.out 0).trans rfl, (blk_cell BK175.out 1).trans rfl, (blk_cell BK175.out 2).trans rfl, (blk_cell BK175.out 3).trans rfl, (blk_cell BK175.out 4).trans rfl, (blk_cell BK175.out 5).trans rfl, (blk_cell BK175.out 6).trans rfl, (blk_cell BK158.out 0).trans rfl, (blk_cell BK158.out 1).trans rfl, (blk_cell BK158.out 2).trans rfl, ((HB.out.cell (World.block_lt_of_cell? w _ hw177_0)).trans hw177_0), ((HB.out.cell (World.block_lt_of_cell? w _ hw177_1)).trans hw177_1), ((HB.out.cell (World.block_lt_of_cell? w _ hw178_0)).trans hw178_0)⟩ (fun hHeld => ?_)
       clear hK K
       refine zn_ rfl ?_
       refine zp_ HT_ rfl rfl (by kernel_rfl) (fun _ _ _ h => h) (by rfl) ?_
       refine last_ (i := 14) (N := none) (fl_ 15 15) rfl rfl (one_of HT_.out (by kernel_rfl)) (by decide) (fun K hK => ?_)
       have hs50 : w48.cell? ⟨gb175, 5, none⟩ = some (u176005) := (blk_cell BK175.out 5).trans rfl
       have hfs50 := blk_frozen BK175.out 5
       have hns50_0 := NB158_175.out
       have hns50_1 := NB159_175.out
       have hms50_0 := NB175_158.out
       have hms50_1 := NB175_159.out
       refine skip_ (w1 := ?_) (by rfl) rfl ?_ ?_
       rotate_left
       ·go_simp
        rfl
       refine hK.out _ _ ?_
       clear hK K
       refine done_ (done_of HT_.out (by kernel_rfl)) ?_
       try go_wp2
       go_roundg k2
       case measure => have := HJ3.out; have := HK2.out; omega
       case rel => exact ⟨(wrap64 (x42_2 + 1)), (y179), (.slice Ao49 y179.length co49), z10_, H', ⟨by have := HJ3.out; have := HK2.out; omega⟩, ⟨by exact Kd.R_mono (Kd.R_far (p := ⟨gb175, 5, none⟩) (Kd.R_types HO_40.out BK175.out (by decide)) (fun _ hk => hk.2) (.slice Ao49 y179.length co49)) (fun _ hk => ⟨hk.1.1.1, ⟨hk.1.1.2.1, ⟨hk.1.1.2.2, hk.1.2⟩⟩⟩)⟩, ⟨by exact Kd.R_mono (Kd.R_far (p := ⟨gb175, 5, none⟩) (Kd.R_types HO_176000.out BK175.out (by decide)) (fun _ hk => hk.2) (.slice Ao49 y179.length co49)) (fun _ hk => ⟨hk.1.1.1, ⟨hk.1.1.2.1, ⟨hk.1.1.2.2.1, ⟨hk.1.1.2.2.2, hk.1.2⟩⟩⟩⟩)⟩, ⟨by exact Kd.R_mono (Kd.R_far (p := ⟨gb175, 5, none⟩) (Kd.R_types HO_176001.out BK175.out (by decide)) (fun _ hk => hk.2) (.slice Ao49 y179.length co49)) (fun _ hk => ⟨hk.1.1.1, ⟨hk.1.1.2.1, ⟨hk.1.1.2.2, hk.1.2⟩⟩⟩)⟩, ⟨by exact Kd.R_mono (Kd.R_far (p := ⟨gb175, 5, none⟩) (Kd.R_types HO_176002.out BK175.out (by decide)) (fun _ hk => hk.2) (.slice Ao49 y179.length co49)) (fun _ hk => ⟨hk.1.1.1, ⟨hk.1.1.2.1, ⟨hk.1.1.2.2.1, ⟨hk.1.1.2.2.2, hk.1.2⟩⟩⟩⟩)⟩, ⟨by exact Kd.R_mono (Kd.R_far (p := ⟨gb175, 5, none⟩) (Kd.R_types HO_176003.out BK175.out (by decide)) (fun _ hk => hk.2) (.slice Ao49 y179.length co49)) (fun _ hk => ⟨hk.1.1.1, ⟨hk.1.1.2.1, ⟨hk.1.1.2.2.1, ⟨hk.1.1.2.2.2, hk.1.2⟩⟩⟩⟩)⟩, ⟨by exact Kd.R_mono (Kd.R_far (p := ⟨gb175, 5, none⟩) (Kd.R_types HO181.out BK175.out (by decide)) (fun _ hk => hk.2) (.slice Ao49 y179.length co49)) (fun _ hk => ⟨hk.1.1, ⟨hk.1.2.1, ⟨hk.1.2.2.1, ⟨hk.1.2.2.2.1, hk.1.2.2.2.2⟩⟩⟩⟩)⟩, ⟨z108_⟩, ⟨z109_⟩, ⟨by refine blk_put (cs := #[.slice Ao34 t163.length co34, .slice (some ad176) t166.length co33, .slice Ao32 t169.length co32, .slice Ao31 t172.length co31, .slice none 0 0, u176005, .slice none 0 0]) ?_ 5 _ rfl; exact BK175.out⟩, ⟨z14_⟩⟩
      ·rw [if_neg c39] at H
       have c39b0 := decide_eq_false c39
       clear c39
       have H' := Aside0.mk H
       clear H
       have hnb51 := NB175_158.out
       have hnc51 := NB158_175.out
       have hnb52 := NB175_159.out
       have hnc52 := NB159_175.out
       obtain ⟨hcz53_0, hcz53_1, hcz53_2, hcz53_3, hcz53_4, hcz53_5, hcz53_6, hfz53_0, hfz53_1, hfz53_2, hfz53_3, hfz53_4, hfz53_5, hfz53_6⟩ := bx7_ BK175.out
       go_wp2
       go_loopg [64] k2 (fun kq v64 w' => ∃ (x64_3 : Int) (x176004_3 : List Int) (x176006_3 : List (List Int)) (u176004 : Value) (u176006 : Value), v64 = .int .i64 x64_3 ∧ Aside0 (impl_measureOf.l1 kq l0 l1 t163 (t163.length : Int) x64_3 l2_0 l2_1 l2_2 t163 t166 t169 t172 x176004_3 x176005_2 x176006_3 = some (r1, r2, r3, r4, r5, r6, r7, r8)) ∧ Aside0 (kq ≤ k2) ∧ Aside0 (Kd.R (Kd.int .i64) 3 w' w.heap.size (fun k_ => some k_ ≠ ((.slice Ao33 t166.length co33) : Value).ownBlock ∧ some k_ ≠ ((.slice Ao32 t169.length co32) : Value).ownBlock ∧ some k_ ≠ ((.slice Ao31 t172.length co31) : Value).ownBlock ∧ some k_ ≠ (u176004 : Value).ownBlock ∧ some k_ ≠ (u176005 : Value).ownBlock) (.slice Ao34 t163.length co34) t163) ∧ Aside0 (Kd.R (Kd.int .i64) 3 w' w.heap.size (fun k_ => some k_ ≠ ((.slice Ao33 t166.length co33) : Value).ownBlock ∧ some k_ ≠ ((.slice Ao32 t169.length co32) : Value).ownBlock ∧ some k_ ≠ ((.slice Ao31 t172.length co31) : Value).ownBlock ∧ some k_ ≠ (u176004 : Value).ownBlock ∧ some k_ ≠ (u176005 : Value).ownBlock) (.slice Ao34 t163.length co34) t163) ∧ Aside0 (Kd.R (Kd.int .i64) 3 w' w.heap.size (fun k_ => some k_ ≠ ((.slice Ao34 t163.length co34) : Value).ownBlock ∧ some k_ ≠ ((.slice Ao34 t163.length co34) : Value).ownBlock ∧ some k_ ≠ ((.slice Ao32 t169.length co32) : Value).ownBlock ∧ some k_ ≠ ((.slice Ao31 t172.length co31) : Value).ownBlock ∧ some k_ ≠ (u176004 : Value).ownBlock ∧ some k_ ≠ (u176005 : Value).ownBlock) (.slice Ao33 t166.length co33) t166) ∧ Aside0 (Kd.R (Kd.int .i64) 3 w' w.heap.size (fun k_ => some k_ ≠ ((.slice Ao34 t163.length co34) : Value).ownBlock ∧ some k_ ≠ ((.slice Ao34 t163.length co34) : Value).ownBlock ∧ some k_ ≠ ((.slice Ao33 t166.length co33) : Value).ownBlock ∧ some k_ ≠ ((.slice Ao31 t172.length co31) : Value).ownBlock ∧ some k_ ≠ (u176004 : Value).ownBlock ∧ some k_ ≠ (u176005 : Value).ownBlock) (.slice Ao32 t169.length co32) t169) ∧ Aside0 (Kd.R (Kd.int .i64) 3 w' w.heap.size (fun k_ => some k_ ≠ ((.slice Ao34 t163.length co34) : Value).ownBlock ∧ some k_ ≠ ((.slice Ao34 t163.length co34) : Value).ownBlock ∧ some k_ ≠ ((.slice Ao33 t166.length co33) : Value).ownBlock ∧ some k_ ≠ ((.slice Ao32 t169.length co32) : Value).ownBlock ∧ some k_ ≠ (u176004 : Value).ownBlock ∧ some k_ ≠ (u176005 : Value).ownBlock) (.slice Ao31 t172.length co31) t172) ∧ Aside0 (Kd.R (Kd.int .i64) 3 w' w.heap.size (fun k_ => some k_ ≠ ((.slice Ao34 t163.length co34) : Value).ownBlock ∧ some k_ ≠ ((.slice Ao34 t163.length co34) : Value).ownBlock ∧ some k_ ≠ ((.slice Ao33 t166.length co33) : Value).ownBlock ∧ some k_ ≠ ((.slice Ao32 t169.length co32) : Value).ownBlock ∧ some k_ ≠ ((.slice Ao31 t172.length co31) : Value).ownBlock ∧ some k_ ≠ (u176005 : Value).ownBlock) u176004 x176004_3) ∧ Aside0 (Kd.R (Kd.int .i64) 3 w' w.heap.size (fun k_ => some k_ ≠ ((.slice Ao34 t163.length co34) : Value).ownBlock ∧ some k_ ≠ ((.slice Ao34 t163.length co34) : Value).ownBlock ∧ some k_ ≠ ((.slice Ao33 t166.length co33) : Value).ownBlock ∧ some k_ ≠ ((.slice Ao32 t169.length co32) : Value).ownBlock ∧ some k_ ≠ ((.slice Ao31 t172.length co31) : Value).ownBlock ∧ some k_ ≠ (u176004 : Value).ownBlock) u176005 x176005_2) ∧ Aside0 (Kd.S (Kd.slice 3 (Kd.int .i64)) 30 w' w.heap.size (fun k_ => some k_ ≠ ((.slice Ao34 t163.length co34) : Value).ownBlock ∧ some k_ ≠ ((.slice Ao34 t163.length co34) : Value).ownBlock ∧ some k_ ≠ ((.slice Ao33 t166.length co33) : Value).ownBlock ∧ some k_ ≠ ((.slice Ao32 t169.length co32) : Value).ownBlock ∧ some k_ ≠ ((.slice Ao31 t172.length co31) : Value).ownBlock ∧ some k_ ≠ (u176004 : Value).ownBlock ∧ some k_ ≠ (u176005 : Value).ownBlock) u176006 x176006_3) ∧ Aside0 (w'.heap[gb158]? = some (.cells #[(.slice A2_0 l2_0.length c2_0), (.slice A2_1 l2_1.length c2_1), (.slice A2_2 l2_2.length c2_2)] 38 (0, 0))) ∧ Aside0 (w'.heap[gb159]? = some (.cells #[(.slice none 0 0), (.slice none 0 0), (.slice none 0 0), (.slice none 0 0), (.slice none 0 0), (.slice none 0 0), (.slice none 0 0)] 91 (0, 0))) ∧ Aside0 (w'.heap[gb175]? = some (.cells #[(.slice Ao34 t163.length co34), (.slice Ao33 t166.length co33), (.slice Ao32 t169.length co32), (.slice Ao31 t172.length co31), u176004, u176005, u176006] 91 (0, 0))) ∧ Aside0 (Below w.heap.size w w'))
       case atStart => exact ⟨(0), (([] : List Int)), (([] : List (List Int))), (.slice none 0 0), (.slice none 0 0), z10_, H', ⟨Nat.le_refl _⟩, ⟨z177_⟩, ⟨z177_⟩, ⟨by exact Kd.R_mono HO_176001.out (fun _ hk => ⟨hk.1, ⟨hk.1, ⟨hk.2.1, ⟨hk.2.2.1, ⟨z217_, hk.2.2.2⟩⟩⟩⟩⟩)⟩, ⟨by exact Kd.R_mono HO_176002.out (fun _ hk => ⟨hk.2.1, ⟨hk.2.1, ⟨hk.2.2.1, ⟨hk.2.2.2.1, ⟨z217_, hk.2.2.2.2⟩⟩⟩⟩⟩)⟩, ⟨by exact Kd.R_mono HO_176003.out (fun _ hk => ⟨hk.2.1, ⟨hk.2.1, ⟨hk.2.2.1, ⟨hk.2.2.2.1, ⟨z217_, hk.2.2.2.2⟩⟩⟩⟩⟩)⟩, ⟨z62_⟩, ⟨by exact Kd.R_mono HO_176005.out (fun _ hk => ⟨hk.2.1, ⟨hk.2.1, ⟨hk.2.2.1, ⟨hk.2.2.2.1, ⟨hk.2.2.2.2, z217_⟩⟩⟩⟩⟩)⟩, ⟨z210_⟩, ⟨z26_⟩, ⟨z34_⟩, ⟨z103_⟩, ⟨z14_⟩⟩
       case round =>
        clear H'
        obtain ⟨x64_3, x176004_3, x176006_3, u176004, u176006, rfl, HA, HK3, HO_62, HO_176000, HO_176001, HO_176002, HO_176003, HO_176004, HO_176005, HO_176006, BK158, BK159, BK175, HB⟩ := hrel
        cases gk with
        | zero => exact absurd HA.out (by simp [impl_measureOf.l1])
        | succ k3 =>
         have H := HA.out
         clear HA
         simp only [impl_measureOf.l1] at H
         by_cases c54 : x64_3 < (t163.length : Int)
         ·rw [if_pos c54] at H
          have c54b0 := decide_eq_true c54
          clear c54
          obtain ⟨c55b0, H⟩ := ifd_ H
          obtain ⟨c56b0, H⟩ := ifd_ H
          obtain ⟨c57b0, H⟩ := ifd_ H
          obtain ⟨c58b0, H⟩ := ifd_ H
          obtain ⟨c59b0, H⟩ := ifd_ H
          obtain ⟨c60b0, H⟩ := ifd_ H
          obtain ⟨c61, H⟩ := ifs_ H
          have LMc61 := Aside0.mk c61
          clear c61
          (generalize hy_ : ((x176004_3 ++ [rd l2_0 ((rd_T61 l0 (rd t163 x64_3)).f0)]) : List Int) = y185 at H; have Ny185 := Aside0.mk hy_.symm; clear hy_)
          (generalize hy_ : ((([] : List Int)) : List Int) = y188 at H; have Ny188 := Aside0.mk hy_.symm; clear hy_)
          have H' := Aside0.mk H
          clear H
          have p182 : 0 ≤ (x64_3 : Int) := odt_
          have q182 : x64_3 < (t163.length : Int) := odt_
          obtain ⟨ad182, e182, hx182_0⟩ := Kd.at_int (Kd.R_reads' HO_62.out).2.2 x64_3 p182 q182
          cases e182
          replace p182 := eq_true p182
          replace q182 := eq_true q182
          try go_wp2
          have n0_ := Aside0.mk (Kd.R_drew HO_62.out)
          have n1_ := Aside0.mk (Kd.R_drew HO_176000.out)
          have n2_ := Aside0.mk (Kd.R_drew HO_176001.out)
          have n3_ := Aside0.mk (Kd.R_drew HO_176002.out)
          have n4_ := Aside0.mk (Kd.R_drew HO_176003.out)
          have n5_ := Aside0.mk (Kd.R_drew HO_176004.out)
          have n6_ := Aside0.mk (Kd.R_drew HO_176005.out)
          have n7_ := Aside0.mk (Kd.S_drew HO_176006.out)
          have n8_ := Aside0.mk (blk_drew BK158.out)
          have n9_ := Aside0.mk (blk_drew BK159.out)
          have n10_ := Aside0.mk (blk_drew BK175.out)
          have n11_ := Aside0.mk (below_drew1 HB.out)
          clear HO_62
          clear HO_176000
          clear HO_176001
          clear HO_176002
          clear HO_176003
          clear HO_176004
          clear HO_176005
          clear HO_176006
          clear BK158
          clear BK159
          clear BK175
          clear HB
          have HO_62 := n0_
          have HO_176000 := n1_
          have HO_176001 := n2_
          have HO_176002 := n3_
          have HO_176003 := n4_
          have HO_176004 := n5_
          have HO_176005 := n6_
          have HO_176006 := n7_
          have BK158 := n8_
          have BK159 := n9_
          have BK175 := n10_
          have HB := n11_
          clear n0_ n1_ n2_ n3_ n4_ n5_ n6_ n7_ n8_ n9_ n10_ n11_
          obtain ⟨p183, q183, ad183, e183, hw183_0, hw183_1, hx183_0, hx183_1⟩ := atw61_ HR0 HB (rd t163 x64_3)
          cases e183
          have p184 : 0 ≤ (((rd_T61 l0 (rd t163 x64_3)).f0) : Int) := odt_
          have q184 : ((rd_T61 l0 (rd t163 x64_3)).f0) < (l2_0.length : Int) := odt_
          obtain ⟨ad184, e184, hx184_0⟩ := Kd.at_int HR2_0.out ((rd_T61 l0 (rd t163 x64_3)).f0) p184 q184
          have hw184_0 := hx184_0
          cases e184
          replace hx184_0 := (HB.out.cell (World.block_lt_of_cell? w _ hx184_0)).trans hx184_0
          replace p184 := eq_true p184
          replace q184 := eq_true q184
          refine start_ (n := 15) (S := fun w' => w'.cell? ⟨gb175, 0, none⟩ = some (.slice (some ad182) t163.length co34) ∧ w'.cell? ⟨gb175, 1, none⟩ = some (.slice Ao33 t166.length co33) ∧ w'.cell? ⟨gb175, 2, none⟩ = some (.slice Ao32 t169.length co32) ∧ w'.cell? ⟨gb175, 3, none⟩ = some (.slice Ao31 t172.length co31) ∧ w'.cell? ⟨gb175, 4, none⟩ = some (u176004) ∧ w'.cell? ⟨gb175, 5, none⟩ = some (u176005) ∧ w'.cell? ⟨gb175, 6, none⟩ = some (u176006) ∧ w'.cell? ⟨gb158, 0, none⟩ = some (.slice (some ad184) l2_0.length c2_0) ∧ w'.cell? ⟨gb158, 1, none⟩ = some (.slice A2_1 l2_1.length c2_1) ∧ w'.cell? ⟨gb158, 2, none⟩ = some (.slice A2_2 l2_2.length c2_2) ∧ w'.cell? (ad183.add (((rd t163 x64_3)).toNat * 2)) = some (.int .i64 ((rd_T61 l0 (rd t163 x64_3)).f0)) ∧ w'.cell? ⟨(ad183.add (((rd t163 x64_3)).toNat * 2)).block, (ad183.add (((rd t163 x64_3)).toNat * 2)).off + 1, none⟩ = some (.int .i64 ((rd_T61 l0 (rd t163 x64_3)).f1)) ∧ w'.cell? (ad184.add (((rd_T61 l0 (rd t163 x64_3)).f0)).toNat) = some (.int .i64 (rd l2_0 ((rd_T61 l0 (rd t163 x64_3)).f0)))) (ds := [14]) (fl_ 15 0) (by kernel_rfl) rfl (fl_zero _) ⟨(blk_cell BK175.out 0).trans rfl, (blk_cell BK175.out 1).trans rfl, (blk_cell BK175.out 2).trans rfl, (blk_cell BK175.out 3).trans rfl, (blk_cell BK175.out 4).trans rfl, (blk_cell BK175.out 5).trans rfl, (blk_cell BK175.out 6).trans rfl, (blk_cell BK158.out 0).trans rfl, (blk_cell BK158.out 1).trans rfl, (blk_cell BK158.out 2).trans rfl, ((HB.out.cell (World.block_lt_of_cell? w _ hw183_0)).trans hw183_0), ((HB.out.cell (World.block_lt_of_cell? w _ hw183_1)).trans hw183_1), ((HB.out.cell (World.block_lt_of_cell? w _ hw184_0)).trans hw184_0)⟩ (fun hHeld => ?_); refine with_tabW impl_measureOf.tab12 impl_measureOf.bits12 (fun HT_ HW_ => ?_)
          generalize wr.drew = w62 at HO_62 HO_176000 HO_176001 HO_176002 HO_176003 HO_176004 HO_176005 HO_176006 BK158 BK159 BK175 HB hx183_0 hx183_1 hx184_0 hHeld ⊢
          refine zp_ HT_ rfl rfl (by kernel_rfl) (fun _ _ _ h => h) (by rfl) ?_
          refine zpg_ (i := 2) (ra_ [1, 1, 1, 12]) HT_ rfl rfl (by kernel_rfl) (fun _ _ _ h => h) (by rfl) ?_
          refine zpg_ (i := 4) (ra_ [1, 1, 1, 1, 1, 10]) HT_ rfl rfl (by kernel_rfl) (fun _ _ _ h => h) (by rfl) ?_
          refine zpg_ (i := 5) (ra_ [1, 1, 1, 1, 2, 9]) HT_ rfl rfl (by kernel_rfl) (fun _ _ _ h => h) (by rfl) ?_
          refine zpg_ (i := 6) (ra_ [1, 1, 1, 1, 3, 8]) HT_ rfl rfl (by kernel_rfl) (fun _ _ _ h => h) (by rfl) ?_
          refine zpg_ (i := 7) (ra_ [1, 1, 1, 1, 4, 7]) HT_ rfl rfl (by kernel_rfl) (fun _ _ _ h => h) (by rfl) ?_
          refine ztg_ (i := 1) (ra_ [3, 1, 4, 7]) HT_ HW_ rfl rfl (by kernel_rfl) (fun _ _ _ h => h) (by rfl) hHeld ?_ z69_
          refine ztg_ (i := 3) (fl_ 15 8) HT_ HW_ rfl rfl (by kernel_rfl) (fun _ _ _ h => h) (by rfl) hHeld ?_ z69_
          refine zt_ HT_ HW_ rfl rfl (by kernel_rfl) (fun _ _ _ h => h) (by rfl) hHeld ?_ z69_
          refine zp_ HT_ rfl rfl (by kernel_rfl) (fun _ _ _ h => h) (by rfl) ?_
          refine zt_ HT_ HW_ rfl rfl (by kernel_rfl) (fun _ _ _ h => h) (by rfl) hHeld ?_ z69_
          refine one_ (i := 11) (N := some 79) (fl_ 15 12) rfl rfl (one_of HT_.out (by kernel_rfl)) (by decide) (fun K hK => ?_)
          refine value_ (w1 := ?_) (v := ?_) (by rfl) rfl ?_ ?_
          rotate_left 2
          ·go_simp
           constructor
           ·rfl
           ·rfl
          refine hK.out _ _ ⟨(blk_cell (blk_alloc BK175.out _) 0).trans rfl, (blk_cell (blk_alloc BK175.out _) 1).trans rfl, (blk_cell (blk_alloc BK175.out _) 2).trans rfl, (blk_cell (blk_alloc BK175.out _) 3).trans rfl, (blk_cell (blk_alloc BK175.out _) 4).trans rfl, (blk_cell (blk_alloc BK175.out _) 5).trans rfl, (blk_cell (blk_alloc BK175.out _) 6).trans rfl, (blk_cell (blk_alloc BK158.out _) 0).trans rfl, (blk_cell (blk_alloc BK158.out _) 1).trans rfl, (blk_cell (blk_alloc BK158.out _) 2).trans rfl, (World.cell?_alloc_lt _ _ _ (World.block_lt_of_cell? _ _ (((HB.out.cell (World.block_lt_of_cell? w _ hw183_0)).trans hw183_0)))).trans (((HB.out.cell (World.block_lt_of_cell? w _ hw183_0)).trans hw183_0)), (World.cell?_alloc_lt _ _ _ (World.block_lt_of_cell? _ _ (((HB.out.cell (World.block_lt_of_cell? w _ hw183_1)).trans hw183_1)))).trans (((HB.out.cell (World.block_lt_of_cell? w _ hw183_1)).trans hw183_1)), (World.cell?_alloc_lt _ _ _ (World.block_lt_of_cell? _ _ (((HB.out.cell (World.block_lt_of_cell? w _ hw184_0)).trans hw184_0)))).trans (((HB.out.cell (World.block_lt_of_cell? w _ hw184_0)).trans hw184_0))⟩ (fun hHeld => ?_)
          clear hK K
          refine zn_ rfl ?_
          refine one_ (i := 12) (N := some 80) (fl_ 15 13) rfl rfl (one_of HT_.out (by kernel_rfl)) (by decide) (fun K hK => ?_)
          refine Kd.R_append_step (Kd.int .i64) (w0 := w) w.heap.size (by rfl) (.tmp 69) (.tmp 79) 30 3 (.int .i64 0) 8 rfl Try.underlying30 info3 rfl (by decide) (by omega) u176004 x176004_3 (rd l2_0 ((rd_T61 l0 (rd t163 x64_3)).f0)) [.int .i64 (rd l2_0 ((rd_T61 l0 (rd t163 x64_3)).f0))] (fun k_ => some k_ ≠ (.slice (some ad182) t163.length co34 : Value).ownBlock ∧ some k_ ≠ (.slice (some ad182) t163.length co34 : Value).ownBlock ∧ some k_ ≠ (.slice Ao33 t166.length co33 : Value).ownBlock ∧ some k_ ≠ (.slice Ao32 t169.length co32 : Value).ownBlock ∧ some k_ ≠ (.slice Ao31 t172.length co31 : Value).ownBlock ∧ some k_ ≠ (u176005 : Value).ownBlock) (fun _ => False) rfl rfl ?aP (fun _ hk => hk.elim) ?aF ?aO ?aB ?aS ?aL ?_
          (case aP => exact rfl)
          (case aB => exact z86_)
          (case aF => exact (fun k_ hk => ⟨Kd.fresh' (Kd.R_lt z180_) k_ hk, Kd.fresh' (Kd.R_lt z147_) k_ hk, Kd.fresh' (Kd.R_lt z148_) k_ hk, Kd.fresh' (Kd.R_lt z149_) k_ hk, Kd.fresh' (Kd.R_lt z150_) k_ hk, Kd.fresh' (Kd.R_lt z151_) k_ hk⟩))
          (case aO => exact z174_)
          (case aS => exact z83_)
          (case aL => have := LMc61.out; omega)
          intro v186 w63 ho hb hg hat
          rw [← Ny185.out] at ho
          have n0_ := Aside0.mk (Kd.R_after (ok := (fun k_ => some k_ ≠ (.slice Ao33 t166.length co33 : Value).ownBlock ∧ some k_ ≠ (.slice Ao32 t169.length co32 : Value).ownBlock ∧ some k_ ≠ (.slice Ao31 t172.length co31 : Value).ownBlock ∧ some k_ ≠ (u176005 : Value).ownBlock)) (by exact Kd.R_mono HO_62.out (fun _ hk => ⟨⟨hk.1, ⟨hk.2.1, ⟨hk.2.2.1, hk.2.2.2.2⟩⟩⟩, hk.2.2.2.1⟩)) hg hat)
          have n1_ := Aside0.mk (Kd.R_after (ok := (fun k_ => some k_ ≠ (.slice Ao33 t166.length co33 : Value).ownBlock ∧ some k_ ≠ (.slice Ao32 t169.length co32 : Value).ownBlock ∧ some k_ ≠ (.slice Ao31 t172.length co31 : Value).ownBlock ∧ some k_ ≠ (u176005 : Value).ownBlock)) (by exact Kd.R_mono HO_176000.out (fun _ hk => ⟨⟨hk.1, ⟨hk.2.1, ⟨hk.2.2.1, hk.2.2.2.2⟩⟩⟩, hk.2.2.2.1⟩)) hg hat)
          have n2_ := Aside0.mk (Kd.R_after (ok := (fun k_ => some k_ ≠ (.slice (some ad182) t163.length co34 : Value).ownBlock ∧ some k_ ≠ (.slice (some ad182) t163.length co34 : Value).ownBlock ∧ some k_ ≠ (.slice Ao32 t169.length co32 : Value).ownBlock ∧ some k_ ≠ (.slice Ao31 t172.length co31 : Value).ownBlock ∧ some k_ ≠ (u176005 : Value).ownBlock)) (by exact Kd.R_mono HO_176001.out (fun _ hk => ⟨⟨hk.1, ⟨hk.2.1, ⟨hk.2.2.1, ⟨hk.2.2.2.1, hk.2.2.2.2.2⟩⟩⟩⟩, hk.2.2.2.2.1⟩)) hg hat)
          have n3_ := Aside0.mk (Kd.R_after (ok := (fun k_ => some k_ ≠ (.slice (some ad182) t163.length co34 : Value).ownBlock ∧ some k_ ≠ (.slice (some ad182) t163.length co34 : Value).ownBlock ∧ some k_ ≠ (.slice Ao33 t166.length co33 : Value).ownBlock ∧ some k_ ≠ (.slice Ao31 t172.length co31 : Value).ownBlock ∧ some k_ ≠ (u176005 : Value).ownBlock)) (by exact Kd.R_mono HO_176002.out (fun _ hk => ⟨⟨hk.1, ⟨hk.2.1, ⟨hk.2.2.1, ⟨hk.2.2.2.1, hk.2.2.2.2.2⟩⟩⟩⟩, hk.2.2.2.2.1⟩)) hg hat)
          have n4_ := Aside0.mk (Kd.R_after (ok := (fun k_ => some k_ ≠ (.slice (some ad182) t163.length co34 : Value).ownBlock ∧ some k_ ≠ (.slice (some ad182) t163.length co34 : Value).ownBlock ∧ some k_ ≠ (.slice Ao33 t166.length co33 : Value).ownBlock ∧ some k_ ≠ (.slice Ao32 t169.length co32 : Value).ownBlock ∧ some k_ ≠ (u176005 : Value).ownBlock)) (by exact Kd.R_mono HO_176003.out (fun _ hk => ⟨⟨hk.1, ⟨hk.2.1, ⟨hk.2.2.1, ⟨hk.2.2.2.1, hk.2.2.2.2.2⟩⟩⟩⟩, hk.2.2.2.2.1⟩)) hg hat)
          have n5_ := Aside0.mk (Kd.R_after (ok := (fun k_ => some k_ ≠ (.slice (some ad182) t163.length co34 : Value).ownBlock ∧ some k_ ≠ (.slice (some ad182) t163.length co34 : Value).ownBlock ∧ some k_ ≠ (.slice Ao33 t166.length co33 : Value).ownBlock ∧ some k_ ≠ (.slice Ao32 t169.length co32 : Value).ownBlock ∧ some k_ ≠ (.slice Ao31 t172.length co31 : Value).ownBlock)) (by exact Kd.R_mono HO_176005.out (fun _ hk => ⟨⟨hk.1, ⟨hk.2.1, ⟨hk.2.2.1, ⟨hk.2.2.2.1, hk.2.2.2.2.1⟩⟩⟩⟩, hk.2.2.2.2.2⟩)) hg hat)
          have n6_ := Aside0.mk (Kd.S_after (ok := (fun k_ => some k_ ≠ (.slice (some ad182) t163.length co34 : Value).ownBlock ∧ some k_ ≠ (.slice (some ad182) t163.length co34 : Value).ownBlock ∧ some k_ ≠ (.slice Ao33 t166.length co33 : Value).ownBlock ∧ some k_ ≠ (.slice Ao32 t169.length co32 : Value).ownBlock ∧ some k_ ≠ (.slice Ao31 t172.length co31 : Value).ownBlock ∧ some k_ ≠ (u176005 : Value).ownBlock)) (by exact Kd.S_mono HO_176006.out (fun _ hk => ⟨⟨hk.1, ⟨hk.2.1, ⟨hk.2.2.1, ⟨hk.2.2.2.1, ⟨hk.2.2.2.2.1, hk.2.2.2.2.2.2⟩⟩⟩⟩⟩, hk.2.2.2.2.2.1⟩)) hg hat)
          have n7_ := Aside0.mk (blk_grown z26_ hg (Kd.R_ne HO_176004.out BK158.out (by decide)))
          have n8_ := Aside0.mk (blk_grown z34_ hg (Kd.R_ne HO_176004.out BK159.out (by decide)))
          have n9_ := Aside0.mk (blk_grown z103_ hg (Kd.R_ne HO_176004.out BK175.out (by decide)))
          have n10_ := Aside0.mk (hb)
          have n11_ := Aside0.mk (ho)
          clear HO_62
          clear HO_176000
          clear HO_176001
          clear HO_176002
          clear HO_176003
          clear HO_176005
          clear HO_176006
          clear BK158
          clear BK159
          clear BK175
          clear HB
          clear HO_176004
          have HO_62 := n0_
          have HO_176000 := n1_
          have HO_176001 := n2_
          have HO_176002 := n3_
          have HO_176003 := n4_
          have HO_176005 := n5_
          have HO_176006 := n6_
          have BK158 := n7_
          have BK159 := n8_
          have BK175 := n9_
          have HB := n10_
          have HO187 := n11_
          clear n0_ n1_ n2_ n3_ n4_ n5_ n6_ n7_ n8_ n9_ n10_ n11_
          clear ho hb hg hat
          obtain ⟨Ao64, co64, eo64⟩ := Kd.R_slice HO187.out
          (subst eo64)
          refine hK.out _ _ ⟨(blk_cell BK175.out 0).trans rfl, (blk_cell BK175.out 1).trans rfl, (blk_cell BK175.out 2).trans rfl, (blk_cell BK175.out 3).trans rfl, (blk_cell BK175.out 4).trans rfl, (blk_cell BK175.out 5).trans rfl, (blk_cell BK175.out 6).trans rfl, (blk_cell BK158.out 0).trans rfl, (blk_cell BK158.out 1).trans rfl, (blk_cell BK158.out 2).trans rfl, ((HB.out.cell (World.block_lt_of_cell? w _ hw183_0)).trans hw183_0), ((HB.out.cell (World.block_lt_of_cell? w _ hw183_1)).trans hw183_1), ((HB.out.cell (World.block_lt_of_cell? w _ hw184_0)).trans hw184_0)⟩ (fun hHeld => ?_)
          clear hK K
          refine zn_ rfl ?_
          refine zp_ HT_ rfl rfl (by kernel_rfl) (fun _ _ _ h => h) (by rfl) ?_
          refine last_ (i := 14) (N := none) (fl_ 15 15) rfl rfl (one_of HT_.out (by kernel_rfl)) (by decide) (fun K hK => ?_)
          have hs65 : w63.cell? ⟨gb175, 4, none⟩ = some (u176004) := (blk_cell BK175.out 4).trans rfl
          have hfs65 := blk_frozen BK175.out 4
          have hns65_0 := NB158_175.out
          have hns65_1 := NB159_175.out
          have hms65_0 := NB175_158.out
          have hms65_1 := NB175_159.out
          refine skip_ (w1 := ?_) (by rfl) rfl ?_ ?_
          rotate_left
          ·go_simp
           rfl
          refine hK.out _ _ ?_
          clear hK K
          refine done_ (done_of HT_.out (by kernel_rfl)) ?_
          try go_wp2_with (((with_reducible refine gate_dst (N := 82) rfl ?_); refine Kd.R_lit (Kd.int .i64) _ 3 ?hg (N := 82) ?hd (xs := ([] : List Int)) (inner := []) (ok := fun _ => True) (okp := fun _ => True) ?hr ?hp (fun _ hk => hk) trivial (Below.refl _ _) (Nat.le_refl _) (by simp) ?_; (case hd => rfl); (case hg => rfl); (case hr => exact z19_); (case hp => exact z212_); intro v189 w66 ho67 hb hg_ hnew_; clear hg_ hnew_; (rw [← Ny188.out] at ho67); replace HO_176006 := Aside0.mk (Kd.S_elder' (by exact (Kd.S_mono (Kd.S_far (p := ⟨gb175, 4, none⟩) (Kd.S_types HO_176006.out BK175.out (by decide)) (fun _ hk => hk.2) (.slice Ao64 y185.length co64)) (fun _ h_ => h_.1))) (Kd.R_base ho67) hb); have HO190 := Aside0.mk (Kd.R_lower (Kd.R_new' (Kd.R_new' (Kd.R_new' (Kd.R_new' (Kd.R_new' (Kd.R_new' (Kd.R_new' ho67 (Kd.R_lt z164_)) (Kd.R_lt z158_)) (Kd.R_lt z159_)) (Kd.R_lt z160_)) (Kd.R_lt z161_)) (Kd.R_lt z162_)) (Kd.R_lt z165_)) (below_size z14_)); replace HO_62 := Aside0.mk (Kd.R_elder' z164_ (Kd.R_base ho67) hb); replace HO_176000 := Aside0.mk (Kd.R_elder' z158_ (Kd.R_base ho67) hb); replace HO_176001 := Aside0.mk (Kd.R_elder' z159_ (Kd.R_base ho67) hb); replace HO_176002 := Aside0.mk (Kd.R_elder' z160_ (Kd.R_base ho67) hb); replace HO_176003 := Aside0.mk (Kd.R_elder' z161_ (Kd.R_base ho67) hb); replace HO_176005 := Aside0.mk (Kd.R_elder' z162_ (Kd.R_base ho67) hb); replace HO187 := Aside0.mk (Kd.R_elder' z165_ (Kd.R_base ho67) hb); replace BK158 := Aside0.mk (blk_below (g := gb158) (o := .cells #[.slice (some ad184) l2_0.length c2_0, .slice A2_1 l2_1.length c2_1, .slice A2_2 l2_2.length c2_2] 38 (0, 0)) z108_ hb); replace BK159 := Aside0.mk (blk_below (g := gb159) (o := .cells #[.slice none 0 0, .slice none 0 0, .slice none 0 0, .slice none 0 0, .slice none 0 0, .slice none 0 0, .slice none 0 0] 91 (0, 0)) z109_ hb); replace BK175 := Aside0.mk (blk_below (g := gb175) (o := .cells #[.slice (some ad182) t163.length co34, .slice Ao33 t166.length co33, .slice Ao32 t169.length co32, .slice Ao31 t172.length co31, .slice Ao64 y185.length co64, u176005, u176006] 91 (0, 0)) (by refine blk_put (cs := #[.slice (some ad182) t163.length co34, .slice Ao33 t166.length co33, .slice Ao32 t169.length co32, .slice Ao31 t172.length co31, u176004, u176005, u176006]) ?_ 4 _ rfl; exact BK175.out) hb); replace HB := Aside0.mk (below_step z14_ hb); clear hb ho67; have hnb68 := NB175_158.out; have hnc68 := NB158_175.out; have hnb69 := NB175_159.out; have hnc69 := NB159_175.out; obtain ⟨hcz70_0, hcz70_1, hcz70_2, hcz70_3, hcz70_4, hcz70_5, hcz70_6, hfz70_0, hfz70_1, hfz70_2, hfz70_3, hfz70_4, hfz70_5, hfz70_6⟩ := bx7_ BK175.out))
          go_loopg [13, 86] k3 (fun kq v13 v86 w' => ∃ (x13_4 : List Int) (x86_4 : Int), v86 = .int .i64 x86_4 ∧ Aside0 (impl_measureOf.l2 kq l0 l1 (rd t163 x64_3) x13_4 t163 (t163.length : Int) x64_3 t166 (t166.length : Int) x86_4 l2_0 l2_1 l2_2 t163 t166 t169 t172 y185 x176005_2 x176006_3 = some (r1, r2, r3, r4, r5, r6, r7, r8)) ∧ Aside0 (kq ≤ k3) ∧ Aside0 (Kd.R (Kd.int .i64) 3 w' w.heap.size (fun k_ => some k_ ≠ ((.slice (some ad182) t163.length co34) : Value).ownBlock ∧ some k_ ≠ ((.slice Ao33 t166.length co33) : Value).ownBlock ∧ some k_ ≠ ((.slice (some ad182) t163.length co34) : Value).ownBlock ∧ some k_ ≠ ((.slice Ao33 t166.length co33) : Value).ownBlock ∧ some k_ ≠ ((.slice Ao32 t169.length co32) : Value).ownBlock ∧ some k_ ≠ ((.slice Ao31 t172.length co31) : Value).ownBlock ∧ some k_ ≠ ((.slice Ao64 y185.length co64) : Value).ownBlock ∧ some k_ ≠ (u176005 : Value).ownBlock) v13 x13_4) ∧ Aside0 (Kd.R (Kd.int .i64) 3 w' w.heap.size (fun k_ => some k_ ≠ (v13 : Value).ownBlock ∧ some k_ ≠ ((.slice Ao33 t166.length co33) : Value).ownBlock ∧ some k_ ≠ ((.slice Ao33 t166.length co33) : Value).ownBlock ∧ some k_ ≠ ((.slice Ao32 t169.length co32) : Value).ownBlock ∧ some k_ ≠ ((.slice Ao31 t172.length co31) : Value).ownBlock ∧ some k_ ≠ ((.slice Ao64 y185.length co64) : Value).ownBlock ∧ some k_ ≠ (u176005 : Value).ownBlock) (.slice (some ad182) t163.length co34) t163) ∧ Aside0 (Kd.R (Kd.int .i64) 3 w' w.heap.size (fun k_ => some k_ ≠ (v13 : Value).ownBlock ∧ some k_ ≠ ((.slice (some ad182) t163.length co34) : Value).ownBlock ∧ some k_ ≠ ((.slice (some ad182) t163.length co34) : Value).ownBlock ∧ some k_ ≠ ((.slice Ao32 t169.length co32) : Value).ownBlock ∧ some k_ ≠ ((.slice Ao31 t172.length co31) : Value).ownBlock ∧ some k_ ≠ ((.slice Ao64 y185.length co64) : Value).ownBlock ∧ some k_ ≠ (u176005 : Value).ownBlock) (.slice Ao33 t166.length co33) t166) ∧ Aside0 (Kd.R (Kd.int .i64) 3 w' w.heap.size (fun k_ => some k_ ≠ (v13 : Value).ownBlock ∧ some k_ ≠ ((.slice Ao33 t166.length co33) : Value).ownBlock ∧ some k_ ≠ ((.slice Ao33 t166.length co33) : Value).ownBlock ∧ some k_ ≠ ((.slice Ao32 t169.length co32) : Value).ownBlock ∧ some k_ ≠ ((.slice Ao31 t172.length co31) : Value).ownBlock ∧ some k_ ≠ ((.slice Ao64 y185.length co64) : Value).ownBlock ∧ some k_ ≠ (u176005 : Value).ownBlock) (.slice (some ad182) t163.length co34) t163) ∧ Aside0 (Kd.R (Kd.int .i64) 3 w' w.heap.size (fun k_ => some k_ ≠ (v13 : Value).ownBlock ∧ some k_ ≠ ((.slice (some ad182) t163.length co34) : Value).ownBlock ∧ some k_ ≠ ((.slice (some ad182) t163.length co34) : Value).ownBlock ∧ some k_ ≠ ((.slice Ao32 t169.length co32) : Value).ownBlock ∧ some k_ ≠ ((.slice Ao31 t172.length co31) : Value).ownBlock ∧ some k_ ≠ ((.slice Ao64 y185.length co64) : Value).ownBlock ∧ some k_ ≠ (u176005 : Value).ownBlock) (.slice Ao33 t166.length co33) t166) ∧ Aside0 (Kd.R (Kd.int .i64) 3 w' w.heap.size (fun k_ => some k_ ≠ (v13 : Value).ownBlock ∧ some k_ ≠ ((.slice (some ad182) t163.length co34) : Value).ownBlock ∧ some k_ ≠ ((.slice Ao33 t166.length co33) : Value).ownBlock ∧ some k_ ≠ ((.slice (some ad182) t163.length co34) : Value).ownBlock ∧ some k_ ≠ ((.slice Ao33 t166.length co33) : Value).ownBlock ∧ some k_ ≠ ((.slice Ao31 t172.length co31) : Value).ownBlock ∧ some k_ ≠ ((.slice Ao64 y185.length co64) : Value).ownBlock ∧ some k_ ≠ (u176005 : Value).ownBlock) (.slice Ao32 t169.length co32) t169) ∧ Aside0 (Kd.R (Kd.int .i64) 3 w' w.heap.size (fun k_ => some k_ ≠ (v13 : Value).ownBlock ∧ some k_ ≠ ((.slice (some ad182) t163.length co34) : Value).ownBlock ∧ some k_ ≠ ((.slice Ao33 t166.length co33) : Value).ownBlock ∧ some k_ ≠ ((.slice (some ad182) t163.length co34) : Value).ownBlock ∧ some k_ ≠ ((.slice Ao33 t166.length co33) : Value).ownBlock ∧ some k_ ≠ ((.slice Ao32 t169.length co32) : Value).ownBlock ∧ some k_ ≠ ((.slice Ao64 y185.length co64) : Value).ownBlock ∧ some k_ ≠ (u176005 : Value).ownBlock) (.slice Ao31 t172.length co31) t172) ∧ Aside0 (Kd.R (Kd.int .i64) 3 w' w.heap.size (fun k_ => some k_ ≠ (v13 : Value).ownBlock ∧ some k_ ≠ ((.slice (some ad182) t163.length co34) : Value).ownBlock ∧ some k_ ≠ ((.slice Ao33 t166.length co33) : Value).ownBlock ∧ some k_ ≠ ((.slice (some ad182) t163.length co34) : Value).ownBlock ∧ some k_ ≠ ((.slice Ao33 t166.length co33) : Value).ownBlock ∧ some k_ ≠ ((.slice Ao32 t169.length co32) : Value).ownBlock ∧ some k_ ≠ ((.slice Ao31 t172.length co31) : Value).ownBlock ∧ some k_ ≠ (u176005 : Value).ownBlock) (.slice Ao64 y185.length co64) y185) ∧ Aside0 (Kd.R (Kd.int .i64) 3 w' w.heap.size (fun k_ => some k_ ≠ (v13 : Value).ownBlock ∧ some k_ ≠ ((.slice (some ad182) t163.length co34) : Value).ownBlock ∧ some k_ ≠ ((.slice Ao33 t166.length co33) : Value).ownBlock ∧ some k_ ≠ ((.slice (some ad182) t163.length co34) : Value).ownBlock ∧ some k_ ≠ ((.slice Ao33 t166.length co33) : Value).ownBlock ∧ some k_ ≠ ((.slice Ao32 t169.length co32) : Value).ownBlock ∧ some k_ ≠ ((.slice Ao31 t172.length co31) : Value).ownBlock ∧ some k_ ≠ ((.slice Ao64 y185.length co64) : Value).ownBlock) u176005 x176005_2) ∧ Aside0 (Kd.S (Kd.slice 3 (Kd.int .i64)) 30 w' w.heap.size (fun k_ => some k_ ≠ (v13 : Value).ownBlock ∧ some k_ ≠ ((.slice (some ad182) t163.length co34) : Value).ownBlock ∧ some k_ ≠ ((.slice Ao33 t166.length co33) : Value).ownBlock ∧ some k_ ≠ ((.slice (some ad182) t163.length co34) : Value).ownBlock ∧ some k_ ≠ ((.slice Ao33 t166.length co33) : Value).ownBlock ∧ some k_ ≠ ((.slice Ao32 t169.length co32) : Value).ownBlock ∧ some k_ ≠ ((.slice Ao31 t172.length co31) : Value).ownBlock ∧ some k_ ≠ ((.slice Ao64 y185.length co64) : Value).ownBlock ∧ some k_ ≠ (u176005 : Value).ownBlock) u176006 x176006_3) ∧ Aside0 (w'.heap[gb158]? = some (.cells #[(.slice (some ad184) l2_0.length c2_0), (.slice A2_1 l2_1.length c2_1), (.slice A2_2 l2_2.length c2_2)] 38 (0, 0))) ∧ Aside0 (w'.heap[gb159]? = some (.cells #[(.slice none 0 0), (.slice none 0 0), (.slice none 0 0), (.slice none 0 0), (.slice none 0 0), (.slice none 0 0), (.slice none 0 0)] 91 (0, 0))) ∧ Aside0 (w'.heap[gb175]? = some (.cells #[(.slice (some ad182) t163.length co34), (.slice Ao33 t166.length co33), (.slice Ao32 t169.length co32), (.slice Ao31 t172.length co31), (.slice Ao64 y185.length co64), u176005, u176006] 91 (0, 0))) ∧ Aside0 (Below w.heap.size w w'))
          case atStart => exact ⟨(y188), (0), z10_, H', ⟨Nat.le_refl _⟩, ⟨by exact Kd.R_mono HO190.out (fun _ hk => ⟨hk.1.1.1.1.1.1.2, ⟨hk.1.1.1.1.2, ⟨hk.1.1.1.1.1.2, ⟨hk.1.1.1.1.2, ⟨hk.1.1.1.2, ⟨hk.1.1.2, ⟨hk.2, hk.1.2⟩⟩⟩⟩⟩⟩⟩)⟩, ⟨by exact Kd.R_mono HO_62.out (fun _ hk => ⟨hk.2, ⟨hk.1.1.1, ⟨hk.1.1.1, ⟨hk.1.1.2.1, ⟨hk.1.1.2.2.1, ⟨hk.1.2, hk.1.1.2.2.2⟩⟩⟩⟩⟩⟩)⟩, ⟨z173_⟩, ⟨by exact Kd.R_mono HO_176000.out (fun _ hk => ⟨hk.2, ⟨hk.1.1.1, ⟨hk.1.1.1, ⟨hk.1.1.2.1, ⟨hk.1.1.2.2.1, ⟨hk.1.2, hk.1.1.2.2.2⟩⟩⟩⟩⟩⟩)⟩, ⟨z173_⟩, ⟨by exact Kd.R_mono HO_176002.out (fun _ hk => ⟨hk.2, ⟨hk.1.1.1, ⟨hk.1.1.2.2.1, ⟨hk.1.1.2.1, ⟨hk.1.1.2.2.1, ⟨hk.1.1.2.2.2.1, ⟨hk.1.2, hk.1.1.2.2.2.2⟩⟩⟩⟩⟩⟩⟩)⟩, ⟨by exact Kd.R_mono HO_176003.out (fun _ hk => ⟨hk.2, ⟨hk.1.1.1, ⟨hk.1.1.2.2.1, ⟨hk.1.1.2.1, ⟨hk.1.1.2.2.1, ⟨hk.1.1.2.2.2.1, ⟨hk.1.2, hk.1.1.2.2.2.2⟩⟩⟩⟩⟩⟩⟩)⟩, ⟨by exact Kd.R_mono HO187.out (fun _ hk => ⟨hk.2, ⟨hk.1.1, ⟨hk.1.2.2.1, ⟨hk.1.2.1, ⟨hk.1.2.2.1, ⟨hk.1.2.2.2.1, ⟨hk.1.2.2.2.2.1, hk.1.2.2.2.2.2⟩⟩⟩⟩⟩⟩⟩)⟩, ⟨by exact Kd.R_mono HO_176005.out (fun _ hk => ⟨hk.2, ⟨hk.1.1.1, ⟨hk.1.1.2.2.1, ⟨hk.1.1.2.1, ⟨hk.1.1.2.2.1, ⟨hk.1.1.2.2.2.1, ⟨hk.1.1.2.2.2.2, hk.1.2⟩⟩⟩⟩⟩⟩⟩)⟩, ⟨by exact Kd.S_mono HO_176006.out (fun _ hk => ⟨hk.2, ⟨hk.1.1.1, ⟨hk.1.1.2.2.1, ⟨hk.1.1.2.1, ⟨hk.1.1.2.2.1, ⟨hk.1.1.2.2.2.1, ⟨hk.1.1.2.2.2.2.1, ⟨hk.1.2, hk.1.1.2.2.2.2.2⟩⟩⟩⟩⟩⟩⟩⟩)⟩, ⟨z26_⟩, ⟨z34_⟩, ⟨z103_⟩, ⟨z14_⟩⟩
          case round =>
           clear H'
           obtain ⟨x13_4, x86_4, rfl, HA, HK4, HO_13, HO_62, HO_84, HO_176000, HO_176001, HO_176002, HO_176003, HO_176004, HO_176005, HO_176006, BK158, BK159, BK175, HB⟩ := hrel
           cases gk with
           | zero => exact absurd HA.out (by simp [impl_measureOf.l2])
           | succ k4 =>
            have H := HA.out
            clear HA
            simp only [impl_measureOf.l2] at H
            by_cases c71 : x86_4 < (t166.length : Int)
            ·rw [if_pos c71] at H
             have c71b0 := decide_eq_true c71
             clear c71
             obtain ⟨c72b0, H⟩ := ifd_ H
             obtain ⟨c73b0, H⟩ := ifd_ H
             obtain ⟨c74b0, H⟩ := ifd_ H
             obtain ⟨c75b0, H⟩ := ifd_ H
             obtain ⟨c76b0, H⟩ := ifd_ H
             obtain ⟨c77b0, H⟩ := ifd_ H
             obtain ⟨ji78, hji78⟩ : ∃ j_ : Int, (wrap64 ((wrap64 (((rd_T61 l0 (rd t163 x64_3)).f0) * 6)) + ((rd_T61 l1 (rd t166 x86_4)).f0))) = j_ := ⟨_, rfl⟩
             rw [hji78] at H
             have hji78w : (IntKind.i64.wrap ((wrap64 (((rd_T61 l0 (rd t163 x64_3)).f0) * 6)) + ((rd_T61 l1 (rd t166 x86_4)).f0))) = ji78 := (i64_w _).trans hji78
             obtain ⟨c79b0, H⟩ := ifd_ H
             obtain ⟨c80b0, H⟩ := ifd_ H
             obtain ⟨c81, H⟩ := ifs_ H
             have LMc81 := Aside0.mk c81
             clear c81
             (generalize hy_ : ((x13_4 ++ [rd l2_2 (ji78)]) : List Int) = y195 at H; have Ny195 := Aside0.mk hy_.symm; clear hy_)
             have H' := Aside0.mk H
             clear H
             have p191 : 0 ≤ (x86_4 : Int) := odt_
             have q191 : x86_4 < (t166.length : Int) := odt_
             obtain ⟨ad191, e191, hx191_0⟩ := Kd.at_int (Kd.R_reads' HO_84.out).2.2 x86_4 p191 q191
             cases e191
             replace p191 := eq_true p191
             replace q191 := eq_true q191
             try go_wp2
             have n0_ := Aside0.mk (Kd.R_drew HO_13.out)
             have n1_ := Aside0.mk (Kd.R_drew HO_62.out)
             have n2_ := Aside0.mk (Kd.R_drew HO_84.out)
             have n3_ := Aside0.mk (Kd.R_drew HO_176000.out)
             have n4_ := Aside0.mk (Kd.R_drew HO_176001.out)
             have n5_ := Aside0.mk (Kd.R_drew HO_176002.out)
             have n6_ := Aside0.mk (Kd.R_drew HO_176003.out)
             have n7_ := Aside0.mk (Kd.R_drew HO_176004.out)
             have n8_ := Aside0.mk (Kd.R_drew HO_176005.out)
             have n9_ := Aside0.mk (Kd.S_drew HO_176006.out)
             have n10_ := Aside0.mk (blk_drew BK158.out)
             have n11_ := Aside0.mk (blk_drew BK159.out)
             have n12_ := Aside0.mk (blk_drew BK175.out)
             have n13_ := Aside0.mk (below_drew1 HB.out)
             clear HO_13
             clear HO_62
             clear HO_84
             clear HO_176000
             clear HO_176001
             clear HO_176002
             clear HO_176003
             clear HO_176004
             clear HO_176005
             clear HO_176006
             clear BK158
             clear BK159
             clear BK175
             clear HB
             have HO_13 := n0_
             have HO_62 := n1_
             have HO_84 := n2_
             have HO_176000 := n3_
             have HO_176001 := n4_
             have HO_176002 := n5_
             have HO_176003 := n6_
             have HO_176004 := n7_
             have HO_176005 := n8_
             have HO_176006 := n9_
             have BK158 := n10_
             have BK159 := n11_
             have BK175 := n12_
             have HB := n13_
             clear n0_ n1_ n2_ n3_ n4_ n5_ n6_ n7_ n8_ n9_ n10_ n11_ n12_ n13_
             obtain ⟨p192, q192, ad192, e192, hw192_0, hw192_1, hx192_0, hx192_1⟩ := atw61_ HR0 HB (rd t163 x64_3)
             obtain rfl : ad183 = ad192 := (by injection e192)
             obtain ⟨p193, q193, ad193, e193, hw193_0, hw193_1, hx193_0, hx193_1⟩ := atw61_ HR1 HB (rd t166 x86_4)
             cases e193
             have p194 : 0 ≤ ((ji78) : Int) := odt_
             have q194 : (ji78) < (l2_2.length : Int) := odt_
             obtain ⟨ad194, e194, hx194_0⟩ := Kd.at_int HR2_2.out (ji78) p194 q194
             have hw194_0 := hx194_0
             cases e194
             replace hx194_0 := (HB.out.cell (World.block_lt_of_cell? w _ hx194_0)).trans hx194_0
             replace p194 := eq_true p194
             replace q194 := eq_true q194
             refine start_ (n := 20) (S := fun w' => w'.cell? ⟨gb158, 0, none⟩ = some (.slice (some ad184) l2_0.length c2_0) ∧ w'.cell? ⟨gb158, 1, none⟩ = some (.slice A2_1 l2_1.length c2_1) ∧ w'.cell? ⟨gb158, 2, none⟩ = some (.slice (some ad194) l2_2.length c2_2) ∧ w'.cell? (ad183.add (((rd t163 x64_3)).toNat * 2)) = some (.int .i64 ((rd_T61 l0 (rd t163 x64_3)).f0)) ∧ w'.cell? ⟨(ad183.add (((rd t163 x64_3)).toNat * 2)).block, (ad183.add (((rd t163 x64_3)).toNat * 2)).off + 1, none⟩ = some (.int .i64 ((rd_T61 l0 (rd t163 x64_3)).f1)) ∧ w'.cell? (ad193.add (((rd t166 x86_4)).toNat * 2)) = some (.int .i64 ((rd_T61 l1 (rd t166 x86_4)).f0)) ∧ w'.cell? ⟨(ad193.add (((rd t166 x86_4)).toNat * 2)).block, (ad193.add (((rd t166 x86_4)).toNat * 2)).off + 1, none⟩ = some (.int .i64 ((rd_T61 l1 (rd t166 x86_4)).f1)) ∧ w'.cell? (ad194.add ((ji78)).toNat) = some (.int .i64 (rd l2_2 (ji78)))) (ds := []) (fl_ 20 0) (by kernel_rfl) rfl (fl_zero _) ⟨(blk_cell BK158.out 0).trans rfl, (blk_cell BK158.out 1).trans rfl, (blk_cell BK158.out 2).trans rfl, ((HB.out.cell (World.block_lt_of_cell? w _ hw192_0)).trans hw192_0), ((HB.out.cell (World.block_lt_of_cell? w _ hw192_1)).trans hw192_1), ((HB.out.cell (World.block_lt_of_cell? w _ hw193_0)).trans hw193_0), ((HB.out.cell (World.block_lt_of_cell? w _ hw193_1)).trans hw193_1), ((HB.out.cell (World.block_lt_of_cell? w _ hw194_0)).trans hw194_0)⟩ (fun hHeld => ?_); refine with_tabW impl_measureOf.tab17 impl_measureOf.bits17 (fun HT_ HW_ => ?_)
             generalize wr.drew = w82 at HO_13 HO_62 HO_84 HO_176000 HO_176001 HO_176002 HO_176003 HO_176004 HO_176005 HO_176006 BK158 BK159 BK175 HB hx192_0 hx192_1 hx193_0 hx193_1 hx194_0 hHeld ⊢
             iterate 2 refine zp_ HT_ rfl rfl (by kernel_rfl) (fun _ _ _ h => h) (by rfl) ?_
             refine zpg_ (i := 3) (ra_ [2, 1, 1, 16]) HT_ rfl rfl (by kernel_rfl) (fun _ _ _ h => h) (by rfl) ?_
             refine zpg_ (i := 4) (ra_ [2, 1, 2, 15]) HT_ rfl rfl (by kernel_rfl) (fun _ _ _ h => h) (by rfl) ?_
             refine zpg_ (i := 5) (ra_ [2, 1, 3, 14]) HT_ rfl rfl (by kernel_rfl) (fun _ _ _ h => h) (by rfl) ?_
             refine zpg_ (i := 6) (ra_ [2, 1, 4, 13]) HT_ rfl rfl (by kernel_rfl) (fun _ _ _ h => h) (by rfl) ?_
             refine zpg_ (i := 9) (ra_ [2, 1, 4, 2, 1, 10]) HT_ rfl rfl (by kernel_rfl) (fun _ _ _ h => h) (by rfl) ?_
             refine zpg_ (i := 10) (ra_ [2, 1, 4, 2, 2, 9]) HT_ rfl rfl (by kernel_rfl) (fun _ _ _ h => h) (by rfl) ?_
             refine zpg_ (i := 11) (ra_ [2, 1, 4, 2, 3, 8]) HT_ rfl rfl (by kernel_rfl) (fun _ _ _ h => h) (by rfl) ?_
             refine zpg_ (i := 12) (ra_ [2, 1, 4, 2, 4, 7]) HT_ rfl rfl (by kernel_rfl) (fun _ _ _ h => h) (by rfl) ?_
             refine ztg_ (i := 2) (ra_ [7, 2, 4, 7]) HT_ HW_ rfl rfl (by kernel_rfl) (fun _ _ _ h => h) (by rfl) hHeld ?_ z207_
             refine ztg_ (i := 7) (ra_ [8, 1, 4, 7]) HT_ HW_ rfl rfl (by kernel_rfl) (fun _ _ _ h => h) (by rfl) hHeld ?_ z207_
             refine zpg_ (i := 8) (fl_ 20 13) HT_ rfl rfl (by kernel_rfl) (fun _ _ _ h => h) (by rfl) ?_
             refine zt_ HT_ HW_ rfl rfl (by kernel_rfl) (fun _ _ _ h => h) (by rfl) hHeld ?_ z207_
             iterate 2 refine zp_ HT_ rfl rfl (by kernel_rfl) (fun _ _ _ h => h) (by rfl) ?_
             refine zt_ HT_ HW_ rfl rfl (by kernel_rfl) (fun _ _ _ h => h) (by rfl) hHeld ?_ z207_
             refine one_ (i := 17) (N := some 107) (fl_ 20 18) rfl rfl (one_of HT_.out (by kernel_rfl)) (by decide) (fun K hK => ?_)
             refine value_ (w1 := ?_) (v := ?_) (by rfl) rfl ?_ ?_
             rotate_left 2
             ·go_simp
              constructor
              ·rfl
              ·rfl
             refine hK.out _ _ ⟨(blk_cell (blk_alloc BK158.out _) 0).trans rfl, (blk_cell (blk_alloc BK158.out _) 1).trans rfl, (blk_cell (blk_alloc BK158.out _) 2).trans rfl, (World.cell?_alloc_lt _ _ _ (World.block_lt_of_cell? _ _ (((HB.out.cell (World.block_lt_of_cell? w _ hw192_0)).trans hw192_0)))).trans (((HB.out.cell (World.block_lt_of_cell? w _ hw192_0)).trans hw192_0)), (World.cell?_alloc_lt _ _ _ (World.block_lt_of_cell? _ _ (((HB.out.cell (World.block_lt_of_cell? w _ hw192_1)).trans hw192_1)))).trans (((HB.out.cell (World.block_lt_of_cell? w _ hw192_1)).trans hw192_1)), (World.cell?_alloc_lt _ _ _ (World.block_lt_of_cell? _ _ (((HB.out.cell (World.block_lt_of_cell? w _ hw193_0)).trans hw193_0)))).trans (((HB.out.cell (World.block_lt_of_cell? w _ hw193_0)).trans hw193_0)), (World.cell?_alloc_lt _ _ _ (World.block_lt_of_cell? _ _ (((HB.out.cell (World.block_lt_of_cell? w _ hw193_1)).trans hw193_1)))).trans (((HB.out.cell (World.block_lt_of_cell? w _ hw193_1)).trans hw193_1)), (World.cell?_alloc_lt _ _ _ (World.block_lt_of_cell? _ _ (((HB.out.cell (World.block_lt_of_cell? w _ hw194_0)).trans hw194_0)))).trans (((HB.out.cell (World.block_lt_of_cell? w _ hw194_0)).trans hw194_0))⟩ (fun hHeld => ?_)
             clear hK K
             refine zn_ rfl ?_
             refine one_ (i := 18) (N := some 108) (fl_ 20 19) rfl rfl (one_of HT_.out (by kernel_rfl)) (by decide) (fun K hK => ?_)
             refine Kd.R_append_step (Kd.int .i64) (w0 := w) w.heap.size (by rfl) (.tmp 90) (.tmp 107) 30 3 (.int .i64 0) 8 rfl Try.underlying30 info3 rfl (by decide) (by omega) u13 x13_4 (rd l2_2 (ji78)) [.int .i64 (rd l2_2 (ji78))] (fun k_ => some k_ ≠ (.slice (some ad182) t163.length co34 : Value).ownBlock ∧ some k_ ≠ (.slice (some ad191) t166.length co33 : Value).ownBlock ∧ some k_ ≠ (.slice (some ad182) t163.length co34 : Value).ownBlock ∧ some k_ ≠ (.slice (some ad191) t166.length co33 : Value).ownBlock ∧ some k_ ≠ (.slice Ao32 t169.length co32 : Value).ownBlock ∧ some k_ ≠ (.slice Ao31 t172.length co31 : Value).ownBlock ∧ some k_ ≠ (.slice Ao64 y185.length co64 : Value).ownBlock ∧ some k_ ≠ (u176005 : Value).ownBlock) (fun _ => False) rfl rfl ?aP (fun _ hk => hk.elim) ?aF ?aO ?aB ?aS ?aL ?_
             (case aP => exact rfl)
             (case aB => exact z86_)
             (case aF => exact z44_)
             (case aO => exact (by exact HO_13.out))
             (case aS => exact z83_)
             (case aL => have := LMc81.out; omega)
             intro v196 w83 ho hb hg hat
             rw [← Ny195.out] at ho
             have n0_ := Aside0.mk (Kd.R_after (ok := (fun k_ => some k_ ≠ (.slice (some ad191) t166.length co33 : Value).ownBlock ∧ some k_ ≠ (.slice (some ad191) t166.length co33 : Value).ownBlock ∧ some k_ ≠ (.slice Ao32 t169.length co32 : Value).ownBlock ∧ some k_ ≠ (.slice Ao31 t172.length co31 : Value).ownBlock ∧ some k_ ≠ (.slice Ao64 y185.length co64 : Value).ownBlock ∧ some k_ ≠ (u176005 : Value).ownBlock)) (by exact Kd.R_mono HO_62.out (fun _ hk => ⟨⟨hk.2.1, ⟨hk.2.2.1, ⟨hk.2.2.2.1, ⟨hk.2.2.2.2.1, ⟨hk.2.2.2.2.2.1, hk.2.2.2.2.2.2⟩⟩⟩⟩⟩, hk.1⟩)) hg hat)
             have n1_ := Aside0.mk (Kd.R_after (ok := (fun k_ => some k_ ≠ (.slice (some ad182) t163.length co34 : Value).ownBlock ∧ some k_ ≠ (.slice (some ad182) t163.length co34 : Value).ownBlock ∧ some k_ ≠ (.slice Ao32 t169.length co32 : Value).ownBlock ∧ some k_ ≠ (.slice Ao31 t172.length co31 : Value).ownBlock ∧ some k_ ≠ (.slice Ao64 y185.length co64 : Value).ownBlock ∧ some k_ ≠ (u176005 : Value).ownBlock)) (by exact Kd.R_mono HO_84.out (fun _ hk => ⟨⟨hk.2.1, ⟨hk.2.2.1, ⟨hk.2.2.2.1, ⟨hk.2.2.2.2.1, ⟨hk.2.2.2.2.2.1, hk.2.2.2.2.2.2⟩⟩⟩⟩⟩, hk.1⟩)) hg hat)
             have n2_ := Aside0.mk (Kd.R_after (ok := (fun k_ => some k_ ≠ (.slice (some ad191) t166.length co33 : Value).ownBlock ∧ some k_ ≠ (.slice (some ad191) t166.length co33 : Value).ownBlock ∧ some k_ ≠ (.slice Ao32 t169.length co32 : Value).ownBlock ∧ some k_ ≠ (.slice Ao31 t172.length co31 : Value).ownBlock ∧ some k_ ≠ (.slice Ao64 y185.length co64 : Value).ownBlock ∧ some k_ ≠ (u176005 : Value).ownBlock)) (by exact Kd.R_mono HO_176000.out (fun _ hk => ⟨⟨hk.2.1, ⟨hk.2.2.1, ⟨hk.2.2.2.1, ⟨hk.2.2.2.2.1, ⟨hk.2.2.2.2.2.1, hk.2.2.2.2.2.2⟩⟩⟩⟩⟩, hk.1⟩)) hg hat)
             have n3_ := Aside0.mk (Kd.R_after (ok := (fun k_ => some k_ ≠ (.slice (some ad182) t163.length co34 : Value).ownBlock ∧ some k_ ≠ (.slice (some ad182) t163.length co34 : Value).ownBlock ∧ some k_ ≠ (.slice Ao32 t169.length co32 : Value).ownBlock ∧ some k_ ≠ (.slice Ao31 t172.length co31 : Value).ownBlock ∧ some k_ ≠ (.slice Ao64 y185.length co64 : Value).ownBlock ∧ some k_ ≠ (u176005 : Value).ownBlock)) (by exact Kd.R_mono HO_176001.out (fun _ hk => ⟨⟨hk.2.1, ⟨hk.2.2.1, ⟨hk.2.2.2.1, ⟨hk.2.2.2.2.1, ⟨hk.2.2.2.2.2.1, hk.2.2.2.2.2.2⟩⟩⟩⟩⟩, hk.1⟩)) hg hat)
             have n4_ := Aside0.mk (Kd.R_after (ok := (fun k_ => some k_ ≠ (.slice (some ad182) t163.length co34 : Value).ownBlock ∧ some k_ ≠ (.slice (some ad191) t166.length co33 : Value).ownBlock ∧ some k_ ≠ (.slice (some ad182) t163.length co34 : Value).ownBlock ∧ some k_ ≠ (.slice (some ad191) t166.length co33 : Value).ownBlock ∧ some k_ ≠ (.slice Ao31 t172.length co31 : Value).ownBlock ∧ some k_ ≠ (.slice Ao64 y185.length co64 : Value).ownBlock ∧ some k_ ≠ (u176005 : Value).ownBlock)) (by exact Kd.R_mono HO_176002.out (fun _ hk => ⟨⟨hk.2.1, ⟨hk.2.2.1, ⟨hk.2.2.2.1, ⟨hk.2.2.2.2.1, ⟨hk.2.2.2.2.2.1, ⟨hk.2.2.2.2.2.2.1, hk.2.2.2.2.2.2.2⟩⟩⟩⟩⟩⟩, hk.1⟩)) hg hat)
             have n5_ := Aside0.mk (Kd.R_after (ok := (fun k_ => some k_ ≠ (.slice (some ad182) t163.length co34 : Value).ownBlock ∧ some k_ ≠ (.slice (some ad191) t166.length co33 : Value).ownBlock ∧ some k_ ≠ (.slice (some ad182) t163.length co34 : Value).ownBlock ∧ some k_ ≠ (.slice (some ad191) t166.length co33 : Value).ownBlock ∧ some k_ ≠ (.slice Ao32 t169.length co32 : Value).ownBlock ∧ some k_ ≠ (.slice Ao64 y185.length co64 : Value).ownBlock ∧ some k_ ≠ (u176005 : Value).ownBlock)) (by exact Kd.R_mono HO_176003.out (fun _ hk => ⟨⟨hk.2.1, ⟨hk.2.2.1, ⟨hk.2.2.2.1, ⟨hk.2.2.2.2.1, ⟨hk.2.2.2.2.2.1, ⟨hk.2.2.2.2.2.2.1, hk.2.2.2.2.2.2.2⟩⟩⟩⟩⟩⟩, hk.1⟩)) hg hat)
             have n6_ := Aside0.mk (Kd.R_after (ok := (fun k_ => some k_ ≠ (.slice (some ad182) t163.length co34 : Value).ownBlock ∧ some k_ ≠ (.slice (some ad191) t166.length co33 : Value).ownBlock ∧ some k_ ≠ (.slice (some ad182) t163.length co34 : Value).ownBlock ∧ some k_ ≠ (.slice (some ad191) t166.length co33 : Value).ownBlock ∧ some k_ ≠ (.slice Ao32 t169.length co32 : Value).ownBlock ∧ some k_ ≠ (.slice Ao31 t172.length co31 : Value).ownBlock ∧ some k_ ≠ (u176005 : Value).ownBlock)) (by exact Kd.R_mono HO_176004.out (fun _ hk => ⟨⟨hk.2.1, ⟨hk.2.2.1, ⟨hk.2.2.2.1, ⟨hk.2.2.2.2.1, ⟨hk.2.2.2.2.2.1, ⟨hk.2.2.2.2.2.2.1, hk.2.2.2.2.2.2.2⟩⟩⟩⟩⟩⟩, hk.1⟩)) hg hat)
             have n7_ := Aside0.mk (Kd.R_after (ok := (fun k_ => some k_ ≠ (.slice (some ad182) t163.length co34 : Value).ownBlock ∧ some k_ ≠ (.slice (some ad191) t166.length co33 : Value).ownBlock ∧ some k_ ≠ (.slice (some ad182) t163.length co34 : Value).ownBlock ∧ some k_ ≠ (.slice (some ad191) t166.length co33 : Value).ownBlock ∧ some k_ ≠ (.slice Ao32 t169.length co32 : Value).ownBlock ∧ some k_ ≠ (.slice Ao31 t172.length co31 : Value).ownBlock ∧ some k_ ≠ (.slice Ao64 y185.length co64 : Value).ownBlock)) (by exact Kd.R_mono HO_176005.out (fun _ hk => ⟨⟨hk.2.1, ⟨hk.2.2.1, ⟨hk.2.2.2.1, ⟨hk.2.2.2.2.1, ⟨hk.2.2.2.2.2.1, ⟨hk.2.2.2.2.2.2.1, hk.2.2.2.2.2.2.2⟩⟩⟩⟩⟩⟩, hk.1⟩)) hg hat)
             have n8_ := Aside0.mk (Kd.S_after (ok := (fun k_ => some k_ ≠ (.slice (some ad182) t163.length co34 : Value).ownBlock ∧ some k_ ≠ (.slice (some ad191) t166.length co33 : Value).ownBlock ∧ some k_ ≠ (.slice (some ad182) t163.length co34 : Value).ownBlock ∧ some k_ ≠ (.slice (some ad191) t166.length co33 : Value).ownBlock ∧ some k_ ≠ (.slice Ao32 t169.length co32 : Value).ownBlock ∧ some k_ ≠ (.slice Ao31 t172.length co31 : Value).ownBlock ∧ some k_ ≠ (.slice Ao64 y185.length co64 : Value).ownBlock ∧ some k_ ≠ (u176005 : Value).ownBlock)) (by exact Kd.S_mono HO_176006.out (fun _ hk => ⟨⟨hk.2.1, ⟨hk.2.2.1, ⟨hk.2.2.2.1, ⟨hk.2.2.2.2.1, ⟨hk.2.2.2.2.2.1, ⟨hk.2.2.2.2.2.2.1, ⟨hk.2.2.2.2.2.2.2.1, hk.2.2.2.2.2.2.2.2⟩⟩⟩⟩⟩⟩⟩, hk.1⟩)) hg hat)
             have n9_ := Aside0.mk (blk_grown z26_ hg (Kd.R_ne HO_13.out BK158.out (by decide)))
             have n10_ := Aside0.mk (blk_grown z34_ hg (Kd.R_ne HO_13.out BK159.out (by decide)))
             have n11_ := Aside0.mk (blk_grown z103_ hg (Kd.R_ne HO_13.out BK175.out (by decide)))
             have n12_ := Aside0.mk (hb)
             have n13_ := Aside0.mk (ho)
             clear HO_62
             clear HO_84
             clear HO_176000
             clear HO_176001
             clear HO_176002
             clear HO_176003
             clear HO_176004
             clear HO_176005
             clear HO_176006
             clear BK158
             clear BK159
             clear BK175
             clear HB
             clear HO_13
             have HO_62 := n0_
             have HO_84 := n1_
             have HO_176000 := n2_
             have HO_176001 := n3_
             have HO_176002 := n4_
             have HO_176003 := n5_
             have HO_176004 := n6_
             have HO_176005 := n7_
             have HO_176006 := n8_
             have BK158 := n9_
             have BK159 := n10_
             have BK175 := n11_
             have HB := n12_
             have HO197 := n13_
             clear n0_ n1_ n2_ n3_ n4_ n5_ n6_ n7_ n8_ n9_ n10_ n11_ n12_ n13_
             clear ho hb hg hat
             refine hK.out _ _ ⟨(blk_cell BK158.out 0).trans rfl, (blk_cell BK158.out 1).trans rfl, (blk_cell BK158.out 2).trans rfl, ((HB.out.cell (World.block_lt_of_cell? w _ hw192_0)).trans hw192_0), ((HB.out.cell (World.block_lt_of_cell? w _ hw192_1)).trans hw192_1), ((HB.out.cell (World.block_lt_of_cell? w _ hw193_0)).trans hw193_0), ((HB.out.cell (World.block_lt_of_cell? w _ hw193_1)).trans hw193_1), ((HB.out.cell (World.block_lt_of_cell? w _ hw194_0)).trans hw194_0)⟩ (fun hHeld => ?_)
             clear hK K
             refine zn_ rfl ?_
             refine zp_ HT_ rfl rfl (by kernel_rfl) (fun _ _ _ h => h) (by rfl) ?_
             refine done_ (done_of HT_.out (by kernel_rfl)) ?_
             try go_wp2
             go_roundg k4
             case measure => have := HJ3.out; have := HK2.out; have := HK3.out; have := HK4.out; omega
             case rel => exact ⟨(y195), (wrap64 (x86_4 + 1)), z10_, H', ⟨by have := HJ3.out; have := HK2.out; have := HK3.out; have := HK4.out; omega⟩, ⟨by exact HO197.out⟩, ⟨by exact Kd.R_mono HO_62.out (fun _ hk => ⟨hk.2, ⟨hk.1.1, ⟨hk.1.2.1, ⟨hk.1.2.2.1, ⟨hk.1.2.2.2.1, ⟨hk.1.2.2.2.2.1, hk.1.2.2.2.2.2⟩⟩⟩⟩⟩⟩)⟩, ⟨by exact Kd.R_mono HO_84.out (fun _ hk => ⟨hk.2, ⟨hk.1.1, ⟨hk.1.2.1, ⟨hk.1.2.2.1, ⟨hk.1.2.2.2.1, ⟨hk.1.2.2.2.2.1, hk.1.2.2.2.2.2⟩⟩⟩⟩⟩⟩)⟩, ⟨by exact Kd.R_mono HO_176000.out (fun _ hk => ⟨hk.2, ⟨hk.1.1, ⟨hk.1.2.1, ⟨hk.1.2.2.1, ⟨hk.1.2.2.2.1, ⟨hk.1.2.2.2.2.1, hk.1.2.2.2.2.2⟩⟩⟩⟩⟩⟩)⟩, ⟨by exact Kd.R_mono HO_176001.out (fun _ hk => ⟨hk.2, ⟨hk.1.1, ⟨hk.1.2.1, ⟨hk.1.2.2.1, ⟨hk.1.2.2.2.1, ⟨hk.1.2.2.2.2.1, hk.1.2.2.2.2.2⟩⟩⟩⟩⟩⟩)⟩, ⟨by exact Kd.R_mono HO_176002.out (fun _ hk => ⟨hk.2, ⟨hk.1.1, ⟨hk.1.2.1, ⟨hk.1.2.2.1, ⟨hk.1.2.2.2.1, ⟨hk.1.2.2.2.2.1, ⟨hk.1.2.2.2.2.2.1, hk.1.2.2.2.2.2.2⟩⟩⟩⟩⟩⟩⟩)⟩, ⟨by exact Kd.R_mono HO_176003.out (fun _ hk => ⟨hk.2, ⟨hk.1.1, ⟨hk.1.2.1, ⟨hk.1.2.2.1, ⟨hk.1.2.2.2.1, ⟨hk.1.2.2.2.2.1, ⟨hk.1.2.2.2.2.2.1, hk.1.2.2.2.2.2.2⟩⟩⟩⟩⟩⟩⟩)⟩, ⟨by exact Kd.R_mono HO_176004.out (fun _ hk => ⟨hk.2, ⟨hk.1.1, ⟨hk.1.2.1, ⟨hk.1.2.2.1, ⟨hk.1.2.2.2.1, ⟨hk.1.2.2.2.2.1, ⟨hk.1.2.2.2.2.2.1, hk.1.2.2.2.2.2.2⟩⟩⟩⟩⟩⟩⟩)⟩, ⟨by exact Kd.R_mono HO_176005.out (fun _ hk => ⟨hk.2, ⟨hk.1.1, ⟨hk.1.2.1, ⟨hk.1.2.2.1, ⟨hk.1.2.2.2.1, ⟨hk.1.2.2.2.2.1, ⟨hk.1.2.2.2.2.2.1, hk.1.2.2.2.2.2.2⟩⟩⟩⟩⟩⟩⟩)⟩, ⟨by exact Kd.S_mono HO_176006.out (fun _ hk => ⟨hk.2, ⟨hk.1.1, ⟨hk.1.2.1, ⟨hk.1.2.2.1, ⟨hk.1.2.2.2.1, ⟨hk.1.2.2.2.2.1, ⟨hk.1.2.2.2.2.2.1, ⟨hk.1.2.2.2.2.2.2.1, hk.1.2.2.2.2.2.2.2⟩⟩⟩⟩⟩⟩⟩⟩)⟩, ⟨z26_⟩, ⟨z34_⟩, ⟨z103_⟩, ⟨z14_⟩⟩
            ·rw [if_neg c71] at H
             have c71b0 := decide_eq_false c71
             clear c71
             obtain ⟨c84, H⟩ := ifs_ H
             have LMc84 := Aside0.mk c84
             clear c84
             (generalize hy_ : ((x176006_3 ++ [x13_4]) : List (List Int)) = y198 at H; have Ny198 := Aside0.mk hy_.symm; clear hy_)
             have H' := Aside0.mk H
             clear H
             have hnb85 := NB175_158.out
             have hnc85 := NB158_175.out
             have hnb86 := NB175_159.out
             have hnc86 := NB159_175.out
             obtain ⟨hcz87_0, hcz87_1, hcz87_2, hcz87_3, hcz87_4, hcz87_5, hcz87_6, hfz87_0, hfz87_1, hfz87_2, hfz87_3, hfz87_4, hfz87_5, hfz87_6⟩ := bx7_ BK175.out
             obtain ⟨Ao89, co89, eo89⟩ := Kd.R_slice HO_13.out
             subst eo89
             go_wp2_with (((with_reducible refine gate_builtin (b := .append) (xs := #[.tmp 111, .tmp 113]) rfl ?_); at_builtin; refine Kd.S_append (Kd.slice 3 (Kd.int .i64)) (w0 := w) w.heap.size rfl (.tmp 111) (.tmp 113) 89 30 (.slice none 0 0) 24 rfl Try.underlying89 info30 rfl (by decide) (by omega) u176006 x176006_3 x13_4 [.slice Ao89 x13_4.length co89] (fun k_ => some k_ ≠ (.slice (some ad182) t163.length co34 : Value).ownBlock ∧ some k_ ≠ (.slice Ao33 t166.length co33 : Value).ownBlock ∧ some k_ ≠ (.slice (some ad182) t163.length co34 : Value).ownBlock ∧ some k_ ≠ (.slice Ao33 t166.length co33 : Value).ownBlock ∧ some k_ ≠ (.slice Ao32 t169.length co32 : Value).ownBlock ∧ some k_ ≠ (.slice Ao31 t172.length co31 : Value).ownBlock ∧ some k_ ≠ (.slice Ao64 y185.length co64 : Value).ownBlock ∧ some k_ ≠ (u176005 : Value).ownBlock) (fun k_ => some k_ = (.slice Ao89 x13_4.length co89 : Value).ownBlock) rfl rfl ?aP (fun k_ hk_ => ((Kd.R_mono (ok' := fun k_ => ((fun k_ => some k_ ≠ (.slice (some ad182) t163.length co34 : Value).ownBlock ∧ some k_ ≠ (.slice Ao33 t166.length co33 : Value).ownBlock ∧ some k_ ≠ (.slice (some ad182) t163.length co34 : Value).ownBlock ∧ some k_ ≠ (.slice Ao33 t166.length co33 : Value).ownBlock ∧ some k_ ≠ (.slice Ao32 t169.length co32 : Value).ownBlock ∧ some k_ ≠ (.slice Ao31 t172.length co31 : Value).ownBlock ∧ some k_ ≠ (.slice Ao64 y185.length co64 : Value).ownBlock ∧ some k_ ≠ (u176005 : Value).ownBlock)) k_ ∧ some k_ ≠ (u176006 : Value).ownBlock) (Kd.R_apart' (HO_13.out) (Kd.S_typed HO_176006.out) (by decide)) (fun k_ hk => ⟨⟨hk.1.1, ⟨hk.1.2.1, ⟨hk.1.2.2.1, ⟨hk.1.2.2.2.1, ⟨hk.1.2.2.2.2.1, ⟨hk.1.2.2.2.2.2.1, ⟨hk.1.2.2.2.2.2.2.1, hk.1.2.2.2.2.2.2.2⟩⟩⟩⟩⟩⟩⟩, hk.2⟩))).1 k_ hk_.symm) ?aF ?aO ?aB ?aS ?aL ?_; (case aP => exact Kd.M_row (Kd.R_mono (Kd.R_tight rfl (Kd.R_mono (ok' := fun k_ => ((fun k_ => some k_ ≠ (.slice (some ad182) t163.length co34 : Value).ownBlock ∧ some k_ ≠ (.slice Ao33 t166.length co33 : Value).ownBlock ∧ some k_ ≠ (.slice (some ad182) t163.length co34 : Value).ownBlock ∧ some k_ ≠ (.slice Ao33 t166.length co33 : Value).ownBlock ∧ some k_ ≠ (.slice Ao32 t169.length co32 : Value).ownBlock ∧ some k_ ≠ (.slice Ao31 t172.length co31 : Value).ownBlock ∧ some k_ ≠ (.slice Ao64 y185.length co64 : Value).ownBlock ∧ some k_ ≠ (u176005 : Value).ownBlock)) k_ ∧ some k_ ≠ (u176006 : Value).ownBlock) (Kd.R_apart' (HO_13.out) (Kd.S_typed HO_176006.out) (by decide)) (fun k_ hk => ⟨⟨hk.1.1, ⟨hk.1.2.1, ⟨hk.1.2.2.1, ⟨hk.1.2.2.2.1, ⟨hk.1.2.2.2.2.1, ⟨hk.1.2.2.2.2.2.1, ⟨hk.1.2.2.2.2.2.2.1, hk.1.2.2.2.2.2.2.2⟩⟩⟩⟩⟩⟩⟩, hk.2⟩))) (fun _ h_ => h_))); (case aB => exact z86_); (case aF => exact z44_); (case aO => exact (by exact Kd.S_mono HO_176006.out (fun k_ hk => ⟨⟨hk.2.1, ⟨hk.2.2.1, ⟨hk.2.2.2.1, ⟨hk.2.2.2.2.1, ⟨hk.2.2.2.2.2.1, ⟨hk.2.2.2.2.2.2.1, ⟨hk.2.2.2.2.2.2.2.1, hk.2.2.2.2.2.2.2.2⟩⟩⟩⟩⟩⟩⟩, fun e_ => hk.1 e_⟩))); (case aS => exact z83_); (case aL => have := LMc84.out; omega); intro v199 w88 ho hb hg hat; rw [← Ny198.out] at ho; replace HO_62 := Aside0.mk (Kd.R_over' z180_ (Kd.S_typed z93_) (by decide) hg); replace HO_84 := Aside0.mk (Kd.R_over' z194_ (Kd.S_typed z93_) (by decide) hg); replace HO_176000 := Aside0.mk (Kd.R_over' z147_ (Kd.S_typed z93_) (by decide) hg); replace HO_176001 := Aside0.mk (Kd.R_over' z148_ (Kd.S_typed z93_) (by decide) hg); replace HO_176002 := Aside0.mk (Kd.R_over' z149_ (Kd.S_typed z93_) (by decide) hg); replace HO_176003 := Aside0.mk (Kd.R_over' z150_ (Kd.S_typed z93_) (by decide) hg); replace HO_176004 := Aside0.mk (Kd.R_over' z174_ (Kd.S_typed z93_) (by decide) hg); replace HO_176005 := Aside0.mk (Kd.R_over' z151_ (Kd.S_typed z93_) (by decide) hg); replace BK158 := Aside0.mk (blk_grown z26_ hg (Kd.S_ne HO_176006.out BK158.out (by decide))); replace BK159 := Aside0.mk (blk_grown z34_ hg (Kd.S_ne HO_176006.out BK159.out (by decide))); replace BK175 := Aside0.mk (blk_grown z103_ hg (Kd.S_ne HO_176006.out BK175.out (by decide))); replace HB := Aside0.mk (hb); have HO200 := Aside0.mk (ho); clear HO_176006 HO_13; clear ho hb hg hat; obtain ⟨Ao90, co90, eo90⟩ := Kd.S_slice HO200.out; subst eo90; obtain ⟨hcz91_0, hcz91_1, hcz91_2, hcz91_3, hcz91_4, hcz91_5, hcz91_6, hfz91_0, hfz91_1, hfz91_2, hfz91_3, hfz91_4, hfz91_5, hfz91_6⟩ := bx7_ BK175.out))
             go_roundg k4
             case measure => have := HJ3.out; have := HK2.out; have := HK3.out; have := HK4.out; omega
             case rel => exact ⟨(wrap64 (x64_3 + 1)), (y185), (y198), (.slice Ao64 y185.length co64), (.slice Ao90 y198.length co90), z10_, H', ⟨by have := HJ3.out; have := HK2.out; have := HK3.out; have := HK4.out; omega⟩, ⟨by exact Kd.R_mono (Kd.R_far (p := ⟨gb175, 6, none⟩) (Kd.R_types HO_62.out BK175.out (by decide)) (fun _ hk => hk.2) (.slice Ao90 y198.length co90)) (fun _ hk => ⟨hk.1.2.2.1, ⟨hk.1.2.2.2.1, ⟨hk.1.2.2.2.2.1, ⟨hk.1.2.2.2.2.2.1, hk.1.2.2.2.2.2.2⟩⟩⟩⟩)⟩, ⟨by exact Kd.R_mono (Kd.R_far (p := ⟨gb175, 6, none⟩) (Kd.R_types HO_176000.out BK175.out (by decide)) (fun _ hk => hk.2) (.slice Ao90 y198.length co90)) (fun _ hk => ⟨hk.1.2.2.1, ⟨hk.1.2.2.2.1, ⟨hk.1.2.2.2.2.1, ⟨hk.1.2.2.2.2.2.1, hk.1.2.2.2.2.2.2⟩⟩⟩⟩)⟩, ⟨by exact Kd.R_mono (Kd.R_far (p := ⟨gb175, 6, none⟩) (Kd.R_types HO_176001.out BK175.out (by decide)) (fun _ hk => hk.2) (.slice Ao90 y198.length co90)) (fun _ hk => ⟨hk.1.2.1, ⟨hk.1.2.2.1, ⟨hk.1.2.2.2.1, ⟨hk.1.2.2.2.2.1, ⟨hk.1.2.2.2.2.2.1, hk.1.2.2.2.2.2.2⟩⟩⟩⟩⟩)⟩, ⟨by exact Kd.R_mono (Kd.R_far (p := ⟨gb175, 6, none⟩) (Kd.R_types HO_176002.out BK175.out (by decide)) (fun _ hk => hk.2) (.slice Ao90 y198.length co90)) (fun _ hk => ⟨hk.1.2.1, ⟨hk.1.2.2.2.1, ⟨hk.1.2.2.2.2.1, ⟨hk.1.2.2.2.2.2.1, ⟨hk.1.2.2.2.2.2.2.1, hk.1.2.2.2.2.2.2.2⟩⟩⟩⟩⟩)⟩, ⟨by exact Kd.R_mono (Kd.R_far (p := ⟨gb175, 6, none⟩) (Kd.R_types HO_176003.out BK175.out (by decide)) (fun _ hk => hk.2) (.slice Ao90 y198.length co90)) (fun _ hk => ⟨hk.1.2.1, ⟨hk.1.2.2.2.1, ⟨hk.1.2.2.2.2.1, ⟨hk.1.2.2.2.2.2.1, ⟨hk.1.2.2.2.2.2.2.1, hk.1.2.2.2.2.2.2.2⟩⟩⟩⟩⟩)⟩, ⟨by exact Kd.R_mono (Kd.R_far (p := ⟨gb175, 6, none⟩) (Kd.R_types HO_176004.out BK175.out (by decide)) (fun _ hk => hk.2) (.slice Ao90 y198.length co90)) (fun _ hk => ⟨hk.1.2.1, ⟨hk.1.2.2.2.1, ⟨hk.1.2.2.2.2.1, ⟨hk.1.2.2.2.2.2.1, ⟨hk.1.2.2.2.2.2.2.1, hk.1.2.2.2.2.2.2.2⟩⟩⟩⟩⟩)⟩, ⟨by exact Kd.R_mono (Kd.R_far (p := ⟨gb175, 6, none⟩) (Kd.R_types HO_176005.out BK175.out (by decide)) (fun _ hk => hk.2) (.slice Ao90 y198.length co90)) (fun _ hk => ⟨hk.1.2.1, ⟨hk.1.2.2.2.1, ⟨hk.1.2.2.2.2.1, ⟨hk.1.2.2.2.2.2.1, ⟨hk.1.2.2.2.2.2.2.1, hk.1.2.2.2.2.2.2.2⟩⟩⟩⟩⟩)⟩, ⟨by exact Kd.S_mono (Kd.S_far (p := ⟨gb175, 6, none⟩) (Kd.S_types HO200.out BK175.out (by decide)) (fun _ hk => hk.2) (.slice Ao90 y198.length co90)) (fun _ hk => ⟨hk.1.1, ⟨hk.1.2.2.1, ⟨hk.1.2.2.2.1, ⟨hk.1.2.2.2.2.1, ⟨hk.1.2.2.2.2.2.1, ⟨hk.1.2.2.2.2.2.2.1, hk.1.2.2.2.2.2.2.2⟩⟩⟩⟩⟩⟩)⟩, ⟨z108_⟩, ⟨z109_⟩, ⟨by refine blk_put (cs := #[.slice (some ad182) t163.length co34, .slice Ao33 t166.length co33, .slice Ao32 t169.length co32, .slice Ao31 t172.length co31, .slice Ao64 y185.length co64, u176005, u176006]) ?_ 6 _ rfl; exact BK175.out⟩, ⟨z14_⟩⟩
         ·rw [if_neg c54] at H
          have c54b0 := decide_eq_false c54
          clear c54
          simp only [Option.some.injEq, Prod.mk.injEq] at H
          obtain ⟨rfl, rfl, rfl, rfl, rfl, rfl, rfl, rfl⟩ := H
          have hnb92 := NB175_158.out
          have hnc92 := NB158_175.out
          have hnb93 := NB175_159.out
          have hnc93 := NB159_175.out
          obtain ⟨hcz94_0, hcz94_1, hcz94_2, hcz94_3, hcz94_4, hcz94_5, hcz94_6, hfz94_0, hfz94_1, hfz94_2, hfz94_3, hfz94_4, hfz94_5, hfz94_6⟩ := bx7_ BK175.out
          have hnb95 := NB159_158.out
          have hnc95 := NB158_159.out
          obtain ⟨hcz96_0, hcz96_1, hcz96_2, hcz96_3, hcz96_4, hcz96_5, hcz96_6, hfz96_0, hfz96_1, hfz96_2, hfz96_3, hfz96_4, hfz96_5, hfz96_6⟩ := bx7_ BK159.out
          obtain ⟨Ao97, co97, eo97⟩ := Kd.R_slice HO_176004.out
          subst eo97
          obtain ⟨Ao98, co98, eo98⟩ := Kd.R_slice HO_176005.out
          subst eo98
          obtain ⟨Ao99, co99, eo99⟩ := Kd.S_slice HO_176006.out
          subst eo99
          go_wp2
          refine bodyPost_ret (results_ct rfl _ _ gb159 91 #[.slice Ao34 t163.length co34, .slice Ao33 t166.length co33, .slice Ao32 t169.length co32, .slice Ao31 t172.length co31, .slice Ao97 x176004_3.length co97, .slice Ao98 x176005_2.length co98, .slice Ao99 x176006_3.length co99] (0, 0) _ rfl (by refine blk_put (cs := #[.slice Ao34 t163.length co34, .slice Ao33 t166.length co33, .slice Ao32 t169.length co32, .slice Ao31 t172.length co31, .slice Ao97 x176004_3.length co97, .slice Ao98 x176005_2.length co98, .slice none 0 0]) ?_ 6 _ rfl; refine blk_put (cs := #[.slice Ao34 t163.length co34, .slice Ao33 t166.length co33, .slice Ao32 t169.length co32, .slice Ao31 t172.length co31, .slice Ao97 x176004_3.length co97, .slice none 0 0, .slice none 0 0]) ?_ 5 _ rfl; refine blk_put (cs := #[.slice Ao34 t163.length co34, .slice Ao33 t166.length co33, .slice Ao32 t169.length co32, .slice Ao31 t172.length co31, .slice none 0 0, .slice none 0 0, .slice none 0 0]) ?_ 4 _ rfl; refine blk_put (cs := #[.slice Ao34 t163.length co34, .slice Ao33 t166.length co33, .slice Ao32 t169.length co32, .slice none 0 0, .slice none 0 0, .slice none 0 0, .slice none 0 0]) ?_ 3 _ rfl; refine blk_put (cs := #[.slice Ao34 t163.length co34, .slice Ao33 t166.length co33, .slice none 0 0, .slice none 0 0, .slice none 0 0, .slice none 0 0, .slice none 0 0]) ?_ 2 _ rfl; refine blk_put (cs := #[.slice Ao34 t163.length co34, .slice none 0 0, .slice none 0 0, .slice none 0 0, .slice none 0 0, .slice none 0 0, .slice none 0 0]) ?_ 1 _ rfl; refine blk_put (cs := #[.slice none 0 0, .slice none 0 0, .slice none 0 0, .slice none 0 0, .slice none 0 0, .slice none 0 0, .slice none 0 0]) ?_ 0 _ rfl; exact BK159.out) Try.underlying91 rfl (by kernel_rfl)) rfl ?_
          exact ⟨_, _, _, _, _, _, _, z6_, by exact Kd.R_mono (Kd.R_far (p := ⟨gb159, 6, none⟩) (Kd.R_far (p := ⟨gb159, 5, none⟩) (Kd.R_far (p := ⟨gb159, 4, none⟩) (Kd.R_far (p := ⟨gb159, 3, none⟩) (Kd.R_far (p := ⟨gb159, 2, none⟩) (Kd.R_far (p := ⟨gb159, 1, none⟩) (Kd.R_far (p := ⟨gb159, 0, none⟩) (Kd.R_types HO_176000.out BK159.out (by decide)) (fun _ hk => hk.2) (.slice Ao34 t163.length co34)) (fun _ hk => hk.2) (.slice Ao33 t166.length co33)) (fun _ hk => hk.2) (.slice Ao32 t169.length co32)) (fun _ hk => hk.2) (.slice Ao31 t172.length co31)) (fun _ hk => hk.2) (.slice Ao97 x176004_3.length co97)) (fun _ hk => hk.2) (.slice Ao98 x176005_2.length co98)) (fun _ hk => hk.2) (.slice Ao99 x176006_3.length co99)) (fun _ hk => ⟨hk.1.1, ⟨hk.1.2.1, ⟨hk.1.2.2.1, ⟨hk.1.2.2.2.1, hk.1.2.2.2.2⟩⟩⟩⟩), by exact Kd.R_mono (Kd.R_far (p := ⟨gb159, 6, none⟩) (Kd.R_far (p := ⟨gb159, 5, none⟩) (Kd.R_far (p := ⟨gb159, 4, none⟩) (Kd.R_far (p := ⟨gb159, 3, none⟩) (Kd.R_far (p := ⟨gb159, 2, none⟩) (Kd.R_far (p := ⟨gb159, 1, none⟩) (Kd.R_far (p := ⟨gb159, 0, none⟩) (Kd.R_types HO_176001.out BK159.out (by decide)) (fun _ hk => hk.2) (.slice Ao34 t163.length co34)) (fun _ hk => hk.2) (.slice Ao33 t166.length co33)) (fun _ hk => hk.2) (.slice Ao32 t169.length co32)) (fun _ hk => hk.2) (.slice Ao31 t172.length co31)) (fun _ hk => hk.2) (.slice Ao97 x176004_3.length co97)) (fun _ hk => hk.2) (.slice Ao98 x176005_2.length co98)) (fun _ hk => hk.2) (.slice Ao99 x176006_3.length co99)) (fun _ hk => ⟨hk.1.2.1, ⟨hk.1.2.2.1, ⟨hk.1.2.2.2.1, ⟨hk.1.2.2.2.2.1, hk.1.2.2.2.2.2⟩⟩⟩⟩), by exact Kd.R_mono (Kd.R_far (p := ⟨gb159, 6, none⟩) (Kd.R_far (p := ⟨gb159, 5, none⟩) (Kd.R_far (p := ⟨gb159, 4, none⟩) (Kd.R_far (p := ⟨gb159, 3, none⟩) (Kd.R_far (p := ⟨gb159, 2, none⟩) (Kd.R_far (p := ⟨gb159, 1, none⟩) (Kd.R_far (p := ⟨gb159, 0, none⟩) (Kd.R_types HO_176002.out BK159.out (by decide)) (fun _ hk => hk.2) (.slice Ao34 t163.length co34)) (fun _ hk => hk.2) (.slice Ao33 t166.length co33)) (fun _ hk => hk.2) (.slice Ao32 t169.length co32)) (fun _ hk => hk.2) (.slice Ao31 t172.length co31)) (fun _ hk => hk.2) (.slice Ao97 x176004_3.length co97)) (fun _ hk => hk.2) (.slice Ao98 x176005_2.length co98)) (fun _ hk => hk.2) (.slice Ao99 x176006_3.length co99)) (fun _ hk => ⟨hk.1.2.1, ⟨hk.1.2.2.1, ⟨hk.1.2.2.2.1, ⟨hk.1.2.2.2.2.1, hk.1.2.2.2.2.2⟩⟩⟩⟩), by exact Kd.R_mono (Kd.R_far (p := ⟨gb159, 6, none⟩) (Kd.R_far (p := ⟨gb159, 5, none⟩) (Kd.R_far (p := ⟨gb159, 4, none⟩) (Kd.R_far (p := ⟨gb159, 3, none⟩) (Kd.R_far (p := ⟨gb159, 2, none⟩) (Kd.R_far (p := ⟨gb159, 1, none⟩) (Kd.R_far (p := ⟨gb159, 0, none⟩) (Kd.R_types HO_176003.out BK159.out (by decide)) (fun _ hk => hk.2) (.slice Ao34 t163.length co34)) (fun _ hk => hk.2) (.slice Ao33 t166.length co33)) (fun _ hk => hk.2) (.slice Ao32 t169.length co32)) (fun _ hk => hk.2) (.slice Ao31 t172.length co31)) (fun _ hk => hk.2) (.slice Ao97 x176004_3.length co97)) (fun _ hk => hk.2) (.slice Ao98 x176005_2.length co98)) (fun _ hk => hk.2) (.slice Ao99 x176006_3.length co99)) (fun _ hk => ⟨hk.1.2.1, ⟨hk.1.2.2.1, ⟨hk.1.2.2.2.1, ⟨hk.1.2.2.2.2.1, hk.1.2.2.2.2.2⟩⟩⟩⟩), by exact Kd.R_mono (Kd.R_far (p := ⟨gb159, 6, none⟩) (Kd.R_far (p := ⟨gb159, 5, none⟩) (Kd.R_far (p := ⟨gb159, 4, none⟩) (Kd.R_far (p := ⟨gb159, 3, none⟩) (Kd.R_far (p := ⟨gb159, 2, none⟩) (Kd.R_far (p := ⟨gb159, 1, none⟩) (Kd.R_far (p := ⟨gb159, 0, none⟩) (Kd.R_types HO_176004.out BK159.out (by decide)) (fun _ hk => hk.2) (.slice Ao34 t163.length co34)) (fun _ hk => hk.2) (.slice Ao33 t166.length co33)) (fun _ hk => hk.2) (.slice Ao32 t169.length co32)) (fun _ hk => hk.2) (.slice Ao31 t172.length co31)) (fun _ hk => hk.2) (.slice Ao97 x176004_3.length co97)) (fun _ hk => hk.2) (.slice Ao98 x176005_2.length co98)) (fun _ hk => hk.2) (.slice Ao99 x176006_3.length co99)) (fun _ hk => ⟨hk.1.2.1, ⟨hk.1.2.2.1, ⟨hk.1.2.2.2.1, ⟨hk.1.2.2.2.2.1, hk.1.2.2.2.2.2⟩⟩⟩⟩), by exact Kd.R_mono (Kd.R_far (p := ⟨gb159, 6, none⟩) (Kd.R_far (p := ⟨gb159, 5, none⟩) (Kd.R_far (p := ⟨gb159, 4, none⟩) (Kd.R_far (p := ⟨gb159, 3, none⟩) (Kd.R_far (p := ⟨gb159, 2, none⟩) (Kd.R_far (p := ⟨gb159, 1, none⟩) (Kd.R_far (p := ⟨gb159, 0, none⟩) (Kd.R_types HO_176005.out BK159.out (by decide)) (fun _ hk => hk.2) (.slice Ao34 t163.length co34)) (fun _ hk => hk.2) (.slice Ao33 t166.length co33)) (fun _ hk => hk.2) (.slice Ao32 t169.length co32)) (fun _ hk => hk.2) (.slice Ao31 t172.length co31)) (fun _ hk => hk.2) (.slice Ao97 x176004_3.length co97)) (fun _ hk => hk.2) (.slice Ao98 x176005_2.length co98)) (fun _ hk => hk.2) (.slice Ao99 x176006_3.length co99)) (fun _ hk => ⟨hk.1.2.1, ⟨hk.1.2.2.1, ⟨hk.1.2.2.2.1, ⟨hk.1.2.2.2.2.1, hk.1.2.2.2.2.2⟩⟩⟩⟩), by exact Kd.S_mono (Kd.S_far (p := ⟨gb159, 6, none⟩) (Kd.S_far (p := ⟨gb159, 5, none⟩) (Kd.S_far (p := ⟨gb159, 4, none⟩) (Kd.S_far (p := ⟨gb159, 3, none⟩) (Kd.S_far (p := ⟨gb159, 2, none⟩) (Kd.S_far (p := ⟨gb159, 1, none⟩) (Kd.S_far (p := ⟨gb159, 0, none⟩) (Kd.S_types HO_176006.out BK159.out (by decide)) (fun _ hk => hk.2) (.slice Ao34 t163.length co34)) (fun _ hk => hk.2) (.slice Ao33 t166.length co33)) (fun _ hk => hk.2) (.slice Ao32 t169.length co32)) (fun _ hk => hk.2) (.slice Ao31 t172.length co31)) (fun _ hk => hk.2) (.slice Ao97 x176004_3.length co97)) (fun _ hk => hk.2) (.slice Ao98 x176005_2.length co98)) (fun _ hk => hk.2) (.slice Ao99 x176006_3.length co99)) (fun _ hk => ⟨hk.1.2.1, ⟨hk.1.2.2.1, ⟨hk.1.2.2.2.1, ⟨hk.1.2.2.2.2.1, ⟨hk.1.2.2.2.2.2.1, hk.1.2.2.2.2.2.2⟩⟩⟩⟩⟩), z14_⟩

end Go.Proofs.Ytbmkobanpakohaa.PFnMirrored
