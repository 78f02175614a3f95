/- Laid by a program of this session out of the kit's print for the law FnIdle: what it says of the machine is proved here, function by function; each contract under the conditions that it names. -/
import Derived.Test.YtmbhlfcpdbbogaaMFnIdlex0
import Derived.Test.YtmbhlfcpdbbogaaMFnIdlex2
import Derived.Test.YtmbhlfcpdbbogaaMFnIdlex5
import Derived.Test.YtmbhlfcpdbbogaaMFnIdlex8
namespace Go.Proofs.Ytmbhlfcpdbbogaa.PFnIdle
open Go.RowKit Go.Proofs.YtmbhlfcpdbbogaaW.PrintWords Go.Proofs.YtmbhlfcpdbbogaaW.PrintLast Go.Proofs.YtmbhlfcpdbbogaaW.PrintMore
attribute [local go_sem] max2_int min2_int max_two min_two max_three min_three max_four min_four   -- for this text's walks alone
set_option linter.unusedVariables false
set_option linter.unusedSimpArgs false

/-! ### spec_l13Op: function 108 -/
mutual
def spec_l13Op.j0 : Nat → List (S63) → List Int → Int → Int → Int → List Int → Int → Int → Int → Option (Int × List Int × Int × Int × Int × Int × Int)
 | 0, _, _, _, _, _, _, _, _, _ => none
 | k + 1, x1, x1000, x1001, x1002, x361000, x361001, x361002, x361003, x361004 => if x361000 = 3 then ((spec_NodeAt.f k x1 x361001).bind fun t364 => ((spec_KidsOf.f k x1 t364).bind fun t365 => ((spec_l1Below.f x1000 x1001 x1002 (wrap64 ((t365.length : Int) + 1))).bind fun bt368 => ((spec_l1Below.f x1000 bt368.2.1 bt368.2.2 (wrap64 ((wrap64 ((t365.length : Int) - bt368.1)) + 1))).bind fun bt371 => (spec_l13Op.j1 k x1000 bt371.2.1 bt371.2.2 x361000 x361001 x361002 bt368.1 bt371.1))))) else (spec_l13Op.j1 k x1000 x1001 x1002 x361000 x361001 x361002 x361003 x361004)
def spec_l13Op.j1 : Nat → List Int → Int → Int → Int → List Int → Int → Int → Int → Option (Int × List Int × Int × Int × Int × Int × Int)
 | 0, _, _, _, _, _, _, _, _ => none
 | k + 1, x1000, x1001, x1002, x361000, x361001, x361002, x361003, x361004 => (spec_l1Below.f x1000 x1001 x1002 14).bind fun bt374 => (if bt374.1 = 0 then ((spec_l1Below.f x1000 bt374.2.1 bt374.2.2 5).bind fun bt377 => (some (bt377.1, x361001, x361002, x361003, x361004, bt377.2.1, bt377.2.2))) else (if bt374.1 = 1 then ((spec_l1Below.f x1000 bt374.2.1 bt374.2.2 3).bind fun bt380 => (if x361001.length < 17592186044416 then (some (x361000, (x361001 ++ [wrap64 (bt380.1 - 1)]), x361002, x361003, x361004, bt380.2.1, bt380.2.2)) else (none))) else (if bt374.1 = 2 then ((spec_l2Any.f x1000 bt374.2.1 bt374.2.2).bind fun bt386 => (some (x361000, x361001, bt386.1, x361003, x361004, bt386.2.1, bt386.2.2))) else (if bt374.1 = 3 then ((spec_l1PickInt.f x1000 bt374.2.1 bt374.2.2 (([(-1), 1, 9, 9223372036854775807] : List Int))).bind fun bt392 => (some (x361000, x361001, x361002, bt392.1, x361004, bt392.2.1, bt392.2.2))) else (if bt374.1 = 4 then ((spec_l1PickInt.f x1000 bt374.2.1 bt374.2.2 (([(-1), 1, 9, 9223372036854775807] : List Int))).bind fun bt398 => (some (x361000, x361001, x361002, x361003, bt398.1, bt398.2.1, bt398.2.2))) else (some (x361000, x361001, x361002, x361003, x361004, bt374.2.1, bt374.2.2)))))))
end
def spec_l13Op.f (k : Nat) (s0_0 : List Int) (s0_1 : Int) (s0_2 : Int) (l1 : List (S63)) : Option (Int × List Int × Int × Int × Int × Int × Int) := (spec_l1Below.f s0_0 s0_1 s0_2 3).bind fun bt351 => ((spec_l1Below.f s0_0 bt351.2.1 bt351.2.2 (mx 1 (l1.length : Int))).bind fun bt354 => ((spec_PathOf.f k l1 bt354.1).bind fun t357 => (if (wrap64 (1 + bt351.1)) = 2 then (spec_l13Op.j0 k l1 s0_0 bt354.2.1 bt354.2.2 (wrap64 (1 + bt351.1)) t357 0 0 0) else ((spec_l2Label.f s0_0 bt354.2.1 bt354.2.2).bind fun bt361 => (spec_l13Op.j0 k l1 s0_0 bt361.2.1 bt361.2.2 (wrap64 (1 + bt351.1)) t357 bt361.1 0 0)))))
theorem spec_l13Op.mono_l : ∀ k, (∀ y0 y1 y2 y3 y4 y5 y6 y7 y8, LeO (spec_l13Op.j0 k y0 y1 y2 y3 y4 y5 y6 y7 y8) (spec_l13Op.j0 (k + 1) y0 y1 y2 y3 y4 y5 y6 y7 y8)) ∧ (∀ y0 y1 y2 y3 y4 y5 y6 y7, LeO (spec_l13Op.j1 k y0 y1 y2 y3 y4 y5 y6 y7) (spec_l13Op.j1 (k + 1) y0 y1 y2 y3 y4 y5 y6 y7))
 | 0 => ⟨fun _ _ _ _ _ _ _ _ _ r h => by simp [spec_l13Op.j0] at h, fun _ _ _ _ _ _ _ _ r h => by simp [spec_l13Op.j1] at h⟩
 | k + 1 => by
  obtain ⟨ih0, ih1⟩ := spec_l13Op.mono_l k
  refine ⟨?_, ?_⟩
  ·intro y0 y1 y2 y3 y4 y5 y6 y7 y8
   unfold spec_l13Op.j0
   repeat' first | (with_reducible first | exact ih0 _ _ _ _ _ _ _ _ _ | exact ih1 _ _ _ _ _ _ _ _ | exact spec_KidsOf.mono _ _ _ | exact spec_NodeAt.mono _ _ _ | exact spec_PathOf.mono _ _ _ | exact LeO.refl _ | exact LeO.none _ | refine LeO.ite ?_ ?_ | refine LeO.bind ?_ (fun _ => ?_)) | exact ih0 _ _ _ _ _ _ _ _ _ | exact ih1 _ _ _ _ _ _ _ _ | exact spec_KidsOf.mono _ _ _ | exact spec_NodeAt.mono _ _ _ | exact spec_PathOf.mono _ _ _ | exact LeO.none _ | refine LeO.ite ?_ ?_ | refine LeO.bind ?_ (fun _ => ?_)
  ·intro y0 y1 y2 y3 y4 y5 y6 y7
   unfold spec_l13Op.j1
   repeat' first | (with_reducible first | exact ih0 _ _ _ _ _ _ _ _ _ | exact ih1 _ _ _ _ _ _ _ _ | exact spec_KidsOf.mono _ _ _ | exact spec_NodeAt.mono _ _ _ | exact spec_PathOf.mono _ _ _ | exact LeO.refl _ | exact LeO.none _ | refine LeO.ite ?_ ?_ | refine LeO.bind ?_ (fun _ => ?_)) | exact ih0 _ _ _ _ _ _ _ _ _ | exact ih1 _ _ _ _ _ _ _ _ | exact spec_KidsOf.mono _ _ _ | exact spec_NodeAt.mono _ _ _ | exact spec_PathOf.mono _ _ _ | exact LeO.none _ | refine LeO.ite ?_ ?_ | refine LeO.bind ?_ (fun _ => ?_)
theorem spec_l13Op.mono : ∀ a0 a1 a2 a3 k, LeO (spec_l13Op.f k a0 a1 a2 a3) (spec_l13Op.f (k + 1) a0 a1 a2 a3) := by
 intro a0 a1 a2 a3 k
 obtain ⟨ih0, ih1⟩ := spec_l13Op.mono_l k
 unfold spec_l13Op.f
 repeat' first | (with_reducible first | exact ih0 _ _ _ _ _ _ _ _ _ | exact ih1 _ _ _ _ _ _ _ _ | exact spec_KidsOf.mono _ _ _ | exact spec_NodeAt.mono _ _ _ | exact spec_PathOf.mono _ _ _ | exact LeO.refl _ | exact LeO.none _ | refine LeO.ite ?_ ?_ | refine LeO.bind ?_ (fun _ => ?_)) | exact ih0 _ _ _ _ _ _ _ _ _ | exact ih1 _ _ _ _ _ _ _ _ | exact spec_KidsOf.mono _ _ _ | exact spec_NodeAt.mono _ _ _ | exact spec_PathOf.mono _ _ _ | exact LeO.none _ | refine LeO.ite ?_ ?_ | refine LeO.bind ?_ (fun _ => ?_)
def spec_l13Op.T12 : Bool × List (List Nat × List Nat) := (true, [([], []), ([0], [0]), ([], []), ([2], [2]), ([3], [3]), ([4], [4]), ([1, 5, 3], [1, 5]), ([0, 1, 2, 3, 4, 5, 6], []), ([7, 6, 6, 0, 1, 2, 3, 4, 5, 6], [6, 7])])
def spec_l13Op.B12 : List Nat := [0, 1, 0, 4, 12, 28, 63, 127, 255]
theorem spec_l13Op.tab12 : rtab .any (opsOf Try.f108 12) = spec_l13Op.T12 := by kernel_rfl
theorem spec_l13Op.bits12 : waitsOk spec_l13Op.T12.2 spec_l13Op.B12 = true := by kernel_rfl
set_option maxHeartbeats 8000000 in
set_option maxRecDepth 100000 in
theorem spec_l13Op.calls (k : Nat) (g : Nat) (s0_0 : List Int) (s0_1 : Int) (s0_2 : Int) (A1 : Option Addr) (c1 : Nat) (l1 : List (S63)) (r1 : Int) (r2 : List Int) (r3 : Int) (r4 : Int) (r5 : Int) (r6 : Int) (r7 : Int) (w0 w : World) (hI : IsS96 w0 w g s0_0 s0_1 s0_2) (hB : Below w0.heap.size w0 w) (hr1 : ∀ W_, KeepBut w W_ g none → Kd.C k63 W_ A1 l1.length l1) (hc1 : l1.length ≤ c1) (h : spec_l13Op.f k s0_0 s0_1 s0_2 l1 = some (r1, r2, r3, r4, r5, r6, r7)) :
  Calls Try.prog 108 #[.pointer (some ⟨g, 0, none⟩), .slice A1 l1.length c1] w fun e w' => ∃ v1_ : Value, e = .returned (.agg #[.int .i64 r1, v1_, .int .i64 r3, .int .i64 r4, .int .i64 r5]) ∧ Kd.R (Kd.int .i64) 3 w' w.heap.size (fun _ => True) v1_ r2 ∧ IsS96 w0 w' g s0_0 r6 r7 ∧ Below w0.heap.size w0 w' ∧ KeepBut w w' g none := by
 have hu65 := Try.underlying65
 have HR1 := Aside0.mk hr1
 have HC1 := Aside0.mk hc1
 clear hr1 hc1
 have HI0 := Aside0.mk hI
 have HK := Aside0.mk (KeepBut.refl w g none)
 have HL := Aside0.mk hB.size
 clear hI
 have HW0 := Aside0.mk hB.size
 have HB := Aside0.mk hB
 clear hB
 have H : ((spec_l1Below.f s0_0 s0_1 s0_2 3).bind fun bt351 => ((spec_l1Below.f s0_0 bt351.2.1 bt351.2.2 (mx 1 (l1.length : Int))).bind fun bt354 => ((spec_PathOf.f k l1 bt354.1).bind fun t357 => (if (wrap64 (1 + bt351.1)) = 2 then (spec_l13Op.j0 k l1 s0_0 bt354.2.1 bt354.2.2 (wrap64 (1 + bt351.1)) t357 0 0 0) else ((spec_l2Label.f s0_0 bt354.2.1 bt354.2.2).bind fun bt361 => (spec_l13Op.j0 k l1 s0_0 bt361.2.1 bt361.2.2 (wrap64 (1 + bt351.1)) t357 bt361.1 0 0)))))) = some (r1, r2, r3, r4, r5, r6, r7) := h
 clear h
 replace H := Option.bind_eq_some_iff.mp H
 obtain ⟨⟨t351, t352, t353⟩, A30, H⟩ := H
 replace H : ((spec_l1Below.f s0_0 t352 t353 (mx 1 (l1.length : Int))).bind fun bt354 => ((spec_PathOf.f k l1 bt354.1).bind fun t357 => (if (wrap64 (1 + t351)) = 2 then (spec_l13Op.j0 k l1 s0_0 bt354.2.1 bt354.2.2 (wrap64 (1 + t351)) t357 0 0 0) else ((spec_l2Label.f s0_0 bt354.2.1 bt354.2.2).bind fun bt361 => (spec_l13Op.j0 k l1 s0_0 bt361.2.1 bt361.2.2 (wrap64 (1 + t351)) t357 bt361.1 0 0))))) = some (r1, r2, r3, r4, r5, r6, r7) := H
 have A3 := Aside0.mk A30
 clear A30
 obtain ⟨ji4, hji4⟩ : ∃ j_ : Int, (mx 1 (l1.length : Int)) = j_ := ⟨_, rfl⟩
 replace H : ((spec_l1Below.f s0_0 t352 t353 (ji4)).bind fun bt354 => ((spec_PathOf.f k l1 bt354.1).bind fun t357 => (if (wrap64 (1 + t351)) = 2 then (spec_l13Op.j0 k l1 s0_0 bt354.2.1 bt354.2.2 (wrap64 (1 + t351)) t357 0 0 0) else ((spec_l2Label.f s0_0 bt354.2.1 bt354.2.2).bind fun bt361 => (spec_l13Op.j0 k l1 s0_0 bt361.2.1 bt361.2.2 (wrap64 (1 + t351)) t357 bt361.1 0 0))))) = some (r1, r2, r3, r4, r5, r6, r7) := by first | (rw [hji4] at H; exact H) | (simp only [hji4] at H ⊢; exact H)
 (try rw [hji4] at A3)
 (try (have hji4l : 1 ≤ ji4 := by (rw [← hji4]; unfold mx; (repeat' split) <;> omega)))
 (try (have hji4m : 0 ≤ ji4 := by omega))
 have hji4_ : (if 1 < (l1.length : Int) then (l1.length : Int) else 1) = ji4 := hji4
 replace H := Option.bind_eq_some_iff.mp H
 obtain ⟨⟨t354, t355, t356⟩, A50, H⟩ := H
 replace H : ((spec_PathOf.f k l1 t354).bind fun t357 => (if (wrap64 (1 + t351)) = 2 then (spec_l13Op.j0 k l1 s0_0 t355 t356 (wrap64 (1 + t351)) t357 0 0 0) else ((spec_l2Label.f s0_0 t355 t356).bind fun bt361 => (spec_l13Op.j0 k l1 s0_0 bt361.2.1 bt361.2.2 (wrap64 (1 + t351)) t357 bt361.1 0 0)))) = some (r1, r2, r3, r4, r5, r6, r7) := H
 have A5 := Aside0.mk A50
 clear A50
 obtain ⟨t357, A6, H⟩ := bnd_ H
 have HC7 := Aside0.mk H
 clear H
 go_enter Try.func108, Try.ntmps108
 go_upto_if 20 with (first | ((with_reducible refine gate_dst (N := 4) rfl ?_); refine box_event ?hg (N := 4) ?hd (cs := #[.int .i64 0, .slice none 0 0, .int .i64 0, .int .i64 0, .int .i64 0]) (t := 65) ?hr ?_; (case hd => rfl); (case hg => rfl); (case hr => exact z23_); intro gb350 hg w8 hbox hb; replace HB := Aside0.mk (below_step z5_ hb); have BK350 := Aside0.mk (hbox); have GW350 := Aside0.mk ((by rw [hg]; exact (keep_size (w := w) (g := g) (row := none) z2_) : w.heap.size ≤ gb350)); have GE350 := Aside0.mk ((Nat.le_trans HW0.out (by rw [hg]; exact (keep_size (w := w) (g := g) (row := none) z2_) : w.heap.size ≤ gb350) : w0.heap.size ≤ gb350)); replace HK := Aside0.mk (KeepBut.trans z2_ (KeepBut.of_below hb g none) (.inl rfl)); have NB0_350 := Aside0.mk ((by rw [hg]; exact Nat.ne_of_lt (IsS96.lt (show IsS96 w0 _ g s0_0 s0_1 s0_2 from by repeat (first | (with_reducible first | exact HI0.out | apply IsS96.alloc | apply IsS96.drewN | apply IsS96.drew | apply IsS96.set_1 | apply IsS96.set_2) | exact HI0.out))) : g ≠ gb350)); have NB350_0 := Aside0.mk ((by rw [hg]; exact Nat.ne_of_gt (IsS96.lt (show IsS96 w0 _ g s0_0 s0_1 s0_2 from by repeat (first | (with_reducible first | exact HI0.out | apply IsS96.alloc | apply IsS96.drewN | apply IsS96.drew | apply IsS96.set_1 | apply IsS96.set_2) | exact HI0.out))) : gb350 ≠ g)); replace HI0 := Aside0.mk (IsS96.below z4_ hb); clear hb hbox hg) | ((with_reducible refine gate_callee (f := 76) rfl ?_); refine goesL_ (some 8) rfl rfl Try.func76 (by kernel_rfl) rfl #[.pointer (some ⟨g, 0, none⟩), .int .i64 3] rfl z1_ ?_; (with_reducible refine (spec_l1Below.calls g s0_0 s0_1 s0_2 3 t351 t352 t353 w0 _ ?side1 ?side2 A3.out).mono ?_); (case side1 => exact z73_); (case side2 => exact z76_); rintro e w9 ⟨rfl, hi, hb, hk⟩; refine ⟨_, rfl, ?_⟩; replace BK350 := Aside0.mk (KeepBut.blk hk (g' := gb350) (o := .cells #[.int .i64 0, .slice none 0 0, .int .i64 0, .int .i64 0, .int .i64 0] 65 (0, 0)) z29_ NB350_0.out (by simp)); replace HK := Aside0.mk (KeepBut.trans z52_ hk (.inl rfl)); replace HB := Aside0.mk (hb); replace HI0 := Aside0.mk (hi); (try clear hb hk hi)) | ((with_reducible refine gate_callee (f := 76) rfl ?_); refine goesL_ (some 15) rfl rfl Try.func76 (by kernel_rfl) rfl #[.pointer (some ⟨g, 0, none⟩), .int .i64 ji4] rfl (by (try simp only [List.map_toArray, List.map_cons, List.map_nil]); first | done | (simp only [hji4]; rfl) | rfl | (simp only [List.length_drop, List.length_take]; rfl)) ?_; (with_reducible refine (spec_l1Below.calls g s0_0 t352 t353 ji4 t354 t355 t356 w0 _ ?side1 ?side2 A5.out).mono ?_); (case side1 => exact z73_); (case side2 => exact z76_); rintro e w10 ⟨rfl, hi, hb, hk⟩; refine ⟨_, rfl, ?_⟩; replace BK350 := Aside0.mk (KeepBut.blk hk (g' := gb350) (o := .cells #[.int .i64 0, .slice none 0 0, .int .i64 0, .int .i64 0, .int .i64 0] 65 (0, 0)) z29_ NB350_0.out (by simp)); replace HK := Aside0.mk (KeepBut.trans z52_ hk (.inl rfl)); replace HB := Aside0.mk (hb); replace HI0 := Aside0.mk (hi); (try clear hb hk hi)) | ((with_reducible refine gate_callee (f := 117) rfl ?_); refine goesL_ (some 16) rfl rfl Try.func117 (by kernel_rfl) rfl #[.slice A1 l1.length c1, .int .i64 t354] rfl z1_ ?_; (with_reducible refine (spec_PathOf.calls k _ _ l1 t354 t357 _ ?side1 ?side2 A6.out).mono ?_); (case side1 => exact Kd.C_foot_now HR1.out z52_); (case side2 => exact HC1.out); rintro e w11 ⟨v358, rfl, ho0, hb⟩; refine ⟨_, rfl, ?_⟩; have HO359 := Aside0.mk (Kd.R_lower ho0 (keep_size (w := w) (g := g) (row := none) z52_)); replace BK350 := Aside0.mk (blk_below (g := gb350) (o := .cells #[.int .i64 0, .slice none 0 0, .int .i64 0, .int .i64 0, .int .i64 0] 65 (0, 0)) z29_ hb); replace HK := Aside0.mk (KeepBut.trans z52_ (KeepBut.of_below hb g none) (.inl rfl)); replace HB := Aside0.mk (below_step z76_ hb); replace HI0 := Aside0.mk (IsS96.below z73_ hb); (try clear hb ho0); obtain ⟨Ao12, co12, eo12⟩ := Kd.R_slice HO359.out; subst eo12) | ((with_reducible refine gate_dst (N := 5) rfl ?_); refine box_event ?hg (N := 5) ?hd (cs := #[.int .i64 0, .slice none 0 0, .int .i64 0, .int .i64 0, .int .i64 0]) (t := 65) ?hr ?_; (case hd => rfl); (case hg => rfl); (case hr => exact z23_); intro gb360 hg w13 hbox hb; replace HO359 := Aside0.mk (Kd.R_below (by (with_reducible repeat (first | apply Kd.R_alloc | apply Kd.R_drewN | apply Kd.R_drew)); exact HO359.out) hb); replace HB := Aside0.mk (below_step z76_ hb); have BK360 := Aside0.mk (hbox); have GW360 := Aside0.mk ((by rw [hg]; exact (keep_size (w := w) (g := g) (row := none) z52_) : w.heap.size ≤ gb360)); have GE360 := Aside0.mk ((Nat.le_trans HW0.out (by rw [hg]; exact (keep_size (w := w) (g := g) (row := none) z52_) : w.heap.size ≤ gb360) : w0.heap.size ≤ gb360)); replace HK := Aside0.mk (KeepBut.trans z52_ (KeepBut.of_below hb g none) (.inl rfl)); have NB350_360 := Aside0.mk ((by rw [hg]; exact Nat.ne_of_lt (blk_lt (g := gb350) (o := .cells #[.int .i64 0, .slice none 0 0, .int .i64 0, .int .i64 0, .int .i64 0] 65 (0, 0)) z29_) : gb350 ≠ gb360)); have NB360_350 := Aside0.mk ((by rw [hg]; exact Nat.ne_of_gt (blk_lt (g := gb350) (o := .cells #[.int .i64 0, .slice none 0 0, .int .i64 0, .int .i64 0, .int .i64 0] 65 (0, 0)) z29_) : gb360 ≠ gb350)); replace BK350 := Aside0.mk (blk_below (g := gb350) (o := .cells #[.int .i64 0, .slice none 0 0, .int .i64 0, .int .i64 0, .int .i64 0] 65 (0, 0)) z29_ hb); have NB0_360 := Aside0.mk ((by rw [hg]; exact Nat.ne_of_lt (IsS96.lt (show IsS96 w0 _ g s0_0 t355 t356 from by repeat (first | (with_reducible first | exact HI0.out | apply IsS96.alloc | apply IsS96.drewN | apply IsS96.drew | apply IsS96.set_1 | apply IsS96.set_2 | refine IsS96.far ?_ NB0_350.out _) | exact HI0.out))) : g ≠ gb360)); have NB360_0 := Aside0.mk ((by rw [hg]; exact Nat.ne_of_gt (IsS96.lt (show IsS96 w0 _ g s0_0 t355 t356 from by repeat (first | (with_reducible first | exact HI0.out | apply IsS96.alloc | apply IsS96.drewN | apply IsS96.drew | apply IsS96.set_1 | apply IsS96.set_2 | refine IsS96.far ?_ NB0_350.out _) | exact HI0.out))) : gb360 ≠ g)); replace HI0 := Aside0.mk (IsS96.below z73_ hb); clear hb hbox hg; have hnb14 := NB360_350.out; have hnc14 := NB350_360.out; have hnb15 := NB360_0.out; have hnc15 := NB0_360.out; have hcz16_0 : w13.cell? ⟨gb360, 0, none⟩ = some (.int .i64 0) := (blk_cell BK360.out 0).trans rfl; have hcz16_1 : w13.cell? ⟨gb360, 1, none⟩ = some (.slice none 0 0) := (blk_cell BK360.out 1).trans rfl; have hcz16_2 : w13.cell? ⟨gb360, 2, none⟩ = some (.int .i64 0) := (blk_cell BK360.out 2).trans rfl; have hcz16_3 : w13.cell? ⟨gb360, 3, none⟩ = some (.int .i64 0) := (blk_cell BK360.out 3).trans rfl; have hcz16_4 : w13.cell? ⟨gb360, 4, none⟩ = some (.int .i64 0) := (blk_cell BK360.out 4).trans rfl; have hfz16_0 := blk_frozen BK360.out 0; have hfz16_1 := blk_frozen BK360.out 1; have hfz16_2 := blk_frozen BK360.out 2; have hfz16_3 := blk_frozen BK360.out 3; have hfz16_4 := blk_frozen BK360.out 4))
 (try simp only [Act.put, List.setIfInBounds_toArray, List.set_cons_zero, List.set_cons_succ])
 go_cut [] (fun wc => ∃ (kq : Nat) (x1001_6 : Int) (x1002_6 : Int) (x361002_6 : Int), Aside0 (spec_l13Op.j0 kq l1 s0_0 x1001_6 x1002_6 (wrap64 (1 + t351)) t357 x361002_6 0 0 = some (r1, r2, r3, r4, r5, r6, r7)) ∧ Aside0 (kq ≤ k) ∧ Aside0 (Kd.R (Kd.int .i64) 3 wc w.heap.size (fun _ => True) (.slice Ao12 t357.length co12) t357) ∧ Aside0 (wc.heap[gb350]? = some (.cells #[.int .i64 0, (.slice none 0 0), .int .i64 0, .int .i64 0, .int .i64 0] 65 (0, 0))) ∧ Aside0 (wc.heap[gb360]? = some (.cells #[.int .i64 (wrap64 (1 + t351)), (.slice Ao12 t357.length co12), .int .i64 x361002_6, .int .i64 0, .int .i64 0] 65 (0, 0))) ∧ Aside0 (IsS96 w0 wc g s0_0 x1001_6 x1002_6) ∧ Aside0 (KeepBut w wc g none) ∧ Aside0 (Below w0.heap.size w0 wc))
 case first =>
  have H := HC7.out
  clear HC7
  by_cases c17 : (wrap64 (1 + t351)) = 2
  ·rw [if_pos c17] at H
   have c17b0 : ((wrap64 (1 + t351)) == 2) = true := beq_iff_eq.mpr c17
   have c17b1 : ((wrap64 (1 + t351)) != 2) = false := bne_eq_false_iff_eq.mpr c17
   clear c17
   (first | rw [c17b0] | (simp only [i64_w, i32_w]; rw [c17b0]) | skip)
   have H' := Aside0.mk H
   clear H
   go_wp2
   go_meet
   case rel => exact ⟨_, (t355), (t356), (0), H', ⟨z143_⟩, ⟨by (with_reducible repeat (first | apply Kd.R_alloc | apply Kd.R_drewN | apply Kd.R_drew)); exact Kd.R_mono (Kd.R_far (p := ⟨gb360, 4, none⟩) (Kd.R_far (p := ⟨gb360, 3, none⟩) (Kd.R_far (p := ⟨gb360, 2, none⟩) (Kd.R_far (p := ⟨gb360, 1, none⟩) (Kd.R_far (p := ⟨gb360, 0, none⟩) (Kd.R_types HO359.out BK360.out (by decide)) (fun _ hk => hk.2) (.int .i64 (wrap64 (1 + t351)))) (fun _ hk => hk.2) (.slice Ao12 t357.length co12)) (fun _ hk => hk.2) (.int .i64 0)) (fun _ hk => hk.2) (.int .i64 0)) (fun _ hk => hk.2) (.int .i64 0)) (fun _ hk => trivial)⟩, ⟨z49_⟩, ⟨z31_⟩, ⟨z9_⟩, ⟨z8_⟩, ⟨z10_⟩⟩
  ·rw [if_neg c17] at H
   have c17b0 : ((wrap64 (1 + t351)) == 2) = false := beq_eq_false_iff_ne.mpr c17
   have c17b1 : ((wrap64 (1 + t351)) != 2) = true := bne_iff_ne.mpr c17
   (first | rw [c17b0] | (simp only [i64_w, i32_w]; rw [c17b0]) | skip)
   replace H := Option.bind_eq_some_iff.mp H
   obtain ⟨⟨t361, t362, t363⟩, A180, H⟩ := H
   replace H : (spec_l13Op.j0 k l1 s0_0 t362 t363 (wrap64 (1 + t351)) t357 t361 0 0) = some (r1, r2, r3, r4, r5, r6, r7) := H
   have A18 := Aside0.mk A180
   clear A180
   have H' := Aside0.mk H
   clear H
   go_wp2_with (first | ((with_reducible refine gate_callee (f := 116) rfl ?_); refine goesL_ (some 22) rfl rfl Try.func116 (by kernel_rfl) rfl #[.pointer (some ⟨g, 0, none⟩)] rfl z1_ ?_; (with_reducible refine (spec_l2Label.calls g s0_0 t355 t356 t361 t362 t363 w0 _ ?side1 ?side2 A18.out).mono ?_); (case side1 => exact z9_); (case side2 => exact z10_); rintro e w19 ⟨rfl, hi, hb, hk⟩; refine ⟨_, rfl, ?_⟩; replace BK350 := Aside0.mk (KeepBut.blk hk (g' := gb350) (o := .cells #[.int .i64 0, .slice none 0 0, .int .i64 0, .int .i64 0, .int .i64 0] 65 (0, 0)) z49_ NB350_0.out (by simp)); replace HO359 := Aside0.mk (Kd.R_mono (Kd.R_keep (IsS96.apart (show IsS96 w0 _ g s0_0 t355 t356 from by repeat (first | (with_reducible first | exact HI0.out | apply IsS96.alloc | apply IsS96.drewN | apply IsS96.drew | apply IsS96.set_1 | apply IsS96.set_2 | refine IsS96.far ?_ NB0_350.out _ | refine IsS96.far ?_ NB0_360.out _) | exact HI0.out)) (by (with_reducible repeat (first | apply Kd.R_alloc | apply Kd.R_drewN | apply Kd.R_drew)); exact (Kd.R_mono (Kd.R_far (p := ⟨gb360, 4, none⟩) (Kd.R_far (p := ⟨gb360, 3, none⟩) (Kd.R_far (p := ⟨gb360, 2, none⟩) (Kd.R_far (p := ⟨gb360, 1, none⟩) (Kd.R_far (p := ⟨gb360, 0, none⟩) (Kd.R_types HO359.out BK360.out (by decide)) (fun _ hk => hk.2) (.int .i64 (wrap64 (1 + t351)))) (fun _ hk => hk.2) (.slice Ao12 t357.length co12)) (fun _ hk => hk.2) (.int .i64 0)) (fun _ hk => hk.2) (.int .i64 0)) (fun _ hk => hk.2) (.int .i64 0)) (fun _ h_ => h_.1))) (by decide)) hk (fun _ h => h.2)) (fun _ h => h.1)); replace BK360 := Aside0.mk (KeepBut.blk hk (g' := gb360) (o := .cells #[.int .i64 (wrap64 (1 + t351)), .slice Ao12 t357.length co12, .int .i64 0, .int .i64 0, .int .i64 0] 65 (0, 0)) z31_ NB360_0.out (by simp)); replace HK := Aside0.mk (KeepBut.trans z8_ hk (.inl rfl)); replace HB := Aside0.mk (hb); replace HI0 := Aside0.mk (hi); (try clear hb hk hi); have hnb20 := NB360_350.out; have hnc20 := NB350_360.out; have hnb21 := NB360_0.out; have hnc21 := NB0_360.out; have hcz22_0 : w19.cell? ⟨gb360, 0, none⟩ = some (.int .i64 (wrap64 (1 + t351))) := (blk_cell BK360.out 0).trans rfl; have hcz22_1 : w19.cell? ⟨gb360, 1, none⟩ = some (.slice Ao12 t357.length co12) := (blk_cell BK360.out 1).trans rfl; have hcz22_2 : w19.cell? ⟨gb360, 2, none⟩ = some (.int .i64 0) := (blk_cell BK360.out 2).trans rfl; have hcz22_3 : w19.cell? ⟨gb360, 3, none⟩ = some (.int .i64 0) := (blk_cell BK360.out 3).trans rfl; have hcz22_4 : w19.cell? ⟨gb360, 4, none⟩ = some (.int .i64 0) := (blk_cell BK360.out 4).trans rfl; have hfz22_0 := blk_frozen BK360.out 0; have hfz22_1 := blk_frozen BK360.out 1; have hfz22_2 := blk_frozen BK360.out 2; have hfz22_3 := blk_frozen BK360.out 3; have hfz22_4 := blk_frozen BK360.out 4))
   go_meet
   case rel => exact ⟨_, (t362), (t363), (t361), H', ⟨z143_⟩, ⟨by (with_reducible repeat (first | apply Kd.R_alloc | apply Kd.R_drewN | apply Kd.R_drew)); exact Kd.R_mono (Kd.R_far (p := ⟨gb360, 2, none⟩) (Kd.R_types HO359.out BK360.out (by decide)) (fun _ hk => hk.2) (.int .i64 t361)) (fun _ hk => trivial)⟩, ⟨z80_⟩, ⟨by (with_reducible repeat (first | refine blk_drewN ?_ _ | refine blk_drew ?_ | refine blk_alloc ?_ _)); refine blk_put (cs := #[.int .i64 (wrap64 (1 + t351)), .slice Ao12 t357.length co12, .int .i64 0, .int .i64 0, .int .i64 0]) ?_ 2 _ rfl; (with_reducible repeat (first | refine blk_drewN ?_ _ | refine blk_drew ?_ | refine blk_alloc ?_ _)); exact BK360.out⟩, ⟨z9_⟩, ⟨z8_⟩, ⟨z10_⟩⟩
 case rest =>
  clear HC7
  try clear c1
  try clear c2
  try clear p2
  try clear p6
  try clear c7
  try clear c10
  try clear c11
  try clear c14
  try clear c15
  try clear c17
  try clear c17b0
  try clear c17b1
  try clear c20
  try clear c21
  try clear hcz16_0
  try clear hcz16_1
  try clear hcz16_2
  try clear hcz16_3
  try clear hcz16_4
  try clear hcz22_0
  try clear hcz22_1
  try clear hcz22_2
  try clear hcz22_3
  try clear hcz22_4
  try clear hfz16_0
  try clear hfz16_1
  try clear hfz16_2
  try clear hfz16_3
  try clear hfz16_4
  try clear hfz22_0
  try clear hfz22_1
  try clear hfz22_2
  try clear hfz22_3
  try clear hfz22_4
  obtain ⟨kq, x1001_6, x1002_6, x361002_6, HA, HJ6, HO_361001, BK350, BK360, HI0, HK, HB⟩ := hcut
  cases kq with
  | zero => exact absurd HA.out (by simp [spec_l13Op.j0])
  | succ kj6 =>
   have H := HA.out
   clear HA
   simp only [spec_l13Op.j0] at H
   have HC23 := Aside0.mk H
   clear H
   have hnb24 := NB360_350.out
   have hnc24 := NB350_360.out
   have hnb25 := NB360_0.out
   have hnc25 := NB0_360.out
   have hcz26_0 : wc.cell? ⟨gb360, 0, none⟩ = some (.int .i64 (wrap64 (1 + t351))) := (blk_cell BK360.out 0).trans rfl
   have hcz26_1 : wc.cell? ⟨gb360, 1, none⟩ = some (.slice Ao12 t357.length co12) := (blk_cell BK360.out 1).trans rfl
   have hcz26_2 : wc.cell? ⟨gb360, 2, none⟩ = some (.int .i64 x361002_6) := (blk_cell BK360.out 2).trans rfl
   have hcz26_3 : wc.cell? ⟨gb360, 3, none⟩ = some (.int .i64 0) := (blk_cell BK360.out 3).trans rfl
   have hcz26_4 : wc.cell? ⟨gb360, 4, none⟩ = some (.int .i64 0) := (blk_cell BK360.out 4).trans rfl
   have hfz26_0 := blk_frozen BK360.out 0
   have hfz26_1 := blk_frozen BK360.out 1
   have hfz26_2 := blk_frozen BK360.out 2
   have hfz26_3 := blk_frozen BK360.out 3
   have hfz26_4 := blk_frozen BK360.out 4
   go_upto_if 26 with (fail)
   go_cut [] (fun wc => ∃ (kq : Nat) (x1001_22 : Int) (x1002_22 : Int) (x361003_22 : Int) (x361004_22 : Int), Aside0 (spec_l13Op.j1 kq s0_0 x1001_22 x1002_22 (wrap64 (1 + t351)) t357 x361002_6 x361003_22 x361004_22 = some (r1, r2, r3, r4, r5, r6, r7)) ∧ Aside0 (kq ≤ kj6) ∧ Aside0 (Kd.R (Kd.int .i64) 3 wc w.heap.size (fun _ => True) (.slice Ao12 t357.length co12) t357) ∧ Aside0 (wc.heap[gb350]? = some (.cells #[.int .i64 0, (.slice none 0 0), .int .i64 0, .int .i64 0, .int .i64 0] 65 (0, 0))) ∧ Aside0 (wc.heap[gb360]? = some (.cells #[.int .i64 (wrap64 (1 + t351)), (.slice Ao12 t357.length co12), .int .i64 x361002_6, .int .i64 x361003_22, .int .i64 x361004_22] 65 (0, 0))) ∧ Aside0 (IsS96 w0 wc g s0_0 x1001_22 x1002_22) ∧ Aside0 (KeepBut w wc g none) ∧ Aside0 (Below w0.heap.size w0 wc))
   case first =>
    have H := HC23.out
    clear HC23
    by_cases c27 : (wrap64 (1 + t351)) = 3
    ·rw [if_pos c27] at H
     have c27b0 : ((wrap64 (1 + t351)) == 3) = true := beq_iff_eq.mpr c27
     have c27b1 : ((wrap64 (1 + t351)) != 3) = false := bne_eq_false_iff_eq.mpr c27
     clear c27
     (first | rw [c27b0] | (simp only [i64_w, i32_w]; rw [c27b0]) | skip)
     obtain ⟨t364, A28, H⟩ := bnd_ H
     obtain ⟨t365, A29, H⟩ := bnd_ H
     replace H := Option.bind_eq_some_iff.mp H
     obtain ⟨⟨t368, t369, t370⟩, A300, H⟩ := H
     replace H : ((spec_l1Below.f s0_0 t369 t370 (wrap64 ((wrap64 ((t365.length : Int) - t368)) + 1))).bind fun bt371 => (spec_l13Op.j1 kj6 s0_0 bt371.2.1 bt371.2.2 (wrap64 (1 + t351)) t357 x361002_6 t368 bt371.1)) = some (r1, r2, r3, r4, r5, r6, r7) := H
     have A30 := Aside0.mk A300
     clear A300
     replace H := Option.bind_eq_some_iff.mp H
     obtain ⟨⟨t371, t372, t373⟩, A310, H⟩ := H
     replace H : (spec_l13Op.j1 kj6 s0_0 t372 t373 (wrap64 (1 + t351)) t357 x361002_6 t368 t371) = some (r1, r2, r3, r4, r5, r6, r7) := H
     have A31 := Aside0.mk A310
     clear A310
     have H' := Aside0.mk H
     clear H
     have hnb32 := NB360_350.out
     have hnc32 := NB350_360.out
     have hnb33 := NB360_0.out
     have hnc33 := NB0_360.out
     have hcz34_0 : wc.cell? ⟨gb360, 0, none⟩ = some (.int .i64 (wrap64 (1 + t351))) := (blk_cell BK360.out 0).trans rfl
     have hcz34_1 : wc.cell? ⟨gb360, 1, none⟩ = some (.slice Ao12 t357.length co12) := (blk_cell BK360.out 1).trans rfl
     have hcz34_2 : wc.cell? ⟨gb360, 2, none⟩ = some (.int .i64 x361002_6) := (blk_cell BK360.out 2).trans rfl
     have hcz34_3 : wc.cell? ⟨gb360, 3, none⟩ = some (.int .i64 0) := (blk_cell BK360.out 3).trans rfl
     have hcz34_4 : wc.cell? ⟨gb360, 4, none⟩ = some (.int .i64 0) := (blk_cell BK360.out 4).trans rfl
     have hfz34_0 := blk_frozen BK360.out 0
     have hfz34_1 := blk_frozen BK360.out 1
     have hfz34_2 := blk_frozen BK360.out 2
     have hfz34_3 := blk_frozen BK360.out 3
     have hfz34_4 := blk_frozen BK360.out 4
     go_wp2_with (first | ((with_reducible refine gate_callee (f := 86) rfl ?_); refine goesL_ (some 31) rfl rfl Try.func86 (by kernel_rfl) rfl #[.slice A1 l1.length c1, .slice Ao12 t357.length co12] rfl z1_ ?_; (with_reducible refine (spec_NodeAt.calls kj6 _ _ l1 _ _ t357 t364 _ ?side1 ?side2 ?side3 ?side4 A28.out).mono ?_); (case side1 => exact z106_); (case side2 => exact HC1.out); (case side3 => repeat (first | exact (Kd.R_reads' HO_361001.out).2.2 | (with_reducible refine Kd.C_alloc ?_ _) | (with_reducible refine Kd.C_drewN ?_ _) | (with_reducible refine Kd.C_drew ?_))); (case side4 => exact (Kd.R_reads' HO_361001.out).2.1); rintro e w35 ⟨rfl, hb⟩; refine ⟨_, rfl, ?_⟩; replace HO_361001 := Aside0.mk (Kd.R_below z35_ hb); replace BK350 := Aside0.mk (blk_below (g := gb350) (o := .cells #[.int .i64 0, .slice none 0 0, .int .i64 0, .int .i64 0, .int .i64 0] 65 (0, 0)) z29_ hb); replace BK360 := Aside0.mk (blk_below (g := gb360) (o := .cells #[.int .i64 (wrap64 (1 + t351)), .slice Ao12 t357.length co12, .int .i64 x361002_6, .int .i64 0, .int .i64 0] 65 (0, 0)) z37_ hb); replace HK := Aside0.mk (KeepBut.trans z8_ (KeepBut.of_below hb g none) (.inl rfl)); replace HB := Aside0.mk (below_step z10_ hb); replace HI0 := Aside0.mk (IsS96.below z9_ hb); (try clear hb)) | ((with_reducible refine gate_callee (f := 102) rfl ?_); refine goesL_ (some 32) rfl rfl Try.func102 (by kernel_rfl) rfl #[.slice A1 l1.length c1, .int .i64 t364] rfl z1_ ?_; (with_reducible refine (spec_KidsOf.calls kj6 _ _ l1 t364 t365 _ ?side1 ?side2 A29.out).mono ?_); (case side1 => exact z106_); (case side2 => exact HC1.out); rintro e w36 ⟨v366, rfl, ho0, hb⟩; refine ⟨_, rfl, ?_⟩; have HO367 := Aside0.mk (Kd.R_lower (Kd.R_new' ho0 (Kd.R_lt z35_)) (keep_size (w := w) (g := g) (row := none) z8_)); replace HO_361001 := Aside0.mk (Kd.R_elder' z35_ (Kd.R_base ho0) hb); replace BK350 := Aside0.mk (blk_below (g := gb350) (o := .cells #[.int .i64 0, .slice none 0 0, .int .i64 0, .int .i64 0, .int .i64 0] 65 (0, 0)) z29_ hb); replace BK360 := Aside0.mk (blk_below (g := gb360) (o := .cells #[.int .i64 (wrap64 (1 + t351)), .slice Ao12 t357.length co12, .int .i64 x361002_6, .int .i64 0, .int .i64 0] 65 (0, 0)) z37_ hb); replace HK := Aside0.mk (KeepBut.trans z8_ (KeepBut.of_below hb g none) (.inl rfl)); replace HB := Aside0.mk (below_step z10_ hb); replace HI0 := Aside0.mk (IsS96.below z9_ hb); (try clear hb ho0); obtain ⟨Ao37, co37, eo37⟩ := Kd.R_slice HO367.out; subst eo37) | ((with_reducible refine gate_callee (f := 76) rfl ?_); refine goesL_ (some 37) rfl rfl Try.func76 (by kernel_rfl) rfl #[.pointer (some ⟨g, 0, none⟩), .int .i64 (wrap64 ((t365.length : Int) + 1))] rfl z1_ ?_; (with_reducible refine (spec_l1Below.calls g s0_0 x1001_6 x1002_6 (wrap64 ((t365.length : Int) + 1)) t368 t369 t370 w0 _ ?side1 ?side2 A30.out).mono ?_); (case side1 => exact z9_); (case side2 => exact z10_); rintro e w38 ⟨rfl, hi, hb, hk⟩; refine ⟨_, rfl, ?_⟩; replace HO_361001 := Aside0.mk (Kd.R_mono (Kd.R_keep (IsS96.apart (show IsS96 w0 _ g s0_0 x1001_6 x1002_6 from by repeat (first | (with_reducible first | exact HI0.out | apply IsS96.alloc | apply IsS96.drewN | apply IsS96.drew | apply IsS96.set_1 | apply IsS96.set_2 | refine IsS96.far ?_ NB0_350.out _ | refine IsS96.far ?_ NB0_360.out _) | exact HI0.out)) z35_ (by decide)) hk (fun _ h => h.2)) (fun _ h => h.1)); replace BK350 := Aside0.mk (KeepBut.blk hk (g' := gb350) (o := .cells #[.int .i64 0, .slice none 0 0, .int .i64 0, .int .i64 0, .int .i64 0] 65 (0, 0)) z29_ NB350_0.out (by simp)); replace BK360 := Aside0.mk (KeepBut.blk hk (g' := gb360) (o := .cells #[.int .i64 (wrap64 (1 + t351)), .slice Ao12 t357.length co12, .int .i64 x361002_6, .int .i64 0, .int .i64 0] 65 (0, 0)) z37_ NB360_0.out (by simp)); replace HO367 := Aside0.mk (Kd.R_mono (Kd.R_keep (IsS96.apart (show IsS96 w0 _ g s0_0 x1001_6 x1002_6 from by repeat (first | (with_reducible first | exact HI0.out | apply IsS96.alloc | apply IsS96.drewN | apply IsS96.drew | apply IsS96.set_1 | apply IsS96.set_2 | refine IsS96.far ?_ NB0_350.out _ | refine IsS96.far ?_ NB0_360.out _) | exact HI0.out)) (by (with_reducible repeat (first | apply Kd.R_alloc | apply Kd.R_drewN | apply Kd.R_drew)); exact HO367.out) (by decide)) hk (fun _ h => h.2)) (fun _ h => h.1)); replace HK := Aside0.mk (KeepBut.trans z8_ hk (.inl rfl)); replace HB := Aside0.mk (hb); replace HI0 := Aside0.mk (hi); (try clear hb hk hi); have hcz39_0 : w38.cell? ⟨gb360, 0, none⟩ = some (.int .i64 (wrap64 (1 + t351))) := (blk_cell BK360.out 0).trans rfl; have hcz39_1 : w38.cell? ⟨gb360, 1, none⟩ = some (.slice Ao12 t357.length co12) := (blk_cell BK360.out 1).trans rfl; have hcz39_2 : w38.cell? ⟨gb360, 2, none⟩ = some (.int .i64 x361002_6) := (blk_cell BK360.out 2).trans rfl; have hcz39_3 : w38.cell? ⟨gb360, 3, none⟩ = some (.int .i64 0) := (blk_cell BK360.out 3).trans rfl; have hcz39_4 : w38.cell? ⟨gb360, 4, none⟩ = some (.int .i64 0) := (blk_cell BK360.out 4).trans rfl; have hfz39_0 := blk_frozen BK360.out 0; have hfz39_1 := blk_frozen BK360.out 1; have hfz39_2 := blk_frozen BK360.out 2; have hfz39_3 := blk_frozen BK360.out 3; have hfz39_4 := blk_frozen BK360.out 4) | ((with_reducible refine gate_callee (f := 76) rfl ?_); refine goesL_ (some 45) rfl rfl Try.func76 (by kernel_rfl) rfl #[.pointer (some ⟨g, 0, none⟩), .int .i64 (wrap64 ((wrap64 ((t365.length : Int) - t368)) + 1))] rfl z1_ ?_; (with_reducible refine (spec_l1Below.calls g s0_0 t369 t370 (wrap64 ((wrap64 ((t365.length : Int) - t368)) + 1)) t371 t372 t373 w0 _ ?side1 ?side2 A31.out).mono ?_); (case side1 => exact z9_); (case side2 => exact z10_); rintro e w40 ⟨rfl, hi, hb, hk⟩; refine ⟨_, rfl, ?_⟩; replace HO_361001 := Aside0.mk (Kd.R_mono (Kd.R_keep (IsS96.apart (show IsS96 w0 _ g s0_0 t369 t370 from by repeat (first | (with_reducible first | exact HI0.out | apply IsS96.alloc | apply IsS96.drewN | apply IsS96.drew | apply IsS96.set_1 | apply IsS96.set_2 | refine IsS96.far ?_ NB0_350.out _ | refine IsS96.far ?_ NB0_360.out _) | exact HI0.out)) (by (with_reducible repeat (first | apply Kd.R_alloc | apply Kd.R_drewN | apply Kd.R_drew)); exact (Kd.R_mono (Kd.R_far (p := ⟨gb360, 3, none⟩) (Kd.R_types HO_361001.out BK360.out (by decide)) (fun _ hk => hk.2) (.int .i64 t368)) (fun _ h_ => h_.1))) (by decide)) hk (fun _ h => h.2)) (fun _ h => h.1)); replace BK350 := Aside0.mk (KeepBut.blk hk (g' := gb350) (o := .cells #[.int .i64 0, .slice none 0 0, .int .i64 0, .int .i64 0, .int .i64 0] 65 (0, 0)) z80_ NB350_0.out (by simp)); replace HO367 := Aside0.mk (Kd.R_mono (Kd.R_keep (IsS96.apart (show IsS96 w0 _ g s0_0 t369 t370 from by repeat (first | (with_reducible first | exact HI0.out | apply IsS96.alloc | apply IsS96.drewN | apply IsS96.drew | apply IsS96.set_1 | apply IsS96.set_2 | refine IsS96.far ?_ NB0_350.out _ | refine IsS96.far ?_ NB0_360.out _) | exact HI0.out)) (by (with_reducible repeat (first | apply Kd.R_alloc | apply Kd.R_drewN | apply Kd.R_drew)); exact (Kd.R_mono (Kd.R_far (p := ⟨gb360, 3, none⟩) (Kd.R_types HO367.out BK360.out (by decide)) (fun _ hk => hk.2) (.int .i64 t368)) (fun _ h_ => h_.1))) (by decide)) hk (fun _ h => h.2)) (fun _ h => h.1)); replace BK360 := Aside0.mk (KeepBut.blk hk (g' := gb360) (o := .cells #[.int .i64 (wrap64 (1 + t351)), .slice Ao12 t357.length co12, .int .i64 x361002_6, .int .i64 t368, .int .i64 0] 65 (0, 0)) (by (with_reducible repeat (first | refine blk_drewN ?_ _ | refine blk_drew ?_ | refine blk_alloc ?_ _)); refine blk_put (cs := #[.int .i64 (wrap64 (1 + t351)), .slice Ao12 t357.length co12, .int .i64 x361002_6, .int .i64 0, .int .i64 0]) ?_ 3 _ rfl; (with_reducible repeat (first | refine blk_drewN ?_ _ | refine blk_drew ?_ | refine blk_alloc ?_ _)); exact BK360.out) NB360_0.out (by simp)); replace HK := Aside0.mk (KeepBut.trans z8_ hk (.inl rfl)); replace HB := Aside0.mk (hb); replace HI0 := Aside0.mk (hi); (try clear hb hk hi); have hcz41_0 : w40.cell? ⟨gb360, 0, none⟩ = some (.int .i64 (wrap64 (1 + t351))) := (blk_cell BK360.out 0).trans rfl; have hcz41_1 : w40.cell? ⟨gb360, 1, none⟩ = some (.slice Ao12 t357.length co12) := (blk_cell BK360.out 1).trans rfl; have hcz41_2 : w40.cell? ⟨gb360, 2, none⟩ = some (.int .i64 x361002_6) := (blk_cell BK360.out 2).trans rfl; have hcz41_3 : w40.cell? ⟨gb360, 3, none⟩ = some (.int .i64 t368) := (blk_cell BK360.out 3).trans rfl; have hcz41_4 : w40.cell? ⟨gb360, 4, none⟩ = some (.int .i64 0) := (blk_cell BK360.out 4).trans rfl; have hfz41_0 := blk_frozen BK360.out 0; have hfz41_1 := blk_frozen BK360.out 1; have hfz41_2 := blk_frozen BK360.out 2; have hfz41_3 := blk_frozen BK360.out 3; have hfz41_4 := blk_frozen BK360.out 4))
     go_meet
     case rel => exact ⟨_, (t372), (t373), (t368), (t371), H', ⟨by have := HJ6.out; first | omega | exact Nat.le_refl _⟩, ⟨by (with_reducible repeat (first | apply Kd.R_alloc | apply Kd.R_drewN | apply Kd.R_drew)); exact Kd.R_mono (Kd.R_far (p := ⟨gb360, 4, none⟩) (Kd.R_types HO_361001.out BK360.out (by decide)) (fun _ hk => hk.2) (.int .i64 t371)) (fun _ hk => trivial)⟩, ⟨z80_⟩, ⟨by (with_reducible repeat (first | refine blk_drewN ?_ _ | refine blk_drew ?_ | refine blk_alloc ?_ _)); refine blk_put (cs := #[.int .i64 (wrap64 (1 + t351)), .slice Ao12 t357.length co12, .int .i64 x361002_6, .int .i64 t368, .int .i64 0]) ?_ 4 _ rfl; (with_reducible repeat (first | refine blk_drewN ?_ _ | refine blk_drew ?_ | refine blk_alloc ?_ _)); exact BK360.out⟩, ⟨z9_⟩, ⟨z8_⟩, ⟨z10_⟩⟩
    ·rw [if_neg c27] at H
     have c27b0 : ((wrap64 (1 + t351)) == 3) = false := beq_eq_false_iff_ne.mpr c27
     have c27b1 : ((wrap64 (1 + t351)) != 3) = true := bne_iff_ne.mpr c27
     (first | rw [c27b0] | (simp only [i64_w, i32_w]; rw [c27b0]) | skip)
     have H' := Aside0.mk H
     clear H
     go_wp2
     go_meet
     case rel => exact ⟨_, (x1001_6), (x1002_6), (0), (0), H', ⟨by have := HJ6.out; first | omega | exact Nat.le_refl _⟩, ⟨z35_⟩, ⟨z29_⟩, ⟨z37_⟩, ⟨z9_⟩, ⟨z8_⟩, ⟨z10_⟩⟩
   case rest =>
    clear HC23
    try clear c1
    try clear c2
    try clear p2
    try clear c3
    try clear p6
    try clear c7
    try clear c8
    try clear c10
    try clear c11
    try clear c14
    try clear c15
    try clear c17
    try clear c17b0
    try clear c17b1
    try clear c20
    try clear c21
    try clear c24
    try clear c25
    try clear c27
    try clear c27b0
    try clear c27b1
    try clear c32
    try clear c33
    try clear hcz16_0
    try clear hcz16_1
    try clear hcz16_2
    try clear hcz16_3
    try clear hcz16_4
    try clear hcz22_0
    try clear hcz22_1
    try clear hcz22_2
    try clear hcz22_3
    try clear hcz22_4
    try clear hcz26_0
    try clear hcz26_1
    try clear hcz26_2
    try clear hcz26_3
    try clear hcz26_4
    try clear hcz34_0
    try clear hcz34_1
    try clear hcz34_2
    try clear hcz34_3
    try clear hcz34_4
    try clear hcz39_0
    try clear hcz39_1
    try clear hcz39_2
    try clear hcz39_3
    try clear hcz39_4
    try clear hcz41_0
    try clear hcz41_1
    try clear hcz41_2
    try clear hcz41_3
    try clear hcz41_4
    try clear hfz16_0
    try clear hfz16_1
    try clear hfz16_2
    try clear hfz16_3
    try clear hfz16_4
    try clear hfz22_0
    try clear hfz22_1
    try clear hfz22_2
    try clear hfz22_3
    try clear hfz22_4
    try clear hfz26_0
    try clear hfz26_1
    try clear hfz26_2
    try clear hfz26_3
    try clear hfz26_4
    try clear hfz34_0
    try clear hfz34_1
    try clear hfz34_2
    try clear hfz34_3
    try clear hfz34_4
    try clear hfz39_0
    try clear hfz39_1
    try clear hfz39_2
    try clear hfz39_3
    try clear hfz39_4
    try clear hfz41_0
    try clear hfz41_1
    try clear hfz41_2
    try clear hfz41_3
    try clear hfz41_4
    try clear p2
    try clear p6
    obtain ⟨kq, x1001_22, x1002_22, x361003_22, x361004_22, HA, HJ22, HO_361001, BK350, BK360, HI0, HK, HB⟩ := hcut
    cases kq with
    | zero => exact absurd HA.out (by simp [spec_l13Op.j1])
    | succ kj22 =>
     have H := HA.out
     clear HA
     simp only [spec_l13Op.j1] at H
     replace H := Option.bind_eq_some_iff.mp H
     obtain ⟨⟨t374, t375, t376⟩, A420, H⟩ := H
     replace H : (if t374 = 0 then ((spec_l1Below.f s0_0 t375 t376 5).bind fun bt377 => (some (bt377.1, t357, x361002_6, x361003_22, x361004_22, bt377.2.1, bt377.2.2))) else (if t374 = 1 then ((spec_l1Below.f s0_0 t375 t376 3).bind fun bt380 => (if t357.length < 17592186044416 then (some ((wrap64 (1 + t351)), (t357 ++ [wrap64 (bt380.1 - 1)]), x361002_6, x361003_22, x361004_22, bt380.2.1, bt380.2.2)) else (none))) else (if t374 = 2 then ((spec_l2Any.f s0_0 t375 t376).bind fun bt386 => (some ((wrap64 (1 + t351)), t357, bt386.1, x361003_22, x361004_22, bt386.2.1, bt386.2.2))) else (if t374 = 3 then ((spec_l1PickInt.f s0_0 t375 t376 (([(-1), 1, 9, 9223372036854775807] : List Int))).bind fun bt392 => (some ((wrap64 (1 + t351)), t357, x361002_6, bt392.1, x361004_22, bt392.2.1, bt392.2.2))) else (if t374 = 4 then ((spec_l1PickInt.f s0_0 t375 t376 (([(-1), 1, 9, 9223372036854775807] : List Int))).bind fun bt398 => (some ((wrap64 (1 + t351)), t357, x361002_6, x361003_22, bt398.1, bt398.2.1, bt398.2.2))) else (some ((wrap64 (1 + t351)), t357, x361002_6, x361003_22, x361004_22, t375, t376))))))) = some (r1, r2, r3, r4, r5, r6, r7) := H
     have A42 := Aside0.mk A420
     clear A420
     by_cases c43 : t374 = 0
     ·rw [if_pos c43] at H
      have c43b0 : (t374 == 0) = true := beq_iff_eq.mpr c43
      have c43b1 : (t374 != 0) = false := bne_eq_false_iff_eq.mpr c43
      clear c43
      replace H := Option.bind_eq_some_iff.mp H
      obtain ⟨⟨t377, t378, t379⟩, A440, H⟩ := H
      replace H : (some (t377, t357, x361002_6, x361003_22, x361004_22, t378, t379)) = some (r1, r2, r3, r4, r5, r6, r7) := H
      have A44 := Aside0.mk A440
      clear A440
      simp only [Option.some.injEq, Prod.mk.injEq] at H
      obtain ⟨rfl, rfl, rfl, rfl, rfl, rfl, rfl⟩ := H
      go_wp2_with (first | ((with_reducible refine gate_callee (f := 76) rfl ?_); refine goesL_ (some 48) rfl rfl Try.func76 (by kernel_rfl) rfl #[.pointer (some ⟨g, 0, none⟩), .int .i64 14] rfl z1_ ?_; (with_reducible refine (spec_l1Below.calls g s0_0 x1001_22 x1002_22 14 t374 t375 t376 w0 _ ?side1 ?side2 A42.out).mono ?_); (case side1 => exact z9_); (case side2 => exact z10_); rintro e w45 ⟨rfl, hi, hb, hk⟩; refine ⟨_, rfl, ?_⟩; replace HO_361001 := Aside0.mk (Kd.R_mono (Kd.R_keep (IsS96.apart (show IsS96 w0 _ g s0_0 x1001_22 x1002_22 from by repeat (first | (with_reducible first | exact HI0.out | apply IsS96.alloc | apply IsS96.drewN | apply IsS96.drew | apply IsS96.set_1 | apply IsS96.set_2 | refine IsS96.far ?_ NB0_350.out _ | refine IsS96.far ?_ NB0_360.out _) | exact HI0.out)) z35_ (by decide)) hk (fun _ h => h.2)) (fun _ h => h.1)); replace BK350 := Aside0.mk (KeepBut.blk hk (g' := gb350) (o := .cells #[.int .i64 0, .slice none 0 0, .int .i64 0, .int .i64 0, .int .i64 0] 65 (0, 0)) z29_ NB350_0.out (by simp)); replace BK360 := Aside0.mk (KeepBut.blk hk (g' := gb360) (o := .cells #[.int .i64 (wrap64 (1 + t351)), .slice Ao12 t357.length co12, .int .i64 x361002_6, .int .i64 x361003_22, .int .i64 x361004_22] 65 (0, 0)) z37_ NB360_0.out (by simp)); replace HK := Aside0.mk (KeepBut.trans z8_ hk (.inl rfl)); replace HB := Aside0.mk (hb); replace HI0 := Aside0.mk (hi); (try clear hb hk hi)) | ((with_reducible refine gate_callee (f := 76) rfl ?_); refine goesL_ (some 52) rfl rfl Try.func76 (by kernel_rfl) rfl #[.pointer (some ⟨g, 0, none⟩), .int .i64 5] rfl z1_ ?_; (with_reducible refine (spec_l1Below.calls g s0_0 t375 t376 5 t377 t378 t379 w0 _ ?side1 ?side2 A44.out).mono ?_); (case side1 => exact z9_); (case side2 => exact z10_); rintro e w46 ⟨rfl, hi, hb, hk⟩; refine ⟨_, rfl, ?_⟩; replace HO_361001 := Aside0.mk (Kd.R_mono (Kd.R_keep (IsS96.apart (show IsS96 w0 _ g s0_0 t375 t376 from by repeat (first | (with_reducible first | exact HI0.out | apply IsS96.alloc | apply IsS96.drewN | apply IsS96.drew | apply IsS96.set_1 | apply IsS96.set_2 | refine IsS96.far ?_ NB0_350.out _ | refine IsS96.far ?_ NB0_360.out _) | exact HI0.out)) z35_ (by decide)) hk (fun _ h => h.2)) (fun _ h => h.1)); replace BK350 := Aside0.mk (KeepBut.blk hk (g' := gb350) (o := .cells #[.int .i64 0, .slice none 0 0, .int .i64 0, .int .i64 0, .int .i64 0] 65 (0, 0)) z29_ NB350_0.out (by simp)); replace BK360 := Aside0.mk (KeepBut.blk hk (g' := gb360) (o := .cells #[.int .i64 (wrap64 (1 + t351)), .slice Ao12 t357.length co12, .int .i64 x361002_6, .int .i64 x361003_22, .int .i64 x361004_22] 65 (0, 0)) z37_ NB360_0.out (by simp)); replace HK := Aside0.mk (KeepBut.trans z8_ hk (.inl rfl)); replace HB := Aside0.mk (hb); replace HI0 := Aside0.mk (hi); (try clear hb hk hi); have hnb47 := NB360_350.out; have hnc47 := NB350_360.out; have hnb48 := NB360_0.out; have hnc48 := NB0_360.out; have hcz49_0 : w46.cell? ⟨gb360, 0, none⟩ = some (.int .i64 (wrap64 (1 + t351))) := (blk_cell BK360.out 0).trans rfl; have hcz49_1 : w46.cell? ⟨gb360, 1, none⟩ = some (.slice Ao12 t357.length co12) := (blk_cell BK360.out 1).trans rfl; have hcz49_2 : w46.cell? ⟨gb360, 2, none⟩ = some (.int .i64 x361002_6) := (blk_cell BK360.out 2).trans rfl; have hcz49_3 : w46.cell? ⟨gb360, 3, none⟩ = some (.int .i64 x361003_22) := (blk_cell BK360.out 3).trans rfl; have hcz49_4 : w46.cell? ⟨gb360, 4, none⟩ = some (.int .i64 x361004_22) := (blk_cell BK360.out 4).trans rfl; have hfz49_0 := blk_frozen BK360.out 0; have hfz49_1 := blk_frozen BK360.out 1; have hfz49_2 := blk_frozen BK360.out 2; have hfz49_3 := blk_frozen BK360.out 3; have hfz49_4 := blk_frozen BK360.out 4; have hnb50 := NB350_0.out; have hnc50 := NB0_350.out; have hcz51_0 : w46.cell? ⟨gb350, 0, none⟩ = some (.int .i64 0) := (blk_cell BK350.out 0).trans rfl; have hcz51_1 : w46.cell? ⟨gb350, 1, none⟩ = some (.slice none 0 0) := (blk_cell BK350.out 1).trans rfl; have hcz51_2 : w46.cell? ⟨gb350, 2, none⟩ = some (.int .i64 0) := (blk_cell BK350.out 2).trans rfl; have hcz51_3 : w46.cell? ⟨gb350, 3, none⟩ = some (.int .i64 0) := (blk_cell BK350.out 3).trans rfl; have hcz51_4 : w46.cell? ⟨gb350, 4, none⟩ = some (.int .i64 0) := (blk_cell BK350.out 4).trans rfl; have hfz51_0 := blk_frozen BK350.out 0; have hfz51_1 := blk_frozen BK350.out 1; have hfz51_2 := blk_frozen BK350.out 2; have hfz51_3 := blk_frozen BK350.out 3; have hfz51_4 := blk_frozen BK350.out 4))
      refine bodyPost_ret (results_cell_row rfl _ _ gb350 65 #[.int .i64 t377, .slice Ao12 t357.length co12, .int .i64 x361002_6, .int .i64 x361003_22, .int .i64 x361004_22] (0, 0) _ rfl (by (with_reducible repeat (first | refine blk_drewN ?_ _ | refine blk_drew ?_ | refine blk_alloc ?_ _)); refine blk_put (cs := #[.int .i64 t377, .slice Ao12 t357.length co12, .int .i64 x361002_6, .int .i64 x361003_22, .int .i64 0]) ?_ 4 _ rfl; (with_reducible repeat (first | refine blk_drewN ?_ _ | refine blk_drew ?_ | refine blk_alloc ?_ _)); refine blk_put (cs := #[.int .i64 t377, .slice Ao12 t357.length co12, .int .i64 x361002_6, .int .i64 0, .int .i64 0]) ?_ 3 _ rfl; (with_reducible repeat (first | refine blk_drewN ?_ _ | refine blk_drew ?_ | refine blk_alloc ?_ _)); refine blk_put (cs := #[.int .i64 t377, .slice Ao12 t357.length co12, .int .i64 0, .int .i64 0, .int .i64 0]) ?_ 2 _ rfl; (with_reducible repeat (first | refine blk_drewN ?_ _ | refine blk_drew ?_ | refine blk_alloc ?_ _)); refine blk_put (cs := #[.int .i64 t377, .slice none 0 0, .int .i64 0, .int .i64 0, .int .i64 0]) ?_ 1 _ rfl; (with_reducible repeat (first | refine blk_drewN ?_ _ | refine blk_drew ?_ | refine blk_alloc ?_ _)); refine blk_put (cs := #[.int .i64 0, .slice none 0 0, .int .i64 0, .int .i64 0, .int .i64 0]) ?_ 0 _ rfl; (with_reducible repeat (first | refine blk_drewN ?_ _ | refine blk_drew ?_ | refine blk_alloc ?_ _)); refine blk_far ?_ NB350_360.out _; (with_reducible repeat (first | refine blk_drewN ?_ _ | refine blk_drew ?_ | refine blk_alloc ?_ _)); exact BK350.out) Try.underlying65 rfl (by kernel_rfl)) rfl ?_
      exact ⟨_, z62_, by (with_reducible repeat (first | apply Kd.R_alloc | apply Kd.R_drewN | apply Kd.R_drew)); exact Kd.R_mono (Kd.R_far (p := ⟨gb350, 4, none⟩) (Kd.R_far (p := ⟨gb350, 3, none⟩) (Kd.R_far (p := ⟨gb350, 2, none⟩) (Kd.R_far (p := ⟨gb350, 1, none⟩) (Kd.R_far (p := ⟨gb350, 0, none⟩) (Kd.R_far (p := ⟨gb360, 0, none⟩) (Kd.R_types (Kd.R_types HO_361001.out BK360.out (by decide)) BK350.out (by decide)) (fun _ hk => hk.1.2) (.int .i64 t377)) (fun _ hk => hk.2) (.int .i64 t377)) (fun _ hk => hk.2) (.slice Ao12 t357.length co12)) (fun _ hk => hk.2) (.int .i64 x361002_6)) (fun _ hk => hk.2) (.int .i64 x361003_22)) (fun _ hk => hk.2) (.int .i64 x361004_22)) (fun _ hk => trivial), z9_, z10_, z8_⟩
     ·rw [if_neg c43] at H
      have c43b0 : (t374 == 0) = false := beq_eq_false_iff_ne.mpr c43
      have c43b1 : (t374 != 0) = true := bne_iff_ne.mpr c43
      by_cases c52 : t374 = 1
      ·rw [if_pos c52] at H
       have c52b0 : (t374 == 1) = true := beq_iff_eq.mpr c52
       have c52b1 : (t374 != 1) = false := bne_eq_false_iff_eq.mpr c52
       clear c52
       replace H := Option.bind_eq_some_iff.mp H
       obtain ⟨⟨t380, t381, t382⟩, A530, H⟩ := H
       replace H : (if t357.length < 17592186044416 then (some ((wrap64 (1 + t351)), (t357 ++ [wrap64 (t380 - 1)]), x361002_6, x361003_22, x361004_22, t381, t382)) else (none)) = some (r1, r2, r3, r4, r5, r6, r7) := H
       have A53 := Aside0.mk A530
       clear A530
       obtain ⟨c54, H⟩ := ifs_ H
       have LMc54 := Aside0.mk c54
       clear c54
       obtain ⟨y383, hy383⟩ : ∃ y_ : List Int, y_ = (t357 ++ [wrap64 (t380 - 1)]) := ⟨_, rfl⟩
       replace H : (some ((wrap64 (1 + t351)), y383, x361002_6, x361003_22, x361004_22, t381, t382)) = some (r1, r2, r3, r4, r5, r6, r7) := by first | (rw [hy383]; with_reducible exact H) | (have H2_ := (Option.bind_some _ _).symm.trans H; rw [hy383]; with_reducible exact H2_) | (have H2_ := (Option.bind_some _ _).symm.trans H; with_reducible exact H2_) | with_reducible exact H | (rw [hy383]; exact H) | exact H
       have Ny383 := Aside0.mk hy383
       clear hy383
       simp only [Option.some.injEq, Prod.mk.injEq] at H
       obtain ⟨rfl, rfl, rfl, rfl, rfl, rfl, rfl⟩ := H
       try go_wp2_with (first | ((with_reducible refine gate_callee (f := 76) rfl ?_); refine goesL_ (some 48) rfl rfl Try.func76 (by kernel_rfl) rfl #[.pointer (some ⟨g, 0, none⟩), .int .i64 14] rfl z1_ ?_; (with_reducible refine (spec_l1Below.calls g s0_0 x1001_22 x1002_22 14 t374 t375 t376 w0 _ ?side1 ?side2 A42.out).mono ?_); (case side1 => exact z9_); (case side2 => exact z10_); rintro e w55 ⟨rfl, hi, hb, hk⟩; refine ⟨_, rfl, ?_⟩; replace HO_361001 := Aside0.mk (Kd.R_mono (Kd.R_keep (IsS96.apart (show IsS96 w0 _ g s0_0 x1001_22 x1002_22 from by repeat (first | (with_reducible first | exact HI0.out | apply IsS96.alloc | apply IsS96.drewN | apply IsS96.drew | apply IsS96.set_1 | apply IsS96.set_2 | refine IsS96.far ?_ NB0_350.out _ | refine IsS96.far ?_ NB0_360.out _) | exact HI0.out)) z35_ (by decide)) hk (fun _ h => h.2)) (fun _ h => h.1)); replace BK350 := Aside0.mk (KeepBut.blk hk (g' := gb350) (o := .cells #[.int .i64 0, .slice none 0 0, .int .i64 0, .int .i64 0, .int .i64 0] 65 (0, 0)) z29_ NB350_0.out (by simp)); replace BK360 := Aside0.mk (KeepBut.blk hk (g' := gb360) (o := .cells #[.int .i64 (wrap64 (1 + t351)), .slice Ao12 t357.length co12, .int .i64 x361002_6, .int .i64 x361003_22, .int .i64 x361004_22] 65 (0, 0)) z37_ NB360_0.out (by simp)); replace HK := Aside0.mk (KeepBut.trans z8_ hk (.inl rfl)); replace HB := Aside0.mk (hb); replace HI0 := Aside0.mk (hi); (try clear hb hk hi)))
       have n0_ := Aside0.mk (Kd.R_drew HO_361001.out)
       have n1_ := Aside0.mk (blk_drew BK350.out)
       have n2_ := Aside0.mk (blk_drew BK360.out)
       have n3_ := Aside0.mk (IsS96.drew HI0.out)
       have n4_ := Aside0.mk (keep_drew HK.out)
       have n5_ := Aside0.mk (below_drew1 HB.out)
       clear HO_361001
       clear BK350
       clear BK360
       clear HI0
       clear HK
       clear HB
       have HO_361001 := n0_
       have BK350 := n1_
       have BK360 := n2_
       have HI0 := n3_
       have HK := n4_
       have HB := n5_
       clear n0_ n1_ n2_ n3_ n4_ n5_
       refine start_ (n := 9) (S := fun w' => w'.cell? ⟨gb360, 0, none⟩ = some (.int .i64 (wrap64 (1 + t351))) ∧ w'.cell? ⟨gb360, 1, none⟩ = some (.slice Ao12 t357.length co12) ∧ w'.cell? ⟨gb360, 2, none⟩ = some (.int .i64 x361002_6) ∧ w'.cell? ⟨gb360, 3, none⟩ = some (.int .i64 x361003_22) ∧ w'.cell? ⟨gb360, 4, none⟩ = some (.int .i64 x361004_22)) (ds := [8]) (fl_ 9 0) (by kernel_rfl) rfl (fl_zero _) ⟨(blk_cell BK360.out 0).trans rfl, (blk_cell BK360.out 1).trans rfl, (blk_cell BK360.out 2).trans rfl, (blk_cell BK360.out 3).trans rfl, (blk_cell BK360.out 4).trans rfl⟩ (fun hHeld => ?_); refine with_tabW spec_l13Op.tab12 spec_l13Op.bits12 (fun HT_ HW_ => ?_)
       generalize w55.drew = w56 at HO_361001 BK350 BK360 HI0 HK HB hHeld ⊢
       refine zp_ HT_ rfl rfl (by kernel_rfl) (fun _ _ _ h => h) (by rfl) ?_
       refine zpg_ (i := 2) (ra_ [1, 1, 1, 6]) HT_ rfl rfl (by kernel_rfl) (fun _ _ _ h => h) (by rfl) ?_
       refine ztg_ (i := 1) (fl_ 9 3) HT_ HW_ rfl rfl (by kernel_rfl) (fun _ _ _ h => h) (by rfl) hHeld ?_ z137_
       refine one_ (i := 3) (N := some 59) (fl_ 9 4) rfl rfl (one_of HT_.out (by kernel_rfl)) (by decide) (fun K hK => ?_)
       refine goes_ Try.func76 (by kernel_rfl) rfl #[.pointer (some ⟨g, 0, none⟩), .int .i64 3] (by rfl) rfl rfl z1_ ?_
       with_reducible refine (spec_l1Below.calls g s0_0 t375 t376 3 t380 t381 t382 w0 _ ?side1 ?side2 A53.out).mono ?_
       (case side1 => exact z9_)
       (case side2 => exact z10_)
       rintro e w57 ⟨rfl, hi, hb, hk⟩
       refine ⟨_, rfl, ?_⟩
       have n0_ := Aside0.mk (Kd.R_mono (Kd.R_keep (IsS96.apart (show IsS96 w0 _ g s0_0 t375 t376 from by repeat (first | (with_reducible first | exact HI0.out | apply IsS96.alloc | apply IsS96.drewN | apply IsS96.drew | apply IsS96.set_1 | apply IsS96.set_2 | refine IsS96.far ?_ NB0_350.out _ | refine IsS96.far ?_ NB0_360.out _) | exact HI0.out)) z35_ (by decide)) hk (fun _ h => h.2)) (fun _ h => h.1))
       have n1_ := Aside0.mk (KeepBut.blk hk (g' := gb350) (o := .cells #[.int .i64 0, .slice none 0 0, .int .i64 0, .int .i64 0, .int .i64 0] 65 (0, 0)) z29_ NB350_0.out (by simp))
       have n2_ := Aside0.mk (KeepBut.blk hk (g' := gb360) (o := .cells #[.int .i64 (wrap64 (1 + t351)), .slice Ao12 t357.length co12, .int .i64 x361002_6, .int .i64 x361003_22, .int .i64 x361004_22] 65 (0, 0)) z37_ NB360_0.out (by simp))
       have n3_ := Aside0.mk (KeepBut.trans z8_ hk (.inl rfl))
       have n4_ := Aside0.mk (hb)
       have n5_ := Aside0.mk (hi)
       clear HO_361001
       clear BK350
       clear BK360
       clear HK
       clear HB
       clear HI0
       have HO_361001 := n0_
       have BK350 := n1_
       have BK360 := n2_
       have HK := n3_
       have HB := n4_
       have HI0 := n5_
       clear n0_ n1_ n2_ n3_ n4_ n5_
       (try clear hb)
       (try clear hb2)
       (try clear hk)
       (try clear hi)
       refine hK.out _ _ ⟨(blk_cell BK360.out 0).trans rfl, (blk_cell BK360.out 1).trans rfl, (blk_cell BK360.out 2).trans rfl, (blk_cell BK360.out 3).trans rfl, (blk_cell BK360.out 4).trans rfl⟩ (fun hHeld => ?_)
       clear hK K
       refine zn_ rfl ?_
       refine zp_ HT_ rfl rfl (by kernel_rfl) (fun _ _ _ h => h) (by rfl) ?_
       refine one_ (i := 5) (N := some 61) (fl_ 9 6) rfl rfl (one_of HT_.out (by kernel_rfl)) (by decide) (fun K hK => ?_)
       refine value_ (w1 := ?_) (v := ?_) (by rfl) rfl ?_ ?_
       rotate_left 2
       ·go_simp
        constructor
        ·rfl
        ·rfl
       refine hK.out _ _ ⟨(blk_cell (blk_alloc BK360.out _) 0).trans rfl, (blk_cell (blk_alloc BK360.out _) 1).trans rfl, (blk_cell (blk_alloc BK360.out _) 2).trans rfl, (blk_cell (blk_alloc BK360.out _) 3).trans rfl, (blk_cell (blk_alloc BK360.out _) 4).trans rfl⟩ (fun hHeld => ?_)
       clear hK K
       refine zn_ rfl ?_
       refine one_ (i := 6) (N := some 62) (fl_ 9 7) rfl rfl (one_of HT_.out (by kernel_rfl)) (by decide) (fun K hK => ?_)
       refine Kd.R_append_step (Kd.int .i64) w.heap.size (by rfl) (.tmp 57) (.tmp 61) 55 3 (.int .i64 0) 8 rfl Try.underlying55 info3 rfl (by decide) (by omega) (.slice Ao12 t357.length co12) t357 (wrap64 (t380 - 1)) [.int .i64 (wrap64 (t380 - 1))] (fun _ => True) (fun _ => False) rfl rfl ?aP (fun _ hk => hk.elim) ?aF ?aO (Below.refl _ _) ?aS ?aL ?_
       (case aP => exact rfl)
       (case aF => exact z92_)
       (case aO => exact z35_)
       (case aS => exact (keep_size (w := w) (g := g) (row := none) z8_))
       (case aL => have := LMc54.out; omega)
       intro v384 w58 ho hb hg hat
       rw [← Ny383.out] at ho
       have n0_ := Aside0.mk (blk_grown (g := gb350) (o := .cells #[.int .i64 0, .slice none 0 0, .int .i64 0, .int .i64 0, .int .i64 0] 65 (0, 0)) z29_ hg (Kd.R_ne HO_361001.out BK350.out (by decide)))
       have n1_ := Aside0.mk (blk_grown (g := gb360) (o := .cells #[.int .i64 (wrap64 (1 + t351)), .slice Ao12 t357.length co12, .int .i64 x361002_6, .int .i64 x361003_22, .int .i64 x361004_22] 65 (0, 0)) z37_ hg (Kd.R_ne HO_361001.out BK360.out (by decide)))
       have n2_ := Aside0.mk (IsS96.grown z9_ hg (IsS96.own_ne HI0.out HO_361001.out (by decide)))
       have n3_ := Aside0.mk (below_weaken z10_ HL.out hb)
       have n4_ := Aside0.mk (KeepBut.trans z8_ (KeepBut.of_grown hg g) (Kd.R_base2 HO_361001.out))
       have n5_ := Aside0.mk (ho)
       clear BK350
       clear BK360
       clear HI0
       clear HB
       clear HK
       clear HO_361001
       have BK350 := n0_
       have BK360 := n1_
       have HI0 := n2_
       have HB := n3_
       have HK := n4_
       have HO385 := n5_
       clear n0_ n1_ n2_ n3_ n4_ n5_
       clear ho hb hg hat
       obtain ⟨Ao59, co59, eo59⟩ := Kd.R_slice HO385.out
       (first | subst eo59 | (injection eo59 with f1_ f2_ f3_; have f4_ := f1_.symm; have f5_ := f3_.symm; clear f1_ f2_ f3_; subst f4_; subst f5_))
       refine hK.out _ _ ⟨(blk_cell BK360.out 0).trans rfl, (blk_cell BK360.out 1).trans rfl, (blk_cell BK360.out 2).trans rfl, (blk_cell BK360.out 3).trans rfl, (blk_cell BK360.out 4).trans rfl⟩ (fun hHeld => ?_)
       clear hK K
       refine zn_ rfl ?_
       refine zp_ HT_ rfl rfl (by kernel_rfl) (fun _ _ _ h => h) (by rfl) ?_
       refine last_ (i := 8) (N := none) (fl_ 9 9) rfl rfl (one_of HT_.out (by kernel_rfl)) (by decide) (fun K hK => ?_)
       have hs60 : w58.cell? ⟨gb360, 1, none⟩ = some (.slice Ao12 t357.length co12) := (blk_cell BK360.out 1).trans rfl
       have hfs60 := blk_frozen BK360.out 1
       have hns60_0 := NB350_360.out
       have hms60_0 := NB360_350.out
       refine skip_ (w1 := ?_) (by rfl) rfl ?_ ?_
       rotate_left
       ·go_simp
        rfl
       refine hK.out _ _ ?_
       clear hK K
       refine done_ (done_of HT_.out (by kernel_rfl)) ?_
       have hnb61 := NB360_350.out
       have hnc61 := NB350_360.out
       have hnb62 := NB360_0.out
       have hnc62 := NB0_360.out
       have hcz63_0 : w58.cell? ⟨gb360, 0, none⟩ = some (.int .i64 (wrap64 (1 + t351))) := (blk_cell BK360.out 0).trans rfl
       have hcz63_1 : w58.cell? ⟨gb360, 1, none⟩ = some (.slice Ao12 t357.length co12) := (blk_cell BK360.out 1).trans rfl
       have hcz63_2 : w58.cell? ⟨gb360, 2, none⟩ = some (.int .i64 x361002_6) := (blk_cell BK360.out 2).trans rfl
       have hcz63_3 : w58.cell? ⟨gb360, 3, none⟩ = some (.int .i64 x361003_22) := (blk_cell BK360.out 3).trans rfl
       have hcz63_4 : w58.cell? ⟨gb360, 4, none⟩ = some (.int .i64 x361004_22) := (blk_cell BK360.out 4).trans rfl
       have hfz63_0 := blk_frozen BK360.out 0
       have hfz63_1 := blk_frozen BK360.out 1
       have hfz63_2 := blk_frozen BK360.out 2
       have hfz63_3 := blk_frozen BK360.out 3
       have hfz63_4 := blk_frozen BK360.out 4
       have hnb64 := NB350_0.out
       have hnc64 := NB0_350.out
       have hcz65_0 : w58.cell? ⟨gb350, 0, none⟩ = some (.int .i64 0) := (blk_cell BK350.out 0).trans rfl
       have hcz65_1 : w58.cell? ⟨gb350, 1, none⟩ = some (.slice none 0 0) := (blk_cell BK350.out 1).trans rfl
       have hcz65_2 : w58.cell? ⟨gb350, 2, none⟩ = some (.int .i64 0) := (blk_cell BK350.out 2).trans rfl
       have hcz65_3 : w58.cell? ⟨gb350, 3, none⟩ = some (.int .i64 0) := (blk_cell BK350.out 3).trans rfl
       have hcz65_4 : w58.cell? ⟨gb350, 4, none⟩ = some (.int .i64 0) := (blk_cell BK350.out 4).trans rfl
       have hfz65_0 := blk_frozen BK350.out 0
       have hfz65_1 := blk_frozen BK350.out 1
       have hfz65_2 := blk_frozen BK350.out 2
       have hfz65_3 := blk_frozen BK350.out 3
       have hfz65_4 := blk_frozen BK350.out 4
       try go_wp2
       refine bodyPost_ret (results_cell_row rfl _ _ gb350 65 #[.int .i64 (wrap64 (1 + t351)), .slice Ao59 y383.length co59, .int .i64 x361002_6, .int .i64 x361003_22, .int .i64 x361004_22] (0, 0) _ rfl (by (with_reducible repeat (first | refine blk_drewN ?_ _ | refine blk_drew ?_ | refine blk_alloc ?_ _)); refine blk_put (cs := #[.int .i64 (wrap64 (1 + t351)), .slice Ao59 y383.length co59, .int .i64 x361002_6, .int .i64 x361003_22, .int .i64 0]) ?_ 4 _ rfl; (with_reducible repeat (first | refine blk_drewN ?_ _ | refine blk_drew ?_ | refine blk_alloc ?_ _)); refine blk_put (cs := #[.int .i64 (wrap64 (1 + t351)), .slice Ao59 y383.length co59, .int .i64 x361002_6, .int .i64 0, .int .i64 0]) ?_ 3 _ rfl; (with_reducible repeat (first | refine blk_drewN ?_ _ | refine blk_drew ?_ | refine blk_alloc ?_ _)); refine blk_put (cs := #[.int .i64 (wrap64 (1 + t351)), .slice Ao59 y383.length co59, .int .i64 0, .int .i64 0, .int .i64 0]) ?_ 2 _ rfl; (with_reducible repeat (first | refine blk_drewN ?_ _ | refine blk_drew ?_ | refine blk_alloc ?_ _)); refine blk_put (cs := #[.int .i64 (wrap64 (1 + t351)), .slice none 0 0, .int .i64 0, .int .i64 0, .int .i64 0]) ?_ 1 _ rfl; (with_reducible repeat (first | refine blk_drewN ?_ _ | refine blk_drew ?_ | refine blk_alloc ?_ _)); refine blk_put (cs := #[.int .i64 0, .slice none 0 0, .int .i64 0, .int .i64 0, .int .i64 0]) ?_ 0 _ rfl; (with_reducible repeat (first | refine blk_drewN ?_ _ | refine blk_drew ?_ | refine blk_alloc ?_ _)); refine blk_far ?_ NB350_360.out _; (with_reducible repeat (first | refine blk_drewN ?_ _ | refine blk_drew ?_ | refine blk_alloc ?_ _)); exact BK350.out) Try.underlying65 rfl (by kernel_rfl)) rfl ?_
       exact ⟨_, z62_, by (with_reducible repeat (first | apply Kd.R_alloc | apply Kd.R_drewN | apply Kd.R_drew)); exact Kd.R_mono (Kd.R_far (p := ⟨gb350, 4, none⟩) (Kd.R_far (p := ⟨gb350, 3, none⟩) (Kd.R_far (p := ⟨gb350, 2, none⟩) (Kd.R_far (p := ⟨gb350, 1, none⟩) (Kd.R_far (p := ⟨gb350, 0, none⟩) (Kd.R_far (p := ⟨gb360, 1, none⟩) (Kd.R_types (Kd.R_types HO385.out BK360.out (by decide)) BK350.out (by decide)) (fun _ hk => hk.1.2) (.slice Ao59 y383.length co59)) (fun _ hk => hk.2) (.int .i64 (wrap64 (1 + t351)))) (fun _ hk => hk.2) (.slice Ao59 y383.length co59)) (fun _ hk => hk.2) (.int .i64 x361002_6)) (fun _ hk => hk.2) (.int .i64 x361003_22)) (fun _ hk => hk.2) (.int .i64 x361004_22)) (fun _ hk => trivial), z9_, z10_, z8_⟩
      ·rw [if_neg c52] at H
       have c52b0 : (t374 == 1) = false := beq_eq_false_iff_ne.mpr c52
       have c52b1 : (t374 != 1) = true := bne_iff_ne.mpr c52
       by_cases c66 : t374 = 2
       ·rw [if_pos c66] at H
        have c66b0 : (t374 == 2) = true := beq_iff_eq.mpr c66
        have c66b1 : (t374 != 2) = false := bne_eq_false_iff_eq.mpr c66
        clear c66
        replace H := Option.bind_eq_some_iff.mp H
        obtain ⟨⟨t386, t387, t388⟩, A670, H⟩ := H
        replace H : (some ((wrap64 (1 + t351)), t357, t386, x361003_22, x361004_22, t387, t388)) = some (r1, r2, r3, r4, r5, r6, r7) := H
        have A67 := Aside0.mk A670
        clear A670
        simp only [Option.some.injEq, Prod.mk.injEq] at H
        obtain ⟨rfl, rfl, rfl, rfl, rfl, rfl, rfl⟩ := H
        go_wp2_with (first | ((with_reducible refine gate_callee (f := 76) rfl ?_); refine goesL_ (some 48) rfl rfl Try.func76 (by kernel_rfl) rfl #[.pointer (some ⟨g, 0, none⟩), .int .i64 14] rfl z1_ ?_; (with_reducible refine (spec_l1Below.calls g s0_0 x1001_22 x1002_22 14 t374 t375 t376 w0 _ ?side1 ?side2 A42.out).mono ?_); (case side1 => exact z9_); (case side2 => exact z10_); rintro e w68 ⟨rfl, hi, hb, hk⟩; refine ⟨_, rfl, ?_⟩; replace HO_361001 := Aside0.mk (Kd.R_mono (Kd.R_keep (IsS96.apart (show IsS96 w0 _ g s0_0 x1001_22 x1002_22 from by repeat (first | (with_reducible first | exact HI0.out | apply IsS96.alloc | apply IsS96.drewN | apply IsS96.drew | apply IsS96.set_1 | apply IsS96.set_2 | refine IsS96.far ?_ NB0_350.out _ | refine IsS96.far ?_ NB0_360.out _) | exact HI0.out)) z35_ (by decide)) hk (fun _ h => h.2)) (fun _ h => h.1)); replace BK350 := Aside0.mk (KeepBut.blk hk (g' := gb350) (o := .cells #[.int .i64 0, .slice none 0 0, .int .i64 0, .int .i64 0, .int .i64 0] 65 (0, 0)) z29_ NB350_0.out (by simp)); replace BK360 := Aside0.mk (KeepBut.blk hk (g' := gb360) (o := .cells #[.int .i64 (wrap64 (1 + t351)), .slice Ao12 t357.length co12, .int .i64 x361002_6, .int .i64 x361003_22, .int .i64 x361004_22] 65 (0, 0)) z37_ NB360_0.out (by simp)); replace HK := Aside0.mk (KeepBut.trans z8_ hk (.inl rfl)); replace HB := Aside0.mk (hb); replace HI0 := Aside0.mk (hi); (try clear hb hk hi)) | ((with_reducible refine gate_callee (f := 106) rfl ?_); refine goesL_ (some 67) rfl rfl Try.func106 (by kernel_rfl) rfl #[.pointer (some ⟨g, 0, none⟩)] rfl z1_ ?_; (with_reducible refine (spec_l2Any.calls g s0_0 t375 t376 t386 t387 t388 w0 _ ?side1 ?side2 A67.out).mono ?_); (case side1 => exact z9_); (case side2 => exact z10_); rintro e w69 ⟨rfl, hi, hb, hk⟩; refine ⟨_, rfl, ?_⟩; replace HO_361001 := Aside0.mk (Kd.R_mono (Kd.R_keep (IsS96.apart (show IsS96 w0 _ g s0_0 t375 t376 from by repeat (first | (with_reducible first | exact HI0.out | apply IsS96.alloc | apply IsS96.drewN | apply IsS96.drew | apply IsS96.set_1 | apply IsS96.set_2 | refine IsS96.far ?_ NB0_350.out _ | refine IsS96.far ?_ NB0_360.out _) | exact HI0.out)) z35_ (by decide)) hk (fun _ h => h.2)) (fun _ h => h.1)); replace BK350 := Aside0.mk (KeepBut.blk hk (g' := gb350) (o := .cells #[.int .i64 0, .slice none 0 0, .int .i64 0, .int .i64 0, .int .i64 0] 65 (0, 0)) z29_ NB350_0.out (by simp)); replace BK360 := Aside0.mk (KeepBut.blk hk (g' := gb360) (o := .cells #[.int .i64 (wrap64 (1 + t351)), .slice Ao12 t357.length co12, .int .i64 x361002_6, .int .i64 x361003_22, .int .i64 x361004_22] 65 (0, 0)) z37_ NB360_0.out (by simp)); replace HK := Aside0.mk (KeepBut.trans z8_ hk (.inl rfl)); replace HB := Aside0.mk (hb); replace HI0 := Aside0.mk (hi); (try clear hb hk hi); have hnb70 := NB360_350.out; have hnc70 := NB350_360.out; have hnb71 := NB360_0.out; have hnc71 := NB0_360.out; have hcz72_0 : w69.cell? ⟨gb360, 0, none⟩ = some (.int .i64 (wrap64 (1 + t351))) := (blk_cell BK360.out 0).trans rfl; have hcz72_1 : w69.cell? ⟨gb360, 1, none⟩ = some (.slice Ao12 t357.length co12) := (blk_cell BK360.out 1).trans rfl; have hcz72_2 : w69.cell? ⟨gb360, 2, none⟩ = some (.int .i64 x361002_6) := (blk_cell BK360.out 2).trans rfl; have hcz72_3 : w69.cell? ⟨gb360, 3, none⟩ = some (.int .i64 x361003_22) := (blk_cell BK360.out 3).trans rfl; have hcz72_4 : w69.cell? ⟨gb360, 4, none⟩ = some (.int .i64 x361004_22) := (blk_cell BK360.out 4).trans rfl; have hfz72_0 := blk_frozen BK360.out 0; have hfz72_1 := blk_frozen BK360.out 1; have hfz72_2 := blk_frozen BK360.out 2; have hfz72_3 := blk_frozen BK360.out 3; have hfz72_4 := blk_frozen BK360.out 4; have hnb73 := NB350_0.out; have hnc73 := NB0_350.out; have hcz74_0 : w69.cell? ⟨gb350, 0, none⟩ = some (.int .i64 0) := (blk_cell BK350.out 0).trans rfl; have hcz74_1 : w69.cell? ⟨gb350, 1, none⟩ = some (.slice none 0 0) := (blk_cell BK350.out 1).trans rfl; have hcz74_2 : w69.cell? ⟨gb350, 2, none⟩ = some (.int .i64 0) := (blk_cell BK350.out 2).trans rfl; have hcz74_3 : w69.cell? ⟨gb350, 3, none⟩ = some (.int .i64 0) := (blk_cell BK350.out 3).trans rfl; have hcz74_4 : w69.cell? ⟨gb350, 4, none⟩ = some (.int .i64 0) := (blk_cell BK350.out 4).trans rfl; have hfz74_0 := blk_frozen BK350.out 0; have hfz74_1 := blk_frozen BK350.out 1; have hfz74_2 := blk_frozen BK350.out 2; have hfz74_3 := blk_frozen BK350.out 3; have hfz74_4 := blk_frozen BK350.out 4))
        refine bodyPost_ret (results_cell_row rfl _ _ gb350 65 #[.int .i64 (wrap64 (1 + t351)), .slice Ao12 t357.length co12, .int .i64 t386, .int .i64 x361003_22, .int .i64 x361004_22] (0, 0) _ rfl (by (with_reducible repeat (first | refine blk_drewN ?_ _ | refine blk_drew ?_ | refine blk_alloc ?_ _)); refine blk_put (cs := #[.int .i64 (wrap64 (1 + t351)), .slice Ao12 t357.length co12, .int .i64 t386, .int .i64 x361003_22, .int .i64 0]) ?_ 4 _ rfl; (with_reducible repeat (first | refine blk_drewN ?_ _ | refine blk_drew ?_ | refine blk_alloc ?_ _)); refine blk_put (cs := #[.int .i64 (wrap64 (1 + t351)), .slice Ao12 t357.length co12, .int .i64 t386, .int .i64 0, .int .i64 0]) ?_ 3 _ rfl; (with_reducible repeat (first | refine blk_drewN ?_ _ | refine blk_drew ?_ | refine blk_alloc ?_ _)); refine blk_put (cs := #[.int .i64 (wrap64 (1 + t351)), .slice Ao12 t357.length co12, .int .i64 0, .int .i64 0, .int .i64 0]) ?_ 2 _ rfl; (with_reducible repeat (first | refine blk_drewN ?_ _ | refine blk_drew ?_ | refine blk_alloc ?_ _)); refine blk_put (cs := #[.int .i64 (wrap64 (1 + t351)), .slice none 0 0, .int .i64 0, .int .i64 0, .int .i64 0]) ?_ 1 _ rfl; (with_reducible repeat (first | refine blk_drewN ?_ _ | refine blk_drew ?_ | refine blk_alloc ?_ _)); refine blk_put (cs := #[.int .i64 0, .slice none 0 0, .int .i64 0, .int .i64 0, .int .i64 0]) ?_ 0 _ rfl; (with_reducible repeat (first | refine blk_drewN ?_ _ | refine blk_drew ?_ | refine blk_alloc ?_ _)); refine blk_far ?_ NB350_360.out _; (with_reducible repeat (first | refine blk_drewN ?_ _ | refine blk_drew ?_ | refine blk_alloc ?_ _)); exact BK350.out) Try.underlying65 rfl (by kernel_rfl)) rfl ?_
        exact ⟨_, z62_, by (with_reducible repeat (first | apply Kd.R_alloc | apply Kd.R_drewN | apply Kd.R_drew)); exact Kd.R_mono (Kd.R_far (p := ⟨gb350, 4, none⟩) (Kd.R_far (p := ⟨gb350, 3, none⟩) (Kd.R_far (p := ⟨gb350, 2, none⟩) (Kd.R_far (p := ⟨gb350, 1, none⟩) (Kd.R_far (p := ⟨gb350, 0, none⟩) (Kd.R_far (p := ⟨gb360, 2, none⟩) (Kd.R_types (Kd.R_types HO_361001.out BK360.out (by decide)) BK350.out (by decide)) (fun _ hk => hk.1.2) (.int .i64 t386)) (fun _ hk => hk.2) (.int .i64 (wrap64 (1 + t351)))) (fun _ hk => hk.2) (.slice Ao12 t357.length co12)) (fun _ hk => hk.2) (.int .i64 t386)) (fun _ hk => hk.2) (.int .i64 x361003_22)) (fun _ hk => hk.2) (.int .i64 x361004_22)) (fun _ hk => trivial), z9_, z10_, z8_⟩
       ·rw [if_neg c66] at H
        have c66b0 : (t374 == 2) = false := beq_eq_false_iff_ne.mpr c66
        have c66b1 : (t374 != 2) = true := bne_iff_ne.mpr c66
        by_cases c75 : t374 = 3
        ·rw [if_pos c75] at H
         have c75b0 : (t374 == 3) = true := beq_iff_eq.mpr c75
         have c75b1 : (t374 != 3) = false := bne_eq_false_iff_eq.mpr c75
         clear c75
         obtain ⟨y389, hy389⟩ : ∃ y_ : List Int, y_ = (([(-1), 1, 9, 9223372036854775807] : List Int)) := ⟨_, rfl⟩
         replace H : ((spec_l1PickInt.f s0_0 t375 t376 y389).bind fun bt392 => (some ((wrap64 (1 + t351)), t357, x361002_6, bt392.1, x361004_22, bt392.2.1, bt392.2.2))) = some (r1, r2, r3, r4, r5, r6, r7) := by first | (rw [hy389]; with_reducible exact H) | (have H2_ := (Option.bind_some _ _).symm.trans H; rw [hy389]; with_reducible exact H2_) | (have H2_ := (Option.bind_some _ _).symm.trans H; with_reducible exact H2_) | with_reducible exact H | (rw [hy389]; exact H) | exact H
         have Ny389 := Aside0.mk hy389
         clear hy389
         replace H := Option.bind_eq_some_iff.mp H
         obtain ⟨⟨t392, t393, t394⟩, A760, H⟩ := H
         replace H : (some ((wrap64 (1 + t351)), t357, x361002_6, t392, x361004_22, t393, t394)) = some (r1, r2, r3, r4, r5, r6, r7) := H
         have A76 := Aside0.mk A760
         clear A760
         simp only [Option.some.injEq, Prod.mk.injEq] at H
         obtain ⟨rfl, rfl, rfl, rfl, rfl, rfl, rfl⟩ := H
         go_wp2_with (first | ((with_reducible refine gate_callee (f := 76) rfl ?_); refine goesL_ (some 48) rfl rfl Try.func76 (by kernel_rfl) rfl #[.pointer (some ⟨g, 0, none⟩), .int .i64 14] rfl z1_ ?_; (with_reducible refine (spec_l1Below.calls g s0_0 x1001_22 x1002_22 14 t374 t375 t376 w0 _ ?side1 ?side2 A42.out).mono ?_); (case side1 => exact z9_); (case side2 => exact z10_); rintro e w77 ⟨rfl, hi, hb, hk⟩; refine ⟨_, rfl, ?_⟩; replace HO_361001 := Aside0.mk (Kd.R_mono (Kd.R_keep (IsS96.apart (show IsS96 w0 _ g s0_0 x1001_22 x1002_22 from by repeat (first | (with_reducible first | exact HI0.out | apply IsS96.alloc | apply IsS96.drewN | apply IsS96.drew | apply IsS96.set_1 | apply IsS96.set_2 | refine IsS96.far ?_ NB0_350.out _ | refine IsS96.far ?_ NB0_360.out _) | exact HI0.out)) z35_ (by decide)) hk (fun _ h => h.2)) (fun _ h => h.1)); replace BK350 := Aside0.mk (KeepBut.blk hk (g' := gb350) (o := .cells #[.int .i64 0, .slice none 0 0, .int .i64 0, .int .i64 0, .int .i64 0] 65 (0, 0)) z29_ NB350_0.out (by simp)); replace BK360 := Aside0.mk (KeepBut.blk hk (g' := gb360) (o := .cells #[.int .i64 (wrap64 (1 + t351)), .slice Ao12 t357.length co12, .int .i64 x361002_6, .int .i64 x361003_22, .int .i64 x361004_22] 65 (0, 0)) z37_ NB360_0.out (by simp)); replace HK := Aside0.mk (KeepBut.trans z8_ hk (.inl rfl)); replace HB := Aside0.mk (hb); replace HI0 := Aside0.mk (hi); (try clear hb hk hi)) | ((with_reducible refine gate_dst (N := 72) rfl ?_); refine Kd.R_lit (Kd.int .i64) _ 3 ?hg (N := 72) ?hd (xs := ([(-1), 1, 9, 9223372036854775807] : List Int)) (inner := [.int .i64 (-1), .int .i64 1, .int .i64 9, .int .i64 9223372036854775807]) (ok := fun _ => True) (okp := fun _ => True) ?hr ?hp (fun _ hk => hk) trivial (Below.refl _ _) (Nat.le_refl _) (by simp) ?_; (case hd => rfl); (case hg => rfl); (case hr => exact z23_); (case hp => exact z82_); intro v390 w78 ho79 hb hg_ hnew_; clear hg_ hnew_; (first | rw [← Ny389.out] at ho79 | (simp only [Int.reduceToNat] at ho79; rw [← Ny389.out] at ho79)); have HO391 := Aside0.mk (Kd.R_lower (Kd.R_new' ho79 (Kd.R_lt z35_)) (keep_size (w := w) (g := g) (row := none) z8_)); replace HO_361001 := Aside0.mk (Kd.R_elder' z35_ (Kd.R_base ho79) hb); replace BK350 := Aside0.mk (blk_below (g := gb350) (o := .cells #[.int .i64 0, .slice none 0 0, .int .i64 0, .int .i64 0, .int .i64 0] 65 (0, 0)) z29_ hb); replace BK360 := Aside0.mk (blk_below (g := gb360) (o := .cells #[.int .i64 (wrap64 (1 + t351)), .slice Ao12 t357.length co12, .int .i64 x361002_6, .int .i64 x361003_22, .int .i64 x361004_22] 65 (0, 0)) z37_ hb); replace HK := Aside0.mk (KeepBut.trans z8_ (KeepBut.of_below hb g none) (.inl rfl)); replace HB := Aside0.mk (below_step z10_ hb); replace HI0 := Aside0.mk (IsS96.below z9_ hb); clear hb ho79; obtain ⟨Ao80, co80, eo80⟩ := Kd.R_slice HO391.out; subst eo80) | ((with_reducible refine gate_callee (f := 107) rfl ?_); refine goesL_ (some 73) rfl rfl Try.func107 (by kernel_rfl) rfl #[.pointer (some ⟨g, 0, none⟩), .slice Ao80 y389.length co80] rfl z1_ ?_; (with_reducible refine (spec_l1PickInt.calls g s0_0 t375 t376 _ _ y389 t392 t393 t394 w0 _ ?side1 ?side2 ?side3 ?side4 ?side5 A76.out).mono ?_); (case side1 => exact z9_); (case side2 => exact z10_); (case side3 => repeat (first | exact (Kd.R_reads' HO391.out).2.2 | (with_reducible refine Kd.C_alloc ?_ _) | (with_reducible refine Kd.C_drewN ?_ _) | (with_reducible refine Kd.C_drew ?_))); (case side4 => exact (Kd.R_reads' HO391.out).2.1); (case side5 => exact far_slice (IsS96.own_ne HI0.out HO391.out (by decide))); rintro e w81 ⟨rfl, hi, hb, hk⟩; refine ⟨_, rfl, ?_⟩; replace HO_361001 := Aside0.mk (Kd.R_mono (Kd.R_keep (IsS96.apart (show IsS96 w0 _ g s0_0 t375 t376 from by repeat (first | (with_reducible first | exact HI0.out | apply IsS96.alloc | apply IsS96.drewN | apply IsS96.drew | apply IsS96.set_1 | apply IsS96.set_2 | refine IsS96.far ?_ NB0_350.out _ | refine IsS96.far ?_ NB0_360.out _) | exact HI0.out)) z35_ (by decide)) hk (fun _ h => h.2)) (fun _ h => h.1)); replace BK350 := Aside0.mk (KeepBut.blk hk (g' := gb350) (o := .cells #[.int .i64 0, .slice none 0 0, .int .i64 0, .int .i64 0, .int .i64 0] 65 (0, 0)) z29_ NB350_0.out (by simp)); replace BK360 := Aside0.mk (KeepBut.blk hk (g' := gb360) (o := .cells #[.int .i64 (wrap64 (1 + t351)), .slice Ao12 t357.length co12, .int .i64 x361002_6, .int .i64 x361003_22, .int .i64 x361004_22] 65 (0, 0)) z37_ NB360_0.out (by simp)); replace HO391 := Aside0.mk (Kd.R_mono (Kd.R_keep (IsS96.apart (show IsS96 w0 _ g s0_0 t375 t376 from by repeat (first | (with_reducible first | exact HI0.out | apply IsS96.alloc | apply IsS96.drewN | apply IsS96.drew | apply IsS96.set_1 | apply IsS96.set_2 | refine IsS96.far ?_ NB0_350.out _ | refine IsS96.far ?_ NB0_360.out _) | exact HI0.out)) (by (with_reducible repeat (first | apply Kd.R_alloc | apply Kd.R_drewN | apply Kd.R_drew)); exact HO391.out) (by decide)) hk (fun _ h => h.2)) (fun _ h => h.1)); replace HK := Aside0.mk (KeepBut.trans z8_ hk (.inl rfl)); replace HB := Aside0.mk (hb); replace HI0 := Aside0.mk (hi); (try clear hb hk hi); have hnb82 := NB360_350.out; have hnc82 := NB350_360.out; have hnb83 := NB360_0.out; have hnc83 := NB0_360.out; have hcz84_0 : w81.cell? ⟨gb360, 0, none⟩ = some (.int .i64 (wrap64 (1 + t351))) := (blk_cell BK360.out 0).trans rfl; have hcz84_1 : w81.cell? ⟨gb360, 1, none⟩ = some (.slice Ao12 t357.length co12) := (blk_cell BK360.out 1).trans rfl; have hcz84_2 : w81.cell? ⟨gb360, 2, none⟩ = some (.int .i64 x361002_6) := (blk_cell BK360.out 2).trans rfl; have hcz84_3 : w81.cell? ⟨gb360, 3, none⟩ = some (.int .i64 x361003_22) := (blk_cell BK360.out 3).trans rfl; have hcz84_4 : w81.cell? ⟨gb360, 4, none⟩ = some (.int .i64 x361004_22) := (blk_cell BK360.out 4).trans rfl; have hfz84_0 := blk_frozen BK360.out 0; have hfz84_1 := blk_frozen BK360.out 1; have hfz84_2 := blk_frozen BK360.out 2; have hfz84_3 := blk_frozen BK360.out 3; have hfz84_4 := blk_frozen BK360.out 4; have hnb85 := NB350_0.out; have hnc85 := NB0_350.out; have hcz86_0 : w81.cell? ⟨gb350, 0, none⟩ = some (.int .i64 0) := (blk_cell BK350.out 0).trans rfl; have hcz86_1 : w81.cell? ⟨gb350, 1, none⟩ = some (.slice none 0 0) := (blk_cell BK350.out 1).trans rfl; have hcz86_2 : w81.cell? ⟨gb350, 2, none⟩ = some (.int .i64 0) := (blk_cell BK350.out 2).trans rfl; have hcz86_3 : w81.cell? ⟨gb350, 3, none⟩ = some (.int .i64 0) := (blk_cell BK350.out 3).trans rfl; have hcz86_4 : w81.cell? ⟨gb350, 4, none⟩ = some (.int .i64 0) := (blk_cell BK350.out 4).trans rfl; have hfz86_0 := blk_frozen BK350.out 0; have hfz86_1 := blk_frozen BK350.out 1; have hfz86_2 := blk_frozen BK350.out 2; have hfz86_3 := blk_frozen BK350.out 3; have hfz86_4 := blk_frozen BK350.out 4))
         refine bodyPost_ret (results_cell_row rfl _ _ gb350 65 #[.int .i64 (wrap64 (1 + t351)), .slice Ao12 t357.length co12, .int .i64 x361002_6, .int .i64 t392, .int .i64 x361004_22] (0, 0) _ rfl (by (with_reducible repeat (first | refine blk_drewN ?_ _ | refine blk_drew ?_ | refine blk_alloc ?_ _)); refine blk_put (cs := #[.int .i64 (wrap64 (1 + t351)), .slice Ao12 t357.length co12, .int .i64 x361002_6, .int .i64 t392, .int .i64 0]) ?_ 4 _ rfl; (with_reducible repeat (first | refine blk_drewN ?_ _ | refine blk_drew ?_ | refine blk_alloc ?_ _)); refine blk_put (cs := #[.int .i64 (wrap64 (1 + t351)), .slice Ao12 t357.length co12, .int .i64 x361002_6, .int .i64 0, .int .i64 0]) ?_ 3 _ rfl; (with_reducible repeat (first | refine blk_drewN ?_ _ | refine blk_drew ?_ | refine blk_alloc ?_ _)); refine blk_put (cs := #[.int .i64 (wrap64 (1 + t351)), .slice Ao12 t357.length co12, .int .i64 0, .int .i64 0, .int .i64 0]) ?_ 2 _ rfl; (with_reducible repeat (first | refine blk_drewN ?_ _ | refine blk_drew ?_ | refine blk_alloc ?_ _)); refine blk_put (cs := #[.int .i64 (wrap64 (1 + t351)), .slice none 0 0, .int .i64 0, .int .i64 0, .int .i64 0]) ?_ 1 _ rfl; (with_reducible repeat (first | refine blk_drewN ?_ _ | refine blk_drew ?_ | refine blk_alloc ?_ _)); refine blk_put (cs := #[.int .i64 0, .slice none 0 0, .int .i64 0, .int .i64 0, .int .i64 0]) ?_ 0 _ rfl; (with_reducible repeat (first | refine blk_drewN ?_ _ | refine blk_drew ?_ | refine blk_alloc ?_ _)); refine blk_far ?_ NB350_360.out _; (with_reducible repeat (first | refine blk_drewN ?_ _ | refine blk_drew ?_ | refine blk_alloc ?_ _)); exact BK350.out) Try.underlying65 rfl (by kernel_rfl)) rfl ?_
         exact ⟨_, z62_, by (with_reducible repeat (first | apply Kd.R_alloc | apply Kd.R_drewN | apply Kd.R_drew)); exact Kd.R_mono (Kd.R_far (p := ⟨gb350, 4, none⟩) (Kd.R_far (p := ⟨gb350, 3, none⟩) (Kd.R_far (p := ⟨gb350, 2, none⟩) (Kd.R_far (p := ⟨gb350, 1, none⟩) (Kd.R_far (p := ⟨gb350, 0, none⟩) (Kd.R_far (p := ⟨gb360, 3, none⟩) (Kd.R_types (Kd.R_types HO_361001.out BK360.out (by decide)) BK350.out (by decide)) (fun _ hk => hk.1.2) (.int .i64 t392)) (fun _ hk => hk.2) (.int .i64 (wrap64 (1 + t351)))) (fun _ hk => hk.2) (.slice Ao12 t357.length co12)) (fun _ hk => hk.2) (.int .i64 x361002_6)) (fun _ hk => hk.2) (.int .i64 t392)) (fun _ hk => hk.2) (.int .i64 x361004_22)) (fun _ hk => trivial), z9_, z10_, z8_⟩
        ·rw [if_neg c75] at H
         have c75b0 : (t374 == 3) = false := beq_eq_false_iff_ne.mpr c75
         have c75b1 : (t374 != 3) = true := bne_iff_ne.mpr c75
         by_cases c87 : t374 = 4
         ·rw [if_pos c87] at H
          have c87b0 : (t374 == 4) = true := beq_iff_eq.mpr c87
          have c87b1 : (t374 != 4) = false := bne_eq_false_iff_eq.mpr c87
          clear c87
          obtain ⟨y395, hy395⟩ : ∃ y_ : List Int, y_ = (([(-1), 1, 9, 9223372036854775807] : List Int)) := ⟨_, rfl⟩
          replace H : ((spec_l1PickInt.f s0_0 t375 t376 y395).bind fun bt398 => (some ((wrap64 (1 + t351)), t357, x361002_6, x361003_22, bt398.1, bt398.2.1, bt398.2.2))) = some (r1, r2, r3, r4, r5, r6, r7) := by first | (rw [hy395]; with_reducible exact H) | (have H2_ := (Option.bind_some _ _).symm.trans H; rw [hy395]; with_reducible exact H2_) | (have H2_ := (Option.bind_some _ _).symm.trans H; with_reducible exact H2_) | with_reducible exact H | (rw [hy395]; exact H) | exact H
          have Ny395 := Aside0.mk hy395
          clear hy395
          replace H := Option.bind_eq_some_iff.mp H
          obtain ⟨⟨t398, t399, t400⟩, A880, H⟩ := H
          replace H : (some ((wrap64 (1 + t351)), t357, x361002_6, x361003_22, t398, t399, t400)) = some (r1, r2, r3, r4, r5, r6, r7) := H
          have A88 := Aside0.mk A880
          clear A880
          simp only [Option.some.injEq, Prod.mk.injEq] at H
          obtain ⟨rfl, rfl, rfl, rfl, rfl, rfl, rfl⟩ := H
          go_wp2_with (first | ((with_reducible refine gate_callee (f := 76) rfl ?_); refine goesL_ (some 48) rfl rfl Try.func76 (by kernel_rfl) rfl #[.pointer (some ⟨g, 0, none⟩), .int .i64 14] rfl z1_ ?_; (with_reducible refine (spec_l1Below.calls g s0_0 x1001_22 x1002_22 14 t374 t375 t376 w0 _ ?side1 ?side2 A42.out).mono ?_); (case side1 => exact z9_); (case side2 => exact z10_); rintro e w89 ⟨rfl, hi, hb, hk⟩; refine ⟨_, rfl, ?_⟩; replace HO_361001 := Aside0.mk (Kd.R_mono (Kd.R_keep (IsS96.apart (show IsS96 w0 _ g s0_0 x1001_22 x1002_22 from by repeat (first | (with_reducible first | exact HI0.out | apply IsS96.alloc | apply IsS96.drewN | apply IsS96.drew | apply IsS96.set_1 | apply IsS96.set_2 | refine IsS96.far ?_ NB0_350.out _ | refine IsS96.far ?_ NB0_360.out _) | exact HI0.out)) z35_ (by decide)) hk (fun _ h => h.2)) (fun _ h => h.1)); replace BK350 := Aside0.mk (KeepBut.blk hk (g' := gb350) (o := .cells #[.int .i64 0, .slice none 0 0, .int .i64 0, .int .i64 0, .int .i64 0] 65 (0, 0)) z29_ NB350_0.out (by simp)); replace BK360 := Aside0.mk (KeepBut.blk hk (g' := gb360) (o := .cells #[.int .i64 (wrap64 (1 + t351)), .slice Ao12 t357.length co12, .int .i64 x361002_6, .int .i64 x361003_22, .int .i64 x361004_22] 65 (0, 0)) z37_ NB360_0.out (by simp)); replace HK := Aside0.mk (KeepBut.trans z8_ hk (.inl rfl)); replace HB := Aside0.mk (hb); replace HI0 := Aside0.mk (hi); (try clear hb hk hi)) | ((with_reducible refine gate_dst (N := 78) rfl ?_); refine Kd.R_lit (Kd.int .i64) _ 3 ?hg (N := 78) ?hd (xs := ([(-1), 1, 9, 9223372036854775807] : List Int)) (inner := [.int .i64 (-1), .int .i64 1, .int .i64 9, .int .i64 9223372036854775807]) (ok := fun _ => True) (okp := fun _ => True) ?hr ?hp (fun _ hk => hk) trivial (Below.refl _ _) (Nat.le_refl _) (by simp) ?_; (case hd => rfl); (case hg => rfl); (case hr => exact z23_); (case hp => exact z82_); intro v396 w90 ho91 hb hg_ hnew_; clear hg_ hnew_; (first | rw [← Ny395.out] at ho91 | (simp only [Int.reduceToNat] at ho91; rw [← Ny395.out] at ho91)); have HO397 := Aside0.mk (Kd.R_lower (Kd.R_new' ho91 (Kd.R_lt z35_)) (keep_size (w := w) (g := g) (row := none) z8_)); replace HO_361001 := Aside0.mk (Kd.R_elder' z35_ (Kd.R_base ho91) hb); replace BK350 := Aside0.mk (blk_below (g := gb350) (o := .cells #[.int .i64 0, .slice none 0 0, .int .i64 0, .int .i64 0, .int .i64 0] 65 (0, 0)) z29_ hb); replace BK360 := Aside0.mk (blk_below (g := gb360) (o := .cells #[.int .i64 (wrap64 (1 + t351)), .slice Ao12 t357.length co12, .int .i64 x361002_6, .int .i64 x361003_22, .int .i64 x361004_22] 65 (0, 0)) z37_ hb); replace HK := Aside0.mk (KeepBut.trans z8_ (KeepBut.of_below hb g none) (.inl rfl)); replace HB := Aside0.mk (below_step z10_ hb); replace HI0 := Aside0.mk (IsS96.below z9_ hb); clear hb ho91; obtain ⟨Ao92, co92, eo92⟩ := Kd.R_slice HO397.out; subst eo92) | ((with_reducible refine gate_callee (f := 107) rfl ?_); refine goesL_ (some 79) rfl rfl Try.func107 (by kernel_rfl) rfl #[.pointer (some ⟨g, 0, none⟩), .slice Ao92 y395.length co92] rfl z1_ ?_; (with_reducible refine (spec_l1PickInt.calls g s0_0 t375 t376 _ _ y395 t398 t399 t400 w0 _ ?side1 ?side2 ?side3 ?side4 ?side5 A88.out).mono ?_); (case side1 => exact z9_); (case side2 => exact z10_); (case side3 => repeat (first | exact (Kd.R_reads' HO397.out).2.2 | (with_reducible refine Kd.C_alloc ?_ _) | (with_reducible refine Kd.C_drewN ?_ _) | (with_reducible refine Kd.C_drew ?_))); (case side4 => exact (Kd.R_reads' HO397.out).2.1); (case side5 => exact far_slice (IsS96.own_ne HI0.out HO397.out (by decide))); rintro e w93 ⟨rfl, hi, hb, hk⟩; refine ⟨_, rfl, ?_⟩; replace HO_361001 := Aside0.mk (Kd.R_mono (Kd.R_keep (IsS96.apart (show IsS96 w0 _ g s0_0 t375 t376 from by repeat (first | (with_reducible first | exact HI0.out | apply IsS96.alloc | apply IsS96.drewN | apply IsS96.drew | apply IsS96.set_1 | apply IsS96.set_2 | refine IsS96.far ?_ NB0_350.out _ | refine IsS96.far ?_ NB0_360.out _) | exact HI0.out)) z35_ (by decide)) hk (fun _ h => h.2)) (fun _ h => h.1)); replace BK350 := Aside0.mk (KeepBut.blk hk (g' := gb350) (o := .cells #[.int .i64 0, .slice none 0 0, .int .i64 0, .int .i64 0, .int .i64 0] 65 (0, 0)) z29_ NB350_0.out (by simp)); replace BK360 := Aside0.mk (KeepBut.blk hk (g' := gb360) (o := .cells #[.int .i64 (wrap64 (1 + t351)), .slice Ao12 t357.length co12, .int .i64 x361002_6, .int .i64 x361003_22, .int .i64 x361004_22] 65 (0, 0)) z37_ NB360_0.out (by simp)); replace HO397 := Aside0.mk (Kd.R_mono (Kd.R_keep (IsS96.apart (show IsS96 w0 _ g s0_0 t375 t376 from by repeat (first | (with_reducible first | exact HI0.out | apply IsS96.alloc | apply IsS96.drewN | apply IsS96.drew | apply IsS96.set_1 | apply IsS96.set_2 | refine IsS96.far ?_ NB0_350.out _ | refine IsS96.far ?_ NB0_360.out _) | exact HI0.out)) (by (with_reducible repeat (first | apply Kd.R_alloc | apply Kd.R_drewN | apply Kd.R_drew)); exact HO397.out) (by decide)) hk (fun _ h => h.2)) (fun _ h => h.1)); replace HK := Aside0.mk (KeepBut.trans z8_ hk (.inl rfl)); replace HB := Aside0.mk (hb); replace HI0 := Aside0.mk (hi); (try clear hb hk hi); have hnb94 := NB360_350.out; have hnc94 := NB350_360.out; have hnb95 := NB360_0.out; have hnc95 := NB0_360.out; have hcz96_0 : w93.cell? ⟨gb360, 0, none⟩ = some (.int .i64 (wrap64 (1 + t351))) := (blk_cell BK360.out 0).trans rfl; have hcz96_1 : w93.cell? ⟨gb360, 1, none⟩ = some (.slice Ao12 t357.length co12) := (blk_cell BK360.out 1).trans rfl; have hcz96_2 : w93.cell? ⟨gb360, 2, none⟩ = some (.int .i64 x361002_6) := (blk_cell BK360.out 2).trans rfl; have hcz96_3 : w93.cell? ⟨gb360, 3, none⟩ = some (.int .i64 x361003_22) := (blk_cell BK360.out 3).trans rfl; have hcz96_4 : w93.cell? ⟨gb360, 4, none⟩ = some (.int .i64 x361004_22) := (blk_cell BK360.out 4).trans rfl; have hfz96_0 := blk_frozen BK360.out 0; have hfz96_1 := blk_frozen BK360.out 1; have hfz96_2 := blk_frozen BK360.out 2; have hfz96_3 := blk_frozen BK360.out 3; have hfz96_4 := blk_frozen BK360.out 4; have hnb97 := NB350_0.out; have hnc97 := NB0_350.out; have hcz98_0 : w93.cell? ⟨gb350, 0, none⟩ = some (.int .i64 0) := (blk_cell BK350.out 0).trans rfl; have hcz98_1 : w93.cell? ⟨gb350, 1, none⟩ = some (.slice none 0 0) := (blk_cell BK350.out 1).trans rfl; have hcz98_2 : w93.cell? ⟨gb350, 2, none⟩ = some (.int .i64 0) := (blk_cell BK350.out 2).trans rfl; have hcz98_3 : w93.cell? ⟨gb350, 3, none⟩ = some (.int .i64 0) := (blk_cell BK350.out 3).trans rfl; have hcz98_4 : w93.cell? ⟨gb350, 4, none⟩ = some (.int .i64 0) := (blk_cell BK350.out 4).trans rfl; have hfz98_0 := blk_frozen BK350.out 0; have hfz98_1 := blk_frozen BK350.out 1; have hfz98_2 := blk_frozen BK350.out 2; have hfz98_3 := blk_frozen BK350.out 3; have hfz98_4 := blk_frozen BK350.out 4))
          refine bodyPost_ret (results_cell_row rfl _ _ gb350 65 #[.int .i64 (wrap64 (1 + t351)), .slice Ao12 t357.length co12, .int .i64 x361002_6, .int .i64 x361003_22, .int .i64 t398] (0, 0) _ rfl (by (with_reducible repeat (first | refine blk_drewN ?_ _ | refine blk_drew ?_ | refine blk_alloc ?_ _)); refine blk_put (cs := #[.int .i64 (wrap64 (1 + t351)), .slice Ao12 t357.length co12, .int .i64 x361002_6, .int .i64 x361003_22, .int .i64 0]) ?_ 4 _ rfl; (with_reducible repeat (first | refine blk_drewN ?_ _ | refine blk_drew ?_ | refine blk_alloc ?_ _)); refine blk_put (cs := #[.int .i64 (wrap64 (1 + t351)), .slice Ao12 t357.length co12, .int .i64 x361002_6, .int .i64 0, .int .i64 0]) ?_ 3 _ rfl; (with_reducible repeat (first | refine blk_drewN ?_ _ | refine blk_drew ?_ | refine blk_alloc ?_ _)); refine blk_put (cs := #[.int .i64 (wrap64 (1 + t351)), .slice Ao12 t357.length co12, .int .i64 0, .int .i64 0, .int .i64 0]) ?_ 2 _ rfl; (with_reducible repeat (first | refine blk_drewN ?_ _ | refine blk_drew ?_ | refine blk_alloc ?_ _)); refine blk_put (cs := #[.int .i64 (wrap64 (1 + t351)), .slice none 0 0, .int .i64 0, .int .i64 0, .int .i64 0]) ?_ 1 _ rfl; (with_reducible repeat (first | refine blk_drewN ?_ _ | refine blk_drew ?_ | refine blk_alloc ?_ _)); refine blk_put (cs := #[.int .i64 0, .slice none 0 0, .int .i64 0, .int .i64 0, .int .i64 0]) ?_ 0 _ rfl; (with_reducible repeat (first | refine blk_drewN ?_ _ | refine blk_drew ?_ | refine blk_alloc ?_ _)); refine blk_far ?_ NB350_360.out _; (with_reducible repeat (first | refine blk_drewN ?_ _ | refine blk_drew ?_ | refine blk_alloc ?_ _)); exact BK350.out) Try.underlying65 rfl (by kernel_rfl)) rfl ?_
          exact ⟨_, z62_, by (with_reducible repeat (first | apply Kd.R_alloc | apply Kd.R_drewN | apply Kd.R_drew)); exact Kd.R_mono (Kd.R_far (p := ⟨gb350, 4, none⟩) (Kd.R_far (p := ⟨gb350, 3, none⟩) (Kd.R_far (p := ⟨gb350, 2, none⟩) (Kd.R_far (p := ⟨gb350, 1, none⟩) (Kd.R_far (p := ⟨gb350, 0, none⟩) (Kd.R_far (p := ⟨gb360, 4, none⟩) (Kd.R_types (Kd.R_types HO_361001.out BK360.out (by decide)) BK350.out (by decide)) (fun _ hk => hk.1.2) (.int .i64 t398)) (fun _ hk => hk.2) (.int .i64 (wrap64 (1 + t351)))) (fun _ hk => hk.2) (.slice Ao12 t357.length co12)) (fun _ hk => hk.2) (.int .i64 x361002_6)) (fun _ hk => hk.2) (.int .i64 x361003_22)) (fun _ hk => hk.2) (.int .i64 t398)) (fun _ hk => trivial), z9_, z10_, z8_⟩
         ·rw [if_neg c87] at H
          have c87b0 : (t374 == 4) = false := beq_eq_false_iff_ne.mpr c87
          have c87b1 : (t374 != 4) = true := bne_iff_ne.mpr c87
          simp only [Option.some.injEq, Prod.mk.injEq] at H
          obtain ⟨rfl, rfl, rfl, rfl, rfl, rfl, rfl⟩ := H
          go_wp2_with (first | ((with_reducible refine gate_callee (f := 76) rfl ?_); refine goesL_ (some 48) rfl rfl Try.func76 (by kernel_rfl) rfl #[.pointer (some ⟨g, 0, none⟩), .int .i64 14] rfl z1_ ?_; (with_reducible refine (spec_l1Below.calls g s0_0 x1001_22 x1002_22 14 t374 t375 t376 w0 _ ?side1 ?side2 A42.out).mono ?_); (case side1 => exact z9_); (case side2 => exact z10_); rintro e w99 ⟨rfl, hi, hb, hk⟩; refine ⟨_, rfl, ?_⟩; replace HO_361001 := Aside0.mk (Kd.R_mono (Kd.R_keep (IsS96.apart (show IsS96 w0 _ g s0_0 x1001_22 x1002_22 from by repeat (first | (with_reducible first | exact HI0.out | apply IsS96.alloc | apply IsS96.drewN | apply IsS96.drew | apply IsS96.set_1 | apply IsS96.set_2 | refine IsS96.far ?_ NB0_350.out _ | refine IsS96.far ?_ NB0_360.out _) | exact HI0.out)) z35_ (by decide)) hk (fun _ h => h.2)) (fun _ h => h.1)); replace BK350 := Aside0.mk (KeepBut.blk hk (g' := gb350) (o := .cells #[.int .i64 0, .slice none 0 0, .int .i64 0, .int .i64 0, .int .i64 0] 65 (0, 0)) z29_ NB350_0.out (by simp)); replace BK360 := Aside0.mk (KeepBut.blk hk (g' := gb360) (o := .cells #[.int .i64 (wrap64 (1 + t351)), .slice Ao12 t357.length co12, .int .i64 x361002_6, .int .i64 x361003_22, .int .i64 x361004_22] 65 (0, 0)) z37_ NB360_0.out (by simp)); replace HK := Aside0.mk (KeepBut.trans z8_ hk (.inl rfl)); replace HB := Aside0.mk (hb); replace HI0 := Aside0.mk (hi); (try clear hb hk hi); have hnb100 := NB360_350.out; have hnc100 := NB350_360.out; have hnb101 := NB360_0.out; have hnc101 := NB0_360.out; have hcz102_0 : w99.cell? ⟨gb360, 0, none⟩ = some (.int .i64 (wrap64 (1 + t351))) := (blk_cell BK360.out 0).trans rfl; have hcz102_1 : w99.cell? ⟨gb360, 1, none⟩ = some (.slice Ao12 t357.length co12) := (blk_cell BK360.out 1).trans rfl; have hcz102_2 : w99.cell? ⟨gb360, 2, none⟩ = some (.int .i64 x361002_6) := (blk_cell BK360.out 2).trans rfl; have hcz102_3 : w99.cell? ⟨gb360, 3, none⟩ = some (.int .i64 x361003_22) := (blk_cell BK360.out 3).trans rfl; have hcz102_4 : w99.cell? ⟨gb360, 4, none⟩ = some (.int .i64 x361004_22) := (blk_cell BK360.out 4).trans rfl; have hfz102_0 := blk_frozen BK360.out 0; have hfz102_1 := blk_frozen BK360.out 1; have hfz102_2 := blk_frozen BK360.out 2; have hfz102_3 := blk_frozen BK360.out 3; have hfz102_4 := blk_frozen BK360.out 4; have hnb103 := NB350_0.out; have hnc103 := NB0_350.out; have hcz104_0 : w99.cell? ⟨gb350, 0, none⟩ = some (.int .i64 0) := (blk_cell BK350.out 0).trans rfl; have hcz104_1 : w99.cell? ⟨gb350, 1, none⟩ = some (.slice none 0 0) := (blk_cell BK350.out 1).trans rfl; have hcz104_2 : w99.cell? ⟨gb350, 2, none⟩ = some (.int .i64 0) := (blk_cell BK350.out 2).trans rfl; have hcz104_3 : w99.cell? ⟨gb350, 3, none⟩ = some (.int .i64 0) := (blk_cell BK350.out 3).trans rfl; have hcz104_4 : w99.cell? ⟨gb350, 4, none⟩ = some (.int .i64 0) := (blk_cell BK350.out 4).trans rfl; have hfz104_0 := blk_frozen BK350.out 0; have hfz104_1 := blk_frozen BK350.out 1; have hfz104_2 := blk_frozen BK350.out 2; have hfz104_3 := blk_frozen BK350.out 3; have hfz104_4 := blk_frozen BK350.out 4))
          refine bodyPost_ret (results_cell_row rfl _ _ gb350 65 #[.int .i64 (wrap64 (1 + t351)), .slice Ao12 t357.length co12, .int .i64 x361002_6, .int .i64 x361003_22, .int .i64 x361004_22] (0, 0) _ rfl (by (with_reducible repeat (first | refine blk_drewN ?_ _ | refine blk_drew ?_ | refine blk_alloc ?_ _)); refine blk_put (cs := #[.int .i64 (wrap64 (1 + t351)), .slice Ao12 t357.length co12, .int .i64 x361002_6, .int .i64 x361003_22, .int .i64 0]) ?_ 4 _ rfl; (with_reducible repeat (first | refine blk_drewN ?_ _ | refine blk_drew ?_ | refine blk_alloc ?_ _)); refine blk_put (cs := #[.int .i64 (wrap64 (1 + t351)), .slice Ao12 t357.length co12, .int .i64 x361002_6, .int .i64 0, .int .i64 0]) ?_ 3 _ rfl; (with_reducible repeat (first | refine blk_drewN ?_ _ | refine blk_drew ?_ | refine blk_alloc ?_ _)); refine blk_put (cs := #[.int .i64 (wrap64 (1 + t351)), .slice Ao12 t357.length co12, .int .i64 0, .int .i64 0, .int .i64 0]) ?_ 2 _ rfl; (with_reducible repeat (first | refine blk_drewN ?_ _ | refine blk_drew ?_ | refine blk_alloc ?_ _)); refine blk_put (cs := #[.int .i64 (wrap64 (1 + t351)), .slice none 0 0, .int .i64 0, .int .i64 0, .int .i64 0]) ?_ 1 _ rfl; (with_reducible repeat (first | refine blk_drewN ?_ _ | refine blk_drew ?_ | refine blk_alloc ?_ _)); refine blk_put (cs := #[.int .i64 0, .slice none 0 0, .int .i64 0, .int .i64 0, .int .i64 0]) ?_ 0 _ rfl; (with_reducible repeat (first | refine blk_drewN ?_ _ | refine blk_drew ?_ | refine blk_alloc ?_ _)); exact BK350.out) Try.underlying65 rfl (by kernel_rfl)) rfl ?_
          exact ⟨_, z62_, by (with_reducible repeat (first | apply Kd.R_alloc | apply Kd.R_drewN | apply Kd.R_drew)); exact Kd.R_mono (Kd.R_far (p := ⟨gb350, 4, none⟩) (Kd.R_far (p := ⟨gb350, 3, none⟩) (Kd.R_far (p := ⟨gb350, 2, none⟩) (Kd.R_far (p := ⟨gb350, 1, none⟩) (Kd.R_far (p := ⟨gb350, 0, none⟩) (Kd.R_types HO_361001.out BK350.out (by decide)) (fun _ hk => hk.2) (.int .i64 (wrap64 (1 + t351)))) (fun _ hk => hk.2) (.slice Ao12 t357.length co12)) (fun _ hk => hk.2) (.int .i64 x361002_6)) (fun _ hk => hk.2) (.int .i64 x361003_22)) (fun _ hk => hk.2) (.int .i64 x361004_22)) (fun _ hk => trivial), z9_, z10_, z8_⟩

end Go.Proofs.Ytmbhlfcpdbbogaa.PFnIdle
