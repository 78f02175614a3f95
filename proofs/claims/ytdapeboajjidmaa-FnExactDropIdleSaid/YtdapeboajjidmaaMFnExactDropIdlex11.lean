/- Laid by a program of this session out of the kit's print for the law FnExactDropIdle: what it says of the machine is proved here, function by function; each contract under the conditions that it names. -/
import Derived.Test.YtdapeboajjidmaaMFnExactDropIdlex0
import Derived.Test.YtdapeboajjidmaaMFnExactDropIdlex8
import Derived.Test.YtdapeboajjidmaaMFnExactDropIdlex9
import Derived.Test.YtdapeboajjidmaaMFnExactDropIdlex10
namespace Go.Proofs.Ytdapeboajjidmaa.PFnExactDropIdle
open Go.RowKit Go.Proofs.YtdapeboajjidmaaW.PrintWords Go.Proofs.YtdapeboajjidmaaW.PrintLast Go.Proofs.YtdapeboajjidmaaW.PrintMore
attribute [local go_sem] max2_int min2_int max_two min_two max_three min_three max_four min_four   -- for this text's walks alone
set_option linter.unusedVariables false
set_option linter.unusedSimpArgs false

/-! ### impl_ApplyOp: function 51 -/
mutual
def impl_ApplyOp.l0 : Nat → List (S80) → List (S80) → Int → Int → Option ((List (S80)) × Int)
 | 0, _, _, _, _ => none
 | k + 1, x0, x6, x7, x11 => (impl_endOf.f k x0 x7).bind fun t371 => (if x11 < t371 then (if 0 ≤ x11 then (if x11 < (x6.length : Int) then (impl_ApplyOp.l0 k x0 (x6.set (x11 : Int).toNat (⟨(rd_T80 x6 x11).f0, wrap64 (((rd_T80 x6 x11).f1) - 1)⟩ : S80)) x7 (wrap64 (x11 + 1))) else (none)) else (none)) else ((slices_Delete_Node.f x6 x7 (wrap64 (x7 + 1))).bind fun t374 => (some (t374, 0))))
def impl_ApplyOp.l1 : Nat → List (S80) → List (S80) → Int → Int → Int → Int → Int → List Int → Int → Int → Int → Option ((List (S80)) × Int)
 | 0, _, _, _, _, _, _, _, _, _, _, _ => none
 | k + 1, x0, x6, x7, x9, x10, x12, x359000, x359001, x359002, x359003, x359004 => if x12 < x10 then (if 0 ≤ x12 then (if x12 < (x6.length : Int) then (impl_ApplyOp.l1 k x0 (x6.set (x12 : Int).toNat (⟨(rd_T80 x6 x12).f0, wrap64 (((rd_T80 x6 x12).f1) + 1)⟩ : S80)) x7 x9 x10 (wrap64 (x12 + 1)) x359000 x359001 x359002 x359003 x359004) else (none)) else (none)) else (if 0 ≤ x7 then (if x7 < (x0.length : Int) then ((slices_Insert_Node.f x6 x9 (([(⟨x359002, wrap64 (((rd_T80 x0 x7).f1) + 1)⟩ : S80)] : List (S80)))).bind fun t383 => (some (t383, 0))) else (none)) else (none))
end
def impl_ApplyOp.f (k : Nat) (l0 : List (S80)) (a1_0 : Int) (l1_1 : List Int) (a1_2 : Int) (a1_3 : Int) (a1_4 : Int) : Option ((List (S80)) × Int) := (impl_TreeOk.f k l0).bind fun t359 => (if t359 = true then ((slices_Clone_Node.f l0).bind fun t363 => ((impl_NodeAt.f k l0 l1_1).bind fun t366 => ((impl_opCode.f k l0 a1_0 l1_1 a1_2 a1_3 a1_4 t366).bind fun bt367 => (if bt367.1 = 0 then (if a1_0 = 1 then (if 0 ≤ t366 then (if t366 < (t363.length : Int) then (some ((t363.set (t366 : Int).toNat (⟨a1_2, (rd_T80 t363 t366).f1⟩ : S80)), 0)) else (none)) else (none)) else (if a1_0 = 2 then (impl_ApplyOp.l0 k l0 t363 t366 (wrap64 (t366 + 1))) else (impl_ApplyOp.l1 k l0 t363 t366 bt367.2.1 bt367.2.2 bt367.2.1 a1_0 l1_1 a1_2 a1_3 a1_4))) else (some (t363, bt367.1)))))) else (some ((([] : List (S80))), 2)))
theorem impl_ApplyOp.mono_l : ∀ k, (∀ y0 y1 y2 y3, LeO (impl_ApplyOp.l0 k y0 y1 y2 y3) (impl_ApplyOp.l0 (k + 1) y0 y1 y2 y3)) ∧ (∀ y0 y1 y2 y3 y4 y5 y6 y7 y8 y9 y10, LeO (impl_ApplyOp.l1 k y0 y1 y2 y3 y4 y5 y6 y7 y8 y9 y10) (impl_ApplyOp.l1 (k + 1) y0 y1 y2 y3 y4 y5 y6 y7 y8 y9 y10))
 | 0 => ⟨fun _ _ _ _ r h => by simp [impl_ApplyOp.l0] at h, fun _ _ _ _ _ _ _ _ _ _ _ r h => by simp [impl_ApplyOp.l1] at h⟩
 | k + 1 => by
  obtain ⟨ih0, ih1⟩ := impl_ApplyOp.mono_l k
  refine ⟨?_, ?_⟩
  ·intro y0 y1 y2 y3
   unfold impl_ApplyOp.l0
   repeat' first | (with_reducible first | exact ih0 _ _ _ _ | exact ih1 _ _ _ _ _ _ _ _ _ _ _ | exact impl_NodeAt.mono _ _ _ | exact impl_TreeOk.mono _ _ | exact impl_endOf.mono _ _ _ | exact impl_opCode.mono _ _ _ _ _ _ _ _ | exact LeO.refl _ | exact LeO.none _ | refine LeO.ite ?_ ?_ | refine LeO.bind ?_ (fun _ => ?_)) | exact ih0 _ _ _ _ | exact ih1 _ _ _ _ _ _ _ _ _ _ _ | exact impl_NodeAt.mono _ _ _ | exact impl_TreeOk.mono _ _ | exact impl_endOf.mono _ _ _ | exact impl_opCode.mono _ _ _ _ _ _ _ _ | exact LeO.none _ | refine LeO.ite ?_ ?_ | refine LeO.bind ?_ (fun _ => ?_)
  ·intro y0 y1 y2 y3 y4 y5 y6 y7 y8 y9 y10
   unfold impl_ApplyOp.l1
   repeat' first | (with_reducible first | exact ih0 _ _ _ _ | exact ih1 _ _ _ _ _ _ _ _ _ _ _ | exact impl_NodeAt.mono _ _ _ | exact impl_TreeOk.mono _ _ | exact impl_endOf.mono _ _ _ | exact impl_opCode.mono _ _ _ _ _ _ _ _ | exact LeO.refl _ | exact LeO.none _ | refine LeO.ite ?_ ?_ | refine LeO.bind ?_ (fun _ => ?_)) | exact ih0 _ _ _ _ | exact ih1 _ _ _ _ _ _ _ _ _ _ _ | exact impl_NodeAt.mono _ _ _ | exact impl_TreeOk.mono _ _ | exact impl_endOf.mono _ _ _ | exact impl_opCode.mono _ _ _ _ _ _ _ _ | exact LeO.none _ | refine LeO.ite ?_ ?_ | refine LeO.bind ?_ (fun _ => ?_)
theorem impl_ApplyOp.mono : ∀ a0 a1 a2 a3 a4 a5 k, LeO (impl_ApplyOp.f k a0 a1 a2 a3 a4 a5) (impl_ApplyOp.f (k + 1) a0 a1 a2 a3 a4 a5) := by
 intro a0 a1 a2 a3 a4 a5 k
 obtain ⟨ih0, ih1⟩ := impl_ApplyOp.mono_l k
 unfold impl_ApplyOp.f
 repeat' first | (with_reducible first | exact ih0 _ _ _ _ | exact ih1 _ _ _ _ _ _ _ _ _ _ _ | exact impl_NodeAt.mono _ _ _ | exact impl_TreeOk.mono _ _ | exact impl_endOf.mono _ _ _ | exact impl_opCode.mono _ _ _ _ _ _ _ _ | exact LeO.refl _ | exact LeO.none _ | refine LeO.ite ?_ ?_ | refine LeO.bind ?_ (fun _ => ?_)) | exact ih0 _ _ _ _ | exact ih1 _ _ _ _ _ _ _ _ _ _ _ | exact impl_NodeAt.mono _ _ _ | exact impl_TreeOk.mono _ _ | exact impl_endOf.mono _ _ _ | exact impl_opCode.mono _ _ _ _ _ _ _ _ | exact LeO.none _ | refine LeO.ite ?_ ?_ | refine LeO.bind ?_ (fun _ => ?_)
def impl_ApplyOp.T3 : Bool × List (List Nat × List Nat) := (true, [([], []), ([0], [0]), ([], []), ([], []), ([3], [3]), ([2, 4, 1], [2, 4]), ([1, 5, 0, 1], [1]), ([5, 6, 0, 1, 2, 3, 4, 5, 6], [5])])
def impl_ApplyOp.B3 : List Nat := [0, 1, 0, 0, 8, 31, 63, 127]
theorem impl_ApplyOp.tab3 : rtab .any (opsOf Try.f51 3) = impl_ApplyOp.T3 := by kernel_rfl
theorem impl_ApplyOp.bits3 : waitsOk impl_ApplyOp.T3.2 impl_ApplyOp.B3 = true := by kernel_rfl
def impl_ApplyOp.T12 : Bool × List (List Nat × List Nat) := (true, [([], []), ([], []), ([], []), ([2], [2]), ([], []), ([], []), ([4, 5], [4, 5]), ([6], [6]), ([7], [7]), ([8], [8]), ([3, 9], [3, 9]), ([10], [10]), ([0, 1, 11], [0, 1, 11]), ([12, 12, 0, 1, 2, 3, 4, 5, 6, 7, 8, 9, 10, 11, 12], [0, 12])])
def impl_ApplyOp.B12 : List Nat := [0, 0, 0, 4, 0, 0, 48, 112, 240, 496, 1020, 2044, 4095, 8191]
theorem impl_ApplyOp.tab12 : rtab .any (opsOf Try.f51 12) = impl_ApplyOp.T12 := by kernel_rfl
theorem impl_ApplyOp.bits12 : waitsOk impl_ApplyOp.T12.2 impl_ApplyOp.B12 = true := by kernel_rfl
set_option maxHeartbeats 8000000 in
set_option maxRecDepth 100000 in
theorem impl_ApplyOp.calls (k : Nat) (A0 : Option Addr) (c0 : Nat) (l0 : List (S80)) (a1_0 : Int) (A1_1 : Option Addr) (c1_1 : Nat) (l1_1 : List Int) (a1_2 : Int) (a1_3 : Int) (a1_4 : Int) (r1 : List (S80)) (r2 : Int) (w : World) (hr0 : Kd.C k80 w A0 l0.length l0) (hc0 : l0.length ≤ c0) (hr1_1 : Kd.C (Kd.int .i64) w A1_1 l1_1.length l1_1) (hc1_1 : l1_1.length ≤ c1_1) (h : impl_ApplyOp.f k l0 a1_0 l1_1 a1_2 a1_3 a1_4 = some (r1, r2)) :
  Calls Try.prog 51 #[.slice A0 l0.length c0, .agg #[.int .i64 a1_0, .slice A1_1 l1_1.length c1_1, .int .i64 a1_2, .int .i64 a1_3, .int .i64 a1_4]] w fun e w' => ∃ v0_ : Value, e = .returned (.tuple #[v0_, .int .i64 r2]) ∧ Kd.R k80 80 w' w.heap.size (fun _ => True) v0_ r1 ∧ Below w.heap.size w w' := by
 have hu78 := Try.underlying78
 have hu80 := Try.underlying80
 have HR0 := Aside0.mk hr0
 have HC0 := Aside0.mk hc0
 clear hr0 hc0
 have HR1_1 := Aside0.mk hr1_1
 have HC1_1 := Aside0.mk hc1_1
 clear hr1_1 hc1_1
 have HB := Aside0.mk (Below.refl w.heap.size w)
 have H : ((impl_TreeOk.f k l0).bind fun t359 => (if t359 = true then ((slices_Clone_Node.f l0).bind fun t363 => ((impl_NodeAt.f k l0 l1_1).bind fun t366 => ((impl_opCode.f k l0 a1_0 l1_1 a1_2 a1_3 a1_4 t366).bind fun bt367 => (if bt367.1 = 0 then (if a1_0 = 1 then (if 0 ≤ t366 then (if t366 < (t363.length : Int) then (some ((t363.set (t366 : Int).toNat (⟨a1_2, (rd_T80 t363 t366).f1⟩ : S80)), 0)) else (none)) else (none)) else (if a1_0 = 2 then (impl_ApplyOp.l0 k l0 t363 t366 (wrap64 (t366 + 1))) else (impl_ApplyOp.l1 k l0 t363 t366 bt367.2.1 bt367.2.2 bt367.2.1 a1_0 l1_1 a1_2 a1_3 a1_4))) else (some (t363, bt367.1)))))) else (some ((([] : List (S80))), 2)))) = some (r1, r2) := h
 clear h
 obtain ⟨t359, A3, H⟩ := bnd_ H
 by_cases c4 : t359 = true
 ·subst c4
  replace H := ift_ H
  obtain ⟨t363, A5, H⟩ := bnd_ H
  obtain ⟨t366, A6, H⟩ := bnd_ H
  replace H := Option.bind_eq_some_iff.mp H
  obtain ⟨⟨t367, t368, t369⟩, A70, H⟩ := H
  replace H : (if t367 = 0 then (if a1_0 = 1 then (if 0 ≤ t366 then (if t366 < (t363.length : Int) then (some ((t363.set (t366 : Int).toNat (⟨a1_2, (rd_T80 t363 t366).f1⟩ : S80)), 0)) else (none)) else (none)) else (if a1_0 = 2 then (impl_ApplyOp.l0 k l0 t363 t366 (wrap64 (t366 + 1))) else (impl_ApplyOp.l1 k l0 t363 t366 t368 t369 t368 a1_0 l1_1 a1_2 a1_3 a1_4))) else (some (t363, t367))) = some (r1, r2) := H
  have A7 := Aside0.mk A70
  clear A70
  by_cases c8 : t367 = 0
  ·rw [if_pos c8] at H
   have c8b0 : (t367 == 0) = true := beq_iff_eq.mpr c8
   have c8b1 : (t367 != 0) = false := bne_eq_false_iff_eq.mpr c8
   clear c8
   by_cases c9 : a1_0 = 1
   ·rw [if_pos c9] at H
    have c9b0 : (a1_0 == 1) = true := beq_iff_eq.mpr c9
    have c9b1 : (a1_0 != 1) = false := bne_eq_false_iff_eq.mpr c9
    clear c9
    obtain ⟨c10b0, H⟩ := ifd_ H
    obtain ⟨c11b0, H⟩ := ifd_ H
    obtain ⟨y370, hy370⟩ : ∃ y_ : List (S80), y_ = (t363.set (t366 : Int).toNat (⟨a1_2, (rd_T80 t363 t366).f1⟩ : S80)) := ⟨_, rfl⟩
    replace H : (some (y370, 0)) = some (r1, r2) := by first | (rw [hy370]; with_reducible exact H) | (have H2_ := (Option.bind_some _ _).symm.trans H; rw [hy370]; with_reducible exact H2_) | (have H2_ := (Option.bind_some _ _).symm.trans H; with_reducible exact H2_) | with_reducible exact H | (rw [hy370]; exact H) | exact H
    have Ny370 := Aside0.mk hy370
    clear hy370
    simp only [Option.some.injEq, Prod.mk.injEq] at H
    obtain ⟨rfl, rfl⟩ := H
    go_enter Try.func51, Try.ntmps51
    try go_wp2_with (first | ((with_reducible refine gate_dst (N := 3) rfl ?_); refine box_event ?hg (N := 3) ?hd (cs := #[.int .i64 a1_0, .slice A1_1 l1_1.length c1_1, .int .i64 a1_2, .int .i64 a1_3, .int .i64 a1_4]) (t := 78) ?hr ?_; (case hd => rfl); (case hg => rfl); (case hr => exact z12_); intro gb358 hg w13 hbox hb; have BK358 := Aside0.mk (hbox); have GW358 := Aside0.mk ((by rw [hg]; exact (below_size z0_) : w.heap.size ≤ gb358)); have GE358 := Aside0.mk ((by rw [hg]; exact (below_size z0_) : w.heap.size ≤ gb358)); replace HB := Aside0.mk (below_step z0_ hb); clear hb hbox hg) | ((with_reducible refine gate_callee (f := 50) rfl ?_); refine goesL_ (some 14) rfl rfl Try.func50 (by kernel_rfl) rfl #[.slice A0 l0.length c0] rfl z1_ ?_; (with_reducible refine (impl_TreeOk.calls k _ _ l0 true _ ?side1 ?side2 A3.out).mono ?_); (case side1 => exact z2_); (case side2 => exact HC0.out); rintro e w14 ⟨rfl, hb⟩; refine ⟨_, rfl, ?_⟩; replace BK358 := Aside0.mk (blk_below (g := gb358) (o := .cells #[.int .i64 a1_0, .slice A1_1 l1_1.length c1_1, .int .i64 a1_2, .int .i64 a1_3, .int .i64 a1_4] 78 (0, 0)) z15_ hb); replace HB := Aside0.mk (below_step z6_ hb); (try clear hb)))
    have n0_ := Aside0.mk (blk_drew BK358.out)
    have n1_ := Aside0.mk (below_drew1 HB.out)
    clear BK358
    clear HB
    have BK358 := n0_
    have HB := n1_
    clear n0_ n1_
    refine start_ (n := 8) (S := fun w' => w'.cell? ⟨gb358, 0, none⟩ = some (.int .i64 a1_0) ∧ w'.cell? ⟨gb358, 1, none⟩ = some (.slice A1_1 l1_1.length c1_1) ∧ w'.cell? ⟨gb358, 2, none⟩ = some (.int .i64 a1_2) ∧ w'.cell? ⟨gb358, 3, none⟩ = some (.int .i64 a1_3) ∧ w'.cell? ⟨gb358, 4, none⟩ = some (.int .i64 a1_4)) (ds := []) (fl_ 8 0) (by kernel_rfl) rfl (fl_zero _) ⟨(blk_cell BK358.out 0).trans rfl, (blk_cell BK358.out 1).trans rfl, (blk_cell BK358.out 2).trans rfl, (blk_cell BK358.out 3).trans rfl, (blk_cell BK358.out 4).trans rfl⟩ (fun hHeld => ?_); refine with_tabW impl_ApplyOp.tab3 impl_ApplyOp.bits3 (fun HT_ HW_ => ?_)
    generalize w14.drew = w15 at BK358 HB hHeld ⊢
    refine zp_ HT_ rfl rfl (by kernel_rfl) (fun _ _ _ h => h) (by rfl) ?_
    refine zpg_ (i := 2) (ra_ [1, 1, 1, 5]) HT_ rfl rfl (by kernel_rfl) (fun _ _ _ h => h) (by rfl) ?_
    refine zpg_ (i := 3) (ra_ [1, 1, 2, 4]) HT_ rfl rfl (by kernel_rfl) (fun _ _ _ h => h) (by rfl) ?_
    refine ztg_ (i := 4) (ra_ [1, 1, 3, 3]) HT_ HW_ rfl rfl (by kernel_rfl) (fun _ _ _ h => h) (by rfl) hHeld ?_ z122_
    refine one_ (i := 1) (N := some 18) (fl_ 8 5) rfl rfl (one_of HT_.out (by kernel_rfl)) (by decide) (fun K hK => ?_)
    refine goes_ Try.func75 (by kernel_rfl) rfl #[.slice A0 l0.length c0] (by rfl) rfl rfl z1_ ?_
    with_reducible refine (slices_Clone_Node.calls _ _ l0 t363 _ ?side1 ?side2 A5.out).mono ?_
    (case side1 => exact z2_)
    (case side2 => exact HC0.out)
    rintro e w16 ⟨v364, rfl, ho0, hb⟩
    refine ⟨_, rfl, ?_⟩
    have n0_ := Aside0.mk (Kd.R_lower ho0 (below_size z6_))
    have n1_ := Aside0.mk (blk_below (g := gb358) (o := .cells #[.int .i64 a1_0, .slice A1_1 l1_1.length c1_1, .int .i64 a1_2, .int .i64 a1_3, .int .i64 a1_4] 78 (0, 0)) z15_ hb)
    have n2_ := Aside0.mk (below_step z6_ hb)
    clear BK358
    clear HB
    have HO365 := n0_
    have BK358 := n1_
    have HB := n2_
    clear n0_ n1_ n2_
    (try clear hb)
    (try clear hb2)
    (try clear hk)
    (try clear hi)
    (try clear ho0)
    refine hK.out _ _ ⟨(blk_cell BK358.out 0).trans rfl, (blk_cell BK358.out 1).trans rfl, (blk_cell BK358.out 2).trans rfl, (blk_cell BK358.out 3).trans rfl, (blk_cell BK358.out 4).trans rfl⟩ (fun hHeld => ?_)
    clear hK K
    refine zn_ rfl ?_
    refine one_ (i := 5) (N := some 22) (fl_ 8 6) rfl rfl (one_of HT_.out (by kernel_rfl)) (by decide) (fun K hK => ?_)
    refine goes_ Try.func78 (by kernel_rfl) rfl #[.slice A0 l0.length c0, .slice A1_1 l1_1.length c1_1] (by rfl) rfl rfl z1_ ?_
    with_reducible refine (impl_NodeAt.calls k _ _ l0 _ _ l1_1 t366 _ ?side1 ?side2 ?side3 ?side4 A6.out).mono ?_
    (case side1 => exact z2_)
    (case side2 => exact HC0.out)
    (case side3 => exact z14_)
    (case side4 => exact HC1_1.out)
    rintro e w17 ⟨rfl, hb⟩
    refine ⟨_, rfl, ?_⟩
    have n0_ := Aside0.mk (Kd.R_below z32_ hb)
    have n1_ := Aside0.mk (blk_below (g := gb358) (o := .cells #[.int .i64 a1_0, .slice A1_1 l1_1.length c1_1, .int .i64 a1_2, .int .i64 a1_3, .int .i64 a1_4] 78 (0, 0)) z15_ hb)
    have n2_ := Aside0.mk (below_step z6_ hb)
    clear HO365
    clear BK358
    clear HB
    have HO365 := n0_
    have BK358 := n1_
    have HB := n2_
    clear n0_ n1_ n2_
    (try clear hb)
    (try clear hb2)
    (try clear hk)
    (try clear hi)
    refine hK.out _ _ ⟨(blk_cell BK358.out 0).trans rfl, (blk_cell BK358.out 1).trans rfl, (blk_cell BK358.out 2).trans rfl, (blk_cell BK358.out 3).trans rfl, (blk_cell BK358.out 4).trans rfl⟩ (fun hHeld => ?_)
    clear hK K
    refine zn_ rfl ?_
    iterate 2 refine zp_ HT_ rfl rfl (by kernel_rfl) (fun _ _ _ h => h) (by rfl) ?_
    refine done_ (done_of HT_.out (by kernel_rfl)) ?_
    have hcz18_0 : w17.cell? ⟨gb358, 0, none⟩ = some (.int .i64 a1_0) := (blk_cell BK358.out 0).trans rfl
    have hcz18_1 : w17.cell? ⟨gb358, 1, none⟩ = some (.slice A1_1 l1_1.length c1_1) := (blk_cell BK358.out 1).trans rfl
    have hcz18_2 : w17.cell? ⟨gb358, 2, none⟩ = some (.int .i64 a1_2) := (blk_cell BK358.out 2).trans rfl
    have hcz18_3 : w17.cell? ⟨gb358, 3, none⟩ = some (.int .i64 a1_3) := (blk_cell BK358.out 3).trans rfl
    have hcz18_4 : w17.cell? ⟨gb358, 4, none⟩ = some (.int .i64 a1_4) := (blk_cell BK358.out 4).trans rfl
    have hfz18_0 := blk_frozen BK358.out 0
    have hfz18_1 := blk_frozen BK358.out 1
    have hfz18_2 := blk_frozen BK358.out 2
    have hfz18_3 := blk_frozen BK358.out 3
    have hfz18_4 := blk_frozen BK358.out 4
    try go_wp2_with (first | ((with_reducible refine gate_callee (f := 96) rfl ?_); refine goesL_ (some 27) rfl rfl Try.func96 (by kernel_rfl) rfl #[.slice A0 l0.length c0, .agg #[.int .i64 a1_0, .slice A1_1 l1_1.length c1_1, .int .i64 a1_2, .int .i64 a1_3, .int .i64 a1_4], .int .i64 t366] rfl z1_ ?_; (with_reducible refine (impl_opCode.calls k _ _ l0 a1_0 _ _ l1_1 a1_2 a1_3 a1_4 t366 t367 t368 t369 _ ?side1 ?side2 ?side3 ?side4 A7.out).mono ?_); (case side1 => exact z2_); (case side2 => exact HC0.out); (case side3 => exact z14_); (case side4 => exact HC1_1.out); rintro e w19 ⟨rfl, hb⟩; refine ⟨_, rfl, ?_⟩; replace HO365 := Aside0.mk (Kd.R_below z32_ hb); replace BK358 := Aside0.mk (blk_below (g := gb358) (o := .cells #[.int .i64 a1_0, .slice A1_1 l1_1.length c1_1, .int .i64 a1_2, .int .i64 a1_3, .int .i64 a1_4] 78 (0, 0)) z15_ hb); replace HB := Aside0.mk (below_step z6_ hb); (try clear hb); have hcz20_0 : w19.cell? ⟨gb358, 0, none⟩ = some (.int .i64 a1_0) := (blk_cell BK358.out 0).trans rfl; have hcz20_1 : w19.cell? ⟨gb358, 1, none⟩ = some (.slice A1_1 l1_1.length c1_1) := (blk_cell BK358.out 1).trans rfl; have hcz20_2 : w19.cell? ⟨gb358, 2, none⟩ = some (.int .i64 a1_2) := (blk_cell BK358.out 2).trans rfl; have hcz20_3 : w19.cell? ⟨gb358, 3, none⟩ = some (.int .i64 a1_3) := (blk_cell BK358.out 3).trans rfl; have hcz20_4 : w19.cell? ⟨gb358, 4, none⟩ = some (.int .i64 a1_4) := (blk_cell BK358.out 4).trans rfl; have hfz20_0 := blk_frozen BK358.out 0; have hfz20_1 := blk_frozen BK358.out 1; have hfz20_2 := blk_frozen BK358.out 2; have hfz20_3 := blk_frozen BK358.out 3; have hfz20_4 := blk_frozen BK358.out 4; have p12 : 0 ≤ (t366 : Int) := odt_; have q12 : (t366 : Int) < ((t363.length : Int) : Int) := odt_; obtain ⟨go12, co12, eo12, gb12, gl12, cl12, HG12⟩ := Kd.R_form HO365.out (by omega); (first | cases eo12 | (injection eo12 with ea_ en_ ec_; (first | subst ea_ | (injection ea_ with ea_; subst ea_)); subst ec_; clear en_)); have GB12 := Aside0.mk gb12; have GG12 := Aside0.mk HG12; clear gb12 gl12 HG12; obtain ⟨ce12, hcl12, hM12, hcc12, hfr12⟩ := Kd.R_elem HO365.out z80 (t366 : Int) p12 q12; obtain rfl := k80_openM hM12; have hx12_0 : w19.cell? ⟨go12, (t366 : Int).toNat * 2, none⟩ = some (.int .i64 ((rd_T80 t363 t366).f0)) := hcc12 0 _ rfl; have hx12_1 : w19.cell? ⟨go12, (t366 : Int).toNat * 2 + 1, none⟩ = some (.int .i64 ((rd_T80 t363 t366).f1)) := hcc12 1 _ rfl; have hf12_0 : w19.frozen? ⟨go12, (t366 : Int).toNat * 2, none⟩ = false := hfr12 0; have hf12_1 : w19.frozen? ⟨go12, (t366 : Int).toNat * 2 + 1, none⟩ = false := hfr12 1; clear hcl12 hcc12 hfr12 hM12; replace p12 := eq_true p12; replace q12 := eq_true q12; have HX21 := Aside0.mk (show Kd.R k80 80 w19 w.heap.size (fun _ => True) (.slice (some ⟨go12, 0, none⟩) t363.length co12) t363 from z32_); obtain ⟨ce21, hcl21, hM21, hcc21, hfr21⟩ := Kd.R_elem HX21.out z80 (t366 : Int) (odt_) (by have h_ : (t366 : Int) < ((t363.length : Int) : Int) := odt_; first | exact h_ | (have e_ := (Kd.R_reads' HO365.out).1; omega) | simpa using h_); obtain rfl := k80_openM hM21; have HP21 := Kd.R_seg HX21.out (t366 : Int) (odt_) (by have h_ : (t366 : Int) < ((t363.length : Int) : Int) := odt_; first | exact h_ | (have e_ := (Kd.R_reads' HO365.out).1; omega) | simpa using h_) (seg := [.int .i64 a1_2]) (j := 0) hcl21 hcc21 (show 1 ≤ 2 from by decide) (x' := (⟨a1_2, (rd_T80 t363 t366).f1⟩ : S80)) (k80_mkM _ _ _ (⟨a1_2, (rd_T80 t363 t366).f1⟩ : S80) ) (fun _ hk => hk); have hx21_0 := hcc21 0 _ rfl; (try simp only [show (k80).sz = 2 from rfl, Nat.mul_one, Nat.add_zero] at hx21_0); have hf21_0 := hfr21 0; (try simp only [show (k80).sz = 2 from rfl, Nat.mul_one, Nat.add_zero] at hf21_0); clear hcl21 hcc21 hfr21 hM21) | ((with_reducible refine gate_store (t := 3) (p := 71) rfl ?_); refine store_event (t := 3) (p := 71) (v := ?vo_w22) (w1 := (w19.setCell ⟨go12, (t366 : Int).toNat * 2, none⟩ (.int .i64 a1_2))) ?hg ?ho ?hn ?hr ?_; (case ho => rfl); (case hg => rfl); (case hn => rfl); (case hr => exact z12_); intro w22 hw; have hg : w19.grownBy w22 (some go12) := (by rw [hw]; exact HP21.2); have hp_ : Kd.R k80 80 w22 w.heap.size (fun _ => True) (.slice (some ⟨go12, 0, none⟩) t363.length co12) y370 := (by rw [hw, Ny370.out]; exact HP21.1); clear HP21; replace BK358 := Aside0.mk (blk_grown (g := gb358) (o := .cells #[.int .i64 a1_0, .slice A1_1 l1_1.length c1_1, .int .i64 a1_2, .int .i64 a1_3, .int .i64 a1_4] 78 (0, 0)) z15_ hg (Kd.R_ne HO365.out BK358.out (by decide))); replace HO365 := Aside0.mk (hp_); replace HB := Aside0.mk ((by rw [hw]; exact below_set (HB.out) GB12.out : Below w.heap.size w w22)); clear hg hw hp_))
    go_ret2
    exact ⟨_, z4_, z32_, z6_⟩
   ·rw [if_neg c9] at H
    have c9b0 : (a1_0 == 1) = false := beq_eq_false_iff_ne.mpr c9
    have c9b1 : (a1_0 != 1) = true := bne_iff_ne.mpr c9
    by_cases c23 : a1_0 = 2
    ·rw [if_pos c23] at H
     have c23b0 : (a1_0 == 2) = true := beq_iff_eq.mpr c23
     have c23b1 : (a1_0 != 2) = false := bne_eq_false_iff_eq.mpr c23
     clear c23
     have H' := Aside0.mk H
     clear H
     go_enter Try.func51, Try.ntmps51
     try go_wp2_with (first | ((with_reducible refine gate_dst (N := 3) rfl ?_); refine box_event ?hg (N := 3) ?hd (cs := #[.int .i64 a1_0, .slice A1_1 l1_1.length c1_1, .int .i64 a1_2, .int .i64 a1_3, .int .i64 a1_4]) (t := 78) ?hr ?_; (case hd => rfl); (case hg => rfl); (case hr => exact z12_); intro gb358 hg w24 hbox hb; have BK358 := Aside0.mk (hbox); have GW358 := Aside0.mk ((by rw [hg]; exact (below_size z0_) : w.heap.size ≤ gb358)); have GE358 := Aside0.mk ((by rw [hg]; exact (below_size z0_) : w.heap.size ≤ gb358)); replace HB := Aside0.mk (below_step z0_ hb); clear hb hbox hg) | ((with_reducible refine gate_callee (f := 50) rfl ?_); refine goesL_ (some 14) rfl rfl Try.func50 (by kernel_rfl) rfl #[.slice A0 l0.length c0] rfl z1_ ?_; (with_reducible refine (impl_TreeOk.calls k _ _ l0 true _ ?side1 ?side2 A3.out).mono ?_); (case side1 => exact z2_); (case side2 => exact HC0.out); rintro e w25 ⟨rfl, hb⟩; refine ⟨_, rfl, ?_⟩; replace BK358 := Aside0.mk (blk_below (g := gb358) (o := .cells #[.int .i64 a1_0, .slice A1_1 l1_1.length c1_1, .int .i64 a1_2, .int .i64 a1_3, .int .i64 a1_4] 78 (0, 0)) z15_ hb); replace HB := Aside0.mk (below_step z6_ hb); (try clear hb)))
     have n0_ := Aside0.mk (blk_drew BK358.out)
     have n1_ := Aside0.mk (below_drew1 HB.out)
     clear BK358
     clear HB
     have BK358 := n0_
     have HB := n1_
     clear n0_ n1_
     refine start_ (n := 8) (S := fun w' => w'.cell? ⟨gb358, 0, none⟩ = some (.int .i64 a1_0) ∧ w'.cell? ⟨gb358, 1, none⟩ = some (.slice A1_1 l1_1.length c1_1) ∧ w'.cell? ⟨gb358, 2, none⟩ = some (.int .i64 a1_2) ∧ w'.cell? ⟨gb358, 3, none⟩ = some (.int .i64 a1_3) ∧ w'.cell? ⟨gb358, 4, none⟩ = some (.int .i64 a1_4)) (ds := []) (fl_ 8 0) (by kernel_rfl) rfl (fl_zero _) ⟨(blk_cell BK358.out 0).trans rfl, (blk_cell BK358.out 1).trans rfl, (blk_cell BK358.out 2).trans rfl, (blk_cell BK358.out 3).trans rfl, (blk_cell BK358.out 4).trans rfl⟩ (fun hHeld => ?_); refine with_tabW impl_ApplyOp.tab3 impl_ApplyOp.bits3 (fun HT_ HW_ => ?_)
     generalize w25.drew = w26 at BK358 HB hHeld ⊢
     refine zp_ HT_ rfl rfl (by kernel_rfl) (fun _ _ _ h => h) (by rfl) ?_
     refine zpg_ (i := 2) (ra_ [1, 1, 1, 5]) HT_ rfl rfl (by kernel_rfl) (fun _ _ _ h => h) (by rfl) ?_
     refine zpg_ (i := 3) (ra_ [1, 1, 2, 4]) HT_ rfl rfl (by kernel_rfl) (fun _ _ _ h => h) (by rfl) ?_
     refine ztg_ (i := 4) (ra_ [1, 1, 3, 3]) HT_ HW_ rfl rfl (by kernel_rfl) (fun _ _ _ h => h) (by rfl) hHeld ?_ z122_
     refine one_ (i := 1) (N := some 18) (fl_ 8 5) rfl rfl (one_of HT_.out (by kernel_rfl)) (by decide) (fun K hK => ?_)
     refine goes_ Try.func75 (by kernel_rfl) rfl #[.slice A0 l0.length c0] (by rfl) rfl rfl z1_ ?_
     with_reducible refine (slices_Clone_Node.calls _ _ l0 t363 _ ?side1 ?side2 A5.out).mono ?_
     (case side1 => exact z2_)
     (case side2 => exact HC0.out)
     rintro e w27 ⟨v364, rfl, ho0, hb⟩
     refine ⟨_, rfl, ?_⟩
     have n0_ := Aside0.mk (Kd.R_lower ho0 (below_size z6_))
     have n1_ := Aside0.mk (blk_below (g := gb358) (o := .cells #[.int .i64 a1_0, .slice A1_1 l1_1.length c1_1, .int .i64 a1_2, .int .i64 a1_3, .int .i64 a1_4] 78 (0, 0)) z15_ hb)
     have n2_ := Aside0.mk (below_step z6_ hb)
     clear BK358
     clear HB
     have HO365 := n0_
     have BK358 := n1_
     have HB := n2_
     clear n0_ n1_ n2_
     (try clear hb)
     (try clear hb2)
     (try clear hk)
     (try clear hi)
     (try clear ho0)
     refine hK.out _ _ ⟨(blk_cell BK358.out 0).trans rfl, (blk_cell BK358.out 1).trans rfl, (blk_cell BK358.out 2).trans rfl, (blk_cell BK358.out 3).trans rfl, (blk_cell BK358.out 4).trans rfl⟩ (fun hHeld => ?_)
     clear hK K
     refine zn_ rfl ?_
     refine one_ (i := 5) (N := some 22) (fl_ 8 6) rfl rfl (one_of HT_.out (by kernel_rfl)) (by decide) (fun K hK => ?_)
     refine goes_ Try.func78 (by kernel_rfl) rfl #[.slice A0 l0.length c0, .slice A1_1 l1_1.length c1_1] (by rfl) rfl rfl z1_ ?_
     with_reducible refine (impl_NodeAt.calls k _ _ l0 _ _ l1_1 t366 _ ?side1 ?side2 ?side3 ?side4 A6.out).mono ?_
     (case side1 => exact z2_)
     (case side2 => exact HC0.out)
     (case side3 => exact z14_)
     (case side4 => exact HC1_1.out)
     rintro e w28 ⟨rfl, hb⟩
     refine ⟨_, rfl, ?_⟩
     have n0_ := Aside0.mk (Kd.R_below z32_ hb)
     have n1_ := Aside0.mk (blk_below (g := gb358) (o := .cells #[.int .i64 a1_0, .slice A1_1 l1_1.length c1_1, .int .i64 a1_2, .int .i64 a1_3, .int .i64 a1_4] 78 (0, 0)) z15_ hb)
     have n2_ := Aside0.mk (below_step z6_ hb)
     clear HO365
     clear BK358
     clear HB
     have HO365 := n0_
     have BK358 := n1_
     have HB := n2_
     clear n0_ n1_ n2_
     (try clear hb)
     (try clear hb2)
     (try clear hk)
     (try clear hi)
     refine hK.out _ _ ⟨(blk_cell BK358.out 0).trans rfl, (blk_cell BK358.out 1).trans rfl, (blk_cell BK358.out 2).trans rfl, (blk_cell BK358.out 3).trans rfl, (blk_cell BK358.out 4).trans rfl⟩ (fun hHeld => ?_)
     clear hK K
     refine zn_ rfl ?_
     iterate 2 refine zp_ HT_ rfl rfl (by kernel_rfl) (fun _ _ _ h => h) (by rfl) ?_
     refine done_ (done_of HT_.out (by kernel_rfl)) ?_
     have hcz29_0 : w28.cell? ⟨gb358, 0, none⟩ = some (.int .i64 a1_0) := (blk_cell BK358.out 0).trans rfl
     have hcz29_1 : w28.cell? ⟨gb358, 1, none⟩ = some (.slice A1_1 l1_1.length c1_1) := (blk_cell BK358.out 1).trans rfl
     have hcz29_2 : w28.cell? ⟨gb358, 2, none⟩ = some (.int .i64 a1_2) := (blk_cell BK358.out 2).trans rfl
     have hcz29_3 : w28.cell? ⟨gb358, 3, none⟩ = some (.int .i64 a1_3) := (blk_cell BK358.out 3).trans rfl
     have hcz29_4 : w28.cell? ⟨gb358, 4, none⟩ = some (.int .i64 a1_4) := (blk_cell BK358.out 4).trans rfl
     have hfz29_0 := blk_frozen BK358.out 0
     have hfz29_1 := blk_frozen BK358.out 1
     have hfz29_2 := blk_frozen BK358.out 2
     have hfz29_3 := blk_frozen BK358.out 3
     have hfz29_4 := blk_frozen BK358.out 4
     try go_wp2_with (first | ((with_reducible refine gate_callee (f := 96) rfl ?_); refine goesL_ (some 27) rfl rfl Try.func96 (by kernel_rfl) rfl #[.slice A0 l0.length c0, .agg #[.int .i64 a1_0, .slice A1_1 l1_1.length c1_1, .int .i64 a1_2, .int .i64 a1_3, .int .i64 a1_4], .int .i64 t366] rfl z1_ ?_; (with_reducible refine (impl_opCode.calls k _ _ l0 a1_0 _ _ l1_1 a1_2 a1_3 a1_4 t366 t367 t368 t369 _ ?side1 ?side2 ?side3 ?side4 A7.out).mono ?_); (case side1 => exact z2_); (case side2 => exact HC0.out); (case side3 => exact z14_); (case side4 => exact HC1_1.out); rintro e w30 ⟨rfl, hb⟩; refine ⟨_, rfl, ?_⟩; replace HO365 := Aside0.mk (Kd.R_below z32_ hb); replace BK358 := Aside0.mk (blk_below (g := gb358) (o := .cells #[.int .i64 a1_0, .slice A1_1 l1_1.length c1_1, .int .i64 a1_2, .int .i64 a1_3, .int .i64 a1_4] 78 (0, 0)) z15_ hb); replace HB := Aside0.mk (below_step z6_ hb); (try clear hb); have hcz31_0 : w30.cell? ⟨gb358, 0, none⟩ = some (.int .i64 a1_0) := (blk_cell BK358.out 0).trans rfl; have hcz31_1 : w30.cell? ⟨gb358, 1, none⟩ = some (.slice A1_1 l1_1.length c1_1) := (blk_cell BK358.out 1).trans rfl; have hcz31_2 : w30.cell? ⟨gb358, 2, none⟩ = some (.int .i64 a1_2) := (blk_cell BK358.out 2).trans rfl; have hcz31_3 : w30.cell? ⟨gb358, 3, none⟩ = some (.int .i64 a1_3) := (blk_cell BK358.out 3).trans rfl; have hcz31_4 : w30.cell? ⟨gb358, 4, none⟩ = some (.int .i64 a1_4) := (blk_cell BK358.out 4).trans rfl; have hfz31_0 := blk_frozen BK358.out 0; have hfz31_1 := blk_frozen BK358.out 1; have hfz31_2 := blk_frozen BK358.out 2; have hfz31_3 := blk_frozen BK358.out 3; have hfz31_4 := blk_frozen BK358.out 4))
     go_loopg [11] k (fun kq v11 w' => ∃ (x6_1 : List (S80)) (x11_1 : Int), v11 = .int .i64 x11_1 ∧ Aside0 (impl_ApplyOp.l0 kq l0 x6_1 t366 x11_1 = some (r1, r2)) ∧ Aside0 (kq ≤ k) ∧ Aside0 (Kd.R k80 80 w' w.heap.size (fun _ => True) v364 x6_1) ∧ Aside0 (w'.heap[gb358]? = some (.cells #[.int .i64 a1_0, (.slice A1_1 l1_1.length c1_1), .int .i64 a1_2, .int .i64 a1_3, .int .i64 a1_4] 78 (0, 0))) ∧ Aside0 (Below w.heap.size w w'))
     case atStart => exact ⟨(t363), (wrap64 (t366 + 1)), z7_, H', ⟨Nat.le_refl _⟩, ⟨z32_⟩, ⟨z15_⟩, ⟨z6_⟩⟩
     case round =>
      clear H'
      try clear c1
      try clear p1
      try clear q1
      try clear hx1
      try clear c2
      try clear p2
      try clear hx2
      try clear hf2
      try clear c4
      try clear c5
      try clear p6
      try clear c7
      try clear c8
      try clear c8b0
      try clear c8b1
      try clear c9
      try clear c9b0
      try clear c9b1
      try clear c10
      try clear c10b0
      try clear c11
      try clear c11b0
      try clear c12
      try clear p12
      try clear q12
      try clear hx12
      try clear hf12
      try clear c21
      try clear hx21
      try clear hf21
      try clear c23
      try clear c23b0
      try clear c23b1
      try clear hcz18_0
      try clear hcz18_1
      try clear hcz18_2
      try clear hcz18_3
      try clear hcz18_4
      try clear hcz20_0
      try clear hcz20_1
      try clear hcz20_2
      try clear hcz20_3
      try clear hcz20_4
      try clear hcz29_0
      try clear hcz29_1
      try clear hcz29_2
      try clear hcz29_3
      try clear hcz29_4
      try clear hcz31_0
      try clear hcz31_1
      try clear hcz31_2
      try clear hcz31_3
      try clear hcz31_4
      try clear hfz18_0
      try clear hfz18_1
      try clear hfz18_2
      try clear hfz18_3
      try clear hfz18_4
      try clear hfz20_0
      try clear hfz20_1
      try clear hfz20_2
      try clear hfz20_3
      try clear hfz20_4
      try clear hfz29_0
      try clear hfz29_1
      try clear hfz29_2
      try clear hfz29_3
      try clear hfz29_4
      try clear hfz31_0
      try clear hfz31_1
      try clear hfz31_2
      try clear hfz31_3
      try clear hfz31_4
      try clear hx12_0
      try clear hx12_1
      try clear hx21_0
      try clear p12
      try clear q12
      obtain ⟨x6_1, x11_1, rfl, HA, HK1, HO_6, BK358, HB⟩ := hrel
      cases gk with
      | zero => exact absurd HA.out (by simp [impl_ApplyOp.l0])
      | succ k1 =>
       have H := HA.out
       clear HA
       simp only [impl_ApplyOp.l0] at H
       obtain ⟨t371, A32, H⟩ := bnd_ H
       by_cases c33 : x11_1 < t371
       ·rw [if_pos c33] at H
        have c33b0 : decide (x11_1 < t371) = true := decide_eq_true c33
        clear c33
        obtain ⟨c34b0, H⟩ := ifd_ H
        obtain ⟨c35b0, H⟩ := ifd_ H
        obtain ⟨y373, hy373⟩ : ∃ y_ : List (S80), y_ = (x6_1.set (x11_1 : Int).toNat (⟨(rd_T80 x6_1 x11_1).f0, wrap64 (((rd_T80 x6_1 x11_1).f1) - 1)⟩ : S80)) := ⟨_, rfl⟩
        replace H : (impl_ApplyOp.l0 k1 l0 y373 t366 (wrap64 (x11_1 + 1))) = some (r1, r2) := by first | (rw [hy373]; with_reducible exact H) | (have H2_ := (Option.bind_some _ _).symm.trans H; rw [hy373]; with_reducible exact H2_) | (have H2_ := (Option.bind_some _ _).symm.trans H; with_reducible exact H2_) | with_reducible exact H | (rw [hy373]; exact H) | exact H
        have Ny373 := Aside0.mk hy373
        clear hy373
        have H' := Aside0.mk H
        clear H
        go_wp2_with (first | ((with_reducible refine gate_callee (f := 97) rfl ?_); refine goesL_ (some 79) rfl rfl Try.func97 (by kernel_rfl) rfl #[.slice A0 l0.length c0, .int .i64 t366] rfl z1_ ?_; (with_reducible refine (impl_endOf.calls k1 _ _ l0 t366 t371 _ ?side1 ?side2 A32.out).mono ?_); (case side1 => exact z2_); (case side2 => exact HC0.out); rintro e w' ⟨rfl, ⟨nd, rfl⟩⟩; refine ⟨_, rfl, ?_⟩; (try (rw [drewN_self wr]; generalize hq_ : World.drewN wr _ = wr; have n0_ : Aside0 (Kd.R k80 80 wr w.heap.size (fun _ => True) v364 x6_1) := ⟨by rw [← hq_]; exact z53_⟩; have n1_ : Aside0 (wr.heap[gb358]? = some (.cells #[.int .i64 a1_0, .slice A1_1 l1_1.length c1_1, .int .i64 a1_2, .int .i64 a1_3, .int .i64 a1_4] 78 (0, 0))) := ⟨by rw [← hq_]; exact z15_⟩; have n2_ : Aside0 (Below w.heap.size w wr) := ⟨by rw [← hq_]; exact z6_⟩; clear HO_6 BK358 HB hq_; have HO_6 := n0_; have BK358 := n1_; have HB := n2_; clear n0_ n1_ n2_)); obtain ⟨Ao37, co37, eo37⟩ := Kd.R_slice HO_6.out; subst eo37; have p372 : 0 ≤ (x11_1 : Int) := odt_; have q372 : x11_1 < (x6_1.length : Int) := odt_; obtain ⟨ad372, e372, hx372_0, hx372_1⟩ := at_T80 (Kd.R_reads' HO_6.out).2.2 x11_1 p372 q372; cases e372; replace p372 := eq_true p372; replace q372 := eq_true q372; have p36 : 0 ≤ (x11_1 : Int) := odt_; have q36 : (x11_1 : Int) < ((x6_1.length : Int) : Int) := odt_; obtain ⟨go36, co36, eo36, gb36, gl36, cl36, HG36⟩ := Kd.R_form HO_6.out (by omega); (first | cases eo36 | (injection eo36 with ea_ en_ ec_; (first | subst ea_ | (injection ea_ with ea_; subst ea_)); subst ec_; clear en_)); have GB36 := Aside0.mk gb36; have GG36 := Aside0.mk HG36; clear gb36 gl36 HG36; (first | simp only [add_plain] at hx372_0 | skip); (first | simp only [add_plain] at hx372_1 | skip); obtain ⟨ce36, hcl36, hM36, hcc36, hfr36⟩ := Kd.R_elem HO_6.out z80 (x11_1 : Int) p36 q36; obtain rfl := k80_openM hM36; have hx36_0 : wr.cell? ⟨go36, (x11_1 : Int).toNat * 2, none⟩ = some (.int .i64 ((rd_T80 x6_1 x11_1).f0)) := hcc36 0 _ rfl; have hx36_1 : wr.cell? ⟨go36, (x11_1 : Int).toNat * 2 + 1, none⟩ = some (.int .i64 ((rd_T80 x6_1 x11_1).f1)) := hcc36 1 _ rfl; have hf36_0 : wr.frozen? ⟨go36, (x11_1 : Int).toNat * 2, none⟩ = false := hfr36 0; have hf36_1 : wr.frozen? ⟨go36, (x11_1 : Int).toNat * 2 + 1, none⟩ = false := hfr36 1; clear hcl36 hcc36 hfr36 hM36; replace p36 := eq_true p36; replace q36 := eq_true q36; have HX38 := Aside0.mk (show Kd.R k80 80 wr w.heap.size (fun _ => True) (.slice (some ⟨go36, 0, none⟩) x6_1.length co37) x6_1 from z53_); obtain ⟨ce38, hcl38, hM38, hcc38, hfr38⟩ := Kd.R_elem HX38.out z80 (x11_1 : Int) (odt_) (by have h_ : (x11_1 : Int) < ((x6_1.length : Int) : Int) := odt_; first | exact h_ | (have e_ := (Kd.R_reads' HO_6.out).1; omega) | simpa using h_); obtain rfl := k80_openM hM38; have HP38 := Kd.R_seg HX38.out (x11_1 : Int) (odt_) (by have h_ : (x11_1 : Int) < ((x6_1.length : Int) : Int) := odt_; first | exact h_ | (have e_ := (Kd.R_reads' HO_6.out).1; omega) | simpa using h_) (seg := [.int .i64 (wrap64 (((rd_T80 x6_1 x11_1).f1) - 1))]) (j := 1) hcl38 hcc38 (show 2 ≤ 2 from by decide) (x' := (⟨(rd_T80 x6_1 x11_1).f0, wrap64 (((rd_T80 x6_1 x11_1).f1) - 1)⟩ : S80)) (k80_mkM _ _ _ (⟨(rd_T80 x6_1 x11_1).f0, wrap64 (((rd_T80 x6_1 x11_1).f1) - 1)⟩ : S80) ) (fun _ hk => hk); have hx38_1 := hcc38 1 _ rfl; (try simp only [show (k80).sz = 2 from rfl, Nat.mul_one, Nat.add_zero] at hx38_1); have hf38_1 := hfr38 1; (try simp only [show (k80).sz = 2 from rfl, Nat.mul_one, Nat.add_zero] at hf38_1); clear hcl38 hcc38 hfr38 hM38) | ((with_reducible refine gate_store (t := 3) (p := 90) rfl ?_); refine store_event (t := 3) (p := 90) (v := ?vo_w39) (w1 := (wr.setCell ⟨go36, (x11_1 : Int).toNat * 2 + 1, none⟩ (.int .i64 (wrap64 (((rd_T80 x6_1 x11_1).f1) - 1))))) ?hg ?ho ?hn ?hr ?_; (case ho => rfl); (case hg => rfl); (case hn => rfl); (case hr => exact z12_); intro w39 hw; have hg : wr.grownBy w39 (some go36) := (by rw [hw]; exact HP38.2); have hp_ : Kd.R k80 80 w39 w.heap.size (fun _ => True) (.slice (some ⟨go36, 0, none⟩) x6_1.length co37) y373 := (by rw [hw, Ny373.out]; exact HP38.1); clear HP38; replace BK358 := Aside0.mk (blk_grown (g := gb358) (o := .cells #[.int .i64 a1_0, .slice A1_1 l1_1.length c1_1, .int .i64 a1_2, .int .i64 a1_3, .int .i64 a1_4] 78 (0, 0)) z15_ hg (Kd.R_ne HO_6.out BK358.out (by decide))); replace HO_6 := Aside0.mk (hp_); replace HB := Aside0.mk ((by rw [hw]; exact below_set (HB.out) GB36.out : Below w.heap.size w w39)); clear hg hw hp_))
        go_roundg k1
        case measure => have := HK1.out; omega
        case rel => exact ⟨(y373), (wrap64 (x11_1 + 1)), z7_, H', ⟨z60_⟩, ⟨z53_⟩, ⟨z15_⟩, ⟨z6_⟩⟩
       ·rw [if_neg c33] at H
        have c33b0 : decide (x11_1 < t371) = false := decide_eq_false c33
        clear c33
        obtain ⟨t374, A40, H⟩ := bnd_ H
        simp only [Option.some.injEq, Prod.mk.injEq] at H
        obtain ⟨rfl, rfl⟩ := H
        go_wp2_with (first | ((with_reducible refine gate_callee (f := 97) rfl ?_); refine goesL_ (some 79) rfl rfl Try.func97 (by kernel_rfl) rfl #[.slice A0 l0.length c0, .int .i64 t366] rfl z1_ ?_; (with_reducible refine (impl_endOf.calls k1 _ _ l0 t366 t371 _ ?side1 ?side2 A32.out).mono ?_); (case side1 => exact z2_); (case side2 => exact HC0.out); rintro e w' ⟨rfl, ⟨nd, rfl⟩⟩; refine ⟨_, rfl, ?_⟩; obtain ⟨Ao41, co41, eo41⟩ := Kd.R_slice HO_6.out; subst eo41) | ((with_reducible refine gate_callee (f := 98) rfl ?_); refine goesL_ (some 95) rfl rfl Try.func98 (by kernel_rfl) rfl #[.slice Ao41 x6_1.length co41, .int .i64 t366, .int .i64 (wrap64 (t366 + 1))] rfl z1_ ?_; (with_reducible refine (slices_Delete_Node.calls (fun k_ => some k_ = (.slice Ao41 x6_1.length co41 : Value).ownBlock) (.slice Ao41 x6_1.length co41) x6_1 t366 (wrap64 (t366 + 1)) t374 w _ ?side1 ?side2 A40.out).mono ?_); (case side1 => exact z6_); (case side2 => exact Kd.R_tight rfl HO_6.out); rintro e w42 ⟨v375, rfl, ho0, hb, hkp⟩; refine ⟨_, rfl, ?_⟩; replace BK358 := Aside0.mk (blk_kept z15_ hkp (fun hs_ => (fun e_ => (Kd.R_ne HO_6.out BK358.out (by decide)) e_) hs_)); have HO376 := Aside0.mk (Kd.R_mono (ok' := fun k_ => True) ho0 (fun k_ hk_ => trivial)); replace HB := Aside0.mk (hb); clear HO_6; (try clear hb hkp ho0)))
        go_ret2
        exact ⟨_, z4_, by (with_reducible repeat (first | apply Kd.R_alloc | apply Kd.R_drewN | apply Kd.R_drew)); exact HO376.out, z6_⟩
    ·rw [if_neg c23] at H
     have c23b0 : (a1_0 == 2) = false := beq_eq_false_iff_ne.mpr c23
     have c23b1 : (a1_0 != 2) = true := bne_iff_ne.mpr c23
     have H' := Aside0.mk H
     clear H
     go_enter Try.func51, Try.ntmps51
     try go_wp2_with (first | ((with_reducible refine gate_dst (N := 3) rfl ?_); refine box_event ?hg (N := 3) ?hd (cs := #[.int .i64 a1_0, .slice A1_1 l1_1.length c1_1, .int .i64 a1_2, .int .i64 a1_3, .int .i64 a1_4]) (t := 78) ?hr ?_; (case hd => rfl); (case hg => rfl); (case hr => exact z12_); intro gb358 hg w43 hbox hb; have BK358 := Aside0.mk (hbox); have GW358 := Aside0.mk ((by rw [hg]; exact (below_size z0_) : w.heap.size ≤ gb358)); have GE358 := Aside0.mk ((by rw [hg]; exact (below_size z0_) : w.heap.size ≤ gb358)); replace HB := Aside0.mk (below_step z0_ hb); clear hb hbox hg) | ((with_reducible refine gate_callee (f := 50) rfl ?_); refine goesL_ (some 14) rfl rfl Try.func50 (by kernel_rfl) rfl #[.slice A0 l0.length c0] rfl z1_ ?_; (with_reducible refine (impl_TreeOk.calls k _ _ l0 true _ ?side1 ?side2 A3.out).mono ?_); (case side1 => exact z2_); (case side2 => exact HC0.out); rintro e w44 ⟨rfl, hb⟩; refine ⟨_, rfl, ?_⟩; replace BK358 := Aside0.mk (blk_below (g := gb358) (o := .cells #[.int .i64 a1_0, .slice A1_1 l1_1.length c1_1, .int .i64 a1_2, .int .i64 a1_3, .int .i64 a1_4] 78 (0, 0)) z15_ hb); replace HB := Aside0.mk (below_step z6_ hb); (try clear hb)))
     have n0_ := Aside0.mk (blk_drew BK358.out)
     have n1_ := Aside0.mk (below_drew1 HB.out)
     clear BK358
     clear HB
     have BK358 := n0_
     have HB := n1_
     clear n0_ n1_
     refine start_ (n := 8) (S := fun w' => w'.cell? ⟨gb358, 0, none⟩ = some (.int .i64 a1_0) ∧ w'.cell? ⟨gb358, 1, none⟩ = some (.slice A1_1 l1_1.length c1_1) ∧ w'.cell? ⟨gb358, 2, none⟩ = some (.int .i64 a1_2) ∧ w'.cell? ⟨gb358, 3, none⟩ = some (.int .i64 a1_3) ∧ w'.cell? ⟨gb358, 4, none⟩ = some (.int .i64 a1_4)) (ds := []) (fl_ 8 0) (by kernel_rfl) rfl (fl_zero _) ⟨(blk_cell BK358.out 0).trans rfl, (blk_cell BK358.out 1).trans rfl, (blk_cell BK358.out 2).trans rfl, (blk_cell BK358.out 3).trans rfl, (blk_cell BK358.out 4).trans rfl⟩ (fun hHeld => ?_); refine with_tabW impl_ApplyOp.tab3 impl_ApplyOp.bits3 (fun HT_ HW_ => ?_)
     generalize w44.drew = w45 at BK358 HB hHeld ⊢
     refine zp_ HT_ rfl rfl (by kernel_rfl) (fun _ _ _ h => h) (by rfl) ?_
     refine zpg_ (i := 2) (ra_ [1, 1, 1, 5]) HT_ rfl rfl (by kernel_rfl) (fun _ _ _ h => h) (by rfl) ?_
     refine zpg_ (i := 3) (ra_ [1, 1, 2, 4]) HT_ rfl rfl (by kernel_rfl) (fun _ _ _ h => h) (by rfl) ?_
     refine ztg_ (i := 4) (ra_ [1, 1, 3, 3]) HT_ HW_ rfl rfl (by kernel_rfl) (fun _ _ _ h => h) (by rfl) hHeld ?_ z122_
     refine one_ (i := 1) (N := some 18) (fl_ 8 5) rfl rfl (one_of HT_.out (by kernel_rfl)) (by decide) (fun K hK => ?_)
     refine goes_ Try.func75 (by kernel_rfl) rfl #[.slice A0 l0.length c0] (by rfl) rfl rfl z1_ ?_
     with_reducible refine (slices_Clone_Node.calls _ _ l0 t363 _ ?side1 ?side2 A5.out).mono ?_
     (case side1 => exact z2_)
     (case side2 => exact HC0.out)
     rintro e w46 ⟨v364, rfl, ho0, hb⟩
     refine ⟨_, rfl, ?_⟩
     have n0_ := Aside0.mk (Kd.R_lower ho0 (below_size z6_))
     have n1_ := Aside0.mk (blk_below (g := gb358) (o := .cells #[.int .i64 a1_0, .slice A1_1 l1_1.length c1_1, .int .i64 a1_2, .int .i64 a1_3, .int .i64 a1_4] 78 (0, 0)) z15_ hb)
     have n2_ := Aside0.mk (below_step z6_ hb)
     clear BK358
     clear HB
     have HO365 := n0_
     have BK358 := n1_
     have HB := n2_
     clear n0_ n1_ n2_
     (try clear hb)
     (try clear hb2)
     (try clear hk)
     (try clear hi)
     (try clear ho0)
     refine hK.out _ _ ⟨(blk_cell BK358.out 0).trans rfl, (blk_cell BK358.out 1).trans rfl, (blk_cell BK358.out 2).trans rfl, (blk_cell BK358.out 3).trans rfl, (blk_cell BK358.out 4).trans rfl⟩ (fun hHeld => ?_)
     clear hK K
     refine zn_ rfl ?_
     refine one_ (i := 5) (N := some 22) (fl_ 8 6) rfl rfl (one_of HT_.out (by kernel_rfl)) (by decide) (fun K hK => ?_)
     refine goes_ Try.func78 (by kernel_rfl) rfl #[.slice A0 l0.length c0, .slice A1_1 l1_1.length c1_1] (by rfl) rfl rfl z1_ ?_
     with_reducible refine (impl_NodeAt.calls k _ _ l0 _ _ l1_1 t366 _ ?side1 ?side2 ?side3 ?side4 A6.out).mono ?_
     (case side1 => exact z2_)
     (case side2 => exact HC0.out)
     (case side3 => exact z14_)
     (case side4 => exact HC1_1.out)
     rintro e w47 ⟨rfl, hb⟩
     refine ⟨_, rfl, ?_⟩
     have n0_ := Aside0.mk (Kd.R_below z32_ hb)
     have n1_ := Aside0.mk (blk_below (g := gb358) (o := .cells #[.int .i64 a1_0, .slice A1_1 l1_1.length c1_1, .int .i64 a1_2, .int .i64 a1_3, .int .i64 a1_4] 78 (0, 0)) z15_ hb)
     have n2_ := Aside0.mk (below_step z6_ hb)
     clear HO365
     clear BK358
     clear HB
     have HO365 := n0_
     have BK358 := n1_
     have HB := n2_
     clear n0_ n1_ n2_
     (try clear hb)
     (try clear hb2)
     (try clear hk)
     (try clear hi)
     refine hK.out _ _ ⟨(blk_cell BK358.out 0).trans rfl, (blk_cell BK358.out 1).trans rfl, (blk_cell BK358.out 2).trans rfl, (blk_cell BK358.out 3).trans rfl, (blk_cell BK358.out 4).trans rfl⟩ (fun hHeld => ?_)
     clear hK K
     refine zn_ rfl ?_
     iterate 2 refine zp_ HT_ rfl rfl (by kernel_rfl) (fun _ _ _ h => h) (by rfl) ?_
     refine done_ (done_of HT_.out (by kernel_rfl)) ?_
     have hcz48_0 : w47.cell? ⟨gb358, 0, none⟩ = some (.int .i64 a1_0) := (blk_cell BK358.out 0).trans rfl
     have hcz48_1 : w47.cell? ⟨gb358, 1, none⟩ = some (.slice A1_1 l1_1.length c1_1) := (blk_cell BK358.out 1).trans rfl
     have hcz48_2 : w47.cell? ⟨gb358, 2, none⟩ = some (.int .i64 a1_2) := (blk_cell BK358.out 2).trans rfl
     have hcz48_3 : w47.cell? ⟨gb358, 3, none⟩ = some (.int .i64 a1_3) := (blk_cell BK358.out 3).trans rfl
     have hcz48_4 : w47.cell? ⟨gb358, 4, none⟩ = some (.int .i64 a1_4) := (blk_cell BK358.out 4).trans rfl
     have hfz48_0 := blk_frozen BK358.out 0
     have hfz48_1 := blk_frozen BK358.out 1
     have hfz48_2 := blk_frozen BK358.out 2
     have hfz48_3 := blk_frozen BK358.out 3
     have hfz48_4 := blk_frozen BK358.out 4
     try go_wp2_with (first | ((with_reducible refine gate_callee (f := 96) rfl ?_); refine goesL_ (some 27) rfl rfl Try.func96 (by kernel_rfl) rfl #[.slice A0 l0.length c0, .agg #[.int .i64 a1_0, .slice A1_1 l1_1.length c1_1, .int .i64 a1_2, .int .i64 a1_3, .int .i64 a1_4], .int .i64 t366] rfl z1_ ?_; (with_reducible refine (impl_opCode.calls k _ _ l0 a1_0 _ _ l1_1 a1_2 a1_3 a1_4 t366 t367 t368 t369 _ ?side1 ?side2 ?side3 ?side4 A7.out).mono ?_); (case side1 => exact z2_); (case side2 => exact HC0.out); (case side3 => exact z14_); (case side4 => exact HC1_1.out); rintro e w49 ⟨rfl, hb⟩; refine ⟨_, rfl, ?_⟩; replace HO365 := Aside0.mk (Kd.R_below z32_ hb); replace BK358 := Aside0.mk (blk_below (g := gb358) (o := .cells #[.int .i64 a1_0, .slice A1_1 l1_1.length c1_1, .int .i64 a1_2, .int .i64 a1_3, .int .i64 a1_4] 78 (0, 0)) z15_ hb); replace HB := Aside0.mk (below_step z6_ hb); (try clear hb); have hcz50_0 : w49.cell? ⟨gb358, 0, none⟩ = some (.int .i64 a1_0) := (blk_cell BK358.out 0).trans rfl; have hcz50_1 : w49.cell? ⟨gb358, 1, none⟩ = some (.slice A1_1 l1_1.length c1_1) := (blk_cell BK358.out 1).trans rfl; have hcz50_2 : w49.cell? ⟨gb358, 2, none⟩ = some (.int .i64 a1_2) := (blk_cell BK358.out 2).trans rfl; have hcz50_3 : w49.cell? ⟨gb358, 3, none⟩ = some (.int .i64 a1_3) := (blk_cell BK358.out 3).trans rfl; have hcz50_4 : w49.cell? ⟨gb358, 4, none⟩ = some (.int .i64 a1_4) := (blk_cell BK358.out 4).trans rfl; have hfz50_0 := blk_frozen BK358.out 0; have hfz50_1 := blk_frozen BK358.out 1; have hfz50_2 := blk_frozen BK358.out 2; have hfz50_3 := blk_frozen BK358.out 3; have hfz50_4 := blk_frozen BK358.out 4))
     go_loopg [12] k (fun kq v12 w' => ∃ (x6_1 : List (S80)) (x12_1 : Int), v12 = .int .i64 x12_1 ∧ Aside0 (impl_ApplyOp.l1 kq l0 x6_1 t366 t368 t369 x12_1 a1_0 l1_1 a1_2 a1_3 a1_4 = some (r1, r2)) ∧ Aside0 (kq ≤ k) ∧ Aside0 (Kd.R k80 80 w' w.heap.size (fun _ => True) v364 x6_1) ∧ Aside0 (w'.heap[gb358]? = some (.cells #[.int .i64 a1_0, (.slice A1_1 l1_1.length c1_1), .int .i64 a1_2, .int .i64 a1_3, .int .i64 a1_4] 78 (0, 0))) ∧ Aside0 (Below w.heap.size w w'))
     case atStart => exact ⟨(t363), (t368), z7_, H', ⟨Nat.le_refl _⟩, ⟨z32_⟩, ⟨z15_⟩, ⟨z6_⟩⟩
     case round =>
      clear H'
      try clear c1
      try clear p1
      try clear q1
      try clear hx1
      try clear c2
      try clear p2
      try clear hx2
      try clear hf2
      try clear c3
      try clear p3
      try clear q3
      try clear hx3
      try clear hf3
      try clear c4
      try clear c5
      try clear p6
      try clear c7
      try clear c8
      try clear c8b0
      try clear c8b1
      try clear c9
      try clear c9b0
      try clear c9b1
      try clear c10
      try clear c10b0
      try clear c11
      try clear c11b0
      try clear c12
      try clear p12
      try clear q12
      try clear hx12
      try clear hf12
      try clear c21
      try clear hx21
      try clear hf21
      try clear c23
      try clear c23b0
      try clear c23b1
      try clear c33
      try clear c33b0
      try clear c34
      try clear c34b0
      try clear c35
      try clear c35b0
      try clear c36
      try clear p36
      try clear q36
      try clear hx36
      try clear hf36
      try clear p37
      try clear q37
      try clear hx37
      try clear c38
      try clear hx38
      try clear hf38
      try clear c50
      try clear hcz18_0
      try clear hcz18_1
      try clear hcz18_2
      try clear hcz18_3
      try clear hcz18_4
      try clear hcz20_0
      try clear hcz20_1
      try clear hcz20_2
      try clear hcz20_3
      try clear hcz20_4
      try clear hcz29_0
      try clear hcz29_1
      try clear hcz29_2
      try clear hcz29_3
      try clear hcz29_4
      try clear hcz31_0
      try clear hcz31_1
      try clear hcz31_2
      try clear hcz31_3
      try clear hcz31_4
      try clear hcz48_0
      try clear hcz48_1
      try clear hcz48_2
      try clear hcz48_3
      try clear hcz48_4
      try clear hcz50_0
      try clear hcz50_1
      try clear hcz50_2
      try clear hcz50_3
      try clear hcz50_4
      try clear hfz18_0
      try clear hfz18_1
      try clear hfz18_2
      try clear hfz18_3
      try clear hfz18_4
      try clear hfz20_0
      try clear hfz20_1
      try clear hfz20_2
      try clear hfz20_3
      try clear hfz20_4
      try clear hfz29_0
      try clear hfz29_1
      try clear hfz29_2
      try clear hfz29_3
      try clear hfz29_4
      try clear hfz31_0
      try clear hfz31_1
      try clear hfz31_2
      try clear hfz31_3
      try clear hfz31_4
      try clear hfz48_0
      try clear hfz48_1
      try clear hfz48_2
      try clear hfz48_3
      try clear hfz48_4
      try clear hfz50_0
      try clear hfz50_1
      try clear hfz50_2
      try clear hfz50_3
      try clear hfz50_4
      try clear hx12_0
      try clear hx12_1
      try clear hx21_0
      try clear hx36_0
      try clear hx36_1
      try clear hx372_0
      try clear hx372_1
      try clear hx38_1
      try clear p1
      try clear p12
      try clear p2
      try clear p36
      try clear p372
      try clear p6
      try clear q1
      try clear q12
      try clear q36
      try clear q372
      obtain ⟨x6_1, x12_1, rfl, HA, HK1, HO_6, BK358, HB⟩ := hrel
      cases gk with
      | zero => exact absurd HA.out (by simp [impl_ApplyOp.l1])
      | succ k1 =>
       have H := HA.out
       clear HA
       simp only [impl_ApplyOp.l1] at H
       by_cases c51 : x12_1 < t369
       ·rw [if_pos c51] at H
        have c51b0 : decide (x12_1 < t369) = true := decide_eq_true c51
        clear c51
        obtain ⟨c52b0, H⟩ := ifd_ H
        obtain ⟨c53b0, H⟩ := ifd_ H
        obtain ⟨y378, hy378⟩ : ∃ y_ : List (S80), y_ = (x6_1.set (x12_1 : Int).toNat (⟨(rd_T80 x6_1 x12_1).f0, wrap64 (((rd_T80 x6_1 x12_1).f1) + 1)⟩ : S80)) := ⟨_, rfl⟩
        replace H : (impl_ApplyOp.l1 k1 l0 y378 t366 t368 t369 (wrap64 (x12_1 + 1)) a1_0 l1_1 a1_2 a1_3 a1_4) = some (r1, r2) := by first | (rw [hy378]; with_reducible exact H) | (have H2_ := (Option.bind_some _ _).symm.trans H; rw [hy378]; with_reducible exact H2_) | (have H2_ := (Option.bind_some _ _).symm.trans H; with_reducible exact H2_) | with_reducible exact H | (rw [hy378]; exact H) | exact H
        have Ny378 := Aside0.mk hy378
        clear hy378
        have H' := Aside0.mk H
        clear H
        obtain ⟨Ao55, co55, eo55⟩ := Kd.R_slice HO_6.out
        subst eo55
        have p377 : 0 ≤ (x12_1 : Int) := odt_
        have q377 : x12_1 < (x6_1.length : Int) := odt_
        obtain ⟨ad377, e377, hx377_0, hx377_1⟩ := at_T80 (Kd.R_reads' HO_6.out).2.2 x12_1 p377 q377
        cases e377
        replace p377 := eq_true p377
        replace q377 := eq_true q377
        have p54 : 0 ≤ (x12_1 : Int) := odt_
        have q54 : (x12_1 : Int) < ((x6_1.length : Int) : Int) := odt_
        obtain ⟨go54, co54, eo54, gb54, gl54, cl54, HG54⟩ := Kd.R_form HO_6.out (by omega)
        (first | cases eo54 | (injection eo54 with ea_ en_ ec_; (first | subst ea_ | (injection ea_ with ea_; subst ea_)); subst ec_; clear en_))
        have GB54 := Aside0.mk gb54
        have GG54 := Aside0.mk HG54
        clear gb54 gl54 HG54
        (first | simp only [add_plain] at hx377_0 | skip)
        (first | simp only [add_plain] at hx377_1 | skip)
        obtain ⟨ce54, hcl54, hM54, hcc54, hfr54⟩ := Kd.R_elem HO_6.out z80 (x12_1 : Int) p54 q54
        obtain rfl := k80_openM hM54
        have hx54_0 : wr.cell? ⟨go54, (x12_1 : Int).toNat * 2, none⟩ = some (.int .i64 ((rd_T80 x6_1 x12_1).f0)) := hcc54 0 _ rfl
        have hx54_1 : wr.cell? ⟨go54, (x12_1 : Int).toNat * 2 + 1, none⟩ = some (.int .i64 ((rd_T80 x6_1 x12_1).f1)) := hcc54 1 _ rfl
        have hf54_0 : wr.frozen? ⟨go54, (x12_1 : Int).toNat * 2, none⟩ = false := hfr54 0
        have hf54_1 : wr.frozen? ⟨go54, (x12_1 : Int).toNat * 2 + 1, none⟩ = false := hfr54 1
        clear hcl54 hcc54 hfr54 hM54
        replace p54 := eq_true p54
        replace q54 := eq_true q54
        have HX56 := Aside0.mk (show Kd.R k80 80 wr w.heap.size (fun _ => True) (.slice (some ⟨go54, 0, none⟩) x6_1.length co55) x6_1 from z53_)
        obtain ⟨ce56, hcl56, hM56, hcc56, hfr56⟩ := Kd.R_elem HX56.out z80 (x12_1 : Int) (odt_) (by have h_ : (x12_1 : Int) < ((x6_1.length : Int) : Int) := odt_; first | exact h_ | (have e_ := (Kd.R_reads' HO_6.out).1; omega) | simpa using h_)
        obtain rfl := k80_openM hM56
        have HP56 := Kd.R_seg HX56.out (x12_1 : Int) (odt_) (by have h_ : (x12_1 : Int) < ((x6_1.length : Int) : Int) := odt_; first | exact h_ | (have e_ := (Kd.R_reads' HO_6.out).1; omega) | simpa using h_) (seg := [.int .i64 (wrap64 (((rd_T80 x6_1 x12_1).f1) + 1))]) (j := 1) hcl56 hcc56 (show 2 ≤ 2 from by decide) (x' := (⟨(rd_T80 x6_1 x12_1).f0, wrap64 (((rd_T80 x6_1 x12_1).f1) + 1)⟩ : S80)) (k80_mkM _ _ _ (⟨(rd_T80 x6_1 x12_1).f0, wrap64 (((rd_T80 x6_1 x12_1).f1) + 1)⟩ : S80) ) (fun _ hk => hk)
        have hx56_1 := hcc56 1 _ rfl
        (try simp only [show (k80).sz = 2 from rfl, Nat.mul_one, Nat.add_zero] at hx56_1)
        have hf56_1 := hfr56 1
        (try simp only [show (k80).sz = 2 from rfl, Nat.mul_one, Nat.add_zero] at hf56_1)
        clear hcl56 hcc56 hfr56 hM56
        go_wp2_with (first | ((with_reducible refine gate_store (t := 3) (p := 50) rfl ?_); refine store_event (t := 3) (p := 50) (v := ?vo_w57) (w1 := (wr.setCell ⟨go54, (x12_1 : Int).toNat * 2 + 1, none⟩ (.int .i64 (wrap64 (((rd_T80 x6_1 x12_1).f1) + 1))))) ?hg ?ho ?hn ?hr ?_; (case ho => rfl); (case hg => rfl); (case hn => rfl); (case hr => exact z12_); intro w57 hw; have hg : wr.grownBy w57 (some go54) := (by rw [hw]; exact HP56.2); have hp_ : Kd.R k80 80 w57 w.heap.size (fun _ => True) (.slice (some ⟨go54, 0, none⟩) x6_1.length co55) y378 := (by rw [hw, Ny378.out]; exact HP56.1); clear HP56; replace BK358 := Aside0.mk (blk_grown (g := gb358) (o := .cells #[.int .i64 a1_0, .slice A1_1 l1_1.length c1_1, .int .i64 a1_2, .int .i64 a1_3, .int .i64 a1_4] 78 (0, 0)) z15_ hg (Kd.R_ne HO_6.out BK358.out (by decide))); replace HO_6 := Aside0.mk (hp_); replace HB := Aside0.mk ((by rw [hw]; exact below_set (HB.out) GB54.out : Below w.heap.size w w57)); clear hg hw hp_))
        go_roundg k1
        case measure => have := HK1.out; omega
        case rel => exact ⟨(y378), (wrap64 (x12_1 + 1)), z7_, H', ⟨z60_⟩, ⟨z53_⟩, ⟨z15_⟩, ⟨z6_⟩⟩
       ·rw [if_neg c51] at H
        have c51b0 : decide (x12_1 < t369) = false := decide_eq_false c51
        clear c51
        obtain ⟨c58b0, H⟩ := ifd_ H
        obtain ⟨c59b0, H⟩ := ifd_ H
        obtain ⟨y380, hy380⟩ : ∃ y_ : List (S80), y_ = (([(⟨a1_2, wrap64 (((rd_T80 l0 t366).f1) + 1)⟩ : S80)] : List (S80))) := ⟨_, rfl⟩
        replace H : ((slices_Insert_Node.f x6_1 t368 y380).bind fun t383 => (some (t383, 0))) = some (r1, r2) := by first | (rw [hy380]; with_reducible exact H) | (have H2_ := (Option.bind_some _ _).symm.trans H; rw [hy380]; with_reducible exact H2_) | (have H2_ := (Option.bind_some _ _).symm.trans H; with_reducible exact H2_) | with_reducible exact H | (rw [hy380]; exact H) | exact H
        have Ny380 := Aside0.mk hy380
        clear hy380
        obtain ⟨t383, A60, H⟩ := bnd_ H
        simp only [Option.some.injEq, Prod.mk.injEq] at H
        obtain ⟨rfl, rfl⟩ := H
        try go_wp2
        have n0_ := Aside0.mk (Kd.R_drew HO_6.out)
        have n1_ := Aside0.mk (blk_drew BK358.out)
        have n2_ := Aside0.mk (below_drew1 HB.out)
        clear HO_6
        clear BK358
        clear HB
        have HO_6 := n0_
        have BK358 := n1_
        have HB := n2_
        clear n0_ n1_ n2_
        obtain ⟨p379, q379, ad379, e379, hw379_0, hw379_1, hx379_0, hx379_1⟩ := atw80_ HR0 HB t366
        cases e379
        refine start_ (n := 14) (S := fun w' => w'.cell? ⟨gb358, 0, none⟩ = some (.int .i64 a1_0) ∧ w'.cell? ⟨gb358, 1, none⟩ = some (.slice A1_1 l1_1.length c1_1) ∧ w'.cell? ⟨gb358, 2, none⟩ = some (.int .i64 a1_2) ∧ w'.cell? ⟨gb358, 3, none⟩ = some (.int .i64 a1_3) ∧ w'.cell? ⟨gb358, 4, none⟩ = some (.int .i64 a1_4) ∧ w'.cell? (ad379.add ((t366).toNat * 2)) = some (.int .i64 ((rd_T80 l0 t366).f0)) ∧ w'.cell? ⟨(ad379.add ((t366).toNat * 2)).block, (ad379.add ((t366).toNat * 2)).off + 1, none⟩ = some (.int .i64 ((rd_T80 l0 t366).f1))) (ds := []) (fl_ 14 0) (by kernel_rfl) rfl (fl_zero _) ⟨(blk_cell BK358.out 0).trans rfl, (blk_cell BK358.out 1).trans rfl, (blk_cell BK358.out 2).trans rfl, (blk_cell BK358.out 3).trans rfl, (blk_cell BK358.out 4).trans rfl, ((HB.out.cell (World.block_lt_of_cell? w _ hw379_0)).trans hw379_0), ((HB.out.cell (World.block_lt_of_cell? w _ hw379_1)).trans hw379_1)⟩ (fun hHeld => ?_); refine with_tabW impl_ApplyOp.tab12 impl_ApplyOp.bits12 (fun HT_ HW_ => ?_)
        generalize wr.drew = w61 at HO_6 BK358 HB hx379_0 hx379_1 hHeld ⊢
        iterate 3 refine zp_ HT_ rfl rfl (by kernel_rfl) (fun _ _ _ h => h) (by rfl) ?_
        refine zpg_ (i := 4) (ra_ [3, 1, 1, 9]) HT_ rfl rfl (by kernel_rfl) (fun _ _ _ h => h) (by rfl) ?_
        refine zpg_ (i := 5) (ra_ [3, 1, 2, 8]) HT_ rfl rfl (by kernel_rfl) (fun _ _ _ h => h) (by rfl) ?_
        refine zpg_ (i := 6) (ra_ [3, 1, 3, 7]) HT_ rfl rfl (by kernel_rfl) (fun _ _ _ h => h) (by rfl) ?_
        refine zpg_ (i := 7) (ra_ [3, 1, 4, 6]) HT_ rfl rfl (by kernel_rfl) (fun _ _ _ h => h) (by rfl) ?_
        refine ztg_ (i := 3) (fl_ 14 8) HT_ HW_ rfl rfl (by kernel_rfl) (fun _ _ _ h => h) (by rfl) hHeld ?_ z120_
        refine zt_ HT_ HW_ rfl rfl (by kernel_rfl) (fun _ _ _ h => h) (by rfl) hHeld ?_ z120_
        iterate 2 refine zp_ HT_ rfl rfl (by kernel_rfl) (fun _ _ _ h => h) (by rfl) ?_
        refine one_ (i := 11) (N := some 62) (fl_ 14 12) rfl rfl (one_of HT_.out (by kernel_rfl)) (by decide) (fun K hK => ?_)
        refine Kd.R_lit_step k80 _ 80 ?hg (N := 62) ?hd (xs := ([(⟨a1_2, wrap64 (((rd_T80 l0 t366).f1) + 1)⟩ : S80)] : List (S80))) (inner := [.int .i64 a1_2, .int .i64 (wrap64 (((rd_T80 l0 t366).f1) + 1))]) (ok := fun _ => True) (okp := fun _ => True) ?hr ?hp (fun _ hk => hk) trivial (Below.refl _ _) (Nat.le_refl _) (by simp) ?_; (case hd => rfl); (case hg => rfl); (case hr => exact z12_); (case hp => exact (Reps.c2 (show Kd.M k80 _ _ _ (⟨a1_2, wrap64 (((rd_T80 l0 t366).f1) + 1)⟩ : S80) [.int .i64 a1_2, .int .i64 (wrap64 (((rd_T80 l0 t366).f1) + 1))] from (k80_mkM _ _ _ (⟨a1_2, wrap64 (((rd_T80 l0 t366).f1) + 1)⟩ : S80) )) (Reps.none _ _)))
        intro v381 w62 ho63 hb hg_ hnew_
        clear hg_ hnew_
        (first | rw [← Ny380.out] at ho63 | (simp only [Int.reduceToNat] at ho63; rw [← Ny380.out] at ho63))
        have n0_ := Aside0.mk (Kd.R_elder' z53_ (Kd.R_base ho63) hb)
        have n1_ := Aside0.mk (Kd.R_lower (Kd.R_new' ho63 (Kd.R_lt z53_)) (below_size z6_))
        have n2_ := Aside0.mk (blk_below (g := gb358) (o := .cells #[.int .i64 a1_0, .slice A1_1 l1_1.length c1_1, .int .i64 a1_2, .int .i64 a1_3, .int .i64 a1_4] 78 (0, 0)) z15_ hb)
        have n3_ := Aside0.mk (below_step z6_ hb)
        clear HO_6
        clear BK358
        clear HB
        have HO_6 := n0_
        have HO382 := n1_
        have BK358 := n2_
        have HB := n3_
        clear n0_ n1_ n2_ n3_
        clear hb ho63
        obtain ⟨Ao64, co64, eo64⟩ := Kd.R_slice HO_6.out
        (first | subst eo64 | (injection eo64 with f1_ f2_ f3_; have f4_ := f1_.symm; have f5_ := f3_.symm; clear f1_ f2_ f3_; subst f4_; subst f5_))
        obtain ⟨Ao65, co65, eo65⟩ := Kd.R_slice HO382.out
        (first | subst eo65 | (injection eo65 with f1_ f2_ f3_; have f4_ := f1_.symm; have f5_ := f3_.symm; clear f1_ f2_ f3_; subst f4_; subst f5_))
        refine hK.out _ _ ⟨(blk_cell BK358.out 0).trans rfl, (blk_cell BK358.out 1).trans rfl, (blk_cell BK358.out 2).trans rfl, (blk_cell BK358.out 3).trans rfl, (blk_cell BK358.out 4).trans rfl, ((HB.out.cell (World.block_lt_of_cell? w _ hw379_0)).trans hw379_0), ((HB.out.cell (World.block_lt_of_cell? w _ hw379_1)).trans hw379_1)⟩ (fun hHeld => ?_)
        clear hK K
        refine zn_ rfl ?_
        refine one_ (i := 12) (N := some 63) (fl_ 14 13) rfl rfl (one_of HT_.out (by kernel_rfl)) (by decide) (fun K hK => ?_)
        refine goes_ Try.func99 (by kernel_rfl) rfl #[.slice Ao64 x6_1.length co64, .int .i64 t368, .slice Ao65 y380.length co65] (by rfl) rfl rfl z1_ ?_
        with_reducible refine (slices_Insert_Node.calls (fun k_ => some k_ = (.slice Ao64 x6_1.length co64 : Value).ownBlock) (.slice Ao64 x6_1.length co64) x6_1 t368 _ _ y380 t383 w _ ?side1 ?side2 ?side3 ?side4 A60.out).mono ?_
        (case side1 => exact z6_)
        (case side2 => exact Kd.R_tight rfl HO_6.out)
        (case side3 => exact ⟨_, _, HO382.out, fun k_ hk_ hs_ => (hk_.2) hs_⟩)
        (case side4 => exact (Kd.R_reads' HO382.out).2.1)
        rintro e w66 ⟨v384, rfl, ho0, hb, hkp⟩
        refine ⟨_, rfl, ?_⟩
        have n0_ := Aside0.mk (blk_kept z15_ hkp (fun hs_ => (fun e_ => (Kd.R_ne HO_6.out BK358.out (by decide)) e_) hs_))
        have n1_ := Aside0.mk (Kd.R_mono (ok' := fun k_ => some k_ ≠ (v384 : Value).ownBlock) (Kd.R_keptB (HO382.out) hkp (fun k_ hk_ hs_ => (hk_.2) hs_)) (fun k_ hk_ => fun e_ => Or.elim (ho0.1 k_ e_.symm) (fun hs_ => hk_.2.1 hs_) (fun hn_ => Nat.not_le.2 hk_.2.2 hn_)))
        have n2_ := Aside0.mk (Kd.R_mono (ok' := fun k_ => some k_ ≠ (.slice Ao65 y380.length co65 : Value).ownBlock) ho0 (fun k_ hk_ => Or.elim hk_ (fun hs_ => fun e_ => (((HO382.out).1 k_ e_.symm).2) hs_) (fun hn_ => (Kd.fresh' (Kd.R_lt (by (with_reducible repeat (first | apply Kd.R_alloc | apply Kd.R_drewN | apply Kd.R_drew)); exact HO382.out)) k_ hn_))))
        have n3_ := Aside0.mk (hb)
        clear BK358
        clear HO382
        clear HB
        clear HO_6
        have BK358 := n0_
        have HO382 := n1_
        have HO385 := n2_
        have HB := n3_
        clear n0_ n1_ n2_ n3_
        (try clear hb)
        (try clear hkp)
        (try clear ho0)
        refine hK.out _ _ ⟨(blk_cell BK358.out 0).trans rfl, (blk_cell BK358.out 1).trans rfl, (blk_cell BK358.out 2).trans rfl, (blk_cell BK358.out 3).trans rfl, (blk_cell BK358.out 4).trans rfl, ((HB.out.cell (World.block_lt_of_cell? w _ hw379_0)).trans hw379_0), ((HB.out.cell (World.block_lt_of_cell? w _ hw379_1)).trans hw379_1)⟩ (fun hHeld => ?_)
        clear hK K
        refine zn_ rfl ?_
        refine zp_ HT_ rfl rfl (by kernel_rfl) (fun _ _ _ h => h) (by rfl) ?_
        refine done_ (done_of HT_.out (by kernel_rfl)) ?_
        try go_wp2
        go_ret2
        exact ⟨_, z4_, by (with_reducible repeat (first | apply Kd.R_alloc | apply Kd.R_drewN | apply Kd.R_drew)); exact Kd.R_mono HO385.out (fun _ hk => trivial), z6_⟩
  ·rw [if_neg c8] at H
   have c8b0 : (t367 == 0) = false := beq_eq_false_iff_ne.mpr c8
   have c8b1 : (t367 != 0) = true := bne_iff_ne.mpr c8
   simp only [Option.some.injEq, Prod.mk.injEq] at H
   obtain ⟨rfl, rfl⟩ := H
   go_enter Try.func51, Try.ntmps51
   try go_wp2_with (first | ((with_reducible refine gate_dst (N := 3) rfl ?_); refine box_event ?hg (N := 3) ?hd (cs := #[.int .i64 a1_0, .slice A1_1 l1_1.length c1_1, .int .i64 a1_2, .int .i64 a1_3, .int .i64 a1_4]) (t := 78) ?hr ?_; (case hd => rfl); (case hg => rfl); (case hr => exact z12_); intro gb358 hg w67 hbox hb; have BK358 := Aside0.mk (hbox); have GW358 := Aside0.mk ((by rw [hg]; exact (below_size z0_) : w.heap.size ≤ gb358)); have GE358 := Aside0.mk ((by rw [hg]; exact (below_size z0_) : w.heap.size ≤ gb358)); replace HB := Aside0.mk (below_step z0_ hb); clear hb hbox hg) | ((with_reducible refine gate_callee (f := 50) rfl ?_); refine goesL_ (some 14) rfl rfl Try.func50 (by kernel_rfl) rfl #[.slice A0 l0.length c0] rfl z1_ ?_; (with_reducible refine (impl_TreeOk.calls k _ _ l0 true _ ?side1 ?side2 A3.out).mono ?_); (case side1 => exact z2_); (case side2 => exact HC0.out); rintro e w68 ⟨rfl, hb⟩; refine ⟨_, rfl, ?_⟩; replace BK358 := Aside0.mk (blk_below (g := gb358) (o := .cells #[.int .i64 a1_0, .slice A1_1 l1_1.length c1_1, .int .i64 a1_2, .int .i64 a1_3, .int .i64 a1_4] 78 (0, 0)) z15_ hb); replace HB := Aside0.mk (below_step z6_ hb); (try clear hb)))
   have n0_ := Aside0.mk (blk_drew BK358.out)
   have n1_ := Aside0.mk (below_drew1 HB.out)
   clear BK358
   clear HB
   have BK358 := n0_
   have HB := n1_
   clear n0_ n1_
   refine start_ (n := 8) (S := fun w' => w'.cell? ⟨gb358, 0, none⟩ = some (.int .i64 a1_0) ∧ w'.cell? ⟨gb358, 1, none⟩ = some (.slice A1_1 l1_1.length c1_1) ∧ w'.cell? ⟨gb358, 2, none⟩ = some (.int .i64 a1_2) ∧ w'.cell? ⟨gb358, 3, none⟩ = some (.int .i64 a1_3) ∧ w'.cell? ⟨gb358, 4, none⟩ = some (.int .i64 a1_4)) (ds := []) (fl_ 8 0) (by kernel_rfl) rfl (fl_zero _) ⟨(blk_cell BK358.out 0).trans rfl, (blk_cell BK358.out 1).trans rfl, (blk_cell BK358.out 2).trans rfl, (blk_cell BK358.out 3).trans rfl, (blk_cell BK358.out 4).trans rfl⟩ (fun hHeld => ?_); refine with_tabW impl_ApplyOp.tab3 impl_ApplyOp.bits3 (fun HT_ HW_ => ?_)
   generalize w68.drew = w69 at BK358 HB hHeld ⊢
   refine zp_ HT_ rfl rfl (by kernel_rfl) (fun _ _ _ h => h) (by rfl) ?_
   refine zpg_ (i := 2) (ra_ [1, 1, 1, 5]) HT_ rfl rfl (by kernel_rfl) (fun _ _ _ h => h) (by rfl) ?_
   refine zpg_ (i := 3) (ra_ [1, 1, 2, 4]) HT_ rfl rfl (by kernel_rfl) (fun _ _ _ h => h) (by rfl) ?_
   refine ztg_ (i := 4) (ra_ [1, 1, 3, 3]) HT_ HW_ rfl rfl (by kernel_rfl) (fun _ _ _ h => h) (by rfl) hHeld ?_ z122_
   refine one_ (i := 1) (N := some 18) (fl_ 8 5) rfl rfl (one_of HT_.out (by kernel_rfl)) (by decide) (fun K hK => ?_)
   refine goes_ Try.func75 (by kernel_rfl) rfl #[.slice A0 l0.length c0] (by rfl) rfl rfl z1_ ?_
   with_reducible refine (slices_Clone_Node.calls _ _ l0 t363 _ ?side1 ?side2 A5.out).mono ?_
   (case side1 => exact z2_)
   (case side2 => exact HC0.out)
   rintro e w70 ⟨v364, rfl, ho0, hb⟩
   refine ⟨_, rfl, ?_⟩
   have n0_ := Aside0.mk (Kd.R_lower ho0 (below_size z6_))
   have n1_ := Aside0.mk (blk_below (g := gb358) (o := .cells #[.int .i64 a1_0, .slice A1_1 l1_1.length c1_1, .int .i64 a1_2, .int .i64 a1_3, .int .i64 a1_4] 78 (0, 0)) z15_ hb)
   have n2_ := Aside0.mk (below_step z6_ hb)
   clear BK358
   clear HB
   have HO365 := n0_
   have BK358 := n1_
   have HB := n2_
   clear n0_ n1_ n2_
   (try clear hb)
   (try clear hb2)
   (try clear hk)
   (try clear hi)
   (try clear ho0)
   refine hK.out _ _ ⟨(blk_cell BK358.out 0).trans rfl, (blk_cell BK358.out 1).trans rfl, (blk_cell BK358.out 2).trans rfl, (blk_cell BK358.out 3).trans rfl, (blk_cell BK358.out 4).trans rfl⟩ (fun hHeld => ?_)
   clear hK K
   refine zn_ rfl ?_
   refine one_ (i := 5) (N := some 22) (fl_ 8 6) rfl rfl (one_of HT_.out (by kernel_rfl)) (by decide) (fun K hK => ?_)
   refine goes_ Try.func78 (by kernel_rfl) rfl #[.slice A0 l0.length c0, .slice A1_1 l1_1.length c1_1] (by rfl) rfl rfl z1_ ?_
   with_reducible refine (impl_NodeAt.calls k _ _ l0 _ _ l1_1 t366 _ ?side1 ?side2 ?side3 ?side4 A6.out).mono ?_
   (case side1 => exact z2_)
   (case side2 => exact HC0.out)
   (case side3 => exact z14_)
   (case side4 => exact HC1_1.out)
   rintro e w71 ⟨rfl, hb⟩
   refine ⟨_, rfl, ?_⟩
   have n0_ := Aside0.mk (Kd.R_below z32_ hb)
   have n1_ := Aside0.mk (blk_below (g := gb358) (o := .cells #[.int .i64 a1_0, .slice A1_1 l1_1.length c1_1, .int .i64 a1_2, .int .i64 a1_3, .int .i64 a1_4] 78 (0, 0)) z15_ hb)
   have n2_ := Aside0.mk (below_step z6_ hb)
   clear HO365
   clear BK358
   clear HB
   have HO365 := n0_
   have BK358 := n1_
   have HB := n2_
   clear n0_ n1_ n2_
   (try clear hb)
   (try clear hb2)
   (try clear hk)
   (try clear hi)
   refine hK.out _ _ ⟨(blk_cell BK358.out 0).trans rfl, (blk_cell BK358.out 1).trans rfl, (blk_cell BK358.out 2).trans rfl, (blk_cell BK358.out 3).trans rfl, (blk_cell BK358.out 4).trans rfl⟩ (fun hHeld => ?_)
   clear hK K
   refine zn_ rfl ?_
   iterate 2 refine zp_ HT_ rfl rfl (by kernel_rfl) (fun _ _ _ h => h) (by rfl) ?_
   refine done_ (done_of HT_.out (by kernel_rfl)) ?_
   have hcz72_0 : w71.cell? ⟨gb358, 0, none⟩ = some (.int .i64 a1_0) := (blk_cell BK358.out 0).trans rfl
   have hcz72_1 : w71.cell? ⟨gb358, 1, none⟩ = some (.slice A1_1 l1_1.length c1_1) := (blk_cell BK358.out 1).trans rfl
   have hcz72_2 : w71.cell? ⟨gb358, 2, none⟩ = some (.int .i64 a1_2) := (blk_cell BK358.out 2).trans rfl
   have hcz72_3 : w71.cell? ⟨gb358, 3, none⟩ = some (.int .i64 a1_3) := (blk_cell BK358.out 3).trans rfl
   have hcz72_4 : w71.cell? ⟨gb358, 4, none⟩ = some (.int .i64 a1_4) := (blk_cell BK358.out 4).trans rfl
   have hfz72_0 := blk_frozen BK358.out 0
   have hfz72_1 := blk_frozen BK358.out 1
   have hfz72_2 := blk_frozen BK358.out 2
   have hfz72_3 := blk_frozen BK358.out 3
   have hfz72_4 := blk_frozen BK358.out 4
   try go_wp2_with (first | ((with_reducible refine gate_callee (f := 96) rfl ?_); refine goesL_ (some 27) rfl rfl Try.func96 (by kernel_rfl) rfl #[.slice A0 l0.length c0, .agg #[.int .i64 a1_0, .slice A1_1 l1_1.length c1_1, .int .i64 a1_2, .int .i64 a1_3, .int .i64 a1_4], .int .i64 t366] rfl z1_ ?_; (with_reducible refine (impl_opCode.calls k _ _ l0 a1_0 _ _ l1_1 a1_2 a1_3 a1_4 t366 t367 t368 t369 _ ?side1 ?side2 ?side3 ?side4 A7.out).mono ?_); (case side1 => exact z2_); (case side2 => exact HC0.out); (case side3 => exact z14_); (case side4 => exact HC1_1.out); rintro e w73 ⟨rfl, hb⟩; refine ⟨_, rfl, ?_⟩; replace HO365 := Aside0.mk (Kd.R_below z32_ hb); replace BK358 := Aside0.mk (blk_below (g := gb358) (o := .cells #[.int .i64 a1_0, .slice A1_1 l1_1.length c1_1, .int .i64 a1_2, .int .i64 a1_3, .int .i64 a1_4] 78 (0, 0)) z15_ hb); replace HB := Aside0.mk (below_step z6_ hb); (try clear hb)))
   go_ret2
   exact ⟨_, z4_, z32_, z6_⟩
 ·replace c4 := Bool.eq_false_iff.mpr c4
  subst c4
  replace H := iff_ H
  obtain ⟨y360, hy360⟩ : ∃ y_ : List (S80), y_ = (([] : List (S80))) := ⟨_, rfl⟩
  replace H : (some (y360, 2)) = some (r1, r2) := by first | (rw [hy360]; with_reducible exact H) | (have H2_ := (Option.bind_some _ _).symm.trans H; rw [hy360]; with_reducible exact H2_) | (have H2_ := (Option.bind_some _ _).symm.trans H; with_reducible exact H2_) | with_reducible exact H | (rw [hy360]; exact H) | exact H
  have Ny360 := Aside0.mk hy360
  clear hy360
  simp only [Option.some.injEq, Prod.mk.injEq] at H
  obtain ⟨rfl, rfl⟩ := H
  go_enter Try.func51, Try.ntmps51
  go_wp2_with (first | ((with_reducible refine gate_dst (N := 3) rfl ?_); refine box_event ?hg (N := 3) ?hd (cs := #[.int .i64 a1_0, .slice A1_1 l1_1.length c1_1, .int .i64 a1_2, .int .i64 a1_3, .int .i64 a1_4]) (t := 78) ?hr ?_; (case hd => rfl); (case hg => rfl); (case hr => exact z12_); intro gb358 hg w74 hbox hb; have BK358 := Aside0.mk (hbox); have GW358 := Aside0.mk ((by rw [hg]; exact (below_size z0_) : w.heap.size ≤ gb358)); have GE358 := Aside0.mk ((by rw [hg]; exact (below_size z0_) : w.heap.size ≤ gb358)); replace HB := Aside0.mk (below_step z0_ hb); clear hb hbox hg) | ((with_reducible refine gate_callee (f := 50) rfl ?_); refine goesL_ (some 14) rfl rfl Try.func50 (by kernel_rfl) rfl #[.slice A0 l0.length c0] rfl z1_ ?_; (with_reducible refine (impl_TreeOk.calls k _ _ l0 false _ ?side1 ?side2 A3.out).mono ?_); (case side1 => exact z2_); (case side2 => exact HC0.out); rintro e w75 ⟨rfl, hb⟩; refine ⟨_, rfl, ?_⟩; replace BK358 := Aside0.mk (blk_below (g := gb358) (o := .cells #[.int .i64 a1_0, .slice A1_1 l1_1.length c1_1, .int .i64 a1_2, .int .i64 a1_3, .int .i64 a1_4] 78 (0, 0)) z15_ hb); replace HB := Aside0.mk (below_step z6_ hb); (try clear hb)) | ((with_reducible refine gate_dst (N := 16) rfl ?_); refine Kd.R_lit k80 _ 80 ?hg (N := 16) ?hd (xs := ([] : List (S80))) (inner := []) (ok := fun _ => True) (okp := fun _ => True) ?hr ?hp (fun _ hk => hk) trivial (Below.refl _ _) (Nat.le_refl _) (by simp) ?_; (case hd => rfl); (case hg => rfl); (case hr => exact z12_); (case hp => exact z83_); intro v361 w76 ho77 hb hg_ hnew_; clear hg_ hnew_; (first | rw [← Ny360.out] at ho77 | (simp only [Int.reduceToNat] at ho77; rw [← Ny360.out] at ho77)); have HO362 := Aside0.mk (Kd.R_lower ho77 (below_size z6_)); replace BK358 := Aside0.mk (blk_below (g := gb358) (o := .cells #[.int .i64 a1_0, .slice A1_1 l1_1.length c1_1, .int .i64 a1_2, .int .i64 a1_3, .int .i64 a1_4] 78 (0, 0)) z15_ hb); replace HB := Aside0.mk (below_step z6_ hb); clear hb ho77))
  go_ret2
  exact ⟨_, z4_, by (with_reducible repeat (first | apply Kd.R_alloc | apply Kd.R_drewN | apply Kd.R_drew)); exact HO362.out, z6_⟩

end Go.Proofs.Ytdapeboajjidmaa.PFnExactDropIdle
