/- Laid by a program of this session out of the kit's print for the law FnExactDropIdle: what it says of the machine is proved here, function by function; each contract under the conditions that it names. -/
import Derived.Test.YtdapeboajjidmaaMFnExactDropIdlex0
import Derived.Test.YtdapeboajjidmaaMFnExactDropIdlex7
import Derived.Test.YtdapeboajjidmaaMFnExactDropIdlex8
namespace Go.Proofs.Ytdapeboajjidmaa.PFnExactDropIdle
open Go.RowKit Go.Proofs.YtdapeboajjidmaaW.PrintWords Go.Proofs.YtdapeboajjidmaaW.PrintLast Go.Proofs.YtdapeboajjidmaaW.PrintMore
attribute [local go_sem] max2_int min2_int max_two min_two max_three min_three max_four min_four   -- for this text's walks alone
set_option linter.unusedVariables false
set_option linter.unusedSimpArgs false

/-! ### impl_opCode: function 96 -/
mutual
def impl_opCode.j0 : Nat → List (S80) → Int → Bool → Int → List Int → Int → Int → Int → Option (Int × Int × Int)
 | 0, _, _, _, _, _, _, _, _ => none
 | k + 1, x0, x2, x22, x329000, x329001, x329002, x329003, x329004 => if x22 = true then (some (3, 0, 0)) else (if x329000 = 2 then (impl_opCode.j1 k x0 x2 (x2 == 0) x329000 x329001 x329002 x329003 x329004) else (impl_opCode.j1 k x0 x2 false x329000 x329001 x329002 x329003 x329004))
def impl_opCode.j1 : Nat → List (S80) → Int → Bool → Int → List Int → Int → Int → Int → Option (Int × Int × Int)
 | 0, _, _, _, _, _, _, _, _ => none
 | k + 1, x0, x2, x32, x329000, x329001, x329002, x329003, x329004 => if x32 = true then (some (4, 0, 0)) else (if x329000 = 3 then ((impl_KidsOf.f k x0 x2).bind fun t331 => ((impl_within.f x329003 0 (t331.length : Int)).bind fun t334 => (if t334 = true then ((impl_within.f x329004 0 (wrap64 ((t331.length : Int) - x329003))).bind fun t335 => (impl_opCode.j2 k x0 x2 t331 (!t335) x329000 x329001 x329002 x329003 x329004)) else (impl_opCode.j2 k x0 x2 t331 true x329000 x329001 x329002 x329003 x329004)))) else (some (0, 0, 0)))
def impl_opCode.j2 : Nat → List (S80) → Int → List Int → Bool → Int → List Int → Int → Int → Int → Option (Int × Int × Int)
 | 0, _, _, _, _, _, _, _, _, _ => none
 | k + 1, x0, x2, x9, x63, x329000, x329001, x329002, x329003, x329004 => if x63 = true then (some (5, 0, 0)) else ((impl_endOf.f k x0 x2).bind fun t336 => (if x9.length < 17592186044416 then ((some (x9 ++ [t336] : List Int)).bind fun y337 => (if 0 ≤ x329003 then (if x329003 < (y337.length : Int) then (if 0 ≤ (wrap64 (x329003 + x329004)) then (if (wrap64 (x329003 + x329004)) < (y337.length : Int) then (if 0 ≤ x2 then (if x2 < (x0.length : Int) then (if 0 ≤ (rd y337 x329003) then (if (rd y337 x329003) ≤ (rd y337 (wrap64 (x329003 + x329004))) then (if (rd y337 (wrap64 (x329003 + x329004))) ≤ (x0.length : Int) then ((some ((x0.take ((rd y337 (wrap64 (x329003 + x329004))) : Int).toNat).drop ((rd y337 x329003) : Int).toNat : List (S80))).bind fun y343 => (impl_opCode.l0 k x0 (rd y337 x329003) (rd y337 (wrap64 (x329003 + x329004))) (wrap64 (((rd_T80 x0 x2).f1) + 1)) y343 (y343.length : Int) 0)) else (none)) else (none)) else (none)) else (none)) else (none)) else (none)) else (none)) else (none)) else (none))) else (none)))
def impl_opCode.l0 : Nat → List (S80) → Int → Int → Int → List (S80) → Int → Int → Option (Int × Int × Int)
 | 0, _, _, _, _, _, _, _ => none
 | k + 1, x0, x7, x8, x11, x92, x93, x94 => if x94 < x93 then (if 0 ≤ x94 then (if x94 < (x92.length : Int) then (impl_opCode.l0 k x0 x7 x8 (mx x11 (wrap64 (((rd_T80 x92 x94).f1) + 1))) x92 x93 (wrap64 (x94 + 1))) else (none)) else (none)) else (if (x0.length : Int) = 24 then (some (6, 0, 0)) else (if x11 > 12 then (some (7, 0, 0)) else (some (0, x7, x8))))
end
def impl_opCode.f (k : Nat) (l0 : List (S80)) (a1_0 : Int) (l1_1 : List Int) (a1_2 : Int) (a1_3 : Int) (a1_4 : Int) (a2 : Int) : Option (Int × Int × Int) := (impl_within.f a1_0 1 3).bind fun t329 => (if t329 = true then (if a2 < 0 then (some (2, 0, 0)) else (if a1_0 = 2 then (impl_opCode.j0 k l0 a2 false a1_0 l1_1 a1_2 a1_3 a1_4) else ((impl_LabelOk.f a1_2).bind fun t330 => (impl_opCode.j0 k l0 a2 (!t330) a1_0 l1_1 a1_2 a1_3 a1_4)))) else (some (1, 0, 0)))
theorem impl_opCode.mono_l : ∀ k, (∀ y0 y1 y2 y3 y4 y5 y6 y7, LeO (impl_opCode.j0 k y0 y1 y2 y3 y4 y5 y6 y7) (impl_opCode.j0 (k + 1) y0 y1 y2 y3 y4 y5 y6 y7)) ∧ (∀ y0 y1 y2 y3 y4 y5 y6 y7, LeO (impl_opCode.j1 k y0 y1 y2 y3 y4 y5 y6 y7) (impl_opCode.j1 (k + 1) y0 y1 y2 y3 y4 y5 y6 y7)) ∧ (∀ y0 y1 y2 y3 y4 y5 y6 y7 y8, LeO (impl_opCode.j2 k y0 y1 y2 y3 y4 y5 y6 y7 y8) (impl_opCode.j2 (k + 1) y0 y1 y2 y3 y4 y5 y6 y7 y8)) ∧ (∀ y0 y1 y2 y3 y4 y5 y6, LeO (impl_opCode.l0 k y0 y1 y2 y3 y4 y5 y6) (impl_opCode.l0 (k + 1) y0 y1 y2 y3 y4 y5 y6))
 | 0 => ⟨fun _ _ _ _ _ _ _ _ r h => by simp [impl_opCode.j0] at h, fun _ _ _ _ _ _ _ _ r h => by simp [impl_opCode.j1] at h, fun _ _ _ _ _ _ _ _ _ r h => by simp [impl_opCode.j2] at h, fun _ _ _ _ _ _ _ r h => by simp [impl_opCode.l0] at h⟩
 | k + 1 => by
  obtain ⟨ih0, ih1, ih2, ih3⟩ := impl_opCode.mono_l k
  refine ⟨?_, ?_, ?_, ?_⟩
  ·intro y0 y1 y2 y3 y4 y5 y6 y7
   unfold impl_opCode.j0
   repeat' first | (with_reducible first | exact ih0 _ _ _ _ _ _ _ _ | exact ih1 _ _ _ _ _ _ _ _ | exact ih2 _ _ _ _ _ _ _ _ _ | exact ih3 _ _ _ _ _ _ _ | exact impl_KidsOf.mono _ _ _ | exact impl_endOf.mono _ _ _ | exact LeO.refl _ | exact LeO.none _ | refine LeO.ite ?_ ?_ | refine LeO.bind ?_ (fun _ => ?_)) | exact ih0 _ _ _ _ _ _ _ _ | exact ih1 _ _ _ _ _ _ _ _ | exact ih2 _ _ _ _ _ _ _ _ _ | exact ih3 _ _ _ _ _ _ _ | exact impl_KidsOf.mono _ _ _ | exact impl_endOf.mono _ _ _ | exact LeO.none _ | refine LeO.ite ?_ ?_ | refine LeO.bind ?_ (fun _ => ?_)
  ·intro y0 y1 y2 y3 y4 y5 y6 y7
   unfold impl_opCode.j1
   repeat' first | (with_reducible first | exact ih0 _ _ _ _ _ _ _ _ | exact ih1 _ _ _ _ _ _ _ _ | exact ih2 _ _ _ _ _ _ _ _ _ | exact ih3 _ _ _ _ _ _ _ | exact impl_KidsOf.mono _ _ _ | exact impl_endOf.mono _ _ _ | exact LeO.refl _ | exact LeO.none _ | refine LeO.ite ?_ ?_ | refine LeO.bind ?_ (fun _ => ?_)) | exact ih0 _ _ _ _ _ _ _ _ | exact ih1 _ _ _ _ _ _ _ _ | exact ih2 _ _ _ _ _ _ _ _ _ | exact ih3 _ _ _ _ _ _ _ | exact impl_KidsOf.mono _ _ _ | exact impl_endOf.mono _ _ _ | exact LeO.none _ | refine LeO.ite ?_ ?_ | refine LeO.bind ?_ (fun _ => ?_)
  ·intro y0 y1 y2 y3 y4 y5 y6 y7 y8
   unfold impl_opCode.j2
   repeat' first | (with_reducible first | exact ih0 _ _ _ _ _ _ _ _ | exact ih1 _ _ _ _ _ _ _ _ | exact ih2 _ _ _ _ _ _ _ _ _ | exact ih3 _ _ _ _ _ _ _ | exact impl_KidsOf.mono _ _ _ | exact impl_endOf.mono _ _ _ | exact LeO.refl _ | exact LeO.none _ | refine LeO.ite ?_ ?_ | refine LeO.bind ?_ (fun _ => ?_)) | exact ih0 _ _ _ _ _ _ _ _ | exact ih1 _ _ _ _ _ _ _ _ | exact ih2 _ _ _ _ _ _ _ _ _ | exact ih3 _ _ _ _ _ _ _ | exact impl_KidsOf.mono _ _ _ | exact impl_endOf.mono _ _ _ | exact LeO.none _ | refine LeO.ite ?_ ?_ | refine LeO.bind ?_ (fun _ => ?_)
  ·intro y0 y1 y2 y3 y4 y5 y6
   unfold impl_opCode.l0
   repeat' first | (with_reducible first | exact ih0 _ _ _ _ _ _ _ _ | exact ih1 _ _ _ _ _ _ _ _ | exact ih2 _ _ _ _ _ _ _ _ _ | exact ih3 _ _ _ _ _ _ _ | exact impl_KidsOf.mono _ _ _ | exact impl_endOf.mono _ _ _ | exact LeO.refl _ | exact LeO.none _ | refine LeO.ite ?_ ?_ | refine LeO.bind ?_ (fun _ => ?_)) | exact ih0 _ _ _ _ _ _ _ _ | exact ih1 _ _ _ _ _ _ _ _ | exact ih2 _ _ _ _ _ _ _ _ _ | exact ih3 _ _ _ _ _ _ _ | exact impl_KidsOf.mono _ _ _ | exact impl_endOf.mono _ _ _ | exact LeO.none _ | refine LeO.ite ?_ ?_ | refine LeO.bind ?_ (fun _ => ?_)
theorem impl_opCode.mono : ∀ a0 a1 a2 a3 a4 a5 a6 k, LeO (impl_opCode.f k a0 a1 a2 a3 a4 a5 a6) (impl_opCode.f (k + 1) a0 a1 a2 a3 a4 a5 a6) := by
 intro a0 a1 a2 a3 a4 a5 a6 k
 obtain ⟨ih0, ih1, ih2, ih3⟩ := impl_opCode.mono_l k
 unfold impl_opCode.f
 repeat' first | (with_reducible first | exact ih0 _ _ _ _ _ _ _ _ | exact ih1 _ _ _ _ _ _ _ _ | exact ih2 _ _ _ _ _ _ _ _ _ | exact ih3 _ _ _ _ _ _ _ | exact impl_KidsOf.mono _ _ _ | exact impl_endOf.mono _ _ _ | exact LeO.refl _ | exact LeO.none _ | refine LeO.ite ?_ ?_ | refine LeO.bind ?_ (fun _ => ?_)) | exact ih0 _ _ _ _ _ _ _ _ | exact ih1 _ _ _ _ _ _ _ _ | exact ih2 _ _ _ _ _ _ _ _ _ | exact ih3 _ _ _ _ _ _ _ | exact impl_KidsOf.mono _ _ _ | exact impl_endOf.mono _ _ _ | exact LeO.none _ | refine LeO.ite ?_ ?_ | refine LeO.bind ?_ (fun _ => ?_)
set_option maxHeartbeats 8000000 in
set_option maxRecDepth 100000 in
theorem impl_opCode.calls (k : Nat) (A0 : Option Addr) (c0 : Nat) (l0 : List (S80)) (a1_0 : Int) (A1_1 : Option Addr) (c1_1 : Nat) (l1_1 : List Int) (a1_2 : Int) (a1_3 : Int) (a1_4 : Int) (a2 : Int) (r1 : Int) (r2 : Int) (r3 : Int) (w : World) (hr0 : Kd.C k80 w A0 l0.length l0) (hc0 : l0.length ≤ c0) (hr1_1 : Kd.C (Kd.int .i64) w A1_1 l1_1.length l1_1) (hc1_1 : l1_1.length ≤ c1_1) (h : impl_opCode.f k l0 a1_0 l1_1 a1_2 a1_3 a1_4 a2 = some (r1, r2, r3)) :
  Calls Try.prog 96 #[.slice A0 l0.length c0, .agg #[.int .i64 a1_0, .slice A1_1 l1_1.length c1_1, .int .i64 a1_2, .int .i64 a1_3, .int .i64 a1_4], .int .i64 a2] w fun e w' => e = .returned (.tuple #[.int .i64 r1, .int .i64 r2, .int .i64 r3]) ∧ Below w.heap.size w w' := by
 have hu78 := Try.underlying78
 have hu80 := Try.underlying80
 have HR0 := Aside0.mk hr0
 have HC0 := Aside0.mk hc0
 clear hr0 hc0
 have HR1_1 := Aside0.mk hr1_1
 have HC1_1 := Aside0.mk hc1_1
 clear hr1_1 hc1_1
 have HB := Aside0.mk (Below.refl w.heap.size w)
 have H : ((impl_within.f a1_0 1 3).bind fun t329 => (if t329 = true then (if a2 < 0 then (some (2, 0, 0)) else (if a1_0 = 2 then (impl_opCode.j0 k l0 a2 false a1_0 l1_1 a1_2 a1_3 a1_4) else ((impl_LabelOk.f a1_2).bind fun t330 => (impl_opCode.j0 k l0 a2 (!t330) a1_0 l1_1 a1_2 a1_3 a1_4)))) else (some (1, 0, 0)))) = some (r1, r2, r3) := h
 clear h
 obtain ⟨t329, A4, H⟩ := bnd_ H
 by_cases c5 : t329 = true
 ·subst c5
  replace H := ift_ H
  by_cases c6 : a2 < 0
  ·rw [if_pos c6] at H
   have c6b0 : decide (a2 < 0) = true := decide_eq_true c6
   clear c6
   simp only [Option.some.injEq, Prod.mk.injEq] at H
   obtain ⟨rfl, rfl, rfl⟩ := H
   go_enter Try.func96, Try.ntmps96
   go_wp2_with (first | ((with_reducible refine gate_dst (N := 4) rfl ?_); (try (refine gate_guard (by rfl) ?_; dsimp only)); refine box_event ?hg (N := 4) ?hd (cs := #[.int .i64 a1_0, .slice A1_1 l1_1.length c1_1, .int .i64 a1_2, .int .i64 a1_3, .int .i64 a1_4]) (t := 78) ?hr ?_; (case hd => rfl); (case hg => rfl); (case hr => exact z12_); intro gb328 hg w7 hbox hb; have BK328 := Aside0.mk (hbox); have GW328 := Aside0.mk ((by rw [hg]; exact (below_size z0_) : w.heap.size ≤ gb328)); have GE328 := Aside0.mk ((by rw [hg]; exact (below_size z0_) : w.heap.size ≤ gb328)); replace HB := Aside0.mk (below_step z0_ hb); clear hb hbox hg; have hcz8_0 : w7.cell? ⟨gb328, 0, none⟩ = some (.int .i64 a1_0) := (blk_cell BK328.out 0).trans rfl; have hcz8_1 : w7.cell? ⟨gb328, 1, none⟩ = some (.slice A1_1 l1_1.length c1_1) := (blk_cell BK328.out 1).trans rfl; have hcz8_2 : w7.cell? ⟨gb328, 2, none⟩ = some (.int .i64 a1_2) := (blk_cell BK328.out 2).trans rfl; have hcz8_3 : w7.cell? ⟨gb328, 3, none⟩ = some (.int .i64 a1_3) := (blk_cell BK328.out 3).trans rfl; have hcz8_4 : w7.cell? ⟨gb328, 4, none⟩ = some (.int .i64 a1_4) := (blk_cell BK328.out 4).trans rfl; have hfz8_0 := blk_frozen BK328.out 0; have hfz8_1 := blk_frozen BK328.out 1; have hfz8_2 := blk_frozen BK328.out 2; have hfz8_3 := blk_frozen BK328.out 3; have hfz8_4 := blk_frozen BK328.out 4) | (go_at_call 63; (with_reducible refine (impl_within.calls a1_0 1 3 true _ A4.out).mono ?_); rintro e w' ⟨rfl, ⟨nd, rfl⟩⟩; (try first | exact ⟨rfl, _, World.drewN_drewN _ _ _⟩ | exact ⟨rfl, _, Eq.trans (World.drewN_drewN _ _ _) (congrArg (World.drewN _) (Nat.add_assoc _ _ _))⟩)))
   repeat (go_quiet (first | ((with_reducible refine gate_dst (N := 4) rfl ?_); (try (refine gate_guard (by rfl) ?_; dsimp only)); refine box_event ?hg (N := 4) ?hd (cs := #[.int .i64 a1_0, .slice A1_1 l1_1.length c1_1, .int .i64 a1_2, .int .i64 a1_3, .int .i64 a1_4]) (t := 78) ?hr ?_; (case hd => rfl); (case hg => rfl); (case hr => exact z12_); intro gb328 hg w7 hbox hb; have BK328 := Aside0.mk (hbox); have GW328 := Aside0.mk ((by rw [hg]; exact (below_size z0_) : w.heap.size ≤ gb328)); have GE328 := Aside0.mk ((by rw [hg]; exact (below_size z0_) : w.heap.size ≤ gb328)); replace HB := Aside0.mk (below_step z0_ hb); clear hb hbox hg; have hcz8_0 : w7.cell? ⟨gb328, 0, none⟩ = some (.int .i64 a1_0) := (blk_cell BK328.out 0).trans rfl; have hcz8_1 : w7.cell? ⟨gb328, 1, none⟩ = some (.slice A1_1 l1_1.length c1_1) := (blk_cell BK328.out 1).trans rfl; have hcz8_2 : w7.cell? ⟨gb328, 2, none⟩ = some (.int .i64 a1_2) := (blk_cell BK328.out 2).trans rfl; have hcz8_3 : w7.cell? ⟨gb328, 3, none⟩ = some (.int .i64 a1_3) := (blk_cell BK328.out 3).trans rfl; have hcz8_4 : w7.cell? ⟨gb328, 4, none⟩ = some (.int .i64 a1_4) := (blk_cell BK328.out 4).trans rfl; have hfz8_0 := blk_frozen BK328.out 0; have hfz8_1 := blk_frozen BK328.out 1; have hfz8_2 := blk_frozen BK328.out 2; have hfz8_3 := blk_frozen BK328.out 3; have hfz8_4 := blk_frozen BK328.out 4) | (go_at_call 63; (with_reducible refine (impl_within.calls a1_0 1 3 true _ A4.out).mono ?_); rintro e w' ⟨rfl, ⟨nd, rfl⟩⟩; (try first | exact ⟨rfl, _, World.drewN_drewN _ _ _⟩ | exact ⟨rfl, _, Eq.trans (World.drewN_drewN _ _ _) (congrArg (World.drewN _) (Nat.add_assoc _ _ _))⟩))); try go_wp2_with (first | ((with_reducible refine gate_dst (N := 4) rfl ?_); (try (refine gate_guard (by rfl) ?_; dsimp only)); refine box_event ?hg (N := 4) ?hd (cs := #[.int .i64 a1_0, .slice A1_1 l1_1.length c1_1, .int .i64 a1_2, .int .i64 a1_3, .int .i64 a1_4]) (t := 78) ?hr ?_; (case hd => rfl); (case hg => rfl); (case hr => exact z12_); intro gb328 hg w7 hbox hb; have BK328 := Aside0.mk (hbox); have GW328 := Aside0.mk ((by rw [hg]; exact (below_size z0_) : w.heap.size ≤ gb328)); have GE328 := Aside0.mk ((by rw [hg]; exact (below_size z0_) : w.heap.size ≤ gb328)); replace HB := Aside0.mk (below_step z0_ hb); clear hb hbox hg; have hcz8_0 : w7.cell? ⟨gb328, 0, none⟩ = some (.int .i64 a1_0) := (blk_cell BK328.out 0).trans rfl; have hcz8_1 : w7.cell? ⟨gb328, 1, none⟩ = some (.slice A1_1 l1_1.length c1_1) := (blk_cell BK328.out 1).trans rfl; have hcz8_2 : w7.cell? ⟨gb328, 2, none⟩ = some (.int .i64 a1_2) := (blk_cell BK328.out 2).trans rfl; have hcz8_3 : w7.cell? ⟨gb328, 3, none⟩ = some (.int .i64 a1_3) := (blk_cell BK328.out 3).trans rfl; have hcz8_4 : w7.cell? ⟨gb328, 4, none⟩ = some (.int .i64 a1_4) := (blk_cell BK328.out 4).trans rfl; have hfz8_0 := blk_frozen BK328.out 0; have hfz8_1 := blk_frozen BK328.out 1; have hfz8_2 := blk_frozen BK328.out 2; have hfz8_3 := blk_frozen BK328.out 3; have hfz8_4 := blk_frozen BK328.out 4) | (go_at_call 63; (with_reducible refine (impl_within.calls a1_0 1 3 true _ A4.out).mono ?_); rintro e w' ⟨rfl, ⟨nd, rfl⟩⟩; (try first | exact ⟨rfl, _, World.drewN_drewN _ _ _⟩ | exact ⟨rfl, _, Eq.trans (World.drewN_drewN _ _ _) (congrArg (World.drewN _) (Nat.add_assoc _ _ _))⟩))))
   go_ret3
   exact ⟨z4_, z5_⟩
  ·rw [if_neg c6] at H
   have c6b0 : decide (a2 < 0) = false := decide_eq_false c6
   clear c6
   have HC9 := Aside0.mk H
   clear H
   go_enter Try.func96, Try.ntmps96
   go_upto_region 5 with (first | ((with_reducible refine gate_dst (N := 4) rfl ?_); (try (refine gate_guard (by rfl) ?_; dsimp only)); refine box_event ?hg (N := 4) ?hd (cs := #[.int .i64 a1_0, .slice A1_1 l1_1.length c1_1, .int .i64 a1_2, .int .i64 a1_3, .int .i64 a1_4]) (t := 78) ?hr ?_; (case hd => rfl); (case hg => rfl); (case hr => exact z12_); intro gb328 hg w10 hbox hb; have BK328 := Aside0.mk (hbox); have GW328 := Aside0.mk ((by rw [hg]; exact (below_size z0_) : w.heap.size ≤ gb328)); have GE328 := Aside0.mk ((by rw [hg]; exact (below_size z0_) : w.heap.size ≤ gb328)); replace HB := Aside0.mk (below_step z0_ hb); clear hb hbox hg; have hcz11_0 : w10.cell? ⟨gb328, 0, none⟩ = some (.int .i64 a1_0) := (blk_cell BK328.out 0).trans rfl; have hcz11_1 : w10.cell? ⟨gb328, 1, none⟩ = some (.slice A1_1 l1_1.length c1_1) := (blk_cell BK328.out 1).trans rfl; have hcz11_2 : w10.cell? ⟨gb328, 2, none⟩ = some (.int .i64 a1_2) := (blk_cell BK328.out 2).trans rfl; have hcz11_3 : w10.cell? ⟨gb328, 3, none⟩ = some (.int .i64 a1_3) := (blk_cell BK328.out 3).trans rfl; have hcz11_4 : w10.cell? ⟨gb328, 4, none⟩ = some (.int .i64 a1_4) := (blk_cell BK328.out 4).trans rfl; have hfz11_0 := blk_frozen BK328.out 0; have hfz11_1 := blk_frozen BK328.out 1; have hfz11_2 := blk_frozen BK328.out 2; have hfz11_3 := blk_frozen BK328.out 3; have hfz11_4 := blk_frozen BK328.out 4) | (go_at_call 63; (with_reducible refine (impl_within.calls a1_0 1 3 true _ A4.out).mono ?_); rintro e w' ⟨rfl, ⟨nd, rfl⟩⟩; (try first | exact ⟨rfl, _, World.drewN_drewN _ _ _⟩ | exact ⟨rfl, _, Eq.trans (World.drewN_drewN _ _ _) (congrArg (World.drewN _) (Nat.add_assoc _ _ _))⟩)))
   repeat (go_quiet (first | ((with_reducible refine gate_dst (N := 4) rfl ?_); (try (refine gate_guard (by rfl) ?_; dsimp only)); refine box_event ?hg (N := 4) ?hd (cs := #[.int .i64 a1_0, .slice A1_1 l1_1.length c1_1, .int .i64 a1_2, .int .i64 a1_3, .int .i64 a1_4]) (t := 78) ?hr ?_; (case hd => rfl); (case hg => rfl); (case hr => exact z12_); intro gb328 hg w10 hbox hb; have BK328 := Aside0.mk (hbox); have GW328 := Aside0.mk ((by rw [hg]; exact (below_size z0_) : w.heap.size ≤ gb328)); have GE328 := Aside0.mk ((by rw [hg]; exact (below_size z0_) : w.heap.size ≤ gb328)); replace HB := Aside0.mk (below_step z0_ hb); clear hb hbox hg; have hcz11_0 : w10.cell? ⟨gb328, 0, none⟩ = some (.int .i64 a1_0) := (blk_cell BK328.out 0).trans rfl; have hcz11_1 : w10.cell? ⟨gb328, 1, none⟩ = some (.slice A1_1 l1_1.length c1_1) := (blk_cell BK328.out 1).trans rfl; have hcz11_2 : w10.cell? ⟨gb328, 2, none⟩ = some (.int .i64 a1_2) := (blk_cell BK328.out 2).trans rfl; have hcz11_3 : w10.cell? ⟨gb328, 3, none⟩ = some (.int .i64 a1_3) := (blk_cell BK328.out 3).trans rfl; have hcz11_4 : w10.cell? ⟨gb328, 4, none⟩ = some (.int .i64 a1_4) := (blk_cell BK328.out 4).trans rfl; have hfz11_0 := blk_frozen BK328.out 0; have hfz11_1 := blk_frozen BK328.out 1; have hfz11_2 := blk_frozen BK328.out 2; have hfz11_3 := blk_frozen BK328.out 3; have hfz11_4 := blk_frozen BK328.out 4) | (go_at_call 63; (with_reducible refine (impl_within.calls a1_0 1 3 true _ A4.out).mono ?_); rintro e w' ⟨rfl, ⟨nd, rfl⟩⟩; (try first | exact ⟨rfl, _, World.drewN_drewN _ _ _⟩ | exact ⟨rfl, _, Eq.trans (World.drewN_drewN _ _ _) (congrArg (World.drewN _) (Nat.add_assoc _ _ _))⟩))); go_upto_region 5 with (first | ((with_reducible refine gate_dst (N := 4) rfl ?_); (try (refine gate_guard (by rfl) ?_; dsimp only)); refine box_event ?hg (N := 4) ?hd (cs := #[.int .i64 a1_0, .slice A1_1 l1_1.length c1_1, .int .i64 a1_2, .int .i64 a1_3, .int .i64 a1_4]) (t := 78) ?hr ?_; (case hd => rfl); (case hg => rfl); (case hr => exact z12_); intro gb328 hg w10 hbox hb; have BK328 := Aside0.mk (hbox); have GW328 := Aside0.mk ((by rw [hg]; exact (below_size z0_) : w.heap.size ≤ gb328)); have GE328 := Aside0.mk ((by rw [hg]; exact (below_size z0_) : w.heap.size ≤ gb328)); replace HB := Aside0.mk (below_step z0_ hb); clear hb hbox hg; have hcz11_0 : w10.cell? ⟨gb328, 0, none⟩ = some (.int .i64 a1_0) := (blk_cell BK328.out 0).trans rfl; have hcz11_1 : w10.cell? ⟨gb328, 1, none⟩ = some (.slice A1_1 l1_1.length c1_1) := (blk_cell BK328.out 1).trans rfl; have hcz11_2 : w10.cell? ⟨gb328, 2, none⟩ = some (.int .i64 a1_2) := (blk_cell BK328.out 2).trans rfl; have hcz11_3 : w10.cell? ⟨gb328, 3, none⟩ = some (.int .i64 a1_3) := (blk_cell BK328.out 3).trans rfl; have hcz11_4 : w10.cell? ⟨gb328, 4, none⟩ = some (.int .i64 a1_4) := (blk_cell BK328.out 4).trans rfl; have hfz11_0 := blk_frozen BK328.out 0; have hfz11_1 := blk_frozen BK328.out 1; have hfz11_2 := blk_frozen BK328.out 2; have hfz11_3 := blk_frozen BK328.out 3; have hfz11_4 := blk_frozen BK328.out 4) | (go_at_call 63; (with_reducible refine (impl_within.calls a1_0 1 3 true _ A4.out).mono ?_); rintro e w' ⟨rfl, ⟨nd, rfl⟩⟩; (try first | exact ⟨rfl, _, World.drewN_drewN _ _ _⟩ | exact ⟨rfl, _, Eq.trans (World.drewN_drewN _ _ _) (congrArg (World.drewN _) (Nat.add_assoc _ _ _))⟩))))
   (try simp only [Act.put, List.setIfInBounds_toArray, List.set_cons_zero, List.set_cons_succ])
   go_cut [22] (fun v22 wc => ∃ (kq : Nat) (x22_8 : Bool), v22 = .bool x22_8 ∧ Aside0 (impl_opCode.j0 kq l0 a2 x22_8 a1_0 l1_1 a1_2 a1_3 a1_4 = some (r1, r2, r3)) ∧ Aside0 (kq ≤ k) ∧ Aside0 (wc.heap[gb328]? = some (.cells #[.int .i64 a1_0, (.slice A1_1 l1_1.length c1_1), .int .i64 a1_2, .int .i64 a1_3, .int .i64 a1_4] 78 (0, 0))) ∧ Aside0 (Below w.heap.size w wc))
   case first =>
    have H := HC9.out
    clear HC9
    by_cases c12 : a1_0 = 2
    ·rw [if_pos c12] at H
     have c12b0 : (a1_0 == 2) = true := beq_iff_eq.mpr c12
     have c12b1 : (a1_0 != 2) = false := bne_eq_false_iff_eq.mpr c12
     clear c12
     (first | rw [c12b0] | rw [c12b1] | (simp only [i64_w, i32_w]; rw [c12b0]) | skip)
     have H' := Aside0.mk H
     clear H
     have hcz13_0 : w10.cell? ⟨gb328, 0, none⟩ = some (.int .i64 a1_0) := (blk_cell BK328.out 0).trans rfl
     have hcz13_1 : w10.cell? ⟨gb328, 1, none⟩ = some (.slice A1_1 l1_1.length c1_1) := (blk_cell BK328.out 1).trans rfl
     have hcz13_2 : w10.cell? ⟨gb328, 2, none⟩ = some (.int .i64 a1_2) := (blk_cell BK328.out 2).trans rfl
     have hcz13_3 : w10.cell? ⟨gb328, 3, none⟩ = some (.int .i64 a1_3) := (blk_cell BK328.out 3).trans rfl
     have hcz13_4 : w10.cell? ⟨gb328, 4, none⟩ = some (.int .i64 a1_4) := (blk_cell BK328.out 4).trans rfl
     have hfz13_0 := blk_frozen BK328.out 0
     have hfz13_1 := blk_frozen BK328.out 1
     have hfz13_2 := blk_frozen BK328.out 2
     have hfz13_3 := blk_frozen BK328.out 3
     have hfz13_4 := blk_frozen BK328.out 4
     go_wp2
     repeat (go_quiet (fail); try go_wp2)
     go_meet
     case rel => exact ⟨_, (false), z7_, H', ⟨z148_⟩, ⟨z18_⟩, ⟨z5_⟩⟩
    ·rw [if_neg c12] at H
     have c12b0 : (a1_0 == 2) = false := beq_eq_false_iff_ne.mpr c12
     have c12b1 : (a1_0 != 2) = true := bne_iff_ne.mpr c12
     (first | rw [c12b0] | rw [c12b1] | (simp only [i64_w, i32_w]; rw [c12b0]) | skip)
     obtain ⟨t330, A14, H⟩ := bnd_ H
     have H' := Aside0.mk H
     clear H
     have hcz15_0 : w10.cell? ⟨gb328, 0, none⟩ = some (.int .i64 a1_0) := (blk_cell BK328.out 0).trans rfl
     have hcz15_1 : w10.cell? ⟨gb328, 1, none⟩ = some (.slice A1_1 l1_1.length c1_1) := (blk_cell BK328.out 1).trans rfl
     have hcz15_2 : w10.cell? ⟨gb328, 2, none⟩ = some (.int .i64 a1_2) := (blk_cell BK328.out 2).trans rfl
     have hcz15_3 : w10.cell? ⟨gb328, 3, none⟩ = some (.int .i64 a1_3) := (blk_cell BK328.out 3).trans rfl
     have hcz15_4 : w10.cell? ⟨gb328, 4, none⟩ = some (.int .i64 a1_4) := (blk_cell BK328.out 4).trans rfl
     have hfz15_0 := blk_frozen BK328.out 0
     have hfz15_1 := blk_frozen BK328.out 1
     have hfz15_2 := blk_frozen BK328.out 2
     have hfz15_3 := blk_frozen BK328.out 3
     have hfz15_4 := blk_frozen BK328.out 4
     go_wp2_with (first | (go_at_call 94; (with_reducible refine (impl_LabelOk.calls a1_2 t330 _ A14.out).mono ?_); rintro e w' ⟨rfl, ⟨nd, rfl⟩⟩; (try first | exact ⟨rfl, _, World.drewN_drewN _ _ _⟩ | exact ⟨rfl, _, Eq.trans (World.drewN_drewN _ _ _) (congrArg (World.drewN _) (Nat.add_assoc _ _ _))⟩)))
     repeat (go_quiet (first | (go_at_call 94; (with_reducible refine (impl_LabelOk.calls a1_2 t330 _ A14.out).mono ?_); rintro e w' ⟨rfl, ⟨nd, rfl⟩⟩; (try first | exact ⟨rfl, _, World.drewN_drewN _ _ _⟩ | exact ⟨rfl, _, Eq.trans (World.drewN_drewN _ _ _) (congrArg (World.drewN _) (Nat.add_assoc _ _ _))⟩))); try go_wp2_with (first | (go_at_call 94; (with_reducible refine (impl_LabelOk.calls a1_2 t330 _ A14.out).mono ?_); rintro e w' ⟨rfl, ⟨nd, rfl⟩⟩; (try first | exact ⟨rfl, _, World.drewN_drewN _ _ _⟩ | exact ⟨rfl, _, Eq.trans (World.drewN_drewN _ _ _) (congrArg (World.drewN _) (Nat.add_assoc _ _ _))⟩))))
     go_meet
     case rel => exact ⟨_, (!t330), z7_, H', ⟨z148_⟩, ⟨z18_⟩, ⟨z5_⟩⟩
   case rest =>
    clear HC9
    try clear c1
    try clear p2
    try clear c5
    try clear c6
    try clear c6b0
    try clear c9
    try clear c12
    try clear c12b0
    try clear c12b1
    try clear hcz11_0
    try clear hcz11_1
    try clear hcz11_2
    try clear hcz11_3
    try clear hcz11_4
    try clear hcz13_0
    try clear hcz13_1
    try clear hcz13_2
    try clear hcz13_3
    try clear hcz13_4
    try clear hcz15_0
    try clear hcz15_1
    try clear hcz15_2
    try clear hcz15_3
    try clear hcz15_4
    try clear hcz8_0
    try clear hcz8_1
    try clear hcz8_2
    try clear hcz8_3
    try clear hcz8_4
    try clear hfz11_0
    try clear hfz11_1
    try clear hfz11_2
    try clear hfz11_3
    try clear hfz11_4
    try clear hfz13_0
    try clear hfz13_1
    try clear hfz13_2
    try clear hfz13_3
    try clear hfz13_4
    try clear hfz15_0
    try clear hfz15_1
    try clear hfz15_2
    try clear hfz15_3
    try clear hfz15_4
    try clear hfz8_0
    try clear hfz8_1
    try clear hfz8_2
    try clear hfz8_3
    try clear hfz8_4
    obtain ⟨kq, x22_8, rfl, HA, HJ8, BK328, HB⟩ := hcut
    cases kq with
    | zero => exact absurd HA.out (by simp [impl_opCode.j0])
    | succ kj8 =>
     have H := HA.out
     clear HA
     simp only [impl_opCode.j0] at H
     by_cases c16 : x22_8 = true
     ·subst c16
      replace H := ift_ H
      simp only [Option.some.injEq, Prod.mk.injEq] at H
      obtain ⟨rfl, rfl, rfl⟩ := H
      go_wp2
      repeat (go_quiet (fail); try go_wp2)
      go_ret3
      exact ⟨z4_, z5_⟩
     ·replace c16 := Bool.eq_false_iff.mpr c16
      subst c16
      replace H := iff_ H
      have HC17 := Aside0.mk H
      clear H
      go_upto_region 7 with (fail)
      repeat (go_quiet (fail); go_upto_region 7 with (fail))
      go_cut [32] (fun v32 wc => ∃ (kq : Nat) (x32_16 : Bool), v32 = .bool x32_16 ∧ Aside0 (impl_opCode.j1 kq l0 a2 x32_16 a1_0 l1_1 a1_2 a1_3 a1_4 = some (r1, r2, r3)) ∧ Aside0 (kq ≤ kj8) ∧ Aside0 (wc.heap[gb328]? = some (.cells #[.int .i64 a1_0, (.slice A1_1 l1_1.length c1_1), .int .i64 a1_2, .int .i64 a1_3, .int .i64 a1_4] 78 (0, 0))) ∧ Aside0 (Below w.heap.size w wc))
      case first =>
       have H := HC17.out
       clear HC17
       by_cases c18 : a1_0 = 2
       ·rw [if_pos c18] at H
        have c18b0 : (a1_0 == 2) = true := beq_iff_eq.mpr c18
        have c18b1 : (a1_0 != 2) = false := bne_eq_false_iff_eq.mpr c18
        clear c18
        (first | rw [c18b0] | rw [c18b1] | (simp only [i64_w, i32_w]; rw [c18b0]) | skip)
        have H' := Aside0.mk H
        clear H
        have hcz19_0 : wc.cell? ⟨gb328, 0, none⟩ = some (.int .i64 a1_0) := (blk_cell BK328.out 0).trans rfl
        have hcz19_1 : wc.cell? ⟨gb328, 1, none⟩ = some (.slice A1_1 l1_1.length c1_1) := (blk_cell BK328.out 1).trans rfl
        have hcz19_2 : wc.cell? ⟨gb328, 2, none⟩ = some (.int .i64 a1_2) := (blk_cell BK328.out 2).trans rfl
        have hcz19_3 : wc.cell? ⟨gb328, 3, none⟩ = some (.int .i64 a1_3) := (blk_cell BK328.out 3).trans rfl
        have hcz19_4 : wc.cell? ⟨gb328, 4, none⟩ = some (.int .i64 a1_4) := (blk_cell BK328.out 4).trans rfl
        have hfz19_0 := blk_frozen BK328.out 0
        have hfz19_1 := blk_frozen BK328.out 1
        have hfz19_2 := blk_frozen BK328.out 2
        have hfz19_3 := blk_frozen BK328.out 3
        have hfz19_4 := blk_frozen BK328.out 4
        go_wp2
        repeat (go_quiet (fail); try go_wp2)
        go_meet
        case rel => exact ⟨_, ((a2 == 0)), z7_, H', ⟨z127_⟩, ⟨z18_⟩, ⟨z5_⟩⟩
       ·rw [if_neg c18] at H
        have c18b0 : (a1_0 == 2) = false := beq_eq_false_iff_ne.mpr c18
        have c18b1 : (a1_0 != 2) = true := bne_iff_ne.mpr c18
        (first | rw [c18b0] | rw [c18b1] | (simp only [i64_w, i32_w]; rw [c18b0]) | skip)
        have H' := Aside0.mk H
        clear H
        have hcz20_0 : wc.cell? ⟨gb328, 0, none⟩ = some (.int .i64 a1_0) := (blk_cell BK328.out 0).trans rfl
        have hcz20_1 : wc.cell? ⟨gb328, 1, none⟩ = some (.slice A1_1 l1_1.length c1_1) := (blk_cell BK328.out 1).trans rfl
        have hcz20_2 : wc.cell? ⟨gb328, 2, none⟩ = some (.int .i64 a1_2) := (blk_cell BK328.out 2).trans rfl
        have hcz20_3 : wc.cell? ⟨gb328, 3, none⟩ = some (.int .i64 a1_3) := (blk_cell BK328.out 3).trans rfl
        have hcz20_4 : wc.cell? ⟨gb328, 4, none⟩ = some (.int .i64 a1_4) := (blk_cell BK328.out 4).trans rfl
        have hfz20_0 := blk_frozen BK328.out 0
        have hfz20_1 := blk_frozen BK328.out 1
        have hfz20_2 := blk_frozen BK328.out 2
        have hfz20_3 := blk_frozen BK328.out 3
        have hfz20_4 := blk_frozen BK328.out 4
        go_wp2
        repeat (go_quiet (fail); try go_wp2)
        go_meet
        case rel => exact ⟨_, (false), z7_, H', ⟨z127_⟩, ⟨z18_⟩, ⟨z5_⟩⟩
      case rest =>
       clear HC17
       try clear c1
       try clear p2
       try clear c5
       try clear c6
       try clear c6b0
       try clear c9
       try clear c12
       try clear c12b0
       try clear c12b1
       try clear c16
       try clear c18
       try clear c18b0
       try clear c18b1
       try clear hcz11_0
       try clear hcz11_1
       try clear hcz11_2
       try clear hcz11_3
       try clear hcz11_4
       try clear hcz13_0
       try clear hcz13_1
       try clear hcz13_2
       try clear hcz13_3
       try clear hcz13_4
       try clear hcz15_0
       try clear hcz15_1
       try clear hcz15_2
       try clear hcz15_3
       try clear hcz15_4
       try clear hcz19_0
       try clear hcz19_1
       try clear hcz19_2
       try clear hcz19_3
       try clear hcz19_4
       try clear hcz20_0
       try clear hcz20_1
       try clear hcz20_2
       try clear hcz20_3
       try clear hcz20_4
       try clear hcz8_0
       try clear hcz8_1
       try clear hcz8_2
       try clear hcz8_3
       try clear hcz8_4
       try clear hfz11_0
       try clear hfz11_1
       try clear hfz11_2
       try clear hfz11_3
       try clear hfz11_4
       try clear hfz13_0
       try clear hfz13_1
       try clear hfz13_2
       try clear hfz13_3
       try clear hfz13_4
       try clear hfz15_0
       try clear hfz15_1
       try clear hfz15_2
       try clear hfz15_3
       try clear hfz15_4
       try clear hfz19_0
       try clear hfz19_1
       try clear hfz19_2
       try clear hfz19_3
       try clear hfz19_4
       try clear hfz20_0
       try clear hfz20_1
       try clear hfz20_2
       try clear hfz20_3
       try clear hfz20_4
       try clear hfz8_0
       try clear hfz8_1
       try clear hfz8_2
       try clear hfz8_3
       try clear hfz8_4
       try clear p2
       obtain ⟨kq, x32_16, rfl, HA, HJ16, BK328, HB⟩ := hcut
       cases kq with
       | zero => exact absurd HA.out (by simp [impl_opCode.j1])
       | succ kj16 =>
        have H := HA.out
        clear HA
        simp only [impl_opCode.j1] at H
        by_cases c21 : x32_16 = true
        ·subst c21
         replace H := ift_ H
         simp only [Option.some.injEq, Prod.mk.injEq] at H
         obtain ⟨rfl, rfl, rfl⟩ := H
         go_wp2
         repeat (go_quiet (fail); try go_wp2)
         go_ret3
         exact ⟨z4_, z5_⟩
        ·replace c21 := Bool.eq_false_iff.mpr c21
         subst c21
         replace H := iff_ H
         by_cases c22 : a1_0 = 3
         ·rw [if_pos c22] at H
          have c22b0 : (a1_0 == 3) = true := beq_iff_eq.mpr c22
          have c22b1 : (a1_0 != 3) = false := bne_eq_false_iff_eq.mpr c22
          clear c22
          obtain ⟨t331, A23, H⟩ := bnd_ H
          have HC24 := Aside0.mk H
          clear H
          have hcz25_0 : wc.cell? ⟨gb328, 0, none⟩ = some (.int .i64 a1_0) := (blk_cell BK328.out 0).trans rfl
          have hcz25_1 : wc.cell? ⟨gb328, 1, none⟩ = some (.slice A1_1 l1_1.length c1_1) := (blk_cell BK328.out 1).trans rfl
          have hcz25_2 : wc.cell? ⟨gb328, 2, none⟩ = some (.int .i64 a1_2) := (blk_cell BK328.out 2).trans rfl
          have hcz25_3 : wc.cell? ⟨gb328, 3, none⟩ = some (.int .i64 a1_3) := (blk_cell BK328.out 3).trans rfl
          have hcz25_4 : wc.cell? ⟨gb328, 4, none⟩ = some (.int .i64 a1_4) := (blk_cell BK328.out 4).trans rfl
          have hfz25_0 := blk_frozen BK328.out 0
          have hfz25_1 := blk_frozen BK328.out 1
          have hfz25_2 := blk_frozen BK328.out 2
          have hfz25_3 := blk_frozen BK328.out 3
          have hfz25_4 := blk_frozen BK328.out 4
          go_upto_region 12 with (first | (go_at_call 106; (with_reducible refine (impl_KidsOf.calls kj16 _ _ l0 a2 t331 _ ?side1 ?side2 A23.out).mono ?_); (case side1 => exact z2_); (case side2 => exact HC0.out); rintro e w26 ⟨v332, rfl, ho0, hb⟩; have HO333 := Aside0.mk (Kd.R_lower ho0 (below_size z5_)); replace BK328 := Aside0.mk (blk_below (g := gb328) (o := .cells #[.int .i64 a1_0, .slice A1_1 l1_1.length c1_1, .int .i64 a1_2, .int .i64 a1_3, .int .i64 a1_4] 78 (0, 0)) z18_ hb); replace HB := Aside0.mk (below_step z5_ hb); (try clear hb ho0)))
          repeat (go_quiet (first | (go_at_call 106; (with_reducible refine (impl_KidsOf.calls kj16 _ _ l0 a2 t331 _ ?side1 ?side2 A23.out).mono ?_); (case side1 => exact z2_); (case side2 => exact HC0.out); rintro e w26 ⟨v332, rfl, ho0, hb⟩; have HO333 := Aside0.mk (Kd.R_lower ho0 (below_size z5_)); replace BK328 := Aside0.mk (blk_below (g := gb328) (o := .cells #[.int .i64 a1_0, .slice A1_1 l1_1.length c1_1, .int .i64 a1_2, .int .i64 a1_3, .int .i64 a1_4] 78 (0, 0)) z18_ hb); replace HB := Aside0.mk (below_step z5_ hb); (try clear hb ho0))); go_upto_region 12 with (first | (go_at_call 106; (with_reducible refine (impl_KidsOf.calls kj16 _ _ l0 a2 t331 _ ?side1 ?side2 A23.out).mono ?_); (case side1 => exact z2_); (case side2 => exact HC0.out); rintro e w26 ⟨v332, rfl, ho0, hb⟩; have HO333 := Aside0.mk (Kd.R_lower ho0 (below_size z5_)); replace BK328 := Aside0.mk (blk_below (g := gb328) (o := .cells #[.int .i64 a1_0, .slice A1_1 l1_1.length c1_1, .int .i64 a1_2, .int .i64 a1_3, .int .i64 a1_4] 78 (0, 0)) z18_ hb); replace HB := Aside0.mk (below_step z5_ hb); (try clear hb ho0))))
          (try simp only [Act.put, List.setIfInBounds_toArray, List.set_cons_zero, List.set_cons_succ])
          go_cut [63] (fun v63 wc => ∃ (kq : Nat) (x63_23 : Bool), v63 = .bool x63_23 ∧ Aside0 (impl_opCode.j2 kq l0 a2 t331 x63_23 a1_0 l1_1 a1_2 a1_3 a1_4 = some (r1, r2, r3)) ∧ Aside0 (kq ≤ kj16) ∧ Aside0 (Kd.R (Kd.int .i64) 3 wc w.heap.size (fun _ => True) v332 t331) ∧ Aside0 (wc.heap[gb328]? = some (.cells #[.int .i64 a1_0, (.slice A1_1 l1_1.length c1_1), .int .i64 a1_2, .int .i64 a1_3, .int .i64 a1_4] 78 (0, 0))) ∧ Aside0 (Below w.heap.size w wc))
          case first =>
           have H := HC24.out
           clear HC24
           obtain ⟨t334, A27, H⟩ := bnd_ H
           by_cases c28 : t334 = true
           ·subst c28
            replace H := ift_ H
            obtain ⟨t335, A29, H⟩ := bnd_ H
            have H' := Aside0.mk H
            clear H
            have hcz30_0 : w26.cell? ⟨gb328, 0, none⟩ = some (.int .i64 a1_0) := (blk_cell BK328.out 0).trans rfl
            have hcz30_1 : w26.cell? ⟨gb328, 1, none⟩ = some (.slice A1_1 l1_1.length c1_1) := (blk_cell BK328.out 1).trans rfl
            have hcz30_2 : w26.cell? ⟨gb328, 2, none⟩ = some (.int .i64 a1_2) := (blk_cell BK328.out 2).trans rfl
            have hcz30_3 : w26.cell? ⟨gb328, 3, none⟩ = some (.int .i64 a1_3) := (blk_cell BK328.out 3).trans rfl
            have hcz30_4 : w26.cell? ⟨gb328, 4, none⟩ = some (.int .i64 a1_4) := (blk_cell BK328.out 4).trans rfl
            have hfz30_0 := blk_frozen BK328.out 0
            have hfz30_1 := blk_frozen BK328.out 1
            have hfz30_2 := blk_frozen BK328.out 2
            have hfz30_3 := blk_frozen BK328.out 3
            have hfz30_4 := blk_frozen BK328.out 4
            obtain ⟨Ao31, co31, eo31⟩ := Kd.R_slice HO333.out
            subst eo31
            go_wp2_with (first | (go_at_call 63; (with_reducible refine (impl_within.calls a1_3 0 (t331.length : Int) true _ A27.out).mono ?_); rintro e w' ⟨rfl, ⟨nd, rfl⟩⟩; (try first | exact ⟨rfl, _, World.drewN_drewN _ _ _⟩ | exact ⟨rfl, _, Eq.trans (World.drewN_drewN _ _ _) (congrArg (World.drewN _) (Nat.add_assoc _ _ _))⟩)) | (go_at_call 63; (with_reducible refine (impl_within.calls a1_4 0 (wrap64 ((t331.length : Int) - a1_3)) t335 _ A29.out).mono ?_); rintro e w' ⟨rfl, ⟨nd, rfl⟩⟩; (try first | exact ⟨rfl, _, World.drewN_drewN _ _ _⟩ | exact ⟨rfl, _, Eq.trans (World.drewN_drewN _ _ _) (congrArg (World.drewN _) (Nat.add_assoc _ _ _))⟩)))
            repeat (go_quiet (first | (go_at_call 63; (with_reducible refine (impl_within.calls a1_3 0 (t331.length : Int) true _ A27.out).mono ?_); rintro e w' ⟨rfl, ⟨nd, rfl⟩⟩; (try first | exact ⟨rfl, _, World.drewN_drewN _ _ _⟩ | exact ⟨rfl, _, Eq.trans (World.drewN_drewN _ _ _) (congrArg (World.drewN _) (Nat.add_assoc _ _ _))⟩)) | (go_at_call 63; (with_reducible refine (impl_within.calls a1_4 0 (wrap64 ((t331.length : Int) - a1_3)) t335 _ A29.out).mono ?_); rintro e w' ⟨rfl, ⟨nd, rfl⟩⟩; (try first | exact ⟨rfl, _, World.drewN_drewN _ _ _⟩ | exact ⟨rfl, _, Eq.trans (World.drewN_drewN _ _ _) (congrArg (World.drewN _) (Nat.add_assoc _ _ _))⟩))); try go_wp2_with (first | (go_at_call 63; (with_reducible refine (impl_within.calls a1_3 0 (t331.length : Int) true _ A27.out).mono ?_); rintro e w' ⟨rfl, ⟨nd, rfl⟩⟩; (try first | exact ⟨rfl, _, World.drewN_drewN _ _ _⟩ | exact ⟨rfl, _, Eq.trans (World.drewN_drewN _ _ _) (congrArg (World.drewN _) (Nat.add_assoc _ _ _))⟩)) | (go_at_call 63; (with_reducible refine (impl_within.calls a1_4 0 (wrap64 ((t331.length : Int) - a1_3)) t335 _ A29.out).mono ?_); rintro e w' ⟨rfl, ⟨nd, rfl⟩⟩; (try first | exact ⟨rfl, _, World.drewN_drewN _ _ _⟩ | exact ⟨rfl, _, Eq.trans (World.drewN_drewN _ _ _) (congrArg (World.drewN _) (Nat.add_assoc _ _ _))⟩))))
            go_meet
            case rel => exact ⟨_, (!t335), z7_, H', ⟨z118_⟩, ⟨z134_⟩, ⟨z18_⟩, ⟨z5_⟩⟩
           ·replace c28 := Bool.eq_false_iff.mpr c28
            subst c28
            replace H := iff_ H
            have H' := Aside0.mk H
            clear H
            have hcz32_0 : w26.cell? ⟨gb328, 0, none⟩ = some (.int .i64 a1_0) := (blk_cell BK328.out 0).trans rfl
            have hcz32_1 : w26.cell? ⟨gb328, 1, none⟩ = some (.slice A1_1 l1_1.length c1_1) := (blk_cell BK328.out 1).trans rfl
            have hcz32_2 : w26.cell? ⟨gb328, 2, none⟩ = some (.int .i64 a1_2) := (blk_cell BK328.out 2).trans rfl
            have hcz32_3 : w26.cell? ⟨gb328, 3, none⟩ = some (.int .i64 a1_3) := (blk_cell BK328.out 3).trans rfl
            have hcz32_4 : w26.cell? ⟨gb328, 4, none⟩ = some (.int .i64 a1_4) := (blk_cell BK328.out 4).trans rfl
            have hfz32_0 := blk_frozen BK328.out 0
            have hfz32_1 := blk_frozen BK328.out 1
            have hfz32_2 := blk_frozen BK328.out 2
            have hfz32_3 := blk_frozen BK328.out 3
            have hfz32_4 := blk_frozen BK328.out 4
            obtain ⟨Ao33, co33, eo33⟩ := Kd.R_slice HO333.out
            subst eo33
            go_wp2_with (first | (go_at_call 63; (with_reducible refine (impl_within.calls a1_3 0 (t331.length : Int) false _ A27.out).mono ?_); rintro e w' ⟨rfl, ⟨nd, rfl⟩⟩; (try first | exact ⟨rfl, _, World.drewN_drewN _ _ _⟩ | exact ⟨rfl, _, Eq.trans (World.drewN_drewN _ _ _) (congrArg (World.drewN _) (Nat.add_assoc _ _ _))⟩)))
            repeat (go_quiet (first | (go_at_call 63; (with_reducible refine (impl_within.calls a1_3 0 (t331.length : Int) false _ A27.out).mono ?_); rintro e w' ⟨rfl, ⟨nd, rfl⟩⟩; (try first | exact ⟨rfl, _, World.drewN_drewN _ _ _⟩ | exact ⟨rfl, _, Eq.trans (World.drewN_drewN _ _ _) (congrArg (World.drewN _) (Nat.add_assoc _ _ _))⟩))); try go_wp2_with (first | (go_at_call 63; (with_reducible refine (impl_within.calls a1_3 0 (t331.length : Int) false _ A27.out).mono ?_); rintro e w' ⟨rfl, ⟨nd, rfl⟩⟩; (try first | exact ⟨rfl, _, World.drewN_drewN _ _ _⟩ | exact ⟨rfl, _, Eq.trans (World.drewN_drewN _ _ _) (congrArg (World.drewN _) (Nat.add_assoc _ _ _))⟩))))
            go_meet
            case rel => exact ⟨_, (true), z7_, H', ⟨z118_⟩, ⟨z134_⟩, ⟨z18_⟩, ⟨z5_⟩⟩
          case rest =>
           clear HC24
           try clear c1
           try clear c2
           try clear p2
           try clear c5
           try clear c6
           try clear c6b0
           try clear p6
           try clear c9
           try clear c12
           try clear c12b0
           try clear c12b1
           try clear c16
           try clear c18
           try clear c18b0
           try clear c18b1
           try clear c21
           try clear c22
           try clear c22b0
           try clear c22b1
           try clear c28
           try clear hcz11_0
           try clear hcz11_1
           try clear hcz11_2
           try clear hcz11_3
           try clear hcz11_4
           try clear hcz13_0
           try clear hcz13_1
           try clear hcz13_2
           try clear hcz13_3
           try clear hcz13_4
           try clear hcz15_0
           try clear hcz15_1
           try clear hcz15_2
           try clear hcz15_3
           try clear hcz15_4
           try clear hcz19_0
           try clear hcz19_1
           try clear hcz19_2
           try clear hcz19_3
           try clear hcz19_4
           try clear hcz20_0
           try clear hcz20_1
           try clear hcz20_2
           try clear hcz20_3
           try clear hcz20_4
           try clear hcz25_0
           try clear hcz25_1
           try clear hcz25_2
           try clear hcz25_3
           try clear hcz25_4
           try clear hcz30_0
           try clear hcz30_1
           try clear hcz30_2
           try clear hcz30_3
           try clear hcz30_4
           try clear hcz32_0
           try clear hcz32_1
           try clear hcz32_2
           try clear hcz32_3
           try clear hcz32_4
           try clear hcz8_0
           try clear hcz8_1
           try clear hcz8_2
           try clear hcz8_3
           try clear hcz8_4
           try clear hfz11_0
           try clear hfz11_1
           try clear hfz11_2
           try clear hfz11_3
           try clear hfz11_4
           try clear hfz13_0
           try clear hfz13_1
           try clear hfz13_2
           try clear hfz13_3
           try clear hfz13_4
           try clear hfz15_0
           try clear hfz15_1
           try clear hfz15_2
           try clear hfz15_3
           try clear hfz15_4
           try clear hfz19_0
           try clear hfz19_1
           try clear hfz19_2
           try clear hfz19_3
           try clear hfz19_4
           try clear hfz20_0
           try clear hfz20_1
           try clear hfz20_2
           try clear hfz20_3
           try clear hfz20_4
           try clear hfz25_0
           try clear hfz25_1
           try clear hfz25_2
           try clear hfz25_3
           try clear hfz25_4
           try clear hfz30_0
           try clear hfz30_1
           try clear hfz30_2
           try clear hfz30_3
           try clear hfz30_4
           try clear hfz32_0
           try clear hfz32_1
           try clear hfz32_2
           try clear hfz32_3
           try clear hfz32_4
           try clear hfz8_0
           try clear hfz8_1
           try clear hfz8_2
           try clear hfz8_3
           try clear hfz8_4
           try clear p2
           obtain ⟨kq, x63_23, rfl, HA, HJ23, HO_9, BK328, HB⟩ := hcut
           cases kq with
           | zero => exact absurd HA.out (by simp [impl_opCode.j2])
           | succ kj23 =>
            have H := HA.out
            clear HA
            simp only [impl_opCode.j2] at H
            by_cases c34 : x63_23 = true
            ·subst c34
             replace H := ift_ H
             simp only [Option.some.injEq, Prod.mk.injEq] at H
             obtain ⟨rfl, rfl, rfl⟩ := H
             go_wp2
             repeat (go_quiet (fail); try go_wp2)
             go_ret3
             exact ⟨z4_, z5_⟩
            ·replace c34 := Bool.eq_false_iff.mpr c34
             subst c34
             replace H := iff_ H
             obtain ⟨t336, A35, H⟩ := bnd_ H
             obtain ⟨c36, H⟩ := ifs_ H
             have LMc36 := Aside0.mk c36
             clear c36
             obtain ⟨y337, hy337⟩ : ∃ y_ : List Int, y_ = (t331 ++ [t336]) := ⟨_, rfl⟩
             replace H : (if 0 ≤ a1_3 then (if a1_3 < (y337.length : Int) then (if 0 ≤ (wrap64 (a1_3 + a1_4)) then (if (wrap64 (a1_3 + a1_4)) < (y337.length : Int) then (if 0 ≤ a2 then (if a2 < (l0.length : Int) then (if 0 ≤ (rd y337 a1_3) then (if (rd y337 a1_3) ≤ (rd y337 (wrap64 (a1_3 + a1_4))) then (if (rd y337 (wrap64 (a1_3 + a1_4))) ≤ (l0.length : Int) then ((some ((l0.take ((rd y337 (wrap64 (a1_3 + a1_4))) : Int).toNat).drop ((rd y337 a1_3) : Int).toNat : List (S80))).bind fun y343 => (impl_opCode.l0 kj23 l0 (rd y337 a1_3) (rd y337 (wrap64 (a1_3 + a1_4))) (wrap64 (((rd_T80 l0 a2).f1) + 1)) y343 (y343.length : Int) 0)) else (none)) else (none)) else (none)) else (none)) else (none)) else (none)) else (none)) else (none)) else (none)) = some (r1, r2, r3) := by first | (rw [hy337]; with_reducible exact H) | (have H2_ := (Option.bind_some _ _).symm.trans H; rw [hy337]; with_reducible exact H2_) | (have H2_ := (Option.bind_some _ _).symm.trans H; with_reducible exact H2_) | with_reducible exact H | (rw [hy337]; exact H) | exact H
             have Ny337 := Aside0.mk hy337
             clear hy337
             obtain ⟨c37b0, H⟩ := ifd_ H
             obtain ⟨c38b0, H⟩ := ifd_ H
             obtain ⟨ji39, hji39⟩ : ∃ j_ : Int, (wrap64 (a1_3 + a1_4)) = j_ := ⟨_, rfl⟩
             replace H : (if 0 ≤ (ji39) then (if (ji39) < (y337.length : Int) then (if 0 ≤ a2 then (if a2 < (l0.length : Int) then (if 0 ≤ (rd y337 a1_3) then (if (rd y337 a1_3) ≤ (rd y337 (ji39)) then (if (rd y337 (ji39)) ≤ (l0.length : Int) then ((some ((l0.take ((rd y337 (ji39)) : Int).toNat).drop ((rd y337 a1_3) : Int).toNat : List (S80))).bind fun y343 => (impl_opCode.l0 kj23 l0 (rd y337 a1_3) (rd y337 (ji39)) (wrap64 (((rd_T80 l0 a2).f1) + 1)) y343 (y343.length : Int) 0)) else (none)) else (none)) else (none)) else (none)) else (none)) else (none)) else (none)) = some (r1, r2, r3) := by first | (rw [hji39] at H; exact H) | (simp only [hji39] at H ⊢; exact H)
             (try rw [hji39] at A35)
             have hji39w : (IntKind.i64.wrap (a1_3 + a1_4)) = ji39 := (i64_w _).trans hji39
             obtain ⟨c40b0, H⟩ := ifd_ H
             obtain ⟨c41b0, H⟩ := ifd_ H
             obtain ⟨c42b0, H⟩ := ifd_ H
             obtain ⟨c43b0, H⟩ := ifd_ H
             obtain ⟨c44b0, c44b1, H⟩ := ife_ H
             obtain ⟨c45b0, c45b1, H⟩ := ife_ H
             obtain ⟨c46b0, c46b1, H⟩ := ife_ H
             obtain ⟨y343, hy343⟩ : ∃ y_ : List (S80), y_ = ((l0.take ((rd y337 (ji39)) : Int).toNat).drop ((rd y337 a1_3) : Int).toNat) := ⟨_, rfl⟩
             replace H : (impl_opCode.l0 kj23 l0 (rd y337 a1_3) (rd y337 (ji39)) (wrap64 (((rd_T80 l0 a2).f1) + 1)) y343 (y343.length : Int) 0) = some (r1, r2, r3) := by first | (rw [hy343]; with_reducible exact H) | (have H2_ := (Option.bind_some _ _).symm.trans H; rw [hy343]; with_reducible exact H2_) | (have H2_ := (Option.bind_some _ _).symm.trans H; with_reducible exact H2_) | with_reducible exact H | (rw [hy343]; exact H) | exact H
             have Ny343 := Aside0.mk hy343
             clear hy343
             have H' := Aside0.mk H
             clear H
             go_wp2_with (first | (go_at_call 97; (with_reducible refine (impl_endOf.calls kj23 _ _ l0 a2 t336 _ ?side1 ?side2 A35.out).mono ?_); (case side1 => exact z2_); (case side2 => exact HC0.out); rintro e w' ⟨rfl, ⟨nd, rfl⟩⟩; (try first | exact ⟨rfl, _, World.drewN_drewN _ _ _⟩ | exact ⟨rfl, _, Eq.trans (World.drewN_drewN _ _ _) (congrArg (World.drewN _) (Nat.add_assoc _ _ _))⟩)) | ((with_reducible refine gate_builtin (b := .append) (xs := #[.tmp 64, .tmp 68]) rfl ?_); (try (refine gate_guard (by rfl) ?_; dsimp only)); at_builtin; refine Kd.R_append (Kd.int .i64) (w0 := w) w.heap.size rfl (.tmp 64) (.tmp 68) 61 3 (.int .i64 0) 8 rfl Try.underlying61 info3 rfl (by decide) (by omega) v332 t331 t336 [.int .i64 t336] (fun _ => True) (fun _ => False) rfl rfl ?aP (fun _ hk => hk.elim) ?aF ?aO ?aB ?aS ?aL ?_; (case aP => exact rfl); (case aB => exact z74_); (case aF => exact z87_); (case aO => exact z59_); (case aS => exact z72_); (case aL => exact z149_); intro v338 w47 ho hb hg hat; rw [← Ny337.out] at ho; replace BK328 := Aside0.mk (blk_grown (g := gb328) (o := .cells #[.int .i64 a1_0, .slice A1_1 l1_1.length c1_1, .int .i64 a1_2, .int .i64 a1_3, .int .i64 a1_4] 78 (0, 0)) z18_ hg (Kd.R_ne HO_9.out BK328.out (by decide))); replace HB := Aside0.mk (hb); have HO339 := Aside0.mk (ho); clear HO_9; clear ho hb hg hat; have hcz48_0 : w47.cell? ⟨gb328, 0, none⟩ = some (.int .i64 a1_0) := (blk_cell BK328.out 0).trans rfl; have hcz48_1 : w47.cell? ⟨gb328, 1, none⟩ = some (.slice A1_1 l1_1.length c1_1) := (blk_cell BK328.out 1).trans rfl; have hcz48_2 : w47.cell? ⟨gb328, 2, none⟩ = some (.int .i64 a1_2) := (blk_cell BK328.out 2).trans rfl; have hcz48_3 : w47.cell? ⟨gb328, 3, none⟩ = some (.int .i64 a1_3) := (blk_cell BK328.out 3).trans rfl; have hcz48_4 : w47.cell? ⟨gb328, 4, none⟩ = some (.int .i64 a1_4) := (blk_cell BK328.out 4).trans rfl; have hfz48_0 := blk_frozen BK328.out 0; have hfz48_1 := blk_frozen BK328.out 1; have hfz48_2 := blk_frozen BK328.out 2; have hfz48_3 := blk_frozen BK328.out 3; have hfz48_4 := blk_frozen BK328.out 4; obtain ⟨Ao49, co49, eo49⟩ := Kd.R_slice HO339.out; subst eo49; have p340 : 0 ≤ (a1_3 : Int) := odt_; have q340 : a1_3 < (y337.length : Int) := odt_; obtain ⟨ad340, e340, hx340_0⟩ := Kd.at_int (Kd.R_reads' HO339.out).2.2 a1_3 p340 q340; cases e340; replace p340 := eq_true p340; replace q340 := eq_true q340; have p341 : 0 ≤ ((ji39) : Int) := odt_; have q341 : (ji39) < (y337.length : Int) := odt_; obtain ⟨ad341, e341, hx341_0⟩ := Kd.at_int (Kd.R_reads' HO339.out).2.2 (ji39) p341 q341; obtain rfl : ad340 = ad341 := (by injection e341); replace p341 := eq_true p341; replace q341 := eq_true q341; have p342 : 0 ≤ (a2 : Int) := odt_; have q342 : a2 < (l0.length : Int) := odt_; obtain ⟨ad342, e342, hx342_0, hx342_1⟩ := at_T80 HR0.out a2 p342 q342; cases e342; replace hx342_0 := (HB.out.cell (World.block_lt_of_cell? w _ hx342_0)).trans hx342_0; replace hx342_1 := (HB.out.cell (World.block_lt_of_cell? w _ hx342_1)).trans hx342_1; replace p342 := eq_true p342; replace q342 := eq_true q342; have q50 : ((rd y337 (ji39)) : Int) ≤ ((l0.length : Int) : Int) := odt_; obtain ⟨i050, hi050, _, hsz50, _⟩ := info_parts info80; have hroom50 : l0.length ≤ c0 := HC0.out; have hC50 : Kd.C k80 _ (some ad342) l0.length l0 := HR0.out; have ql50 : ((rd y337 a1_3) : Int) ≤ ((rd y337 (ji39)) : Int) := odt_; have q050 : (0 : Int) ≤ ((rd y337 a1_3) : Int) := odt_; have hcut50 := cut_mid (P := Try.prog) 29 80 .i64 .i64 Try.underlying29 hi050 2 hsz50 (some ad342) l0.length c0 (rd y337 a1_3) (rd y337 (ji39)) q050 ql50 q50 hroom50; have hr50 := Kd.C_mid (lo := ((rd y337 a1_3) : Int).toNat) (hi := ((rd y337 (ji39)) : Int).toNat) (c := c0) hC50 (by omega) (by omega) hroom50; obtain ⟨A50, hA50⟩ : ∃ A1, A1 = (if c0 = ((rd y337 a1_3) : Int).toNat then (some ad342) else ((some ad342) : Option Addr).map (·.add (((rd y337 a1_3) : Int).toNat * 2))) := ⟨_, rfl⟩; obtain ⟨c50, hc50⟩ : ∃ c1, c1 = c0 - ((rd y337 a1_3) : Int).toNat := ⟨_, rfl⟩; have hy50 : y343.length = ((rd y337 (ji39)) : Int).toNat - ((rd y337 a1_3) : Int).toNat := z143_; rw [show ((l0).take ((rd y337 (ji39)) : Int).toNat).drop ((rd y337 a1_3) : Int).toNat = y343 from Ny343.out.symm] at hr50; replace hr50 : Kd.C k80 _ A50 y343.length y343 := (by rw [hA50]; exact hr50); rw [← hy50, ← hA50, ← hc50] at hcut50; have HR346 := Aside0.mk hr50; have HC346 := Aside0.mk (show y343.length ≤ c50 from by rw [hy50, hc50]; exact Nat.sub_le_sub_right (Nat.le_trans (by omega) hroom50) _); clear hr50 hC50 hroom50 hi050 hsz50 hc50; have KY50 := Aside0.mk hy50; have KA50 := Aside0.mk hA50; clear hy50 hA50; replace q50 := eq_true q50))
             repeat (go_quiet (first | (go_at_call 97; (with_reducible refine (impl_endOf.calls kj23 _ _ l0 a2 t336 _ ?side1 ?side2 A35.out).mono ?_); (case side1 => exact z2_); (case side2 => exact HC0.out); rintro e w' ⟨rfl, ⟨nd, rfl⟩⟩; (try first | exact ⟨rfl, _, World.drewN_drewN _ _ _⟩ | exact ⟨rfl, _, Eq.trans (World.drewN_drewN _ _ _) (congrArg (World.drewN _) (Nat.add_assoc _ _ _))⟩)) | ((with_reducible refine gate_builtin (b := .append) (xs := #[.tmp 64, .tmp 68]) rfl ?_); (try (refine gate_guard (by rfl) ?_; dsimp only)); at_builtin; refine Kd.R_append (Kd.int .i64) (w0 := w) w.heap.size rfl (.tmp 64) (.tmp 68) 61 3 (.int .i64 0) 8 rfl Try.underlying61 info3 rfl (by decide) (by omega) v332 t331 t336 [.int .i64 t336] (fun _ => True) (fun _ => False) rfl rfl ?aP (fun _ hk => hk.elim) ?aF ?aO ?aB ?aS ?aL ?_; (case aP => exact rfl); (case aB => exact z74_); (case aF => exact z87_); (case aO => exact z59_); (case aS => exact z72_); (case aL => exact z149_); intro v338 w47 ho hb hg hat; rw [← Ny337.out] at ho; replace BK328 := Aside0.mk (blk_grown (g := gb328) (o := .cells #[.int .i64 a1_0, .slice A1_1 l1_1.length c1_1, .int .i64 a1_2, .int .i64 a1_3, .int .i64 a1_4] 78 (0, 0)) z18_ hg (Kd.R_ne HO_9.out BK328.out (by decide))); replace HB := Aside0.mk (hb); have HO339 := Aside0.mk (ho); clear HO_9; clear ho hb hg hat; have hcz48_0 : w47.cell? ⟨gb328, 0, none⟩ = some (.int .i64 a1_0) := (blk_cell BK328.out 0).trans rfl; have hcz48_1 : w47.cell? ⟨gb328, 1, none⟩ = some (.slice A1_1 l1_1.length c1_1) := (blk_cell BK328.out 1).trans rfl; have hcz48_2 : w47.cell? ⟨gb328, 2, none⟩ = some (.int .i64 a1_2) := (blk_cell BK328.out 2).trans rfl; have hcz48_3 : w47.cell? ⟨gb328, 3, none⟩ = some (.int .i64 a1_3) := (blk_cell BK328.out 3).trans rfl; have hcz48_4 : w47.cell? ⟨gb328, 4, none⟩ = some (.int .i64 a1_4) := (blk_cell BK328.out 4).trans rfl; have hfz48_0 := blk_frozen BK328.out 0; have hfz48_1 := blk_frozen BK328.out 1; have hfz48_2 := blk_frozen BK328.out 2; have hfz48_3 := blk_frozen BK328.out 3; have hfz48_4 := blk_frozen BK328.out 4; obtain ⟨Ao49, co49, eo49⟩ := Kd.R_slice HO339.out; subst eo49; have p340 : 0 ≤ (a1_3 : Int) := odt_; have q340 : a1_3 < (y337.length : Int) := odt_; obtain ⟨ad340, e340, hx340_0⟩ := Kd.at_int (Kd.R_reads' HO339.out).2.2 a1_3 p340 q340; cases e340; replace p340 := eq_true p340; replace q340 := eq_true q340; have p341 : 0 ≤ ((ji39) : Int) := odt_; have q341 : (ji39) < (y337.length : Int) := odt_; obtain ⟨ad341, e341, hx341_0⟩ := Kd.at_int (Kd.R_reads' HO339.out).2.2 (ji39) p341 q341; obtain rfl : ad340 = ad341 := (by injection e341); replace p341 := eq_true p341; replace q341 := eq_true q341; have p342 : 0 ≤ (a2 : Int) := odt_; have q342 : a2 < (l0.length : Int) := odt_; obtain ⟨ad342, e342, hx342_0, hx342_1⟩ := at_T80 HR0.out a2 p342 q342; cases e342; replace hx342_0 := (HB.out.cell (World.block_lt_of_cell? w _ hx342_0)).trans hx342_0; replace hx342_1 := (HB.out.cell (World.block_lt_of_cell? w _ hx342_1)).trans hx342_1; replace p342 := eq_true p342; replace q342 := eq_true q342; have q50 : ((rd y337 (ji39)) : Int) ≤ ((l0.length : Int) : Int) := odt_; obtain ⟨i050, hi050, _, hsz50, _⟩ := info_parts info80; have hroom50 : l0.length ≤ c0 := HC0.out; have hC50 : Kd.C k80 _ (some ad342) l0.length l0 := HR0.out; have ql50 : ((rd y337 a1_3) : Int) ≤ ((rd y337 (ji39)) : Int) := odt_; have q050 : (0 : Int) ≤ ((rd y337 a1_3) : Int) := odt_; have hcut50 := cut_mid (P := Try.prog) 29 80 .i64 .i64 Try.underlying29 hi050 2 hsz50 (some ad342) l0.length c0 (rd y337 a1_3) (rd y337 (ji39)) q050 ql50 q50 hroom50; have hr50 := Kd.C_mid (lo := ((rd y337 a1_3) : Int).toNat) (hi := ((rd y337 (ji39)) : Int).toNat) (c := c0) hC50 (by omega) (by omega) hroom50; obtain ⟨A50, hA50⟩ : ∃ A1, A1 = (if c0 = ((rd y337 a1_3) : Int).toNat then (some ad342) else ((some ad342) : Option Addr).map (·.add (((rd y337 a1_3) : Int).toNat * 2))) := ⟨_, rfl⟩; obtain ⟨c50, hc50⟩ : ∃ c1, c1 = c0 - ((rd y337 a1_3) : Int).toNat := ⟨_, rfl⟩; have hy50 : y343.length = ((rd y337 (ji39)) : Int).toNat - ((rd y337 a1_3) : Int).toNat := z143_; rw [show ((l0).take ((rd y337 (ji39)) : Int).toNat).drop ((rd y337 a1_3) : Int).toNat = y343 from Ny343.out.symm] at hr50; replace hr50 : Kd.C k80 _ A50 y343.length y343 := (by rw [hA50]; exact hr50); rw [← hy50, ← hA50, ← hc50] at hcut50; have HR346 := Aside0.mk hr50; have HC346 := Aside0.mk (show y343.length ≤ c50 from by rw [hy50, hc50]; exact Nat.sub_le_sub_right (Nat.le_trans (by omega) hroom50) _); clear hr50 hC50 hroom50 hi050 hsz50 hc50; have KY50 := Aside0.mk hy50; have KA50 := Aside0.mk hA50; clear hy50 hA50; replace q50 := eq_true q50)); try go_wp2_with (first | (go_at_call 97; (with_reducible refine (impl_endOf.calls kj23 _ _ l0 a2 t336 _ ?side1 ?side2 A35.out).mono ?_); (case side1 => exact z2_); (case side2 => exact HC0.out); rintro e w' ⟨rfl, ⟨nd, rfl⟩⟩; (try first | exact ⟨rfl, _, World.drewN_drewN _ _ _⟩ | exact ⟨rfl, _, Eq.trans (World.drewN_drewN _ _ _) (congrArg (World.drewN _) (Nat.add_assoc _ _ _))⟩)) | ((with_reducible refine gate_builtin (b := .append) (xs := #[.tmp 64, .tmp 68]) rfl ?_); (try (refine gate_guard (by rfl) ?_; dsimp only)); at_builtin; refine Kd.R_append (Kd.int .i64) (w0 := w) w.heap.size rfl (.tmp 64) (.tmp 68) 61 3 (.int .i64 0) 8 rfl Try.underlying61 info3 rfl (by decide) (by omega) v332 t331 t336 [.int .i64 t336] (fun _ => True) (fun _ => False) rfl rfl ?aP (fun _ hk => hk.elim) ?aF ?aO ?aB ?aS ?aL ?_; (case aP => exact rfl); (case aB => exact z74_); (case aF => exact z87_); (case aO => exact z59_); (case aS => exact z72_); (case aL => exact z149_); intro v338 w47 ho hb hg hat; rw [← Ny337.out] at ho; replace BK328 := Aside0.mk (blk_grown (g := gb328) (o := .cells #[.int .i64 a1_0, .slice A1_1 l1_1.length c1_1, .int .i64 a1_2, .int .i64 a1_3, .int .i64 a1_4] 78 (0, 0)) z18_ hg (Kd.R_ne HO_9.out BK328.out (by decide))); replace HB := Aside0.mk (hb); have HO339 := Aside0.mk (ho); clear HO_9; clear ho hb hg hat; have hcz48_0 : w47.cell? ⟨gb328, 0, none⟩ = some (.int .i64 a1_0) := (blk_cell BK328.out 0).trans rfl; have hcz48_1 : w47.cell? ⟨gb328, 1, none⟩ = some (.slice A1_1 l1_1.length c1_1) := (blk_cell BK328.out 1).trans rfl; have hcz48_2 : w47.cell? ⟨gb328, 2, none⟩ = some (.int .i64 a1_2) := (blk_cell BK328.out 2).trans rfl; have hcz48_3 : w47.cell? ⟨gb328, 3, none⟩ = some (.int .i64 a1_3) := (blk_cell BK328.out 3).trans rfl; have hcz48_4 : w47.cell? ⟨gb328, 4, none⟩ = some (.int .i64 a1_4) := (blk_cell BK328.out 4).trans rfl; have hfz48_0 := blk_frozen BK328.out 0; have hfz48_1 := blk_frozen BK328.out 1; have hfz48_2 := blk_frozen BK328.out 2; have hfz48_3 := blk_frozen BK328.out 3; have hfz48_4 := blk_frozen BK328.out 4; obtain ⟨Ao49, co49, eo49⟩ := Kd.R_slice HO339.out; subst eo49; have p340 : 0 ≤ (a1_3 : Int) := odt_; have q340 : a1_3 < (y337.length : Int) := odt_; obtain ⟨ad340, e340, hx340_0⟩ := Kd.at_int (Kd.R_reads' HO339.out).2.2 a1_3 p340 q340; cases e340; replace p340 := eq_true p340; replace q340 := eq_true q340; have p341 : 0 ≤ ((ji39) : Int) := odt_; have q341 : (ji39) < (y337.length : Int) := odt_; obtain ⟨ad341, e341, hx341_0⟩ := Kd.at_int (Kd.R_reads' HO339.out).2.2 (ji39) p341 q341; obtain rfl : ad340 = ad341 := (by injection e341); replace p341 := eq_true p341; replace q341 := eq_true q341; have p342 : 0 ≤ (a2 : Int) := odt_; have q342 : a2 < (l0.length : Int) := odt_; obtain ⟨ad342, e342, hx342_0, hx342_1⟩ := at_T80 HR0.out a2 p342 q342; cases e342; replace hx342_0 := (HB.out.cell (World.block_lt_of_cell? w _ hx342_0)).trans hx342_0; replace hx342_1 := (HB.out.cell (World.block_lt_of_cell? w _ hx342_1)).trans hx342_1; replace p342 := eq_true p342; replace q342 := eq_true q342; have q50 : ((rd y337 (ji39)) : Int) ≤ ((l0.length : Int) : Int) := odt_; obtain ⟨i050, hi050, _, hsz50, _⟩ := info_parts info80; have hroom50 : l0.length ≤ c0 := HC0.out; have hC50 : Kd.C k80 _ (some ad342) l0.length l0 := HR0.out; have ql50 : ((rd y337 a1_3) : Int) ≤ ((rd y337 (ji39)) : Int) := odt_; have q050 : (0 : Int) ≤ ((rd y337 a1_3) : Int) := odt_; have hcut50 := cut_mid (P := Try.prog) 29 80 .i64 .i64 Try.underlying29 hi050 2 hsz50 (some ad342) l0.length c0 (rd y337 a1_3) (rd y337 (ji39)) q050 ql50 q50 hroom50; have hr50 := Kd.C_mid (lo := ((rd y337 a1_3) : Int).toNat) (hi := ((rd y337 (ji39)) : Int).toNat) (c := c0) hC50 (by omega) (by omega) hroom50; obtain ⟨A50, hA50⟩ : ∃ A1, A1 = (if c0 = ((rd y337 a1_3) : Int).toNat then (some ad342) else ((some ad342) : Option Addr).map (·.add (((rd y337 a1_3) : Int).toNat * 2))) := ⟨_, rfl⟩; obtain ⟨c50, hc50⟩ : ∃ c1, c1 = c0 - ((rd y337 a1_3) : Int).toNat := ⟨_, rfl⟩; have hy50 : y343.length = ((rd y337 (ji39)) : Int).toNat - ((rd y337 a1_3) : Int).toNat := z143_; rw [show ((l0).take ((rd y337 (ji39)) : Int).toNat).drop ((rd y337 a1_3) : Int).toNat = y343 from Ny343.out.symm] at hr50; replace hr50 : Kd.C k80 _ A50 y343.length y343 := (by rw [hA50]; exact hr50); rw [← hy50, ← hA50, ← hc50] at hcut50; have HR346 := Aside0.mk hr50; have HC346 := Aside0.mk (show y343.length ≤ c50 from by rw [hy50, hc50]; exact Nat.sub_le_sub_right (Nat.le_trans (by omega) hroom50) _); clear hr50 hC50 hroom50 hi050 hsz50 hc50; have KY50 := Aside0.mk hy50; have KA50 := Aside0.mk hA50; clear hy50 hA50; replace q50 := eq_true q50)))
             go_loopg [11, 94] kj23 (fun kq v11 v94 w' => ∃ (x11_4 : Int) (x94_4 : Int), v11 = .int .i64 x11_4 ∧ v94 = .int .i64 x94_4 ∧ Aside0 (impl_opCode.l0 kq l0 (rd y337 a1_3) (rd y337 (ji39)) x11_4 y343 (y343.length : Int) x94_4 = some (r1, r2, r3)) ∧ Aside0 (kq ≤ kj23) ∧ Aside0 (w'.heap[gb328]? = some (.cells #[.int .i64 a1_0, (.slice A1_1 l1_1.length c1_1), .int .i64 a1_2, .int .i64 a1_3, .int .i64 a1_4] 78 (0, 0))) ∧ Aside0 (Below w.heap.size w w'))
             case atStart => exact ⟨(wrap64 (((rd_T80 l0 a2).f1) + 1)), (0), z7_, z7_, H', ⟨Nat.le_refl _⟩, ⟨z18_⟩, ⟨z5_⟩⟩
             case round =>
              clear H'
              try clear c1
              try clear c2
              try clear p2
              try clear c3
              try clear p3
              try clear q3
              try clear hx3
              try clear c4
              try clear c5
              try clear q5
              try clear c6
              try clear c6b0
              try clear p6
              try clear c9
              try clear c12
              try clear c12b0
              try clear c12b1
              try clear c16
              try clear c18
              try clear c18b0
              try clear c18b1
              try clear c21
              try clear c22
              try clear c22b0
              try clear c22b1
              try clear c28
              try clear c34
              try clear p34
              try clear q34
              try clear hx34
              try clear c36
              try clear c37
              try clear c37b0
              try clear c38
              try clear c38b0
              try clear c40
              try clear c40b0
              try clear c41
              try clear c41b0
              try clear c42
              try clear c42b0
              try clear c43
              try clear c43b0
              try clear c44
              try clear c44b0
              try clear c44b1
              try clear c45
              try clear c45b0
              try clear c45b1
              try clear c46
              try clear c46b0
              try clear c46b1
              try clear c50
              try clear q50
              try clear hcz11_0
              try clear hcz11_1
              try clear hcz11_2
              try clear hcz11_3
              try clear hcz11_4
              try clear hcz13_0
              try clear hcz13_1
              try clear hcz13_2
              try clear hcz13_3
              try clear hcz13_4
              try clear hcz15_0
              try clear hcz15_1
              try clear hcz15_2
              try clear hcz15_3
              try clear hcz15_4
              try clear hcz19_0
              try clear hcz19_1
              try clear hcz19_2
              try clear hcz19_3
              try clear hcz19_4
              try clear hcz20_0
              try clear hcz20_1
              try clear hcz20_2
              try clear hcz20_3
              try clear hcz20_4
              try clear hcz25_0
              try clear hcz25_1
              try clear hcz25_2
              try clear hcz25_3
              try clear hcz25_4
              try clear hcz30_0
              try clear hcz30_1
              try clear hcz30_2
              try clear hcz30_3
              try clear hcz30_4
              try clear hcz32_0
              try clear hcz32_1
              try clear hcz32_2
              try clear hcz32_3
              try clear hcz32_4
              try clear hcz48_0
              try clear hcz48_1
              try clear hcz48_2
              try clear hcz48_3
              try clear hcz48_4
              try clear hcz8_0
              try clear hcz8_1
              try clear hcz8_2
              try clear hcz8_3
              try clear hcz8_4
              try clear hfz11_0
              try clear hfz11_1
              try clear hfz11_2
              try clear hfz11_3
              try clear hfz11_4
              try clear hfz13_0
              try clear hfz13_1
              try clear hfz13_2
              try clear hfz13_3
              try clear hfz13_4
              try clear hfz15_0
              try clear hfz15_1
              try clear hfz15_2
              try clear hfz15_3
              try clear hfz15_4
              try clear hfz19_0
              try clear hfz19_1
              try clear hfz19_2
              try clear hfz19_3
              try clear hfz19_4
              try clear hfz20_0
              try clear hfz20_1
              try clear hfz20_2
              try clear hfz20_3
              try clear hfz20_4
              try clear hfz25_0
              try clear hfz25_1
              try clear hfz25_2
              try clear hfz25_3
              try clear hfz25_4
              try clear hfz30_0
              try clear hfz30_1
              try clear hfz30_2
              try clear hfz30_3
              try clear hfz30_4
              try clear hfz32_0
              try clear hfz32_1
              try clear hfz32_2
              try clear hfz32_3
              try clear hfz32_4
              try clear hfz48_0
              try clear hfz48_1
              try clear hfz48_2
              try clear hfz48_3
              try clear hfz48_4
              try clear hfz8_0
              try clear hfz8_1
              try clear hfz8_2
              try clear hfz8_3
              try clear hfz8_4
              try clear hx340_0
              try clear hx341_0
              try clear hx342_0
              try clear hx342_1
              try clear p2
              try clear p340
              try clear p341
              try clear p342
              try clear p6
              try clear q050
              try clear q340
              try clear q341
              try clear q342
              try clear q50
              obtain ⟨x11_4, x94_4, rfl, rfl, HA, HK4, BK328, HB⟩ := hrel
              cases gk with
              | zero => exact absurd HA.out (by simp [impl_opCode.l0])
              | succ k4 =>
               have H := HA.out
               clear HA
               simp only [impl_opCode.l0] at H
               by_cases c51 : x94_4 < (y343.length : Int)
               ·rw [if_pos c51] at H
                have c51b0 : decide (x94_4 < (y343.length : Int)) = true := decide_eq_true c51
                clear c51
                obtain ⟨c52b0, H⟩ := ifd_ H
                obtain ⟨c53b0, H⟩ := ifd_ H
                obtain ⟨ji54, hji54⟩ : ∃ j_ : Int, (mx x11_4 (wrap64 (((rd_T80 y343 x94_4).f1) + 1))) = j_ := ⟨_, rfl⟩
                replace H : (impl_opCode.l0 k4 l0 (rd y337 a1_3) (rd y337 (ji39)) ji54 y343 (y343.length : Int) (wrap64 (x94_4 + 1))) = some (r1, r2, r3) := by first | (rw [hji54] at H; exact H) | (simp only [hji54] at H ⊢; exact H)
                have hji54_ : (if x11_4 < (wrap64 (((rd_T80 y343 x94_4).f1) + 1)) then (wrap64 (((rd_T80 y343 x94_4).f1) + 1)) else x11_4) = ji54 := hji54
                have H' := Aside0.mk H
                clear H
                obtain ⟨p347, q347, ad347, e347, hx347_0, hx347_1⟩ := atb80_ HR346 HB x94_4
                cases e347
                go_wp2_with (first | ((with_reducible refine gate_dst (N := 13) rfl ?_); (try (refine gate_guard (by rfl) ?_; dsimp only)); refine box_event ?hg (N := 13) ?hd (cs := #[.int .i64 0, .int .i64 0]) (t := 80) ?hr ?_; (case hd => rfl); (case hg => rfl); (case hr => exact z12_); intro gb348 hg w55 hbox hb; have BK348 := Aside0.mk (hbox); have GW348 := Aside0.mk ((by rw [hg]; exact (below_size z5_) : w.heap.size ≤ gb348)); have GE348 := Aside0.mk ((by rw [hg]; exact (below_size z5_) : w.heap.size ≤ gb348)); replace HB := Aside0.mk (below_step z5_ hb); have NB328_348 := Aside0.mk ((by rw [hg]; exact Nat.ne_of_lt (blk_lt (g := gb328) (o := .cells #[.int .i64 a1_0, .slice A1_1 l1_1.length c1_1, .int .i64 a1_2, .int .i64 a1_3, .int .i64 a1_4] 78 (0, 0)) z18_) : gb328 ≠ gb348)); have NB348_328 := Aside0.mk ((by rw [hg]; exact Nat.ne_of_gt (blk_lt (g := gb328) (o := .cells #[.int .i64 a1_0, .slice A1_1 l1_1.length c1_1, .int .i64 a1_2, .int .i64 a1_3, .int .i64 a1_4] 78 (0, 0)) z18_) : gb348 ≠ gb328)); replace BK328 := Aside0.mk (blk_below (g := gb328) (o := .cells #[.int .i64 a1_0, .slice A1_1 l1_1.length c1_1, .int .i64 a1_2, .int .i64 a1_3, .int .i64 a1_4] 78 (0, 0)) z18_ hb); clear hb hbox hg; have hnb56 := NB348_328.out; have hnc56 := NB328_348.out; have hcz57_0 : w55.cell? ⟨gb348, 0, none⟩ = some (.int .i64 0) := (blk_cell BK348.out 0).trans rfl; have hcz57_1 : w55.cell? ⟨gb348, 1, none⟩ = some (.int .i64 0) := (blk_cell BK348.out 1).trans rfl; have hfz57_0 := blk_frozen BK348.out 0; have hfz57_1 := blk_frozen BK348.out 1))
                repeat (go_quiet (first | ((with_reducible refine gate_dst (N := 13) rfl ?_); (try (refine gate_guard (by rfl) ?_; dsimp only)); refine box_event ?hg (N := 13) ?hd (cs := #[.int .i64 0, .int .i64 0]) (t := 80) ?hr ?_; (case hd => rfl); (case hg => rfl); (case hr => exact z12_); intro gb348 hg w55 hbox hb; have BK348 := Aside0.mk (hbox); have GW348 := Aside0.mk ((by rw [hg]; exact (below_size z5_) : w.heap.size ≤ gb348)); have GE348 := Aside0.mk ((by rw [hg]; exact (below_size z5_) : w.heap.size ≤ gb348)); replace HB := Aside0.mk (below_step z5_ hb); have NB328_348 := Aside0.mk ((by rw [hg]; exact Nat.ne_of_lt (blk_lt (g := gb328) (o := .cells #[.int .i64 a1_0, .slice A1_1 l1_1.length c1_1, .int .i64 a1_2, .int .i64 a1_3, .int .i64 a1_4] 78 (0, 0)) z18_) : gb328 ≠ gb348)); have NB348_328 := Aside0.mk ((by rw [hg]; exact Nat.ne_of_gt (blk_lt (g := gb328) (o := .cells #[.int .i64 a1_0, .slice A1_1 l1_1.length c1_1, .int .i64 a1_2, .int .i64 a1_3, .int .i64 a1_4] 78 (0, 0)) z18_) : gb348 ≠ gb328)); replace BK328 := Aside0.mk (blk_below (g := gb328) (o := .cells #[.int .i64 a1_0, .slice A1_1 l1_1.length c1_1, .int .i64 a1_2, .int .i64 a1_3, .int .i64 a1_4] 78 (0, 0)) z18_ hb); clear hb hbox hg; have hnb56 := NB348_328.out; have hnc56 := NB328_348.out; have hcz57_0 : w55.cell? ⟨gb348, 0, none⟩ = some (.int .i64 0) := (blk_cell BK348.out 0).trans rfl; have hcz57_1 : w55.cell? ⟨gb348, 1, none⟩ = some (.int .i64 0) := (blk_cell BK348.out 1).trans rfl; have hfz57_0 := blk_frozen BK348.out 0; have hfz57_1 := blk_frozen BK348.out 1)); try go_wp2_with (first | ((with_reducible refine gate_dst (N := 13) rfl ?_); (try (refine gate_guard (by rfl) ?_; dsimp only)); refine box_event ?hg (N := 13) ?hd (cs := #[.int .i64 0, .int .i64 0]) (t := 80) ?hr ?_; (case hd => rfl); (case hg => rfl); (case hr => exact z12_); intro gb348 hg w55 hbox hb; have BK348 := Aside0.mk (hbox); have GW348 := Aside0.mk ((by rw [hg]; exact (below_size z5_) : w.heap.size ≤ gb348)); have GE348 := Aside0.mk ((by rw [hg]; exact (below_size z5_) : w.heap.size ≤ gb348)); replace HB := Aside0.mk (below_step z5_ hb); have NB328_348 := Aside0.mk ((by rw [hg]; exact Nat.ne_of_lt (blk_lt (g := gb328) (o := .cells #[.int .i64 a1_0, .slice A1_1 l1_1.length c1_1, .int .i64 a1_2, .int .i64 a1_3, .int .i64 a1_4] 78 (0, 0)) z18_) : gb328 ≠ gb348)); have NB348_328 := Aside0.mk ((by rw [hg]; exact Nat.ne_of_gt (blk_lt (g := gb328) (o := .cells #[.int .i64 a1_0, .slice A1_1 l1_1.length c1_1, .int .i64 a1_2, .int .i64 a1_3, .int .i64 a1_4] 78 (0, 0)) z18_) : gb348 ≠ gb328)); replace BK328 := Aside0.mk (blk_below (g := gb328) (o := .cells #[.int .i64 a1_0, .slice A1_1 l1_1.length c1_1, .int .i64 a1_2, .int .i64 a1_3, .int .i64 a1_4] 78 (0, 0)) z18_ hb); clear hb hbox hg; have hnb56 := NB348_328.out; have hnc56 := NB328_348.out; have hcz57_0 : w55.cell? ⟨gb348, 0, none⟩ = some (.int .i64 0) := (blk_cell BK348.out 0).trans rfl; have hcz57_1 : w55.cell? ⟨gb348, 1, none⟩ = some (.int .i64 0) := (blk_cell BK348.out 1).trans rfl; have hfz57_0 := blk_frozen BK348.out 0; have hfz57_1 := blk_frozen BK348.out 1)))
                go_roundg k4
                case measure => have := HJ8.out; have := HJ16.out; have := HJ23.out; have := HK4.out; omega
                case rel => exact ⟨(ji54), (wrap64 (x94_4 + 1)), (by first | rfl | (simp; done) | (simp only [← hji54] <;> (first | rfl | simp)) | (simp [*]; done)), z7_, H', ⟨by have := HJ8.out; have := HJ16.out; have := HJ23.out; have := HK4.out; omega⟩, ⟨by (with_reducible repeat (first | refine blk_drewN ?_ _ | refine blk_drew ?_ | refine blk_alloc ?_ _)); refine blk_far ?_ NB328_348.out _; (with_reducible repeat (first | refine blk_drewN ?_ _ | refine blk_drew ?_ | refine blk_alloc ?_ _)); refine blk_far ?_ NB328_348.out _; (with_reducible repeat (first | refine blk_drewN ?_ _ | refine blk_drew ?_ | refine blk_alloc ?_ _)); exact BK328.out⟩, ⟨by repeat (first | (with_reducible first | exact HB.out | apply below_alloc | apply pw_below_drewN | apply below_drew1 | refine below_set ?_ GE328.out | refine below_set ?_ GE348.out) | exact HB.out)⟩⟩
               ·rw [if_neg c51] at H
                have c51b0 : decide (x94_4 < (y343.length : Int)) = false := decide_eq_false c51
                clear c51
                by_cases c58 : (l0.length : Int) = 24
                ·rw [if_pos c58] at H
                 have c58b0 : ((l0.length : Int) == 24) = true := beq_iff_eq.mpr c58
                 have c58b1 : ((l0.length : Int) != 24) = false := bne_eq_false_iff_eq.mpr c58
                 clear c58
                 simp only [Option.some.injEq, Prod.mk.injEq] at H
                 obtain ⟨rfl, rfl, rfl⟩ := H
                 go_wp2
                 repeat (go_quiet (fail); try go_wp2)
                 go_ret3
                 exact ⟨z41_, z5_⟩
                ·rw [if_neg c58] at H
                 have c58b0 : ((l0.length : Int) == 24) = false := beq_eq_false_iff_ne.mpr c58
                 have c58b1 : ((l0.length : Int) != 24) = true := bne_iff_ne.mpr c58
                 by_cases c59 : x11_4 > 12
                 ·rw [if_pos c59] at H
                  have c59b0 : decide (12 < x11_4) = true := decide_eq_true c59
                  clear c59
                  simp only [Option.some.injEq, Prod.mk.injEq] at H
                  obtain ⟨rfl, rfl, rfl⟩ := H
                  go_wp2
                  repeat (go_quiet (fail); try go_wp2)
                  go_ret3
                  exact ⟨z41_, z5_⟩
                 ·rw [if_neg c59] at H
                  have c59b0 : decide (12 < x11_4) = false := decide_eq_false c59
                  clear c59
                  simp only [Option.some.injEq, Prod.mk.injEq] at H
                  obtain ⟨rfl, rfl, rfl⟩ := H
                  go_wp2
                  repeat (go_quiet (fail); try go_wp2)
                  go_ret3
                  exact ⟨z41_, z5_⟩
         ·rw [if_neg c22] at H
          have c22b0 : (a1_0 == 3) = false := beq_eq_false_iff_ne.mpr c22
          have c22b1 : (a1_0 != 3) = true := bne_iff_ne.mpr c22
          simp only [Option.some.injEq, Prod.mk.injEq] at H
          obtain ⟨rfl, rfl, rfl⟩ := H
          have hcz60_0 : wc.cell? ⟨gb328, 0, none⟩ = some (.int .i64 a1_0) := (blk_cell BK328.out 0).trans rfl
          have hcz60_1 : wc.cell? ⟨gb328, 1, none⟩ = some (.slice A1_1 l1_1.length c1_1) := (blk_cell BK328.out 1).trans rfl
          have hcz60_2 : wc.cell? ⟨gb328, 2, none⟩ = some (.int .i64 a1_2) := (blk_cell BK328.out 2).trans rfl
          have hcz60_3 : wc.cell? ⟨gb328, 3, none⟩ = some (.int .i64 a1_3) := (blk_cell BK328.out 3).trans rfl
          have hcz60_4 : wc.cell? ⟨gb328, 4, none⟩ = some (.int .i64 a1_4) := (blk_cell BK328.out 4).trans rfl
          have hfz60_0 := blk_frozen BK328.out 0
          have hfz60_1 := blk_frozen BK328.out 1
          have hfz60_2 := blk_frozen BK328.out 2
          have hfz60_3 := blk_frozen BK328.out 3
          have hfz60_4 := blk_frozen BK328.out 4
          go_wp2
          repeat (go_quiet (fail); try go_wp2)
          go_ret3
          exact ⟨z4_, z5_⟩
 ·replace c5 := Bool.eq_false_iff.mpr c5
  subst c5
  replace H := iff_ H
  simp only [Option.some.injEq, Prod.mk.injEq] at H
  obtain ⟨rfl, rfl, rfl⟩ := H
  go_enter Try.func96, Try.ntmps96
  go_wp2_with (first | ((with_reducible refine gate_dst (N := 4) rfl ?_); (try (refine gate_guard (by rfl) ?_; dsimp only)); refine box_event ?hg (N := 4) ?hd (cs := #[.int .i64 a1_0, .slice A1_1 l1_1.length c1_1, .int .i64 a1_2, .int .i64 a1_3, .int .i64 a1_4]) (t := 78) ?hr ?_; (case hd => rfl); (case hg => rfl); (case hr => exact z12_); intro gb328 hg w61 hbox hb; have BK328 := Aside0.mk (hbox); have GW328 := Aside0.mk ((by rw [hg]; exact (below_size z0_) : w.heap.size ≤ gb328)); have GE328 := Aside0.mk ((by rw [hg]; exact (below_size z0_) : w.heap.size ≤ gb328)); replace HB := Aside0.mk (below_step z0_ hb); clear hb hbox hg; have hcz62_0 : w61.cell? ⟨gb328, 0, none⟩ = some (.int .i64 a1_0) := (blk_cell BK328.out 0).trans rfl; have hcz62_1 : w61.cell? ⟨gb328, 1, none⟩ = some (.slice A1_1 l1_1.length c1_1) := (blk_cell BK328.out 1).trans rfl; have hcz62_2 : w61.cell? ⟨gb328, 2, none⟩ = some (.int .i64 a1_2) := (blk_cell BK328.out 2).trans rfl; have hcz62_3 : w61.cell? ⟨gb328, 3, none⟩ = some (.int .i64 a1_3) := (blk_cell BK328.out 3).trans rfl; have hcz62_4 : w61.cell? ⟨gb328, 4, none⟩ = some (.int .i64 a1_4) := (blk_cell BK328.out 4).trans rfl; have hfz62_0 := blk_frozen BK328.out 0; have hfz62_1 := blk_frozen BK328.out 1; have hfz62_2 := blk_frozen BK328.out 2; have hfz62_3 := blk_frozen BK328.out 3; have hfz62_4 := blk_frozen BK328.out 4) | (go_at_call 63; (with_reducible refine (impl_within.calls a1_0 1 3 false _ A4.out).mono ?_); rintro e w' ⟨rfl, ⟨nd, rfl⟩⟩; (try first | exact ⟨rfl, _, World.drewN_drewN _ _ _⟩ | exact ⟨rfl, _, Eq.trans (World.drewN_drewN _ _ _) (congrArg (World.drewN _) (Nat.add_assoc _ _ _))⟩)))
  repeat (go_quiet (first | ((with_reducible refine gate_dst (N := 4) rfl ?_); (try (refine gate_guard (by rfl) ?_; dsimp only)); refine box_event ?hg (N := 4) ?hd (cs := #[.int .i64 a1_0, .slice A1_1 l1_1.length c1_1, .int .i64 a1_2, .int .i64 a1_3, .int .i64 a1_4]) (t := 78) ?hr ?_; (case hd => rfl); (case hg => rfl); (case hr => exact z12_); intro gb328 hg w61 hbox hb; have BK328 := Aside0.mk (hbox); have GW328 := Aside0.mk ((by rw [hg]; exact (below_size z0_) : w.heap.size ≤ gb328)); have GE328 := Aside0.mk ((by rw [hg]; exact (below_size z0_) : w.heap.size ≤ gb328)); replace HB := Aside0.mk (below_step z0_ hb); clear hb hbox hg; have hcz62_0 : w61.cell? ⟨gb328, 0, none⟩ = some (.int .i64 a1_0) := (blk_cell BK328.out 0).trans rfl; have hcz62_1 : w61.cell? ⟨gb328, 1, none⟩ = some (.slice A1_1 l1_1.length c1_1) := (blk_cell BK328.out 1).trans rfl; have hcz62_2 : w61.cell? ⟨gb328, 2, none⟩ = some (.int .i64 a1_2) := (blk_cell BK328.out 2).trans rfl; have hcz62_3 : w61.cell? ⟨gb328, 3, none⟩ = some (.int .i64 a1_3) := (blk_cell BK328.out 3).trans rfl; have hcz62_4 : w61.cell? ⟨gb328, 4, none⟩ = some (.int .i64 a1_4) := (blk_cell BK328.out 4).trans rfl; have hfz62_0 := blk_frozen BK328.out 0; have hfz62_1 := blk_frozen BK328.out 1; have hfz62_2 := blk_frozen BK328.out 2; have hfz62_3 := blk_frozen BK328.out 3; have hfz62_4 := blk_frozen BK328.out 4) | (go_at_call 63; (with_reducible refine (impl_within.calls a1_0 1 3 false _ A4.out).mono ?_); rintro e w' ⟨rfl, ⟨nd, rfl⟩⟩; (try first | exact ⟨rfl, _, World.drewN_drewN _ _ _⟩ | exact ⟨rfl, _, Eq.trans (World.drewN_drewN _ _ _) (congrArg (World.drewN _) (Nat.add_assoc _ _ _))⟩))); try go_wp2_with (first | ((with_reducible refine gate_dst (N := 4) rfl ?_); (try (refine gate_guard (by rfl) ?_; dsimp only)); refine box_event ?hg (N := 4) ?hd (cs := #[.int .i64 a1_0, .slice A1_1 l1_1.length c1_1, .int .i64 a1_2, .int .i64 a1_3, .int .i64 a1_4]) (t := 78) ?hr ?_; (case hd => rfl); (case hg => rfl); (case hr => exact z12_); intro gb328 hg w61 hbox hb; have BK328 := Aside0.mk (hbox); have GW328 := Aside0.mk ((by rw [hg]; exact (below_size z0_) : w.heap.size ≤ gb328)); have GE328 := Aside0.mk ((by rw [hg]; exact (below_size z0_) : w.heap.size ≤ gb328)); replace HB := Aside0.mk (below_step z0_ hb); clear hb hbox hg; have hcz62_0 : w61.cell? ⟨gb328, 0, none⟩ = some (.int .i64 a1_0) := (blk_cell BK328.out 0).trans rfl; have hcz62_1 : w61.cell? ⟨gb328, 1, none⟩ = some (.slice A1_1 l1_1.length c1_1) := (blk_cell BK328.out 1).trans rfl; have hcz62_2 : w61.cell? ⟨gb328, 2, none⟩ = some (.int .i64 a1_2) := (blk_cell BK328.out 2).trans rfl; have hcz62_3 : w61.cell? ⟨gb328, 3, none⟩ = some (.int .i64 a1_3) := (blk_cell BK328.out 3).trans rfl; have hcz62_4 : w61.cell? ⟨gb328, 4, none⟩ = some (.int .i64 a1_4) := (blk_cell BK328.out 4).trans rfl; have hfz62_0 := blk_frozen BK328.out 0; have hfz62_1 := blk_frozen BK328.out 1; have hfz62_2 := blk_frozen BK328.out 2; have hfz62_3 := blk_frozen BK328.out 3; have hfz62_4 := blk_frozen BK328.out 4) | (go_at_call 63; (with_reducible refine (impl_within.calls a1_0 1 3 false _ A4.out).mono ?_); rintro e w' ⟨rfl, ⟨nd, rfl⟩⟩; (try first | exact ⟨rfl, _, World.drewN_drewN _ _ _⟩ | exact ⟨rfl, _, Eq.trans (World.drewN_drewN _ _ _) (congrArg (World.drewN _) (Nat.add_assoc _ _ _))⟩))))
  go_ret3
  exact ⟨z4_, z5_⟩

end Go.Proofs.Ytdapeboajjidmaa.PFnExactDropIdle
