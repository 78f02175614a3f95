/- Laid by a program of this session out of the kit's print for the law FnExactDropIdle: what it says of the machine is proved here, function by function; each contract under the conditions that it names. -/
import Derived.Test.YtdapeboajjidmaaMFnExactDropIdlex0
import Derived.Test.YtdapeboajjidmaaMFnExactDropIdlex2
import Derived.Test.YtdapeboajjidmaaMFnExactDropIdlex4
namespace Go.Proofs.Ytdapeboajjidmaa.PFnExactDropIdle
open Go.RowKit Go.Proofs.YtdapeboajjidmaaW.PrintWords Go.Proofs.YtdapeboajjidmaaW.PrintLast Go.Proofs.YtdapeboajjidmaaW.PrintMore
attribute [local go_sem] max2_int min2_int max_two min_two max_three min_three max_four min_four   -- for this text's walks alone
set_option linter.unusedVariables false
set_option linter.unusedSimpArgs false

/-! ### spec_l13Code: function 90 -/
mutual
def spec_l13Code.j0 : Nat → List (S80) → Int → Bool → Int → List Int → Int → Int → Int → Option (Int × Int × Int)
 | 0, _, _, _, _, _, _, _, _ => none
 | k + 1, x0, x2, x22, x160000, x160001, x160002, x160003, x160004 => if x22 = true then (some (3, 0, 0)) else (if x160000 = 2 then (spec_l13Code.j1 k x0 x2 (x2 == 0) x160000 x160001 x160002 x160003 x160004) else (spec_l13Code.j1 k x0 x2 false x160000 x160001 x160002 x160003 x160004))
def spec_l13Code.j1 : Nat → List (S80) → Int → Bool → Int → List Int → Int → Int → Int → Option (Int × Int × Int)
 | 0, _, _, _, _, _, _, _, _ => none
 | k + 1, x0, x2, x32, x160000, x160001, x160002, x160003, x160004 => if x32 = true then (some (4, 0, 0)) else (if x160000 = 3 then ((spec_KidsOf.f k x0 x2).bind fun t162 => ((spec_l1In.f x160003 0 (t162.length : Int)).bind fun t165 => (if t165 = true then ((spec_l1In.f x160004 0 (wrap64 ((t162.length : Int) - x160003))).bind fun t166 => (spec_l13Code.j2 k x0 x2 t162 (!t166) x160000 x160001 x160002 x160003 x160004)) else (spec_l13Code.j2 k x0 x2 t162 true x160000 x160001 x160002 x160003 x160004)))) else (some (0, 0, 0)))
def spec_l13Code.j2 : Nat → List (S80) → Int → List Int → Bool → Int → List Int → Int → Int → Int → Option (Int × Int × Int)
 | 0, _, _, _, _, _, _, _, _, _ => none
 | k + 1, x0, x2, x9, x63, x160000, x160001, x160002, x160003, x160004 => if x63 = true then (some (5, 0, 0)) else ((spec_EndOf.f k x0 x2).bind fun t167 => (if x9.length < 17592186044416 then ((some (x9 ++ [t167] : List Int)).bind fun y168 => (if 0 ≤ x160003 then (if x160003 < (y168.length : Int) then (if 0 ≤ (wrap64 (x160003 + x160004)) then (if (wrap64 (x160003 + x160004)) < (y168.length : Int) then (if (x0.length : Int) = 24 then (some (6, 0, 0)) else (if 0 ≤ x2 then (if x2 < (x0.length : Int) then (spec_l13Code.l0 k x0 (rd y168 x160003) (rd y168 (wrap64 (x160003 + x160004))) (wrap64 (((rd_T80 x0 x2).f1) + 1)) (rd y168 x160003)) else (none)) else (none))) else (none)) else (none)) else (none)) else (none))) else (none)))
def spec_l13Code.l0 : Nat → List (S80) → Int → Int → Int → Int → Option (Int × Int × Int)
 | 0, _, _, _, _, _ => none
 | k + 1, x0, x10, x11, x12, x13 => if x13 < x11 then (if 0 ≤ x13 then (if x13 < (x0.length : Int) then (spec_l13Code.l0 k x0 x10 x11 (mx x12 (wrap64 (((rd_T80 x0 x13).f1) + 1))) (wrap64 (x13 + 1))) else (none)) else (none)) else (if x12 > 12 then (some (7, 0, 0)) else (some (0, x10, x11)))
end
def spec_l13Code.f (k : Nat) (l0 : List (S80)) (a1_0 : Int) (l1_1 : List Int) (a1_2 : Int) (a1_3 : Int) (a1_4 : Int) (a2 : Int) : Option (Int × Int × Int) := (spec_l1In.f a1_0 1 3).bind fun t160 => (if t160 = true then (if a2 < 0 then (some (2, 0, 0)) else (if a1_0 = 2 then (spec_l13Code.j0 k l0 a2 false a1_0 l1_1 a1_2 a1_3 a1_4) else ((spec_LabelOk.f a1_2).bind fun t161 => (spec_l13Code.j0 k l0 a2 (!t161) a1_0 l1_1 a1_2 a1_3 a1_4)))) else (some (1, 0, 0)))
theorem spec_l13Code.mono_l : ∀ k, (∀ y0 y1 y2 y3 y4 y5 y6 y7, LeO (spec_l13Code.j0 k y0 y1 y2 y3 y4 y5 y6 y7) (spec_l13Code.j0 (k + 1) y0 y1 y2 y3 y4 y5 y6 y7)) ∧ (∀ y0 y1 y2 y3 y4 y5 y6 y7, LeO (spec_l13Code.j1 k y0 y1 y2 y3 y4 y5 y6 y7) (spec_l13Code.j1 (k + 1) y0 y1 y2 y3 y4 y5 y6 y7)) ∧ (∀ y0 y1 y2 y3 y4 y5 y6 y7 y8, LeO (spec_l13Code.j2 k y0 y1 y2 y3 y4 y5 y6 y7 y8) (spec_l13Code.j2 (k + 1) y0 y1 y2 y3 y4 y5 y6 y7 y8)) ∧ (∀ y0 y1 y2 y3 y4, LeO (spec_l13Code.l0 k y0 y1 y2 y3 y4) (spec_l13Code.l0 (k + 1) y0 y1 y2 y3 y4))
 | 0 => ⟨fun _ _ _ _ _ _ _ _ r h => by simp [spec_l13Code.j0] at h, fun _ _ _ _ _ _ _ _ r h => by simp [spec_l13Code.j1] at h, fun _ _ _ _ _ _ _ _ _ r h => by simp [spec_l13Code.j2] at h, fun _ _ _ _ _ r h => by simp [spec_l13Code.l0] at h⟩
 | k + 1 => by
  obtain ⟨ih0, ih1, ih2, ih3⟩ := spec_l13Code.mono_l k
  refine ⟨?_, ?_, ?_, ?_⟩
  ·intro y0 y1 y2 y3 y4 y5 y6 y7
   unfold spec_l13Code.j0
   repeat' first | (with_reducible first | exact ih0 _ _ _ _ _ _ _ _ | exact ih1 _ _ _ _ _ _ _ _ | exact ih2 _ _ _ _ _ _ _ _ _ | exact ih3 _ _ _ _ _ | exact spec_EndOf.mono _ _ _ | exact spec_KidsOf.mono _ _ _ | exact LeO.refl _ | exact LeO.none _ | refine LeO.ite ?_ ?_ | refine LeO.bind ?_ (fun _ => ?_)) | exact ih0 _ _ _ _ _ _ _ _ | exact ih1 _ _ _ _ _ _ _ _ | exact ih2 _ _ _ _ _ _ _ _ _ | exact ih3 _ _ _ _ _ | exact spec_EndOf.mono _ _ _ | exact spec_KidsOf.mono _ _ _ | exact LeO.none _ | refine LeO.ite ?_ ?_ | refine LeO.bind ?_ (fun _ => ?_)
  ·intro y0 y1 y2 y3 y4 y5 y6 y7
   unfold spec_l13Code.j1
   repeat' first | (with_reducible first | exact ih0 _ _ _ _ _ _ _ _ | exact ih1 _ _ _ _ _ _ _ _ | exact ih2 _ _ _ _ _ _ _ _ _ | exact ih3 _ _ _ _ _ | exact spec_EndOf.mono _ _ _ | exact spec_KidsOf.mono _ _ _ | exact LeO.refl _ | exact LeO.none _ | refine LeO.ite ?_ ?_ | refine LeO.bind ?_ (fun _ => ?_)) | exact ih0 _ _ _ _ _ _ _ _ | exact ih1 _ _ _ _ _ _ _ _ | exact ih2 _ _ _ _ _ _ _ _ _ | exact ih3 _ _ _ _ _ | exact spec_EndOf.mono _ _ _ | exact spec_KidsOf.mono _ _ _ | exact LeO.none _ | refine LeO.ite ?_ ?_ | refine LeO.bind ?_ (fun _ => ?_)
  ·intro y0 y1 y2 y3 y4 y5 y6 y7 y8
   unfold spec_l13Code.j2
   repeat' first | (with_reducible first | exact ih0 _ _ _ _ _ _ _ _ | exact ih1 _ _ _ _ _ _ _ _ | exact ih2 _ _ _ _ _ _ _ _ _ | exact ih3 _ _ _ _ _ | exact spec_EndOf.mono _ _ _ | exact spec_KidsOf.mono _ _ _ | exact LeO.refl _ | exact LeO.none _ | refine LeO.ite ?_ ?_ | refine LeO.bind ?_ (fun _ => ?_)) | exact ih0 _ _ _ _ _ _ _ _ | exact ih1 _ _ _ _ _ _ _ _ | exact ih2 _ _ _ _ _ _ _ _ _ | exact ih3 _ _ _ _ _ | exact spec_EndOf.mono _ _ _ | exact spec_KidsOf.mono _ _ _ | exact LeO.none _ | refine LeO.ite ?_ ?_ | refine LeO.bind ?_ (fun _ => ?_)
  ·intro y0 y1 y2 y3 y4
   unfold spec_l13Code.l0
   repeat' first | (with_reducible first | exact ih0 _ _ _ _ _ _ _ _ | exact ih1 _ _ _ _ _ _ _ _ | exact ih2 _ _ _ _ _ _ _ _ _ | exact ih3 _ _ _ _ _ | exact spec_EndOf.mono _ _ _ | exact spec_KidsOf.mono _ _ _ | exact LeO.refl _ | exact LeO.none _ | refine LeO.ite ?_ ?_ | refine LeO.bind ?_ (fun _ => ?_)) | exact ih0 _ _ _ _ _ _ _ _ | exact ih1 _ _ _ _ _ _ _ _ | exact ih2 _ _ _ _ _ _ _ _ _ | exact ih3 _ _ _ _ _ | exact spec_EndOf.mono _ _ _ | exact spec_KidsOf.mono _ _ _ | exact LeO.none _ | refine LeO.ite ?_ ?_ | refine LeO.bind ?_ (fun _ => ?_)
theorem spec_l13Code.mono : ∀ a0 a1 a2 a3 a4 a5 a6 k, LeO (spec_l13Code.f k a0 a1 a2 a3 a4 a5 a6) (spec_l13Code.f (k + 1) a0 a1 a2 a3 a4 a5 a6) := by
 intro a0 a1 a2 a3 a4 a5 a6 k
 obtain ⟨ih0, ih1, ih2, ih3⟩ := spec_l13Code.mono_l k
 unfold spec_l13Code.f
 repeat' first | (with_reducible first | exact ih0 _ _ _ _ _ _ _ _ | exact ih1 _ _ _ _ _ _ _ _ | exact ih2 _ _ _ _ _ _ _ _ _ | exact ih3 _ _ _ _ _ | exact spec_EndOf.mono _ _ _ | exact spec_KidsOf.mono _ _ _ | exact LeO.refl _ | exact LeO.none _ | refine LeO.ite ?_ ?_ | refine LeO.bind ?_ (fun _ => ?_)) | exact ih0 _ _ _ _ _ _ _ _ | exact ih1 _ _ _ _ _ _ _ _ | exact ih2 _ _ _ _ _ _ _ _ _ | exact ih3 _ _ _ _ _ | exact spec_EndOf.mono _ _ _ | exact spec_KidsOf.mono _ _ _ | exact LeO.none _ | refine LeO.ite ?_ ?_ | refine LeO.bind ?_ (fun _ => ?_)
set_option maxHeartbeats 8000000 in
set_option maxRecDepth 100000 in
theorem spec_l13Code.calls (k : Nat) (A0 : Option Addr) (c0 : Nat) (l0 : List (S80)) (a1_0 : Int) (A1_1 : Option Addr) (c1_1 : Nat) (l1_1 : List Int) (a1_2 : Int) (a1_3 : Int) (a1_4 : Int) (a2 : Int) (r1 : Int) (r2 : Int) (r3 : Int) (w : World) (hr0 : Kd.C k80 w A0 l0.length l0) (hc0 : l0.length ≤ c0) (hr1_1 : Kd.C (Kd.int .i64) w A1_1 l1_1.length l1_1) (hc1_1 : l1_1.length ≤ c1_1) (h : spec_l13Code.f k l0 a1_0 l1_1 a1_2 a1_3 a1_4 a2 = some (r1, r2, r3)) :
  Calls Try.prog 90 #[.slice A0 l0.length c0, .agg #[.int .i64 a1_0, .slice A1_1 l1_1.length c1_1, .int .i64 a1_2, .int .i64 a1_3, .int .i64 a1_4], .int .i64 a2] w fun e w' => e = .returned (.tuple #[.int .i64 r1, .int .i64 r2, .int .i64 r3]) ∧ Below w.heap.size w w' := by
 have hu78 := Try.underlying78
 have HR0 := Aside0.mk hr0
 have HC0 := Aside0.mk hc0
 clear hr0 hc0
 have HR1_1 := Aside0.mk hr1_1
 have HC1_1 := Aside0.mk hc1_1
 clear hr1_1 hc1_1
 have HB := Aside0.mk (Below.refl w.heap.size w)
 have H : ((spec_l1In.f a1_0 1 3).bind fun t160 => (if t160 = true then (if a2 < 0 then (some (2, 0, 0)) else (if a1_0 = 2 then (spec_l13Code.j0 k l0 a2 false a1_0 l1_1 a1_2 a1_3 a1_4) else ((spec_LabelOk.f a1_2).bind fun t161 => (spec_l13Code.j0 k l0 a2 (!t161) a1_0 l1_1 a1_2 a1_3 a1_4)))) else (some (1, 0, 0)))) = some (r1, r2, r3) := h
 clear h
 obtain ⟨t160, A4, H⟩ := bnd_ H
 by_cases c5 : t160 = true
 ·subst c5
  replace H := ift_ H
  by_cases c6 : a2 < 0
  ·rw [if_pos c6] at H
   have c6b0 : decide (a2 < 0) = true := decide_eq_true c6
   clear c6
   simp only [Option.some.injEq, Prod.mk.injEq] at H
   obtain ⟨rfl, rfl, rfl⟩ := H
   go_enter Try.func90, Try.ntmps90
   go_wp2_with (first | ((with_reducible refine gate_dst (N := 4) rfl ?_); (try (refine gate_guard (by rfl) ?_; dsimp only)); refine box_event ?hg (N := 4) ?hd (cs := #[.int .i64 a1_0, .slice A1_1 l1_1.length c1_1, .int .i64 a1_2, .int .i64 a1_3, .int .i64 a1_4]) (t := 78) ?hr ?_; (case hd => rfl); (case hg => rfl); (case hr => exact z12_); intro gb159 hg w7 hbox hb; have BK159 := Aside0.mk (hbox); have GW159 := Aside0.mk ((by rw [hg]; exact (below_size z0_) : w.heap.size ≤ gb159)); have GE159 := Aside0.mk ((by rw [hg]; exact (below_size z0_) : w.heap.size ≤ gb159)); replace HB := Aside0.mk (below_step z0_ hb); clear hb hbox hg; have hcz8_0 : w7.cell? ⟨gb159, 0, none⟩ = some (.int .i64 a1_0) := (blk_cell BK159.out 0).trans rfl; have hcz8_1 : w7.cell? ⟨gb159, 1, none⟩ = some (.slice A1_1 l1_1.length c1_1) := (blk_cell BK159.out 1).trans rfl; have hcz8_2 : w7.cell? ⟨gb159, 2, none⟩ = some (.int .i64 a1_2) := (blk_cell BK159.out 2).trans rfl; have hcz8_3 : w7.cell? ⟨gb159, 3, none⟩ = some (.int .i64 a1_3) := (blk_cell BK159.out 3).trans rfl; have hcz8_4 : w7.cell? ⟨gb159, 4, none⟩ = some (.int .i64 a1_4) := (blk_cell BK159.out 4).trans rfl; have hfz8_0 := blk_frozen BK159.out 0; have hfz8_1 := blk_frozen BK159.out 1; have hfz8_2 := blk_frozen BK159.out 2; have hfz8_3 := blk_frozen BK159.out 3; have hfz8_4 := blk_frozen BK159.out 4) | ((with_reducible refine gate_callee (f := 60) rfl ?_); refine goesL_ (some 17) rfl rfl Try.func60 (by kernel_rfl) rfl #[.int .i64 a1_0, .int .i64 1, .int .i64 3] rfl z1_ ?_; (with_reducible refine (spec_l1In.calls a1_0 1 3 true _ A4.out).mono ?_); rintro e w' ⟨rfl, ⟨nd, rfl⟩⟩; refine ⟨_, rfl, ?_⟩))
   go_ret3
   exact ⟨z4_, z10_⟩
  ·rw [if_neg c6] at H
   have c6b0 : decide (a2 < 0) = false := decide_eq_false c6
   clear c6
   have HC9 := Aside0.mk H
   clear H
   go_enter Try.func90, Try.ntmps90
   go_upto_region 5 with (first | ((with_reducible refine gate_dst (N := 4) rfl ?_); (try (refine gate_guard (by rfl) ?_; dsimp only)); refine box_event ?hg (N := 4) ?hd (cs := #[.int .i64 a1_0, .slice A1_1 l1_1.length c1_1, .int .i64 a1_2, .int .i64 a1_3, .int .i64 a1_4]) (t := 78) ?hr ?_; (case hd => rfl); (case hg => rfl); (case hr => exact z12_); intro gb159 hg w10 hbox hb; have BK159 := Aside0.mk (hbox); have GW159 := Aside0.mk ((by rw [hg]; exact (below_size z0_) : w.heap.size ≤ gb159)); have GE159 := Aside0.mk ((by rw [hg]; exact (below_size z0_) : w.heap.size ≤ gb159)); replace HB := Aside0.mk (below_step z0_ hb); clear hb hbox hg; have hcz11_0 : w10.cell? ⟨gb159, 0, none⟩ = some (.int .i64 a1_0) := (blk_cell BK159.out 0).trans rfl; have hcz11_1 : w10.cell? ⟨gb159, 1, none⟩ = some (.slice A1_1 l1_1.length c1_1) := (blk_cell BK159.out 1).trans rfl; have hcz11_2 : w10.cell? ⟨gb159, 2, none⟩ = some (.int .i64 a1_2) := (blk_cell BK159.out 2).trans rfl; have hcz11_3 : w10.cell? ⟨gb159, 3, none⟩ = some (.int .i64 a1_3) := (blk_cell BK159.out 3).trans rfl; have hcz11_4 : w10.cell? ⟨gb159, 4, none⟩ = some (.int .i64 a1_4) := (blk_cell BK159.out 4).trans rfl; have hfz11_0 := blk_frozen BK159.out 0; have hfz11_1 := blk_frozen BK159.out 1; have hfz11_2 := blk_frozen BK159.out 2; have hfz11_3 := blk_frozen BK159.out 3; have hfz11_4 := blk_frozen BK159.out 4) | ((with_reducible refine gate_callee (f := 60) rfl ?_); refine goesL_ (some 17) rfl rfl Try.func60 (by kernel_rfl) rfl #[.int .i64 a1_0, .int .i64 1, .int .i64 3] rfl z1_ ?_; (with_reducible refine (spec_l1In.calls a1_0 1 3 true _ A4.out).mono ?_); rintro e w' ⟨rfl, ⟨nd, rfl⟩⟩; refine ⟨_, rfl, ?_⟩))
   (try simp only [Act.put, List.setIfInBounds_toArray, List.set_cons_zero, List.set_cons_succ])
   go_cut [22] (fun v22 wc => ∃ (kq : Nat) (x22_8 : Bool), v22 = .bool x22_8 ∧ Aside0 (spec_l13Code.j0 kq l0 a2 x22_8 a1_0 l1_1 a1_2 a1_3 a1_4 = some (r1, r2, r3)) ∧ Aside0 (kq ≤ k) ∧ Aside0 (wc.heap[gb159]? = some (.cells #[.int .i64 a1_0, (.slice A1_1 l1_1.length c1_1), .int .i64 a1_2, .int .i64 a1_3, .int .i64 a1_4] 78 (0, 0))) ∧ Aside0 (Below w.heap.size w wc))
   case first =>
    have H := HC9.out
    clear HC9
    by_cases c12 : a1_0 = 2
    ·rw [if_pos c12] at H
     have c12b0 : (a1_0 == 2) = true := beq_iff_eq.mpr c12
     have c12b1 : (a1_0 != 2) = false := bne_eq_false_iff_eq.mpr c12
     clear c12
     (first | rw [c12b0] | rw [c12b1] | (simp only [i64_w, i32_w]; rw [c12b0]) | skip)
     have H' := Aside0.mk H
     clear H
     have hcz13_0 : w10.cell? ⟨gb159, 0, none⟩ = some (.int .i64 a1_0) := (blk_cell BK159.out 0).trans rfl
     have hcz13_1 : w10.cell? ⟨gb159, 1, none⟩ = some (.slice A1_1 l1_1.length c1_1) := (blk_cell BK159.out 1).trans rfl
     have hcz13_2 : w10.cell? ⟨gb159, 2, none⟩ = some (.int .i64 a1_2) := (blk_cell BK159.out 2).trans rfl
     have hcz13_3 : w10.cell? ⟨gb159, 3, none⟩ = some (.int .i64 a1_3) := (blk_cell BK159.out 3).trans rfl
     have hcz13_4 : w10.cell? ⟨gb159, 4, none⟩ = some (.int .i64 a1_4) := (blk_cell BK159.out 4).trans rfl
     have hfz13_0 := blk_frozen BK159.out 0
     have hfz13_1 := blk_frozen BK159.out 1
     have hfz13_2 := blk_frozen BK159.out 2
     have hfz13_3 := blk_frozen BK159.out 3
     have hfz13_4 := blk_frozen BK159.out 4
     go_wp2
     go_meet
     case rel => exact ⟨_, (false), z7_, H', ⟨z148_⟩, ⟨z27_⟩, ⟨z10_⟩⟩
    ·rw [if_neg c12] at H
     have c12b0 : (a1_0 == 2) = false := beq_eq_false_iff_ne.mpr c12
     have c12b1 : (a1_0 != 2) = true := bne_iff_ne.mpr c12
     (first | rw [c12b0] | rw [c12b1] | (simp only [i64_w, i32_w]; rw [c12b0]) | skip)
     obtain ⟨t161, A14, H⟩ := bnd_ H
     have H' := Aside0.mk H
     clear H
     have hcz15_0 : w10.cell? ⟨gb159, 0, none⟩ = some (.int .i64 a1_0) := (blk_cell BK159.out 0).trans rfl
     have hcz15_1 : w10.cell? ⟨gb159, 1, none⟩ = some (.slice A1_1 l1_1.length c1_1) := (blk_cell BK159.out 1).trans rfl
     have hcz15_2 : w10.cell? ⟨gb159, 2, none⟩ = some (.int .i64 a1_2) := (blk_cell BK159.out 2).trans rfl
     have hcz15_3 : w10.cell? ⟨gb159, 3, none⟩ = some (.int .i64 a1_3) := (blk_cell BK159.out 3).trans rfl
     have hcz15_4 : w10.cell? ⟨gb159, 4, none⟩ = some (.int .i64 a1_4) := (blk_cell BK159.out 4).trans rfl
     have hfz15_0 := blk_frozen BK159.out 0
     have hfz15_1 := blk_frozen BK159.out 1
     have hfz15_2 := blk_frozen BK159.out 2
     have hfz15_3 := blk_frozen BK159.out 3
     have hfz15_4 := blk_frozen BK159.out 4
     go_wp2_with (first | (go_at_call 76; (with_reducible refine (spec_LabelOk.calls a1_2 t161 _ A14.out).mono ?_); rintro e w' ⟨rfl, ⟨nd, rfl⟩⟩))
     go_meet
     case rel => exact ⟨_, (!t161), z7_, H', ⟨z148_⟩, ⟨z27_⟩, ⟨z10_⟩⟩
   case rest =>
    clear HC9
    try clear c1
    try clear p2
    try clear c5
    try clear c6
    try clear c6b0
    try clear c9
    try clear c12
    try clear c12b0
    try clear c12b1
    try clear hcz11_0
    try clear hcz11_1
    try clear hcz11_2
    try clear hcz11_3
    try clear hcz11_4
    try clear hcz13_0
    try clear hcz13_1
    try clear hcz13_2
    try clear hcz13_3
    try clear hcz13_4
    try clear hcz15_0
    try clear hcz15_1
    try clear hcz15_2
    try clear hcz15_3
    try clear hcz15_4
    try clear hcz8_0
    try clear hcz8_1
    try clear hcz8_2
    try clear hcz8_3
    try clear hcz8_4
    try clear hfz11_0
    try clear hfz11_1
    try clear hfz11_2
    try clear hfz11_3
    try clear hfz11_4
    try clear hfz13_0
    try clear hfz13_1
    try clear hfz13_2
    try clear hfz13_3
    try clear hfz13_4
    try clear hfz15_0
    try clear hfz15_1
    try clear hfz15_2
    try clear hfz15_3
    try clear hfz15_4
    try clear hfz8_0
    try clear hfz8_1
    try clear hfz8_2
    try clear hfz8_3
    try clear hfz8_4
    obtain ⟨kq, x22_8, rfl, HA, HJ8, BK159, HB⟩ := hcut
    cases kq with
    | zero => exact absurd HA.out (by simp [spec_l13Code.j0])
    | succ kj8 =>
     have H := HA.out
     clear HA
     simp only [spec_l13Code.j0] at H
     by_cases c16 : x22_8 = true
     ·subst c16
      replace H := ift_ H
      simp only [Option.some.injEq, Prod.mk.injEq] at H
      obtain ⟨rfl, rfl, rfl⟩ := H
      go_wp2
      go_ret3
      exact ⟨z4_, z10_⟩
     ·replace c16 := Bool.eq_false_iff.mpr c16
      subst c16
      replace H := iff_ H
      have HC17 := Aside0.mk H
      clear H
      go_upto_region 7 with (fail)
      go_cut [32] (fun v32 wc => ∃ (kq : Nat) (x32_16 : Bool), v32 = .bool x32_16 ∧ Aside0 (spec_l13Code.j1 kq l0 a2 x32_16 a1_0 l1_1 a1_2 a1_3 a1_4 = some (r1, r2, r3)) ∧ Aside0 (kq ≤ kj8) ∧ Aside0 (wc.heap[gb159]? = some (.cells #[.int .i64 a1_0, (.slice A1_1 l1_1.length c1_1), .int .i64 a1_2, .int .i64 a1_3, .int .i64 a1_4] 78 (0, 0))) ∧ Aside0 (Below w.heap.size w wc))
      case first =>
       have H := HC17.out
       clear HC17
       by_cases c18 : a1_0 = 2
       ·rw [if_pos c18] at H
        have c18b0 : (a1_0 == 2) = true := beq_iff_eq.mpr c18
        have c18b1 : (a1_0 != 2) = false := bne_eq_false_iff_eq.mpr c18
        clear c18
        (first | rw [c18b0] | rw [c18b1] | (simp only [i64_w, i32_w]; rw [c18b0]) | skip)
        have H' := Aside0.mk H
        clear H
        have hcz19_0 : wc.cell? ⟨gb159, 0, none⟩ = some (.int .i64 a1_0) := (blk_cell BK159.out 0).trans rfl
        have hcz19_1 : wc.cell? ⟨gb159, 1, none⟩ = some (.slice A1_1 l1_1.length c1_1) := (blk_cell BK159.out 1).trans rfl
        have hcz19_2 : wc.cell? ⟨gb159, 2, none⟩ = some (.int .i64 a1_2) := (blk_cell BK159.out 2).trans rfl
        have hcz19_3 : wc.cell? ⟨gb159, 3, none⟩ = some (.int .i64 a1_3) := (blk_cell BK159.out 3).trans rfl
        have hcz19_4 : wc.cell? ⟨gb159, 4, none⟩ = some (.int .i64 a1_4) := (blk_cell BK159.out 4).trans rfl
        have hfz19_0 := blk_frozen BK159.out 0
        have hfz19_1 := blk_frozen BK159.out 1
        have hfz19_2 := blk_frozen BK159.out 2
        have hfz19_3 := blk_frozen BK159.out 3
        have hfz19_4 := blk_frozen BK159.out 4
        go_wp2
        go_meet
        case rel => exact ⟨_, ((a2 == 0)), z7_, H', ⟨z127_⟩, ⟨z27_⟩, ⟨z10_⟩⟩
       ·rw [if_neg c18] at H
        have c18b0 : (a1_0 == 2) = false := beq_eq_false_iff_ne.mpr c18
        have c18b1 : (a1_0 != 2) = true := bne_iff_ne.mpr c18
        (first | rw [c18b0] | rw [c18b1] | (simp only [i64_w, i32_w]; rw [c18b0]) | skip)
        have H' := Aside0.mk H
        clear H
        have hcz20_0 : wc.cell? ⟨gb159, 0, none⟩ = some (.int .i64 a1_0) := (blk_cell BK159.out 0).trans rfl
        have hcz20_1 : wc.cell? ⟨gb159, 1, none⟩ = some (.slice A1_1 l1_1.length c1_1) := (blk_cell BK159.out 1).trans rfl
        have hcz20_2 : wc.cell? ⟨gb159, 2, none⟩ = some (.int .i64 a1_2) := (blk_cell BK159.out 2).trans rfl
        have hcz20_3 : wc.cell? ⟨gb159, 3, none⟩ = some (.int .i64 a1_3) := (blk_cell BK159.out 3).trans rfl
        have hcz20_4 : wc.cell? ⟨gb159, 4, none⟩ = some (.int .i64 a1_4) := (blk_cell BK159.out 4).trans rfl
        have hfz20_0 := blk_frozen BK159.out 0
        have hfz20_1 := blk_frozen BK159.out 1
        have hfz20_2 := blk_frozen BK159.out 2
        have hfz20_3 := blk_frozen BK159.out 3
        have hfz20_4 := blk_frozen BK159.out 4
        go_wp2
        go_meet
        case rel => exact ⟨_, (false), z7_, H', ⟨z127_⟩, ⟨z27_⟩, ⟨z10_⟩⟩
      case rest =>
       clear HC17
       try clear c1
       try clear p2
       try clear c5
       try clear c6
       try clear c6b0
       try clear c9
       try clear c12
       try clear c12b0
       try clear c12b1
       try clear c16
       try clear c18
       try clear c18b0
       try clear c18b1
       try clear hcz11_0
       try clear hcz11_1
       try clear hcz11_2
       try clear hcz11_3
       try clear hcz11_4
       try clear hcz13_0
       try clear hcz13_1
       try clear hcz13_2
       try clear hcz13_3
       try clear hcz13_4
       try clear hcz15_0
       try clear hcz15_1
       try clear hcz15_2
       try clear hcz15_3
       try clear hcz15_4
       try clear hcz19_0
       try clear hcz19_1
       try clear hcz19_2
       try clear hcz19_3
       try clear hcz19_4
       try clear hcz20_0
       try clear hcz20_1
       try clear hcz20_2
       try clear hcz20_3
       try clear hcz20_4
       try clear hcz8_0
       try clear hcz8_1
       try clear hcz8_2
       try clear hcz8_3
       try clear hcz8_4
       try clear hfz11_0
       try clear hfz11_1
       try clear hfz11_2
       try clear hfz11_3
       try clear hfz11_4
       try clear hfz13_0
       try clear hfz13_1
       try clear hfz13_2
       try clear hfz13_3
       try clear hfz13_4
       try clear hfz15_0
       try clear hfz15_1
       try clear hfz15_2
       try clear hfz15_3
       try clear hfz15_4
       try clear hfz19_0
       try clear hfz19_1
       try clear hfz19_2
       try clear hfz19_3
       try clear hfz19_4
       try clear hfz20_0
       try clear hfz20_1
       try clear hfz20_2
       try clear hfz20_3
       try clear hfz20_4
       try clear hfz8_0
       try clear hfz8_1
       try clear hfz8_2
       try clear hfz8_3
       try clear hfz8_4
       try clear p2
       obtain ⟨kq, x32_16, rfl, HA, HJ16, BK159, HB⟩ := hcut
       cases kq with
       | zero => exact absurd HA.out (by simp [spec_l13Code.j1])
       | succ kj16 =>
        have H := HA.out
        clear HA
        simp only [spec_l13Code.j1] at H
        by_cases c21 : x32_16 = true
        ·subst c21
         replace H := ift_ H
         simp only [Option.some.injEq, Prod.mk.injEq] at H
         obtain ⟨rfl, rfl, rfl⟩ := H
         go_wp2
         go_ret3
         exact ⟨z4_, z10_⟩
        ·replace c21 := Bool.eq_false_iff.mpr c21
         subst c21
         replace H := iff_ H
         by_cases c22 : a1_0 = 3
         ·rw [if_pos c22] at H
          have c22b0 : (a1_0 == 3) = true := beq_iff_eq.mpr c22
          have c22b1 : (a1_0 != 3) = false := bne_eq_false_iff_eq.mpr c22
          clear c22
          obtain ⟨t162, A23, H⟩ := bnd_ H
          have HC24 := Aside0.mk H
          clear H
          have hcz25_0 : wc.cell? ⟨gb159, 0, none⟩ = some (.int .i64 a1_0) := (blk_cell BK159.out 0).trans rfl
          have hcz25_1 : wc.cell? ⟨gb159, 1, none⟩ = some (.slice A1_1 l1_1.length c1_1) := (blk_cell BK159.out 1).trans rfl
          have hcz25_2 : wc.cell? ⟨gb159, 2, none⟩ = some (.int .i64 a1_2) := (blk_cell BK159.out 2).trans rfl
          have hcz25_3 : wc.cell? ⟨gb159, 3, none⟩ = some (.int .i64 a1_3) := (blk_cell BK159.out 3).trans rfl
          have hcz25_4 : wc.cell? ⟨gb159, 4, none⟩ = some (.int .i64 a1_4) := (blk_cell BK159.out 4).trans rfl
          have hfz25_0 := blk_frozen BK159.out 0
          have hfz25_1 := blk_frozen BK159.out 1
          have hfz25_2 := blk_frozen BK159.out 2
          have hfz25_3 := blk_frozen BK159.out 3
          have hfz25_4 := blk_frozen BK159.out 4
          go_upto_region 12 with (first | ((with_reducible refine gate_callee (f := 105) rfl ?_); refine goesL_ (some 46) rfl rfl Try.func105 (by kernel_rfl) rfl #[.slice A0 l0.length c0, .int .i64 a2] rfl z1_ ?_; (with_reducible refine (spec_KidsOf.calls kj16 _ _ l0 a2 t162 _ ?side1 ?side2 A23.out).mono ?_); (case side1 => exact z2_); (case side2 => exact HC0.out); rintro e w26 ⟨v163, rfl, ho0, hb⟩; refine ⟨_, rfl, ?_⟩; have HO164 := Aside0.mk (Kd.R_lower ho0 (below_size z10_)); replace BK159 := Aside0.mk (blk_below (g := gb159) (o := .cells #[.int .i64 a1_0, .slice A1_1 l1_1.length c1_1, .int .i64 a1_2, .int .i64 a1_3, .int .i64 a1_4] 78 (0, 0)) z27_ hb); replace HB := Aside0.mk (below_step z10_ hb); (try clear hb ho0)))
          (try simp only [Act.put, List.setIfInBounds_toArray, List.set_cons_zero, List.set_cons_succ])
          go_cut [63] (fun v63 wc => ∃ (kq : Nat) (x63_23 : Bool), v63 = .bool x63_23 ∧ Aside0 (spec_l13Code.j2 kq l0 a2 t162 x63_23 a1_0 l1_1 a1_2 a1_3 a1_4 = some (r1, r2, r3)) ∧ Aside0 (kq ≤ kj16) ∧ Aside0 (Kd.R (Kd.int .i64) 3 wc w.heap.size (fun _ => True) v163 t162) ∧ Aside0 (wc.heap[gb159]? = some (.cells #[.int .i64 a1_0, (.slice A1_1 l1_1.length c1_1), .int .i64 a1_2, .int .i64 a1_3, .int .i64 a1_4] 78 (0, 0))) ∧ Aside0 (Below w.heap.size w wc))
          case first =>
           have H := HC24.out
           clear HC24
           obtain ⟨t165, A27, H⟩ := bnd_ H
           by_cases c28 : t165 = true
           ·subst c28
            replace H := ift_ H
            obtain ⟨t166, A29, H⟩ := bnd_ H
            have H' := Aside0.mk H
            clear H
            have hcz30_0 : w26.cell? ⟨gb159, 0, none⟩ = some (.int .i64 a1_0) := (blk_cell BK159.out 0).trans rfl
            have hcz30_1 : w26.cell? ⟨gb159, 1, none⟩ = some (.slice A1_1 l1_1.length c1_1) := (blk_cell BK159.out 1).trans rfl
            have hcz30_2 : w26.cell? ⟨gb159, 2, none⟩ = some (.int .i64 a1_2) := (blk_cell BK159.out 2).trans rfl
            have hcz30_3 : w26.cell? ⟨gb159, 3, none⟩ = some (.int .i64 a1_3) := (blk_cell BK159.out 3).trans rfl
            have hcz30_4 : w26.cell? ⟨gb159, 4, none⟩ = some (.int .i64 a1_4) := (blk_cell BK159.out 4).trans rfl
            have hfz30_0 := blk_frozen BK159.out 0
            have hfz30_1 := blk_frozen BK159.out 1
            have hfz30_2 := blk_frozen BK159.out 2
            have hfz30_3 := blk_frozen BK159.out 3
            have hfz30_4 := blk_frozen BK159.out 4
            obtain ⟨Ao31, co31, eo31⟩ := Kd.R_slice HO164.out
            subst eo31
            go_wp2_with (first | ((with_reducible refine gate_callee (f := 60) rfl ?_); refine goesL_ (some 51) rfl rfl Try.func60 (by kernel_rfl) rfl #[.int .i64 a1_3, .int .i64 0, .int .i64 (t162.length : Int)] rfl z1_ ?_; (with_reducible refine (spec_l1In.calls a1_3 0 (t162.length : Int) true _ A27.out).mono ?_); rintro e w' ⟨rfl, ⟨nd, rfl⟩⟩; refine ⟨_, rfl, ?_⟩) | (go_at_call 60; (with_reducible refine (spec_l1In.calls a1_4 0 (wrap64 ((t162.length : Int) - a1_3)) t166 _ A29.out).mono ?_); rintro e w' ⟨rfl, ⟨nd, rfl⟩⟩))
            go_meet
            case rel => exact ⟨_, (!t166), z7_, H', ⟨z118_⟩, ⟨z128_⟩, ⟨z27_⟩, ⟨z10_⟩⟩
           ·replace c28 := Bool.eq_false_iff.mpr c28
            subst c28
            replace H := iff_ H
            have H' := Aside0.mk H
            clear H
            have hcz32_0 : w26.cell? ⟨gb159, 0, none⟩ = some (.int .i64 a1_0) := (blk_cell BK159.out 0).trans rfl
            have hcz32_1 : w26.cell? ⟨gb159, 1, none⟩ = some (.slice A1_1 l1_1.length c1_1) := (blk_cell BK159.out 1).trans rfl
            have hcz32_2 : w26.cell? ⟨gb159, 2, none⟩ = some (.int .i64 a1_2) := (blk_cell BK159.out 2).trans rfl
            have hcz32_3 : w26.cell? ⟨gb159, 3, none⟩ = some (.int .i64 a1_3) := (blk_cell BK159.out 3).trans rfl
            have hcz32_4 : w26.cell? ⟨gb159, 4, none⟩ = some (.int .i64 a1_4) := (blk_cell BK159.out 4).trans rfl
            have hfz32_0 := blk_frozen BK159.out 0
            have hfz32_1 := blk_frozen BK159.out 1
            have hfz32_2 := blk_frozen BK159.out 2
            have hfz32_3 := blk_frozen BK159.out 3
            have hfz32_4 := blk_frozen BK159.out 4
            obtain ⟨Ao33, co33, eo33⟩ := Kd.R_slice HO164.out
            subst eo33
            go_wp2_with (first | ((with_reducible refine gate_callee (f := 60) rfl ?_); refine goesL_ (some 51) rfl rfl Try.func60 (by kernel_rfl) rfl #[.int .i64 a1_3, .int .i64 0, .int .i64 (t162.length : Int)] rfl z1_ ?_; (with_reducible refine (spec_l1In.calls a1_3 0 (t162.length : Int) false _ A27.out).mono ?_); rintro e w' ⟨rfl, ⟨nd, rfl⟩⟩; refine ⟨_, rfl, ?_⟩))
            go_meet
            case rel => exact ⟨_, (true), z7_, H', ⟨z118_⟩, ⟨z128_⟩, ⟨z27_⟩, ⟨z10_⟩⟩
          case rest =>
           clear HC24
           try clear c1
           try clear c2
           try clear p2
           try clear c5
           try clear c6
           try clear c6b0
           try clear p6
           try clear c9
           try clear c10
           try clear c12
           try clear c12b0
           try clear c12b1
           try clear c16
           try clear c18
           try clear c18b0
           try clear c18b1
           try clear c21
           try clear c22
           try clear c22b0
           try clear c22b1
           try clear c28
           try clear hcz11_0
           try clear hcz11_1
           try clear hcz11_2
           try clear hcz11_3
           try clear hcz11_4
           try clear hcz13_0
           try clear hcz13_1
           try clear hcz13_2
           try clear hcz13_3
           try clear hcz13_4
           try clear hcz15_0
           try clear hcz15_1
           try clear hcz15_2
           try clear hcz15_3
           try clear hcz15_4
           try clear hcz19_0
           try clear hcz19_1
           try clear hcz19_2
           try clear hcz19_3
           try clear hcz19_4
           try clear hcz20_0
           try clear hcz20_1
           try clear hcz20_2
           try clear hcz20_3
           try clear hcz20_4
           try clear hcz25_0
           try clear hcz25_1
           try clear hcz25_2
           try clear hcz25_3
           try clear hcz25_4
           try clear hcz30_0
           try clear hcz30_1
           try clear hcz30_2
           try clear hcz30_3
           try clear hcz30_4
           try clear hcz32_0
           try clear hcz32_1
           try clear hcz32_2
           try clear hcz32_3
           try clear hcz32_4
           try clear hcz8_0
           try clear hcz8_1
           try clear hcz8_2
           try clear hcz8_3
           try clear hcz8_4
           try clear hfz11_0
           try clear hfz11_1
           try clear hfz11_2
           try clear hfz11_3
           try clear hfz11_4
           try clear hfz13_0
           try clear hfz13_1
           try clear hfz13_2
           try clear hfz13_3
           try clear hfz13_4
           try clear hfz15_0
           try clear hfz15_1
           try clear hfz15_2
           try clear hfz15_3
           try clear hfz15_4
           try clear hfz19_0
           try clear hfz19_1
           try clear hfz19_2
           try clear hfz19_3
           try clear hfz19_4
           try clear hfz20_0
           try clear hfz20_1
           try clear hfz20_2
           try clear hfz20_3
           try clear hfz20_4
           try clear hfz25_0
           try clear hfz25_1
           try clear hfz25_2
           try clear hfz25_3
           try clear hfz25_4
           try clear hfz30_0
           try clear hfz30_1
           try clear hfz30_2
           try clear hfz30_3
           try clear hfz30_4
           try clear hfz32_0
           try clear hfz32_1
           try clear hfz32_2
           try clear hfz32_3
           try clear hfz32_4
           try clear hfz8_0
           try clear hfz8_1
           try clear hfz8_2
           try clear hfz8_3
           try clear hfz8_4
           try clear p2
           obtain ⟨kq, x63_23, rfl, HA, HJ23, HO_9, BK159, HB⟩ := hcut
           cases kq with
           | zero => exact absurd HA.out (by simp [spec_l13Code.j2])
           | succ kj23 =>
            have H := HA.out
            clear HA
            simp only [spec_l13Code.j2] at H
            by_cases c34 : x63_23 = true
            ·subst c34
             replace H := ift_ H
             simp only [Option.some.injEq, Prod.mk.injEq] at H
             obtain ⟨rfl, rfl, rfl⟩ := H
             go_wp2
             go_ret3
             exact ⟨z4_, z10_⟩
            ·replace c34 := Bool.eq_false_iff.mpr c34
             subst c34
             replace H := iff_ H
             obtain ⟨t167, A35, H⟩ := bnd_ H
             obtain ⟨c36, H⟩ := ifs_ H
             have LMc36 := Aside0.mk c36
             clear c36
             obtain ⟨y168, hy168⟩ : ∃ y_ : List Int, y_ = (t162 ++ [t167]) := ⟨_, rfl⟩
             replace H : (if 0 ≤ a1_3 then (if a1_3 < (y168.length : Int) then (if 0 ≤ (wrap64 (a1_3 + a1_4)) then (if (wrap64 (a1_3 + a1_4)) < (y168.length : Int) then (if (l0.length : Int) = 24 then (some (6, 0, 0)) else (if 0 ≤ a2 then (if a2 < (l0.length : Int) then (spec_l13Code.l0 kj23 l0 (rd y168 a1_3) (rd y168 (wrap64 (a1_3 + a1_4))) (wrap64 (((rd_T80 l0 a2).f1) + 1)) (rd y168 a1_3)) else (none)) else (none))) else (none)) else (none)) else (none)) else (none)) = some (r1, r2, r3) := by first | (rw [hy168]; with_reducible exact H) | (have H2_ := (Option.bind_some _ _).symm.trans H; rw [hy168]; with_reducible exact H2_) | (have H2_ := (Option.bind_some _ _).symm.trans H; with_reducible exact H2_) | with_reducible exact H | (rw [hy168]; exact H) | exact H
             have Ny168 := Aside0.mk hy168
             clear hy168
             obtain ⟨c37b0, H⟩ := ifd_ H
             obtain ⟨c38b0, H⟩ := ifd_ H
             obtain ⟨ji39, hji39⟩ : ∃ j_ : Int, (wrap64 (a1_3 + a1_4)) = j_ := ⟨_, rfl⟩
             replace H : (if 0 ≤ (ji39) then (if (ji39) < (y168.length : Int) then (if (l0.length : Int) = 24 then (some (6, 0, 0)) else (if 0 ≤ a2 then (if a2 < (l0.length : Int) then (spec_l13Code.l0 kj23 l0 (rd y168 a1_3) (rd y168 (ji39)) (wrap64 (((rd_T80 l0 a2).f1) + 1)) (rd y168 a1_3)) else (none)) else (none))) else (none)) else (none)) = some (r1, r2, r3) := by first | (rw [hji39] at H; exact H) | (simp only [hji39] at H ⊢; exact H)
             (try rw [hji39] at A35)
             have hji39w : (IntKind.i64.wrap (a1_3 + a1_4)) = ji39 := (i64_w _).trans hji39
             obtain ⟨c40b0, H⟩ := ifd_ H
             obtain ⟨c41b0, H⟩ := ifd_ H
             by_cases c42 : (l0.length : Int) = 24
             ·rw [if_pos c42] at H
              have c42b0 : ((l0.length : Int) == 24) = true := beq_iff_eq.mpr c42
              have c42b1 : ((l0.length : Int) != 24) = false := bne_eq_false_iff_eq.mpr c42
              clear c42
              simp only [Option.some.injEq, Prod.mk.injEq] at H
              obtain ⟨rfl, rfl, rfl⟩ := H
              go_wp2_with (first | ((with_reducible refine gate_callee (f := 91) rfl ?_); refine goesL_ (some 67) rfl rfl Try.func91 (by kernel_rfl) rfl #[.slice A0 l0.length c0, .int .i64 a2] rfl z1_ ?_; (with_reducible refine (spec_EndOf.calls kj23 _ _ l0 a2 t167 _ ?side1 ?side2 A35.out).mono ?_); (case side1 => exact z2_); (case side2 => exact HC0.out); rintro e w43 ⟨rfl, hb⟩; refine ⟨_, rfl, ?_⟩; replace HO_9 := Aside0.mk (Kd.R_below z44_ hb); replace BK159 := Aside0.mk (blk_below (g := gb159) (o := .cells #[.int .i64 a1_0, .slice A1_1 l1_1.length c1_1, .int .i64 a1_2, .int .i64 a1_3, .int .i64 a1_4] 78 (0, 0)) z27_ hb); replace HB := Aside0.mk (below_step z10_ hb); (try clear hb)) | ((with_reducible refine gate_builtin (b := .append) (xs := #[.tmp 64, .tmp 68]) rfl ?_); (try (refine gate_guard (by rfl) ?_; dsimp only)); at_builtin; refine Kd.R_append (Kd.int .i64) (w0 := w) w.heap.size rfl (.tmp 64) (.tmp 68) 61 3 (.int .i64 0) 8 rfl Try.underlying61 info3 rfl (by decide) (by omega) v163 t162 t167 [.int .i64 t167] (fun _ => True) (fun _ => False) rfl rfl ?aP (fun _ hk => hk.elim) ?aF ?aO ?aB ?aS ?aL ?_; (case aP => exact rfl); (case aB => exact z105_); (case aF => exact z87_); (case aO => exact z59_); (case aS => exact z94_); (case aL => exact z149_); intro v169 w44 ho hb hg hat; rw [← Ny168.out] at ho; replace BK159 := Aside0.mk (blk_grown (g := gb159) (o := .cells #[.int .i64 a1_0, .slice A1_1 l1_1.length c1_1, .int .i64 a1_2, .int .i64 a1_3, .int .i64 a1_4] 78 (0, 0)) z27_ hg (Kd.R_ne HO_9.out BK159.out (by decide))); replace HB := Aside0.mk (hb); have HO170 := Aside0.mk (ho); clear HO_9; clear ho hb hg hat; have hcz45_0 : w44.cell? ⟨gb159, 0, none⟩ = some (.int .i64 a1_0) := (blk_cell BK159.out 0).trans rfl; have hcz45_1 : w44.cell? ⟨gb159, 1, none⟩ = some (.slice A1_1 l1_1.length c1_1) := (blk_cell BK159.out 1).trans rfl; have hcz45_2 : w44.cell? ⟨gb159, 2, none⟩ = some (.int .i64 a1_2) := (blk_cell BK159.out 2).trans rfl; have hcz45_3 : w44.cell? ⟨gb159, 3, none⟩ = some (.int .i64 a1_3) := (blk_cell BK159.out 3).trans rfl; have hcz45_4 : w44.cell? ⟨gb159, 4, none⟩ = some (.int .i64 a1_4) := (blk_cell BK159.out 4).trans rfl; have hfz45_0 := blk_frozen BK159.out 0; have hfz45_1 := blk_frozen BK159.out 1; have hfz45_2 := blk_frozen BK159.out 2; have hfz45_3 := blk_frozen BK159.out 3; have hfz45_4 := blk_frozen BK159.out 4; obtain ⟨Ao46, co46, eo46⟩ := Kd.R_slice HO170.out; subst eo46; have p171 : 0 ≤ (a1_3 : Int) := odt_; have q171 : a1_3 < (y168.length : Int) := odt_; obtain ⟨ad171, e171, hx171_0⟩ := Kd.at_int (Kd.R_reads' HO170.out).2.2 a1_3 p171 q171; cases e171; replace p171 := eq_true p171; replace q171 := eq_true q171; have p172 : 0 ≤ ((ji39) : Int) := odt_; have q172 : (ji39) < (y168.length : Int) := odt_; obtain ⟨ad172, e172, hx172_0⟩ := Kd.at_int (Kd.R_reads' HO170.out).2.2 (ji39) p172 q172; obtain rfl : ad171 = ad172 := (by injection e172); replace p172 := eq_true p172; replace q172 := eq_true q172))
              go_ret3
              exact ⟨z41_, z10_⟩
             ·rw [if_neg c42] at H
              have c42b0 : ((l0.length : Int) == 24) = false := beq_eq_false_iff_ne.mpr c42
              have c42b1 : ((l0.length : Int) != 24) = true := bne_iff_ne.mpr c42
              obtain ⟨c47b0, H⟩ := ifd_ H
              obtain ⟨c48b0, H⟩ := ifd_ H
              have H' := Aside0.mk H
              clear H
              go_wp2_with (first | ((with_reducible refine gate_callee (f := 91) rfl ?_); refine goesL_ (some 67) rfl rfl Try.func91 (by kernel_rfl) rfl #[.slice A0 l0.length c0, .int .i64 a2] rfl z1_ ?_; (with_reducible refine (spec_EndOf.calls kj23 _ _ l0 a2 t167 _ ?side1 ?side2 A35.out).mono ?_); (case side1 => exact z2_); (case side2 => exact HC0.out); rintro e w49 ⟨rfl, hb⟩; refine ⟨_, rfl, ?_⟩; replace HO_9 := Aside0.mk (Kd.R_below z44_ hb); replace BK159 := Aside0.mk (blk_below (g := gb159) (o := .cells #[.int .i64 a1_0, .slice A1_1 l1_1.length c1_1, .int .i64 a1_2, .int .i64 a1_3, .int .i64 a1_4] 78 (0, 0)) z27_ hb); replace HB := Aside0.mk (below_step z10_ hb); (try clear hb)) | ((with_reducible refine gate_builtin (b := .append) (xs := #[.tmp 64, .tmp 68]) rfl ?_); (try (refine gate_guard (by rfl) ?_; dsimp only)); at_builtin; refine Kd.R_append (Kd.int .i64) (w0 := w) w.heap.size rfl (.tmp 64) (.tmp 68) 61 3 (.int .i64 0) 8 rfl Try.underlying61 info3 rfl (by decide) (by omega) v163 t162 t167 [.int .i64 t167] (fun _ => True) (fun _ => False) rfl rfl ?aP (fun _ hk => hk.elim) ?aF ?aO ?aB ?aS ?aL ?_; (case aP => exact rfl); (case aB => exact z105_); (case aF => exact z87_); (case aO => exact z59_); (case aS => exact z94_); (case aL => exact z149_); intro v169 w50 ho hb hg hat; rw [← Ny168.out] at ho; replace BK159 := Aside0.mk (blk_grown (g := gb159) (o := .cells #[.int .i64 a1_0, .slice A1_1 l1_1.length c1_1, .int .i64 a1_2, .int .i64 a1_3, .int .i64 a1_4] 78 (0, 0)) z27_ hg (Kd.R_ne HO_9.out BK159.out (by decide))); replace HB := Aside0.mk (hb); have HO170 := Aside0.mk (ho); clear HO_9; clear ho hb hg hat; have hcz51_0 : w50.cell? ⟨gb159, 0, none⟩ = some (.int .i64 a1_0) := (blk_cell BK159.out 0).trans rfl; have hcz51_1 : w50.cell? ⟨gb159, 1, none⟩ = some (.slice A1_1 l1_1.length c1_1) := (blk_cell BK159.out 1).trans rfl; have hcz51_2 : w50.cell? ⟨gb159, 2, none⟩ = some (.int .i64 a1_2) := (blk_cell BK159.out 2).trans rfl; have hcz51_3 : w50.cell? ⟨gb159, 3, none⟩ = some (.int .i64 a1_3) := (blk_cell BK159.out 3).trans rfl; have hcz51_4 : w50.cell? ⟨gb159, 4, none⟩ = some (.int .i64 a1_4) := (blk_cell BK159.out 4).trans rfl; have hfz51_0 := blk_frozen BK159.out 0; have hfz51_1 := blk_frozen BK159.out 1; have hfz51_2 := blk_frozen BK159.out 2; have hfz51_3 := blk_frozen BK159.out 3; have hfz51_4 := blk_frozen BK159.out 4; obtain ⟨Ao52, co52, eo52⟩ := Kd.R_slice HO170.out; subst eo52; have p171 : 0 ≤ (a1_3 : Int) := odt_; have q171 : a1_3 < (y168.length : Int) := odt_; obtain ⟨ad171, e171, hx171_0⟩ := Kd.at_int (Kd.R_reads' HO170.out).2.2 a1_3 p171 q171; cases e171; replace p171 := eq_true p171; replace q171 := eq_true q171; have p172 : 0 ≤ ((ji39) : Int) := odt_; have q172 : (ji39) < (y168.length : Int) := odt_; obtain ⟨ad172, e172, hx172_0⟩ := Kd.at_int (Kd.R_reads' HO170.out).2.2 (ji39) p172 q172; obtain rfl : ad171 = ad172 := (by injection e172); replace p172 := eq_true p172; replace q172 := eq_true q172; have p173 : 0 ≤ (a2 : Int) := odt_; have q173 : a2 < (l0.length : Int) := odt_; obtain ⟨ad173, e173, hx173_0, hx173_1⟩ := at_T80 HR0.out a2 p173 q173; cases e173; replace hx173_0 := (HB.out.cell (World.block_lt_of_cell? w _ hx173_0)).trans hx173_0; replace hx173_1 := (HB.out.cell (World.block_lt_of_cell? w _ hx173_1)).trans hx173_1; replace p173 := eq_true p173; replace q173 := eq_true q173))
              go_loopg [12, 13] kj23 (fun kq v12 v13 w' => ∃ (x12_4 : Int) (x13_4 : Int), v12 = .int .i64 x12_4 ∧ v13 = .int .i64 x13_4 ∧ Aside0 (spec_l13Code.l0 kq l0 (rd y168 a1_3) (rd y168 (ji39)) x12_4 x13_4 = some (r1, r2, r3)) ∧ Aside0 (kq ≤ kj23) ∧ Aside0 (w'.heap[gb159]? = some (.cells #[.int .i64 a1_0, (.slice A1_1 l1_1.length c1_1), .int .i64 a1_2, .int .i64 a1_3, .int .i64 a1_4] 78 (0, 0))) ∧ Aside0 (Below w.heap.size w w'))
              case atStart => exact ⟨(wrap64 (((rd_T80 l0 a2).f1) + 1)), (rd y168 a1_3), z7_, z7_, H', ⟨Nat.le_refl _⟩, ⟨z27_⟩, ⟨z10_⟩⟩
              case round =>
               clear H'
               try clear c1
               try clear p1
               try clear q1
               try clear hx1
               try clear c2
               try clear p2
               try clear c3
               try clear c4
               try clear c5
               try clear c6
               try clear c6b0
               try clear p6
               try clear c9
               try clear c10
               try clear c12
               try clear c12b0
               try clear c12b1
               try clear c16
               try clear p17
               try clear q17
               try clear hx17
               try clear c18
               try clear c18b0
               try clear c18b1
               try clear c21
               try clear c22
               try clear c22b0
               try clear c22b1
               try clear c28
               try clear c34
               try clear c36
               try clear c37
               try clear c37b0
               try clear c38
               try clear c38b0
               try clear c40
               try clear c40b0
               try clear c41
               try clear c41b0
               try clear c42
               try clear c42b0
               try clear c42b1
               try clear c47
               try clear c47b0
               try clear c48
               try clear c48b0
               try clear hcz11_0
               try clear hcz11_1
               try clear hcz11_2
               try clear hcz11_3
               try clear hcz11_4
               try clear hcz13_0
               try clear hcz13_1
               try clear hcz13_2
               try clear hcz13_3
               try clear hcz13_4
               try clear hcz15_0
               try clear hcz15_1
               try clear hcz15_2
               try clear hcz15_3
               try clear hcz15_4
               try clear hcz19_0
               try clear hcz19_1
               try clear hcz19_2
               try clear hcz19_3
               try clear hcz19_4
               try clear hcz20_0
               try clear hcz20_1
               try clear hcz20_2
               try clear hcz20_3
               try clear hcz20_4
               try clear hcz25_0
               try clear hcz25_1
               try clear hcz25_2
               try clear hcz25_3
               try clear hcz25_4
               try clear hcz30_0
               try clear hcz30_1
               try clear hcz30_2
               try clear hcz30_3
               try clear hcz30_4
               try clear hcz32_0
               try clear hcz32_1
               try clear hcz32_2
               try clear hcz32_3
               try clear hcz32_4
               try clear hcz45_0
               try clear hcz45_1
               try clear hcz45_2
               try clear hcz45_3
               try clear hcz45_4
               try clear hcz51_0
               try clear hcz51_1
               try clear hcz51_2
               try clear hcz51_3
               try clear hcz51_4
               try clear hcz8_0
               try clear hcz8_1
               try clear hcz8_2
               try clear hcz8_3
               try clear hcz8_4
               try clear hfz11_0
               try clear hfz11_1
               try clear hfz11_2
               try clear hfz11_3
               try clear hfz11_4
               try clear hfz13_0
               try clear hfz13_1
               try clear hfz13_2
               try clear hfz13_3
               try clear hfz13_4
               try clear hfz15_0
               try clear hfz15_1
               try clear hfz15_2
               try clear hfz15_3
               try clear hfz15_4
               try clear hfz19_0
               try clear hfz19_1
               try clear hfz19_2
               try clear hfz19_3
               try clear hfz19_4
               try clear hfz20_0
               try clear hfz20_1
               try clear hfz20_2
               try clear hfz20_3
               try clear hfz20_4
               try clear hfz25_0
               try clear hfz25_1
               try clear hfz25_2
               try clear hfz25_3
               try clear hfz25_4
               try clear hfz30_0
               try clear hfz30_1
               try clear hfz30_2
               try clear hfz30_3
               try clear hfz30_4
               try clear hfz32_0
               try clear hfz32_1
               try clear hfz32_2
               try clear hfz32_3
               try clear hfz32_4
               try clear hfz45_0
               try clear hfz45_1
               try clear hfz45_2
               try clear hfz45_3
               try clear hfz45_4
               try clear hfz51_0
               try clear hfz51_1
               try clear hfz51_2
               try clear hfz51_3
               try clear hfz51_4
               try clear hfz8_0
               try clear hfz8_1
               try clear hfz8_2
               try clear hfz8_3
               try clear hfz8_4
               try clear hx171_0
               try clear hx172_0
               try clear hx173_0
               try clear hx173_1
               try clear p171
               try clear p172
               try clear p173
               try clear p2
               try clear p6
               try clear q171
               try clear q172
               try clear q173
               obtain ⟨x12_4, x13_4, rfl, rfl, HA, HK4, BK159, HB⟩ := hrel
               cases gk with
               | zero => exact absurd HA.out (by simp [spec_l13Code.l0])
               | succ k4 =>
                have H := HA.out
                clear HA
                simp only [spec_l13Code.l0] at H
                by_cases c53 : x13_4 < (rd y168 (ji39))
                ·rw [if_pos c53] at H
                 have c53b0 : decide (x13_4 < (rd y168 (ji39))) = true := decide_eq_true c53
                 clear c53
                 obtain ⟨c54b0, H⟩ := ifd_ H
                 obtain ⟨c55b0, H⟩ := ifd_ H
                 obtain ⟨ji56, hji56⟩ : ∃ j_ : Int, (mx x12_4 (wrap64 (((rd_T80 l0 x13_4).f1) + 1))) = j_ := ⟨_, rfl⟩
                 replace H : (spec_l13Code.l0 k4 l0 (rd y168 a1_3) (rd y168 (ji39)) ji56 (wrap64 (x13_4 + 1))) = some (r1, r2, r3) := by first | (rw [hji56] at H; exact H) | (simp only [hji56] at H ⊢; exact H)
                 have hji56_ : (if x12_4 < (wrap64 (((rd_T80 l0 x13_4).f1) + 1)) then (wrap64 (((rd_T80 l0 x13_4).f1) + 1)) else x12_4) = ji56 := hji56
                 have H' := Aside0.mk H
                 clear H
                 obtain ⟨p174, q174, ad174, e174, hx174_0, hx174_1⟩ := atb80_ HR0 HB x13_4
                 obtain rfl : ad173 = ad174 := (by injection e174)
                 go_wp2
                 go_roundg k4
                 case measure => have := HJ8.out; have := HJ16.out; have := HJ23.out; have := HK4.out; omega
                 case rel => exact ⟨(ji56), (wrap64 (x13_4 + 1)), (by first | rfl | (simp; done) | (simp only [← hji56] <;> (first | rfl | simp)) | (simp [*]; done)), z7_, H', ⟨by have := HJ8.out; have := HJ16.out; have := HJ23.out; have := HK4.out; omega⟩, ⟨z27_⟩, ⟨z10_⟩⟩
                ·rw [if_neg c53] at H
                 have c53b0 : decide (x13_4 < (rd y168 (ji39))) = false := decide_eq_false c53
                 clear c53
                 by_cases c57 : x12_4 > 12
                 ·rw [if_pos c57] at H
                  have c57b0 : decide (12 < x12_4) = true := decide_eq_true c57
                  clear c57
                  simp only [Option.some.injEq, Prod.mk.injEq] at H
                  obtain ⟨rfl, rfl, rfl⟩ := H
                  go_wp2
                  go_ret3
                  exact ⟨z41_, z10_⟩
                 ·rw [if_neg c57] at H
                  have c57b0 : decide (12 < x12_4) = false := decide_eq_false c57
                  clear c57
                  simp only [Option.some.injEq, Prod.mk.injEq] at H
                  obtain ⟨rfl, rfl, rfl⟩ := H
                  go_wp2
                  go_ret3
                  exact ⟨z41_, z10_⟩
         ·rw [if_neg c22] at H
          have c22b0 : (a1_0 == 3) = false := beq_eq_false_iff_ne.mpr c22
          have c22b1 : (a1_0 != 3) = true := bne_iff_ne.mpr c22
          simp only [Option.some.injEq, Prod.mk.injEq] at H
          obtain ⟨rfl, rfl, rfl⟩ := H
          have hcz58_0 : wc.cell? ⟨gb159, 0, none⟩ = some (.int .i64 a1_0) := (blk_cell BK159.out 0).trans rfl
          have hcz58_1 : wc.cell? ⟨gb159, 1, none⟩ = some (.slice A1_1 l1_1.length c1_1) := (blk_cell BK159.out 1).trans rfl
          have hcz58_2 : wc.cell? ⟨gb159, 2, none⟩ = some (.int .i64 a1_2) := (blk_cell BK159.out 2).trans rfl
          have hcz58_3 : wc.cell? ⟨gb159, 3, none⟩ = some (.int .i64 a1_3) := (blk_cell BK159.out 3).trans rfl
          have hcz58_4 : wc.cell? ⟨gb159, 4, none⟩ = some (.int .i64 a1_4) := (blk_cell BK159.out 4).trans rfl
          have hfz58_0 := blk_frozen BK159.out 0
          have hfz58_1 := blk_frozen BK159.out 1
          have hfz58_2 := blk_frozen BK159.out 2
          have hfz58_3 := blk_frozen BK159.out 3
          have hfz58_4 := blk_frozen BK159.out 4
          go_wp2
          go_ret3
          exact ⟨z4_, z10_⟩
 ·replace c5 := Bool.eq_false_iff.mpr c5
  subst c5
  replace H := iff_ H
  simp only [Option.some.injEq, Prod.mk.injEq] at H
  obtain ⟨rfl, rfl, rfl⟩ := H
  go_enter Try.func90, Try.ntmps90
  go_wp2_with (first | ((with_reducible refine gate_dst (N := 4) rfl ?_); (try (refine gate_guard (by rfl) ?_; dsimp only)); refine box_event ?hg (N := 4) ?hd (cs := #[.int .i64 a1_0, .slice A1_1 l1_1.length c1_1, .int .i64 a1_2, .int .i64 a1_3, .int .i64 a1_4]) (t := 78) ?hr ?_; (case hd => rfl); (case hg => rfl); (case hr => exact z12_); intro gb159 hg w59 hbox hb; have BK159 := Aside0.mk (hbox); have GW159 := Aside0.mk ((by rw [hg]; exact (below_size z0_) : w.heap.size ≤ gb159)); have GE159 := Aside0.mk ((by rw [hg]; exact (below_size z0_) : w.heap.size ≤ gb159)); replace HB := Aside0.mk (below_step z0_ hb); clear hb hbox hg; have hcz60_0 : w59.cell? ⟨gb159, 0, none⟩ = some (.int .i64 a1_0) := (blk_cell BK159.out 0).trans rfl; have hcz60_1 : w59.cell? ⟨gb159, 1, none⟩ = some (.slice A1_1 l1_1.length c1_1) := (blk_cell BK159.out 1).trans rfl; have hcz60_2 : w59.cell? ⟨gb159, 2, none⟩ = some (.int .i64 a1_2) := (blk_cell BK159.out 2).trans rfl; have hcz60_3 : w59.cell? ⟨gb159, 3, none⟩ = some (.int .i64 a1_3) := (blk_cell BK159.out 3).trans rfl; have hcz60_4 : w59.cell? ⟨gb159, 4, none⟩ = some (.int .i64 a1_4) := (blk_cell BK159.out 4).trans rfl; have hfz60_0 := blk_frozen BK159.out 0; have hfz60_1 := blk_frozen BK159.out 1; have hfz60_2 := blk_frozen BK159.out 2; have hfz60_3 := blk_frozen BK159.out 3; have hfz60_4 := blk_frozen BK159.out 4) | ((with_reducible refine gate_callee (f := 60) rfl ?_); refine goesL_ (some 17) rfl rfl Try.func60 (by kernel_rfl) rfl #[.int .i64 a1_0, .int .i64 1, .int .i64 3] rfl z1_ ?_; (with_reducible refine (spec_l1In.calls a1_0 1 3 false _ A4.out).mono ?_); rintro e w' ⟨rfl, ⟨nd, rfl⟩⟩; refine ⟨_, rfl, ?_⟩))
  go_ret3
  exact ⟨z4_, z10_⟩

end Go.Proofs.Ytdapeboajjidmaa.PFnExactDropIdle
