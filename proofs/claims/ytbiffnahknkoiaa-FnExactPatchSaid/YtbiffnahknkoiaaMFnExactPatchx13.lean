/- Laid by a program of this session out of the kit's print for the law FnExactPatch: what it says of the machine is proved here, function by function; each contract under the conditions that it names. -/
import Derived.Test.YtbiffnahknkoiaaMFnExactPatchx0
import Derived.Test.YtbiffnahknkoiaaMFnExactPatchx9
import Derived.Test.YtbiffnahknkoiaaMFnExactPatchx12
namespace Go.Proofs.Ytbiffnahknkoiaa.PFnExactPatch
open Go.RowKit Go.Proofs.YtbiffnahknkoiaaW.PrintWords Go.Proofs.YtbiffnahknkoiaaW.PrintLast Go.Proofs.YtbiffnahknkoiaaW.PrintMore
attribute [local go_sem] max2_int min2_int max_two min_two max_three min_three max_four min_four   -- for this text's walks alone
set_option linter.unusedVariables false
set_option linter.unusedSimpArgs false

/-! ### impl_opCode: function 94 -/
mutual
def impl_opCode.j0 : Nat → List (S45) → Int → Bool → Int → List Int → Int → Int → Int → Option (Int × Int × Int)
 | 0, _, _, _, _, _, _, _, _ => none
 | k + 1, x0, x2, x22, x479000, x479001, x479002, x479003, x479004 => if x22 = true then (some (3, 0, 0)) else (if x479000 = 2 then (impl_opCode.j1 k x0 x2 (x2 == 0) x479000 x479001 x479002 x479003 x479004) else (impl_opCode.j1 k x0 x2 false x479000 x479001 x479002 x479003 x479004))
def impl_opCode.j1 : Nat → List (S45) → Int → Bool → Int → List Int → Int → Int → Int → Option (Int × Int × Int)
 | 0, _, _, _, _, _, _, _, _ => none
 | k + 1, x0, x2, x32, x479000, x479001, x479002, x479003, x479004 => if x32 = true then (some (4, 0, 0)) else (if x479000 = 3 then ((impl_KidsOf.f k x0 x2).bind fun t481 => ((impl_within.f x479003 0 (t481.length : Int)).bind fun t484 => (if t484 = true then ((impl_within.f x479004 0 (wrap64 ((t481.length : Int) - x479003))).bind fun t485 => (impl_opCode.j2 k x0 x2 t481 (!t485) x479000 x479001 x479002 x479003 x479004)) else (impl_opCode.j2 k x0 x2 t481 true x479000 x479001 x479002 x479003 x479004)))) else (some (0, 0, 0)))
def impl_opCode.j2 : Nat → List (S45) → Int → List Int → Bool → Int → List Int → Int → Int → Int → Option (Int × Int × Int)
 | 0, _, _, _, _, _, _, _, _, _ => none
 | k + 1, x0, x2, x9, x63, x479000, x479001, x479002, x479003, x479004 => if x63 = true then (some (5, 0, 0)) else ((impl_endOf.f k x0 x2).bind fun t486 => (if x9.length < 17592186044416 then ((some (x9 ++ [t486] : List Int)).bind fun y487 => (if 0 ≤ x479003 then (if x479003 < (y487.length : Int) then (if 0 ≤ (wrap64 (x479003 + x479004)) then (if (wrap64 (x479003 + x479004)) < (y487.length : Int) then (if 0 ≤ x2 then (if x2 < (x0.length : Int) then (if 0 ≤ (rd y487 x479003) then (if (rd y487 x479003) ≤ (rd y487 (wrap64 (x479003 + x479004))) then (if (rd y487 (wrap64 (x479003 + x479004))) ≤ (x0.length : Int) then ((some ((x0.take ((rd y487 (wrap64 (x479003 + x479004))) : Int).toNat).drop ((rd y487 x479003) : Int).toNat : List (S45))).bind fun y493 => (impl_opCode.l0 k x0 (rd y487 x479003) (rd y487 (wrap64 (x479003 + x479004))) (wrap64 (((rd_T45 x0 x2).f1) + 1)) y493 (y493.length : Int) 0)) else (none)) else (none)) else (none)) else (none)) else (none)) else (none)) else (none)) else (none)) else (none))) else (none)))
def impl_opCode.l0 : Nat → List (S45) → Int → Int → Int → List (S45) → Int → Int → Option (Int × Int × Int)
 | 0, _, _, _, _, _, _, _ => none
 | k + 1, x0, x7, x8, x11, x92, x93, x94 => if x94 < x93 then (if 0 ≤ x94 then (if x94 < (x92.length : Int) then (impl_opCode.l0 k x0 x7 x8 (mx x11 (wrap64 (((rd_T45 x92 x94).f1) + 1))) x92 x93 (wrap64 (x94 + 1))) else (none)) else (none)) else (if (x0.length : Int) = 24 then (some (6, 0, 0)) else (if x11 > 12 then (some (7, 0, 0)) else (some (0, x7, x8))))
end
def impl_opCode.f (k : Nat) (l0 : List (S45)) (a1_0 : Int) (l1_1 : List Int) (a1_2 : Int) (a1_3 : Int) (a1_4 : Int) (a2 : Int) : Option (Int × Int × Int) := (impl_within.f a1_0 1 3).bind fun t479 => (if t479 = true then (if a2 < 0 then (some (2, 0, 0)) else (if a1_0 = 2 then (impl_opCode.j0 k l0 a2 false a1_0 l1_1 a1_2 a1_3 a1_4) else ((impl_LabelOk.f a1_2).bind fun t480 => (impl_opCode.j0 k l0 a2 (!t480) a1_0 l1_1 a1_2 a1_3 a1_4)))) else (some (1, 0, 0)))
set_option maxHeartbeats 8000000 in
set_option maxRecDepth 100000 in
theorem impl_opCode.calls (k : Nat) (A0 : Option Addr) (c0 : Nat) (l0 : List (S45)) (a1_0 : Int) (A1_1 : Option Addr) (c1_1 : Nat) (l1_1 : List Int) (a1_2 : Int) (a1_3 : Int) (a1_4 : Int) (a2 : Int) (r1 : Int) (r2 : Int) (r3 : Int) (w : World) (hr0 : Kd.C k45 w A0 l0.length l0) (hc0 : l0.length ≤ c0) (hr1_1 : Kd.C (Kd.int .i64) w A1_1 l1_1.length l1_1) (hc1_1 : l1_1.length ≤ c1_1) (h : impl_opCode.f k l0 a1_0 l1_1 a1_2 a1_3 a1_4 a2 = some (r1, r2, r3)) :
  Calls Try.prog 94 #[.slice A0 l0.length c0, .agg #[.int .i64 a1_0, .slice A1_1 l1_1.length c1_1, .int .i64 a1_2, .int .i64 a1_3, .int .i64 a1_4], .int .i64 a2] w fun e w' => e = .returned (.tuple #[.int .i64 r1, .int .i64 r2, .int .i64 r3]) ∧ Below w.heap.size w w' := by
 have hu100 := Try.underlying100
 have hu45 := Try.underlying45
 have HR0 := Aside0.mk hr0
 have HC0 := Aside0.mk hc0
 clear hr0 hc0
 have HR1_1 := Aside0.mk hr1_1
 have HC1_1 := Aside0.mk hc1_1
 clear hr1_1 hc1_1
 have HB := Aside0.mk (Below.refl w.heap.size w)
 have H : ((impl_within.f a1_0 1 3).bind fun t479 => (if t479 = true then (if a2 < 0 then (some (2, 0, 0)) else (if a1_0 = 2 then (impl_opCode.j0 k l0 a2 false a1_0 l1_1 a1_2 a1_3 a1_4) else ((impl_LabelOk.f a1_2).bind fun t480 => (impl_opCode.j0 k l0 a2 (!t480) a1_0 l1_1 a1_2 a1_3 a1_4)))) else (some (1, 0, 0)))) = some (r1, r2, r3) := h
 clear h
 obtain ⟨t479, A4, H⟩ := bnd_ H
 by_cases c5 : t479 = true
 ·subst c5
  replace H := ift_ H
  by_cases c6 : a2 < 0
  ·rw [if_pos c6] at H
   have c6b0 := decide_eq_true c6
   clear c6
   simp only [Option.some.injEq, Prod.mk.injEq] at H
   obtain ⟨rfl, rfl, rfl⟩ := H
   go_enter Try.func94, Try.ntmps94
   go_wp2_with (first | ((with_reducible refine gate_dst (N := 4) rfl ?_); (try (refine gate_guard (by rfl) ?_; dsimp only)); refine box_event ?hg (N := 4) ?hd (cs := #[.int .i64 a1_0, .slice A1_1 l1_1.length c1_1, .int .i64 a1_2, .int .i64 a1_3, .int .i64 a1_4]) (t := 100) ?hr ?_; (case hd => rfl); (case hg => rfl); (case hr => exact z10_); intro gb478 hg w7 hbox hb; have BK478 := Aside0.mk (hbox); have GW478 := Aside0.mk ((by rw [hg]; exact (below_size z0_) : w.heap.size ≤ gb478)); have GE478 := Aside0.mk ((by rw [hg]; exact (below_size z0_) : w.heap.size ≤ gb478)); replace HB := Aside0.mk (below_step z0_ hb); clear hb hbox hg; obtain ⟨hcz8_0, hcz8_1, hcz8_2, hcz8_3, hcz8_4, hfz8_0, hfz8_1, hfz8_2, hfz8_3, hfz8_4⟩ := bx5_ BK478.out) | (go_at_call 67; (with_reducible refine (impl_within.calls a1_0 1 3 true _ A4.out).mono ?_); rintro e w' ⟨rfl, ⟨nd, rfl⟩⟩; (try first | exact ⟨rfl, _, World.drewN_drewN _ _ _⟩ | exact ⟨rfl, _, Eq.trans (World.drewN_drewN _ _ _) (congrArg (World.drewN _) (Nat.add_assoc _ _ _))⟩)))
   repeat (go_quiet (first | ((with_reducible refine gate_dst (N := 4) rfl ?_); (try (refine gate_guard (by rfl) ?_; dsimp only)); refine box_event ?hg (N := 4) ?hd (cs := #[.int .i64 a1_0, .slice A1_1 l1_1.length c1_1, .int .i64 a1_2, .int .i64 a1_3, .int .i64 a1_4]) (t := 100) ?hr ?_; (case hd => rfl); (case hg => rfl); (case hr => exact z10_); intro gb478 hg w7 hbox hb; have BK478 := Aside0.mk (hbox); have GW478 := Aside0.mk ((by rw [hg]; exact (below_size z0_) : w.heap.size ≤ gb478)); have GE478 := Aside0.mk ((by rw [hg]; exact (below_size z0_) : w.heap.size ≤ gb478)); replace HB := Aside0.mk (below_step z0_ hb); clear hb hbox hg; obtain ⟨hcz8_0, hcz8_1, hcz8_2, hcz8_3, hcz8_4, hfz8_0, hfz8_1, hfz8_2, hfz8_3, hfz8_4⟩ := bx5_ BK478.out) | (go_at_call 67; (with_reducible refine (impl_within.calls a1_0 1 3 true _ A4.out).mono ?_); rintro e w' ⟨rfl, ⟨nd, rfl⟩⟩; (try first | exact ⟨rfl, _, World.drewN_drewN _ _ _⟩ | exact ⟨rfl, _, Eq.trans (World.drewN_drewN _ _ _) (congrArg (World.drewN _) (Nat.add_assoc _ _ _))⟩))); try go_wp2_with (first | ((with_reducible refine gate_dst (N := 4) rfl ?_); (try (refine gate_guard (by rfl) ?_; dsimp only)); refine box_event ?hg (N := 4) ?hd (cs := #[.int .i64 a1_0, .slice A1_1 l1_1.length c1_1, .int .i64 a1_2, .int .i64 a1_3, .int .i64 a1_4]) (t := 100) ?hr ?_; (case hd => rfl); (case hg => rfl); (case hr => exact z10_); intro gb478 hg w7 hbox hb; have BK478 := Aside0.mk (hbox); have GW478 := Aside0.mk ((by rw [hg]; exact (below_size z0_) : w.heap.size ≤ gb478)); have GE478 := Aside0.mk ((by rw [hg]; exact (below_size z0_) : w.heap.size ≤ gb478)); replace HB := Aside0.mk (below_step z0_ hb); clear hb hbox hg; obtain ⟨hcz8_0, hcz8_1, hcz8_2, hcz8_3, hcz8_4, hfz8_0, hfz8_1, hfz8_2, hfz8_3, hfz8_4⟩ := bx5_ BK478.out) | (go_at_call 67; (with_reducible refine (impl_within.calls a1_0 1 3 true _ A4.out).mono ?_); rintro e w' ⟨rfl, ⟨nd, rfl⟩⟩; (try first | exact ⟨rfl, _, World.drewN_drewN _ _ _⟩ | exact ⟨rfl, _, Eq.trans (World.drewN_drewN _ _ _) (congrArg (World.drewN _) (Nat.add_assoc _ _ _))⟩))))
   go_ret3
   exact ⟨z3_, z5_⟩
  ·rw [if_neg c6] at H
   have c6b0 := decide_eq_false c6
   clear c6
   have HC9 := Aside0.mk H
   clear H
   go_enter Try.func94, Try.ntmps94
   go_upto_region 5 with (first | ((with_reducible refine gate_dst (N := 4) rfl ?_); (try (refine gate_guard (by rfl) ?_; dsimp only)); refine box_event ?hg (N := 4) ?hd (cs := #[.int .i64 a1_0, .slice A1_1 l1_1.length c1_1, .int .i64 a1_2, .int .i64 a1_3, .int .i64 a1_4]) (t := 100) ?hr ?_; (case hd => rfl); (case hg => rfl); (case hr => exact z10_); intro gb478 hg w10 hbox hb; have BK478 := Aside0.mk (hbox); have GW478 := Aside0.mk ((by rw [hg]; exact (below_size z0_) : w.heap.size ≤ gb478)); have GE478 := Aside0.mk ((by rw [hg]; exact (below_size z0_) : w.heap.size ≤ gb478)); replace HB := Aside0.mk (below_step z0_ hb); clear hb hbox hg; obtain ⟨hcz11_0, hcz11_1, hcz11_2, hcz11_3, hcz11_4, hfz11_0, hfz11_1, hfz11_2, hfz11_3, hfz11_4⟩ := bx5_ BK478.out) | (go_at_call 67; (with_reducible refine (impl_within.calls a1_0 1 3 true _ A4.out).mono ?_); rintro e w' ⟨rfl, ⟨nd, rfl⟩⟩; (try first | exact ⟨rfl, _, World.drewN_drewN _ _ _⟩ | exact ⟨rfl, _, Eq.trans (World.drewN_drewN _ _ _) (congrArg (World.drewN _) (Nat.add_assoc _ _ _))⟩)))
   repeat (go_quiet (first | ((with_reducible refine gate_dst (N := 4) rfl ?_); (try (refine gate_guard (by rfl) ?_; dsimp only)); refine box_event ?hg (N := 4) ?hd (cs := #[.int .i64 a1_0, .slice A1_1 l1_1.length c1_1, .int .i64 a1_2, .int .i64 a1_3, .int .i64 a1_4]) (t := 100) ?hr ?_; (case hd => rfl); (case hg => rfl); (case hr => exact z10_); intro gb478 hg w10 hbox hb; have BK478 := Aside0.mk (hbox); have GW478 := Aside0.mk ((by rw [hg]; exact (below_size z0_) : w.heap.size ≤ gb478)); have GE478 := Aside0.mk ((by rw [hg]; exact (below_size z0_) : w.heap.size ≤ gb478)); replace HB := Aside0.mk (below_step z0_ hb); clear hb hbox hg; obtain ⟨hcz11_0, hcz11_1, hcz11_2, hcz11_3, hcz11_4, hfz11_0, hfz11_1, hfz11_2, hfz11_3, hfz11_4⟩ := bx5_ BK478.out) | (go_at_call 67; (with_reducible refine (impl_within.calls a1_0 1 3 true _ A4.out).mono ?_); rintro e w' ⟨rfl, ⟨nd, rfl⟩⟩; (try first | exact ⟨rfl, _, World.drewN_drewN _ _ _⟩ | exact ⟨rfl, _, Eq.trans (World.drewN_drewN _ _ _) (congrArg (World.drewN _) (Nat.add_assoc _ _ _))⟩))); go_upto_region 5 with (first | ((with_reducible refine gate_dst (N := 4) rfl ?_); (try (refine gate_guard (by rfl) ?_; dsimp only)); refine box_event ?hg (N := 4) ?hd (cs := #[.int .i64 a1_0, .slice A1_1 l1_1.length c1_1, .int .i64 a1_2, .int .i64 a1_3, .int .i64 a1_4]) (t := 100) ?hr ?_; (case hd => rfl); (case hg => rfl); (case hr => exact z10_); intro gb478 hg w10 hbox hb; have BK478 := Aside0.mk (hbox); have GW478 := Aside0.mk ((by rw [hg]; exact (below_size z0_) : w.heap.size ≤ gb478)); have GE478 := Aside0.mk ((by rw [hg]; exact (below_size z0_) : w.heap.size ≤ gb478)); replace HB := Aside0.mk (below_step z0_ hb); clear hb hbox hg; obtain ⟨hcz11_0, hcz11_1, hcz11_2, hcz11_3, hcz11_4, hfz11_0, hfz11_1, hfz11_2, hfz11_3, hfz11_4⟩ := bx5_ BK478.out) | (go_at_call 67; (with_reducible refine (impl_within.calls a1_0 1 3 true _ A4.out).mono ?_); rintro e w' ⟨rfl, ⟨nd, rfl⟩⟩; (try first | exact ⟨rfl, _, World.drewN_drewN _ _ _⟩ | exact ⟨rfl, _, Eq.trans (World.drewN_drewN _ _ _) (congrArg (World.drewN _) (Nat.add_assoc _ _ _))⟩))))
   (try simp only [Act.put, List.setIfInBounds_toArray, List.set_cons_zero, List.set_cons_succ])
   go_cut [22] (fun v22 wc => ∃ (kq : Nat) (x22_8 : Bool), v22 = .bool x22_8 ∧ Aside0 (impl_opCode.j0 kq l0 a2 x22_8 a1_0 l1_1 a1_2 a1_3 a1_4 = some (r1, r2, r3)) ∧ Aside0 (kq ≤ k) ∧ Aside0 (wc.heap[gb478]? = some (.cells #[.int .i64 a1_0, (.slice A1_1 l1_1.length c1_1), .int .i64 a1_2, .int .i64 a1_3, .int .i64 a1_4] 100 (0, 0))) ∧ Aside0 (Below w.heap.size w wc))
   case first =>
    have H := HC9.out
    clear HC9
    by_cases c12 : a1_0 = 2
    ·rw [if_pos c12] at H
     have c12b0 : (a1_0 == 2) = true := beq_iff_eq.mpr c12
     have c12b1 : (a1_0 != 2) = false := bne_eq_false_iff_eq.mpr c12
     clear c12
     (first | rw [c12b0] | rw [c12b1] | (simp only [i64_w, i32_w]; rw [c12b0]) | skip)
     have H' := Aside0.mk H
     clear H
     obtain ⟨hcz13_0, hcz13_1, hcz13_2, hcz13_3, hcz13_4, hfz13_0, hfz13_1, hfz13_2, hfz13_3, hfz13_4⟩ := bx5_ BK478.out
     go_wp2
     repeat (go_quiet (fail); try go_wp2)
     go_meet
     case rel => exact ⟨_, (false), z8_, H', ⟨z137_⟩, ⟨z33_⟩, ⟨z5_⟩⟩
    ·rw [if_neg c12] at H
     have c12b0 : (a1_0 == 2) = false := beq_eq_false_iff_ne.mpr c12
     have c12b1 : (a1_0 != 2) = true := bne_iff_ne.mpr c12
     (first | rw [c12b0] | rw [c12b1] | (simp only [i64_w, i32_w]; rw [c12b0]) | skip)
     obtain ⟨t480, A14, H⟩ := bnd_ H
     have H' := Aside0.mk H
     clear H
     obtain ⟨hcz15_0, hcz15_1, hcz15_2, hcz15_3, hcz15_4, hfz15_0, hfz15_1, hfz15_2, hfz15_3, hfz15_4⟩ := bx5_ BK478.out
     go_wp2_with (first | (go_at_call 77; (with_reducible refine (impl_LabelOk.calls a1_2 t480 _ A14.out).mono ?_); rintro e w' ⟨rfl, ⟨nd, rfl⟩⟩; (try first | exact ⟨rfl, _, World.drewN_drewN _ _ _⟩ | exact ⟨rfl, _, Eq.trans (World.drewN_drewN _ _ _) (congrArg (World.drewN _) (Nat.add_assoc _ _ _))⟩)))
     repeat (go_quiet (first | (go_at_call 77; (with_reducible refine (impl_LabelOk.calls a1_2 t480 _ A14.out).mono ?_); rintro e w' ⟨rfl, ⟨nd, rfl⟩⟩; (try first | exact ⟨rfl, _, World.drewN_drewN _ _ _⟩ | exact ⟨rfl, _, Eq.trans (World.drewN_drewN _ _ _) (congrArg (World.drewN _) (Nat.add_assoc _ _ _))⟩))); try go_wp2_with (first | (go_at_call 77; (with_reducible refine (impl_LabelOk.calls a1_2 t480 _ A14.out).mono ?_); rintro e w' ⟨rfl, ⟨nd, rfl⟩⟩; (try first | exact ⟨rfl, _, World.drewN_drewN _ _ _⟩ | exact ⟨rfl, _, Eq.trans (World.drewN_drewN _ _ _) (congrArg (World.drewN _) (Nat.add_assoc _ _ _))⟩))))
     go_meet
     case rel => exact ⟨_, (!t480), z8_, H', ⟨z137_⟩, ⟨z33_⟩, ⟨z5_⟩⟩
   case rest =>
    clear HC9
    try clear c1
    try clear p2
    try clear c5
    try clear c6
    try clear c6b0
    try clear c9
    try clear c12
    try clear c12b0
    try clear c12b1
    try clear hcz11_0
    try clear hcz11_1
    try clear hcz11_2
    try clear hcz11_3
    try clear hcz11_4
    try clear hcz13_0
    try clear hcz13_1
    try clear hcz13_2
    try clear hcz13_3
    try clear hcz13_4
    try clear hcz15_0
    try clear hcz15_1
    try clear hcz15_2
    try clear hcz15_3
    try clear hcz15_4
    try clear hcz8_0
    try clear hcz8_1
    try clear hcz8_2
    try clear hcz8_3
    try clear hcz8_4
    try clear hfz11_0
    try clear hfz11_1
    try clear hfz11_2
    try clear hfz11_3
    try clear hfz11_4
    try clear hfz13_0
    try clear hfz13_1
    try clear hfz13_2
    try clear hfz13_3
    try clear hfz13_4
    try clear hfz15_0
    try clear hfz15_1
    try clear hfz15_2
    try clear hfz15_3
    try clear hfz15_4
    try clear hfz8_0
    try clear hfz8_1
    try clear hfz8_2
    try clear hfz8_3
    try clear hfz8_4
    obtain ⟨kq, x22_8, rfl, HA, HJ8, BK478, HB⟩ := hcut
    cases kq with
    | zero => exact absurd HA.out (by simp [impl_opCode.j0])
    | succ kj8 =>
     have H := HA.out
     clear HA
     simp only [impl_opCode.j0] at H
     by_cases c16 : x22_8 = true
     ·subst c16
      replace H := ift_ H
      simp only [Option.some.injEq, Prod.mk.injEq] at H
      obtain ⟨rfl, rfl, rfl⟩ := H
      go_wp2
      repeat (go_quiet (fail); try go_wp2)
      go_ret3
      exact ⟨z3_, z5_⟩
     ·replace c16 := Bool.eq_false_iff.mpr c16
      subst c16
      replace H := iff_ H
      have HC17 := Aside0.mk H
      clear H
      go_upto_region 7 with (fail)
      repeat (go_quiet (fail); go_upto_region 7 with (fail))
      go_cut [32] (fun v32 wc => ∃ (kq : Nat) (x32_16 : Bool), v32 = .bool x32_16 ∧ Aside0 (impl_opCode.j1 kq l0 a2 x32_16 a1_0 l1_1 a1_2 a1_3 a1_4 = some (r1, r2, r3)) ∧ Aside0 (kq ≤ kj8) ∧ Aside0 (wc.heap[gb478]? = some (.cells #[.int .i64 a1_0, (.slice A1_1 l1_1.length c1_1), .int .i64 a1_2, .int .i64 a1_3, .int .i64 a1_4] 100 (0, 0))) ∧ Aside0 (Below w.heap.size w wc))
      case first =>
       have H := HC17.out
       clear HC17
       by_cases c18 : a1_0 = 2
       ·rw [if_pos c18] at H
        have c18b0 : (a1_0 == 2) = true := beq_iff_eq.mpr c18
        have c18b1 : (a1_0 != 2) = false := bne_eq_false_iff_eq.mpr c18
        clear c18
        (first | rw [c18b0] | rw [c18b1] | (simp only [i64_w, i32_w]; rw [c18b0]) | skip)
        have H' := Aside0.mk H
        clear H
        obtain ⟨hcz19_0, hcz19_1, hcz19_2, hcz19_3, hcz19_4, hfz19_0, hfz19_1, hfz19_2, hfz19_3, hfz19_4⟩ := bx5_ BK478.out
        go_wp2
        repeat (go_quiet (fail); try go_wp2)
        go_meet
        case rel => exact ⟨_, ((a2 == 0)), z8_, H', ⟨z139_⟩, ⟨z33_⟩, ⟨z5_⟩⟩
       ·rw [if_neg c18] at H
        have c18b0 : (a1_0 == 2) = false := beq_eq_false_iff_ne.mpr c18
        have c18b1 : (a1_0 != 2) = true := bne_iff_ne.mpr c18
        (first | rw [c18b0] | rw [c18b1] | (simp only [i64_w, i32_w]; rw [c18b0]) | skip)
        have H' := Aside0.mk H
        clear H
        obtain ⟨hcz20_0, hcz20_1, hcz20_2, hcz20_3, hcz20_4, hfz20_0, hfz20_1, hfz20_2, hfz20_3, hfz20_4⟩ := bx5_ BK478.out
        go_wp2
        repeat (go_quiet (fail); try go_wp2)
        go_meet
        case rel => exact ⟨_, (false), z8_, H', ⟨z139_⟩, ⟨z33_⟩, ⟨z5_⟩⟩
      case rest =>
       clear HC17
       try clear c1
       try clear p2
       try clear c5
       try clear c6
       try clear c6b0
       try clear c9
       try clear c12
       try clear c12b0
       try clear c12b1
       try clear c16
       try clear c18
       try clear c18b0
       try clear c18b1
       try clear hcz11_0
       try clear hcz11_1
       try clear hcz11_2
       try clear hcz11_3
       try clear hcz11_4
       try clear hcz13_0
       try clear hcz13_1
       try clear hcz13_2
       try clear hcz13_3
       try clear hcz13_4
       try clear hcz15_0
       try clear hcz15_1
       try clear hcz15_2
       try clear hcz15_3
       try clear hcz15_4
       try clear hcz19_0
       try clear hcz19_1
       try clear hcz19_2
       try clear hcz19_3
       try clear hcz19_4
       try clear hcz20_0
       try clear hcz20_1
       try clear hcz20_2
       try clear hcz20_3
       try clear hcz20_4
       try clear hcz8_0
       try clear hcz8_1
       try clear hcz8_2
       try clear hcz8_3
       try clear hcz8_4
       try clear hfz11_0
       try clear hfz11_1
       try clear hfz11_2
       try clear hfz11_3
       try clear hfz11_4
       try clear hfz13_0
       try clear hfz13_1
       try clear hfz13_2
       try clear hfz13_3
       try clear hfz13_4
       try clear hfz15_0
       try clear hfz15_1
       try clear hfz15_2
       try clear hfz15_3
       try clear hfz15_4
       try clear hfz19_0
       try clear hfz19_1
       try clear hfz19_2
       try clear hfz19_3
       try clear hfz19_4
       try clear hfz20_0
       try clear hfz20_1
       try clear hfz20_2
       try clear hfz20_3
       try clear hfz20_4
       try clear hfz8_0
       try clear hfz8_1
       try clear hfz8_2
       try clear hfz8_3
       try clear hfz8_4
       try clear p2
       obtain ⟨kq, x32_16, rfl, HA, HJ16, BK478, HB⟩ := hcut
       cases kq with
       | zero => exact absurd HA.out (by simp [impl_opCode.j1])
       | succ kj16 =>
        have H := HA.out
        clear HA
        simp only [impl_opCode.j1] at H
        by_cases c21 : x32_16 = true
        ·subst c21
         replace H := ift_ H
         simp only [Option.some.injEq, Prod.mk.injEq] at H
         obtain ⟨rfl, rfl, rfl⟩ := H
         go_wp2
         repeat (go_quiet (fail); try go_wp2)
         go_ret3
         exact ⟨z3_, z5_⟩
        ·replace c21 := Bool.eq_false_iff.mpr c21
         subst c21
         replace H := iff_ H
         by_cases c22 : a1_0 = 3
         ·rw [if_pos c22] at H
          have c22b0 : (a1_0 == 3) = true := beq_iff_eq.mpr c22
          have c22b1 : (a1_0 != 3) = false := bne_eq_false_iff_eq.mpr c22
          clear c22
          obtain ⟨t481, A23, H⟩ := bnd_ H
          have HC24 := Aside0.mk H
          clear H
          obtain ⟨hcz25_0, hcz25_1, hcz25_2, hcz25_3, hcz25_4, hfz25_0, hfz25_1, hfz25_2, hfz25_3, hfz25_4⟩ := bx5_ BK478.out
          go_upto_region 12 with (first | (go_at_call 53; (with_reducible refine (impl_KidsOf.calls kj16 _ _ l0 a2 t481 _ ?side1 ?side2 A23.out).mono ?_); (case side1 => exact z2_); (case side2 => exact HC0.out); rintro e w26 ⟨v482, rfl, ho0, hb⟩; have HO483 := Aside0.mk (Kd.R_lower ho0 (below_size z5_)); replace BK478 := Aside0.mk (blk_below (g := gb478) (o := .cells #[.int .i64 a1_0, .slice A1_1 l1_1.length c1_1, .int .i64 a1_2, .int .i64 a1_3, .int .i64 a1_4] 100 (0, 0)) z33_ hb); replace HB := Aside0.mk (below_step z5_ hb); (try clear hb ho0)))
          repeat (go_quiet (first | (go_at_call 53; (with_reducible refine (impl_KidsOf.calls kj16 _ _ l0 a2 t481 _ ?side1 ?side2 A23.out).mono ?_); (case side1 => exact z2_); (case side2 => exact HC0.out); rintro e w26 ⟨v482, rfl, ho0, hb⟩; have HO483 := Aside0.mk (Kd.R_lower ho0 (below_size z5_)); replace BK478 := Aside0.mk (blk_below (g := gb478) (o := .cells #[.int .i64 a1_0, .slice A1_1 l1_1.length c1_1, .int .i64 a1_2, .int .i64 a1_3, .int .i64 a1_4] 100 (0, 0)) z33_ hb); replace HB := Aside0.mk (below_step z5_ hb); (try clear hb ho0))); go_upto_region 12 with (first | (go_at_call 53; (with_reducible refine (impl_KidsOf.calls kj16 _ _ l0 a2 t481 _ ?side1 ?side2 A23.out).mono ?_); (case side1 => exact z2_); (case side2 => exact HC0.out); rintro e w26 ⟨v482, rfl, ho0, hb⟩; have HO483 := Aside0.mk (Kd.R_lower ho0 (below_size z5_)); replace BK478 := Aside0.mk (blk_below (g := gb478) (o := .cells #[.int .i64 a1_0, .slice A1_1 l1_1.length c1_1, .int .i64 a1_2, .int .i64 a1_3, .int .i64 a1_4] 100 (0, 0)) z33_ hb); replace HB := Aside0.mk (below_step z5_ hb); (try clear hb ho0))))
          (try simp only [Act.put, List.setIfInBounds_toArray, List.set_cons_zero, List.set_cons_succ])
          go_cut [63] (fun v63 wc => ∃ (kq : Nat) (x63_23 : Bool), v63 = .bool x63_23 ∧ Aside0 (impl_opCode.j2 kq l0 a2 t481 x63_23 a1_0 l1_1 a1_2 a1_3 a1_4 = some (r1, r2, r3)) ∧ Aside0 (kq ≤ kj16) ∧ Aside0 (Kd.R (Kd.int .i64) 3 wc w.heap.size (fun _ => True) v482 t481) ∧ Aside0 (wc.heap[gb478]? = some (.cells #[.int .i64 a1_0, (.slice A1_1 l1_1.length c1_1), .int .i64 a1_2, .int .i64 a1_3, .int .i64 a1_4] 100 (0, 0))) ∧ Aside0 (Below w.heap.size w wc))
          case first =>
           have H := HC24.out
           clear HC24
           obtain ⟨t484, A27, H⟩ := bnd_ H
           by_cases c28 : t484 = true
           ·subst c28
            replace H := ift_ H
            obtain ⟨t485, A29, H⟩ := bnd_ H
            have H' := Aside0.mk H
            clear H
            obtain ⟨hcz30_0, hcz30_1, hcz30_2, hcz30_3, hcz30_4, hfz30_0, hfz30_1, hfz30_2, hfz30_3, hfz30_4⟩ := bx5_ BK478.out
            obtain ⟨Ao31, co31, eo31⟩ := Kd.R_slice HO483.out
            subst eo31
            go_wp2_with (first | (go_at_call 67; (with_reducible refine (impl_within.calls a1_3 0 (t481.length : Int) true _ A27.out).mono ?_); rintro e w' ⟨rfl, ⟨nd, rfl⟩⟩; (try first | exact ⟨rfl, _, World.drewN_drewN _ _ _⟩ | exact ⟨rfl, _, Eq.trans (World.drewN_drewN _ _ _) (congrArg (World.drewN _) (Nat.add_assoc _ _ _))⟩)) | (go_at_call 67; (with_reducible refine (impl_within.calls a1_4 0 (wrap64 ((t481.length : Int) - a1_3)) t485 _ A29.out).mono ?_); rintro e w' ⟨rfl, ⟨nd, rfl⟩⟩; (try first | exact ⟨rfl, _, World.drewN_drewN _ _ _⟩ | exact ⟨rfl, _, Eq.trans (World.drewN_drewN _ _ _) (congrArg (World.drewN _) (Nat.add_assoc _ _ _))⟩)))
            repeat (go_quiet (first | (go_at_call 67; (with_reducible refine (impl_within.calls a1_3 0 (t481.length : Int) true _ A27.out).mono ?_); rintro e w' ⟨rfl, ⟨nd, rfl⟩⟩; (try first | exact ⟨rfl, _, World.drewN_drewN _ _ _⟩ | exact ⟨rfl, _, Eq.trans (World.drewN_drewN _ _ _) (congrArg (World.drewN _) (Nat.add_assoc _ _ _))⟩)) | (go_at_call 67; (with_reducible refine (impl_within.calls a1_4 0 (wrap64 ((t481.length : Int) - a1_3)) t485 _ A29.out).mono ?_); rintro e w' ⟨rfl, ⟨nd, rfl⟩⟩; (try first | exact ⟨rfl, _, World.drewN_drewN _ _ _⟩ | exact ⟨rfl, _, Eq.trans (World.drewN_drewN _ _ _) (congrArg (World.drewN _) (Nat.add_assoc _ _ _))⟩))); try go_wp2_with (first | (go_at_call 67; (with_reducible refine (impl_within.calls a1_3 0 (t481.length : Int) true _ A27.out).mono ?_); rintro e w' ⟨rfl, ⟨nd, rfl⟩⟩; (try first | exact ⟨rfl, _, World.drewN_drewN _ _ _⟩ | exact ⟨rfl, _, Eq.trans (World.drewN_drewN _ _ _) (congrArg (World.drewN _) (Nat.add_assoc _ _ _))⟩)) | (go_at_call 67; (with_reducible refine (impl_within.calls a1_4 0 (wrap64 ((t481.length : Int) - a1_3)) t485 _ A29.out).mono ?_); rintro e w' ⟨rfl, ⟨nd, rfl⟩⟩; (try first | exact ⟨rfl, _, World.drewN_drewN _ _ _⟩ | exact ⟨rfl, _, Eq.trans (World.drewN_drewN _ _ _) (congrArg (World.drewN _) (Nat.add_assoc _ _ _))⟩))))
            go_meet
            case rel => exact ⟨_, (!t485), z8_, H', ⟨z131_⟩, ⟨z146_⟩, ⟨z33_⟩, ⟨z5_⟩⟩
           ·replace c28 := Bool.eq_false_iff.mpr c28
            subst c28
            replace H := iff_ H
            have H' := Aside0.mk H
            clear H
            obtain ⟨hcz32_0, hcz32_1, hcz32_2, hcz32_3, hcz32_4, hfz32_0, hfz32_1, hfz32_2, hfz32_3, hfz32_4⟩ := bx5_ BK478.out
            obtain ⟨Ao33, co33, eo33⟩ := Kd.R_slice HO483.out
            subst eo33
            go_wp2_with (first | (go_at_call 67; (with_reducible refine (impl_within.calls a1_3 0 (t481.length : Int) false _ A27.out).mono ?_); rintro e w' ⟨rfl, ⟨nd, rfl⟩⟩; (try first | exact ⟨rfl, _, World.drewN_drewN _ _ _⟩ | exact ⟨rfl, _, Eq.trans (World.drewN_drewN _ _ _) (congrArg (World.drewN _) (Nat.add_assoc _ _ _))⟩)))
            repeat (go_quiet (first | (go_at_call 67; (with_reducible refine (impl_within.calls a1_3 0 (t481.length : Int) false _ A27.out).mono ?_); rintro e w' ⟨rfl, ⟨nd, rfl⟩⟩; (try first | exact ⟨rfl, _, World.drewN_drewN _ _ _⟩ | exact ⟨rfl, _, Eq.trans (World.drewN_drewN _ _ _) (congrArg (World.drewN _) (Nat.add_assoc _ _ _))⟩))); try go_wp2_with (first | (go_at_call 67; (with_reducible refine (impl_within.calls a1_3 0 (t481.length : Int) false _ A27.out).mono ?_); rintro e w' ⟨rfl, ⟨nd, rfl⟩⟩; (try first | exact ⟨rfl, _, World.drewN_drewN _ _ _⟩ | exact ⟨rfl, _, Eq.trans (World.drewN_drewN _ _ _) (congrArg (World.drewN _) (Nat.add_assoc _ _ _))⟩))))
            go_meet
            case rel => exact ⟨_, (true), z8_, H', ⟨z131_⟩, ⟨z146_⟩, ⟨z33_⟩, ⟨z5_⟩⟩
          case rest =>
           clear HC24
           try clear c1
           try clear c2
           try clear p2
           try clear c5
           try clear c6
           try clear c6b0
           try clear p6
           try clear c9
           try clear c12
           try clear c12b0
           try clear c12b1
           try clear c16
           try clear c18
           try clear c18b0
           try clear c18b1
           try clear c21
           try clear c22
           try clear c22b0
           try clear c22b1
           try clear c28
           try clear hcz11_0
           try clear hcz11_1
           try clear hcz11_2
           try clear hcz11_3
           try clear hcz11_4
           try clear hcz13_0
           try clear hcz13_1
           try clear hcz13_2
           try clear hcz13_3
           try clear hcz13_4
           try clear hcz15_0
           try clear hcz15_1
           try clear hcz15_2
           try clear hcz15_3
           try clear hcz15_4
           try clear hcz19_0
           try clear hcz19_1
           try clear hcz19_2
           try clear hcz19_3
           try clear hcz19_4
           try clear hcz20_0
           try clear hcz20_1
           try clear hcz20_2
           try clear hcz20_3
           try clear hcz20_4
           try clear hcz25_0
           try clear hcz25_1
           try clear hcz25_2
           try clear hcz25_3
           try clear hcz25_4
           try clear hcz30_0
           try clear hcz30_1
           try clear hcz30_2
           try clear hcz30_3
           try clear hcz30_4
           try clear hcz32_0
           try clear hcz32_1
           try clear hcz32_2
           try clear hcz32_3
           try clear hcz32_4
           try clear hcz8_0
           try clear hcz8_1
           try clear hcz8_2
           try clear hcz8_3
           try clear hcz8_4
           try clear hfz11_0
           try clear hfz11_1
           try clear hfz11_2
           try clear hfz11_3
           try clear hfz11_4
           try clear hfz13_0
           try clear hfz13_1
           try clear hfz13_2
           try clear hfz13_3
           try clear hfz13_4
           try clear hfz15_0
           try clear hfz15_1
           try clear hfz15_2
           try clear hfz15_3
           try clear hfz15_4
           try clear hfz19_0
           try clear hfz19_1
           try clear hfz19_2
           try clear hfz19_3
           try clear hfz19_4
           try clear hfz20_0
           try clear hfz20_1
           try clear hfz20_2
           try clear hfz20_3
           try clear hfz20_4
           try clear hfz25_0
           try clear hfz25_1
           try clear hfz25_2
           try clear hfz25_3
           try clear hfz25_4
           try clear hfz30_0
           try clear hfz30_1
           try clear hfz30_2
           try clear hfz30_3
           try clear hfz30_4
           try clear hfz32_0
           try clear hfz32_1
           try clear hfz32_2
           try clear hfz32_3
           try clear hfz32_4
           try clear hfz8_0
           try clear hfz8_1
           try clear hfz8_2
           try clear hfz8_3
           try clear hfz8_4
           try clear p2
           obtain ⟨kq, x63_23, rfl, HA, HJ23, HO_9, BK478, HB⟩ := hcut
           cases kq with
           | zero => exact absurd HA.out (by simp [impl_opCode.j2])
           | succ kj23 =>
            have H := HA.out
            clear HA
            simp only [impl_opCode.j2] at H
            by_cases c34 : x63_23 = true
            ·subst c34
             replace H := ift_ H
             simp only [Option.some.injEq, Prod.mk.injEq] at H
             obtain ⟨rfl, rfl, rfl⟩ := H
             go_wp2
             repeat (go_quiet (fail); try go_wp2)
             go_ret3
             exact ⟨z3_, z5_⟩
            ·replace c34 := Bool.eq_false_iff.mpr c34
             subst c34
             replace H := iff_ H
             obtain ⟨t486, A35, H⟩ := bnd_ H
             obtain ⟨c36, H⟩ := ifs_ H
             have LMc36 := Aside0.mk c36
             clear c36
             first | ((with_reducible have hz_ := gy_ H); obtain ⟨y487, Ny487, H⟩ := hz_) | (generalize hy_ : ((t481 ++ [t486]) : List Int) = y487 at H; have Ny487 := Aside0.mk hy_.symm; clear hy_)
             obtain ⟨c37b0, H⟩ := ifd_ H
             obtain ⟨c38b0, H⟩ := ifd_ H
             obtain ⟨ji39, hji39⟩ : ∃ j_ : Int, (wrap64 (a1_3 + a1_4)) = j_ := ⟨_, rfl⟩
             first | rw [hji39] at H | simp only [hji39] at H
             (try rw [hji39] at A35)
             have hji39w : (IntKind.i64.wrap (a1_3 + a1_4)) = ji39 := (i64_w _).trans hji39
             obtain ⟨c40b0, H⟩ := ifd_ H
             obtain ⟨c41b0, H⟩ := ifd_ H
             obtain ⟨c42b0, H⟩ := ifd_ H
             obtain ⟨c43b0, H⟩ := ifd_ H
             obtain ⟨c44b0, c44b1, H⟩ := ife_ H
             obtain ⟨c45b0, c45b1, H⟩ := ife_ H
             obtain ⟨c46b0, c46b1, H⟩ := ife_ H
             first | ((with_reducible have hz_ := gy_ H); obtain ⟨y493, Ny493, H⟩ := hz_) | (generalize hy_ : (((l0.take ((rd y487 (ji39)) : Int).toNat).drop ((rd y487 a1_3) : Int).toNat) : List (S45)) = y493 at H; have Ny493 := Aside0.mk hy_.symm; clear hy_)
             have H' := Aside0.mk H
             clear H
             go_wp2_with (first | (go_at_call 80; (with_reducible refine (impl_endOf.calls kj23 _ _ l0 a2 t486 _ ?side1 ?side2 A35.out).mono ?_); (case side1 => exact z2_); (case side2 => exact HC0.out); rintro e w' ⟨rfl, ⟨nd, rfl⟩⟩; (try first | exact ⟨rfl, _, World.drewN_drewN _ _ _⟩ | exact ⟨rfl, _, Eq.trans (World.drewN_drewN _ _ _) (congrArg (World.drewN _) (Nat.add_assoc _ _ _))⟩)) | ((with_reducible refine gate_builtin (b := .append) (xs := #[.tmp 64, .tmp 68]) rfl ?_); (try (refine gate_guard (by rfl) ?_; dsimp only)); at_builtin; refine Kd.R_append (Kd.int .i64) (w0 := w) w.heap.size rfl (.tmp 64) (.tmp 68) 31 3 (.int .i64 0) 8 rfl Try.underlying31 info3 rfl (by decide) (by omega) v482 t481 t486 [.int .i64 t486] (fun _ => True) (fun _ => False) rfl rfl ?aP (fun _ hk => hk.elim) ?aF ?aO ?aB ?aS ?aL ?_; (case aP => exact rfl); (case aB => exact z92_); (case aF => exact z87_); (case aO => exact z82_); (case aS => exact z88_); (case aL => exact z151_); intro v488 w47 ho hb hg hat; rw [← Ny487.out] at ho; replace BK478 := Aside0.mk (blk_grown (g := gb478) (o := .cells #[.int .i64 a1_0, .slice A1_1 l1_1.length c1_1, .int .i64 a1_2, .int .i64 a1_3, .int .i64 a1_4] 100 (0, 0)) z33_ hg (Kd.R_ne HO_9.out BK478.out (by decide))); replace HB := Aside0.mk (hb); have HO489 := Aside0.mk (ho); clear HO_9; clear ho hb hg hat; obtain ⟨hcz48_0, hcz48_1, hcz48_2, hcz48_3, hcz48_4, hfz48_0, hfz48_1, hfz48_2, hfz48_3, hfz48_4⟩ := bx5_ BK478.out; obtain ⟨Ao49, co49, eo49⟩ := Kd.R_slice HO489.out; subst eo49; have p490 : 0 ≤ (a1_3 : Int) := odt_; have q490 : a1_3 < (y487.length : Int) := odt_; obtain ⟨ad490, e490, hx490_0⟩ := Kd.at_int (Kd.R_reads' HO489.out).2.2 a1_3 p490 q490; cases e490; replace p490 := eq_true p490; replace q490 := eq_true q490; have p491 : 0 ≤ ((ji39) : Int) := odt_; have q491 : (ji39) < (y487.length : Int) := odt_; obtain ⟨ad491, e491, hx491_0⟩ := Kd.at_int (Kd.R_reads' HO489.out).2.2 (ji39) p491 q491; obtain rfl : ad490 = ad491 := (by injection e491); replace p491 := eq_true p491; replace q491 := eq_true q491; have p492 : 0 ≤ (a2 : Int) := odt_; have q492 : a2 < (l0.length : Int) := odt_; obtain ⟨ad492, e492, hx492_0, hx492_1⟩ := at_T45 HR0.out a2 p492 q492; cases e492; replace hx492_0 := (HB.out.cell (World.block_lt_of_cell? w _ hx492_0)).trans hx492_0; replace hx492_1 := (HB.out.cell (World.block_lt_of_cell? w _ hx492_1)).trans hx492_1; replace p492 := eq_true p492; replace q492 := eq_true q492; have q50 : ((rd y487 (ji39)) : Int) ≤ ((l0.length : Int) : Int) := odt_; obtain ⟨i050, hi050, _, hsz50, _⟩ := info_parts info45; have hroom50 : l0.length ≤ c0 := HC0.out; have hC50 : Kd.C k45 _ (some ad492) l0.length l0 := HR0.out; have ql50 : ((rd y487 a1_3) : Int) ≤ ((rd y487 (ji39)) : Int) := odt_; have q050 : (0 : Int) ≤ ((rd y487 a1_3) : Int) := odt_; have hcut50 := cut_mid (P := Try.prog) 30 45 .i64 .i64 Try.underlying30 hi050 2 hsz50 (some ad492) l0.length c0 (rd y487 a1_3) (rd y487 (ji39)) q050 ql50 q50 hroom50; have hr50 := Kd.C_mid (lo := ((rd y487 a1_3) : Int).toNat) (hi := ((rd y487 (ji39)) : Int).toNat) (c := c0) hC50 (by omega) (by omega) hroom50; obtain ⟨A50, hA50⟩ : ∃ A1, A1 = (if c0 = ((rd y487 a1_3) : Int).toNat then (some ad492) else ((some ad492) : Option Addr).map (·.add (((rd y487 a1_3) : Int).toNat * 2))) := ⟨_, rfl⟩; obtain ⟨c50, hc50⟩ : ∃ c1, c1 = c0 - ((rd y487 a1_3) : Int).toNat := ⟨_, rfl⟩; have hy50 : y493.length = ((rd y487 (ji39)) : Int).toNat - ((rd y487 a1_3) : Int).toNat := z149_; rw [show ((l0).take ((rd y487 (ji39)) : Int).toNat).drop ((rd y487 a1_3) : Int).toNat = y493 from Ny493.out.symm] at hr50; replace hr50 : Kd.C k45 _ A50 y493.length y493 := (by rw [hA50]; exact hr50); rw [← hy50, ← hA50, ← hc50] at hcut50; have HR496 := Aside0.mk hr50; have HC496 := Aside0.mk (show y493.length ≤ c50 from by rw [hy50, hc50]; exact Nat.sub_le_sub_right (Nat.le_trans (by omega) hroom50) _); clear hr50 hC50 hroom50 hi050 hsz50 hc50; have KY50 := Aside0.mk hy50; have KA50 := Aside0.mk hA50; clear hy50 hA50; replace q50 := eq_true q50))
             repeat (go_quiet (first | (go_at_call 80; (with_reducible refine (impl_endOf.calls kj23 _ _ l0 a2 t486 _ ?side1 ?side2 A35.out).mono ?_); (case side1 => exact z2_); (case side2 => exact HC0.out); rintro e w' ⟨rfl, ⟨nd, rfl⟩⟩; (try first | exact ⟨rfl, _, World.drewN_drewN _ _ _⟩ | exact ⟨rfl, _, Eq.trans (World.drewN_drewN _ _ _) (congrArg (World.drewN _) (Nat.add_assoc _ _ _))⟩)) | ((with_reducible refine gate_builtin (b := .append) (xs := #[.tmp 64, .tmp 68]) rfl ?_); (try (refine gate_guard (by rfl) ?_; dsimp only)); at_builtin; refine Kd.R_append (Kd.int .i64) (w0 := w) w.heap.size rfl (.tmp 64) (.tmp 68) 31 3 (.int .i64 0) 8 rfl Try.underlying31 info3 rfl (by decide) (by omega) v482 t481 t486 [.int .i64 t486] (fun _ => True) (fun _ => False) rfl rfl ?aP (fun _ hk => hk.elim) ?aF ?aO ?aB ?aS ?aL ?_; (case aP => exact rfl); (case aB => exact z92_); (case aF => exact z87_); (case aO => exact z82_); (case aS => exact z88_); (case aL => exact z151_); intro v488 w47 ho hb hg hat; rw [← Ny487.out] at ho; replace BK478 := Aside0.mk (blk_grown (g := gb478) (o := .cells #[.int .i64 a1_0, .slice A1_1 l1_1.length c1_1, .int .i64 a1_2, .int .i64 a1_3, .int .i64 a1_4] 100 (0, 0)) z33_ hg (Kd.R_ne HO_9.out BK478.out (by decide))); replace HB := Aside0.mk (hb); have HO489 := Aside0.mk (ho); clear HO_9; clear ho hb hg hat; obtain ⟨hcz48_0, hcz48_1, hcz48_2, hcz48_3, hcz48_4, hfz48_0, hfz48_1, hfz48_2, hfz48_3, hfz48_4⟩ := bx5_ BK478.out; obtain ⟨Ao49, co49, eo49⟩ := Kd.R_slice HO489.out; subst eo49; have p490 : 0 ≤ (a1_3 : Int) := odt_; have q490 : a1_3 < (y487.length : Int) := odt_; obtain ⟨ad490, e490, hx490_0⟩ := Kd.at_int (Kd.R_reads' HO489.out).2.2 a1_3 p490 q490; cases e490; replace p490 := eq_true p490; replace q490 := eq_true q490; have p491 : 0 ≤ ((ji39) : Int) := odt_; have q491 : (ji39) < (y487.length : Int) := odt_; obtain ⟨ad491, e491, hx491_0⟩ := Kd.at_int (Kd.R_reads' HO489.out).2.2 (ji39) p491 q491; obtain rfl : ad490 = ad491 := (by injection e491); replace p491 := eq_true p491; replace q491 := eq_true q491; have p492 : 0 ≤ (a2 : Int) := odt_; have q492 : a2 < (l0.length : Int) := odt_; obtain ⟨ad492, e492, hx492_0, hx492_1⟩ := at_T45 HR0.out a2 p492 q492; cases e492; replace hx492_0 := (HB.out.cell (World.block_lt_of_cell? w _ hx492_0)).trans hx492_0; replace hx492_1 := (HB.out.cell (World.block_lt_of_cell? w _ hx492_1)).trans hx492_1; replace p492 := eq_true p492; replace q492 := eq_true q492; have q50 : ((rd y487 (ji39)) : Int) ≤ ((l0.length : Int) : Int) := odt_; obtain ⟨i050, hi050, _, hsz50, _⟩ := info_parts info45; have hroom50 : l0.length ≤ c0 := HC0.out; have hC50 : Kd.C k45 _ (some ad492) l0.length l0 := HR0.out; have ql50 : ((rd y487 a1_3) : Int) ≤ ((rd y487 (ji39)) : Int) := odt_; have q050 : (0 : Int) ≤ ((rd y487 a1_3) : Int) := odt_; have hcut50 := cut_mid (P := Try.prog) 30 45 .i64 .i64 Try.underlying30 hi050 2 hsz50 (some ad492) l0.length c0 (rd y487 a1_3) (rd y487 (ji39)) q050 ql50 q50 hroom50; have hr50 := Kd.C_mid (lo := ((rd y487 a1_3) : Int).toNat) (hi := ((rd y487 (ji39)) : Int).toNat) (c := c0) hC50 (by omega) (by omega) hroom50; obtain ⟨A50, hA50⟩ : ∃ A1, A1 = (if c0 = ((rd y487 a1_3) : Int).toNat then (some ad492) else ((some ad492) : Option Addr).map (·.add (((rd y487 a1_3) : Int).toNat * 2))) := ⟨_, rfl⟩; obtain ⟨c50, hc50⟩ : ∃ c1, c1 = c0 - ((rd y487 a1_3) : Int).toNat := ⟨_, rfl⟩; have hy50 : y493.length = ((rd y487 (ji39)) : Int).toNat - ((rd y487 a1_3) : Int).toNat := z149_; rw [show ((l0).take ((rd y487 (ji39)) : Int).toNat).drop ((rd y487 a1_3) : Int).toNat = y493 from Ny493.out.symm] at hr50; replace hr50 : Kd.C k45 _ A50 y493.length y493 := (by rw [hA50]; exact hr50); rw [← hy50, ← hA50, ← hc50] at hcut50; have HR496 := Aside0.mk hr50; have HC496 := Aside0.mk (show y493.length ≤ c50 from by rw [hy50, hc50]; exact Nat.sub_le_sub_right (Nat.le_trans (by omega) hroom50) _); clear hr50 hC50 hroom50 hi050 hsz50 hc50; have KY50 := Aside0.mk hy50; have KA50 := Aside0.mk hA50; clear hy50 hA50; replace q50 := eq_true q50)); try go_wp2_with (first | (go_at_call 80; (with_reducible refine (impl_endOf.calls kj23 _ _ l0 a2 t486 _ ?side1 ?side2 A35.out).mono ?_); (case side1 => exact z2_); (case side2 => exact HC0.out); rintro e w' ⟨rfl, ⟨nd, rfl⟩⟩; (try first | exact ⟨rfl, _, World.drewN_drewN _ _ _⟩ | exact ⟨rfl, _, Eq.trans (World.drewN_drewN _ _ _) (congrArg (World.drewN _) (Nat.add_assoc _ _ _))⟩)) | ((with_reducible refine gate_builtin (b := .append) (xs := #[.tmp 64, .tmp 68]) rfl ?_); (try (refine gate_guard (by rfl) ?_; dsimp only)); at_builtin; refine Kd.R_append (Kd.int .i64) (w0 := w) w.heap.size rfl (.tmp 64) (.tmp 68) 31 3 (.int .i64 0) 8 rfl Try.underlying31 info3 rfl (by decide) (by omega) v482 t481 t486 [.int .i64 t486] (fun _ => True) (fun _ => False) rfl rfl ?aP (fun _ hk => hk.elim) ?aF ?aO ?aB ?aS ?aL ?_; (case aP => exact rfl); (case aB => exact z92_); (case aF => exact z87_); (case aO => exact z82_); (case aS => exact z88_); (case aL => exact z151_); intro v488 w47 ho hb hg hat; rw [← Ny487.out] at ho; replace BK478 := Aside0.mk (blk_grown (g := gb478) (o := .cells #[.int .i64 a1_0, .slice A1_1 l1_1.length c1_1, .int .i64 a1_2, .int .i64 a1_3, .int .i64 a1_4] 100 (0, 0)) z33_ hg (Kd.R_ne HO_9.out BK478.out (by decide))); replace HB := Aside0.mk (hb); have HO489 := Aside0.mk (ho); clear HO_9; clear ho hb hg hat; obtain ⟨hcz48_0, hcz48_1, hcz48_2, hcz48_3, hcz48_4, hfz48_0, hfz48_1, hfz48_2, hfz48_3, hfz48_4⟩ := bx5_ BK478.out; obtain ⟨Ao49, co49, eo49⟩ := Kd.R_slice HO489.out; subst eo49; have p490 : 0 ≤ (a1_3 : Int) := odt_; have q490 : a1_3 < (y487.length : Int) := odt_; obtain ⟨ad490, e490, hx490_0⟩ := Kd.at_int (Kd.R_reads' HO489.out).2.2 a1_3 p490 q490; cases e490; replace p490 := eq_true p490; replace q490 := eq_true q490; have p491 : 0 ≤ ((ji39) : Int) := odt_; have q491 : (ji39) < (y487.length : Int) := odt_; obtain ⟨ad491, e491, hx491_0⟩ := Kd.at_int (Kd.R_reads' HO489.out).2.2 (ji39) p491 q491; obtain rfl : ad490 = ad491 := (by injection e491); replace p491 := eq_true p491; replace q491 := eq_true q491; have p492 : 0 ≤ (a2 : Int) := odt_; have q492 : a2 < (l0.length : Int) := odt_; obtain ⟨ad492, e492, hx492_0, hx492_1⟩ := at_T45 HR0.out a2 p492 q492; cases e492; replace hx492_0 := (HB.out.cell (World.block_lt_of_cell? w _ hx492_0)).trans hx492_0; replace hx492_1 := (HB.out.cell (World.block_lt_of_cell? w _ hx492_1)).trans hx492_1; replace p492 := eq_true p492; replace q492 := eq_true q492; have q50 : ((rd y487 (ji39)) : Int) ≤ ((l0.length : Int) : Int) := odt_; obtain ⟨i050, hi050, _, hsz50, _⟩ := info_parts info45; have hroom50 : l0.length ≤ c0 := HC0.out; have hC50 : Kd.C k45 _ (some ad492) l0.length l0 := HR0.out; have ql50 : ((rd y487 a1_3) : Int) ≤ ((rd y487 (ji39)) : Int) := odt_; have q050 : (0 : Int) ≤ ((rd y487 a1_3) : Int) := odt_; have hcut50 := cut_mid (P := Try.prog) 30 45 .i64 .i64 Try.underlying30 hi050 2 hsz50 (some ad492) l0.length c0 (rd y487 a1_3) (rd y487 (ji39)) q050 ql50 q50 hroom50; have hr50 := Kd.C_mid (lo := ((rd y487 a1_3) : Int).toNat) (hi := ((rd y487 (ji39)) : Int).toNat) (c := c0) hC50 (by omega) (by omega) hroom50; obtain ⟨A50, hA50⟩ : ∃ A1, A1 = (if c0 = ((rd y487 a1_3) : Int).toNat then (some ad492) else ((some ad492) : Option Addr).map (·.add (((rd y487 a1_3) : Int).toNat * 2))) := ⟨_, rfl⟩; obtain ⟨c50, hc50⟩ : ∃ c1, c1 = c0 - ((rd y487 a1_3) : Int).toNat := ⟨_, rfl⟩; have hy50 : y493.length = ((rd y487 (ji39)) : Int).toNat - ((rd y487 a1_3) : Int).toNat := z149_; rw [show ((l0).take ((rd y487 (ji39)) : Int).toNat).drop ((rd y487 a1_3) : Int).toNat = y493 from Ny493.out.symm] at hr50; replace hr50 : Kd.C k45 _ A50 y493.length y493 := (by rw [hA50]; exact hr50); rw [← hy50, ← hA50, ← hc50] at hcut50; have HR496 := Aside0.mk hr50; have HC496 := Aside0.mk (show y493.length ≤ c50 from by rw [hy50, hc50]; exact Nat.sub_le_sub_right (Nat.le_trans (by omega) hroom50) _); clear hr50 hC50 hroom50 hi050 hsz50 hc50; have KY50 := Aside0.mk hy50; have KA50 := Aside0.mk hA50; clear hy50 hA50; replace q50 := eq_true q50)))
             go_loopg [11, 94] kj23 (fun kq v11 v94 w' => ∃ (x11_4 : Int) (x94_4 : Int), v11 = .int .i64 x11_4 ∧ v94 = .int .i64 x94_4 ∧ Aside0 (impl_opCode.l0 kq l0 (rd y487 a1_3) (rd y487 (ji39)) x11_4 y493 (y493.length : Int) x94_4 = some (r1, r2, r3)) ∧ Aside0 (kq ≤ kj23) ∧ Aside0 (w'.heap[gb478]? = some (.cells #[.int .i64 a1_0, (.slice A1_1 l1_1.length c1_1), .int .i64 a1_2, .int .i64 a1_3, .int .i64 a1_4] 100 (0, 0))) ∧ Aside0 (Below w.heap.size w w'))
             case atStart => exact ⟨(wrap64 (((rd_T45 l0 a2).f1) + 1)), (0), z8_, z8_, H', ⟨Nat.le_refl _⟩, ⟨z33_⟩, ⟨z5_⟩⟩
             case round =>
              clear H'
              try clear c1
              try clear c2
              try clear p2
              try clear c3
              try clear c4
              try clear p4
              try clear q4
              try clear hx4
              try clear c5
              try clear q5
              try clear c6
              try clear c6b0
              try clear p6
              try clear c9
              try clear c12
              try clear c12b0
              try clear c12b1
              try clear c16
              try clear c18
              try clear c18b0
              try clear c18b1
              try clear c21
              try clear c22
              try clear c22b0
              try clear c22b1
              try clear c28
              try clear c34
              try clear c36
              try clear c37
              try clear c37b0
              try clear c38
              try clear c38b0
              try clear c40
              try clear c40b0
              try clear c41
              try clear c41b0
              try clear c42
              try clear c42b0
              try clear c43
              try clear c43b0
              try clear c44
              try clear c44b0
              try clear c44b1
              try clear c45
              try clear c45b0
              try clear c45b1
              try clear c46
              try clear c46b0
              try clear c46b1
              try clear p49
              try clear q49
              try clear hx49
              try clear c50
              try clear q50
              try clear hcz11_0
              try clear hcz11_1
              try clear hcz11_2
              try clear hcz11_3
              try clear hcz11_4
              try clear hcz13_0
              try clear hcz13_1
              try clear hcz13_2
              try clear hcz13_3
              try clear hcz13_4
              try clear hcz15_0
              try clear hcz15_1
              try clear hcz15_2
              try clear hcz15_3
              try clear hcz15_4
              try clear hcz19_0
              try clear hcz19_1
              try clear hcz19_2
              try clear hcz19_3
              try clear hcz19_4
              try clear hcz20_0
              try clear hcz20_1
              try clear hcz20_2
              try clear hcz20_3
              try clear hcz20_4
              try clear hcz25_0
              try clear hcz25_1
              try clear hcz25_2
              try clear hcz25_3
              try clear hcz25_4
              try clear hcz30_0
              try clear hcz30_1
              try clear hcz30_2
              try clear hcz30_3
              try clear hcz30_4
              try clear hcz32_0
              try clear hcz32_1
              try clear hcz32_2
              try clear hcz32_3
              try clear hcz32_4
              try clear hcz48_0
              try clear hcz48_1
              try clear hcz48_2
              try clear hcz48_3
              try clear hcz48_4
              try clear hcz8_0
              try clear hcz8_1
              try clear hcz8_2
              try clear hcz8_3
              try clear hcz8_4
              try clear hfz11_0
              try clear hfz11_1
              try clear hfz11_2
              try clear hfz11_3
              try clear hfz11_4
              try clear hfz13_0
              try clear hfz13_1
              try clear hfz13_2
              try clear hfz13_3
              try clear hfz13_4
              try clear hfz15_0
              try clear hfz15_1
              try clear hfz15_2
              try clear hfz15_3
              try clear hfz15_4
              try clear hfz19_0
              try clear hfz19_1
              try clear hfz19_2
              try clear hfz19_3
              try clear hfz19_4
              try clear hfz20_0
              try clear hfz20_1
              try clear hfz20_2
              try clear hfz20_3
              try clear hfz20_4
              try clear hfz25_0
              try clear hfz25_1
              try clear hfz25_2
              try clear hfz25_3
              try clear hfz25_4
              try clear hfz30_0
              try clear hfz30_1
              try clear hfz30_2
              try clear hfz30_3
              try clear hfz30_4
              try clear hfz32_0
              try clear hfz32_1
              try clear hfz32_2
              try clear hfz32_3
              try clear hfz32_4
              try clear hfz48_0
              try clear hfz48_1
              try clear hfz48_2
              try clear hfz48_3
              try clear hfz48_4
              try clear hfz8_0
              try clear hfz8_1
              try clear hfz8_2
              try clear hfz8_3
              try clear hfz8_4
              try clear hx490_0
              try clear hx491_0
              try clear hx492_0
              try clear hx492_1
              try clear p2
              try clear p490
              try clear p491
              try clear p492
              try clear p6
              try clear q050
              try clear q490
              try clear q491
              try clear q492
              try clear q50
              obtain ⟨x11_4, x94_4, rfl, rfl, HA, HK4, BK478, HB⟩ := hrel
              cases gk with
              | zero => exact absurd HA.out (by simp [impl_opCode.l0])
              | succ k4 =>
               have H := HA.out
               clear HA
               simp only [impl_opCode.l0] at H
               by_cases c51 : x94_4 < (y493.length : Int)
               ·rw [if_pos c51] at H
                have c51b0 := decide_eq_true c51
                clear c51
                obtain ⟨c52b0, H⟩ := ifd_ H
                obtain ⟨c53b0, H⟩ := ifd_ H
                obtain ⟨ji54, hji54⟩ : ∃ j_ : Int, (mx x11_4 (wrap64 (((rd_T45 y493 x94_4).f1) + 1))) = j_ := ⟨_, rfl⟩
                first | rw [hji54] at H | simp only [hji54] at H
                have hji54_ : (if x11_4 < (wrap64 (((rd_T45 y493 x94_4).f1) + 1)) then (wrap64 (((rd_T45 y493 x94_4).f1) + 1)) else x11_4) = ji54 := hji54
                have H' := Aside0.mk H
                clear H
                obtain ⟨p497, q497, ad497, e497, hx497_0, hx497_1⟩ := atb45_ HR496 HB x94_4
                cases e497
                go_wp2_with (first | ((with_reducible refine gate_dst (N := 13) rfl ?_); (try (refine gate_guard (by rfl) ?_; dsimp only)); refine box_event ?hg (N := 13) ?hd (cs := #[.int .i64 0, .int .i64 0]) (t := 45) ?hr ?_; (case hd => rfl); (case hg => rfl); (case hr => exact z10_); intro gb498 hg w55 hbox hb; have BK498 := Aside0.mk (hbox); have GW498 := Aside0.mk ((by rw [hg]; exact (below_size z5_) : w.heap.size ≤ gb498)); have GE498 := Aside0.mk ((by rw [hg]; exact (below_size z5_) : w.heap.size ≤ gb498)); replace HB := Aside0.mk (below_step z5_ hb); have NB478_498 := Aside0.mk ((by rw [hg]; exact Nat.ne_of_lt (blk_lt (g := gb478) (o := .cells #[.int .i64 a1_0, .slice A1_1 l1_1.length c1_1, .int .i64 a1_2, .int .i64 a1_3, .int .i64 a1_4] 100 (0, 0)) z33_) : gb478 ≠ gb498)); have NB498_478 := Aside0.mk ((by rw [hg]; exact Nat.ne_of_gt (blk_lt (g := gb478) (o := .cells #[.int .i64 a1_0, .slice A1_1 l1_1.length c1_1, .int .i64 a1_2, .int .i64 a1_3, .int .i64 a1_4] 100 (0, 0)) z33_) : gb498 ≠ gb478)); replace BK478 := Aside0.mk (blk_below (g := gb478) (o := .cells #[.int .i64 a1_0, .slice A1_1 l1_1.length c1_1, .int .i64 a1_2, .int .i64 a1_3, .int .i64 a1_4] 100 (0, 0)) z33_ hb); clear hb hbox hg; have hnb56 := NB498_478.out; have hnc56 := NB478_498.out; obtain ⟨hcz57_0, hcz57_1, hfz57_0, hfz57_1⟩ := bx2_ BK498.out))
                repeat (go_quiet (first | ((with_reducible refine gate_dst (N := 13) rfl ?_); (try (refine gate_guard (by rfl) ?_; dsimp only)); refine box_event ?hg (N := 13) ?hd (cs := #[.int .i64 0, .int .i64 0]) (t := 45) ?hr ?_; (case hd => rfl); (case hg => rfl); (case hr => exact z10_); intro gb498 hg w55 hbox hb; have BK498 := Aside0.mk (hbox); have GW498 := Aside0.mk ((by rw [hg]; exact (below_size z5_) : w.heap.size ≤ gb498)); have GE498 := Aside0.mk ((by rw [hg]; exact (below_size z5_) : w.heap.size ≤ gb498)); replace HB := Aside0.mk (below_step z5_ hb); have NB478_498 := Aside0.mk ((by rw [hg]; exact Nat.ne_of_lt (blk_lt (g := gb478) (o := .cells #[.int .i64 a1_0, .slice A1_1 l1_1.length c1_1, .int .i64 a1_2, .int .i64 a1_3, .int .i64 a1_4] 100 (0, 0)) z33_) : gb478 ≠ gb498)); have NB498_478 := Aside0.mk ((by rw [hg]; exact Nat.ne_of_gt (blk_lt (g := gb478) (o := .cells #[.int .i64 a1_0, .slice A1_1 l1_1.length c1_1, .int .i64 a1_2, .int .i64 a1_3, .int .i64 a1_4] 100 (0, 0)) z33_) : gb498 ≠ gb478)); replace BK478 := Aside0.mk (blk_below (g := gb478) (o := .cells #[.int .i64 a1_0, .slice A1_1 l1_1.length c1_1, .int .i64 a1_2, .int .i64 a1_3, .int .i64 a1_4] 100 (0, 0)) z33_ hb); clear hb hbox hg; have hnb56 := NB498_478.out; have hnc56 := NB478_498.out; obtain ⟨hcz57_0, hcz57_1, hfz57_0, hfz57_1⟩ := bx2_ BK498.out)); try go_wp2_with (first | ((with_reducible refine gate_dst (N := 13) rfl ?_); (try (refine gate_guard (by rfl) ?_; dsimp only)); refine box_event ?hg (N := 13) ?hd (cs := #[.int .i64 0, .int .i64 0]) (t := 45) ?hr ?_; (case hd => rfl); (case hg => rfl); (case hr => exact z10_); intro gb498 hg w55 hbox hb; have BK498 := Aside0.mk (hbox); have GW498 := Aside0.mk ((by rw [hg]; exact (below_size z5_) : w.heap.size ≤ gb498)); have GE498 := Aside0.mk ((by rw [hg]; exact (below_size z5_) : w.heap.size ≤ gb498)); replace HB := Aside0.mk (below_step z5_ hb); have NB478_498 := Aside0.mk ((by rw [hg]; exact Nat.ne_of_lt (blk_lt (g := gb478) (o := .cells #[.int .i64 a1_0, .slice A1_1 l1_1.length c1_1, .int .i64 a1_2, .int .i64 a1_3, .int .i64 a1_4] 100 (0, 0)) z33_) : gb478 ≠ gb498)); have NB498_478 := Aside0.mk ((by rw [hg]; exact Nat.ne_of_gt (blk_lt (g := gb478) (o := .cells #[.int .i64 a1_0, .slice A1_1 l1_1.length c1_1, .int .i64 a1_2, .int .i64 a1_3, .int .i64 a1_4] 100 (0, 0)) z33_) : gb498 ≠ gb478)); replace BK478 := Aside0.mk (blk_below (g := gb478) (o := .cells #[.int .i64 a1_0, .slice A1_1 l1_1.length c1_1, .int .i64 a1_2, .int .i64 a1_3, .int .i64 a1_4] 100 (0, 0)) z33_ hb); clear hb hbox hg; have hnb56 := NB498_478.out; have hnc56 := NB478_498.out; obtain ⟨hcz57_0, hcz57_1, hfz57_0, hfz57_1⟩ := bx2_ BK498.out)))
                go_roundg k4
                case measure => have := HJ8.out; have := HJ16.out; have := HJ23.out; have := HK4.out; omega
                case rel => exact ⟨(ji54), (wrap64 (x94_4 + 1)), (by first | rfl | (simp; done) | (simp only [← hji54] <;> (first | rfl | simp)) | (simp [*]; done)), z8_, H', ⟨by have := HJ8.out; have := HJ16.out; have := HJ23.out; have := HK4.out; omega⟩, ⟨by (with_reducible repeat (first | refine blk_drewN ?_ _ | refine blk_drew ?_ | refine blk_alloc ?_ _)); refine blk_far ?_ NB478_498.out _; (with_reducible repeat (first | refine blk_drewN ?_ _ | refine blk_drew ?_ | refine blk_alloc ?_ _)); refine blk_far ?_ NB478_498.out _; (with_reducible repeat (first | refine blk_drewN ?_ _ | refine blk_drew ?_ | refine blk_alloc ?_ _)); exact BK478.out⟩, ⟨by repeat (first | (with_reducible first | exact HB.out | apply below_alloc | apply pw_below_drewN | apply below_drew1 | refine below_set ?_ GE478.out | refine below_set ?_ GE498.out) | exact HB.out)⟩⟩
               ·rw [if_neg c51] at H
                have c51b0 := decide_eq_false c51
                clear c51
                by_cases c58 : (l0.length : Int) = 24
                ·rw [if_pos c58] at H
                 have c58b0 : ((l0.length : Int) == 24) = true := beq_iff_eq.mpr c58
                 have c58b1 : ((l0.length : Int) != 24) = false := bne_eq_false_iff_eq.mpr c58
                 clear c58
                 simp only [Option.some.injEq, Prod.mk.injEq] at H
                 obtain ⟨rfl, rfl, rfl⟩ := H
                 go_wp2
                 repeat (go_quiet (fail); try go_wp2)
                 go_ret3
                 exact ⟨z63_, z5_⟩
                ·rw [if_neg c58] at H
                 have c58b0 : ((l0.length : Int) == 24) = false := beq_eq_false_iff_ne.mpr c58
                 have c58b1 : ((l0.length : Int) != 24) = true := bne_iff_ne.mpr c58
                 by_cases c59 : x11_4 > 12
                 ·rw [if_pos c59] at H
                  have c59b0 := decide_eq_true c59
                  clear c59
                  simp only [Option.some.injEq, Prod.mk.injEq] at H
                  obtain ⟨rfl, rfl, rfl⟩ := H
                  go_wp2
                  repeat (go_quiet (fail); try go_wp2)
                  go_ret3
                  exact ⟨z63_, z5_⟩
                 ·rw [if_neg c59] at H
                  have c59b0 := decide_eq_false c59
                  clear c59
                  simp only [Option.some.injEq, Prod.mk.injEq] at H
                  obtain ⟨rfl, rfl, rfl⟩ := H
                  go_wp2
                  repeat (go_quiet (fail); try go_wp2)
                  go_ret3
                  exact ⟨z63_, z5_⟩
         ·rw [if_neg c22] at H
          have c22b0 : (a1_0 == 3) = false := beq_eq_false_iff_ne.mpr c22
          have c22b1 : (a1_0 != 3) = true := bne_iff_ne.mpr c22
          simp only [Option.some.injEq, Prod.mk.injEq] at H
          obtain ⟨rfl, rfl, rfl⟩ := H
          obtain ⟨hcz60_0, hcz60_1, hcz60_2, hcz60_3, hcz60_4, hfz60_0, hfz60_1, hfz60_2, hfz60_3, hfz60_4⟩ := bx5_ BK478.out
          go_wp2
          repeat (go_quiet (fail); try go_wp2)
          go_ret3
          exact ⟨z3_, z5_⟩
 ·replace c5 := Bool.eq_false_iff.mpr c5
  subst c5
  replace H := iff_ H
  simp only [Option.some.injEq, Prod.mk.injEq] at H
  obtain ⟨rfl, rfl, rfl⟩ := H
  go_enter Try.func94, Try.ntmps94
  go_wp2_with (first | ((with_reducible refine gate_dst (N := 4) rfl ?_); (try (refine gate_guard (by rfl) ?_; dsimp only)); refine box_event ?hg (N := 4) ?hd (cs := #[.int .i64 a1_0, .slice A1_1 l1_1.length c1_1, .int .i64 a1_2, .int .i64 a1_3, .int .i64 a1_4]) (t := 100) ?hr ?_; (case hd => rfl); (case hg => rfl); (case hr => exact z10_); intro gb478 hg w61 hbox hb; have BK478 := Aside0.mk (hbox); have GW478 := Aside0.mk ((by rw [hg]; exact (below_size z0_) : w.heap.size ≤ gb478)); have GE478 := Aside0.mk ((by rw [hg]; exact (below_size z0_) : w.heap.size ≤ gb478)); replace HB := Aside0.mk (below_step z0_ hb); clear hb hbox hg; obtain ⟨hcz62_0, hcz62_1, hcz62_2, hcz62_3, hcz62_4, hfz62_0, hfz62_1, hfz62_2, hfz62_3, hfz62_4⟩ := bx5_ BK478.out) | (go_at_call 67; (with_reducible refine (impl_within.calls a1_0 1 3 false _ A4.out).mono ?_); rintro e w' ⟨rfl, ⟨nd, rfl⟩⟩; (try first | exact ⟨rfl, _, World.drewN_drewN _ _ _⟩ | exact ⟨rfl, _, Eq.trans (World.drewN_drewN _ _ _) (congrArg (World.drewN _) (Nat.add_assoc _ _ _))⟩)))
  repeat (go_quiet (first | ((with_reducible refine gate_dst (N := 4) rfl ?_); (try (refine gate_guard (by rfl) ?_; dsimp only)); refine box_event ?hg (N := 4) ?hd (cs := #[.int .i64 a1_0, .slice A1_1 l1_1.length c1_1, .int .i64 a1_2, .int .i64 a1_3, .int .i64 a1_4]) (t := 100) ?hr ?_; (case hd => rfl); (case hg => rfl); (case hr => exact z10_); intro gb478 hg w61 hbox hb; have BK478 := Aside0.mk (hbox); have GW478 := Aside0.mk ((by rw [hg]; exact (below_size z0_) : w.heap.size ≤ gb478)); have GE478 := Aside0.mk ((by rw [hg]; exact (below_size z0_) : w.heap.size ≤ gb478)); replace HB := Aside0.mk (below_step z0_ hb); clear hb hbox hg; obtain ⟨hcz62_0, hcz62_1, hcz62_2, hcz62_3, hcz62_4, hfz62_0, hfz62_1, hfz62_2, hfz62_3, hfz62_4⟩ := bx5_ BK478.out) | (go_at_call 67; (with_reducible refine (impl_within.calls a1_0 1 3 false _ A4.out).mono ?_); rintro e w' ⟨rfl, ⟨nd, rfl⟩⟩; (try first | exact ⟨rfl, _, World.drewN_drewN _ _ _⟩ | exact ⟨rfl, _, Eq.trans (World.drewN_drewN _ _ _) (congrArg (World.drewN _) (Nat.add_assoc _ _ _))⟩))); try go_wp2_with (first | ((with_reducible refine gate_dst (N := 4) rfl ?_); (try (refine gate_guard (by rfl) ?_; dsimp only)); refine box_event ?hg (N := 4) ?hd (cs := #[.int .i64 a1_0, .slice A1_1 l1_1.length c1_1, .int .i64 a1_2, .int .i64 a1_3, .int .i64 a1_4]) (t := 100) ?hr ?_; (case hd => rfl); (case hg => rfl); (case hr => exact z10_); intro gb478 hg w61 hbox hb; have BK478 := Aside0.mk (hbox); have GW478 := Aside0.mk ((by rw [hg]; exact (below_size z0_) : w.heap.size ≤ gb478)); have GE478 := Aside0.mk ((by rw [hg]; exact (below_size z0_) : w.heap.size ≤ gb478)); replace HB := Aside0.mk (below_step z0_ hb); clear hb hbox hg; obtain ⟨hcz62_0, hcz62_1, hcz62_2, hcz62_3, hcz62_4, hfz62_0, hfz62_1, hfz62_2, hfz62_3, hfz62_4⟩ := bx5_ BK478.out) | (go_at_call 67; (with_reducible refine (impl_within.calls a1_0 1 3 false _ A4.out).mono ?_); rintro e w' ⟨rfl, ⟨nd, rfl⟩⟩; (try first | exact ⟨rfl, _, World.drewN_drewN _ _ _⟩ | exact ⟨rfl, _, Eq.trans (World.drewN_drewN _ _ _) (congrArg (World.drewN _) (Nat.add_assoc _ _ _))⟩))))
  go_ret3
  exact ⟨z3_, z5_⟩

end Go.Proofs.Ytbiffnahknkoiaa.PFnExactPatch
