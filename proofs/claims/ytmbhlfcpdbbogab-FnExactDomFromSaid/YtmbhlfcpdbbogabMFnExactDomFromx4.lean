/- Laid by a program of this session out of the kit's print for the law FnExactDomFrom: what it says of the machine is proved here, function by function; each contract under the conditions that it names. -/
import Derived.Test.YtmbhlfcpdbbogabMFnExactDomFromx0
import Derived.Test.YtmbhlfcpdbbogabMFnExactDomFromx2
import Derived.Test.YtmbhlfcpdbbogabMFnExactDomFromx3
namespace Go.Proofs.Ytmbhlfcpdbbogab.PFnExactDomFrom
open Go.RowKit Go.Proofs.YtmbhlfcpdbbogabW.PrintWords Go.Proofs.YtmbhlfcpdbbogabW.PrintLast Go.Proofs.YtmbhlfcpdbbogabW.PrintMore
attribute [local go_sem] max2_int min2_int max_two min_two max_three min_three max_four min_four   -- for this text's walks alone
set_option linter.unusedVariables false
set_option linter.unusedSimpArgs false

/-! ### spec_l16Empty: function 63 -/
def spec_l16Empty.f  : Option (Bool × Int × Int × Int × Int × Int × Int) := some (false, 0, (-1), (-1), (-1), (-1), (-1))
set_option maxHeartbeats 8000000 in
set_option maxRecDepth 100000 in
theorem spec_l16Empty.calls  (r1 : Bool) (r2 : Int) (r3 : Int) (r4 : Int) (r5 : Int) (r6 : Int) (r7 : Int) (w : World) (h : spec_l16Empty.f  = some (r1, r2, r3, r4, r5, r6, r7)) :
  Calls Try.prog 63 #[] w fun e w' => e = .returned (.agg #[.bool r1, .int .i64 r2, .int .i64 r3, .int .i64 r4, .int .i64 r5, .int .i64 r6, .int .i64 r7]) ∧ Below w.heap.size w w' := by
 have hu90 := Try.underlying90
 have HB := Aside0.mk (Below.refl w.heap.size w)
 have H : (some (false, 0, (-1), (-1), (-1), (-1), (-1))) = some (r1, r2, r3, r4, r5, r6, r7) := h
 clear h
 simp only [Option.some.injEq, Prod.mk.injEq] at H
 obtain ⟨rfl, rfl, rfl, rfl, rfl, rfl, rfl⟩ := H
 go_enter Try.func63, Try.ntmps63
 go_wp2_with (first | ((with_reducible refine gate_dst (N := 0) rfl ?_); refine box_event ?hg (N := 0) ?hd (cs := #[.bool false, .int .i64 0, .int .i64 0, .int .i64 0, .int .i64 0, .int .i64 0, .int .i64 0]) (t := 90) ?hr ?_; (case hd => rfl); (case hg => rfl); (case hr => exact z13_); intro gb137 hg w1 hbox hb; have BK137 := Aside0.mk (hbox); have GW137 := Aside0.mk ((by rw [hg]; exact (below_size z0_) : w.heap.size ≤ gb137)); have GE137 := Aside0.mk ((by rw [hg]; exact (below_size z0_) : w.heap.size ≤ gb137)); replace HB := Aside0.mk (below_step z0_ hb); clear hb hbox hg; have hcz2_0 : w1.cell? ⟨gb137, 0, none⟩ = some (.bool false) := (blk_cell BK137.out 0).trans rfl; have hcz2_1 : w1.cell? ⟨gb137, 1, none⟩ = some (.int .i64 0) := (blk_cell BK137.out 1).trans rfl; have hcz2_2 : w1.cell? ⟨gb137, 2, none⟩ = some (.int .i64 0) := (blk_cell BK137.out 2).trans rfl; have hcz2_3 : w1.cell? ⟨gb137, 3, none⟩ = some (.int .i64 0) := (blk_cell BK137.out 3).trans rfl; have hcz2_4 : w1.cell? ⟨gb137, 4, none⟩ = some (.int .i64 0) := (blk_cell BK137.out 4).trans rfl; have hcz2_5 : w1.cell? ⟨gb137, 5, none⟩ = some (.int .i64 0) := (blk_cell BK137.out 5).trans rfl; have hcz2_6 : w1.cell? ⟨gb137, 6, none⟩ = some (.int .i64 0) := (blk_cell BK137.out 6).trans rfl; have hfz2_0 := blk_frozen BK137.out 0; have hfz2_1 := blk_frozen BK137.out 1; have hfz2_2 := blk_frozen BK137.out 2; have hfz2_3 := blk_frozen BK137.out 3; have hfz2_4 := blk_frozen BK137.out 4; have hfz2_5 := blk_frozen BK137.out 5; have hfz2_6 := blk_frozen BK137.out 6))
 refine bodyPost_ret (results_cell_row rfl _ _ gb137 90 #[.bool false, .int .i64 0, .int .i64 (-1), .int .i64 (-1), .int .i64 (-1), .int .i64 (-1), .int .i64 (-1)] (0, 0) _ rfl (by (with_reducible repeat (first | refine blk_drewN ?_ _ | refine blk_drew ?_ | refine blk_alloc ?_ _)); refine blk_put (cs := #[.bool false, .int .i64 0, .int .i64 (-1), .int .i64 (-1), .int .i64 (-1), .int .i64 (-1), .int .i64 0]) ?_ 6 _ rfl; (with_reducible repeat (first | refine blk_drewN ?_ _ | refine blk_drew ?_ | refine blk_alloc ?_ _)); refine blk_put (cs := #[.bool false, .int .i64 0, .int .i64 (-1), .int .i64 (-1), .int .i64 (-1), .int .i64 0, .int .i64 0]) ?_ 5 _ rfl; (with_reducible repeat (first | refine blk_drewN ?_ _ | refine blk_drew ?_ | refine blk_alloc ?_ _)); refine blk_put (cs := #[.bool false, .int .i64 0, .int .i64 (-1), .int .i64 (-1), .int .i64 0, .int .i64 0, .int .i64 0]) ?_ 4 _ rfl; (with_reducible repeat (first | refine blk_drewN ?_ _ | refine blk_drew ?_ | refine blk_alloc ?_ _)); refine blk_put (cs := #[.bool false, .int .i64 0, .int .i64 (-1), .int .i64 0, .int .i64 0, .int .i64 0, .int .i64 0]) ?_ 3 _ rfl; (with_reducible repeat (first | refine blk_drewN ?_ _ | refine blk_drew ?_ | refine blk_alloc ?_ _)); refine blk_put (cs := #[.bool false, .int .i64 0, .int .i64 0, .int .i64 0, .int .i64 0, .int .i64 0, .int .i64 0]) ?_ 2 _ rfl; (with_reducible repeat (first | refine blk_drewN ?_ _ | refine blk_drew ?_ | refine blk_alloc ?_ _)); refine blk_put (cs := #[.bool false, .int .i64 0, .int .i64 0, .int .i64 0, .int .i64 0, .int .i64 0, .int .i64 0]) ?_ 1 _ rfl; (with_reducible repeat (first | refine blk_drewN ?_ _ | refine blk_drew ?_ | refine blk_alloc ?_ _)); refine blk_put (cs := #[.bool false, .int .i64 0, .int .i64 0, .int .i64 0, .int .i64 0, .int .i64 0, .int .i64 0]) ?_ 0 _ rfl; (with_reducible repeat (first | refine blk_drewN ?_ _ | refine blk_drew ?_ | refine blk_alloc ?_ _)); exact BK137.out) Try.underlying90 rfl (by kernel_rfl)) rfl ?_
 exact ⟨z6_, by repeat (first | (with_reducible first | exact HB.out | apply below_alloc | apply pw_below_drewN | apply below_drew1 | refine below_set ?_ GE137.out) | exact HB.out)⟩

/-! ### spec_l3At: function 94 -/
def spec_l3At.f (k : Nat) (l0 : List (S55)) (a1 : Int) : Option (Bool) := (spec_TreeOk.f k l0).bind fun t138 => (if t138 = true then ((spec_l1In.f a1 0 (wrap64 ((l0.length : Int) - 1))).bind fun t139 => (some t139)) else (some false))
theorem spec_l3At.mono : ∀ a0 a1 k, LeO (spec_l3At.f k a0 a1) (spec_l3At.f (k + 1) a0 a1) := by
 intro a0 a1 k
 unfold spec_l3At.f
 repeat' first | (with_reducible first | exact spec_TreeOk.mono _ _ | exact LeO.refl _ | exact LeO.none _ | refine LeO.ite ?_ ?_ | refine LeO.bind ?_ (fun _ => ?_)) | exact spec_TreeOk.mono _ _ | exact LeO.none _ | refine LeO.ite ?_ ?_ | refine LeO.bind ?_ (fun _ => ?_)
set_option maxHeartbeats 8000000 in
set_option maxRecDepth 100000 in
theorem spec_l3At.calls (k : Nat) (A0 : Option Addr) (c0 : Nat) (l0 : List (S55)) (a1 : Int) (r : Bool) (w : World) (hr0 : Kd.C k55 w A0 l0.length l0) (hc0 : l0.length ≤ c0) (h : spec_l3At.f k l0 a1 = some r) :
  Calls Try.prog 94 #[.slice A0 l0.length c0, .int .i64 a1] w fun e w' => e = .returned (.bool r) ∧ Below w.heap.size w w' := by
 have HR0 := Aside0.mk hr0
 have HC0 := Aside0.mk hc0
 clear hr0 hc0
 have HB := Aside0.mk (Below.refl w.heap.size w)
 have H : ((spec_TreeOk.f k l0).bind fun t138 => (if t138 = true then ((spec_l1In.f a1 0 (wrap64 ((l0.length : Int) - 1))).bind fun t139 => (some t139)) else (some false))) = some r := h
 clear h
 obtain ⟨t138, A3, H⟩ := bnd_ H
 by_cases c4 : t138 = true
 ·subst c4
  replace H := ift_ H
  obtain ⟨t139, A5, H⟩ := bnd_ H
  obtain rfl := Option.some.inj H
  go_enter Try.func94, Try.ntmps94
  go_wp2_with (first | ((with_reducible refine gate_callee (f := 29) rfl ?_); refine goesL_ (some 6) rfl rfl Try.func29 (by kernel_rfl) rfl #[.slice A0 l0.length c0] rfl z1_ ?_; (with_reducible refine (spec_TreeOk.calls k _ _ l0 true _ ?side1 ?side2 A3.out).mono ?_); (case side1 => exact z9_); (case side2 => exact HC0.out); rintro e w6 ⟨rfl, hb⟩; refine ⟨_, rfl, ?_⟩; replace HB := Aside0.mk (below_step z0_ hb); (try clear hb)) | (go_at_call 83; (with_reducible refine (spec_l1In.calls a1 0 (wrap64 ((l0.length : Int) - 1)) t139 _ A5.out).mono ?_); rintro e w' ⟨rfl, ⟨nd, rfl⟩⟩))
  go_ret
  exact ⟨z6_, z0_⟩
 ·replace c4 := Bool.eq_false_iff.mpr c4
  subst c4
  replace H := iff_ H
  obtain rfl := Option.some.inj H
  go_enter Try.func94, Try.ntmps94
  go_wp2_with (first | ((with_reducible refine gate_callee (f := 29) rfl ?_); refine goesL_ (some 6) rfl rfl Try.func29 (by kernel_rfl) rfl #[.slice A0 l0.length c0] rfl z1_ ?_; (with_reducible refine (spec_TreeOk.calls k _ _ l0 false _ ?side1 ?side2 A3.out).mono ?_); (case side1 => exact z9_); (case side2 => exact HC0.out); rintro e w7 ⟨rfl, hb⟩; refine ⟨_, rfl, ?_⟩; replace HB := Aside0.mk (below_step z0_ hb); (try clear hb)))
  go_ret
  exact ⟨z6_, z0_⟩

/-! ### spec_ParentOf: function 64 -/
def spec_ParentOf.l0 : Nat → List (S55) → Int → Int → Option (Int)
 | 0, _, _, _ => none
 | k + 1, x0, x1, x5 => if x5 ≥ 0 then (if 0 ≤ x5 then (if x5 < (x0.length : Int) then (if 0 ≤ x1 then (if x1 < (x0.length : Int) then (if ((rd_T55 x0 x5).f1) ≥ ((rd_T55 x0 x1).f1) then (spec_ParentOf.l0 k x0 x1 (wrap64 (x5 - 1))) else (some x5)) else (none)) else (none)) else (none)) else (none)) else (some x5)
def spec_ParentOf.f (k : Nat) (l0 : List (S55)) (a1 : Int) : Option (Int) := (spec_l3At.f k l0 a1).bind fun t140 => (if t140 = true then (spec_ParentOf.l0 k l0 a1 (wrap64 (a1 - 1))) else (some (-1)))
theorem spec_ParentOf.mono_l : ∀ k, (∀ y0 y1 y2, LeO (spec_ParentOf.l0 k y0 y1 y2) (spec_ParentOf.l0 (k + 1) y0 y1 y2))
 | 0 => fun _ _ _ r h => by simp [spec_ParentOf.l0] at h
 | k + 1 => by
  have ih0 := spec_ParentOf.mono_l k
  ·intro y0 y1 y2
   unfold spec_ParentOf.l0
   repeat' first | (with_reducible first | exact ih0 _ _ _ | exact spec_l3At.mono _ _ _ | exact LeO.refl _ | exact LeO.none _ | refine LeO.ite ?_ ?_ | refine LeO.bind ?_ (fun _ => ?_)) | exact ih0 _ _ _ | exact spec_l3At.mono _ _ _ | exact LeO.none _ | refine LeO.ite ?_ ?_ | refine LeO.bind ?_ (fun _ => ?_)
theorem spec_ParentOf.mono : ∀ a0 a1 k, LeO (spec_ParentOf.f k a0 a1) (spec_ParentOf.f (k + 1) a0 a1) := by
 intro a0 a1 k
 have ih0 := spec_ParentOf.mono_l k
 unfold spec_ParentOf.f
 repeat' first | (with_reducible first | exact ih0 _ _ _ | exact spec_l3At.mono _ _ _ | exact LeO.refl _ | exact LeO.none _ | refine LeO.ite ?_ ?_ | refine LeO.bind ?_ (fun _ => ?_)) | exact ih0 _ _ _ | exact spec_l3At.mono _ _ _ | exact LeO.none _ | refine LeO.ite ?_ ?_ | refine LeO.bind ?_ (fun _ => ?_)
set_option maxHeartbeats 8000000 in
set_option maxRecDepth 100000 in
theorem spec_ParentOf.calls (k : Nat) (A0 : Option Addr) (c0 : Nat) (l0 : List (S55)) (a1 : Int) (r : Int) (w : World) (hr0 : Kd.C k55 w A0 l0.length l0) (hc0 : l0.length ≤ c0) (h : spec_ParentOf.f k l0 a1 = some r) :
  Calls Try.prog 64 #[.slice A0 l0.length c0, .int .i64 a1] w fun e w' => e = .returned (.int .i64 r) ∧ Below w.heap.size w w' := by
 have HR0 := Aside0.mk hr0
 have HC0 := Aside0.mk hc0
 clear hr0 hc0
 have HB := Aside0.mk (Below.refl w.heap.size w)
 have H : ((spec_l3At.f k l0 a1).bind fun t140 => (if t140 = true then (spec_ParentOf.l0 k l0 a1 (wrap64 (a1 - 1))) else (some (-1)))) = some r := h
 clear h
 obtain ⟨t140, A3, H⟩ := bnd_ H
 by_cases c4 : t140 = true
 ·subst c4
  replace H := ift_ H
  have H' := Aside0.mk H
  clear H
  go_enter Try.func64, Try.ntmps64
  go_wp2_with (first | (go_at_call 94; (with_reducible refine (spec_l3At.calls k _ _ l0 a1 true _ ?side1 ?side2 A3.out).mono ?_); (case side1 => exact z9_); (case side2 => exact HC0.out); rintro e w5 ⟨rfl, hb⟩; replace HB := Aside0.mk (below_step z0_ hb); (try clear hb)))
  repeat (go_quiet (first | (go_at_call 94; (with_reducible refine (spec_l3At.calls k _ _ l0 a1 true _ ?side1 ?side2 A3.out).mono ?_); (case side1 => exact z9_); (case side2 => exact HC0.out); rintro e w5 ⟨rfl, hb⟩; replace HB := Aside0.mk (below_step z0_ hb); (try clear hb))); try go_wp2_with (first | (go_at_call 94; (with_reducible refine (spec_l3At.calls k _ _ l0 a1 true _ ?side1 ?side2 A3.out).mono ?_); (case side1 => exact z9_); (case side2 => exact HC0.out); rintro e w5 ⟨rfl, hb⟩; replace HB := Aside0.mk (below_step z0_ hb); (try clear hb))))
  go_loopg [5] k (fun kq v5 w' => ∃ (x5_1 : Int), v5 = .int .i64 x5_1 ∧ Aside0 (spec_ParentOf.l0 kq l0 a1 x5_1 = some r) ∧ Aside0 (kq ≤ k) ∧ Aside0 (Below w.heap.size w w'))
  case atStart => exact ⟨(wrap64 (a1 - 1)), z12_, H', ⟨Nat.le_refl _⟩, ⟨z0_⟩⟩
  case round =>
   clear H'
   try clear p2
   try clear c4
   obtain ⟨x5_1, rfl, HA, HK1, HB⟩ := hrel
   cases gk with
   | zero => exact absurd HA.out (by simp [spec_ParentOf.l0])
   | succ k1 =>
    have H := HA.out
    clear HA
    simp only [spec_ParentOf.l0] at H
    by_cases c6 : x5_1 ≥ 0
    ·rw [if_pos c6] at H
     have c6b0 : decide (0 ≤ x5_1) = true := decide_eq_true c6
     clear c6
     obtain ⟨c7b0, H⟩ := ifd_ H
     obtain ⟨c8b0, H⟩ := ifd_ H
     obtain ⟨c9b0, H⟩ := ifd_ H
     obtain ⟨c10b0, H⟩ := ifd_ H
     by_cases c11 : ((rd_T55 l0 x5_1).f1) ≥ ((rd_T55 l0 a1).f1)
     ·rw [if_pos c11] at H
      have c11b0 : decide (((rd_T55 l0 a1).f1) ≤ ((rd_T55 l0 x5_1).f1)) = true := decide_eq_true c11
      clear c11
      have H' := Aside0.mk H
      clear H
      obtain ⟨p141, q141, ad141, e141, hx141_0, hx141_1⟩ := atb55_ HR0 HB x5_1
      cases e141
      obtain ⟨p142, q142, ad142, e142, hx142_0, hx142_1⟩ := atb55_ HR0 HB a1
      obtain rfl : ad141 = ad142 := (by injection e142)
      go_wp2
      repeat (go_quiet (fail); try go_wp2)
      go_roundg k1
      case measure => have := HK1.out; omega
      case rel => exact ⟨(wrap64 (x5_1 - 1)), z12_, H', ⟨z136_⟩, ⟨z0_⟩⟩
     ·rw [if_neg c11] at H
      have c11b0 : decide (((rd_T55 l0 a1).f1) ≤ ((rd_T55 l0 x5_1).f1)) = false := decide_eq_false c11
      clear c11
      obtain rfl := Option.some.inj H
      obtain ⟨p141, q141, ad141, e141, hx141_0, hx141_1⟩ := atb55_ HR0 HB x5_1
      cases e141
      obtain ⟨p142, q142, ad142, e142, hx142_0, hx142_1⟩ := atb55_ HR0 HB a1
      obtain rfl : ad141 = ad142 := (by injection e142)
      go_wp2
      repeat (go_quiet (fail); try go_wp2)
      go_ret
      exact ⟨z6_, z0_⟩
    ·rw [if_neg c6] at H
     have c6b0 : decide (0 ≤ x5_1) = false := decide_eq_false c6
     clear c6
     obtain rfl := Option.some.inj H
     go_wp2
     repeat (go_quiet (fail); try go_wp2)
     go_ret
     exact ⟨z6_, z0_⟩
 ·replace c4 := Bool.eq_false_iff.mpr c4
  subst c4
  replace H := iff_ H
  obtain rfl := Option.some.inj H
  go_enter Try.func64, Try.ntmps64
  go_wp2_with (first | (go_at_call 94; (with_reducible refine (spec_l3At.calls k _ _ l0 a1 false _ ?side1 ?side2 A3.out).mono ?_); (case side1 => exact z9_); (case side2 => exact HC0.out); rintro e w12 ⟨rfl, hb⟩; replace HB := Aside0.mk (below_step z0_ hb); (try clear hb)))
  repeat (go_quiet (first | (go_at_call 94; (with_reducible refine (spec_l3At.calls k _ _ l0 a1 false _ ?side1 ?side2 A3.out).mono ?_); (case side1 => exact z9_); (case side2 => exact HC0.out); rintro e w12 ⟨rfl, hb⟩; replace HB := Aside0.mk (below_step z0_ hb); (try clear hb))); try go_wp2_with (first | (go_at_call 94; (with_reducible refine (spec_l3At.calls k _ _ l0 a1 false _ ?side1 ?side2 A3.out).mono ?_); (case side1 => exact z9_); (case side2 => exact HC0.out); rintro e w12 ⟨rfl, hb⟩; replace HB := Aside0.mk (below_step z0_ hb); (try clear hb))))
  go_ret
  exact ⟨z6_, z0_⟩

/-! ### spec_EndOf: function 108 -/
def spec_EndOf.l0 : Nat → List (S55) → Int → Int → Option (Int)
 | 0, _, _, _ => none
 | k + 1, x0, x1, x5 => if x5 < (x0.length : Int) then (if 0 ≤ x5 then (if 0 ≤ x1 then (if x1 < (x0.length : Int) then (if ((rd_T55 x0 x5).f1) > ((rd_T55 x0 x1).f1) then (spec_EndOf.l0 k x0 x1 (wrap64 (x5 + 1))) else (some x5)) else (none)) else (none)) else (none)) else (some x5)
def spec_EndOf.f (k : Nat) (l0 : List (S55)) (a1 : Int) : Option (Int) := (spec_l3At.f k l0 a1).bind fun t143 => (if t143 = true then (spec_EndOf.l0 k l0 a1 (wrap64 (a1 + 1))) else (some (-1)))
theorem spec_EndOf.mono_l : ∀ k, (∀ y0 y1 y2, LeO (spec_EndOf.l0 k y0 y1 y2) (spec_EndOf.l0 (k + 1) y0 y1 y2))
 | 0 => fun _ _ _ r h => by simp [spec_EndOf.l0] at h
 | k + 1 => by
  have ih0 := spec_EndOf.mono_l k
  ·intro y0 y1 y2
   unfold spec_EndOf.l0
   repeat' first | (with_reducible first | exact ih0 _ _ _ | exact spec_l3At.mono _ _ _ | exact LeO.refl _ | exact LeO.none _ | refine LeO.ite ?_ ?_ | refine LeO.bind ?_ (fun _ => ?_)) | exact ih0 _ _ _ | exact spec_l3At.mono _ _ _ | exact LeO.none _ | refine LeO.ite ?_ ?_ | refine LeO.bind ?_ (fun _ => ?_)
theorem spec_EndOf.mono : ∀ a0 a1 k, LeO (spec_EndOf.f k a0 a1) (spec_EndOf.f (k + 1) a0 a1) := by
 intro a0 a1 k
 have ih0 := spec_EndOf.mono_l k
 unfold spec_EndOf.f
 repeat' first | (with_reducible first | exact ih0 _ _ _ | exact spec_l3At.mono _ _ _ | exact LeO.refl _ | exact LeO.none _ | refine LeO.ite ?_ ?_ | refine LeO.bind ?_ (fun _ => ?_)) | exact ih0 _ _ _ | exact spec_l3At.mono _ _ _ | exact LeO.none _ | refine LeO.ite ?_ ?_ | refine LeO.bind ?_ (fun _ => ?_)
set_option maxHeartbeats 8000000 in
set_option maxRecDepth 100000 in
theorem spec_EndOf.calls (k : Nat) (A0 : Option Addr) (c0 : Nat) (l0 : List (S55)) (a1 : Int) (r : Int) (w : World) (hr0 : Kd.C k55 w A0 l0.length l0) (hc0 : l0.length ≤ c0) (h : spec_EndOf.f k l0 a1 = some r) :
  Calls Try.prog 108 #[.slice A0 l0.length c0, .int .i64 a1] w fun e w' => e = .returned (.int .i64 r) ∧ Below w.heap.size w w' := by
 have HR0 := Aside0.mk hr0
 have HC0 := Aside0.mk hc0
 clear hr0 hc0
 have HB := Aside0.mk (Below.refl w.heap.size w)
 have H : ((spec_l3At.f k l0 a1).bind fun t143 => (if t143 = true then (spec_EndOf.l0 k l0 a1 (wrap64 (a1 + 1))) else (some (-1)))) = some r := h
 clear h
 obtain ⟨t143, A3, H⟩ := bnd_ H
 by_cases c4 : t143 = true
 ·subst c4
  replace H := ift_ H
  have H' := Aside0.mk H
  clear H
  go_enter Try.func108, Try.ntmps108
  go_wp2_with (first | (go_at_call 94; (with_reducible refine (spec_l3At.calls k _ _ l0 a1 true _ ?side1 ?side2 A3.out).mono ?_); (case side1 => exact z9_); (case side2 => exact HC0.out); rintro e w5 ⟨rfl, hb⟩; replace HB := Aside0.mk (below_step z0_ hb); (try clear hb)))
  repeat (go_quiet (first | (go_at_call 94; (with_reducible refine (spec_l3At.calls k _ _ l0 a1 true _ ?side1 ?side2 A3.out).mono ?_); (case side1 => exact z9_); (case side2 => exact HC0.out); rintro e w5 ⟨rfl, hb⟩; replace HB := Aside0.mk (below_step z0_ hb); (try clear hb))); try go_wp2_with (first | (go_at_call 94; (with_reducible refine (spec_l3At.calls k _ _ l0 a1 true _ ?side1 ?side2 A3.out).mono ?_); (case side1 => exact z9_); (case side2 => exact HC0.out); rintro e w5 ⟨rfl, hb⟩; replace HB := Aside0.mk (below_step z0_ hb); (try clear hb))))
  go_loopg [5] k (fun kq v5 w' => ∃ (x5_1 : Int), v5 = .int .i64 x5_1 ∧ Aside0 (spec_EndOf.l0 kq l0 a1 x5_1 = some r) ∧ Aside0 (kq ≤ k) ∧ Aside0 (Below w.heap.size w w'))
  case atStart => exact ⟨(wrap64 (a1 + 1)), z12_, H', ⟨Nat.le_refl _⟩, ⟨z0_⟩⟩
  case round =>
   clear H'
   try clear c1
   try clear p2
   try clear c4
   obtain ⟨x5_1, rfl, HA, HK1, HB⟩ := hrel
   cases gk with
   | zero => exact absurd HA.out (by simp [spec_EndOf.l0])
   | succ k1 =>
    have H := HA.out
    clear HA
    simp only [spec_EndOf.l0] at H
    by_cases c6 : x5_1 < (l0.length : Int)
    ·rw [if_pos c6] at H
     have c6b0 : decide (x5_1 < (l0.length : Int)) = true := decide_eq_true c6
     clear c6
     obtain ⟨c7b0, H⟩ := ifd_ H
     obtain ⟨c8b0, H⟩ := ifd_ H
     obtain ⟨c9b0, H⟩ := ifd_ H
     by_cases c10 : ((rd_T55 l0 x5_1).f1) > ((rd_T55 l0 a1).f1)
     ·rw [if_pos c10] at H
      have c10b0 : decide (((rd_T55 l0 a1).f1) < ((rd_T55 l0 x5_1).f1)) = true := decide_eq_true c10
      clear c10
      have H' := Aside0.mk H
      clear H
      obtain ⟨p144, q144, ad144, e144, hx144_0, hx144_1⟩ := atb55_ HR0 HB x5_1
      cases e144
      obtain ⟨p145, q145, ad145, e145, hx145_0, hx145_1⟩ := atb55_ HR0 HB a1
      obtain rfl : ad144 = ad145 := (by injection e145)
      go_wp2
      repeat (go_quiet (fail); try go_wp2)
      go_roundg k1
      case measure => have := HK1.out; omega
      case rel => exact ⟨(wrap64 (x5_1 + 1)), z12_, H', ⟨z136_⟩, ⟨z0_⟩⟩
     ·rw [if_neg c10] at H
      have c10b0 : decide (((rd_T55 l0 a1).f1) < ((rd_T55 l0 x5_1).f1)) = false := decide_eq_false c10
      clear c10
      obtain rfl := Option.some.inj H
      obtain ⟨p144, q144, ad144, e144, hx144_0, hx144_1⟩ := atb55_ HR0 HB x5_1
      cases e144
      obtain ⟨p145, q145, ad145, e145, hx145_0, hx145_1⟩ := atb55_ HR0 HB a1
      obtain rfl : ad144 = ad145 := (by injection e145)
      go_wp2
      repeat (go_quiet (fail); try go_wp2)
      go_ret
      exact ⟨z6_, z0_⟩
    ·rw [if_neg c6] at H
     have c6b0 : decide (x5_1 < (l0.length : Int)) = false := decide_eq_false c6
     clear c6
     obtain rfl := Option.some.inj H
     go_wp2
     repeat (go_quiet (fail); try go_wp2)
     go_ret
     exact ⟨z6_, z0_⟩
 ·replace c4 := Bool.eq_false_iff.mpr c4
  subst c4
  replace H := iff_ H
  obtain rfl := Option.some.inj H
  go_enter Try.func108, Try.ntmps108
  go_wp2_with (first | (go_at_call 94; (with_reducible refine (spec_l3At.calls k _ _ l0 a1 false _ ?side1 ?side2 A3.out).mono ?_); (case side1 => exact z9_); (case side2 => exact HC0.out); rintro e w11 ⟨rfl, hb⟩; replace HB := Aside0.mk (below_step z0_ hb); (try clear hb)))
  repeat (go_quiet (first | (go_at_call 94; (with_reducible refine (spec_l3At.calls k _ _ l0 a1 false _ ?side1 ?side2 A3.out).mono ?_); (case side1 => exact z9_); (case side2 => exact HC0.out); rintro e w11 ⟨rfl, hb⟩; replace HB := Aside0.mk (below_step z0_ hb); (try clear hb))); try go_wp2_with (first | (go_at_call 94; (with_reducible refine (spec_l3At.calls k _ _ l0 a1 false _ ?side1 ?side2 A3.out).mono ?_); (case side1 => exact z9_); (case side2 => exact HC0.out); rintro e w11 ⟨rfl, hb⟩; replace HB := Aside0.mk (below_step z0_ hb); (try clear hb))))
  go_ret
  exact ⟨z6_, z0_⟩

/-! ### spec_KidsOf: function 65 -/
mutual
def spec_KidsOf.l0 : Nat → List (S55) → Int → List Int → Int → Option (List Int)
 | 0, _, _, _, _ => none
 | k + 1, x0, x1, x5, x6 => (spec_l3At.f k x0 x1).bind fun t149 => (if t149 = true then ((spec_EndOf.f k x0 x1).bind fun t150 => (spec_KidsOf.j1 k x0 x1 x5 x6 (decide (x6 < t150)))) else (spec_KidsOf.j1 k x0 x1 x5 x6 false))
def spec_KidsOf.j1 : Nat → List (S55) → Int → List Int → Int → Bool → Option (List Int)
 | 0, _, _, _, _, _ => none
 | k + 1, x0, x1, x5, x6, x19 => if x19 = true then (if 0 ≤ x6 then (if x6 < (x0.length : Int) then (if 0 ≤ x1 then (if x1 < (x0.length : Int) then (if ((rd_T55 x0 x6).f1) = (wrap64 (((rd_T55 x0 x1).f1) + 1)) then (if x5.length < 17592186044416 then (spec_KidsOf.l0 k x0 x1 (x5 ++ [x6]) (wrap64 (x6 + 1))) else (none)) else (spec_KidsOf.l0 k x0 x1 x5 (wrap64 (x6 + 1)))) else (none)) else (none)) else (none)) else (none)) else (some x5)
end
def spec_KidsOf.f (k : Nat) (l0 : List (S55)) (a1 : Int) : Option (List Int) := spec_KidsOf.l0 k l0 a1 (([] : List Int)) (wrap64 (a1 + 1))
theorem spec_KidsOf.mono_l : ∀ k, (∀ y0 y1 y2 y3, LeO (spec_KidsOf.l0 k y0 y1 y2 y3) (spec_KidsOf.l0 (k + 1) y0 y1 y2 y3)) ∧ (∀ y0 y1 y2 y3 y4, LeO (spec_KidsOf.j1 k y0 y1 y2 y3 y4) (spec_KidsOf.j1 (k + 1) y0 y1 y2 y3 y4))
 | 0 => ⟨fun _ _ _ _ r h => by simp [spec_KidsOf.l0] at h, fun _ _ _ _ _ r h => by simp [spec_KidsOf.j1] at h⟩
 | k + 1 => by
  obtain ⟨ih0, ih1⟩ := spec_KidsOf.mono_l k
  refine ⟨?_, ?_⟩
  ·intro y0 y1 y2 y3
   unfold spec_KidsOf.l0
   repeat' first | (with_reducible first | exact ih0 _ _ _ _ | exact ih1 _ _ _ _ _ | exact spec_EndOf.mono _ _ _ | exact spec_l3At.mono _ _ _ | exact LeO.refl _ | exact LeO.none _ | refine LeO.ite ?_ ?_ | refine LeO.bind ?_ (fun _ => ?_)) | exact ih0 _ _ _ _ | exact ih1 _ _ _ _ _ | exact spec_EndOf.mono _ _ _ | exact spec_l3At.mono _ _ _ | exact LeO.none _ | refine LeO.ite ?_ ?_ | refine LeO.bind ?_ (fun _ => ?_)
  ·intro y0 y1 y2 y3 y4
   unfold spec_KidsOf.j1
   repeat' first | (with_reducible first | exact ih0 _ _ _ _ | exact ih1 _ _ _ _ _ | exact spec_EndOf.mono _ _ _ | exact spec_l3At.mono _ _ _ | exact LeO.refl _ | exact LeO.none _ | refine LeO.ite ?_ ?_ | refine LeO.bind ?_ (fun _ => ?_)) | exact ih0 _ _ _ _ | exact ih1 _ _ _ _ _ | exact spec_EndOf.mono _ _ _ | exact spec_l3At.mono _ _ _ | exact LeO.none _ | refine LeO.ite ?_ ?_ | refine LeO.bind ?_ (fun _ => ?_)
theorem spec_KidsOf.mono : ∀ a0 a1 k, LeO (spec_KidsOf.f k a0 a1) (spec_KidsOf.f (k + 1) a0 a1) := by
 intro a0 a1 k
 obtain ⟨ih0, ih1⟩ := spec_KidsOf.mono_l k
 unfold spec_KidsOf.f
 repeat' first | (with_reducible first | exact ih0 _ _ _ _ | exact ih1 _ _ _ _ _ | exact spec_EndOf.mono _ _ _ | exact spec_l3At.mono _ _ _ | exact LeO.refl _ | exact LeO.none _ | refine LeO.ite ?_ ?_ | refine LeO.bind ?_ (fun _ => ?_)) | exact ih0 _ _ _ _ | exact ih1 _ _ _ _ _ | exact spec_EndOf.mono _ _ _ | exact spec_l3At.mono _ _ _ | exact LeO.none _ | refine LeO.ite ?_ ?_ | refine LeO.bind ?_ (fun _ => ?_)
set_option maxHeartbeats 8000000 in
set_option maxRecDepth 100000 in
theorem spec_KidsOf.calls (k : Nat) (A0 : Option Addr) (c0 : Nat) (l0 : List (S55)) (a1 : Int) (r : List Int) (w : World) (hr0 : Kd.C k55 w A0 l0.length l0) (hc0 : l0.length ≤ c0) (h : spec_KidsOf.f k l0 a1 = some r) :
  Calls Try.prog 65 #[.slice A0 l0.length c0, .int .i64 a1] w fun e w' => ∃ v0_ : Value, e = .returned (v0_) ∧ Kd.R (Kd.int .i64) 3 w' w.heap.size (fun _ => True) v0_ r ∧ Below w.heap.size w w' := by
 have HR0 := Aside0.mk hr0
 have HC0 := Aside0.mk hc0
 clear hr0 hc0
 have HB := Aside0.mk (Below.refl w.heap.size w)
 have H : (spec_KidsOf.l0 k l0 a1 (([] : List Int)) (wrap64 (a1 + 1))) = some r := h
 clear h
 obtain ⟨y146, hy146⟩ : ∃ y_ : List Int, y_ = (([] : List Int)) := ⟨_, rfl⟩
 replace H : (spec_KidsOf.l0 k l0 a1 y146 (wrap64 (a1 + 1))) = some r := by first | (rw [hy146]; with_reducible exact H) | (have H2_ := (Option.bind_some _ _).symm.trans H; rw [hy146]; with_reducible exact H2_) | (have H2_ := (Option.bind_some _ _).symm.trans H; with_reducible exact H2_) | with_reducible exact H | (rw [hy146]; exact H) | exact H
 have Ny146 := Aside0.mk hy146
 clear hy146
 have H' := Aside0.mk H
 clear H
 go_enter Try.func65, Try.ntmps65
 go_wp2_with (first | ((with_reducible refine gate_dst (N := 7) rfl ?_); refine Kd.R_lit (Kd.int .i64) _ 3 ?hg (N := 7) ?hd (xs := ([] : List Int)) (inner := []) (ok := fun _ => True) (okp := fun _ => True) ?hr ?hp (fun _ hk => hk) trivial (Below.refl _ _) (Nat.le_refl _) (by simp) ?_; (case hd => rfl); (case hg => rfl); (case hr => exact z13_); (case hp => exact z165_); intro v147 w3 ho4 hb hg_ hnew_; clear hg_ hnew_; (first | rw [← Ny146.out] at ho4 | (simp only [Int.reduceToNat] at ho4; rw [← Ny146.out] at ho4)); have HO148 := Aside0.mk (Kd.R_lower ho4 (below_size z0_)); replace HB := Aside0.mk (below_step z0_ hb); clear hb ho4))
 repeat (go_quiet (first | ((with_reducible refine gate_dst (N := 7) rfl ?_); refine Kd.R_lit (Kd.int .i64) _ 3 ?hg (N := 7) ?hd (xs := ([] : List Int)) (inner := []) (ok := fun _ => True) (okp := fun _ => True) ?hr ?hp (fun _ hk => hk) trivial (Below.refl _ _) (Nat.le_refl _) (by simp) ?_; (case hd => rfl); (case hg => rfl); (case hr => exact z13_); (case hp => exact z165_); intro v147 w3 ho4 hb hg_ hnew_; clear hg_ hnew_; (first | rw [← Ny146.out] at ho4 | (simp only [Int.reduceToNat] at ho4; rw [← Ny146.out] at ho4)); have HO148 := Aside0.mk (Kd.R_lower ho4 (below_size z0_)); replace HB := Aside0.mk (below_step z0_ hb); clear hb ho4)); try go_wp2_with (first | ((with_reducible refine gate_dst (N := 7) rfl ?_); refine Kd.R_lit (Kd.int .i64) _ 3 ?hg (N := 7) ?hd (xs := ([] : List Int)) (inner := []) (ok := fun _ => True) (okp := fun _ => True) ?hr ?hp (fun _ hk => hk) trivial (Below.refl _ _) (Nat.le_refl _) (by simp) ?_; (case hd => rfl); (case hg => rfl); (case hr => exact z13_); (case hp => exact z165_); intro v147 w3 ho4 hb hg_ hnew_; clear hg_ hnew_; (first | rw [← Ny146.out] at ho4 | (simp only [Int.reduceToNat] at ho4; rw [← Ny146.out] at ho4)); have HO148 := Aside0.mk (Kd.R_lower ho4 (below_size z0_)); replace HB := Aside0.mk (below_step z0_ hb); clear hb ho4)))
 go_loopg [5, 6] k (fun kq v5 v6 w' => ∃ (x5_1 : List Int) (x6_1 : Int), v6 = .int .i64 x6_1 ∧ Aside0 (spec_KidsOf.l0 kq l0 a1 x5_1 x6_1 = some r) ∧ Aside0 (kq ≤ k) ∧ Aside0 (Kd.R (Kd.int .i64) 3 w' w.heap.size (fun _ => True) v5 x5_1) ∧ Aside0 (Below w.heap.size w w'))
 case atStart => exact ⟨(y146), (wrap64 (a1 + 1)), z12_, H', ⟨Nat.le_refl _⟩, ⟨by (with_reducible repeat (first | apply Kd.R_alloc | apply Kd.R_drewN | apply Kd.R_drew)); exact HO148.out⟩, ⟨z0_⟩⟩
 case round =>
  clear H'
  try clear p2
  obtain ⟨x5_1, x6_1, rfl, HA, HK1, HO_5, HB⟩ := hrel
  cases gk with
  | zero => exact absurd HA.out (by simp [spec_KidsOf.l0])
  | succ k1 =>
   have H := HA.out
   clear HA
   simp only [spec_KidsOf.l0] at H
   have HC5 := Aside0.mk H
   clear H
   go_upto_region 3 with (fail)
   repeat (go_quiet (fail); go_upto_region 3 with (fail))
   go_cut [19] (fun v19 wc => ∃ (kq : Nat) (x19_4 : Bool), v19 = .bool x19_4 ∧ Aside0 (spec_KidsOf.j1 kq l0 a1 x5_1 x6_1 x19_4 = some r) ∧ Aside0 (kq ≤ k1) ∧ Aside0 (Kd.R (Kd.int .i64) 3 wc w.heap.size (fun _ => True) u5 x5_1) ∧ Aside0 (Below w.heap.size w wc))
   case first =>
    have H := HC5.out
    clear HC5
    obtain ⟨t149, A6, H⟩ := bnd_ H
    by_cases c7 : t149 = true
    ·subst c7
     replace H := ift_ H
     obtain ⟨t150, A8, H⟩ := bnd_ H
     have H' := Aside0.mk H
     clear H
     go_wp2_with (first | (go_at_call 94; (with_reducible refine (spec_l3At.calls k1 _ _ l0 a1 true _ ?side1 ?side2 A6.out).mono ?_); (case side1 => exact z4_); (case side2 => exact HC0.out); rintro e w9 ⟨rfl, hb⟩; replace HO_5 := Aside0.mk (Kd.R_below z21_ hb); replace HB := Aside0.mk (below_step z0_ hb); (try clear hb)) | (go_at_call 108; (with_reducible refine (spec_EndOf.calls k1 _ _ l0 a1 t150 _ ?side1 ?side2 A8.out).mono ?_); (case side1 => exact z4_); (case side2 => exact HC0.out); rintro e w10 ⟨rfl, hb⟩; replace HO_5 := Aside0.mk (Kd.R_below z21_ hb); replace HB := Aside0.mk (below_step z0_ hb); (try clear hb)))
     repeat (go_quiet (first | (go_at_call 94; (with_reducible refine (spec_l3At.calls k1 _ _ l0 a1 true _ ?side1 ?side2 A6.out).mono ?_); (case side1 => exact z4_); (case side2 => exact HC0.out); rintro e w9 ⟨rfl, hb⟩; replace HO_5 := Aside0.mk (Kd.R_below z21_ hb); replace HB := Aside0.mk (below_step z0_ hb); (try clear hb)) | (go_at_call 108; (with_reducible refine (spec_EndOf.calls k1 _ _ l0 a1 t150 _ ?side1 ?side2 A8.out).mono ?_); (case side1 => exact z4_); (case side2 => exact HC0.out); rintro e w10 ⟨rfl, hb⟩; replace HO_5 := Aside0.mk (Kd.R_below z21_ hb); replace HB := Aside0.mk (below_step z0_ hb); (try clear hb))); try go_wp2_with (first | (go_at_call 94; (with_reducible refine (spec_l3At.calls k1 _ _ l0 a1 true _ ?side1 ?side2 A6.out).mono ?_); (case side1 => exact z4_); (case side2 => exact HC0.out); rintro e w9 ⟨rfl, hb⟩; replace HO_5 := Aside0.mk (Kd.R_below z21_ hb); replace HB := Aside0.mk (below_step z0_ hb); (try clear hb)) | (go_at_call 108; (with_reducible refine (spec_EndOf.calls k1 _ _ l0 a1 t150 _ ?side1 ?side2 A8.out).mono ?_); (case side1 => exact z4_); (case side2 => exact HC0.out); rintro e w10 ⟨rfl, hb⟩; replace HO_5 := Aside0.mk (Kd.R_below z21_ hb); replace HB := Aside0.mk (below_step z0_ hb); (try clear hb))))
     go_meet
     case rel => exact ⟨_, (decide (x6_1 < t150)), z12_, H', ⟨z144_⟩, ⟨z21_⟩, ⟨z0_⟩⟩
    ·replace c7 := Bool.eq_false_iff.mpr c7
     subst c7
     replace H := iff_ H
     have H' := Aside0.mk H
     clear H
     go_wp2_with (first | (go_at_call 94; (with_reducible refine (spec_l3At.calls k1 _ _ l0 a1 false _ ?side1 ?side2 A6.out).mono ?_); (case side1 => exact z4_); (case side2 => exact HC0.out); rintro e w11 ⟨rfl, hb⟩; replace HO_5 := Aside0.mk (Kd.R_below z21_ hb); replace HB := Aside0.mk (below_step z0_ hb); (try clear hb)))
     repeat (go_quiet (first | (go_at_call 94; (with_reducible refine (spec_l3At.calls k1 _ _ l0 a1 false _ ?side1 ?side2 A6.out).mono ?_); (case side1 => exact z4_); (case side2 => exact HC0.out); rintro e w11 ⟨rfl, hb⟩; replace HO_5 := Aside0.mk (Kd.R_below z21_ hb); replace HB := Aside0.mk (below_step z0_ hb); (try clear hb))); try go_wp2_with (first | (go_at_call 94; (with_reducible refine (spec_l3At.calls k1 _ _ l0 a1 false _ ?side1 ?side2 A6.out).mono ?_); (case side1 => exact z4_); (case side2 => exact HC0.out); rintro e w11 ⟨rfl, hb⟩; replace HO_5 := Aside0.mk (Kd.R_below z21_ hb); replace HB := Aside0.mk (below_step z0_ hb); (try clear hb))))
     go_meet
     case rel => exact ⟨_, (false), z12_, H', ⟨z144_⟩, ⟨z21_⟩, ⟨z0_⟩⟩
   case rest =>
    clear HC5
    try clear p2
    try clear c6
    try clear p6
    try clear c7
    try clear p2
    obtain ⟨kq, x19_4, rfl, HA, HJ4, HO_5, HB⟩ := hcut
    cases kq with
    | zero => exact absurd HA.out (by simp [spec_KidsOf.j1])
    | succ kj4 =>
     have H := HA.out
     clear HA
     simp only [spec_KidsOf.j1] at H
     by_cases c12 : x19_4 = true
     ·subst c12
      replace H := ift_ H
      obtain ⟨c13b0, H⟩ := ifd_ H
      obtain ⟨c14b0, H⟩ := ifd_ H
      obtain ⟨c15b0, H⟩ := ifd_ H
      obtain ⟨c16b0, H⟩ := ifd_ H
      by_cases c17 : ((rd_T55 l0 x6_1).f1) = (wrap64 (((rd_T55 l0 a1).f1) + 1))
      ·rw [if_pos c17] at H
       have c17b0 : (((rd_T55 l0 x6_1).f1) == (wrap64 (((rd_T55 l0 a1).f1) + 1))) = true := beq_iff_eq.mpr c17
       have c17b1 : (((rd_T55 l0 x6_1).f1) != (wrap64 (((rd_T55 l0 a1).f1) + 1))) = false := bne_eq_false_iff_eq.mpr c17
       clear c17
       obtain ⟨c18, H⟩ := ifs_ H
       have LMc18 := Aside0.mk c18
       clear c18
       obtain ⟨y153, hy153⟩ : ∃ y_ : List Int, y_ = (x5_1 ++ [x6_1]) := ⟨_, rfl⟩
       replace H : (spec_KidsOf.l0 kj4 l0 a1 y153 (wrap64 (x6_1 + 1))) = some r := by first | (rw [hy153]; with_reducible exact H) | (have H2_ := (Option.bind_some _ _).symm.trans H; rw [hy153]; with_reducible exact H2_) | (have H2_ := (Option.bind_some _ _).symm.trans H; with_reducible exact H2_) | with_reducible exact H | (rw [hy153]; exact H) | exact H
       have Ny153 := Aside0.mk hy153
       clear hy153
       have H' := Aside0.mk H
       clear H
       obtain ⟨p151, q151, ad151, e151, hx151_0, hx151_1⟩ := atb55_ HR0 HB x6_1
       cases e151
       obtain ⟨p152, q152, ad152, e152, hx152_0, hx152_1⟩ := atb55_ HR0 HB a1
       obtain rfl : ad151 = ad152 := (by injection e152)
       go_wp2_with (first | ((with_reducible refine gate_builtin (b := .append) (xs := #[.tmp 34, .tmp 36]) rfl ?_); at_builtin; refine Kd.R_append (Kd.int .i64) (w0 := w) w.heap.size rfl (.tmp 34) (.tmp 36) 47 3 (.int .i64 0) 8 rfl Try.underlying47 info3 rfl (by decide) (by omega) u5 x5_1 x6_1 [.int .i64 x6_1] (fun _ => True) (fun _ => False) rfl rfl ?aP (fun _ hk => hk.elim) ?aF ?aO ?aB ?aS ?aL ?_; (case aP => exact rfl); (case aB => exact z66_); (case aF => exact z167_); (case aO => exact z89_); (case aS => exact z63_); (case aL => have := LMc18.out; omega); intro v154 w19 ho hb hg hat; rw [← Ny153.out] at ho; replace HB := Aside0.mk (hb); have HO155 := Aside0.mk (ho); clear HO_5; clear ho hb hg hat))
       repeat (go_quiet (first | ((with_reducible refine gate_builtin (b := .append) (xs := #[.tmp 34, .tmp 36]) rfl ?_); at_builtin; refine Kd.R_append (Kd.int .i64) (w0 := w) w.heap.size rfl (.tmp 34) (.tmp 36) 47 3 (.int .i64 0) 8 rfl Try.underlying47 info3 rfl (by decide) (by omega) u5 x5_1 x6_1 [.int .i64 x6_1] (fun _ => True) (fun _ => False) rfl rfl ?aP (fun _ hk => hk.elim) ?aF ?aO ?aB ?aS ?aL ?_; (case aP => exact rfl); (case aB => exact z66_); (case aF => exact z167_); (case aO => exact z89_); (case aS => exact z63_); (case aL => have := LMc18.out; omega); intro v154 w19 ho hb hg hat; rw [← Ny153.out] at ho; replace HB := Aside0.mk (hb); have HO155 := Aside0.mk (ho); clear HO_5; clear ho hb hg hat)); try go_wp2_with (first | ((with_reducible refine gate_builtin (b := .append) (xs := #[.tmp 34, .tmp 36]) rfl ?_); at_builtin; refine Kd.R_append (Kd.int .i64) (w0 := w) w.heap.size rfl (.tmp 34) (.tmp 36) 47 3 (.int .i64 0) 8 rfl Try.underlying47 info3 rfl (by decide) (by omega) u5 x5_1 x6_1 [.int .i64 x6_1] (fun _ => True) (fun _ => False) rfl rfl ?aP (fun _ hk => hk.elim) ?aF ?aO ?aB ?aS ?aL ?_; (case aP => exact rfl); (case aB => exact z66_); (case aF => exact z167_); (case aO => exact z89_); (case aS => exact z63_); (case aL => have := LMc18.out; omega); intro v154 w19 ho hb hg hat; rw [← Ny153.out] at ho; replace HB := Aside0.mk (hb); have HO155 := Aside0.mk (ho); clear HO_5; clear ho hb hg hat)))
       go_roundg kj4
       case measure => have := HK1.out; have := HJ4.out; omega
       case rel => exact ⟨(y153), (wrap64 (x6_1 + 1)), z12_, H', ⟨by have := HK1.out; have := HJ4.out; omega⟩, ⟨by (with_reducible repeat (first | apply Kd.R_alloc | apply Kd.R_drewN | apply Kd.R_drew)); exact HO155.out⟩, ⟨z0_⟩⟩
      ·rw [if_neg c17] at H
       have c17b0 : (((rd_T55 l0 x6_1).f1) == (wrap64 (((rd_T55 l0 a1).f1) + 1))) = false := beq_eq_false_iff_ne.mpr c17
       have c17b1 : (((rd_T55 l0 x6_1).f1) != (wrap64 (((rd_T55 l0 a1).f1) + 1))) = true := bne_iff_ne.mpr c17
       have H' := Aside0.mk H
       clear H
       obtain ⟨p151, q151, ad151, e151, hx151_0, hx151_1⟩ := atb55_ HR0 HB x6_1
       cases e151
       obtain ⟨p152, q152, ad152, e152, hx152_0, hx152_1⟩ := atb55_ HR0 HB a1
       obtain rfl : ad151 = ad152 := (by injection e152)
       go_wp2
       repeat (go_quiet (fail); try go_wp2)
       go_roundg kj4
       case measure => have := HK1.out; have := HJ4.out; omega
       case rel => exact ⟨(x5_1), (wrap64 (x6_1 + 1)), z12_, H', ⟨by have := HK1.out; have := HJ4.out; omega⟩, ⟨z21_⟩, ⟨z0_⟩⟩
     ·replace c12 := Bool.eq_false_iff.mpr c12
      subst c12
      replace H := iff_ H
      obtain rfl := Option.some.inj H
      go_wp2
      repeat (go_quiet (fail); try go_wp2)
      go_ret
      exact ⟨_, z6_, z21_, z0_⟩

/-! ### spec_KidRank: function 66 -/
def spec_KidRank.l0 : Nat → Int → List Int → Int → Option (Int)
 | 0, _, _, _ => none
 | k + 1, x1, x6, x7 => if x7 < (x6.length : Int) then (if 0 ≤ x7 then (if (rd x6 x7) = x1 then (some x7) else (spec_KidRank.l0 k x1 x6 (wrap64 (x7 + 1)))) else (none)) else (some (-1))
def spec_KidRank.f (k : Nat) (l0 : List (S55)) (a1 : Int) : Option (Int) := (spec_ParentOf.f k l0 a1).bind fun t156 => (if t156 < 0 then (some (-1)) else ((spec_KidsOf.f k l0 t156).bind fun t157 => (spec_KidRank.l0 k a1 t157 0)))
theorem spec_KidRank.mono_l : ∀ k, (∀ y0 y1 y2, LeO (spec_KidRank.l0 k y0 y1 y2) (spec_KidRank.l0 (k + 1) y0 y1 y2))
 | 0 => fun _ _ _ r h => by simp [spec_KidRank.l0] at h
 | k + 1 => by
  have ih0 := spec_KidRank.mono_l k
  ·intro y0 y1 y2
   unfold spec_KidRank.l0
   repeat' first | (with_reducible first | exact ih0 _ _ _ | exact spec_KidsOf.mono _ _ _ | exact spec_ParentOf.mono _ _ _ | exact LeO.refl _ | exact LeO.none _ | refine LeO.ite ?_ ?_ | refine LeO.bind ?_ (fun _ => ?_)) | exact ih0 _ _ _ | exact spec_KidsOf.mono _ _ _ | exact spec_ParentOf.mono _ _ _ | exact LeO.none _ | refine LeO.ite ?_ ?_ | refine LeO.bind ?_ (fun _ => ?_)
theorem spec_KidRank.mono : ∀ a0 a1 k, LeO (spec_KidRank.f k a0 a1) (spec_KidRank.f (k + 1) a0 a1) := by
 intro a0 a1 k
 have ih0 := spec_KidRank.mono_l k
 unfold spec_KidRank.f
 repeat' first | (with_reducible first | exact ih0 _ _ _ | exact spec_KidsOf.mono _ _ _ | exact spec_ParentOf.mono _ _ _ | exact LeO.refl _ | exact LeO.none _ | refine LeO.ite ?_ ?_ | refine LeO.bind ?_ (fun _ => ?_)) | exact ih0 _ _ _ | exact spec_KidsOf.mono _ _ _ | exact spec_ParentOf.mono _ _ _ | exact LeO.none _ | refine LeO.ite ?_ ?_ | refine LeO.bind ?_ (fun _ => ?_)
set_option maxHeartbeats 8000000 in
set_option maxRecDepth 100000 in
theorem spec_KidRank.calls (k : Nat) (A0 : Option Addr) (c0 : Nat) (l0 : List (S55)) (a1 : Int) (r : Int) (w : World) (hr0 : Kd.C k55 w A0 l0.length l0) (hc0 : l0.length ≤ c0) (h : spec_KidRank.f k l0 a1 = some r) :
  Calls Try.prog 66 #[.slice A0 l0.length c0, .int .i64 a1] w fun e w' => e = .returned (.int .i64 r) ∧ Below w.heap.size w w' := by
 have HR0 := Aside0.mk hr0
 have HC0 := Aside0.mk hc0
 clear hr0 hc0
 have HB := Aside0.mk (Below.refl w.heap.size w)
 have H : ((spec_ParentOf.f k l0 a1).bind fun t156 => (if t156 < 0 then (some (-1)) else ((spec_KidsOf.f k l0 t156).bind fun t157 => (spec_KidRank.l0 k a1 t157 0)))) = some r := h
 clear h
 obtain ⟨t156, A3, H⟩ := bnd_ H
 by_cases c4 : t156 < 0
 ·rw [if_pos c4] at H
  have c4b0 : decide (t156 < 0) = true := decide_eq_true c4
  clear c4
  obtain rfl := Option.some.inj H
  go_enter Try.func66, Try.ntmps66
  go_wp2_with (first | ((with_reducible refine gate_callee (f := 64) rfl ?_); refine goesL_ (some 10) rfl rfl Try.func64 (by kernel_rfl) rfl #[.slice A0 l0.length c0, .int .i64 a1] rfl z1_ ?_; (with_reducible refine (spec_ParentOf.calls k _ _ l0 a1 t156 _ ?side1 ?side2 A3.out).mono ?_); (case side1 => exact z9_); (case side2 => exact HC0.out); rintro e w5 ⟨rfl, hb⟩; refine ⟨_, rfl, ?_⟩; replace HB := Aside0.mk (below_step z0_ hb); (try clear hb)))
  go_ret
  exact ⟨z6_, z0_⟩
 ·rw [if_neg c4] at H
  have c4b0 : decide (t156 < 0) = false := decide_eq_false c4
  clear c4
  obtain ⟨t157, A6, H⟩ := bnd_ H
  have H' := Aside0.mk H
  clear H
  go_enter Try.func66, Try.ntmps66
  go_wp2_with (first | ((with_reducible refine gate_callee (f := 64) rfl ?_); refine goesL_ (some 10) rfl rfl Try.func64 (by kernel_rfl) rfl #[.slice A0 l0.length c0, .int .i64 a1] rfl z1_ ?_; (with_reducible refine (spec_ParentOf.calls k _ _ l0 a1 t156 _ ?side1 ?side2 A3.out).mono ?_); (case side1 => exact z9_); (case side2 => exact HC0.out); rintro e w7 ⟨rfl, hb⟩; refine ⟨_, rfl, ?_⟩; replace HB := Aside0.mk (below_step z0_ hb); (try clear hb)) | ((with_reducible refine gate_callee (f := 65) rfl ?_); refine goesL_ (some 15) rfl rfl Try.func65 (by kernel_rfl) rfl #[.slice A0 l0.length c0, .int .i64 t156] rfl z1_ ?_; (with_reducible refine (spec_KidsOf.calls k _ _ l0 t156 t157 _ ?side1 ?side2 A6.out).mono ?_); (case side1 => exact z4_); (case side2 => exact HC0.out); rintro e w8 ⟨v158, rfl, ho0, hb⟩; refine ⟨_, rfl, ?_⟩; have HO159 := Aside0.mk (Kd.R_lower ho0 (below_size z0_)); replace HB := Aside0.mk (below_step z0_ hb); (try clear hb ho0)))
  go_loopg [7] k (fun kq v7 w' => ∃ (x7_1 : Int), v7 = .int .i64 x7_1 ∧ Aside0 (spec_KidRank.l0 kq a1 t157 x7_1 = some r) ∧ Aside0 (kq ≤ k) ∧ Aside0 (Kd.R (Kd.int .i64) 3 w' w.heap.size (fun _ => True) v158 t157) ∧ Aside0 (Below w.heap.size w w'))
  case atStart => exact ⟨(0), z12_, H', ⟨Nat.le_refl _⟩, ⟨by (with_reducible repeat (first | apply Kd.R_alloc | apply Kd.R_drewN | apply Kd.R_drew)); exact HO159.out⟩, ⟨z0_⟩⟩
  case round =>
   clear H'
   try clear p2
   try clear c4
   try clear c4b0
   try clear c6
   obtain ⟨x7_1, rfl, HA, HK1, HO_6, HB⟩ := hrel
   cases gk with
   | zero => exact absurd HA.out (by simp [spec_KidRank.l0])
   | succ k1 =>
    have H := HA.out
    clear HA
    simp only [spec_KidRank.l0] at H
    by_cases c9 : x7_1 < (t157.length : Int)
    ·rw [if_pos c9] at H
     have c9b0 : decide (x7_1 < (t157.length : Int)) = true := decide_eq_true c9
     clear c9
     obtain ⟨c10b0, H⟩ := ifd_ H
     by_cases c11 : (rd t157 x7_1) = a1
     ·rw [if_pos c11] at H
      have c11b0 : ((rd t157 x7_1) == a1) = true := beq_iff_eq.mpr c11
      have c11b1 : ((rd t157 x7_1) != a1) = false := bne_eq_false_iff_eq.mpr c11
      clear c11
      obtain rfl := Option.some.inj H
      obtain ⟨Ao12, co12, eo12⟩ := Kd.R_slice HO_6.out
      subst eo12
      have p160 : 0 ≤ (x7_1 : Int) := odt_
      have q160 : x7_1 < (t157.length : Int) := odt_
      obtain ⟨ad160, e160, hx160_0⟩ := Kd.at_int (Kd.R_reads' HO_6.out).2.2 x7_1 p160 q160
      cases e160
      replace p160 := eq_true p160
      replace q160 := eq_true q160
      go_wp2
      go_ret
      exact ⟨z6_, z0_⟩
     ·rw [if_neg c11] at H
      have c11b0 : ((rd t157 x7_1) == a1) = false := beq_eq_false_iff_ne.mpr c11
      have c11b1 : ((rd t157 x7_1) != a1) = true := bne_iff_ne.mpr c11
      have H' := Aside0.mk H
      clear H
      obtain ⟨Ao13, co13, eo13⟩ := Kd.R_slice HO_6.out
      subst eo13
      have p160 : 0 ≤ (x7_1 : Int) := odt_
      have q160 : x7_1 < (t157.length : Int) := odt_
      obtain ⟨ad160, e160, hx160_0⟩ := Kd.at_int (Kd.R_reads' HO_6.out).2.2 x7_1 p160 q160
      cases e160
      replace p160 := eq_true p160
      replace q160 := eq_true q160
      go_wp2
      go_roundg k1
      case measure => have := HK1.out; omega
      case rel => exact ⟨(wrap64 (x7_1 + 1)), z12_, H', ⟨z136_⟩, ⟨by (with_reducible repeat (first | apply Kd.R_alloc | apply Kd.R_drewN | apply Kd.R_drew)); exact HO_6.out⟩, ⟨z0_⟩⟩
    ·rw [if_neg c9] at H
     have c9b0 : decide (x7_1 < (t157.length : Int)) = false := decide_eq_false c9
     clear c9
     obtain rfl := Option.some.inj H
     obtain ⟨Ao14, co14, eo14⟩ := Kd.R_slice HO_6.out
     subst eo14
     go_wp2
     go_ret
     exact ⟨z6_, z0_⟩

end Go.Proofs.Ytmbhlfcpdbbogab.PFnExactDomFrom
