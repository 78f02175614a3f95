/- Laid by a program of this session out of the kit's print for the law FnExactReadOp: what it says of the machine is proved here, function by function; each contract under the conditions that it names. -/
import Derived.Test.YtlfmlagdnebkiaaDoorMFnExactReadOpx0
import Derived.Test.YtlfmlagdnebkiaaDoorMFnExactReadOpx4
import Derived.Test.YtlfmlagdnebkiaaDoorMFnExactReadOpx8
import Derived.Test.YtlfmlagdnebkiaaDoorMFnExactReadOpx9
namespace Go.Proofs.YtlfmlagdnebkiaaDoor.PFnExactReadOp
open Go.RowKit Go.Proofs.YtlfmlagdnebkiaaDoorW.PrintWords Go.Proofs.YtlfmlagdnebkiaaDoorW.PrintLast Go.Proofs.YtlfmlagdnebkiaaDoorW.PrintMore
attribute [local go_sem] max2_int min2_int max_two min_two max_three min_three max_four min_four   -- for this text's walks alone
set_option linter.unusedVariables false
set_option linter.unusedSimpArgs false

/-! ### laws_FnExactReadOp: function 3 -/
mutual
def laws_FnExactReadOp.j0 : Nat → ByteArray → Bool → Bool → Int → List Int → Int → Int → Int → Int → List Int → Int → Int → Int → Option (Bool)
 | 0, _, _, _, _, _, _, _, _, _, _, _, _, _ => none
 | k + 1, x0, x4, x32, x278000, x278001, x278002, x278003, x278004, x287000, x287001, x287002, x287003, x287004 => if x32 = true then (some false) else ((laws_markOp.f k x287000 x287001 x287002 x287003 x287004 1).bind fun bt288 => ((laws_heldOp.f k x287000 bt288.2 x287002 x287003 x287004 1).bind fun t290 => (if t290 < 0 then (some false) else (if t290 = bt288.1 then ((impl_ReadOp.f k x0).bind fun bt291 => ((laws_eqOp.f k bt291.1 bt291.2.1 bt291.2.2.1 bt291.2.2.2.1 bt291.2.2.2.2.1 x278000 x278001 x278002 x278003 x278004).bind fun t300 => (if t300 = true then (laws_FnExactReadOp.j1 k bt288.1 (bt291.2.2.2.2.2 != x4) x287000 bt288.2 x287002 x287003 x287004) else (laws_FnExactReadOp.j1 k bt288.1 true x287000 bt288.2 x287002 x287003 x287004)))) else (some false)))))
def laws_FnExactReadOp.j1 : Nat → Int → Bool → Int → List Int → Int → Int → Int → Option (Bool)
 | 0, _, _, _, _, _, _, _ => none
 | k + 1, x7, x57, x287000, x287001, x287002, x287003, x287004 => if x57 = true then (some false) else ((laws_heldOp.f k x287000 x287001 x287002 x287003 x287004 1).bind fun t301 => (if t301 < 0 then (some false) else (if t301 = x7 then (some true) else (some false))))
end
def laws_FnExactReadOp.f (k : Nat) (a0 : ByteArray) : Option (Bool) := if (a0.size : Int) > 1048576 then (some true) else ((spec_ReadOp.f k a0).bind fun bt269 => ((impl_ReadOp.f k a0).bind fun bt278 => ((laws_eqOp.f k bt278.1 bt278.2.1 bt278.2.2.1 bt278.2.2.2.1 bt278.2.2.2.2.1 bt269.1 bt269.2.1 bt269.2.2.1 bt269.2.2.2.1 bt269.2.2.2.2.1).bind fun t287 => (if t287 = true then (laws_FnExactReadOp.j0 k a0 bt269.2.2.2.2.2 (bt278.2.2.2.2.2 != bt269.2.2.2.2.2) bt269.1 bt269.2.1 bt269.2.2.1 bt269.2.2.2.1 bt269.2.2.2.2.1 bt278.1 bt278.2.1 bt278.2.2.1 bt278.2.2.2.1 bt278.2.2.2.2.1) else (laws_FnExactReadOp.j0 k a0 bt269.2.2.2.2.2 true bt269.1 bt269.2.1 bt269.2.2.1 bt269.2.2.2.1 bt269.2.2.2.2.1 bt278.1 bt278.2.1 bt278.2.2.1 bt278.2.2.2.1 bt278.2.2.2.2.1)))))
set_option maxHeartbeats 8000000 in
set_option maxRecDepth 100000 in
theorem laws_FnExactReadOp.calls (k : Nat) (a0 : ByteArray) (r : Bool) (w : World) (hL : Laid w) (h : laws_FnExactReadOp.f k a0 = some r) :
  Calls Tryd.prog 3 #[.string a0] w fun e w' => e = .returned (.bool r) ∧ Below w.heap.size w w' := by
 have hu24 := Tryd.underlying24
 have HB := Aside0.mk (Below.refl w.heap.size w)
 have H : (if (a0.size : Int) > 1048576 then (some true) else ((spec_ReadOp.f k a0).bind fun bt269 => ((impl_ReadOp.f k a0).bind fun bt278 => ((laws_eqOp.f k bt278.1 bt278.2.1 bt278.2.2.1 bt278.2.2.2.1 bt278.2.2.2.2.1 bt269.1 bt269.2.1 bt269.2.2.1 bt269.2.2.2.1 bt269.2.2.2.2.1).bind fun t287 => (if t287 = true then (laws_FnExactReadOp.j0 k a0 bt269.2.2.2.2.2 (bt278.2.2.2.2.2 != bt269.2.2.2.2.2) bt269.1 bt269.2.1 bt269.2.2.1 bt269.2.2.2.1 bt269.2.2.2.2.1 bt278.1 bt278.2.1 bt278.2.2.1 bt278.2.2.2.1 bt278.2.2.2.2.1) else (laws_FnExactReadOp.j0 k a0 bt269.2.2.2.2.2 true bt269.1 bt269.2.1 bt269.2.2.1 bt269.2.2.2.1 bt269.2.2.2.2.1 bt278.1 bt278.2.1 bt278.2.2.1 bt278.2.2.2.1 bt278.2.2.2.2.1)))))) = some r := h
 clear h
 by_cases c2 : (a0.size : Int) > 1048576
 ·rw [if_pos c2] at H
  have c2b0 := decide_eq_true c2
  have c2b1 : decide (1048576 < a0.size) = true := decide_eq_true (by omega)
  clear c2
  obtain rfl := Option.some.inj H
  go_enter Tryd.func3, Tryd.ntmps3
  go_wp2
  go_ret
  exact ⟨z2_, z0_⟩
 ·rw [if_neg c2] at H
  have c2b0 := decide_eq_false c2
  have c2b1 : decide (1048576 < a0.size) = false := decide_eq_false (by omega)
  clear c2
  replace H := Option.bind_eq_some_iff.mp H
  obtain ⟨⟨t269, t270, t273, t274, t275, t276⟩, A30, H⟩ := H
  try dsimp only at H
  have A3 := Aside0.mk A30
  clear A30
  replace H := Option.bind_eq_some_iff.mp H
  obtain ⟨⟨t278, t279, t282, t283, t284, t285⟩, A40, H⟩ := H
  try dsimp only at H
  have A4 := Aside0.mk A40
  clear A40
  have HC5 := Aside0.mk H
  clear H
  go_enter Tryd.func3, Tryd.ntmps3
  go_upto_region 5 with (first | ((with_reducible refine gate_callee (f := 5) rfl ?_); refine goesL_ (some 16) rfl rfl Tryd.func5 (by kernel_rfl) rfl #[.string a0] rfl z1_ ?_; (with_reducible refine (spec_ReadOp.calls k a0 t269 t270 t273 t274 t275 t276 _ A3.out).mono ?_); rintro e w6 ⟨v271, rfl, ho0, hb⟩; refine ⟨_, rfl, ?_⟩; have HO272 := Aside0.mk (Kd.R_lower ho0 (below_size z0_)); replace HB := Aside0.mk (below_step z0_ hb); (try clear hb ho0)) | ((with_reducible refine gate_dst (N := 3) rfl ?_); refine box_event ?hg (N := 3) ?hd (cs := #[.int .i64 0, .slice none 0 0, .int .i64 0, .int .i64 0, .int .i64 0]) (t := 24) ?hr ?_; (case hd => rfl); (case hg => rfl); (case hr => exact z32_); intro gb277 hg w7 hbox hb; replace HO272 := Aside0.mk (Kd.R_below z111_ hb); have BK277 := Aside0.mk (hbox); have GW277 := Aside0.mk ((by rw [hg]; exact (below_size z0_) : w.heap.size ≤ gb277)); have GE277 := Aside0.mk ((by rw [hg]; exact (below_size z0_) : w.heap.size ≤ gb277)); replace HB := Aside0.mk (below_step z0_ hb); clear hb hbox hg; obtain ⟨hcz8_0, hcz8_1, hcz8_2, hcz8_3, hcz8_4, hfz8_0, hfz8_1, hfz8_2, hfz8_3, hfz8_4⟩ := bx5_ BK277.out; obtain ⟨Ao9, co9, eo9⟩ := Kd.R_slice HO272.out; subst eo9) | ((with_reducible refine gate_callee (f := 6) rfl ?_); refine goesL_ (some 21) rfl rfl Tryd.func6 (by kernel_rfl) rfl #[.string a0] rfl z1_ ?_; (with_reducible refine (impl_ReadOp.calls k a0 t278 t279 t282 t283 t284 t285 _ (hL.below z11_) A4.out).mono ?_); rintro e w10 ⟨v280, rfl, ho0, hb⟩; refine ⟨_, rfl, ?_⟩; have HO281 := Aside0.mk (Kd.R_lower (Kd.R_new' ho0 (Kd.R_lt z55_)) (below_size z66_)); replace HO272 := Aside0.mk (Kd.R_elder' z55_ (Kd.R_base ho0) hb); replace BK277 := Aside0.mk (blk_below (g := gb277) (o := .cells #[.int .i64 t269, .slice Ao9 t270.length co9, .int .i64 t273, .int .i64 t274, .int .i64 t275] 24 (0, 0)) (by (with_reducible repeat (first | refine blk_drewN ?_ _ | refine blk_drew ?_ | refine blk_alloc ?_ _)); refine blk_put (cs := #[.int .i64 t269, .slice Ao9 t270.length co9, .int .i64 t273, .int .i64 t274, .int .i64 0]) ?_ 4 _ rfl; (with_reducible repeat (first | refine blk_drewN ?_ _ | refine blk_drew ?_ | refine blk_alloc ?_ _)); refine blk_put (cs := #[.int .i64 t269, .slice Ao9 t270.length co9, .int .i64 t273, .int .i64 0, .int .i64 0]) ?_ 3 _ rfl; (with_reducible repeat (first | refine blk_drewN ?_ _ | refine blk_drew ?_ | refine blk_alloc ?_ _)); refine blk_put (cs := #[.int .i64 t269, .slice Ao9 t270.length co9, .int .i64 0, .int .i64 0, .int .i64 0]) ?_ 2 _ rfl; (with_reducible repeat (first | refine blk_drewN ?_ _ | refine blk_drew ?_ | refine blk_alloc ?_ _)); refine blk_put (cs := #[.int .i64 t269, .slice none 0 0, .int .i64 0, .int .i64 0, .int .i64 0]) ?_ 1 _ rfl; (with_reducible repeat (first | refine blk_drewN ?_ _ | refine blk_drew ?_ | refine blk_alloc ?_ _)); refine blk_put (cs := #[.int .i64 0, .slice none 0 0, .int .i64 0, .int .i64 0, .int .i64 0]) ?_ 0 _ rfl; (with_reducible repeat (first | refine blk_drewN ?_ _ | refine blk_drew ?_ | refine blk_alloc ?_ _)); exact BK277.out) hb); replace HB := Aside0.mk (below_step z66_ hb); (try clear hb ho0)) | ((with_reducible refine gate_dst (N := 5) rfl ?_); refine box_event ?hg (N := 5) ?hd (cs := #[.int .i64 0, .slice none 0 0, .int .i64 0, .int .i64 0, .int .i64 0]) (t := 24) ?hr ?_; (case hd => rfl); (case hg => rfl); (case hr => exact z32_); intro gb286 hg w11 hbox hb; replace HO272 := Aside0.mk (Kd.R_below z111_ hb); replace HO281 := Aside0.mk (Kd.R_below (by (with_reducible repeat (first | apply Kd.R_alloc | apply Kd.R_drewN | apply Kd.R_drew)); exact HO281.out) hb); have BK286 := Aside0.mk (hbox); have GW286 := Aside0.mk ((by rw [hg]; exact (below_size z66_) : w.heap.size ≤ gb286)); have GE286 := Aside0.mk ((by rw [hg]; exact (below_size z66_) : w.heap.size ≤ gb286)); replace HB := Aside0.mk (below_step z66_ hb); have NB277_286 := Aside0.mk ((by rw [hg]; exact Nat.ne_of_lt (blk_lt (g := gb277) (o := .cells #[.int .i64 t269, .slice Ao9 t270.length co9, .int .i64 t273, .int .i64 t274, .int .i64 t275] 24 (0, 0)) z19_) : gb277 ≠ gb286)); have NB286_277 := Aside0.mk ((by rw [hg]; exact Nat.ne_of_gt (blk_lt (g := gb277) (o := .cells #[.int .i64 t269, .slice Ao9 t270.length co9, .int .i64 t273, .int .i64 t274, .int .i64 t275] 24 (0, 0)) z19_) : gb286 ≠ gb277)); replace BK277 := Aside0.mk (blk_below (g := gb277) (o := .cells #[.int .i64 t269, .slice Ao9 t270.length co9, .int .i64 t273, .int .i64 t274, .int .i64 t275] 24 (0, 0)) z19_ hb); clear hb hbox hg; have hnb12 := NB286_277.out; have hnc12 := NB277_286.out; obtain ⟨hcz13_0, hcz13_1, hcz13_2, hcz13_3, hcz13_4, hfz13_0, hfz13_1, hfz13_2, hfz13_3, hfz13_4⟩ := bx5_ BK286.out; obtain ⟨Ao14, co14, eo14⟩ := Kd.R_slice HO281.out; subst eo14))
  (try simp only [Act.put, List.setIfInBounds_toArray, List.set_cons_zero, List.set_cons_succ])
  go_cut [32] (fun v32 wc => ∃ (kq : Nat) (x32_4 : Bool), v32 = .bool x32_4 ∧ Aside0 (laws_FnExactReadOp.j0 kq a0 t276 x32_4 t269 t270 t273 t274 t275 t278 t279 t282 t283 t284 = some r) ∧ Aside0 (kq ≤ k) ∧ Aside0 (Kd.R (Kd.int .i64) 3 wc w.heap.size (fun k_ => some k_ ≠ ((.slice Ao14 t279.length co14) : Value).ownBlock) (.slice Ao9 t270.length co9) t270) ∧ Aside0 (Kd.R (Kd.int .i64) 3 wc w.heap.size (fun k_ => some k_ ≠ ((.slice Ao9 t270.length co9) : Value).ownBlock) (.slice Ao14 t279.length co14) t279) ∧ Aside0 (wc.heap[gb277]? = some (.cells #[.int .i64 t269, (.slice Ao9 t270.length co9), .int .i64 t273, .int .i64 t274, .int .i64 t275] 24 (0, 0))) ∧ Aside0 (wc.heap[gb286]? = some (.cells #[.int .i64 t278, (.slice Ao14 t279.length co14), .int .i64 t282, .int .i64 t283, .int .i64 t284] 24 (0, 0))) ∧ Aside0 (Below w.heap.size w wc))
  case first =>
   have H := HC5.out
   clear HC5
   obtain ⟨t287, A15, H⟩ := bnd_ H
   by_cases c16 : t287 = true
   ·subst c16
    replace H := ift_ H
    have H' := Aside0.mk H
    clear H
    have hnb17 := NB286_277.out
    have hnc17 := NB277_286.out
    obtain ⟨hcz18_0, hcz18_1, hcz18_2, hcz18_3, hcz18_4, hfz18_0, hfz18_1, hfz18_2, hfz18_3, hfz18_4⟩ := bx5_ BK286.out
    obtain ⟨hcz19_0, hcz19_1, hcz19_2, hcz19_3, hcz19_4, hfz19_0, hfz19_1, hfz19_2, hfz19_3, hfz19_4⟩ := bx5_ BK277.out
    go_wp2_with (first | ((with_reducible refine gate_callee (f := 7) rfl ?_); refine goesL_ (some 26) rfl rfl Tryd.func7 (by kernel_rfl) rfl #[.agg #[.int .i64 t278, .slice Ao14 t279.length co14, .int .i64 t282, .int .i64 t283, .int .i64 t284], .agg #[.int .i64 t269, .slice Ao9 t270.length co9, .int .i64 t273, .int .i64 t274, .int .i64 t275]] rfl z1_ ?_; (with_reducible refine (laws_eqOp.calls k t278 _ _ t279 t282 t283 t284 t269 _ _ t270 t273 t274 t275 true _ ?side1 ?side2 ?side3 ?side4 A15.out).mono ?_); (case side1 => exact z46_); (case side2 => exact (Kd.R_reads' HO281.out).2.1); (case side3 => exact z45_); (case side4 => exact (Kd.R_reads' HO272.out).2.1); rintro e w20 ⟨rfl, hb⟩; refine ⟨_, rfl, ?_⟩; replace HO272 := Aside0.mk (Kd.R_below z24_ hb); replace HO281 := Aside0.mk (Kd.R_below z23_ hb); replace BK277 := Aside0.mk (blk_below (g := gb277) (o := .cells #[.int .i64 t269, .slice Ao9 t270.length co9, .int .i64 t273, .int .i64 t274, .int .i64 t275] 24 (0, 0)) z38_ hb); replace BK286 := Aside0.mk (blk_below (g := gb286) (o := .cells #[.int .i64 t278, .slice Ao14 t279.length co14, .int .i64 t282, .int .i64 t283, .int .i64 t284] 24 (0, 0)) z16_ hb); replace HB := Aside0.mk (below_step z7_ hb); (try clear hb)))
    go_meet
    case rel => exact ⟨_, ((t285 != t276)), z5_, H', ⟨z81_⟩, ⟨z99_⟩, ⟨z100_⟩, ⟨z19_⟩, ⟨z28_⟩, ⟨z7_⟩⟩
   ·replace c16 := Bool.eq_false_iff.mpr c16
    subst c16
    replace H := iff_ H
    have H' := Aside0.mk H
    clear H
    have hnb21 := NB286_277.out
    have hnc21 := NB277_286.out
    obtain ⟨hcz22_0, hcz22_1, hcz22_2, hcz22_3, hcz22_4, hfz22_0, hfz22_1, hfz22_2, hfz22_3, hfz22_4⟩ := bx5_ BK286.out
    obtain ⟨hcz23_0, hcz23_1, hcz23_2, hcz23_3, hcz23_4, hfz23_0, hfz23_1, hfz23_2, hfz23_3, hfz23_4⟩ := bx5_ BK277.out
    go_wp2_with (first | ((with_reducible refine gate_callee (f := 7) rfl ?_); refine goesL_ (some 26) rfl rfl Tryd.func7 (by kernel_rfl) rfl #[.agg #[.int .i64 t278, .slice Ao14 t279.length co14, .int .i64 t282, .int .i64 t283, .int .i64 t284], .agg #[.int .i64 t269, .slice Ao9 t270.length co9, .int .i64 t273, .int .i64 t274, .int .i64 t275]] rfl z1_ ?_; (with_reducible refine (laws_eqOp.calls k t278 _ _ t279 t282 t283 t284 t269 _ _ t270 t273 t274 t275 false _ ?side1 ?side2 ?side3 ?side4 A15.out).mono ?_); (case side1 => exact z46_); (case side2 => exact (Kd.R_reads' HO281.out).2.1); (case side3 => exact z45_); (case side4 => exact (Kd.R_reads' HO272.out).2.1); rintro e w24 ⟨rfl, hb⟩; refine ⟨_, rfl, ?_⟩; replace HO272 := Aside0.mk (Kd.R_below z24_ hb); replace HO281 := Aside0.mk (Kd.R_below z23_ hb); replace BK277 := Aside0.mk (blk_below (g := gb277) (o := .cells #[.int .i64 t269, .slice Ao9 t270.length co9, .int .i64 t273, .int .i64 t274, .int .i64 t275] 24 (0, 0)) z38_ hb); replace BK286 := Aside0.mk (blk_below (g := gb286) (o := .cells #[.int .i64 t278, .slice Ao14 t279.length co14, .int .i64 t282, .int .i64 t283, .int .i64 t284] 24 (0, 0)) z16_ hb); replace HB := Aside0.mk (below_step z7_ hb); (try clear hb)))
    go_meet
    case rel => exact ⟨_, (true), z5_, H', ⟨z81_⟩, ⟨z99_⟩, ⟨z100_⟩, ⟨z19_⟩, ⟨z28_⟩, ⟨z7_⟩⟩
  case rest =>
   clear HC5
   try clear c1
   try clear c2
   try clear c2b0
   try clear c2b1
   try clear p2
   try clear c3
   try clear c5
   try clear c6
   try clear c7
   try clear c12
   try clear c16
   try clear c17
   try clear c21
   try clear hcz13_0
   try clear hcz13_1
   try clear hcz13_2
   try clear hcz13_3
   try clear hcz13_4
   try clear hcz18_0
   try clear hcz18_1
   try clear hcz18_2
   try clear hcz18_3
   try clear hcz18_4
   try clear hcz19_0
   try clear hcz19_1
   try clear hcz19_2
   try clear hcz19_3
   try clear hcz19_4
   try clear hcz22_0
   try clear hcz22_1
   try clear hcz22_2
   try clear hcz22_3
   try clear hcz22_4
   try clear hcz23_0
   try clear hcz23_1
   try clear hcz23_2
   try clear hcz23_3
   try clear hcz23_4
   try clear hcz8_0
   try clear hcz8_1
   try clear hcz8_2
   try clear hcz8_3
   try clear hcz8_4
   try clear hfz13_0
   try clear hfz13_1
   try clear hfz13_2
   try clear hfz13_3
   try clear hfz13_4
   try clear hfz18_0
   try clear hfz18_1
   try clear hfz18_2
   try clear hfz18_3
   try clear hfz18_4
   try clear hfz19_0
   try clear hfz19_1
   try clear hfz19_2
   try clear hfz19_3
   try clear hfz19_4
   try clear hfz22_0
   try clear hfz22_1
   try clear hfz22_2
   try clear hfz22_3
   try clear hfz22_4
   try clear hfz23_0
   try clear hfz23_1
   try clear hfz23_2
   try clear hfz23_3
   try clear hfz23_4
   try clear hfz8_0
   try clear hfz8_1
   try clear hfz8_2
   try clear hfz8_3
   try clear hfz8_4
   obtain ⟨kq, x32_4, rfl, HA, HJ4, HO_278001, HO_287001, BK277, BK286, HB⟩ := hcut
   cases kq with
   | zero => exact absurd HA.out (by simp [laws_FnExactReadOp.j0])
   | succ kj4 =>
    have H := HA.out
    clear HA
    simp only [laws_FnExactReadOp.j0] at H
    by_cases c25 : x32_4 = true
    ·subst c25
     replace H := ift_ H
     obtain rfl := Option.some.inj H
     go_wp2
     go_ret
     exact ⟨z2_, z7_⟩
    ·replace c25 := Bool.eq_false_iff.mpr c25
     subst c25
     replace H := iff_ H
     replace H := Option.bind_eq_some_iff.mp H
     obtain ⟨⟨t288, t289⟩, A260, H⟩ := H
     try dsimp only at H
     have A26 := Aside0.mk A260
     clear A260
     obtain ⟨t290, A27, H⟩ := bnd_ H
     by_cases c28 : t290 < 0
     ·rw [if_pos c28] at H
      have c28b0 := decide_eq_true c28
      clear c28
      obtain rfl := Option.some.inj H
      have hnb29 := NB286_277.out
      have hnc29 := NB277_286.out
      obtain ⟨hcz30_0, hcz30_1, hcz30_2, hcz30_3, hcz30_4, hfz30_0, hfz30_1, hfz30_2, hfz30_3, hfz30_4⟩ := bx5_ BK286.out
      go_wp2_with (first | ((with_reducible refine gate_callee (f := 8) rfl ?_); refine goesL_ (some 35) rfl rfl Tryd.func8 (by kernel_rfl) rfl #[.agg #[.int .i64 t278, .slice Ao14 t279.length co14, .int .i64 t282, .int .i64 t283, .int .i64 t284], .int .i64 1] rfl z1_ ?_; (with_reducible refine (laws_markOp.calls kj4 t278 (fun k_ => some k_ = (.slice Ao14 t279.length co14 : Value).ownBlock) (.slice Ao14 t279.length co14) t279 t282 t283 t284 1 t288 t289 w _ ?side1 ?side2 A26.out).mono ?_); (case side1 => exact z7_); (case side2 => exact Kd.R_tight rfl HO_287001.out); rintro e w31 ⟨rfl, hy0, hb, hkp⟩; refine ⟨_, rfl, ?_⟩; replace HO_278001 := Aside0.mk (Kd.R_mono (ok' := fun k_ => some k_ ≠ (.slice Ao14 t279.length co14 : Value).ownBlock) (Kd.R_keptB (HO_278001.out) hkp (fun k_ hk_ hs_ => (hk_) hs_)) (fun k_ hk_ => hk_.1)); replace BK277 := Aside0.mk (blk_kept z19_ hkp (fun hs_ => (fun e_ => (Kd.R_ne HO_287001.out BK277.out (by decide)) e_) hs_)); replace BK286 := Aside0.mk (blk_kept z28_ hkp (fun hs_ => (fun e_ => (Kd.R_ne HO_287001.out BK286.out (by decide)) e_) hs_)); replace HO_287001 := Aside0.mk (Kd.R_reok rfl hy0 (fun k_ e_ => HO_287001.out.1 k_ e_)); replace HB := Aside0.mk (hb); (try clear hb hkp hy0); obtain ⟨hcz32_0, hcz32_1, hcz32_2, hcz32_3, hcz32_4, hfz32_0, hfz32_1, hfz32_2, hfz32_3, hfz32_4⟩ := bx5_ BK286.out) | ((with_reducible refine gate_callee (f := 9) rfl ?_); refine goesL_ (some 38) rfl rfl Tryd.func9 (by kernel_rfl) rfl #[.agg #[.int .i64 t278, .slice Ao14 t289.length co14, .int .i64 t282, .int .i64 t283, .int .i64 t284], .int .i64 1] rfl z69_ ?_; (with_reducible refine (laws_heldOp.calls kj4 t278 _ _ t289 t282 t283 t284 1 t290 _ ?side1 ?side2 A27.out).mono ?_); (case side1 => exact z56_); (case side2 => exact z87_); rintro e w33 ⟨rfl, hb⟩; refine ⟨_, rfl, ?_⟩; replace HO_278001 := Aside0.mk (Kd.R_below z51_ hb); replace HO_287001 := Aside0.mk (Kd.R_below z52_ hb); replace BK277 := Aside0.mk (blk_below (g := gb277) (o := .cells #[.int .i64 t269, .slice Ao9 t270.length co9, .int .i64 t273, .int .i64 t274, .int .i64 t275] 24 (0, 0)) z19_ hb); replace BK286 := Aside0.mk (blk_below (g := gb286) (o := .cells #[.int .i64 t278, .slice Ao14 t279.length co14, .int .i64 t282, .int .i64 t283, .int .i64 t284] 24 (0, 0)) z28_ hb); replace HB := Aside0.mk (below_step z7_ hb); (try clear hb)))
      go_ret
      exact ⟨z2_, z7_⟩
     ·rw [if_neg c28] at H
      have c28b0 := decide_eq_false c28
      clear c28
      by_cases c34 : t290 = t288
      ·rw [if_pos c34] at H
       have c34b0 : (t290 == t288) = true := beq_iff_eq.mpr c34
       have c34b1 : (t290 != t288) = false := bne_eq_false_iff_eq.mpr c34
       clear c34
       replace H := Option.bind_eq_some_iff.mp H
       obtain ⟨⟨t291, t292, t295, t296, t297, t298⟩, A350, H⟩ := H
       try dsimp only at H
       have A35 := Aside0.mk A350
       clear A350
       have HC36 := Aside0.mk H
       clear H
       have hnb37 := NB286_277.out
       have hnc37 := NB277_286.out
       obtain ⟨hcz38_0, hcz38_1, hcz38_2, hcz38_3, hcz38_4, hfz38_0, hfz38_1, hfz38_2, hfz38_3, hfz38_4⟩ := bx5_ BK286.out
       go_upto_region 16 with (first | ((with_reducible refine gate_callee (f := 8) rfl ?_); refine goesL_ (some 35) rfl rfl Tryd.func8 (by kernel_rfl) rfl #[.agg #[.int .i64 t278, .slice Ao14 t279.length co14, .int .i64 t282, .int .i64 t283, .int .i64 t284], .int .i64 1] rfl z1_ ?_; (with_reducible refine (laws_markOp.calls kj4 t278 (fun k_ => some k_ = (.slice Ao14 t279.length co14 : Value).ownBlock) (.slice Ao14 t279.length co14) t279 t282 t283 t284 1 t288 t289 w _ ?side1 ?side2 A26.out).mono ?_); (case side1 => exact z7_); (case side2 => exact Kd.R_tight rfl HO_287001.out); rintro e w39 ⟨rfl, hy0, hb, hkp⟩; refine ⟨_, rfl, ?_⟩; replace HO_278001 := Aside0.mk (Kd.R_mono (ok' := fun k_ => some k_ ≠ (.slice Ao14 t279.length co14 : Value).ownBlock) (Kd.R_keptB (HO_278001.out) hkp (fun k_ hk_ hs_ => (hk_) hs_)) (fun k_ hk_ => hk_.1)); replace BK277 := Aside0.mk (blk_kept z19_ hkp (fun hs_ => (fun e_ => (Kd.R_ne HO_287001.out BK277.out (by decide)) e_) hs_)); replace BK286 := Aside0.mk (blk_kept z28_ hkp (fun hs_ => (fun e_ => (Kd.R_ne HO_287001.out BK286.out (by decide)) e_) hs_)); replace HO_287001 := Aside0.mk (Kd.R_reok rfl hy0 (fun k_ e_ => HO_287001.out.1 k_ e_)); replace HB := Aside0.mk (hb); (try clear hb hkp hy0); obtain ⟨hcz40_0, hcz40_1, hcz40_2, hcz40_3, hcz40_4, hfz40_0, hfz40_1, hfz40_2, hfz40_3, hfz40_4⟩ := bx5_ BK286.out) | ((with_reducible refine gate_callee (f := 9) rfl ?_); refine goesL_ (some 38) rfl rfl Tryd.func9 (by kernel_rfl) rfl #[.agg #[.int .i64 t278, .slice Ao14 t289.length co14, .int .i64 t282, .int .i64 t283, .int .i64 t284], .int .i64 1] rfl z69_ ?_; (with_reducible refine (laws_heldOp.calls kj4 t278 _ _ t289 t282 t283 t284 1 t290 _ ?side1 ?side2 A27.out).mono ?_); (case side1 => exact z56_); (case side2 => exact z87_); rintro e w41 ⟨rfl, hb⟩; refine ⟨_, rfl, ?_⟩; replace HO_278001 := Aside0.mk (Kd.R_below z51_ hb); replace HO_287001 := Aside0.mk (Kd.R_below z52_ hb); replace BK277 := Aside0.mk (blk_below (g := gb277) (o := .cells #[.int .i64 t269, .slice Ao9 t270.length co9, .int .i64 t273, .int .i64 t274, .int .i64 t275] 24 (0, 0)) z19_ hb); replace BK286 := Aside0.mk (blk_below (g := gb286) (o := .cells #[.int .i64 t278, .slice Ao14 t279.length co14, .int .i64 t282, .int .i64 t283, .int .i64 t284] 24 (0, 0)) z28_ hb); replace HB := Aside0.mk (below_step z7_ hb); (try clear hb)) | ((with_reducible refine gate_callee (f := 6) rfl ?_); refine goesL_ (some 46) rfl rfl Tryd.func6 (by kernel_rfl) rfl #[.string a0] rfl z1_ ?_; (with_reducible refine (impl_ReadOp.calls kj4 a0 t291 t292 t295 t296 t297 t298 _ (hL.below z11_) A35.out).mono ?_); rintro e w42 ⟨v293, rfl, ho0, hb⟩; refine ⟨_, rfl, ?_⟩; have HO294 := Aside0.mk (Kd.R_lower (Kd.R_new' (Kd.R_new' ho0 (Kd.R_lt z51_)) (Kd.R_lt z52_)) (below_size z7_)); replace HO_278001 := Aside0.mk (Kd.R_elder' z51_ (Kd.R_base ho0) hb); replace HO_287001 := Aside0.mk (Kd.R_elder' z52_ (Kd.R_base ho0) hb); replace BK277 := Aside0.mk (blk_below (g := gb277) (o := .cells #[.int .i64 t269, .slice Ao9 t270.length co9, .int .i64 t273, .int .i64 t274, .int .i64 t275] 24 (0, 0)) z19_ hb); replace BK286 := Aside0.mk (blk_below (g := gb286) (o := .cells #[.int .i64 t278, .slice Ao14 t279.length co14, .int .i64 t282, .int .i64 t283, .int .i64 t284] 24 (0, 0)) z28_ hb); replace HB := Aside0.mk (below_step z7_ hb); (try clear hb ho0)) | ((with_reducible refine gate_dst (N := 9) rfl ?_); refine box_event ?hg (N := 9) ?hd (cs := #[.int .i64 0, .slice none 0 0, .int .i64 0, .int .i64 0, .int .i64 0]) (t := 24) ?hr ?_; (case hd => rfl); (case hg => rfl); (case hr => exact z32_); intro gb299 hg w43 hbox hb; replace HO_278001 := Aside0.mk (Kd.R_below z51_ hb); replace HO_287001 := Aside0.mk (Kd.R_below z52_ hb); replace HO294 := Aside0.mk (Kd.R_below (by (with_reducible repeat (first | apply Kd.R_alloc | apply Kd.R_drewN | apply Kd.R_drew)); exact HO294.out) hb); have BK299 := Aside0.mk (hbox); have GW299 := Aside0.mk ((by rw [hg]; exact (below_size z7_) : w.heap.size ≤ gb299)); have GE299 := Aside0.mk ((by rw [hg]; exact (below_size z7_) : w.heap.size ≤ gb299)); replace HB := Aside0.mk (below_step z7_ hb); have NB277_299 := Aside0.mk ((by rw [hg]; exact Nat.ne_of_lt (blk_lt (g := gb277) (o := .cells #[.int .i64 t269, .slice Ao9 t270.length co9, .int .i64 t273, .int .i64 t274, .int .i64 t275] 24 (0, 0)) z19_) : gb277 ≠ gb299)); have NB299_277 := Aside0.mk ((by rw [hg]; exact Nat.ne_of_gt (blk_lt (g := gb277) (o := .cells #[.int .i64 t269, .slice Ao9 t270.length co9, .int .i64 t273, .int .i64 t274, .int .i64 t275] 24 (0, 0)) z19_) : gb299 ≠ gb277)); replace BK277 := Aside0.mk (blk_below (g := gb277) (o := .cells #[.int .i64 t269, .slice Ao9 t270.length co9, .int .i64 t273, .int .i64 t274, .int .i64 t275] 24 (0, 0)) z19_ hb); have NB286_299 := Aside0.mk ((by rw [hg]; exact Nat.ne_of_lt (blk_lt (g := gb286) (o := .cells #[.int .i64 t278, .slice Ao14 t279.length co14, .int .i64 t282, .int .i64 t283, .int .i64 t284] 24 (0, 0)) z28_) : gb286 ≠ gb299)); have NB299_286 := Aside0.mk ((by rw [hg]; exact Nat.ne_of_gt (blk_lt (g := gb286) (o := .cells #[.int .i64 t278, .slice Ao14 t279.length co14, .int .i64 t282, .int .i64 t283, .int .i64 t284] 24 (0, 0)) z28_) : gb299 ≠ gb286)); replace BK286 := Aside0.mk (blk_below (g := gb286) (o := .cells #[.int .i64 t278, .slice Ao14 t279.length co14, .int .i64 t282, .int .i64 t283, .int .i64 t284] 24 (0, 0)) z28_ hb); clear hb hbox hg; have hnb44 := NB299_277.out; have hnc44 := NB277_299.out; have hnb45 := NB299_286.out; have hnc45 := NB286_299.out; obtain ⟨hcz46_0, hcz46_1, hcz46_2, hcz46_3, hcz46_4, hfz46_0, hfz46_1, hfz46_2, hfz46_3, hfz46_4⟩ := bx5_ BK299.out; obtain ⟨Ao47, co47, eo47⟩ := Kd.R_slice HO294.out; subst eo47))
       (try simp only [Act.put, List.setIfInBounds_toArray, List.set_cons_zero, List.set_cons_succ])
       go_cut [57] (fun v57 wc => ∃ (kq : Nat) (x57_35 : Bool), v57 = .bool x57_35 ∧ Aside0 (laws_FnExactReadOp.j1 kq t288 x57_35 t278 t289 t282 t283 t284 = some r) ∧ Aside0 (kq ≤ kj4) ∧ Aside0 (Kd.R (Kd.int .i64) 3 wc w.heap.size (fun k_ => some k_ ≠ ((.slice Ao14 t279.length co14) : Value).ownBlock ∧ some k_ ≠ ((.slice Ao47 t292.length co47) : Value).ownBlock) (.slice Ao9 t270.length co9) t270) ∧ Aside0 (Kd.R (Kd.int .i64) 3 wc w.heap.size (fun k_ => some k_ ≠ ((.slice Ao9 t270.length co9) : Value).ownBlock ∧ some k_ ≠ ((.slice Ao47 t292.length co47) : Value).ownBlock) (.slice Ao14 t279.length co14) t289) ∧ Aside0 (Kd.R (Kd.int .i64) 3 wc w.heap.size (fun k_ => some k_ ≠ ((.slice Ao9 t270.length co9) : Value).ownBlock ∧ some k_ ≠ ((.slice Ao14 t279.length co14) : Value).ownBlock) (.slice Ao47 t292.length co47) t292) ∧ Aside0 (wc.heap[gb277]? = some (.cells #[.int .i64 t269, (.slice Ao9 t270.length co9), .int .i64 t273, .int .i64 t274, .int .i64 t275] 24 (0, 0))) ∧ Aside0 (wc.heap[gb286]? = some (.cells #[.int .i64 t278, (.slice Ao14 t279.length co14), .int .i64 t282, .int .i64 t283, .int .i64 t284] 24 (0, 0))) ∧ Aside0 (wc.heap[gb299]? = some (.cells #[.int .i64 t291, (.slice Ao47 t292.length co47), .int .i64 t295, .int .i64 t296, .int .i64 t297] 24 (0, 0))) ∧ Aside0 (Below w.heap.size w wc))
       case first =>
        have H := HC36.out
        clear HC36
        obtain ⟨t300, A48, H⟩ := bnd_ H
        by_cases c49 : t300 = true
        ·subst c49
         replace H := ift_ H
         have H' := Aside0.mk H
         clear H
         have hnb50 := NB299_277.out
         have hnc50 := NB277_299.out
         have hnb51 := NB299_286.out
         have hnc51 := NB286_299.out
         obtain ⟨hcz52_0, hcz52_1, hcz52_2, hcz52_3, hcz52_4, hfz52_0, hfz52_1, hfz52_2, hfz52_3, hfz52_4⟩ := bx5_ BK299.out
         have hnb53 := NB277_286.out
         have hnc53 := NB286_277.out
         obtain ⟨hcz54_0, hcz54_1, hcz54_2, hcz54_3, hcz54_4, hfz54_0, hfz54_1, hfz54_2, hfz54_3, hfz54_4⟩ := bx5_ BK277.out
         go_wp2_with (first | ((with_reducible refine gate_callee (f := 7) rfl ?_); refine goesL_ (some 51) rfl rfl Tryd.func7 (by kernel_rfl) rfl #[.agg #[.int .i64 t291, .slice Ao47 t292.length co47, .int .i64 t295, .int .i64 t296, .int .i64 t297], .agg #[.int .i64 t269, .slice Ao9 t270.length co9, .int .i64 t273, .int .i64 t274, .int .i64 t275]] rfl z1_ ?_; (with_reducible refine (laws_eqOp.calls kj4 t291 _ _ t292 t295 t296 t297 t269 _ _ t270 t273 t274 t275 true _ ?side1 ?side2 ?side3 ?side4 A48.out).mono ?_); (case side1 => exact z41_); (case side2 => exact (Kd.R_reads' HO294.out).2.1); (case side3 => exact z42_); (case side4 => exact (Kd.R_reads' HO_278001.out).2.1); rintro e w55 ⟨rfl, hb⟩; refine ⟨_, rfl, ?_⟩; replace HO_278001 := Aside0.mk (Kd.R_below z21_ hb); replace HO_287001 := Aside0.mk (Kd.R_below z54_ hb); replace HO294 := Aside0.mk (Kd.R_below z25_ hb); replace BK277 := Aside0.mk (blk_below (g := gb277) (o := .cells #[.int .i64 t269, .slice Ao9 t270.length co9, .int .i64 t273, .int .i64 t274, .int .i64 t275] 24 (0, 0)) z39_ hb); replace BK286 := Aside0.mk (blk_below (g := gb286) (o := .cells #[.int .i64 t278, .slice Ao14 t279.length co14, .int .i64 t282, .int .i64 t283, .int .i64 t284] 24 (0, 0)) z40_ hb); replace BK299 := Aside0.mk (blk_below (g := gb299) (o := .cells #[.int .i64 t291, .slice Ao47 t292.length co47, .int .i64 t295, .int .i64 t296, .int .i64 t297] 24 (0, 0)) z17_ hb); replace HB := Aside0.mk (below_step z14_ hb); (try clear hb)))
         go_meet
         case rel => exact ⟨_, ((t298 != t276)), z5_, H', ⟨by have := HJ4.out; first | omega | exact Nat.le_refl _⟩, ⟨z51_⟩, ⟨z52_⟩, ⟨z97_⟩, ⟨z19_⟩, ⟨z28_⟩, ⟨z73_⟩, ⟨z14_⟩⟩
        ·replace c49 := Bool.eq_false_iff.mpr c49
         subst c49
         replace H := iff_ H
         have H' := Aside0.mk H
         clear H
         have hnb56 := NB299_277.out
         have hnc56 := NB277_299.out
         have hnb57 := NB299_286.out
         have hnc57 := NB286_299.out
         obtain ⟨hcz58_0, hcz58_1, hcz58_2, hcz58_3, hcz58_4, hfz58_0, hfz58_1, hfz58_2, hfz58_3, hfz58_4⟩ := bx5_ BK299.out
         have hnb59 := NB277_286.out
         have hnc59 := NB286_277.out
         obtain ⟨hcz60_0, hcz60_1, hcz60_2, hcz60_3, hcz60_4, hfz60_0, hfz60_1, hfz60_2, hfz60_3, hfz60_4⟩ := bx5_ BK277.out
         go_wp2_with (first | ((with_reducible refine gate_callee (f := 7) rfl ?_); refine goesL_ (some 51) rfl rfl Tryd.func7 (by kernel_rfl) rfl #[.agg #[.int .i64 t291, .slice Ao47 t292.length co47, .int .i64 t295, .int .i64 t296, .int .i64 t297], .agg #[.int .i64 t269, .slice Ao9 t270.length co9, .int .i64 t273, .int .i64 t274, .int .i64 t275]] rfl z1_ ?_; (with_reducible refine (laws_eqOp.calls kj4 t291 _ _ t292 t295 t296 t297 t269 _ _ t270 t273 t274 t275 false _ ?side1 ?side2 ?side3 ?side4 A48.out).mono ?_); (case side1 => exact z41_); (case side2 => exact (Kd.R_reads' HO294.out).2.1); (case side3 => exact z42_); (case side4 => exact (Kd.R_reads' HO_278001.out).2.1); rintro e w61 ⟨rfl, hb⟩; refine ⟨_, rfl, ?_⟩; replace HO_278001 := Aside0.mk (Kd.R_below z21_ hb); replace HO_287001 := Aside0.mk (Kd.R_below z54_ hb); replace HO294 := Aside0.mk (Kd.R_below z25_ hb); replace BK277 := Aside0.mk (blk_below (g := gb277) (o := .cells #[.int .i64 t269, .slice Ao9 t270.length co9, .int .i64 t273, .int .i64 t274, .int .i64 t275] 24 (0, 0)) z39_ hb); replace BK286 := Aside0.mk (blk_below (g := gb286) (o := .cells #[.int .i64 t278, .slice Ao14 t279.length co14, .int .i64 t282, .int .i64 t283, .int .i64 t284] 24 (0, 0)) z40_ hb); replace BK299 := Aside0.mk (blk_below (g := gb299) (o := .cells #[.int .i64 t291, .slice Ao47 t292.length co47, .int .i64 t295, .int .i64 t296, .int .i64 t297] 24 (0, 0)) z17_ hb); replace HB := Aside0.mk (below_step z14_ hb); (try clear hb)))
         go_meet
         case rel => exact ⟨_, (true), z5_, H', ⟨by have := HJ4.out; first | omega | exact Nat.le_refl _⟩, ⟨z51_⟩, ⟨z52_⟩, ⟨z97_⟩, ⟨z19_⟩, ⟨z28_⟩, ⟨z73_⟩, ⟨z14_⟩⟩
       case rest =>
        clear HC36
        try clear c1
        try clear c2
        try clear c2b0
        try clear c2b1
        try clear p2
        try clear c3
        try clear c4
        try clear c5
        try clear c6
        try clear c7
        try clear c8
        try clear c9
        try clear c12
        try clear c16
        try clear c17
        try clear c21
        try clear c25
        try clear c28
        try clear c28b0
        try clear c29
        try clear c34
        try clear c34b0
        try clear c34b1
        try clear c37
        try clear c44
        try clear c45
        try clear c49
        try clear c50
        try clear c51
        try clear c53
        try clear c56
        try clear c57
        try clear c59
        try clear hcz13_0
        try clear hcz13_1
        try clear hcz13_2
        try clear hcz13_3
        try clear hcz13_4
        try clear hcz18_0
        try clear hcz18_1
        try clear hcz18_2
        try clear hcz18_3
        try clear hcz18_4
        try clear hcz19_0
        try clear hcz19_1
        try clear hcz19_2
        try clear hcz19_3
        try clear hcz19_4
        try clear hcz22_0
        try clear hcz22_1
        try clear hcz22_2
        try clear hcz22_3
        try clear hcz22_4
        try clear hcz23_0
        try clear hcz23_1
        try clear hcz23_2
        try clear hcz23_3
        try clear hcz23_4
        try clear hcz30_0
        try clear hcz30_1
        try clear hcz30_2
        try clear hcz30_3
        try clear hcz30_4
        try clear hcz32_0
        try clear hcz32_1
        try clear hcz32_2
        try clear hcz32_3
        try clear hcz32_4
        try clear hcz38_0
        try clear hcz38_1
        try clear hcz38_2
        try clear hcz38_3
        try clear hcz38_4
        try clear hcz40_0
        try clear hcz40_1
        try clear hcz40_2
        try clear hcz40_3
        try clear hcz40_4
        try clear hcz46_0
        try clear hcz46_1
        try clear hcz46_2
        try clear hcz46_3
        try clear hcz46_4
        try clear hcz52_0
        try clear hcz52_1
        try clear hcz52_2
        try clear hcz52_3
        try clear hcz52_4
        try clear hcz54_0
        try clear hcz54_1
        try clear hcz54_2
        try clear hcz54_3
        try clear hcz54_4
        try clear hcz58_0
        try clear hcz58_1
        try clear hcz58_2
        try clear hcz58_3
        try clear hcz58_4
        try clear hcz60_0
        try clear hcz60_1
        try clear hcz60_2
        try clear hcz60_3
        try clear hcz60_4
        try clear hcz8_0
        try clear hcz8_1
        try clear hcz8_2
        try clear hcz8_3
        try clear hcz8_4
        try clear hfz13_0
        try clear hfz13_1
        try clear hfz13_2
        try clear hfz13_3
        try clear hfz13_4
        try clear hfz18_0
        try clear hfz18_1
        try clear hfz18_2
        try clear hfz18_3
        try clear hfz18_4
        try clear hfz19_0
        try clear hfz19_1
        try clear hfz19_2
        try clear hfz19_3
        try clear hfz19_4
        try clear hfz22_0
        try clear hfz22_1
        try clear hfz22_2
        try clear hfz22_3
        try clear hfz22_4
        try clear hfz23_0
        try clear hfz23_1
        try clear hfz23_2
        try clear hfz23_3
        try clear hfz23_4
        try clear hfz30_0
        try clear hfz30_1
        try clear hfz30_2
        try clear hfz30_3
        try clear hfz30_4
        try clear hfz32_0
        try clear hfz32_1
        try clear hfz32_2
        try clear hfz32_3
        try clear hfz32_4
        try clear hfz38_0
        try clear hfz38_1
        try clear hfz38_2
        try clear hfz38_3
        try clear hfz38_4
        try clear hfz40_0
        try clear hfz40_1
        try clear hfz40_2
        try clear hfz40_3
        try clear hfz40_4
        try clear hfz46_0
        try clear hfz46_1
        try clear hfz46_2
        try clear hfz46_3
        try clear hfz46_4
        try clear hfz52_0
        try clear hfz52_1
        try clear hfz52_2
        try clear hfz52_3
        try clear hfz52_4
        try clear hfz54_0
        try clear hfz54_1
        try clear hfz54_2
        try clear hfz54_3
        try clear hfz54_4
        try clear hfz58_0
        try clear hfz58_1
        try clear hfz58_2
        try clear hfz58_3
        try clear hfz58_4
        try clear hfz60_0
        try clear hfz60_1
        try clear hfz60_2
        try clear hfz60_3
        try clear hfz60_4
        try clear hfz8_0
        try clear hfz8_1
        try clear hfz8_2
        try clear hfz8_3
        try clear hfz8_4
        try clear p2
        obtain ⟨kq, x57_35, rfl, HA, HJ35, HO_278001, HO_287001, HO_300001, BK277, BK286, BK299, HB⟩ := hcut
        have hl287001_35 := (Kd.R_reads' HO_287001.out).1
        rw [hl287001_35] at HO_287001
        (try simp only [hl287001_35])
        (try simp only [hl287001_35] at BK277)
        (try simp only [hl287001_35] at BK286)
        (try simp only [hl287001_35] at BK299)
        (try simp only [hl287001_35] at HO_278001)
        (try simp only [hl287001_35] at HO_300001)
        cases kq with
        | zero => exact absurd HA.out (by simp [laws_FnExactReadOp.j1])
        | succ kj35 =>
         have H := HA.out
         clear HA
         simp only [laws_FnExactReadOp.j1] at H
         by_cases c62 : x57_35 = true
         ·subst c62
          replace H := ift_ H
          obtain rfl := Option.some.inj H
          go_wp2
          go_ret
          exact ⟨z2_, z14_⟩
         ·replace c62 := Bool.eq_false_iff.mpr c62
          subst c62
          replace H := iff_ H
          obtain ⟨t301, A63, H⟩ := bnd_ H
          by_cases c64 : t301 < 0
          ·rw [if_pos c64] at H
           have c64b0 := decide_eq_true c64
           clear c64
           obtain rfl := Option.some.inj H
           have hnb65 := NB286_277.out
           have hnc65 := NB277_286.out
           have hnb66 := NB286_299.out
           have hnc66 := NB299_286.out
           obtain ⟨hcz67_0, hcz67_1, hcz67_2, hcz67_3, hcz67_4, hfz67_0, hfz67_1, hfz67_2, hfz67_3, hfz67_4⟩ := bx5_ BK286.out
           go_wp2_with (first | ((with_reducible refine gate_callee (f := 9) rfl ?_); refine goesL_ (some 60) rfl rfl Tryd.func9 (by kernel_rfl) rfl #[.agg #[.int .i64 t278, .slice Ao14 t289.length co14, .int .i64 t282, .int .i64 t283, .int .i64 t284], .int .i64 1] rfl z1_ ?_; (with_reducible refine (laws_heldOp.calls kj35 t278 _ _ t289 t282 t283 t284 1 t301 _ ?side1 ?side2 A63.out).mono ?_); (case side1 => exact z56_); (case side2 => exact (Kd.R_reads' HO_287001.out).2.1); rintro e w68 ⟨rfl, hb⟩; refine ⟨_, rfl, ?_⟩; replace HO_278001 := Aside0.mk (Kd.R_below z51_ hb); replace HO_287001 := Aside0.mk (Kd.R_below z52_ hb); replace HO_300001 := Aside0.mk (Kd.R_below z91_ hb); replace BK277 := Aside0.mk (blk_below (g := gb277) (o := .cells #[.int .i64 t269, .slice Ao9 t270.length co9, .int .i64 t273, .int .i64 t274, .int .i64 t275] 24 (0, 0)) z19_ hb); replace BK286 := Aside0.mk (blk_below (g := gb286) (o := .cells #[.int .i64 t278, .slice Ao14 t289.length co14, .int .i64 t282, .int .i64 t283, .int .i64 t284] 24 (0, 0)) z28_ hb); replace BK299 := Aside0.mk (blk_below (g := gb299) (o := .cells #[.int .i64 t291, .slice Ao47 t292.length co47, .int .i64 t295, .int .i64 t296, .int .i64 t297] 24 (0, 0)) z73_ hb); replace HB := Aside0.mk (below_step z14_ hb); (try clear hb)))
           go_ret
           exact ⟨z2_, z14_⟩
          ·rw [if_neg c64] at H
           have c64b0 := decide_eq_false c64
           clear c64
           by_cases c69 : t301 = t288
           ·rw [if_pos c69] at H
            have c69b0 : (t301 == t288) = true := beq_iff_eq.mpr c69
            have c69b1 : (t301 != t288) = false := bne_eq_false_iff_eq.mpr c69
            clear c69
            obtain rfl := Option.some.inj H
            have hnb70 := NB286_277.out
            have hnc70 := NB277_286.out
            have hnb71 := NB286_299.out
            have hnc71 := NB299_286.out
            obtain ⟨hcz72_0, hcz72_1, hcz72_2, hcz72_3, hcz72_4, hfz72_0, hfz72_1, hfz72_2, hfz72_3, hfz72_4⟩ := bx5_ BK286.out
            go_wp2_with (first | ((with_reducible refine gate_callee (f := 9) rfl ?_); refine goesL_ (some 60) rfl rfl Tryd.func9 (by kernel_rfl) rfl #[.agg #[.int .i64 t278, .slice Ao14 t289.length co14, .int .i64 t282, .int .i64 t283, .int .i64 t284], .int .i64 1] rfl z1_ ?_; (with_reducible refine (laws_heldOp.calls kj35 t278 _ _ t289 t282 t283 t284 1 t301 _ ?side1 ?side2 A63.out).mono ?_); (case side1 => exact z56_); (case side2 => exact (Kd.R_reads' HO_287001.out).2.1); rintro e w73 ⟨rfl, hb⟩; refine ⟨_, rfl, ?_⟩; replace HO_278001 := Aside0.mk (Kd.R_below z51_ hb); replace HO_287001 := Aside0.mk (Kd.R_below z52_ hb); replace HO_300001 := Aside0.mk (Kd.R_below z91_ hb); replace BK277 := Aside0.mk (blk_below (g := gb277) (o := .cells #[.int .i64 t269, .slice Ao9 t270.length co9, .int .i64 t273, .int .i64 t274, .int .i64 t275] 24 (0, 0)) z19_ hb); replace BK286 := Aside0.mk (blk_below (g := gb286) (o := .cells #[.int .i64 t278, .slice Ao14 t289.length co14, .int .i64 t282, .int .i64 t283, .int .i64 t284] 24 (0, 0)) z28_ hb); replace BK299 := Aside0.mk (blk_below (g := gb299) (o := .cells #[.int .i64 t291, .slice Ao47 t292.length co47, .int .i64 t295, .int .i64 t296, .int .i64 t297] 24 (0, 0)) z73_ hb); replace HB := Aside0.mk (below_step z14_ hb); (try clear hb)))
            go_ret
            exact ⟨z2_, z14_⟩
           ·rw [if_neg c69] at H
            have c69b0 : (t301 == t288) = false := beq_eq_false_iff_ne.mpr c69
            have c69b1 : (t301 != t288) = true := bne_iff_ne.mpr c69
            obtain rfl := Option.some.inj H
            have hnb74 := NB286_277.out
            have hnc74 := NB277_286.out
            have hnb75 := NB286_299.out
            have hnc75 := NB299_286.out
            obtain ⟨hcz76_0, hcz76_1, hcz76_2, hcz76_3, hcz76_4, hfz76_0, hfz76_1, hfz76_2, hfz76_3, hfz76_4⟩ := bx5_ BK286.out
            go_wp2_with (first | ((with_reducible refine gate_callee (f := 9) rfl ?_); refine goesL_ (some 60) rfl rfl Tryd.func9 (by kernel_rfl) rfl #[.agg #[.int .i64 t278, .slice Ao14 t289.length co14, .int .i64 t282, .int .i64 t283, .int .i64 t284], .int .i64 1] rfl z1_ ?_; (with_reducible refine (laws_heldOp.calls kj35 t278 _ _ t289 t282 t283 t284 1 t301 _ ?side1 ?side2 A63.out).mono ?_); (case side1 => exact z56_); (case side2 => exact (Kd.R_reads' HO_287001.out).2.1); rintro e w77 ⟨rfl, hb⟩; refine ⟨_, rfl, ?_⟩; replace HO_278001 := Aside0.mk (Kd.R_below z51_ hb); replace HO_287001 := Aside0.mk (Kd.R_below z52_ hb); replace HO_300001 := Aside0.mk (Kd.R_below z91_ hb); replace BK277 := Aside0.mk (blk_below (g := gb277) (o := .cells #[.int .i64 t269, .slice Ao9 t270.length co9, .int .i64 t273, .int .i64 t274, .int .i64 t275] 24 (0, 0)) z19_ hb); replace BK286 := Aside0.mk (blk_below (g := gb286) (o := .cells #[.int .i64 t278, .slice Ao14 t289.length co14, .int .i64 t282, .int .i64 t283, .int .i64 t284] 24 (0, 0)) z28_ hb); replace BK299 := Aside0.mk (blk_below (g := gb299) (o := .cells #[.int .i64 t291, .slice Ao47 t292.length co47, .int .i64 t295, .int .i64 t296, .int .i64 t297] 24 (0, 0)) z73_ hb); replace HB := Aside0.mk (below_step z14_ hb); (try clear hb)))
            go_ret
            exact ⟨z2_, z14_⟩
      ·rw [if_neg c34] at H
       have c34b0 : (t290 == t288) = false := beq_eq_false_iff_ne.mpr c34
       have c34b1 : (t290 != t288) = true := bne_iff_ne.mpr c34
       obtain rfl := Option.some.inj H
       have hnb78 := NB286_277.out
       have hnc78 := NB277_286.out
       obtain ⟨hcz79_0, hcz79_1, hcz79_2, hcz79_3, hcz79_4, hfz79_0, hfz79_1, hfz79_2, hfz79_3, hfz79_4⟩ := bx5_ BK286.out
       go_wp2_with (first | ((with_reducible refine gate_callee (f := 8) rfl ?_); refine goesL_ (some 35) rfl rfl Tryd.func8 (by kernel_rfl) rfl #[.agg #[.int .i64 t278, .slice Ao14 t279.length co14, .int .i64 t282, .int .i64 t283, .int .i64 t284], .int .i64 1] rfl z1_ ?_; (with_reducible refine (laws_markOp.calls kj4 t278 (fun k_ => some k_ = (.slice Ao14 t279.length co14 : Value).ownBlock) (.slice Ao14 t279.length co14) t279 t282 t283 t284 1 t288 t289 w _ ?side1 ?side2 A26.out).mono ?_); (case side1 => exact z7_); (case side2 => exact Kd.R_tight rfl HO_287001.out); rintro e w80 ⟨rfl, hy0, hb, hkp⟩; refine ⟨_, rfl, ?_⟩; replace HO_278001 := Aside0.mk (Kd.R_mono (ok' := fun k_ => some k_ ≠ (.slice Ao14 t279.length co14 : Value).ownBlock) (Kd.R_keptB (HO_278001.out) hkp (fun k_ hk_ hs_ => (hk_) hs_)) (fun k_ hk_ => hk_.1)); replace BK277 := Aside0.mk (blk_kept z19_ hkp (fun hs_ => (fun e_ => (Kd.R_ne HO_287001.out BK277.out (by decide)) e_) hs_)); replace BK286 := Aside0.mk (blk_kept z28_ hkp (fun hs_ => (fun e_ => (Kd.R_ne HO_287001.out BK286.out (by decide)) e_) hs_)); replace HO_287001 := Aside0.mk (Kd.R_reok rfl hy0 (fun k_ e_ => HO_287001.out.1 k_ e_)); replace HB := Aside0.mk (hb); (try clear hb hkp hy0); obtain ⟨hcz81_0, hcz81_1, hcz81_2, hcz81_3, hcz81_4, hfz81_0, hfz81_1, hfz81_2, hfz81_3, hfz81_4⟩ := bx5_ BK286.out) | ((with_reducible refine gate_callee (f := 9) rfl ?_); refine goesL_ (some 38) rfl rfl Tryd.func9 (by kernel_rfl) rfl #[.agg #[.int .i64 t278, .slice Ao14 t289.length co14, .int .i64 t282, .int .i64 t283, .int .i64 t284], .int .i64 1] rfl z69_ ?_; (with_reducible refine (laws_heldOp.calls kj4 t278 _ _ t289 t282 t283 t284 1 t290 _ ?side1 ?side2 A27.out).mono ?_); (case side1 => exact z56_); (case side2 => exact z87_); rintro e w82 ⟨rfl, hb⟩; refine ⟨_, rfl, ?_⟩; replace HO_278001 := Aside0.mk (Kd.R_below z51_ hb); replace HO_287001 := Aside0.mk (Kd.R_below z52_ hb); replace BK277 := Aside0.mk (blk_below (g := gb277) (o := .cells #[.int .i64 t269, .slice Ao9 t270.length co9, .int .i64 t273, .int .i64 t274, .int .i64 t275] 24 (0, 0)) z19_ hb); replace BK286 := Aside0.mk (blk_below (g := gb286) (o := .cells #[.int .i64 t278, .slice Ao14 t279.length co14, .int .i64 t282, .int .i64 t283, .int .i64 t284] 24 (0, 0)) z28_ hb); replace HB := Aside0.mk (below_step z7_ hb); (try clear hb)))
       go_ret
       exact ⟨z2_, z7_⟩

/-- THE ONE PURE STATEMENT of laws_FnExactReadOp: yours. -/
def laws_FnExactReadOp.Pure : Prop := ∀ (a0 : ByteArray), a0.size ≤ 140737488351232 → ∃ k, laws_FnExactReadOp.f k a0 = some true
theorem laws_FnExactReadOp.walk (P : laws_FnExactReadOp.Pure) (a0 : ByteArray) (w : World) (hL : Laid w) (w0 : a0.size ≤ 140737488351232) :
  Calls Tryd.prog 3 #[.string a0] w fun e w' => e = .returned (.bool true) ∧ Below w.heap.size w w' := by
 obtain ⟨k, h⟩ := P a0 w0
 refine (laws_FnExactReadOp.calls k a0 true w hL h).mono ?_
 rintro e w' ⟨rfl, hd⟩
 exact ⟨rfl, hd⟩

end Go.Proofs.YtlfmlagdnebkiaaDoor.PFnExactReadOp
