/- Laid by a program of this session out of the kit's print for the law FnExactPatch: what it says of the machine is proved here, function by function; each contract under the conditions that it names. -/
import Derived.Test.YtbiffnahknkoiaaMFnExactPatchx0
import Derived.Test.YtbiffnahknkoiaaMFnExactPatchx10
namespace Go.Proofs.Ytbiffnahknkoiaa.PFnExactPatch
open Go.RowKit Go.Proofs.YtbiffnahknkoiaaW.PrintWords Go.Proofs.YtbiffnahknkoiaaW.PrintLast Go.Proofs.YtbiffnahknkoiaaW.PrintMore
attribute [local go_sem] max2_int min2_int max_two min_two max_three min_three max_four min_four   -- for this text's walks alone
set_option linter.unusedVariables false
set_option linter.unusedSimpArgs false

/-! ### impl_GetScript: function 34 -/
def impl_mkscript.f (a0 : ByteArray) : Option (ByteArray × Int) := some (a0, 0)
mutual
def impl_GetScript.l0 : Nat → List (S100) → Int → Int → ByteArray → Int → Option ((List (S100)) × Int)
 | 0, _, _, _, _, _ => none
 | k + 1, x5, x12, x13, x405000, x405001 => if x13 < x12 then ((impl_script_number.f k x405000 x405001 1 3 3).bind fun bt411 => ((impl_script_number.f k bt411.2.1 bt411.2.2 0 12 4).bind fun bt415 => (impl_GetScript.l1 k x5 x12 x13 bt415.1 0 bt415.2.1 bt415.2.2 bt411.1 ([] : List Int) 0 0 0))) else (if x405001 = 0 then (impl_GetScript.j3 k x5 (x405000.toList != ([] : List UInt8)) x405000 x405001) else (impl_GetScript.j3 k x5 false x405000 x405001))
def impl_GetScript.l1 : Nat → List (S100) → Int → Int → Int → Int → ByteArray → Int → Int → List Int → Int → Int → Int → Option ((List (S100)) × Int)
 | 0, _, _, _, _, _, _, _, _, _, _, _, _ => none
 | k + 1, x5, x12, x13, x19, x20, x405000, x405001, x415000, x415001, x415002, x415003, x415004 => if x20 < x19 then ((impl_script_number.f k x405000 x405001 0 24 4).bind fun bt418 => (if x415001.length < 17592186044416 then (impl_GetScript.l1 k x5 x12 x13 x19 (wrap64 (x20 + 1)) bt418.2.1 bt418.2.2 x415000 (x415001 ++ [bt418.1]) x415002 x415003 x415004) else (none))) else (if x415000 = 2 then (impl_GetScript.j2 k x5 x12 x13 x405000 x405001 x415000 x415001 x415002 x415003 x415004) else ((impl_script_number.f k x405000 x405001 0 5 5).bind fun bt424 => (impl_GetScript.j2 k x5 x12 x13 bt424.2.1 bt424.2.2 x415000 x415001 bt424.1 x415003 x415004)))
def impl_GetScript.j2 : Nat → List (S100) → Int → Int → ByteArray → Int → Int → List Int → Int → Int → Int → Option ((List (S100)) × Int)
 | 0, _, _, _, _, _, _, _, _, _, _ => none
 | k + 1, x5, x12, x13, x405000, x405001, x415000, x415001, x415002, x415003, x415004 => if x415000 = 3 then ((impl_script_number.f k x405000 x405001 0 24 6).bind fun bt427 => ((impl_script_number.f k bt427.2.1 bt427.2.2 0 24 6).bind fun bt430 => (if x5.length < 2513169434916 then (impl_GetScript.l0 k (x5 ++ [(⟨x415000, x415001, x415002, bt427.1, bt430.1⟩ : S100)]) x12 (wrap64 (x13 + 1)) bt430.2.1 bt430.2.2) else (none)))) else (if x5.length < 2513169434916 then (impl_GetScript.l0 k (x5 ++ [(⟨x415000, x415001, x415002, x415003, x415004⟩ : S100)]) x12 (wrap64 (x13 + 1)) x405000 x405001) else (none))
def impl_GetScript.j3 : Nat → List (S100) → Bool → ByteArray → Int → Option ((List (S100)) × Int)
 | 0, _, _, _, _ => none
 | k + 1, x5, x61, x405000, x405001 => if x61 = true then (if 7 = 0 then (some (x5, 0)) else (some ((([] : List (S100))), 7))) else (if x405001 = 0 then (some (x5, 0)) else (some ((([] : List (S100))), x405001)))
end
def impl_GetScript.f (k : Nat) (a0 : ByteArray) : Option ((List (S100)) × Int) := (impl_mkscript.f a0).bind fun bt402 => ((impl_script_number.f k bt402.1 bt402.2 0 60 2).bind fun bt408 => (impl_GetScript.l0 k (([] : List (S100))) bt408.1 0 bt408.2.1 bt408.2.2))
set_option maxHeartbeats 8000000 in
set_option maxRecDepth 100000 in
theorem impl_GetScript.calls (k : Nat) (a0 : ByteArray) (r1 : List (S100)) (r2 : Int) (w : World) (h : impl_GetScript.f k a0 = some (r1, r2)) :
  Calls Try.prog 34 #[.string a0] w fun e w' => ∃ v0_ : Value, e = .returned (.tuple #[v0_, .int .i64 r2]) ∧ Kd.S k100 100 w' w.heap.size (fun _ => True) v0_ r1 ∧ Below w.heap.size w w' := by
 have hu100 := Try.underlying100
 have hu109 := Try.underlying109
 have HB := Aside0.mk (Below.refl w.heap.size w)
 have H : ((impl_mkscript.f a0).bind fun bt402 => ((impl_script_number.f k bt402.1 bt402.2 0 60 2).bind fun bt408 => (impl_GetScript.l0 k (([] : List (S100))) bt408.1 0 bt408.2.1 bt408.2.2))) = some (r1, r2) := h
 clear h
 replace H := Option.bind_eq_some_iff.mp H
 obtain ⟨⟨t402, t403⟩, A20, H⟩ := H
 try dsimp only at H
 have A2 := Aside0.mk A20
 clear A20
 first | ((with_reducible have hz_ := gy_ H); obtain ⟨y405, Ny405, H⟩ := hz_) | (generalize hy_ : ((([] : List (S100))) : List (S100)) = y405 at H; have Ny405 := Aside0.mk hy_.symm; clear hy_)
 replace H := Option.bind_eq_some_iff.mp H
 obtain ⟨⟨t408, t409, t410⟩, A30, H⟩ := H
 try dsimp only at H
 have A3 := Aside0.mk A30
 clear A30
 have H' := Aside0.mk H
 clear H
 go_enter Try.func34, Try.ntmps34
 go_wp2_with (first | ((with_reducible refine gate_dst (N := 9) rfl ?_); refine box_event ?hg (N := 9) ?hd (cs := #[.string a0, .int .i64 0]) (t := 109) ?hr ?_; (case hd => rfl); (case hg => rfl); (case hr => exact z10_); intro g404 hg w4 hbox hb2; have hb := below_step HB.out hb2; have hi : IsS109 w w4 g404 t402 t403 := (by have e_ := A2.out; simp only [impl_mkscript.f, Option.some.injEq, Prod.mk.injEq] at e_; rw [← e_.1, ← e_.2]; exact ⟨hbox, by rw [hg]; exact below_size HB.out⟩); clear hbox hg; replace HB := Aside0.mk (hb); have HI404 := Aside0.mk (hi); (try clear hb); (try clear hb2); (try clear hk); (try clear hi)) | ((with_reducible refine gate_dst (N := 10) rfl ?_); refine Kd.S_lit k100 _ 100 ?hg (N := 10) ?hd (xs := ([] : List (S100))) (inner := []) (ok := fun _ => True) (okp := fun _ => True) ?hr ?hp (fun _ hk => hk) trivial (Below.refl _ _) (Nat.le_refl _) (by simp) ?_; (case hd => rfl); (case hg => rfl); (case hr => exact z10_); (case hp => exact z75_); intro v406 w5 ho6 hb hg_ hnew_; clear hg_ hnew_; (first | rw [← Ny405.out] at ho6 | (simp only [Int.reduceToNat] at ho6; rw [← Ny405.out] at ho6)); have HO407 := Aside0.mk (Kd.S_lower ho6 (below_size z29_)); replace HB := Aside0.mk (below_step z29_ hb); replace HI404 := Aside0.mk (IsS109.below z47_ hb); clear hb ho6) | ((with_reducible refine gate_callee (f := 69) rfl ?_); refine goesL_ (some 12) rfl rfl Try.func69 (by kernel_rfl) rfl #[.pointer (some ⟨g404, 0, none⟩), .int .i64 0, .int .i64 60, .int .i64 2] rfl z1_ ?_; (with_reducible refine (impl_script_number.calls k g404 t402 t403 0 60 2 t408 t409 t410 w _ ?side1 ?side2 A3.out).mono ?_); (case side1 => exact z47_); (case side2 => exact z29_); rintro e w7 ⟨rfl, hi, hb, hk⟩; refine ⟨_, rfl, ?_⟩; replace HO407 := Aside0.mk (Kd.S_mono (Kd.S_keep (IsS109.apartS (show IsS109 w _ g404 t402 t403 from by repeat (first | (with_reducible first | exact HI404.out | apply IsS109.alloc | apply IsS109.drewN | apply IsS109.drew | apply IsS109.set_0 | apply IsS109.set_1) | exact HI404.out)) z145_ (by decide)) hk (fun _ h => h.2)) (fun _ h => h.1)); replace HB := Aside0.mk (hb); replace HI404 := Aside0.mk (hi); (try clear hb hk hi)))
 go_loopg [5, 13] k (fun kq v5 v13 w' => ∃ (x5_1 : List (S100)) (x13_1 : Int) (x405000_1 : ByteArray) (x405001_1 : Int), v13 = .int .i64 x13_1 ∧ Aside0 (impl_GetScript.l0 kq x5_1 t408 x13_1 x405000_1 x405001_1 = some (r1, r2)) ∧ Aside0 (kq ≤ k) ∧ Aside0 (Kd.S k100 100 w' w.heap.size (fun _ => True) v5 x5_1) ∧ Aside0 (IsS109 w w' g404 x405000_1 x405001_1) ∧ Aside0 (Below w.heap.size w w'))
 case atStart => exact ⟨(y405), (0), (t409), (t410), z8_, H', ⟨Nat.le_refl _⟩, ⟨z145_⟩, ⟨z47_⟩, ⟨z29_⟩⟩
 case round =>
  clear H'
  try clear c1
  try clear p2
  try clear c3
  try clear c6
  obtain ⟨x5_1, x13_1, x405000_1, x405001_1, rfl, HA, HK1, HO_5, HI404, HB⟩ := hrel
  cases gk with
  | zero => exact absurd HA.out (by simp [impl_GetScript.l0])
  | succ k1 =>
   have H := HA.out
   clear HA
   simp only [impl_GetScript.l0] at H
   by_cases c8 : x13_1 < t408
   ·rw [if_pos c8] at H
    have c8b0 := decide_eq_true c8
    clear c8
    replace H := Option.bind_eq_some_iff.mp H
    obtain ⟨⟨t411, t412, t413⟩, A90, H⟩ := H
    try dsimp only at H
    have A9 := Aside0.mk A90
    clear A90
    replace H := Option.bind_eq_some_iff.mp H
    obtain ⟨⟨t415, t416, t417⟩, A100, H⟩ := H
    try dsimp only at H
    have A10 := Aside0.mk A100
    clear A100
    have H' := Aside0.mk H
    clear H
    go_wp2_with (first | ((with_reducible refine gate_callee (f := 69) rfl ?_); refine goesL_ (some 16) rfl rfl Try.func69 (by kernel_rfl) rfl #[.pointer (some ⟨g404, 0, none⟩), .int .i64 1, .int .i64 3, .int .i64 3] rfl z1_ ?_; (with_reducible refine (impl_script_number.calls k1 g404 x405000_1 x405001_1 1 3 3 t411 t412 t413 w _ ?side1 ?side2 A9.out).mono ?_); (case side1 => exact z47_); (case side2 => exact z29_); rintro e w11 ⟨rfl, hi, hb, hk⟩; refine ⟨_, rfl, ?_⟩; replace HO_5 := Aside0.mk (Kd.S_mono (Kd.S_keep (IsS109.apartS (show IsS109 w _ g404 x405000_1 x405001_1 from by repeat (first | (with_reducible first | exact HI404.out | apply IsS109.alloc | apply IsS109.drewN | apply IsS109.drew | apply IsS109.set_0 | apply IsS109.set_1) | exact HI404.out)) z41_ (by decide)) hk (fun _ h => h.2)) (fun _ h => h.1)); replace HB := Aside0.mk (hb); replace HI404 := Aside0.mk (hi); (try clear hb hk hi)) | ((with_reducible refine gate_dst (N := 6) rfl ?_); refine box_event ?hg (N := 6) ?hd (cs := #[.int .i64 0, .slice none 0 0, .int .i64 0, .int .i64 0, .int .i64 0]) (t := 100) ?hr ?_; (case hd => rfl); (case hg => rfl); (case hr => exact z10_); intro gb414 hg w12 hbox hb; replace HO_5 := Aside0.mk (Kd.S_below (Kd.S_elderB z41_ gb414 (Nat.le_of_eq hg.symm)) hb); have BK414 := Aside0.mk (hbox); have GW414 := Aside0.mk ((by rw [hg]; exact (below_size z29_) : w.heap.size ≤ gb414)); have GE414 := Aside0.mk ((by rw [hg]; exact (below_size z29_) : w.heap.size ≤ gb414)); replace HB := Aside0.mk (below_step z29_ hb); have NB404_414 := Aside0.mk ((by rw [hg]; exact Nat.ne_of_lt (IsS109.lt (show IsS109 w _ g404 t412 t413 from by repeat (first | (with_reducible first | exact HI404.out | apply IsS109.alloc | apply IsS109.drewN | apply IsS109.drew | apply IsS109.set_0 | apply IsS109.set_1) | exact HI404.out))) : g404 ≠ gb414)); have NB414_404 := Aside0.mk ((by rw [hg]; exact Nat.ne_of_gt (IsS109.lt (show IsS109 w _ g404 t412 t413 from by repeat (first | (with_reducible first | exact HI404.out | apply IsS109.alloc | apply IsS109.drewN | apply IsS109.drew | apply IsS109.set_0 | apply IsS109.set_1) | exact HI404.out))) : gb414 ≠ g404)); replace HI404 := Aside0.mk (IsS109.below z47_ hb); clear hb hbox hg; have hnb13 := NB414_404.out; have hnc13 := NB404_414.out; obtain ⟨hcz14_0, hcz14_1, hcz14_2, hcz14_3, hcz14_4, hfz14_0, hfz14_1, hfz14_2, hfz14_3, hfz14_4⟩ := bx5_ BK414.out) | ((with_reducible refine gate_callee (f := 69) rfl ?_); refine goesL_ (some 19) rfl rfl Try.func69 (by kernel_rfl) rfl #[.pointer (some ⟨g404, 0, none⟩), .int .i64 0, .int .i64 12, .int .i64 4] rfl z1_ ?_; (with_reducible refine (impl_script_number.calls k1 g404 t412 t413 0 12 4 t415 t416 t417 w _ ?side1 ?side2 A10.out).mono ?_); (case side1 => exact z25_); (case side2 => exact z20_); rintro e w15 ⟨rfl, hi, hb, hk⟩; refine ⟨_, rfl, ?_⟩; replace HO_5 := Aside0.mk (Kd.S_mono (Kd.S_keep (IsS109.apartS (show IsS109 w _ g404 t412 t413 from by repeat (first | (with_reducible first | exact HI404.out | apply IsS109.alloc | apply IsS109.drewN | apply IsS109.drew | apply IsS109.set_0 | apply IsS109.set_1 | refine IsS109.far ?_ NB404_414.out _) | exact HI404.out)) (by (with_reducible repeat (first | apply Kd.S_alloc | apply Kd.S_drewN | apply Kd.S_drew)); exact (Kd.S_mono (Kd.S_far (p := ⟨gb414, 4, none⟩) (Kd.S_far (p := ⟨gb414, 3, none⟩) (Kd.S_far (p := ⟨gb414, 2, none⟩) (Kd.S_far (p := ⟨gb414, 1, none⟩) (Kd.S_far (p := ⟨gb414, 0, none⟩) (Kd.S_mono HO_5.out (fun k_ hk => (⟨hk, hk.2⟩ : _ ∧ k_ ≠ gb414))) (fun _ hk => hk.2) (.int .i64 t411)) (fun _ hk => hk.2) (.slice none 0 0)) (fun _ hk => hk.2) (.int .i64 0)) (fun _ hk => hk.2) (.int .i64 0)) (fun _ hk => hk.2) (.int .i64 0)) (fun _ h_ => h_.1))) (by decide)) hk (fun _ h => h.2)) (fun _ h => h.1)); replace BK414 := Aside0.mk (KeepBut.blk hk (g' := gb414) (o := .cells #[.int .i64 t411, .slice none 0 0, .int .i64 0, .int .i64 0, .int .i64 0] 100 (0, 0)) (by (with_reducible repeat (first | refine blk_drewN ?_ _ | refine blk_drew ?_ | refine blk_alloc ?_ _)); refine blk_put (cs := #[.int .i64 t411, .slice none 0 0, .int .i64 0, .int .i64 0, .int .i64 0]) ?_ 4 _ rfl; (with_reducible repeat (first | refine blk_drewN ?_ _ | refine blk_drew ?_ | refine blk_alloc ?_ _)); refine blk_put (cs := #[.int .i64 t411, .slice none 0 0, .int .i64 0, .int .i64 0, .int .i64 0]) ?_ 3 _ rfl; (with_reducible repeat (first | refine blk_drewN ?_ _ | refine blk_drew ?_ | refine blk_alloc ?_ _)); refine blk_put (cs := #[.int .i64 t411, .slice none 0 0, .int .i64 0, .int .i64 0, .int .i64 0]) ?_ 2 _ rfl; (with_reducible repeat (first | refine blk_drewN ?_ _ | refine blk_drew ?_ | refine blk_alloc ?_ _)); refine blk_put (cs := #[.int .i64 t411, .slice none 0 0, .int .i64 0, .int .i64 0, .int .i64 0]) ?_ 1 _ rfl; (with_reducible repeat (first | refine blk_drewN ?_ _ | refine blk_drew ?_ | refine blk_alloc ?_ _)); refine blk_put (cs := #[.int .i64 0, .slice none 0 0, .int .i64 0, .int .i64 0, .int .i64 0]) ?_ 0 _ rfl; (with_reducible repeat (first | refine blk_drewN ?_ _ | refine blk_drew ?_ | refine blk_alloc ?_ _)); exact BK414.out) NB414_404.out (by simp)); replace HB := Aside0.mk (hb); replace HI404 := Aside0.mk (hi); (try clear hb hk hi)))
    go_loopg [20] k1 (fun kq v20 w' => ∃ (x20_2 : Int) (x405000_2 : ByteArray) (x405001_2 : Int) (x415001_2 : List Int) (u415001 : Value), v20 = .int .i64 x20_2 ∧ Aside0 (impl_GetScript.l1 kq x5_1 t408 x13_1 t415 x20_2 x405000_2 x405001_2 t411 x415001_2 0 0 0 = some (r1, r2)) ∧ Aside0 (kq ≤ k1) ∧ Aside0 (Kd.S k100 100 w' w.heap.size (fun k_ => some k_ ≠ (u415001 : Value).ownBlock ∧ k_ ≠ gb414) u5 x5_1) ∧ Aside0 (Kd.R (Kd.int .i64) 3 w' w.heap.size (fun _ => True) u415001 x415001_2) ∧ Aside0 (w'.heap[gb414]? = some (.cells #[.int .i64 t411, u415001, .int .i64 0, .int .i64 0, .int .i64 0] 100 (0, 0))) ∧ Aside0 (IsS109 w w' g404 x405000_2 x405001_2) ∧ Aside0 (Below w.heap.size w w'))
    case atStart => exact ⟨(0), (t416), (t417), (([] : List Int)), (.slice none 0 0), z8_, H', ⟨Nat.le_refl _⟩, ⟨by (with_reducible repeat (first | apply Kd.S_alloc | apply Kd.S_drewN | apply Kd.S_drew)); exact Kd.S_mono HO_5.out (fun _ hk => ⟨(by simp [Value.ownBlock]), hk.2⟩)⟩, ⟨z130_⟩, ⟨z57_⟩, ⟨z25_⟩, ⟨z20_⟩⟩
    case round =>
     clear H'
     try clear c1
     try clear p2
     try clear c3
     try clear c6
     try clear c8
     try clear c8b0
     try clear c12
     try clear c13
     try clear hcz14_0
     try clear hcz14_1
     try clear hcz14_2
     try clear hcz14_3
     try clear hcz14_4
     try clear hfz14_0
     try clear hfz14_1
     try clear hfz14_2
     try clear hfz14_3
     try clear hfz14_4
     try clear p2
     obtain ⟨x20_2, x405000_2, x405001_2, x415001_2, u415001, rfl, HA, HK2, HO_5, HO_415001, BK414, HI404, HB⟩ := hrel
     cases gk with
     | zero => exact absurd HA.out (by simp [impl_GetScript.l1])
     | succ k2 =>
      have H := HA.out
      clear HA
      simp only [impl_GetScript.l1] at H
      by_cases c16 : x20_2 < t415
      ·rw [if_pos c16] at H
       have c16b0 := decide_eq_true c16
       clear c16
       replace H := Option.bind_eq_some_iff.mp H
       obtain ⟨⟨t418, t419, t420⟩, A170, H⟩ := H
       try dsimp only at H
       have A17 := Aside0.mk A170
       clear A170
       obtain ⟨c18, H⟩ := ifs_ H
       have LMc18 := Aside0.mk c18
       clear c18
       first | ((with_reducible have hz_ := gy_ H); obtain ⟨y421, Ny421, H⟩ := hz_) | (generalize hy_ : ((x415001_2 ++ [t418]) : List Int) = y421 at H; have Ny421 := Aside0.mk hy_.symm; clear hy_)
       have H' := Aside0.mk H
       clear H
       have hnb19 := NB414_404.out
       have hnc19 := NB404_414.out
       obtain ⟨hcz20_0, hcz20_1, hcz20_2, hcz20_3, hcz20_4, hfz20_0, hfz20_1, hfz20_2, hfz20_3, hfz20_4⟩ := bx5_ BK414.out
       go_upto_region 7 with (fail)
       refine start_ (n := 8) (S := fun w' => w'.cell? ⟨gb414, 1, none⟩ = some (u415001)) (ds := [7]) (fl_ 8 0) (by kernel_rfl) rfl (fl_zero _) ((blk_cell BK414.out 1).trans rfl) (fun hHeld => ?_)
       refine pure_ (i := 0) (N := some 22) (v := ?_) (a' := ?_) #[true, false, false, false, false, false, false, false] rfl rfl (by kernel_rfl) (fun _ _ _ h => h) (Or.inl ⟨by rfl, ?_⟩) ?_ ?_
       rotate_left
       ·intro w'
        go_simp
        with_reducible rfl
       rotate_left
       ·simp only [Act.put, List.setIfInBounds_toArray, List.set_cons_zero, List.set_cons_succ, i64_w, i32_w]
        rfl
       refine pure_ (i := 2) (N := some 24) (v := ?_) (a' := ?_) #[true, false, true, false, false, false, false, false] rfl rfl (by kernel_rfl) (fun _ _ _ h => h) (Or.inl ⟨by rfl, ?_⟩) ?_ ?_
       rotate_left
       ·intro w'
        go_simp
        with_reducible rfl
       rotate_left
       ·simp only [Act.put, List.setIfInBounds_toArray, List.set_cons_zero, List.set_cons_succ, i64_w, i32_w]
        rfl
       refine take_ (i := 1) (N := some 23) (v := ?_) (a' := ?_) #[true, true, true, false, false, false, false, false] rfl rfl (by kernel_rfl) (fun _ _ _ h => h) (Or.inl ⟨by rfl, ?_⟩) hHeld ?_ ?_
       rotate_left
       ·intro w' s0
        go_simp
        with_reducible rfl
       rotate_left
       ·simp only [Act.put, List.setIfInBounds_toArray, List.set_cons_zero, List.set_cons_succ, i64_w, i32_w]
        rfl
       refine one_ (i := 3) (N := some 25) (fl_ 8 4) rfl rfl (by kernel_rfl) (by decide) (fun K hK => ?_)
       refine goes_ Try.func69 (by kernel_rfl) rfl #[.pointer (some ⟨g404, 0, none⟩), .int .i64 0, .int .i64 24, .int .i64 4] (by rfl) rfl rfl z1_ ?_
       (with_reducible refine (impl_script_number.calls k2 g404 x405000_2 x405001_2 0 24 4 t418 t419 t420 w _ ?side1 ?side2 A17.out).mono ?_)
       (case side1 => exact z25_)
       (case side2 => exact z20_)
       rintro e w21 ⟨rfl, hi, hb, hk⟩
       refine ⟨_, rfl, ?_⟩
       have n0_ := Aside0.mk (Kd.S_mono (Kd.S_keep (IsS109.apartS (show IsS109 w _ g404 x405000_2 x405001_2 from by repeat (first | (with_reducible first | exact HI404.out | apply IsS109.alloc | apply IsS109.drewN | apply IsS109.drew | apply IsS109.set_0 | apply IsS109.set_1 | refine IsS109.far ?_ NB404_414.out _) | exact HI404.out)) z41_ (by decide)) hk (fun _ h => h.2)) (fun _ h => h.1))
       have n1_ := Aside0.mk (Kd.R_mono (Kd.R_keep (IsS109.apart (show IsS109 w _ g404 x405000_2 x405001_2 from by repeat (first | (with_reducible first | exact HI404.out | apply IsS109.alloc | apply IsS109.drewN | apply IsS109.drew | apply IsS109.set_0 | apply IsS109.set_1 | refine IsS109.far ?_ NB404_414.out _) | exact HI404.out)) z91_ (by decide)) hk (fun _ h => h.2)) (fun _ h => h.1))
       have n2_ := Aside0.mk (KeepBut.blk hk (g' := gb414) (o := .cells #[.int .i64 t411, u415001, .int .i64 0, .int .i64 0, .int .i64 0] 100 (0, 0)) z57_ NB414_404.out (by simp))
       have n3_ := Aside0.mk (hb)
       have n4_ := Aside0.mk (hi)
       clear HO_5
       clear HO_415001
       clear BK414
       clear HB
       clear HI404
       have HO_5 := n0_
       have HO_415001 := n1_
       have BK414 := n2_
       have HB := n3_
       have HI404 := n4_
       clear n0_ n1_ n2_ n3_ n4_
       (try clear hb)
       (try clear hb2)
       (try clear hk)
       (try clear hi)
       refine hK.out _ _ ((blk_cell BK414.out 1).trans rfl) (fun hHeld => ?_)
       clear hK K
       refine zn_ rfl ?_
       refine one_ (i := 4) (N := some 26) (fl_ 8 5) rfl rfl (by kernel_rfl) (by decide) (fun K hK => ?_)
       refine value_ (w1 := ?_) (v := ?_) (by rfl) rfl ?_ ?_
       rotate_left 2
       ·go_simp
        constructor
        ·rfl
        ·rfl
       refine hK.out _ _ ((blk_cell (blk_alloc BK414.out _) 1).trans rfl) (fun hHeld => ?_)
       clear hK K
       refine zn_ rfl ?_
       refine one_ (i := 5) (N := some 27) (fl_ 8 6) rfl rfl (by kernel_rfl) (by decide) (fun K hK => ?_)
       refine Kd.R_append_step (Kd.int .i64) (w0 := w) w.heap.size (by rfl) (.tmp 23) (.tmp 26) 31 3 (.int .i64 0) 8 rfl Try.underlying31 info3 rfl (by decide) (by omega) u415001 x415001_2 t418 [.int .i64 t418] (fun _ => True) (fun _ => False) rfl rfl ?aP (fun _ hk => hk.elim) ?aF ?aO ?aB ?aS ?aL ?_
       (case aP => exact rfl)
       (case aB => exact z84_)
       (case aF => exact z87_)
       (case aO => exact z91_)
       (case aS => exact z80_)
       (case aL => have := LMc18.out; omega)
       intro v422 w22 ho hb hg hat
       rw [← Ny421.out] at ho
       have n0_ := Aside0.mk (Kd.S_after (ok := (fun k_ => k_ ≠ gb414)) (by (with_reducible repeat (first | apply Kd.S_alloc | apply Kd.S_drewN | apply Kd.S_drew)); exact Kd.S_mono HO_5.out (fun _ hk => ⟨hk.2, hk.1⟩)) hg hat)
       have n1_ := Aside0.mk (blk_grown (g := gb414) (o := .cells #[.int .i64 t411, u415001, .int .i64 0, .int .i64 0, .int .i64 0] 100 (0, 0)) z57_ hg (Kd.R_ne HO_415001.out BK414.out (by decide)))
       have n2_ := Aside0.mk (IsS109.grown z25_ hg (IsS109.own_ne HI404.out HO_415001.out (by decide)))
       have n3_ := Aside0.mk (hb)
       have n4_ := Aside0.mk (ho)
       clear HO_5
       clear BK414
       clear HI404
       clear HB
       clear HO_415001
       have HO_5 := n0_
       have BK414 := n1_
       have HI404 := n2_
       have HB := n3_
       have HO423 := n4_
       clear n0_ n1_ n2_ n3_ n4_
       clear ho hb hg hat
       obtain ⟨Ao23, co23, eo23⟩ := Kd.R_slice HO423.out
       subst eo23
       obtain ⟨hcz24_0, hcz24_1, hcz24_2, hcz24_3, hcz24_4, hfz24_0, hfz24_1, hfz24_2, hfz24_3, hfz24_4⟩ := bx5_ BK414.out
       refine hK.out _ _ ((blk_cell BK414.out 1).trans rfl) (fun hHeld => ?_)
       clear hK K
       refine zn_ rfl ?_
       refine pure_ (i := 6) (N := some 28) (v := ?_) (a' := ?_) #[true, true, true, true, true, true, true, false] rfl rfl (by kernel_rfl) (fun _ _ _ h => h) (Or.inl ⟨by rfl, ?_⟩) ?_ ?_
       rotate_left
       ·intro w'
        go_simp
        with_reducible rfl
       rotate_left
       ·simp only [Act.put, List.setIfInBounds_toArray, List.set_cons_zero, List.set_cons_succ, i64_w, i32_w]
        rfl
       refine last_ (i := 7) (N := none) (fl_ 8 8) rfl rfl (by kernel_rfl) (by decide) (fun K hK => ?_)
       refine skip_ (w1 := ?_) (by rfl) rfl ?_ ?_
       rotate_left
       ·go_simp
        rfl
       refine hK.out _ _ ?_
       clear hK K
       refine done_ (by kernel_rfl) ?_
       go_wp2
       go_roundg k2
       case measure => have := HK1.out; have := HK2.out; omega
       case rel => exact ⟨(wrap64 (x20_2 + 1)), (t419), (t420), (y421), (.slice Ao23 y421.length co23), z8_, H', ⟨by have := HK1.out; have := HK2.out; omega⟩, ⟨by (with_reducible repeat (first | apply Kd.S_alloc | apply Kd.S_drewN | apply Kd.S_drew)); exact Kd.S_mono (Kd.S_far (p := ⟨gb414, 1, none⟩) (Kd.S_mono HO_5.out (fun k_ hk => (⟨hk, hk.1⟩ : _ ∧ k_ ≠ gb414))) (fun _ hk => hk.2) (.slice Ao23 y421.length co23)) (fun _ hk => ⟨hk.1.2, hk.1.1⟩)⟩, ⟨by (with_reducible repeat (first | apply Kd.R_alloc | apply Kd.R_drewN | apply Kd.R_drew)); exact Kd.R_mono (Kd.R_far (p := ⟨gb414, 1, none⟩) (Kd.R_types HO423.out BK414.out (by decide)) (fun _ hk => hk.2) (.slice Ao23 y421.length co23)) (fun _ hk => trivial)⟩, ⟨by (with_reducible repeat (first | refine blk_drewN ?_ _ | refine blk_drew ?_ | refine blk_alloc ?_ _)); refine blk_put (cs := #[.int .i64 t411, u415001, .int .i64 0, .int .i64 0, .int .i64 0]) ?_ 1 _ rfl; (with_reducible repeat (first | refine blk_drewN ?_ _ | refine blk_drew ?_ | refine blk_alloc ?_ _)); exact BK414.out⟩, ⟨z25_⟩, ⟨z20_⟩⟩
      ·rw [if_neg c16] at H
       have c16b0 := decide_eq_false c16
       clear c16
       have HC25 := Aside0.mk H
       clear H
       have hnb26 := NB414_404.out
       have hnc26 := NB404_414.out
       obtain ⟨hcz27_0, hcz27_1, hcz27_2, hcz27_3, hcz27_4, hfz27_0, hfz27_1, hfz27_2, hfz27_3, hfz27_4⟩ := bx5_ BK414.out
       go_upto_if 32 with (fail)
       go_cut [] (fun wc => ∃ (kq : Nat) (x405000_24 : ByteArray) (x405001_24 : Int) (x415002_24 : Int), Aside0 (impl_GetScript.j2 kq x5_1 t408 x13_1 x405000_24 x405001_24 t411 x415001_2 x415002_24 0 0 = some (r1, r2)) ∧ Aside0 (kq ≤ k2) ∧ Aside0 (Kd.S k100 100 wc w.heap.size (fun k_ => some k_ ≠ (u415001 : Value).ownBlock ∧ k_ ≠ gb414) u5 x5_1) ∧ Aside0 (Kd.R (Kd.int .i64) 3 wc w.heap.size (fun _ => True) u415001 x415001_2) ∧ Aside0 (wc.heap[gb414]? = some (.cells #[.int .i64 t411, u415001, .int .i64 x415002_24, .int .i64 0, .int .i64 0] 100 (0, 0))) ∧ Aside0 (IsS109 w wc g404 x405000_24 x405001_24) ∧ Aside0 (Below w.heap.size w wc))
       case first =>
        have H := HC25.out
        clear HC25
        by_cases c28 : t411 = 2
        ·rw [if_pos c28] at H
         have c28b0 : (t411 == 2) = true := beq_iff_eq.mpr c28
         have c28b1 : (t411 != 2) = false := bne_eq_false_iff_eq.mpr c28
         clear c28
         (first | rw [c28b0] | rw [c28b1] | (simp only [i64_w, i32_w]; rw [c28b0]) | skip)
         have H' := Aside0.mk H
         clear H
         go_wp2
         go_meet
         case rel => exact ⟨_, (x405000_2), (x405001_2), (0), H', ⟨by have := HK1.out; have := HK2.out; first | omega | exact Nat.le_refl _⟩, ⟨z41_⟩, ⟨z91_⟩, ⟨z57_⟩, ⟨z25_⟩, ⟨z20_⟩⟩
        ·rw [if_neg c28] at H
         have c28b0 : (t411 == 2) = false := beq_eq_false_iff_ne.mpr c28
         have c28b1 : (t411 != 2) = true := bne_iff_ne.mpr c28
         (first | rw [c28b0] | rw [c28b1] | (simp only [i64_w, i32_w]; rw [c28b0]) | skip)
         replace H := Option.bind_eq_some_iff.mp H
         obtain ⟨⟨t424, t425, t426⟩, A290, H⟩ := H
         try dsimp only at H
         have A29 := Aside0.mk A290
         clear A290
         have H' := Aside0.mk H
         clear H
         go_wp2_with (first | ((with_reducible refine gate_callee (f := 69) rfl ?_); refine goesL_ (some 34) rfl rfl Try.func69 (by kernel_rfl) rfl #[.pointer (some ⟨g404, 0, none⟩), .int .i64 0, .int .i64 5, .int .i64 5] rfl z1_ ?_; (with_reducible refine (impl_script_number.calls k2 g404 x405000_2 x405001_2 0 5 5 t424 t425 t426 w _ ?side1 ?side2 A29.out).mono ?_); (case side1 => exact z25_); (case side2 => exact z20_); rintro e w30 ⟨rfl, hi, hb, hk⟩; refine ⟨_, rfl, ?_⟩; replace HO_5 := Aside0.mk (Kd.S_mono (Kd.S_keep (IsS109.apartS (show IsS109 w _ g404 x405000_2 x405001_2 from by repeat (first | (with_reducible first | exact HI404.out | apply IsS109.alloc | apply IsS109.drewN | apply IsS109.drew | apply IsS109.set_0 | apply IsS109.set_1 | refine IsS109.far ?_ NB404_414.out _) | exact HI404.out)) z41_ (by decide)) hk (fun _ h => h.2)) (fun _ h => h.1)); replace HO_415001 := Aside0.mk (Kd.R_mono (Kd.R_keep (IsS109.apart (show IsS109 w _ g404 x405000_2 x405001_2 from by repeat (first | (with_reducible first | exact HI404.out | apply IsS109.alloc | apply IsS109.drewN | apply IsS109.drew | apply IsS109.set_0 | apply IsS109.set_1 | refine IsS109.far ?_ NB404_414.out _) | exact HI404.out)) z91_ (by decide)) hk (fun _ h => h.2)) (fun _ h => h.1)); replace BK414 := Aside0.mk (KeepBut.blk hk (g' := gb414) (o := .cells #[.int .i64 t411, u415001, .int .i64 0, .int .i64 0, .int .i64 0] 100 (0, 0)) z57_ NB414_404.out (by simp)); replace HB := Aside0.mk (hb); replace HI404 := Aside0.mk (hi); (try clear hb hk hi); have hnb31 := NB414_404.out; have hnc31 := NB404_414.out; obtain ⟨hcz32_0, hcz32_1, hcz32_2, hcz32_3, hcz32_4, hfz32_0, hfz32_1, hfz32_2, hfz32_3, hfz32_4⟩ := bx5_ BK414.out))
         go_meet
         case rel => exact ⟨_, (t425), (t426), (t424), H', ⟨by have := HK1.out; have := HK2.out; first | omega | exact Nat.le_refl _⟩, ⟨by (with_reducible repeat (first | apply Kd.S_alloc | apply Kd.S_drewN | apply Kd.S_drew)); exact Kd.S_mono (Kd.S_far (p := ⟨gb414, 2, none⟩) (Kd.S_mono HO_5.out (fun k_ hk => (⟨hk, hk.2⟩ : _ ∧ k_ ≠ gb414))) (fun _ hk => hk.2) (.int .i64 t424)) (fun _ hk => ⟨hk.1.1, hk.1.2⟩)⟩, ⟨by (with_reducible repeat (first | apply Kd.R_alloc | apply Kd.R_drewN | apply Kd.R_drew)); exact Kd.R_mono (Kd.R_far (p := ⟨gb414, 2, none⟩) (Kd.R_types HO_415001.out BK414.out (by decide)) (fun _ hk => hk.2) (.int .i64 t424)) (fun _ hk => trivial)⟩, ⟨by (with_reducible repeat (first | refine blk_drewN ?_ _ | refine blk_drew ?_ | refine blk_alloc ?_ _)); refine blk_put (cs := #[.int .i64 t411, u415001, .int .i64 0, .int .i64 0, .int .i64 0]) ?_ 2 _ rfl; (with_reducible repeat (first | refine blk_drewN ?_ _ | refine blk_drew ?_ | refine blk_alloc ?_ _)); exact BK414.out⟩, ⟨z25_⟩, ⟨z20_⟩⟩
       case rest =>
        clear HC25
        try clear c1
        try clear c2
        try clear p2
        try clear c3
        try clear c6
        try clear p6
        try clear c8
        try clear c8b0
        try clear c12
        try clear c13
        try clear c16
        try clear c16b0
        try clear c18
        try clear c19
        try clear c26
        try clear c28
        try clear c28b0
        try clear c28b1
        try clear c31
        try clear hcz14_0
        try clear hcz14_1
        try clear hcz14_2
        try clear hcz14_3
        try clear hcz14_4
        try clear hcz20_0
        try clear hcz20_1
        try clear hcz20_2
        try clear hcz20_3
        try clear hcz20_4
        try clear hcz24_0
        try clear hcz24_1
        try clear hcz24_2
        try clear hcz24_3
        try clear hcz24_4
        try clear hcz27_0
        try clear hcz27_1
        try clear hcz27_2
        try clear hcz27_3
        try clear hcz27_4
        try clear hcz32_0
        try clear hcz32_1
        try clear hcz32_2
        try clear hcz32_3
        try clear hcz32_4
        try clear hfz14_0
        try clear hfz14_1
        try clear hfz14_2
        try clear hfz14_3
        try clear hfz14_4
        try clear hfz20_0
        try clear hfz20_1
        try clear hfz20_2
        try clear hfz20_3
        try clear hfz20_4
        try clear hfz24_0
        try clear hfz24_1
        try clear hfz24_2
        try clear hfz24_3
        try clear hfz24_4
        try clear hfz27_0
        try clear hfz27_1
        try clear hfz27_2
        try clear hfz27_3
        try clear hfz27_4
        try clear hfz32_0
        try clear hfz32_1
        try clear hfz32_2
        try clear hfz32_3
        try clear hfz32_4
        try clear p2
        obtain ⟨kq, x405000_24, x405001_24, x415002_24, HA, HJ24, HO_5, HO_415001, BK414, HI404, HB⟩ := hcut
        cases kq with
        | zero => exact absurd HA.out (by simp [impl_GetScript.j2])
        | succ kj24 =>
         have H := HA.out
         clear HA
         simp only [impl_GetScript.j2] at H
         by_cases c33 : t411 = 3
         ·rw [if_pos c33] at H
          have c33b0 : (t411 == 3) = true := beq_iff_eq.mpr c33
          have c33b1 : (t411 != 3) = false := bne_eq_false_iff_eq.mpr c33
          clear c33
          replace H := Option.bind_eq_some_iff.mp H
          obtain ⟨⟨t427, t428, t429⟩, A340, H⟩ := H
          try dsimp only at H
          have A34 := Aside0.mk A340
          clear A340
          replace H := Option.bind_eq_some_iff.mp H
          obtain ⟨⟨t430, t431, t432⟩, A350, H⟩ := H
          try dsimp only at H
          have A35 := Aside0.mk A350
          clear A350
          obtain ⟨c36, H⟩ := ifs_ H
          have LMc36 := Aside0.mk c36
          clear c36
          first | ((with_reducible have hz_ := gy_ H); obtain ⟨y433, Ny433, H⟩ := hz_) | (generalize hy_ : ((x5_1 ++ [(⟨t411, x415001_2, x415002_24, t427, t430⟩ : S100)]) : List (S100)) = y433 at H; have Ny433 := Aside0.mk hy_.symm; clear hy_)
          have H' := Aside0.mk H
          clear H
          have hnb37 := NB414_404.out
          have hnc37 := NB404_414.out
          obtain ⟨hcz38_0, hcz38_1, hcz38_2, hcz38_3, hcz38_4, hfz38_0, hfz38_1, hfz38_2, hfz38_3, hfz38_4⟩ := bx5_ BK414.out
          go_wp2_with (first | ((with_reducible refine gate_callee (f := 69) rfl ?_); refine goesL_ (some 40) rfl rfl Try.func69 (by kernel_rfl) rfl #[.pointer (some ⟨g404, 0, none⟩), .int .i64 0, .int .i64 24, .int .i64 6] rfl z1_ ?_; (with_reducible refine (impl_script_number.calls kj24 g404 x405000_24 x405001_24 0 24 6 t427 t428 t429 w _ ?side1 ?side2 A34.out).mono ?_); (case side1 => exact z25_); (case side2 => exact z20_); rintro e w39 ⟨rfl, hi, hb, hk⟩; refine ⟨_, rfl, ?_⟩; replace HO_5 := Aside0.mk (Kd.S_mono (Kd.S_keep (IsS109.apartS (show IsS109 w _ g404 x405000_24 x405001_24 from by repeat (first | (with_reducible first | exact HI404.out | apply IsS109.alloc | apply IsS109.drewN | apply IsS109.drew | apply IsS109.set_0 | apply IsS109.set_1 | refine IsS109.far ?_ NB404_414.out _) | exact HI404.out)) z41_ (by decide)) hk (fun _ h => h.2)) (fun _ h => h.1)); replace HO_415001 := Aside0.mk (Kd.R_mono (Kd.R_keep (IsS109.apart (show IsS109 w _ g404 x405000_24 x405001_24 from by repeat (first | (with_reducible first | exact HI404.out | apply IsS109.alloc | apply IsS109.drewN | apply IsS109.drew | apply IsS109.set_0 | apply IsS109.set_1 | refine IsS109.far ?_ NB404_414.out _) | exact HI404.out)) z91_ (by decide)) hk (fun _ h => h.2)) (fun _ h => h.1)); replace BK414 := Aside0.mk (KeepBut.blk hk (g' := gb414) (o := .cells #[.int .i64 t411, u415001, .int .i64 x415002_24, .int .i64 0, .int .i64 0] 100 (0, 0)) z57_ NB414_404.out (by simp)); replace HB := Aside0.mk (hb); replace HI404 := Aside0.mk (hi); (try clear hb hk hi); obtain ⟨hcz40_0, hcz40_1, hcz40_2, hcz40_3, hcz40_4, hfz40_0, hfz40_1, hfz40_2, hfz40_3, hfz40_4⟩ := bx5_ BK414.out) | ((with_reducible refine gate_callee (f := 69) rfl ?_); refine goesL_ (some 43) rfl rfl Try.func69 (by kernel_rfl) rfl #[.pointer (some ⟨g404, 0, none⟩), .int .i64 0, .int .i64 24, .int .i64 6] rfl z1_ ?_; (with_reducible refine (impl_script_number.calls kj24 g404 t428 t429 0 24 6 t430 t431 t432 w _ ?side1 ?side2 A35.out).mono ?_); (case side1 => exact z25_); (case side2 => exact z20_); rintro e w41 ⟨rfl, hi, hb, hk⟩; refine ⟨_, rfl, ?_⟩; replace HO_5 := Aside0.mk (Kd.S_mono (Kd.S_keep (IsS109.apartS (show IsS109 w _ g404 t428 t429 from by repeat (first | (with_reducible first | exact HI404.out | apply IsS109.alloc | apply IsS109.drewN | apply IsS109.drew | apply IsS109.set_0 | apply IsS109.set_1 | refine IsS109.far ?_ NB404_414.out _) | exact HI404.out)) (by (with_reducible repeat (first | apply Kd.S_alloc | apply Kd.S_drewN | apply Kd.S_drew)); exact (Kd.S_mono (Kd.S_far (p := ⟨gb414, 3, none⟩) (Kd.S_mono HO_5.out (fun k_ hk => (⟨hk, hk.2⟩ : _ ∧ k_ ≠ gb414))) (fun _ hk => hk.2) (.int .i64 t427)) (fun _ h_ => h_.1))) (by decide)) hk (fun _ h => h.2)) (fun _ h => h.1)); replace HO_415001 := Aside0.mk (Kd.R_mono (Kd.R_keep (IsS109.apart (show IsS109 w _ g404 t428 t429 from by repeat (first | (with_reducible first | exact HI404.out | apply IsS109.alloc | apply IsS109.drewN | apply IsS109.drew | apply IsS109.set_0 | apply IsS109.set_1 | refine IsS109.far ?_ NB404_414.out _) | exact HI404.out)) (by (with_reducible repeat (first | apply Kd.R_alloc | apply Kd.R_drewN | apply Kd.R_drew)); exact (Kd.R_mono (Kd.R_far (p := ⟨gb414, 3, none⟩) (Kd.R_types HO_415001.out BK414.out (by decide)) (fun _ hk => hk.2) (.int .i64 t427)) (fun _ h_ => h_.1))) (by decide)) hk (fun _ h => h.2)) (fun _ h => h.1)); replace BK414 := Aside0.mk (KeepBut.blk hk (g' := gb414) (o := .cells #[.int .i64 t411, u415001, .int .i64 x415002_24, .int .i64 t427, .int .i64 0] 100 (0, 0)) (by (with_reducible repeat (first | refine blk_drewN ?_ _ | refine blk_drew ?_ | refine blk_alloc ?_ _)); refine blk_put (cs := #[.int .i64 t411, u415001, .int .i64 x415002_24, .int .i64 0, .int .i64 0]) ?_ 3 _ rfl; (with_reducible repeat (first | refine blk_drewN ?_ _ | refine blk_drew ?_ | refine blk_alloc ?_ _)); exact BK414.out) NB414_404.out (by simp)); replace HB := Aside0.mk (hb); replace HI404 := Aside0.mk (hi); (try clear hb hk hi); obtain ⟨hcz42_0, hcz42_1, hcz42_2, hcz42_3, hcz42_4, hfz42_0, hfz42_1, hfz42_2, hfz42_3, hfz42_4⟩ := bx5_ BK414.out) | ((with_reducible refine gate_store (t := 3) (p := 44) rfl ?_); refine store_event (t := 3) (p := 44) (v := ?vo_w43) (w1 := (w41.setCell ⟨gb414, 4, none⟩ (.int .i64 t430))) ?hg ?ho ?hn ?hr ?_; (case ho => rfl); (case hg => rfl); (case hn => rfl); (case hr => exact z10_); intro w43 hw; have n0_ : Aside0 (Kd.S k100 100 w43 w.heap.size (fun k_ => some k_ ≠ (u415001 : Value).ownBlock ∧ k_ ≠ gb414) u5 x5_1) := ⟨(by rw [hw]; exact (by (with_reducible repeat (first | apply Kd.S_alloc | apply Kd.S_drewN | apply Kd.S_drew)); exact Kd.S_mono (Kd.S_far (p := ⟨gb414, 4, none⟩) (Kd.S_mono HO_5.out (fun k_ hk => (⟨hk, hk.2⟩ : _ ∧ k_ ≠ gb414))) (fun _ hk => hk.2) (.int .i64 t430)) (fun _ hk => ⟨hk.1.1, hk.1.2⟩)))⟩; have n1_ : Aside0 (Kd.R (Kd.int .i64) 3 w43 w.heap.size (fun _ => True) u415001 x415001_2) := ⟨(by rw [hw]; exact (by (with_reducible repeat (first | apply Kd.R_alloc | apply Kd.R_drewN | apply Kd.R_drew)); exact Kd.R_mono (Kd.R_far (p := ⟨gb414, 4, none⟩) (Kd.R_types HO_415001.out BK414.out (by decide)) (fun _ hk => hk.2) (.int .i64 t430)) (fun _ hk => trivial)))⟩; have n2_ : Aside0 (w43.heap[gb414]? = some (.cells #[.int .i64 t411, u415001, .int .i64 x415002_24, .int .i64 t427, .int .i64 t430] 100 (0, 0))) := ⟨(by rw [hw]; exact (by (with_reducible repeat (first | refine blk_drewN ?_ _ | refine blk_drew ?_ | refine blk_alloc ?_ _)); refine blk_put (cs := #[.int .i64 t411, u415001, .int .i64 x415002_24, .int .i64 t427, .int .i64 0]) ?_ 4 _ rfl; (with_reducible repeat (first | refine blk_drewN ?_ _ | refine blk_drew ?_ | refine blk_alloc ?_ _)); exact BK414.out))⟩; have n3_ : Aside0 (IsS109 w w43 g404 t431 t432) := ⟨(by rw [hw]; exact z25_)⟩; have n4_ : Aside0 (Below w.heap.size w w43) := ⟨(by rw [hw]; exact z20_)⟩; clear hw; clear HO_5; clear HO_415001; clear BK414; clear HI404; clear HB; have HO_5 := n0_; have HO_415001 := n1_; have BK414 := n2_; have HI404 := n3_; have HB := n4_; clear n0_ n1_ n2_ n3_ n4_; obtain ⟨hcz44_0, hcz44_1, hcz44_2, hcz44_3, hcz44_4, hfz44_0, hfz44_1, hfz44_2, hfz44_3, hfz44_4⟩ := bx5_ BK414.out; obtain ⟨Ao46, co46, eo46⟩ := Kd.R_slice HO_415001.out; subst eo46) | ((with_reducible refine gate_builtin (b := .append) (xs := #[.tmp 45, .tmp 47]) rfl ?_); at_builtin; refine Kd.S_append k100 (w0 := w) w.heap.size rfl (.tmp 45) (.tmp 47) 61 100 (.agg #[(.int .i64 0), (.slice none 0 0), (.int .i64 0), (.int .i64 0), (.int .i64 0)]) 56 rfl Try.underlying61 info100 rfl (by decide) (by omega) u5 x5_1 (⟨t411, x415001_2, x415002_24, t427, t430⟩ : S100) [.int .i64 t411, .slice Ao46 x415001_2.length co46, .int .i64 x415002_24, .int .i64 t427, .int .i64 t430] (fun k_ => k_ ≠ gb414) (fun k_ => some k_ = (.slice Ao46 x415001_2.length co46 : Value).ownBlock) rfl rfl ?aP (fun k_ hk_ => ((Kd.R_mono (ok' := fun k_ => ((fun k_ => k_ ≠ gb414)) k_ ∧ some k_ ≠ (u5 : Value).ownBlock) (Kd.R_types (Kd.R_apart' (HO_415001.out) (Kd.S_typed HO_5.out) (by decide)) BK414.out (by decide)) (fun k_ hk => ⟨hk.2, hk.1.2⟩))).1 k_ hk_.symm) ?aF ?aO ?aB ?aS ?aL ?_; (case aP => exact k100_mkM _ _ _ (⟨t411, x415001_2, x415002_24, t427, t430⟩ : S100) (Kd.R_mono (Kd.R_tight rfl (Kd.R_mono (ok' := fun k_ => ((fun k_ => k_ ≠ gb414)) k_ ∧ some k_ ≠ (u5 : Value).ownBlock) (Kd.R_types (Kd.R_apart' (HO_415001.out) (Kd.S_typed HO_5.out) (by decide)) BK414.out (by decide)) (fun k_ hk => ⟨hk.2, hk.1.2⟩))) (fun _ h_ => h_))); (case aB => exact z84_); (case aF => exact (fun k_ hk => Kd.freshB (g := gb414) (o := .cells #[.int .i64 t411, .slice Ao46 x415001_2.length co46, .int .i64 x415002_24, .int .i64 t427, .int .i64 t430] 100 (0, 0)) z57_ k_ hk)); (case aO => exact z119_); (case aS => exact z80_); (case aL => exact z151_); intro v434 w45 ho hb hg hat; rw [← Ny433.out] at ho; replace BK414 := Aside0.mk (blk_grown (g := gb414) (o := .cells #[.int .i64 t411, .slice Ao46 x415001_2.length co46, .int .i64 x415002_24, .int .i64 t427, .int .i64 t430] 100 (0, 0)) z57_ hg (Kd.S_away HO_5.out (fun _ hk => hk.2))); replace HI404 := Aside0.mk (IsS109.grown z25_ hg (IsS109.own_neS HI404.out HO_5.out (by decide))); replace HB := Aside0.mk (hb); have HO435 := Aside0.mk (ho); clear HO_5 HO_415001; clear ho hb hg hat))
          go_roundg kj24
          case measure => have := HK1.out; have := HK2.out; have := HJ24.out; omega
          case rel => exact ⟨(y433), (wrap64 (x13_1 + 1)), (t431), (t432), z8_, H', ⟨by have := HK1.out; have := HK2.out; have := HJ24.out; omega⟩, ⟨by (with_reducible repeat (first | apply Kd.S_alloc | apply Kd.S_drewN | apply Kd.S_drew)); exact Kd.S_mono HO435.out (fun _ hk => trivial)⟩, ⟨z25_⟩, ⟨z20_⟩⟩
         ·rw [if_neg c33] at H
          have c33b0 : (t411 == 3) = false := beq_eq_false_iff_ne.mpr c33
          have c33b1 : (t411 != 3) = true := bne_iff_ne.mpr c33
          obtain ⟨c47, H⟩ := ifs_ H
          have LMc47 := Aside0.mk c47
          clear c47
          first | ((with_reducible have hz_ := gy_ H); obtain ⟨y436, Ny436, H⟩ := hz_) | (generalize hy_ : ((x5_1 ++ [(⟨t411, x415001_2, x415002_24, 0, 0⟩ : S100)]) : List (S100)) = y436 at H; have Ny436 := Aside0.mk hy_.symm; clear hy_)
          have H' := Aside0.mk H
          clear H
          have hnb48 := NB414_404.out
          have hnc48 := NB404_414.out
          obtain ⟨hcz49_0, hcz49_1, hcz49_2, hcz49_3, hcz49_4, hfz49_0, hfz49_1, hfz49_2, hfz49_3, hfz49_4⟩ := bx5_ BK414.out
          obtain ⟨Ao51, co51, eo51⟩ := Kd.R_slice HO_415001.out
          subst eo51
          go_wp2_with (first | ((with_reducible refine gate_builtin (b := .append) (xs := #[.tmp 45, .tmp 47]) rfl ?_); at_builtin; refine Kd.S_append k100 (w0 := w) w.heap.size rfl (.tmp 45) (.tmp 47) 61 100 (.agg #[(.int .i64 0), (.slice none 0 0), (.int .i64 0), (.int .i64 0), (.int .i64 0)]) 56 rfl Try.underlying61 info100 rfl (by decide) (by omega) u5 x5_1 (⟨t411, x415001_2, x415002_24, 0, 0⟩ : S100) [.int .i64 t411, .slice Ao51 x415001_2.length co51, .int .i64 x415002_24, .int .i64 0, .int .i64 0] (fun k_ => k_ ≠ gb414) (fun k_ => some k_ = (.slice Ao51 x415001_2.length co51 : Value).ownBlock) rfl rfl ?aP (fun k_ hk_ => ((Kd.R_mono (ok' := fun k_ => ((fun k_ => k_ ≠ gb414)) k_ ∧ some k_ ≠ (u5 : Value).ownBlock) (Kd.R_types (Kd.R_apart' (HO_415001.out) (Kd.S_typed HO_5.out) (by decide)) BK414.out (by decide)) (fun k_ hk => ⟨hk.2, hk.1.2⟩))).1 k_ hk_.symm) ?aF ?aO ?aB ?aS ?aL ?_; (case aP => exact k100_mkM _ _ _ (⟨t411, x415001_2, x415002_24, 0, 0⟩ : S100) (Kd.R_mono (Kd.R_tight rfl (Kd.R_mono (ok' := fun k_ => ((fun k_ => k_ ≠ gb414)) k_ ∧ some k_ ≠ (u5 : Value).ownBlock) (Kd.R_types (Kd.R_apart' (HO_415001.out) (Kd.S_typed HO_5.out) (by decide)) BK414.out (by decide)) (fun k_ hk => ⟨hk.2, hk.1.2⟩))) (fun _ h_ => h_))); (case aB => exact z84_); (case aF => exact (fun k_ hk => Kd.freshB (g := gb414) (o := .cells #[.int .i64 t411, .slice Ao51 x415001_2.length co51, .int .i64 x415002_24, .int .i64 0, .int .i64 0] 100 (0, 0)) z57_ k_ hk)); (case aO => exact z119_); (case aS => exact z80_); (case aL => have := LMc47.out; omega); intro v437 w50 ho hb hg hat; rw [← Ny436.out] at ho; replace BK414 := Aside0.mk (blk_grown (g := gb414) (o := .cells #[.int .i64 t411, .slice Ao51 x415001_2.length co51, .int .i64 x415002_24, .int .i64 0, .int .i64 0] 100 (0, 0)) z57_ hg (Kd.S_away HO_5.out (fun _ hk => hk.2))); replace HI404 := Aside0.mk (IsS109.grown z25_ hg (IsS109.own_neS HI404.out HO_5.out (by decide))); replace HB := Aside0.mk (hb); have HO438 := Aside0.mk (ho); clear HO_5 HO_415001; clear ho hb hg hat))
          go_roundg kj24
          case measure => have := HK1.out; have := HK2.out; have := HJ24.out; omega
          case rel => exact ⟨(y436), (wrap64 (x13_1 + 1)), (x405000_24), (x405001_24), z8_, H', ⟨by have := HK1.out; have := HK2.out; have := HJ24.out; omega⟩, ⟨by (with_reducible repeat (first | apply Kd.S_alloc | apply Kd.S_drewN | apply Kd.S_drew)); exact Kd.S_mono HO438.out (fun _ hk => trivial)⟩, ⟨z25_⟩, ⟨z20_⟩⟩
   ·rw [if_neg c8] at H
    have c8b0 := decide_eq_false c8
    clear c8
    have HC52 := Aside0.mk H
    clear H
    go_upto_region 16 with (fail)
    go_cut [61] (fun v61 wc => ∃ (kq : Nat) (x61_51 : Bool), v61 = .bool x61_51 ∧ Aside0 (impl_GetScript.j3 kq x5_1 x61_51 x405000_1 x405001_1 = some (r1, r2)) ∧ Aside0 (kq ≤ k1) ∧ Aside0 (Kd.S k100 100 wc w.heap.size (fun _ => True) u5 x5_1) ∧ Aside0 (IsS109 w wc g404 x405000_1 x405001_1) ∧ Aside0 (Below w.heap.size w wc))
    case first =>
     have H := HC52.out
     clear HC52
     by_cases c53 : x405001_1 = 0
     ·rw [if_pos c53] at H
      have c53b0 : (x405001_1 == 0) = true := beq_iff_eq.mpr c53
      have c53b1 : (x405001_1 != 0) = false := bne_eq_false_iff_eq.mpr c53
      clear c53
      (first | rw [c53b0] | rw [c53b1] | (simp only [i64_w, i32_w]; rw [c53b0]) | skip)
      have H' := Aside0.mk H
      clear H
      obtain ⟨HGz54, hgz54⟩ := HI404.out
      have hcz54_0 := cellS109_0 HGz54
      have hcz54_1 := cellS109_1 HGz54
      have hfz54_0 := blk_frozen HGz54 0
      have hfz54_1 := blk_frozen HGz54 1
      clear HGz54 hgz54
      go_wp2
      go_meet
      case rel => exact ⟨_, ((x405000_1.toList != ([] : List UInt8))), (by first | rfl | (simp; done) | (simp [*]; done) | (simp; cases x405000_1.toList <;> rfl)), H', ⟨z100_⟩, ⟨z41_⟩, ⟨z47_⟩, ⟨z29_⟩⟩
     ·rw [if_neg c53] at H
      have c53b0 : (x405001_1 == 0) = false := beq_eq_false_iff_ne.mpr c53
      have c53b1 : (x405001_1 != 0) = true := bne_iff_ne.mpr c53
      (first | rw [c53b0] | rw [c53b1] | (simp only [i64_w, i32_w]; rw [c53b0]) | skip)
      have H' := Aside0.mk H
      clear H
      obtain ⟨HGz55, hgz55⟩ := HI404.out
      have hcz55_0 := cellS109_0 HGz55
      have hcz55_1 := cellS109_1 HGz55
      have hfz55_0 := blk_frozen HGz55 0
      have hfz55_1 := blk_frozen HGz55 1
      clear HGz55 hgz55
      go_wp2
      go_meet
      case rel => exact ⟨_, (false), z8_, H', ⟨z100_⟩, ⟨z41_⟩, ⟨z47_⟩, ⟨z29_⟩⟩
    case rest =>
     clear HC52
     try clear c1
     try clear c2
     try clear p2
     try clear c3
     try clear c4
     try clear c5
     try clear c6
     try clear p6
     try clear c8
     try clear c8b0
     try clear c12
     try clear c13
     try clear c16
     try clear c16b0
     try clear c18
     try clear c19
     try clear c26
     try clear c28
     try clear c28b0
     try clear c28b1
     try clear c31
     try clear c33
     try clear c33b0
     try clear c33b1
     try clear c34
     try clear c36
     try clear c37
     try clear c47
     try clear c48
     try clear c53
     try clear c53b0
     try clear c53b1
     try clear hcz14_0
     try clear hcz14_1
     try clear hcz14_2
     try clear hcz14_3
     try clear hcz14_4
     try clear hcz20_0
     try clear hcz20_1
     try clear hcz20_2
     try clear hcz20_3
     try clear hcz20_4
     try clear hcz24_0
     try clear hcz24_1
     try clear hcz24_2
     try clear hcz24_3
     try clear hcz24_4
     try clear hcz27_0
     try clear hcz27_1
     try clear hcz27_2
     try clear hcz27_3
     try clear hcz27_4
     try clear hcz32_0
     try clear hcz32_1
     try clear hcz32_2
     try clear hcz32_3
     try clear hcz32_4
     try clear hcz38_0
     try clear hcz38_1
     try clear hcz38_2
     try clear hcz38_3
     try clear hcz38_4
     try clear hcz40_0
     try clear hcz40_1
     try clear hcz40_2
     try clear hcz40_3
     try clear hcz40_4
     try clear hcz42_0
     try clear hcz42_1
     try clear hcz42_2
     try clear hcz42_3
     try clear hcz42_4
     try clear hcz44_0
     try clear hcz44_1
     try clear hcz44_2
     try clear hcz44_3
     try clear hcz44_4
     try clear hcz49_0
     try clear hcz49_1
     try clear hcz49_2
     try clear hcz49_3
     try clear hcz49_4
     try clear hcz54_0
     try clear hcz54_1
     try clear hcz55_0
     try clear hcz55_1
     try clear hfz14_0
     try clear hfz14_1
     try clear hfz14_2
     try clear hfz14_3
     try clear hfz14_4
     try clear hfz20_0
     try clear hfz20_1
     try clear hfz20_2
     try clear hfz20_3
     try clear hfz20_4
     try clear hfz24_0
     try clear hfz24_1
     try clear hfz24_2
     try clear hfz24_3
     try clear hfz24_4
     try clear hfz27_0
     try clear hfz27_1
     try clear hfz27_2
     try clear hfz27_3
     try clear hfz27_4
     try clear hfz32_0
     try clear hfz32_1
     try clear hfz32_2
     try clear hfz32_3
     try clear hfz32_4
     try clear hfz38_0
     try clear hfz38_1
     try clear hfz38_2
     try clear hfz38_3
     try clear hfz38_4
     try clear hfz40_0
     try clear hfz40_1
     try clear hfz40_2
     try clear hfz40_3
     try clear hfz40_4
     try clear hfz42_0
     try clear hfz42_1
     try clear hfz42_2
     try clear hfz42_3
     try clear hfz42_4
     try clear hfz44_0
     try clear hfz44_1
     try clear hfz44_2
     try clear hfz44_3
     try clear hfz44_4
     try clear hfz49_0
     try clear hfz49_1
     try clear hfz49_2
     try clear hfz49_3
     try clear hfz49_4
     try clear hfz54_0
     try clear hfz54_1
     try clear hfz55_0
     try clear hfz55_1
     try clear p2
     try clear p6
     obtain ⟨kq, x61_51, rfl, HA, HJ51, HO_5, HI404, HB⟩ := hcut
     cases kq with
     | zero => exact absurd HA.out (by simp [impl_GetScript.j3])
     | succ kj51 =>
      have H := HA.out
      clear HA
      simp only [impl_GetScript.j3] at H
      by_cases c56 : x61_51 = true
      ·subst c56
       replace H := ift_ H
       by_cases c57 : 7 = 0
       ·exact absurd c57 (by decide)
       ·rw [if_neg c57] at H
        have c57b0 : (7 == 0) = false := beq_eq_false_iff_ne.mpr c57
        have c57b1 : (7 != 0) = true := bne_iff_ne.mpr c57
        first | ((with_reducible have hz_ := gy_ H); obtain ⟨y439, Ny439, H⟩ := hz_) | (generalize hy_ : ((([] : List (S100))) : List (S100)) = y439 at H; have Ny439 := Aside0.mk hy_.symm; clear hy_)
        simp only [Option.some.injEq, Prod.mk.injEq] at H
        obtain ⟨rfl, rfl⟩ := H
        obtain ⟨HGz59, hgz59⟩ := HI404.out
        have hcz59_0 := cellS109_0 HGz59
        have hcz59_1 := cellS109_1 HGz59
        have hfz59_0 := blk_frozen HGz59 0
        have hfz59_1 := blk_frozen HGz59 1
        clear HGz59 hgz59
        go_upto_region 19 with (fail)
        refine start_ (n := 7) (S := fun w' => w'.cell? ⟨g404, 1, none⟩ = some (.int .i64 7)) (ds := []) (fl_ 7 0) (by kernel_rfl) rfl (fl_zero _) ((cellS109_1 (IsS109.set_1 HI404.out 7).1)) (fun hHeld => ?_)
        refine pure_ (i := 1) (N := some 71) (v := ?_) (a' := ?_) #[false, true, false, false, false, false, false] rfl rfl (by kernel_rfl) (fun _ _ _ h => h) (Or.inl ⟨by rfl, ?_⟩) ?_ ?_
        rotate_left
        ·intro w'
         go_simp
         with_reducible rfl
        rotate_left
        ·simp only [Act.put, List.setIfInBounds_toArray, List.set_cons_zero, List.set_cons_succ, i64_w, i32_w]
         rfl
        refine pure_ (i := 2) (N := some 72) (v := ?_) (a' := ?_) #[false, true, true, false, false, false, false] rfl rfl (by kernel_rfl) (fun _ _ _ h => h) (Or.inl ⟨by rfl, ?_⟩) ?_ ?_
        rotate_left
        ·intro w'
         go_simp
         with_reducible rfl
        rotate_left
        ·simp only [Act.put, List.setIfInBounds_toArray, List.set_cons_zero, List.set_cons_succ, i64_w, i32_w]
         rfl
        refine pure_ (i := 3) (N := some 73) (v := ?_) (a' := ?_) #[false, true, true, true, false, false, false] rfl rfl (by kernel_rfl) (fun _ _ _ h => h) (Or.inl ⟨by rfl, ?_⟩) ?_ ?_
        rotate_left
        ·intro w'
         go_simp
         with_reducible rfl
        rotate_left
        ·simp only [Act.put, List.setIfInBounds_toArray, List.set_cons_zero, List.set_cons_succ, i64_w, i32_w]
         rfl
        refine take_ (i := 4) (N := some 74) (v := ?_) (a' := ?_) #[false, true, true, true, true, false, false] rfl rfl (by kernel_rfl) (fun _ _ _ h => h) (Or.inl ⟨by rfl, ?_⟩) hHeld ?_ ?_
        rotate_left
        ·intro w' s0
         go_simp
         with_reducible rfl
        rotate_left
        ·simp only [Act.put, List.setIfInBounds_toArray, List.set_cons_zero, List.set_cons_succ, i64_w, i32_w]
         rfl
        refine one_ (i := 0) (N := some 70) (fl_ 7 5) rfl rfl (by kernel_rfl) (by decide) (fun K hK => ?_)
        refine Kd.S_lit_step k100 _ 100 (by rfl) (N := 70) ?hd (xs := ([] : List (S100))) (inner := []) (ok := fun _ => True) (okp := fun _ => True) ?hr ?hp (fun _ hk => hk) trivial (Below.refl _ _) (Nat.le_refl _) (by simp) ?_
        (case hd => rfl)
        (case hr => exact z10_)
        (case hp => exact z75_)
        intro v440 w60 ho61 hb hg_ hnew_
        clear hg_ hnew_
        (first | rw [← Ny439.out] at ho61 | (simp only [Int.reduceToNat] at ho61; rw [← Ny439.out] at ho61))
        have n0_ := Aside0.mk (Kd.S_elder' z96_ (Kd.S_base ho61) hb)
        have n1_ := Aside0.mk (Kd.S_lower (Kd.S_new' ho61 (Kd.S_lt z96_)) (below_size z29_))
        have n2_ := Aside0.mk (IsS109.below (show IsS109 w _ g404 x405000_1 7 from by repeat (first | (with_reducible first | exact HI404.out | apply IsS109.alloc | apply IsS109.drewN | apply IsS109.drew | apply IsS109.set_0 | apply IsS109.set_1) | exact HI404.out)) hb)
        have n3_ := Aside0.mk (below_step z29_ hb)
        clear HO_5
        clear HI404
        clear HB
        have HO_5 := n0_
        have HO441 := n1_
        have HI404 := n2_
        have HB := n3_
        clear n0_ n1_ n2_ n3_
        clear hb ho61
        obtain ⟨HGz62, hgz62⟩ := HI404.out
        have hcz62_0 := cellS109_0 HGz62
        have hcz62_1 := cellS109_1 HGz62
        have hfz62_0 := blk_frozen HGz62 0
        have hfz62_1 := blk_frozen HGz62 1
        clear HGz62 hgz62
        refine hK.out _ _ ((cellS109_1 HI404.out.1)) (fun hHeld => ?_)
        clear hK K
        refine zn_ rfl ?_
        refine pure_ (i := 5) (N := some 2) (v := ?_) (a' := ?_) #[true, true, true, true, true, true, false] rfl rfl (by kernel_rfl) (fun _ _ _ h => h) (Or.inl ⟨by rfl, ?_⟩) ?_ ?_
        rotate_left
        ·intro w'
         go_simp
         with_reducible rfl
        rotate_left
        ·simp only [Act.put, List.setIfInBounds_toArray, List.set_cons_zero, List.set_cons_succ, i64_w, i32_w]
         rfl
        refine pure_ (i := 6) (N := some 3) (v := ?_) (a' := ?_) #[true, true, true, true, true, true, true] rfl rfl (by kernel_rfl) (fun _ _ _ h => h) (Or.inl ⟨by rfl, ?_⟩) ?_ ?_
        rotate_left
        ·intro w'
         go_simp
         with_reducible rfl
        rotate_left
        ·simp only [Act.put, List.setIfInBounds_toArray, List.set_cons_zero, List.set_cons_succ, i64_w, i32_w]
         rfl
        refine done_ (by kernel_rfl) ?_
        go_wp2
        go_ret2
        exact ⟨_, z3_, by (with_reducible repeat (first | apply Kd.S_alloc | apply Kd.S_drewN | apply Kd.S_drew)); exact Kd.S_mono HO441.out (fun _ hk => trivial), z29_⟩
      ·replace c56 := Bool.eq_false_iff.mpr c56
       subst c56
       replace H := iff_ H
       by_cases c63 : x405001_1 = 0
       ·rw [if_pos c63] at H
        have c63b0 : (x405001_1 == 0) = true := beq_iff_eq.mpr c63
        have c63b1 : (x405001_1 != 0) = false := bne_eq_false_iff_eq.mpr c63
        clear c63
        simp only [Option.some.injEq, Prod.mk.injEq] at H
        obtain ⟨rfl, rfl⟩ := H
        obtain ⟨HGz64, hgz64⟩ := HI404.out
        have hcz64_0 := cellS109_0 HGz64
        have hcz64_1 := cellS109_1 HGz64
        have hfz64_0 := blk_frozen HGz64 0
        have hfz64_1 := blk_frozen HGz64 1
        clear HGz64 hgz64
        go_wp2
        go_ret2
        exact ⟨_, z3_, z41_, z29_⟩
       ·rw [if_neg c63] at H
        have c63b0 : (x405001_1 == 0) = false := beq_eq_false_iff_ne.mpr c63
        have c63b1 : (x405001_1 != 0) = true := bne_iff_ne.mpr c63
        first | ((with_reducible have hz_ := gy_ H); obtain ⟨y442, Ny442, H⟩ := hz_) | (generalize hy_ : ((([] : List (S100))) : List (S100)) = y442 at H; have Ny442 := Aside0.mk hy_.symm; clear hy_)
        simp only [Option.some.injEq, Prod.mk.injEq] at H
        obtain ⟨rfl, rfl⟩ := H
        obtain ⟨HGz65, hgz65⟩ := HI404.out
        have hcz65_0 := cellS109_0 HGz65
        have hcz65_1 := cellS109_1 HGz65
        have hfz65_0 := blk_frozen HGz65 0
        have hfz65_1 := blk_frozen HGz65 1
        clear HGz65 hgz65
        go_upto_region 19 with (fail)
        refine start_ (n := 7) (S := fun w' => w'.cell? ⟨g404, 1, none⟩ = some (.int .i64 x405001_1)) (ds := []) (fl_ 7 0) (by kernel_rfl) rfl (fl_zero _) ((cellS109_1 HI404.out.1)) (fun hHeld => ?_)
        refine pure_ (i := 1) (N := some 71) (v := ?_) (a' := ?_) #[false, true, false, false, false, false, false] rfl rfl (by kernel_rfl) (fun _ _ _ h => h) (Or.inl ⟨by rfl, ?_⟩) ?_ ?_
        rotate_left
        ·intro w'
         go_simp
         with_reducible rfl
        rotate_left
        ·simp only [Act.put, List.setIfInBounds_toArray, List.set_cons_zero, List.set_cons_succ, i64_w, i32_w]
         rfl
        refine pure_ (i := 2) (N := some 72) (v := ?_) (a' := ?_) #[false, true, true, false, false, false, false] rfl rfl (by kernel_rfl) (fun _ _ _ h => h) (Or.inl ⟨by rfl, ?_⟩) ?_ ?_
        rotate_left
        ·intro w'
         go_simp
         with_reducible rfl
        rotate_left
        ·simp only [Act.put, List.setIfInBounds_toArray, List.set_cons_zero, List.set_cons_succ, i64_w, i32_w]
         rfl
        refine pure_ (i := 3) (N := some 73) (v := ?_) (a' := ?_) #[false, true, true, true, false, false, false] rfl rfl (by kernel_rfl) (fun _ _ _ h => h) (Or.inl ⟨by rfl, ?_⟩) ?_ ?_
        rotate_left
        ·intro w'
         go_simp
         with_reducible rfl
        rotate_left
        ·simp only [Act.put, List.setIfInBounds_toArray, List.set_cons_zero, List.set_cons_succ, i64_w, i32_w]
         rfl
        refine take_ (i := 4) (N := some 74) (v := ?_) (a' := ?_) #[false, true, true, true, true, false, false] rfl rfl (by kernel_rfl) (fun _ _ _ h => h) (Or.inl ⟨by rfl, ?_⟩) hHeld ?_ ?_
        rotate_left
        ·intro w' s0
         go_simp
         with_reducible rfl
        rotate_left
        ·simp only [Act.put, List.setIfInBounds_toArray, List.set_cons_zero, List.set_cons_succ, i64_w, i32_w]
         rfl
        refine one_ (i := 0) (N := some 70) (fl_ 7 5) rfl rfl (by kernel_rfl) (by decide) (fun K hK => ?_)
        refine Kd.S_lit_step k100 _ 100 (by rfl) (N := 70) ?hd (xs := ([] : List (S100))) (inner := []) (ok := fun _ => True) (okp := fun _ => True) ?hr ?hp (fun _ hk => hk) trivial (Below.refl _ _) (Nat.le_refl _) (by simp) ?_
        (case hd => rfl)
        (case hr => exact z10_)
        (case hp => exact z75_)
        intro v443 w66 ho67 hb hg_ hnew_
        clear hg_ hnew_
        (first | rw [← Ny442.out] at ho67 | (simp only [Int.reduceToNat] at ho67; rw [← Ny442.out] at ho67))
        have n0_ := Aside0.mk (Kd.S_elder' z41_ (Kd.S_base ho67) hb)
        have n1_ := Aside0.mk (Kd.S_lower (Kd.S_new' ho67 (Kd.S_lt z41_)) (below_size z29_))
        have n2_ := Aside0.mk (IsS109.below z47_ hb)
        have n3_ := Aside0.mk (below_step z29_ hb)
        clear HO_5
        clear HI404
        clear HB
        have HO_5 := n0_
        have HO444 := n1_
        have HI404 := n2_
        have HB := n3_
        clear n0_ n1_ n2_ n3_
        clear hb ho67
        obtain ⟨HGz68, hgz68⟩ := HI404.out
        have hcz68_0 := cellS109_0 HGz68
        have hcz68_1 := cellS109_1 HGz68
        have hfz68_0 := blk_frozen HGz68 0
        have hfz68_1 := blk_frozen HGz68 1
        clear HGz68 hgz68
        refine hK.out _ _ ((cellS109_1 HI404.out.1)) (fun hHeld => ?_)
        clear hK K
        refine zn_ rfl ?_
        refine pure_ (i := 5) (N := some 2) (v := ?_) (a' := ?_) #[true, true, true, true, true, true, false] rfl rfl (by kernel_rfl) (fun _ _ _ h => h) (Or.inl ⟨by rfl, ?_⟩) ?_ ?_
        rotate_left
        ·intro w'
         go_simp
         with_reducible rfl
        rotate_left
        ·simp only [Act.put, List.setIfInBounds_toArray, List.set_cons_zero, List.set_cons_succ, i64_w, i32_w]
         rfl
        refine pure_ (i := 6) (N := some 3) (v := ?_) (a' := ?_) #[true, true, true, true, true, true, true] rfl rfl (by kernel_rfl) (fun _ _ _ h => h) (Or.inl ⟨by rfl, ?_⟩) ?_ ?_
        rotate_left
        ·intro w'
         go_simp
         with_reducible rfl
        rotate_left
        ·simp only [Act.put, List.setIfInBounds_toArray, List.set_cons_zero, List.set_cons_succ, i64_w, i32_w]
         rfl
        refine done_ (by kernel_rfl) ?_
        go_wp2
        go_ret2
        exact ⟨_, z3_, by (with_reducible repeat (first | apply Kd.S_alloc | apply Kd.S_drewN | apply Kd.S_drew)); exact Kd.S_mono HO444.out (fun _ hk => trivial), z29_⟩

end Go.Proofs.Ytbiffnahknkoiaa.PFnExactPatch
