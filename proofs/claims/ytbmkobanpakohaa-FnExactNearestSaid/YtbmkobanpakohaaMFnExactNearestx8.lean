/- Laid by a program of this session out of the kit's print for the law FnExactNearest: what it says of the machine is proved here, function by function; each contract under the conditions that it names. -/
import Derived.Test.YtbmkobanpakohaaMFnExactNearestx0
import Derived.Test.YtbmkobanpakohaaMFnExactNearestx4
import Derived.Test.YtbmkobanpakohaaMFnExactNearestx5
import Derived.Test.YtbmkobanpakohaaMFnExactNearestx6
import Derived.Test.YtbmkobanpakohaaMFnExactNearestx7
namespace Go.Proofs.Ytbmkobanpakohaa.PFnExactNearest
open Go.RowKit Go.Proofs.YtbmkobanpakohaaW.PrintWords Go.Proofs.YtbmkobanpakohaaW.PrintLast Go.Proofs.YtbmkobanpakohaaW.PrintMore
attribute [local go_sem] max2_int min2_int max_two min_two max_three min_three max_four min_four   -- for this text's walks alone
set_option linter.unusedVariables false
set_option linter.unusedSimpArgs false

/-! ### spec_l8All: function 62 -/
mutual
def spec_l8All.l0 : Nat → List Int → List Int → List Int → List Int → Int → List Int → List Int → List Int → List Int → List Int → List Int → List Int → Option (List Int × List Int)
 | 0, _, _, _, _, _, _, _, _, _, _, _, _ => none
 | k + 1, x8, x9, x11, x12, x13, x305000, x305001, x305002, x305003, x305004, x305005, x305006 => if x13 < (x11.length : Int) then (spec_l8All.l1 k x8 x9 x11 x12 x13 0 x305000 x305001 x305002 x305003 x305004 x305005 x305006) else (some (x8, x9))
def spec_l8All.l1 : Nat → List Int → List Int → List Int → List Int → Int → Int → List Int → List Int → List Int → List Int → List Int → List Int → List Int → Option (List Int × List Int)
 | 0, _, _, _, _, _, _, _, _, _, _, _, _, _ => none
 | k + 1, x8, x9, x11, x12, x13, x14, x305000, x305001, x305002, x305003, x305004, x305005, x305006 => if x14 < (x12.length : Int) then (if 0 ≤ x13 then (if x13 < (x11.length : Int) then (if 0 ≤ x14 then ((spec_l8Forest.f k x305000 x305001 x305002 x305003 x305004 x305005 x305006 (rd x11 x13) (rd x12 x14) x8).bind fun bt313 => (spec_l8All.l1 k bt313.2 bt313.1 x11 x12 x13 (wrap64 (x14 + 1)) x305000 x305001 x305002 x305003 x305004 x305005 x305006)) else (none)) else (none)) else (none)) else (spec_l8All.l0 k x8 x9 x11 x12 (wrap64 (x13 + 1)) x305000 x305001 x305002 x305003 x305004 x305005 x305006)
end
def spec_l8All.f (k : Nat) (l0 : List (S61)) (l1 : List (S61)) (l2_0 : List Int) (l2_1 : List Int) (l2_2 : List Int) : Option (List Int × List Int) := if 0 ≤ (wrap64 ((l0.length : Int) * (l1.length : Int))) then (if (wrap64 ((l0.length : Int) * (l1.length : Int)) : Int).toNat ≤ 35184372088832 then ((spec_l8Labels.f k l0).bind fun t292 => ((spec_l8Labels.f k l1).bind fun t295 => ((spec_LeftLeaf.f k l0).bind fun t298 => ((spec_LeftLeaf.f k l1).bind fun t301 => ((spec_KeyRoots.f k l0).bind fun t305 => ((spec_KeyRoots.f k l1).bind fun t308 => (spec_l8All.l0 k (List.replicate (wrap64 ((l0.length : Int) * (l1.length : Int)) : Int).toNat 0) (([] : List Int)) t305 t308 0 t292 t295 t298 t301 l2_0 l2_1 l2_2))))))) else (none)) else (none)
def spec_l8All.T3 : Bool × List (List Nat × List Nat) := (true, [([], []), ([0], [0]), ([], []), ([2, 1], [2]), ([], []), ([4, 3], [4]), ([], []), ([6, 5], [6]), ([], []), ([1, 3, 5, 7, 8], [1, 3, 5, 7, 8]), ([], []), ([10, 9, 7, 0, 1, 2, 3, 4, 5, 6, 7, 8, 9, 10], [9, 10])])
def spec_l8All.B3 : List Nat := [0, 1, 0, 7, 0, 31, 0, 127, 0, 511, 0, 2047]
theorem spec_l8All.tab3 : rtab .any (opsOf Try.f62 3) = spec_l8All.T3 := by kernel_rfl
theorem spec_l8All.bits3 : waitsOk spec_l8All.T3.2 spec_l8All.B3 = true := by kernel_rfl
def spec_l8All.T12 : Bool × List (List Nat × List Nat) := (true, [([], []), ([], []), ([], []), ([1, 2], [1, 2]), ([3], [3]), ([], []), ([], []), ([5, 6], [5, 6]), ([7], [7]), ([], []), ([0, 4, 8, 9], [0, 4, 8, 9]), ([10, 10, 0, 1, 2, 3, 4, 5, 6, 7, 8, 9, 10], [10])])
def spec_l8All.B12 : List Nat := [0, 0, 0, 6, 14, 0, 0, 96, 224, 0, 1023, 2047]
theorem spec_l8All.tab12 : rtab .any (opsOf Try.f62 12) = spec_l8All.T12 := by kernel_rfl
theorem spec_l8All.bits12 : waitsOk spec_l8All.T12.2 spec_l8All.B12 = true := by kernel_rfl
set_option maxHeartbeats 8000000 in
set_option maxRecDepth 100000 in
theorem spec_l8All.calls (k : Nat) (A0 : Option Addr) (c0 : Nat) (l0 : List (S61)) (A1 : Option Addr) (c1 : Nat) (l1 : List (S61)) (A2_0 : Option Addr) (c2_0 : Nat) (l2_0 : List Int) (A2_1 : Option Addr) (c2_1 : Nat) (l2_1 : List Int) (A2_2 : Option Addr) (c2_2 : Nat) (l2_2 : List Int) (r1 : List Int) (r2 : List Int) (w : World) (hr0 : Kd.C k61 w A0 l0.length l0) (hc0 : l0.length ≤ c0) (hr1 : Kd.C k61 w A1 l1.length l1) (hc1 : l1.length ≤ c1) (hr2_0 : Kd.C (Kd.int .i64) w A2_0 l2_0.length l2_0) (hc2_0 : l2_0.length ≤ c2_0) (hr2_1 : Kd.C (Kd.int .i64) w A2_1 l2_1.length l2_1) (hc2_1 : l2_1.length ≤ c2_1) (hr2_2 : Kd.C (Kd.int .i64) w A2_2 l2_2.length l2_2) (hc2_2 : l2_2.length ≤ c2_2) (h : spec_l8All.f k l0 l1 l2_0 l2_1 l2_2 = some (r1, r2)) :
  Calls Try.prog 62 #[.slice A0 l0.length c0, .slice A1 l1.length c1, .agg #[.slice A2_0 l2_0.length c2_0, .slice A2_1 l2_1.length c2_1, .slice A2_2 l2_2.length c2_2]] w fun e w' => ∃ v0_ v1_ : Value, e = .returned (.tuple #[v0_, v1_]) ∧ Kd.R (Kd.int .i64) 3 w' w.heap.size (fun k_ => some k_ ≠ (v1_ : Value).ownBlock) v0_ r1 ∧ Kd.R (Kd.int .i64) 3 w' w.heap.size (fun k_ => some k_ ≠ (v0_ : Value).ownBlock) v1_ r2 ∧ Below w.heap.size w w' := by
 have hu38 := Try.underlying38
 have hu105 := Try.underlying105
 have HR0 := Aside0.mk hr0
 have HC0 := Aside0.mk hc0
 clear hr0 hc0
 have HR1 := Aside0.mk hr1
 have HC1 := Aside0.mk hc1
 clear hr1 hc1
 have HR2_0 := Aside0.mk hr2_0
 have HC2_0 := Aside0.mk hc2_0
 clear hr2_0 hc2_0
 have HR2_1 := Aside0.mk hr2_1
 have HC2_1 := Aside0.mk hc2_1
 clear hr2_1 hc2_1
 have HR2_2 := Aside0.mk hr2_2
 have HC2_2 := Aside0.mk hc2_2
 clear hr2_2 hc2_2
 have HB := Aside0.mk (Below.refl w.heap.size w)
 have H : (if 0 ≤ (wrap64 ((l0.length : Int) * (l1.length : Int))) then (if (wrap64 ((l0.length : Int) * (l1.length : Int)) : Int).toNat ≤ 35184372088832 then ((spec_l8Labels.f k l0).bind fun t292 => ((spec_l8Labels.f k l1).bind fun t295 => ((spec_LeftLeaf.f k l0).bind fun t298 => ((spec_LeftLeaf.f k l1).bind fun t301 => ((spec_KeyRoots.f k l0).bind fun t305 => ((spec_KeyRoots.f k l1).bind fun t308 => (spec_l8All.l0 k (List.replicate (wrap64 ((l0.length : Int) * (l1.length : Int)) : Int).toNat 0) (([] : List Int)) t305 t308 0 t292 t295 t298 t301 l2_0 l2_1 l2_2))))))) else (none)) else (none)) = some (r1, r2) := h
 clear h
 obtain ⟨ji4, hji4⟩ : ∃ j_ : Int, (wrap64 ((l0.length : Int) * (l1.length : Int))) = j_ := ⟨_, rfl⟩
 first | rw [hji4] at H | simp only [hji4] at H
 have hji4w : (IntKind.i64.wrap ((l0.length : Int) * (l1.length : Int))) = ji4 := (i64_w _).trans hji4
 obtain ⟨c5b0, c5b1, H⟩ := ife_ H
 obtain ⟨c6b0, c6b1, H⟩ := ife_ H
 first | ((with_reducible have hz_ := gy_ H); obtain ⟨y286, Ny286, H⟩ := hz_) | (generalize hy_ : ((List.replicate (ji4 : Int).toNat 0) : List Int) = y286 at H; have Ny286 := Aside0.mk hy_.symm; clear hy_)
 first | ((with_reducible have hz_ := gy_ H); obtain ⟨y289, Ny289, H⟩ := hz_) | (generalize hy_ : ((([] : List Int)) : List Int) = y289 at H; have Ny289 := Aside0.mk hy_.symm; clear hy_)
 obtain ⟨t292, A7, H⟩ := bnd_ H
 obtain ⟨t295, A8, H⟩ := bnd_ H
 obtain ⟨t298, A9, H⟩ := bnd_ H
 obtain ⟨t301, A10, H⟩ := bnd_ H
 obtain ⟨t305, A11, H⟩ := bnd_ H
 obtain ⟨t308, A12, H⟩ := bnd_ H
 have H' := Aside0.mk H
 clear H
 go_enter Try.func62, Try.ntmps62
 try go_wp2_with (first | ((with_reducible refine gate_dst (N := 5) rfl ?_); refine box_event ?hg (N := 5) ?hd (cs := #[.slice A2_0 l2_0.length c2_0, .slice A2_1 l2_1.length c2_1, .slice A2_2 l2_2.length c2_2]) (t := 38) ?hr ?_; (case hd => rfl); (case hg => rfl); (case hr => exact z9_); intro gb285 hg w13 hbox hb; have BK285 := Aside0.mk (hbox); have GW285 := Aside0.mk ((by rw [hg]; exact (below_size z0_) : w.heap.size ≤ gb285)); have GE285 := Aside0.mk ((by rw [hg]; exact (below_size z0_) : w.heap.size ≤ gb285)); replace HB := Aside0.mk (below_step z0_ hb); clear hb hbox hg) | ((with_reducible refine gate_dst (N := 20) rfl ?_); refine Kd.R_make (Kd.int .i64) _ 3 rfl (N := 20) rfl 30 _ _ rfl ji4 rfl rfl Try.underlying30 (.int .i64 0) 8 info3 rfl (by decide) (by omega) 0 (ok := fun _ => True) (okp := fun _ => True) rfl (fun _ hk => hk) trivial (odt_) (Nat.le_trans (Nat.mul_le_mul_right _ (odt_ : ji4.toNat ≤ 35184372088832)) (by omega)) (Below.refl _ _) (Nat.le_refl _) ?_; intro v287 w14 ho15 hb hg_ hnew_; clear hg_ hnew_; (first | rw [← Ny286.out] at ho15 | (simp only [Int.reduceToNat] at ho15; rw [← Ny286.out] at ho15)); have HO288 := Aside0.mk (Kd.R_lower ho15 (below_size z8_)); replace BK285 := Aside0.mk (blk_below z7_ hb); replace HB := Aside0.mk (below_step z8_ hb); clear hb ho15) | ((with_reducible refine gate_dst (N := 21) rfl ?_); refine Kd.R_lit (Kd.int .i64) _ 3 ?hg (N := 21) ?hd (xs := ([] : List Int)) (inner := []) (ok := fun _ => True) (okp := fun _ => True) ?hr ?hp (fun _ hk => hk) trivial (Below.refl _ _) (Nat.le_refl _) (by simp) ?_; (case hd => rfl); (case hg => rfl); (case hr => exact z9_); (case hp => exact z196_); intro v290 w16 ho17 hb hg_ hnew_; clear hg_ hnew_; (first | rw [← Ny289.out] at ho17 | (simp only [Int.reduceToNat] at ho17; rw [← Ny289.out] at ho17)); have HO291 := Aside0.mk (Kd.R_lower (Kd.R_new' ho17 (Kd.R_lt z17_)) (below_size z8_)); replace HO288 := Aside0.mk (Kd.R_elder' z17_ (Kd.R_base ho17) hb); replace BK285 := Aside0.mk (blk_below z7_ hb); replace HB := Aside0.mk (below_step z8_ hb); clear hb ho17))
 have n0_ := Aside0.mk (Kd.R_drew HO288.out)
 have n1_ := Aside0.mk (Kd.R_drew HO291.out)
 have n2_ := Aside0.mk (blk_drew BK285.out)
 have n3_ := Aside0.mk (below_drew1 HB.out)
 clear HO288
 clear HO291
 clear BK285
 clear HB
 have HO288 := n0_
 have HO291 := n1_
 have BK285 := n2_
 have HB := n3_
 clear n0_ n1_ n2_ n3_
 refine start_ (n := 12) (S := fun w' => w'.cell? ⟨gb285, 0, none⟩ = some (.slice A2_0 l2_0.length c2_0) ∧ w'.cell? ⟨gb285, 1, none⟩ = some (.slice A2_1 l2_1.length c2_1) ∧ w'.cell? ⟨gb285, 2, none⟩ = some (.slice A2_2 l2_2.length c2_2)) (ds := []) (fl_ 12 0) (by kernel_rfl) rfl (fl_zero _) ⟨(blk_cell BK285.out 0).trans rfl, (blk_cell BK285.out 1).trans rfl, (blk_cell BK285.out 2).trans rfl⟩ (fun hHeld => ?_); refine with_tabW spec_l8All.tab3 spec_l8All.bits3 (fun HT_ HW_ => ?_)
 generalize w16.drew = w18 at HO288 HO291 BK285 HB hHeld ⊢
 refine zp_ HT_ rfl rfl (by kernel_rfl) (fun _ _ _ h => h) (by rfl) ?_
 refine zpg_ (i := 2) (ra_ [1, 1, 1, 9]) HT_ rfl rfl (by kernel_rfl) (fun _ _ _ h => h) (by rfl) ?_
 refine zpg_ (i := 4) (ra_ [1, 1, 1, 1, 1, 7]) HT_ rfl rfl (by kernel_rfl) (fun _ _ _ h => h) (by rfl) ?_
 refine zpg_ (i := 6) (ra_ [1, 1, 1, 1, 1, 1, 1, 5]) HT_ rfl rfl (by kernel_rfl) (fun _ _ _ h => h) (by rfl) ?_
 refine ztg_ (i := 8) (ra_ [1, 1, 1, 1, 1, 1, 1, 1, 1, 3]) HT_ HW_ rfl rfl (by kernel_rfl) (fun _ _ _ h => h) (by rfl) hHeld ?_ (by rintro w' ⟨s0, s1, s2⟩; go_simp; with_reducible rfl)
 refine join_ (σ := Value × Value × Value × Value × Nat) 1 #[true, true, true, true, true, true, true, true, true, true, true, false] (fun s_ => [(23, s_.1), (25, s_.2.1), (27, s_.2.2.1), (29, s_.2.2.2.1), (10, .pointer (some ⟨s_.2.2.2.2, 0, none⟩)), (31, .agg #[s_.1, s_.2.1, s_.2.2.1, s_.2.2.2.1, .slice A2_0 l2_0.length c2_0, .slice A2_1 l2_1.length c2_1, .slice A2_2 l2_2.length c2_2])]) (fun s_ w' => (w'.cell? ⟨gb285, 0, none⟩ = some (.slice A2_0 l2_0.length c2_0) ∧ w'.cell? ⟨gb285, 1, none⟩ = some (.slice A2_1 l2_1.length c2_1) ∧ w'.cell? ⟨gb285, 2, none⟩ = some (.slice A2_2 l2_2.length c2_2)) ∧ (Kd.R (Kd.int .i64) 3 w' w.heap.size (fun k_ => some k_ ≠ (v290 : Value).ownBlock ∧ some k_ ≠ (s_.1 : Value).ownBlock ∧ some k_ ≠ (s_.2.1 : Value).ownBlock ∧ some k_ ≠ (s_.2.2.1 : Value).ownBlock ∧ some k_ ≠ (s_.2.2.2.1 : Value).ownBlock) v287 y286) ∧ (Kd.R (Kd.int .i64) 3 w' w.heap.size (fun k_ => some k_ ≠ (v287 : Value).ownBlock ∧ some k_ ≠ (s_.1 : Value).ownBlock ∧ some k_ ≠ (s_.2.1 : Value).ownBlock ∧ some k_ ≠ (s_.2.2.1 : Value).ownBlock ∧ some k_ ≠ (s_.2.2.2.1 : Value).ownBlock) v290 y289) ∧ (Kd.R (Kd.int .i64) 3 w' w.heap.size (fun k_ => some k_ ≠ (v287 : Value).ownBlock ∧ some k_ ≠ (v290 : Value).ownBlock ∧ some k_ ≠ (s_.2.1 : Value).ownBlock ∧ some k_ ≠ (s_.2.2.1 : Value).ownBlock ∧ some k_ ≠ (s_.2.2.2.1 : Value).ownBlock) s_.1 t292) ∧ (Kd.R (Kd.int .i64) 3 w' w.heap.size (fun k_ => some k_ ≠ (v287 : Value).ownBlock ∧ some k_ ≠ (v290 : Value).ownBlock ∧ some k_ ≠ (s_.1 : Value).ownBlock ∧ some k_ ≠ (s_.2.2.1 : Value).ownBlock ∧ some k_ ≠ (s_.2.2.2.1 : Value).ownBlock) s_.2.1 t295) ∧ (Kd.R (Kd.int .i64) 3 w' w.heap.size (fun k_ => some k_ ≠ (v287 : Value).ownBlock ∧ some k_ ≠ (v290 : Value).ownBlock ∧ some k_ ≠ (s_.1 : Value).ownBlock ∧ some k_ ≠ (s_.2.1 : Value).ownBlock ∧ some k_ ≠ (s_.2.2.2.1 : Value).ownBlock) s_.2.2.1 t298) ∧ (Kd.R (Kd.int .i64) 3 w' w.heap.size (fun k_ => some k_ ≠ (v287 : Value).ownBlock ∧ some k_ ≠ (v290 : Value).ownBlock ∧ some k_ ≠ (s_.1 : Value).ownBlock ∧ some k_ ≠ (s_.2.1 : Value).ownBlock ∧ some k_ ≠ (s_.2.2.1 : Value).ownBlock) s_.2.2.2.1 t301) ∧ (w'.heap[gb285]? = some (.cells #[.slice A2_0 l2_0.length c2_0, .slice A2_1 l2_1.length c2_1, .slice A2_2 l2_2.length c2_2] 38 (0, 0))) ∧ (w'.heap[s_.2.2.2.2]? = some (.cells #[.slice none 0 0, .slice none 0 0, .slice none 0 0, .slice none 0 0, .slice none 0 0, .slice none 0 0, .slice none 0 0] 105 (0, 0))) ∧ (w.heap.size ≤ s_.2.2.2.2) ∧ (w.heap.size ≤ s_.2.2.2.2) ∧ (gb285 ≠ s_.2.2.2.2) ∧ (s_.2.2.2.2 ≠ gb285) ∧ (Below w.heap.size w w')) ?_ ?_
 rotate_left
 ·intro hJ1_3_5_7_10
  refine join_ (σ := Value × Value × Value × Value) 2 #[true, true, true, true, true, true, true, true, true, true, false, false] (fun s_ => [(23, s_.1), (25, s_.2.1), (27, s_.2.2.1), (29, s_.2.2.2), (31, .agg #[s_.1, s_.2.1, s_.2.2.1, s_.2.2.2, .slice A2_0 l2_0.length c2_0, .slice A2_1 l2_1.length c2_1, .slice A2_2 l2_2.length c2_2])]) (fun s_ w' => (w'.cell? ⟨gb285, 0, none⟩ = some (.slice A2_0 l2_0.length c2_0) ∧ w'.cell? ⟨gb285, 1, none⟩ = some (.slice A2_1 l2_1.length c2_1) ∧ w'.cell? ⟨gb285, 2, none⟩ = some (.slice A2_2 l2_2.length c2_2)) ∧ (Kd.R (Kd.int .i64) 3 w' w.heap.size (fun k_ => some k_ ≠ (v290 : Value).ownBlock ∧ some k_ ≠ (s_.1 : Value).ownBlock ∧ some k_ ≠ (s_.2.1 : Value).ownBlock ∧ some k_ ≠ (s_.2.2.1 : Value).ownBlock ∧ some k_ ≠ (s_.2.2.2 : Value).ownBlock) v287 y286) ∧ (Kd.R (Kd.int .i64) 3 w' w.heap.size (fun k_ => some k_ ≠ (v287 : Value).ownBlock ∧ some k_ ≠ (s_.1 : Value).ownBlock ∧ some k_ ≠ (s_.2.1 : Value).ownBlock ∧ some k_ ≠ (s_.2.2.1 : Value).ownBlock ∧ some k_ ≠ (s_.2.2.2 : Value).ownBlock) v290 y289) ∧ (Kd.R (Kd.int .i64) 3 w' w.heap.size (fun k_ => some k_ ≠ (v287 : Value).ownBlock ∧ some k_ ≠ (v290 : Value).ownBlock ∧ some k_ ≠ (s_.2.1 : Value).ownBlock ∧ some k_ ≠ (s_.2.2.1 : Value).ownBlock ∧ some k_ ≠ (s_.2.2.2 : Value).ownBlock) s_.1 t292) ∧ (Kd.R (Kd.int .i64) 3 w' w.heap.size (fun k_ => some k_ ≠ (v287 : Value).ownBlock ∧ some k_ ≠ (v290 : Value).ownBlock ∧ some k_ ≠ (s_.1 : Value).ownBlock ∧ some k_ ≠ (s_.2.2.1 : Value).ownBlock ∧ some k_ ≠ (s_.2.2.2 : Value).ownBlock) s_.2.1 t295) ∧ (Kd.R (Kd.int .i64) 3 w' w.heap.size (fun k_ => some k_ ≠ (v287 : Value).ownBlock ∧ some k_ ≠ (v290 : Value).ownBlock ∧ some k_ ≠ (s_.1 : Value).ownBlock ∧ some k_ ≠ (s_.2.1 : Value).ownBlock ∧ some k_ ≠ (s_.2.2.2 : Value).ownBlock) s_.2.2.1 t298) ∧ (Kd.R (Kd.int .i64) 3 w' w.heap.size (fun k_ => some k_ ≠ (v287 : Value).ownBlock ∧ some k_ ≠ (v290 : Value).ownBlock ∧ some k_ ≠ (s_.1 : Value).ownBlock ∧ some k_ ≠ (s_.2.1 : Value).ownBlock ∧ some k_ ≠ (s_.2.2.1 : Value).ownBlock) s_.2.2.2 t301) ∧ (w'.heap[gb285]? = some (.cells #[.slice A2_0 l2_0.length c2_0, .slice A2_1 l2_1.length c2_1, .slice A2_2 l2_2.length c2_2] 38 (0, 0))) ∧ (Below w.heap.size w w')) ?_ ?_
  rotate_left
  ·intro hJ1_3_5_7
   refine join_ (σ := Value × Value × Value × Nat) 3 #[true, true, true, true, true, true, true, false, true, false, true, false] (fun s_ => [(23, s_.1), (25, s_.2.1), (27, s_.2.2.1), (10, .pointer (some ⟨s_.2.2.2, 0, none⟩))]) (fun s_ w' => (w'.cell? ⟨gb285, 0, none⟩ = some (.slice A2_0 l2_0.length c2_0) ∧ w'.cell? ⟨gb285, 1, none⟩ = some (.slice A2_1 l2_1.length c2_1) ∧ w'.cell? ⟨gb285, 2, none⟩ = some (.slice A2_2 l2_2.length c2_2)) ∧ (Kd.R (Kd.int .i64) 3 w' w.heap.size (fun k_ => some k_ ≠ (v290 : Value).ownBlock ∧ some k_ ≠ (s_.1 : Value).ownBlock ∧ some k_ ≠ (s_.2.1 : Value).ownBlock ∧ some k_ ≠ (s_.2.2.1 : Value).ownBlock) v287 y286) ∧ (Kd.R (Kd.int .i64) 3 w' w.heap.size (fun k_ => some k_ ≠ (v287 : Value).ownBlock ∧ some k_ ≠ (s_.1 : Value).ownBlock ∧ some k_ ≠ (s_.2.1 : Value).ownBlock ∧ some k_ ≠ (s_.2.2.1 : Value).ownBlock) v290 y289) ∧ (Kd.R (Kd.int .i64) 3 w' w.heap.size (fun k_ => some k_ ≠ (v287 : Value).ownBlock ∧ some k_ ≠ (v290 : Value).ownBlock ∧ some k_ ≠ (s_.2.1 : Value).ownBlock ∧ some k_ ≠ (s_.2.2.1 : Value).ownBlock) s_.1 t292) ∧ (Kd.R (Kd.int .i64) 3 w' w.heap.size (fun k_ => some k_ ≠ (v287 : Value).ownBlock ∧ some k_ ≠ (v290 : Value).ownBlock ∧ some k_ ≠ (s_.1 : Value).ownBlock ∧ some k_ ≠ (s_.2.2.1 : Value).ownBlock) s_.2.1 t295) ∧ (Kd.R (Kd.int .i64) 3 w' w.heap.size (fun k_ => some k_ ≠ (v287 : Value).ownBlock ∧ some k_ ≠ (v290 : Value).ownBlock ∧ some k_ ≠ (s_.1 : Value).ownBlock ∧ some k_ ≠ (s_.2.1 : Value).ownBlock) s_.2.2.1 t298) ∧ (w'.heap[gb285]? = some (.cells #[.slice A2_0 l2_0.length c2_0, .slice A2_1 l2_1.length c2_1, .slice A2_2 l2_2.length c2_2] 38 (0, 0))) ∧ (w'.heap[s_.2.2.2]? = some (.cells #[.slice none 0 0, .slice none 0 0, .slice none 0 0, .slice none 0 0, .slice none 0 0, .slice none 0 0, .slice none 0 0] 105 (0, 0))) ∧ (w.heap.size ≤ s_.2.2.2) ∧ (w.heap.size ≤ s_.2.2.2) ∧ (gb285 ≠ s_.2.2.2) ∧ (s_.2.2.2 ≠ gb285) ∧ (Below w.heap.size w w')) ?_ ?_
   rotate_left
   ·intro hJ1_3_5_10
    refine join_ (σ := Value × Value × Value) 4 #[true, true, true, true, true, true, true, false, true, false, false, false] (fun s_ => [(23, s_.1), (25, s_.2.1), (27, s_.2.2)]) (fun s_ w' => (w'.cell? ⟨gb285, 0, none⟩ = some (.slice A2_0 l2_0.length c2_0) ∧ w'.cell? ⟨gb285, 1, none⟩ = some (.slice A2_1 l2_1.length c2_1) ∧ w'.cell? ⟨gb285, 2, none⟩ = some (.slice A2_2 l2_2.length c2_2)) ∧ (Kd.R (Kd.int .i64) 3 w' w.heap.size (fun k_ => some k_ ≠ (v290 : Value).ownBlock ∧ some k_ ≠ (s_.1 : Value).ownBlock ∧ some k_ ≠ (s_.2.1 : Value).ownBlock ∧ some k_ ≠ (s_.2.2 : Value).ownBlock) v287 y286) ∧ (Kd.R (Kd.int .i64) 3 w' w.heap.size (fun k_ => some k_ ≠ (v287 : Value).ownBlock ∧ some k_ ≠ (s_.1 : Value).ownBlock ∧ some k_ ≠ (s_.2.1 : Value).ownBlock ∧ some k_ ≠ (s_.2.2 : Value).ownBlock) v290 y289) ∧ (Kd.R (Kd.int .i64) 3 w' w.heap.size (fun k_ => some k_ ≠ (v287 : Value).ownBlock ∧ some k_ ≠ (v290 : Value).ownBlock ∧ some k_ ≠ (s_.2.1 : Value).ownBlock ∧ some k_ ≠ (s_.2.2 : Value).ownBlock) s_.1 t292) ∧ (Kd.R (Kd.int .i64) 3 w' w.heap.size (fun k_ => some k_ ≠ (v287 : Value).ownBlock ∧ some k_ ≠ (v290 : Value).ownBlock ∧ some k_ ≠ (s_.1 : Value).ownBlock ∧ some k_ ≠ (s_.2.2 : Value).ownBlock) s_.2.1 t295) ∧ (Kd.R (Kd.int .i64) 3 w' w.heap.size (fun k_ => some k_ ≠ (v287 : Value).ownBlock ∧ some k_ ≠ (v290 : Value).ownBlock ∧ some k_ ≠ (s_.1 : Value).ownBlock ∧ some k_ ≠ (s_.2.1 : Value).ownBlock) s_.2.2 t298) ∧ (w'.heap[gb285]? = some (.cells #[.slice A2_0 l2_0.length c2_0, .slice A2_1 l2_1.length c2_1, .slice A2_2 l2_2.length c2_2] 38 (0, 0))) ∧ (Below w.heap.size w w')) ?_ ?_
    rotate_left
    ·intro hJ1_3_5
     refine join_ (σ := Value × Value × Nat) 4 #[true, true, true, true, true, false, true, false, true, false, true, false] (fun s_ => [(23, s_.1), (25, s_.2.1), (10, .pointer (some ⟨s_.2.2, 0, none⟩))]) (fun s_ w' => (w'.cell? ⟨gb285, 0, none⟩ = some (.slice A2_0 l2_0.length c2_0) ∧ w'.cell? ⟨gb285, 1, none⟩ = some (.slice A2_1 l2_1.length c2_1) ∧ w'.cell? ⟨gb285, 2, none⟩ = some (.slice A2_2 l2_2.length c2_2)) ∧ (Kd.R (Kd.int .i64) 3 w' w.heap.size (fun k_ => some k_ ≠ (v290 : Value).ownBlock ∧ some k_ ≠ (s_.1 : Value).ownBlock ∧ some k_ ≠ (s_.2.1 : Value).ownBlock) v287 y286) ∧ (Kd.R (Kd.int .i64) 3 w' w.heap.size (fun k_ => some k_ ≠ (v287 : Value).ownBlock ∧ some k_ ≠ (s_.1 : Value).ownBlock ∧ some k_ ≠ (s_.2.1 : Value).ownBlock) v290 y289) ∧ (Kd.R (Kd.int .i64) 3 w' w.heap.size (fun k_ => some k_ ≠ (v287 : Value).ownBlock ∧ some k_ ≠ (v290 : Value).ownBlock ∧ some k_ ≠ (s_.2.1 : Value).ownBlock) s_.1 t292) ∧ (Kd.R (Kd.int .i64) 3 w' w.heap.size (fun k_ => some k_ ≠ (v287 : Value).ownBlock ∧ some k_ ≠ (v290 : Value).ownBlock ∧ some k_ ≠ (s_.1 : Value).ownBlock) s_.2.1 t295) ∧ (w'.heap[gb285]? = some (.cells #[.slice A2_0 l2_0.length c2_0, .slice A2_1 l2_1.length c2_1, .slice A2_2 l2_2.length c2_2] 38 (0, 0))) ∧ (w'.heap[s_.2.2]? = some (.cells #[.slice none 0 0, .slice none 0 0, .slice none 0 0, .slice none 0 0, .slice none 0 0, .slice none 0 0, .slice none 0 0] 105 (0, 0))) ∧ (w.heap.size ≤ s_.2.2) ∧ (w.heap.size ≤ s_.2.2) ∧ (gb285 ≠ s_.2.2) ∧ (s_.2.2 ≠ gb285) ∧ (Below w.heap.size w w')) ?_ ?_
     rotate_left
     ·intro hJ1_3_10
      refine join_ (σ := Value × Value) 5 #[true, true, true, true, true, false, true, false, true, false, false, false] (fun s_ => [(23, s_.1), (25, s_.2)]) (fun s_ w' => (w'.cell? ⟨gb285, 0, none⟩ = some (.slice A2_0 l2_0.length c2_0) ∧ w'.cell? ⟨gb285, 1, none⟩ = some (.slice A2_1 l2_1.length c2_1) ∧ w'.cell? ⟨gb285, 2, none⟩ = some (.slice A2_2 l2_2.length c2_2)) ∧ (Kd.R (Kd.int .i64) 3 w' w.heap.size (fun k_ => some k_ ≠ (v290 : Value).ownBlock ∧ some k_ ≠ (s_.1 : Value).ownBlock ∧ some k_ ≠ (s_.2 : Value).ownBlock) v287 y286) ∧ (Kd.R (Kd.int .i64) 3 w' w.heap.size (fun k_ => some k_ ≠ (v287 : Value).ownBlock ∧ some k_ ≠ (s_.1 : Value).ownBlock ∧ some k_ ≠ (s_.2 : Value).ownBlock) v290 y289) ∧ (Kd.R (Kd.int .i64) 3 w' w.heap.size (fun k_ => some k_ ≠ (v287 : Value).ownBlock ∧ some k_ ≠ (v290 : Value).ownBlock ∧ some k_ ≠ (s_.2 : Value).ownBlock) s_.1 t292) ∧ (Kd.R (Kd.int .i64) 3 w' w.heap.size (fun k_ => some k_ ≠ (v287 : Value).ownBlock ∧ some k_ ≠ (v290 : Value).ownBlock ∧ some k_ ≠ (s_.1 : Value).ownBlock) s_.2 t295) ∧ (w'.heap[gb285]? = some (.cells #[.slice A2_0 l2_0.length c2_0, .slice A2_1 l2_1.length c2_1, .slice A2_2 l2_2.length c2_2] 38 (0, 0))) ∧ (Below w.heap.size w w')) ?_ ?_
      rotate_left
      ·intro hJ1_3
       refine join_ (σ := Value × Nat) 5 #[true, true, true, false, true, false, true, false, true, false, true, false] (fun s_ => [(23, s_.1), (10, .pointer (some ⟨s_.2, 0, none⟩))]) (fun s_ w' => (w'.cell? ⟨gb285, 0, none⟩ = some (.slice A2_0 l2_0.length c2_0) ∧ w'.cell? ⟨gb285, 1, none⟩ = some (.slice A2_1 l2_1.length c2_1) ∧ w'.cell? ⟨gb285, 2, none⟩ = some (.slice A2_2 l2_2.length c2_2)) ∧ (Kd.R (Kd.int .i64) 3 w' w.heap.size (fun k_ => some k_ ≠ (v290 : Value).ownBlock ∧ some k_ ≠ (s_.1 : Value).ownBlock) v287 y286) ∧ (Kd.R (Kd.int .i64) 3 w' w.heap.size (fun k_ => some k_ ≠ (v287 : Value).ownBlock ∧ some k_ ≠ (s_.1 : Value).ownBlock) v290 y289) ∧ (Kd.R (Kd.int .i64) 3 w' w.heap.size (fun k_ => some k_ ≠ (v287 : Value).ownBlock ∧ some k_ ≠ (v290 : Value).ownBlock) s_.1 t292) ∧ (w'.heap[gb285]? = some (.cells #[.slice A2_0 l2_0.length c2_0, .slice A2_1 l2_1.length c2_1, .slice A2_2 l2_2.length c2_2] 38 (0, 0))) ∧ (w'.heap[s_.2]? = some (.cells #[.slice none 0 0, .slice none 0 0, .slice none 0 0, .slice none 0 0, .slice none 0 0, .slice none 0 0, .slice none 0 0] 105 (0, 0))) ∧ (w.heap.size ≤ s_.2) ∧ (w.heap.size ≤ s_.2) ∧ (gb285 ≠ s_.2) ∧ (s_.2 ≠ gb285) ∧ (Below w.heap.size w w')) ?_ ?_
       rotate_left
       ·intro hJ1_10
        refine join_ (σ := Value) 6 #[true, true, true, false, true, false, true, false, true, false, false, false] (fun s_ => [(23, s_)]) (fun s_ w' => (w'.cell? ⟨gb285, 0, none⟩ = some (.slice A2_0 l2_0.length c2_0) ∧ w'.cell? ⟨gb285, 1, none⟩ = some (.slice A2_1 l2_1.length c2_1) ∧ w'.cell? ⟨gb285, 2, none⟩ = some (.slice A2_2 l2_2.length c2_2)) ∧ (Kd.R (Kd.int .i64) 3 w' w.heap.size (fun k_ => some k_ ≠ (v290 : Value).ownBlock ∧ some k_ ≠ (s_ : Value).ownBlock) v287 y286) ∧ (Kd.R (Kd.int .i64) 3 w' w.heap.size (fun k_ => some k_ ≠ (v287 : Value).ownBlock ∧ some k_ ≠ (s_ : Value).ownBlock) v290 y289) ∧ (Kd.R (Kd.int .i64) 3 w' w.heap.size (fun k_ => some k_ ≠ (v287 : Value).ownBlock ∧ some k_ ≠ (v290 : Value).ownBlock) s_ t292) ∧ (w'.heap[gb285]? = some (.cells #[.slice A2_0 l2_0.length c2_0, .slice A2_1 l2_1.length c2_1, .slice A2_2 l2_2.length c2_2] 38 (0, 0))) ∧ (Below w.heap.size w w')) ?_ ?_
        rotate_left
        ·intro hJ1
         refine join_ (σ := Nat) 6 #[true, false, true, false, true, false, true, false, true, false, true, false] (fun s_ => [(10, .pointer (some ⟨s_, 0, none⟩))]) (fun s_ w' => (w'.cell? ⟨gb285, 0, none⟩ = some (.slice A2_0 l2_0.length c2_0) ∧ w'.cell? ⟨gb285, 1, none⟩ = some (.slice A2_1 l2_1.length c2_1) ∧ w'.cell? ⟨gb285, 2, none⟩ = some (.slice A2_2 l2_2.length c2_2)) ∧ (Kd.R (Kd.int .i64) 3 w' w.heap.size (fun k_ => some k_ ≠ (v290 : Value).ownBlock) v287 y286) ∧ (Kd.R (Kd.int .i64) 3 w' w.heap.size (fun k_ => some k_ ≠ (v287 : Value).ownBlock) v290 y289) ∧ (w'.heap[gb285]? = some (.cells #[.slice A2_0 l2_0.length c2_0, .slice A2_1 l2_1.length c2_1, .slice A2_2 l2_2.length c2_2] 38 (0, 0))) ∧ (w'.heap[s_]? = some (.cells #[.slice none 0 0, .slice none 0 0, .slice none 0 0, .slice none 0 0, .slice none 0 0, .slice none 0 0, .slice none 0 0] 105 (0, 0))) ∧ (w.heap.size ≤ s_) ∧ (w.heap.size ≤ s_) ∧ (gb285 ≠ s_) ∧ (s_ ≠ gb285) ∧ (Below w.heap.size w w')) ?_ ?_
         rotate_left
         ·intro hJ10
          refine two_ (i := 1) (j := 10) (Ni := some 23) (Nj := some 10) #[true, true, true, false, true, false, true, false, true, false, false, false] #[true, false, true, false, true, false, true, false, true, false, true, false] rfl rfl rfl rfl (two_of HT_.out (by kernel_rfl)) (by decide) (by decide) (fun K hK => ?_) (fun K hK => ?_)
          ·skip
           refine goes_ Try.func80 (by kernel_rfl) rfl #[.slice A0 l0.length c0] (by rfl) rfl rfl z1_ ?_
           with_reducible refine (spec_l8Labels.calls k _ _ l0 t292 _ ?side1 ?side2 A7.out).mono ?_
           (case side1 => exact z3_)
           (case side2 => exact HC0.out)
           rintro e w19 ⟨v293, rfl, ho0, hb⟩
           refine ⟨_, rfl, ?_⟩
           have n0_ := Aside0.mk (Kd.R_elder' z17_ (Kd.R_base ho0) hb)
           have n1_ := Aside0.mk (Kd.R_elder' z22_ (Kd.R_base ho0) hb)
           have n2_ := Aside0.mk (Kd.R_lower (Kd.R_new' (Kd.R_new' ho0 (Kd.R_lt z17_)) (Kd.R_lt z22_)) (below_size z8_))
           have n3_ := Aside0.mk (blk_below z7_ hb)
           have n4_ := Aside0.mk (below_step z8_ hb)
           clear HO288
           clear HO291
           clear BK285
           clear HB
           have HO288 := n0_
           have HO291 := n1_
           have HO294 := n2_
           have BK285 := n3_
           have HB := n4_
           clear n0_ n1_ n2_ n3_ n4_
           (try clear hb)
           (try clear hb2)
           (try clear hk)
           (try clear hi)
           (try clear ho0)
           refine hK.out _ _ ⟨(blk_cell BK285.out 0).trans rfl, (blk_cell BK285.out 1).trans rfl, (blk_cell BK285.out 2).trans rfl⟩ (fun hHeld => ?_)
           clear hK K
           refine zn_ rfl ?_
           exact norm_ z23_ (hJ1 (v293) _ ⟨hHeld, (by (with_reducible repeat (first | apply Kd.R_alloc | apply Kd.R_drewN | apply Kd.R_drew)); exact Kd.R_mono HO288.out (fun _ hk => ⟨hk.1.2, hk.2⟩)), (by (with_reducible repeat (first | apply Kd.R_alloc | apply Kd.R_drewN | apply Kd.R_drew)); exact Kd.R_mono HO291.out (fun _ hk => ⟨hk.1.2, hk.2⟩)), z208_, z7_, z8_⟩)
          ·skip
           refine box_step ?hg (N := 10) ?hd (cs := #[.slice none 0 0, .slice none 0 0, .slice none 0 0, .slice none 0 0, .slice none 0 0, .slice none 0 0, .slice none 0 0]) (t := 105) ?hr ?_; (case hd => rfl); (case hg => rfl); (case hr => exact z9_)
           intro gb304 hg w19 hbox hb
           have n0_ := Aside0.mk (Kd.R_below z17_ hb)
           have n1_ := Aside0.mk (Kd.R_below z22_ hb)
           have n2_ := Aside0.mk (blk_below z7_ hb)
           have n3_ := Aside0.mk (below_step z8_ hb)
           have n4_ := Aside0.mk (hbox)
           have n5_ := Aside0.mk ((by rw [hg]; exact (below_size z8_) : w.heap.size ≤ gb304))
           have n6_ := Aside0.mk ((by rw [hg]; exact (below_size z8_) : w.heap.size ≤ gb304))
           have n7_ := Aside0.mk ((by rw [hg]; exact Nat.ne_of_lt (blk_lt (g := gb285) (o := .cells #[.slice A2_0 l2_0.length c2_0, .slice A2_1 l2_1.length c2_1, .slice A2_2 l2_2.length c2_2] 38 (0, 0)) z7_) : gb285 ≠ gb304))
           have n8_ := Aside0.mk ((by rw [hg]; exact Nat.ne_of_gt (blk_lt (g := gb285) (o := .cells #[.slice A2_0 l2_0.length c2_0, .slice A2_1 l2_1.length c2_1, .slice A2_2 l2_2.length c2_2] 38 (0, 0)) z7_) : gb304 ≠ gb285))
           clear HO288
           clear HO291
           clear BK285
           clear HB
           have HO288 := n0_
           have HO291 := n1_
           have BK285 := n2_
           have HB := n3_
           have BK304 := n4_
           have GW304 := n5_
           have GE304 := n6_
           have NB285_304 := n7_
           have NB304_285 := n8_
           clear n0_ n1_ n2_ n3_ n4_ n5_ n6_ n7_ n8_
           clear hb hbox hg
           refine hK.out _ _ ⟨(blk_cell BK285.out 0).trans rfl, (blk_cell BK285.out 1).trans rfl, (blk_cell BK285.out 2).trans rfl⟩ (fun hHeld => ?_)
           clear hK K
           refine zn_ rfl ?_
           exact norm_ z23_ (hJ10 (gb304) _ ⟨hHeld, (by (with_reducible repeat (first | apply Kd.R_alloc | apply Kd.R_drewN | apply Kd.R_drew)); exact Kd.R_mono HO288.out (fun _ hk => hk.2)), (by (with_reducible repeat (first | apply Kd.R_alloc | apply Kd.R_drewN | apply Kd.R_drew)); exact Kd.R_mono HO291.out (fun _ hk => hk.2)), z7_, z32_, GW304.out, GE304.out, NB285_304.out, NB304_285.out, z6_⟩)
         ·skip
          rintro gb304 w20 ⟨hS_, h0_, h1_, h2_, h3_, h4_, h5_, h6_, h7_, h8_⟩
          have n0_ : Aside0 (Kd.R (Kd.int .i64) 3 w20 w.heap.size (fun k_ => some k_ ≠ (v290 : Value).ownBlock) v287 y286) := ⟨h0_⟩
          have n1_ : Aside0 (Kd.R (Kd.int .i64) 3 w20 w.heap.size (fun k_ => some k_ ≠ (v287 : Value).ownBlock) v290 y289) := ⟨h1_⟩
          have n2_ : Aside0 (w20.heap[gb285]? = some (.cells #[.slice A2_0 l2_0.length c2_0, .slice A2_1 l2_1.length c2_1, .slice A2_2 l2_2.length c2_2] 38 (0, 0))) := ⟨h2_⟩
          have n3_ : Aside0 (w20.heap[gb304]? = some (.cells #[.slice none 0 0, .slice none 0 0, .slice none 0 0, .slice none 0 0, .slice none 0 0, .slice none 0 0, .slice none 0 0] 105 (0, 0))) := ⟨h3_⟩
          have n4_ : Aside0 (w.heap.size ≤ gb304) := ⟨h4_⟩
          have n5_ : Aside0 (w.heap.size ≤ gb304) := ⟨h5_⟩
          have n6_ : Aside0 (gb285 ≠ gb304) := ⟨h6_⟩
          have n7_ : Aside0 (gb304 ≠ gb285) := ⟨h7_⟩
          have n8_ : Aside0 (Below w.heap.size w w20) := ⟨h8_⟩
          clear HO288
          clear HO291
          clear BK285
          clear HB
          clear h0_ h1_ h2_ h3_ h4_ h5_ h6_ h7_ h8_
          have HO288 := n0_
          have HO291 := n1_
          have BK285 := n2_
          have BK304 := n3_
          have GW304 := n4_
          have GE304 := n5_
          have NB285_304 := n6_
          have NB304_285 := n7_
          have HB := n8_
          clear n0_ n1_ n2_ n3_ n4_ n5_ n6_ n7_ n8_
          have hHeld : w20.cell? ⟨gb285, 0, none⟩ = some (.slice A2_0 l2_0.length c2_0) ∧ w20.cell? ⟨gb285, 1, none⟩ = some (.slice A2_1 l2_1.length c2_1) ∧ w20.cell? ⟨gb285, 2, none⟩ = some (.slice A2_2 l2_2.length c2_2) := hS_
          refine norm_ (a' := ?_) ?_ ?_
          rotate_left
          ·simp only [putAll, Act.put, List.setIfInBounds_toArray, List.set_cons_zero, List.set_cons_succ]
           rfl
          refine one_ (i := 1) (N := some 23) (ra_ [3, 1, 1, 1, 1, 1, 1, 1, 1, 1]) rfl rfl (one_of HT_.out (by kernel_rfl)) (by decide) (fun K hK => ?_)
          refine goes_ Try.func80 (by kernel_rfl) rfl #[.slice A0 l0.length c0] (by rfl) rfl rfl z1_ ?_
          with_reducible refine (spec_l8Labels.calls k _ _ l0 t292 _ ?side1 ?side2 A7.out).mono ?_
          (case side1 => exact z3_)
          (case side2 => exact HC0.out)
          rintro e w21 ⟨v293, rfl, ho0, hb⟩
          refine ⟨_, rfl, ?_⟩
          have n0_ := Aside0.mk (Kd.R_elder' z17_ (Kd.R_base ho0) hb)
          have n1_ := Aside0.mk (Kd.R_elder' z22_ (Kd.R_base ho0) hb)
          have n2_ := Aside0.mk (Kd.R_lower (Kd.R_new' (Kd.R_new' ho0 (Kd.R_lt z17_)) (Kd.R_lt z22_)) (below_size z6_))
          have n3_ := Aside0.mk (blk_below z7_ hb)
          have n4_ := Aside0.mk (blk_below z32_ hb)
          have n5_ := Aside0.mk (below_step z6_ hb)
          clear HO288
          clear HO291
          clear BK285
          clear BK304
          clear HB
          have HO288 := n0_
          have HO291 := n1_
          have HO294 := n2_
          have BK285 := n3_
          have BK304 := n4_
          have HB := n5_
          clear n0_ n1_ n2_ n3_ n4_ n5_
          (try clear hb)
          (try clear hb2)
          (try clear hk)
          (try clear hi)
          (try clear ho0)
          refine hK.out _ _ ⟨(blk_cell BK285.out 0).trans rfl, (blk_cell BK285.out 1).trans rfl, (blk_cell BK285.out 2).trans rfl⟩ (fun hHeld => ?_)
          clear hK K
          refine zn_ rfl ?_
          exact norm_ z23_ (hJ1_10 (v293, gb304) _ ⟨hHeld, z17_, z22_, z208_, z7_, z32_, GW304.out, GE304.out, NB285_304.out, NB304_285.out, z6_⟩)
        ·skip
         rintro v293 w20 ⟨hS_, h0_, h1_, h2_, h3_, h4_⟩
         have n0_ : Aside0 (Kd.R (Kd.int .i64) 3 w20 w.heap.size (fun k_ => some k_ ≠ (v290 : Value).ownBlock ∧ some k_ ≠ (v293 : Value).ownBlock) v287 y286) := ⟨h0_⟩
         have n1_ : Aside0 (Kd.R (Kd.int .i64) 3 w20 w.heap.size (fun k_ => some k_ ≠ (v287 : Value).ownBlock ∧ some k_ ≠ (v293 : Value).ownBlock) v290 y289) := ⟨h1_⟩
         have n2_ : Aside0 (Kd.R (Kd.int .i64) 3 w20 w.heap.size (fun k_ => some k_ ≠ (v287 : Value).ownBlock ∧ some k_ ≠ (v290 : Value).ownBlock) v293 t292) := ⟨h2_⟩
         have n3_ : Aside0 (w20.heap[gb285]? = some (.cells #[.slice A2_0 l2_0.length c2_0, .slice A2_1 l2_1.length c2_1, .slice A2_2 l2_2.length c2_2] 38 (0, 0))) := ⟨h3_⟩
         have n4_ : Aside0 (Below w.heap.size w w20) := ⟨h4_⟩
         clear HO288
         clear HO291
         clear BK285
         clear HB
         clear h0_ h1_ h2_ h3_ h4_
         have HO288 := n0_
         have HO291 := n1_
         have HO294 := n2_
         have BK285 := n3_
         have HB := n4_
         clear n0_ n1_ n2_ n3_ n4_
         have hHeld : w20.cell? ⟨gb285, 0, none⟩ = some (.slice A2_0 l2_0.length c2_0) ∧ w20.cell? ⟨gb285, 1, none⟩ = some (.slice A2_1 l2_1.length c2_1) ∧ w20.cell? ⟨gb285, 2, none⟩ = some (.slice A2_2 l2_2.length c2_2) := hS_
         refine norm_ (a' := ?_) ?_ ?_
         rotate_left
         ·simp only [putAll, Act.put, List.setIfInBounds_toArray, List.set_cons_zero, List.set_cons_succ]
          rfl
         refine two_ (i := 3) (j := 10) (Ni := some 25) (Nj := some 10) #[true, true, true, true, true, false, true, false, true, false, false, false] #[true, true, true, false, true, false, true, false, true, false, true, false] rfl rfl rfl rfl (two_of HT_.out (by kernel_rfl)) (by decide) (by decide) (fun K hK => ?_) (fun K hK => ?_)
         ·skip
          refine goes_ Try.func80 (by kernel_rfl) rfl #[.slice A1 l1.length c1] (by rfl) rfl rfl z1_ ?_
          with_reducible refine (spec_l8Labels.calls k _ _ l1 t295 _ ?side1 ?side2 A8.out).mono ?_
          (case side1 => exact z10_)
          (case side2 => exact HC1.out)
          rintro e w21 ⟨v296, rfl, ho0, hb⟩
          refine ⟨_, rfl, ?_⟩
          have n0_ := Aside0.mk (Kd.R_elder' z17_ (Kd.R_base ho0) hb)
          have n1_ := Aside0.mk (Kd.R_elder' z22_ (Kd.R_base ho0) hb)
          have n2_ := Aside0.mk (Kd.R_elder' z30_ (Kd.R_base ho0) hb)
          have n3_ := Aside0.mk (Kd.R_lower (Kd.R_new' (Kd.R_new' (Kd.R_new' ho0 (Kd.R_lt z17_)) (Kd.R_lt z22_)) (Kd.R_lt z30_)) (below_size z8_))
          have n4_ := Aside0.mk (blk_below z7_ hb)
          have n5_ := Aside0.mk (below_step z8_ hb)
          clear HO288
          clear HO291
          clear HO294
          clear BK285
          clear HB
          have HO288 := n0_
          have HO291 := n1_
          have HO294 := n2_
          have HO297 := n3_
          have BK285 := n4_
          have HB := n5_
          clear n0_ n1_ n2_ n3_ n4_ n5_
          (try clear hb)
          (try clear hb2)
          (try clear hk)
          (try clear hi)
          (try clear ho0)
          refine hK.out _ _ ⟨(blk_cell BK285.out 0).trans rfl, (blk_cell BK285.out 1).trans rfl, (blk_cell BK285.out 2).trans rfl⟩ (fun hHeld => ?_)
          clear hK K
          refine zn_ rfl ?_
          exact norm_ z23_ (hJ1_3 (v293, v296) _ ⟨hHeld, z204_, z205_, z206_, z201_, z7_, z8_⟩)
         ·skip
          refine box_step ?hg (N := 10) ?hd (cs := #[.slice none 0 0, .slice none 0 0, .slice none 0 0, .slice none 0 0, .slice none 0 0, .slice none 0 0, .slice none 0 0]) (t := 105) ?hr ?_; (case hd => rfl); (case hg => rfl); (case hr => exact z9_)
          intro gb304 hg w21 hbox hb
          have n0_ := Aside0.mk (Kd.R_below z17_ hb)
          have n1_ := Aside0.mk (Kd.R_below z22_ hb)
          have n2_ := Aside0.mk (Kd.R_below z30_ hb)
          have n3_ := Aside0.mk (blk_below z7_ hb)
          have n4_ := Aside0.mk (below_step z8_ hb)
          have n5_ := Aside0.mk (hbox)
          have n6_ := Aside0.mk ((by rw [hg]; exact (below_size z8_) : w.heap.size ≤ gb304))
          have n7_ := Aside0.mk ((by rw [hg]; exact (below_size z8_) : w.heap.size ≤ gb304))
          have n8_ := Aside0.mk ((by rw [hg]; exact Nat.ne_of_lt (blk_lt (g := gb285) (o := .cells #[.slice A2_0 l2_0.length c2_0, .slice A2_1 l2_1.length c2_1, .slice A2_2 l2_2.length c2_2] 38 (0, 0)) z7_) : gb285 ≠ gb304))
          have n9_ := Aside0.mk ((by rw [hg]; exact Nat.ne_of_gt (blk_lt (g := gb285) (o := .cells #[.slice A2_0 l2_0.length c2_0, .slice A2_1 l2_1.length c2_1, .slice A2_2 l2_2.length c2_2] 38 (0, 0)) z7_) : gb304 ≠ gb285))
          clear HO288
          clear HO291
          clear HO294
          clear BK285
          clear HB
          have HO288 := n0_
          have HO291 := n1_
          have HO294 := n2_
          have BK285 := n3_
          have HB := n4_
          have BK304 := n5_
          have GW304 := n6_
          have GE304 := n7_
          have NB285_304 := n8_
          have NB304_285 := n9_
          clear n0_ n1_ n2_ n3_ n4_ n5_ n6_ n7_ n8_ n9_
          clear hb hbox hg
          refine hK.out _ _ ⟨(blk_cell BK285.out 0).trans rfl, (blk_cell BK285.out 1).trans rfl, (blk_cell BK285.out 2).trans rfl⟩ (fun hHeld => ?_)
          clear hK K
          refine zn_ rfl ?_
          exact norm_ z23_ (hJ1_10 (v293, gb304) _ ⟨hHeld, z17_, z22_, z30_, z7_, z32_, GW304.out, GE304.out, NB285_304.out, NB304_285.out, z6_⟩)
       ·skip
        rintro ⟨v293, gb304⟩ w21 ⟨hS_, h0_, h1_, h2_, h3_, h4_, h5_, h6_, h7_, h8_, h9_⟩
        have n0_ : Aside0 (Kd.R (Kd.int .i64) 3 w21 w.heap.size (fun k_ => some k_ ≠ (v290 : Value).ownBlock ∧ some k_ ≠ (v293 : Value).ownBlock) v287 y286) := ⟨h0_⟩
        have n1_ : Aside0 (Kd.R (Kd.int .i64) 3 w21 w.heap.size (fun k_ => some k_ ≠ (v287 : Value).ownBlock ∧ some k_ ≠ (v293 : Value).ownBlock) v290 y289) := ⟨h1_⟩
        have n2_ : Aside0 (Kd.R (Kd.int .i64) 3 w21 w.heap.size (fun k_ => some k_ ≠ (v287 : Value).ownBlock ∧ some k_ ≠ (v290 : Value).ownBlock) v293 t292) := ⟨h2_⟩
        have n3_ : Aside0 (w21.heap[gb285]? = some (.cells #[.slice A2_0 l2_0.length c2_0, .slice A2_1 l2_1.length c2_1, .slice A2_2 l2_2.length c2_2] 38 (0, 0))) := ⟨h3_⟩
        have n4_ : Aside0 (w21.heap[gb304]? = some (.cells #[.slice none 0 0, .slice none 0 0, .slice none 0 0, .slice none 0 0, .slice none 0 0, .slice none 0 0, .slice none 0 0] 105 (0, 0))) := ⟨h4_⟩
        have n5_ : Aside0 (w.heap.size ≤ gb304) := ⟨h5_⟩
        have n6_ : Aside0 (w.heap.size ≤ gb304) := ⟨h6_⟩
        have n7_ : Aside0 (gb285 ≠ gb304) := ⟨h7_⟩
        have n8_ : Aside0 (gb304 ≠ gb285) := ⟨h8_⟩
        have n9_ : Aside0 (Below w.heap.size w w21) := ⟨h9_⟩
        clear HO288
        clear HO291
        clear BK285
        clear HB
        clear h0_ h1_ h2_ h3_ h4_ h5_ h6_ h7_ h8_ h9_
        have HO288 := n0_
        have HO291 := n1_
        have HO294 := n2_
        have BK285 := n3_
        have BK304 := n4_
        have GW304 := n5_
        have GE304 := n6_
        have NB285_304 := n7_
        have NB304_285 := n8_
        have HB := n9_
        clear n0_ n1_ n2_ n3_ n4_ n5_ n6_ n7_ n8_ n9_
        have hHeld : w21.cell? ⟨gb285, 0, none⟩ = some (.slice A2_0 l2_0.length c2_0) ∧ w21.cell? ⟨gb285, 1, none⟩ = some (.slice A2_1 l2_1.length c2_1) ∧ w21.cell? ⟨gb285, 2, none⟩ = some (.slice A2_2 l2_2.length c2_2) := hS_
        refine norm_ (a' := ?_) ?_ ?_
        rotate_left
        ·simp only [putAll, Act.put, List.setIfInBounds_toArray, List.set_cons_zero, List.set_cons_succ]
         rfl
        refine one_ (i := 3) (N := some 25) (ra_ [5, 1, 1, 1, 1, 1, 1, 1]) rfl rfl (one_of HT_.out (by kernel_rfl)) (by decide) (fun K hK => ?_)
        refine goes_ Try.func80 (by kernel_rfl) rfl #[.slice A1 l1.length c1] (by rfl) rfl rfl z1_ ?_
        with_reducible refine (spec_l8Labels.calls k _ _ l1 t295 _ ?side1 ?side2 A8.out).mono ?_
        (case side1 => exact z10_)
        (case side2 => exact HC1.out)
        rintro e w22 ⟨v296, rfl, ho0, hb⟩
        refine ⟨_, rfl, ?_⟩
        have n0_ := Aside0.mk (Kd.R_elder' z17_ (Kd.R_base ho0) hb)
        have n1_ := Aside0.mk (Kd.R_elder' z22_ (Kd.R_base ho0) hb)
        have n2_ := Aside0.mk (Kd.R_elder' z30_ (Kd.R_base ho0) hb)
        have n3_ := Aside0.mk (Kd.R_lower (Kd.R_new' (Kd.R_new' (Kd.R_new' ho0 (Kd.R_lt z17_)) (Kd.R_lt z22_)) (Kd.R_lt z30_)) (below_size z6_))
        have n4_ := Aside0.mk (blk_below z7_ hb)
        have n5_ := Aside0.mk (blk_below z32_ hb)
        have n6_ := Aside0.mk (below_step z6_ hb)
        clear HO288
        clear HO291
        clear HO294
        clear BK285
        clear BK304
        clear HB
        have HO288 := n0_
        have HO291 := n1_
        have HO294 := n2_
        have HO297 := n3_
        have BK285 := n4_
        have BK304 := n5_
        have HB := n6_
        clear n0_ n1_ n2_ n3_ n4_ n5_ n6_
        (try clear hb)
        (try clear hb2)
        (try clear hk)
        (try clear hi)
        (try clear ho0)
        refine hK.out _ _ ⟨(blk_cell BK285.out 0).trans rfl, (blk_cell BK285.out 1).trans rfl, (blk_cell BK285.out 2).trans rfl⟩ (fun hHeld => ?_)
        clear hK K
        refine zn_ rfl ?_
        exact norm_ z23_ (hJ1_3_10 (v293, v296, gb304) _ ⟨hHeld, z204_, z205_, z206_, z201_, z7_, z32_, GW304.out, GE304.out, NB285_304.out, NB304_285.out, z6_⟩)
      ·skip
       rintro ⟨v293, v296⟩ w21 ⟨hS_, h0_, h1_, h2_, h3_, h4_, h5_⟩
       have n0_ : Aside0 (Kd.R (Kd.int .i64) 3 w21 w.heap.size (fun k_ => some k_ ≠ (v290 : Value).ownBlock ∧ some k_ ≠ (v293 : Value).ownBlock ∧ some k_ ≠ (v296 : Value).ownBlock) v287 y286) := ⟨h0_⟩
       have n1_ : Aside0 (Kd.R (Kd.int .i64) 3 w21 w.heap.size (fun k_ => some k_ ≠ (v287 : Value).ownBlock ∧ some k_ ≠ (v293 : Value).ownBlock ∧ some k_ ≠ (v296 : Value).ownBlock) v290 y289) := ⟨h1_⟩
       have n2_ : Aside0 (Kd.R (Kd.int .i64) 3 w21 w.heap.size (fun k_ => some k_ ≠ (v287 : Value).ownBlock ∧ some k_ ≠ (v290 : Value).ownBlock ∧ some k_ ≠ (v296 : Value).ownBlock) v293 t292) := ⟨h2_⟩
       have n3_ : Aside0 (Kd.R (Kd.int .i64) 3 w21 w.heap.size (fun k_ => some k_ ≠ (v287 : Value).ownBlock ∧ some k_ ≠ (v290 : Value).ownBlock ∧ some k_ ≠ (v293 : Value).ownBlock) v296 t295) := ⟨h3_⟩
       have n4_ : Aside0 (w21.heap[gb285]? = some (.cells #[.slice A2_0 l2_0.length c2_0, .slice A2_1 l2_1.length c2_1, .slice A2_2 l2_2.length c2_2] 38 (0, 0))) := ⟨h4_⟩
       have n5_ : Aside0 (Below w.heap.size w w21) := ⟨h5_⟩
       clear HO288
       clear HO291
       clear BK285
       clear HB
       clear h0_ h1_ h2_ h3_ h4_ h5_
       have HO288 := n0_
       have HO291 := n1_
       have HO294 := n2_
       have HO297 := n3_
       have BK285 := n4_
       have HB := n5_
       clear n0_ n1_ n2_ n3_ n4_ n5_
       have hHeld : w21.cell? ⟨gb285, 0, none⟩ = some (.slice A2_0 l2_0.length c2_0) ∧ w21.cell? ⟨gb285, 1, none⟩ = some (.slice A2_1 l2_1.length c2_1) ∧ w21.cell? ⟨gb285, 2, none⟩ = some (.slice A2_2 l2_2.length c2_2) := hS_
       refine norm_ (a' := ?_) ?_ ?_
       rotate_left
       ·simp only [putAll, Act.put, List.setIfInBounds_toArray, List.set_cons_zero, List.set_cons_succ]
        rfl
       refine two_ (i := 5) (j := 10) (Ni := some 27) (Nj := some 10) #[true, true, true, true, true, true, true, false, true, false, false, false] #[true, true, true, true, true, false, true, false, true, false, true, false] rfl rfl rfl rfl (two_of HT_.out (by kernel_rfl)) (by decide) (by decide) (fun K hK => ?_) (fun K hK => ?_)
       ·skip
        refine goes_ Try.func81 (by kernel_rfl) rfl #[.slice A0 l0.length c0] (by rfl) rfl rfl z1_ ?_
        with_reducible refine (spec_LeftLeaf.calls k _ _ l0 t298 _ ?side1 ?side2 A9.out).mono ?_
        (case side1 => exact z3_)
        (case side2 => exact HC0.out)
        rintro e w22 ⟨v299, rfl, ho0, hb⟩
        refine ⟨_, rfl, ?_⟩
        have n0_ := Aside0.mk (Kd.R_elder' z17_ (Kd.R_base ho0) hb)
        have n1_ := Aside0.mk (Kd.R_elder' z22_ (Kd.R_base ho0) hb)
        have n2_ := Aside0.mk (Kd.R_elder' z30_ (Kd.R_base ho0) hb)
        have n3_ := Aside0.mk (Kd.R_elder' z43_ (Kd.R_base ho0) hb)
        have n4_ := Aside0.mk (Kd.R_lower (Kd.R_new' (Kd.R_new' (Kd.R_new' (Kd.R_new' ho0 (Kd.R_lt z17_)) (Kd.R_lt z22_)) (Kd.R_lt z30_)) (Kd.R_lt z43_)) (below_size z8_))
        have n5_ := Aside0.mk (blk_below z7_ hb)
        have n6_ := Aside0.mk (below_step z8_ hb)
        clear HO288
        clear HO291
        clear HO294
        clear HO297
        clear BK285
        clear HB
        have HO288 := n0_
        have HO291 := n1_
        have HO294 := n2_
        have HO297 := n3_
        have HO300 := n4_
        have BK285 := n5_
        have HB := n6_
        clear n0_ n1_ n2_ n3_ n4_ n5_ n6_
        (try clear hb)
        (try clear hb2)
        (try clear hk)
        (try clear hi)
        (try clear ho0)
        refine hK.out _ _ ⟨(blk_cell BK285.out 0).trans rfl, (blk_cell BK285.out 1).trans rfl, (blk_cell BK285.out 2).trans rfl⟩ (fun hHeld => ?_)
        clear hK K
        refine zn_ rfl ?_
        exact norm_ z23_ (hJ1_3_5 (v293, v296, v299) _ ⟨hHeld, z188_, z189_, z190_, z191_, z187_, z7_, z8_⟩)
       ·skip
        refine box_step ?hg (N := 10) ?hd (cs := #[.slice none 0 0, .slice none 0 0, .slice none 0 0, .slice none 0 0, .slice none 0 0, .slice none 0 0, .slice none 0 0]) (t := 105) ?hr ?_; (case hd => rfl); (case hg => rfl); (case hr => exact z9_)
        intro gb304 hg w22 hbox hb
        have n0_ := Aside0.mk (Kd.R_below z17_ hb)
        have n1_ := Aside0.mk (Kd.R_below z22_ hb)
        have n2_ := Aside0.mk (Kd.R_below z30_ hb)
        have n3_ := Aside0.mk (Kd.R_below z43_ hb)
        have n4_ := Aside0.mk (blk_below z7_ hb)
        have n5_ := Aside0.mk (below_step z8_ hb)
        have n6_ := Aside0.mk (hbox)
        have n7_ := Aside0.mk ((by rw [hg]; exact (below_size z8_) : w.heap.size ≤ gb304))
        have n8_ := Aside0.mk ((by rw [hg]; exact (below_size z8_) : w.heap.size ≤ gb304))
        have n9_ := Aside0.mk ((by rw [hg]; exact Nat.ne_of_lt (blk_lt (g := gb285) (o := .cells #[.slice A2_0 l2_0.length c2_0, .slice A2_1 l2_1.length c2_1, .slice A2_2 l2_2.length c2_2] 38 (0, 0)) z7_) : gb285 ≠ gb304))
        have n10_ := Aside0.mk ((by rw [hg]; exact Nat.ne_of_gt (blk_lt (g := gb285) (o := .cells #[.slice A2_0 l2_0.length c2_0, .slice A2_1 l2_1.length c2_1, .slice A2_2 l2_2.length c2_2] 38 (0, 0)) z7_) : gb304 ≠ gb285))
        clear HO288
        clear HO291
        clear HO294
        clear HO297
        clear BK285
        clear HB
        have HO288 := n0_
        have HO291 := n1_
        have HO294 := n2_
        have HO297 := n3_
        have BK285 := n4_
        have HB := n5_
        have BK304 := n6_
        have GW304 := n7_
        have GE304 := n8_
        have NB285_304 := n9_
        have NB304_285 := n10_
        clear n0_ n1_ n2_ n3_ n4_ n5_ n6_ n7_ n8_ n9_ n10_
        clear hb hbox hg
        refine hK.out _ _ ⟨(blk_cell BK285.out 0).trans rfl, (blk_cell BK285.out 1).trans rfl, (blk_cell BK285.out 2).trans rfl⟩ (fun hHeld => ?_)
        clear hK K
        refine zn_ rfl ?_
        exact norm_ z23_ (hJ1_3_10 (v293, v296, gb304) _ ⟨hHeld, z17_, z22_, z30_, z43_, z7_, z32_, GW304.out, GE304.out, NB285_304.out, NB304_285.out, z6_⟩)
     ·skip
      rintro ⟨v293, v296, gb304⟩ w22 ⟨hS_, h0_, h1_, h2_, h3_, h4_, h5_, h6_, h7_, h8_, h9_, h10_⟩
      have n0_ : Aside0 (Kd.R (Kd.int .i64) 3 w22 w.heap.size (fun k_ => some k_ ≠ (v290 : Value).ownBlock ∧ some k_ ≠ (v293 : Value).ownBlock ∧ some k_ ≠ (v296 : Value).ownBlock) v287 y286) := ⟨h0_⟩
      have n1_ : Aside0 (Kd.R (Kd.int .i64) 3 w22 w.heap.size (fun k_ => some k_ ≠ (v287 : Value).ownBlock ∧ some k_ ≠ (v293 : Value).ownBlock ∧ some k_ ≠ (v296 : Value).ownBlock) v290 y289) := ⟨h1_⟩
      have n2_ : Aside0 (Kd.R (Kd.int .i64) 3 w22 w.heap.size (fun k_ => some k_ ≠ (v287 : Value).ownBlock ∧ some k_ ≠ (v290 : Value).ownBlock ∧ some k_ ≠ (v296 : Value).ownBlock) v293 t292) := ⟨h2_⟩
      have n3_ : Aside0 (Kd.R (Kd.int .i64) 3 w22 w.heap.size (fun k_ => some k_ ≠ (v287 : Value).ownBlock ∧ some k_ ≠ (v290 : Value).ownBlock ∧ some k_ ≠ (v293 : Value).ownBlock) v296 t295) := ⟨h3_⟩
      have n4_ : Aside0 (w22.heap[gb285]? = some (.cells #[.slice A2_0 l2_0.length c2_0, .slice A2_1 l2_1.length c2_1, .slice A2_2 l2_2.length c2_2] 38 (0, 0))) := ⟨h4_⟩
      have n5_ : Aside0 (w22.heap[gb304]? = some (.cells #[.slice none 0 0, .slice none 0 0, .slice none 0 0, .slice none 0 0, .slice none 0 0, .slice none 0 0, .slice none 0 0] 105 (0, 0))) := ⟨h5_⟩
      have n6_ : Aside0 (w.heap.size ≤ gb304) := ⟨h6_⟩
      have n7_ : Aside0 (w.heap.size ≤ gb304) := ⟨h7_⟩
      have n8_ : Aside0 (gb285 ≠ gb304) := ⟨h8_⟩
      have n9_ : Aside0 (gb304 ≠ gb285) := ⟨h9_⟩
      have n10_ : Aside0 (Below w.heap.size w w22) := ⟨h10_⟩
      clear HO288
      clear HO291
      clear BK285
      clear HB
      clear h0_ h1_ h2_ h3_ h4_ h5_ h6_ h7_ h8_ h9_ h10_
      have HO288 := n0_
      have HO291 := n1_
      have HO294 := n2_
      have HO297 := n3_
      have BK285 := n4_
      have BK304 := n5_
      have GW304 := n6_
      have GE304 := n7_
      have NB285_304 := n8_
      have NB304_285 := n9_
      have HB := n10_
      clear n0_ n1_ n2_ n3_ n4_ n5_ n6_ n7_ n8_ n9_ n10_
      have hHeld : w22.cell? ⟨gb285, 0, none⟩ = some (.slice A2_0 l2_0.length c2_0) ∧ w22.cell? ⟨gb285, 1, none⟩ = some (.slice A2_1 l2_1.length c2_1) ∧ w22.cell? ⟨gb285, 2, none⟩ = some (.slice A2_2 l2_2.length c2_2) := hS_
      refine norm_ (a' := ?_) ?_ ?_
      rotate_left
      ·simp only [putAll, Act.put, List.setIfInBounds_toArray, List.set_cons_zero, List.set_cons_succ]
       rfl
      refine one_ (i := 5) (N := some 27) (ra_ [7, 1, 1, 1, 1, 1]) rfl rfl (one_of HT_.out (by kernel_rfl)) (by decide) (fun K hK => ?_)
      refine goes_ Try.func81 (by kernel_rfl) rfl #[.slice A0 l0.length c0] (by rfl) rfl rfl z1_ ?_
      with_reducible refine (spec_LeftLeaf.calls k _ _ l0 t298 _ ?side1 ?side2 A9.out).mono ?_
      (case side1 => exact z3_)
      (case side2 => exact HC0.out)
      rintro e w23 ⟨v299, rfl, ho0, hb⟩
      refine ⟨_, rfl, ?_⟩
      have n0_ := Aside0.mk (Kd.R_elder' z17_ (Kd.R_base ho0) hb)
      have n1_ := Aside0.mk (Kd.R_elder' z22_ (Kd.R_base ho0) hb)
      have n2_ := Aside0.mk (Kd.R_elder' z30_ (Kd.R_base ho0) hb)
      have n3_ := Aside0.mk (Kd.R_elder' z43_ (Kd.R_base ho0) hb)
      have n4_ := Aside0.mk (Kd.R_lower (Kd.R_new' (Kd.R_new' (Kd.R_new' (Kd.R_new' ho0 (Kd.R_lt z17_)) (Kd.R_lt z22_)) (Kd.R_lt z30_)) (Kd.R_lt z43_)) (below_size z6_))
      have n5_ := Aside0.mk (blk_below z7_ hb)
      have n6_ := Aside0.mk (blk_below z32_ hb)
      have n7_ := Aside0.mk (below_step z6_ hb)
      clear HO288
      clear HO291
      clear HO294
      clear HO297
      clear BK285
      clear BK304
      clear HB
      have HO288 := n0_
      have HO291 := n1_
      have HO294 := n2_
      have HO297 := n3_
      have HO300 := n4_
      have BK285 := n5_
      have BK304 := n6_
      have HB := n7_
      clear n0_ n1_ n2_ n3_ n4_ n5_ n6_ n7_
      (try clear hb)
      (try clear hb2)
      (try clear hk)
      (try clear hi)
      (try clear ho0)
      refine hK.out _ _ ⟨(blk_cell BK285.out 0).trans rfl, (blk_cell BK285.out 1).trans rfl, (blk_cell BK285.out 2).trans rfl⟩ (fun hHeld => ?_)
      clear hK K
      refine zn_ rfl ?_
      exact norm_ z23_ (hJ1_3_5_10 (v293, v296, v299, gb304) _ ⟨hHeld, z188_, z189_, z190_, z191_, z187_, z7_, z32_, GW304.out, GE304.out, NB285_304.out, NB304_285.out, z6_⟩)
    ·skip
     rintro ⟨v293, v296, v299⟩ w22 ⟨hS_, h0_, h1_, h2_, h3_, h4_, h5_, h6_⟩
     have n0_ : Aside0 (Kd.R (Kd.int .i64) 3 w22 w.heap.size (fun k_ => some k_ ≠ (v290 : Value).ownBlock ∧ some k_ ≠ (v293 : Value).ownBlock ∧ some k_ ≠ (v296 : Value).ownBlock ∧ some k_ ≠ (v299 : Value).ownBlock) v287 y286) := ⟨h0_⟩
     have n1_ : Aside0 (Kd.R (Kd.int .i64) 3 w22 w.heap.size (fun k_ => some k_ ≠ (v287 : Value).ownBlock ∧ some k_ ≠ (v293 : Value).ownBlock ∧ some k_ ≠ (v296 : Value).ownBlock ∧ some k_ ≠ (v299 : Value).ownBlock) v290 y289) := ⟨h1_⟩
     have n2_ : Aside0 (Kd.R (Kd.int .i64) 3 w22 w.heap.size (fun k_ => some k_ ≠ (v287 : Value).ownBlock ∧ some k_ ≠ (v290 : Value).ownBlock ∧ some k_ ≠ (v296 : Value).ownBlock ∧ some k_ ≠ (v299 : Value).ownBlock) v293 t292) := ⟨h2_⟩
     have n3_ : Aside0 (Kd.R (Kd.int .i64) 3 w22 w.heap.size (fun k_ => some k_ ≠ (v287 : Value).ownBlock ∧ some k_ ≠ (v290 : Value).ownBlock ∧ some k_ ≠ (v293 : Value).ownBlock ∧ some k_ ≠ (v299 : Value).ownBlock) v296 t295) := ⟨h3_⟩
     have n4_ : Aside0 (Kd.R (Kd.int .i64) 3 w22 w.heap.size (fun k_ => some k_ ≠ (v287 : Value).ownBlock ∧ some k_ ≠ (v290 : Value).ownBlock ∧ some k_ ≠ (v293 : Value).ownBlock ∧ some k_ ≠ (v296 : Value).ownBlock) v299 t298) := ⟨h4_⟩
     have n5_ : Aside0 (w22.heap[gb285]? = some (.cells #[.slice A2_0 l2_0.length c2_0, .slice A2_1 l2_1.length c2_1, .slice A2_2 l2_2.length c2_2] 38 (0, 0))) := ⟨h5_⟩
     have n6_ : Aside0 (Below w.heap.size w w22) := ⟨h6_⟩
     clear HO288
     clear HO291
     clear BK285
     clear HB
     clear h0_ h1_ h2_ h3_ h4_ h5_ h6_
     have HO288 := n0_
     have HO291 := n1_
     have HO294 := n2_
     have HO297 := n3_
     have HO300 := n4_
     have BK285 := n5_
     have HB := n6_
     clear n0_ n1_ n2_ n3_ n4_ n5_ n6_
     have hHeld : w22.cell? ⟨gb285, 0, none⟩ = some (.slice A2_0 l2_0.length c2_0) ∧ w22.cell? ⟨gb285, 1, none⟩ = some (.slice A2_1 l2_1.length c2_1) ∧ w22.cell? ⟨gb285, 2, none⟩ = some (.slice A2_2 l2_2.length c2_2) := hS_
     refine norm_ (a' := ?_) ?_ ?_
     rotate_left
     ·simp only [putAll, Act.put, List.setIfInBounds_toArray, List.set_cons_zero, List.set_cons_succ]
      rfl
     refine two_ (i := 7) (j := 10) (Ni := some 29) (Nj := some 10) #[true, true, true, true, true, true, true, true, true, false, false, false] #[true, true, true, true, true, true, true, false, true, false, true, false] rfl rfl rfl rfl (two_of HT_.out (by kernel_rfl)) (by decide) (by decide) (fun K hK => ?_) (fun K hK => ?_)
     ·skip
      refine goes_ Try.func81 (by kernel_rfl) rfl #[.slice A1 l1.length c1] (by rfl) rfl rfl z1_ ?_
      with_reducible refine (spec_LeftLeaf.calls k _ _ l1 t301 _ ?side1 ?side2 A10.out).mono ?_
      (case side1 => exact z10_)
      (case side2 => exact HC1.out)
      rintro e w23 ⟨v302, rfl, ho0, hb⟩
      refine ⟨_, rfl, ?_⟩
      have n0_ := Aside0.mk (Kd.R_elder' z17_ (Kd.R_base ho0) hb)
      have n1_ := Aside0.mk (Kd.R_elder' z22_ (Kd.R_base ho0) hb)
      have n2_ := Aside0.mk (Kd.R_elder' z30_ (Kd.R_base ho0) hb)
      have n3_ := Aside0.mk (Kd.R_elder' z43_ (Kd.R_base ho0) hb)
      have n4_ := Aside0.mk (Kd.R_elder' z78_ (Kd.R_base ho0) hb)
      have n5_ := Aside0.mk (Kd.R_lower (Kd.R_new' (Kd.R_new' (Kd.R_new' (Kd.R_new' (Kd.R_new' ho0 (Kd.R_lt z17_)) (Kd.R_lt z22_)) (Kd.R_lt z30_)) (Kd.R_lt z43_)) (Kd.R_lt z78_)) (below_size z8_))
      have n6_ := Aside0.mk (blk_below z7_ hb)
      have n7_ := Aside0.mk (below_step z8_ hb)
      clear HO288
      clear HO291
      clear HO294
      clear HO297
      clear HO300
      clear BK285
      clear HB
      have HO288 := n0_
      have HO291 := n1_
      have HO294 := n2_
      have HO297 := n3_
      have HO300 := n4_
      have HO303 := n5_
      have BK285 := n6_
      have HB := n7_
      clear n0_ n1_ n2_ n3_ n4_ n5_ n6_ n7_
      (try clear hb)
      (try clear hb2)
      (try clear hk)
      (try clear hi)
      (try clear ho0)
      obtain ⟨Ao24, co24, eo24⟩ := Kd.R_slice HO303.out
      (first | subst eo24 | (injection eo24 with f1_ f2_ f3_; have f4_ := f1_.symm; have f5_ := f3_.symm; clear f1_ f2_ f3_; subst f4_; subst f5_))
      obtain ⟨Ao25, co25, eo25⟩ := Kd.R_slice HO300.out
      (first | subst eo25 | (injection eo25 with f1_ f2_ f3_; have f4_ := f1_.symm; have f5_ := f3_.symm; clear f1_ f2_ f3_; subst f4_; subst f5_))
      obtain ⟨Ao26, co26, eo26⟩ := Kd.R_slice HO297.out
      (first | subst eo26 | (injection eo26 with f1_ f2_ f3_; have f4_ := f1_.symm; have f5_ := f3_.symm; clear f1_ f2_ f3_; subst f4_; subst f5_))
      obtain ⟨Ao27, co27, eo27⟩ := Kd.R_slice HO294.out
      (first | subst eo27 | (injection eo27 with f1_ f2_ f3_; have f4_ := f1_.symm; have f5_ := f3_.symm; clear f1_ f2_ f3_; subst f4_; subst f5_))
      refine hK.out _ _ ⟨(blk_cell BK285.out 0).trans rfl, (blk_cell BK285.out 1).trans rfl, (blk_cell BK285.out 2).trans rfl⟩ (fun hHeld => ?_)
      clear hK K
      refine zn_ rfl ?_
      refine zpg_ (i := 9) (fl_ 12 10) HT_ rfl rfl (by kernel_rfl) (fun _ _ _ h => h) (by rfl) ?_
      exact norm_ z23_ (hJ1_3_5_7 (.slice Ao27 t292.length co27, .slice Ao26 t295.length co26, .slice Ao25 t298.length co25, .slice Ao24 t301.length co24) _ ⟨hHeld, z174_, z175_, z176_, z177_, z178_, z172_, z7_, z8_⟩)
     ·skip
      refine box_step ?hg (N := 10) ?hd (cs := #[.slice none 0 0, .slice none 0 0, .slice none 0 0, .slice none 0 0, .slice none 0 0, .slice none 0 0, .slice none 0 0]) (t := 105) ?hr ?_; (case hd => rfl); (case hg => rfl); (case hr => exact z9_)
      intro gb304 hg w23 hbox hb
      have n0_ := Aside0.mk (Kd.R_below z17_ hb)
      have n1_ := Aside0.mk (Kd.R_below z22_ hb)
      have n2_ := Aside0.mk (Kd.R_below z30_ hb)
      have n3_ := Aside0.mk (Kd.R_below z43_ hb)
      have n4_ := Aside0.mk (Kd.R_below z78_ hb)
      have n5_ := Aside0.mk (blk_below z7_ hb)
      have n6_ := Aside0.mk (below_step z8_ hb)
      have n7_ := Aside0.mk (hbox)
      have n8_ := Aside0.mk ((by rw [hg]; exact (below_size z8_) : w.heap.size ≤ gb304))
      have n9_ := Aside0.mk ((by rw [hg]; exact (below_size z8_) : w.heap.size ≤ gb304))
      have n10_ := Aside0.mk ((by rw [hg]; exact Nat.ne_of_lt (blk_lt (g := gb285) (o := .cells #[.slice A2_0 l2_0.length c2_0, .slice A2_1 l2_1.length c2_1, .slice A2_2 l2_2.length c2_2] 38 (0, 0)) z7_) : gb285 ≠ gb304))
      have n11_ := Aside0.mk ((by rw [hg]; exact Nat.ne_of_gt (blk_lt (g := gb285) (o := .cells #[.slice A2_0 l2_0.length c2_0, .slice A2_1 l2_1.length c2_1, .slice A2_2 l2_2.length c2_2] 38 (0, 0)) z7_) : gb304 ≠ gb285))
      clear HO288
      clear HO291
      clear HO294
      clear HO297
      clear HO300
      clear BK285
      clear HB
      have HO288 := n0_
      have HO291 := n1_
      have HO294 := n2_
      have HO297 := n3_
      have HO300 := n4_
      have BK285 := n5_
      have HB := n6_
      have BK304 := n7_
      have GW304 := n8_
      have GE304 := n9_
      have NB285_304 := n10_
      have NB304_285 := n11_
      clear n0_ n1_ n2_ n3_ n4_ n5_ n6_ n7_ n8_ n9_ n10_ n11_
      clear hb hbox hg
      refine hK.out _ _ ⟨(blk_cell BK285.out 0).trans rfl, (blk_cell BK285.out 1).trans rfl, (blk_cell BK285.out 2).trans rfl⟩ (fun hHeld => ?_)
      clear hK K
      refine zn_ rfl ?_
      exact norm_ z23_ (hJ1_3_5_10 (v293, v296, v299, gb304) _ ⟨hHeld, z17_, z22_, z30_, z43_, z78_, z7_, z32_, GW304.out, GE304.out, NB285_304.out, NB304_285.out, z6_⟩)
   ·skip
    rintro ⟨v293, v296, v299, gb304⟩ w23 ⟨hS_, h0_, h1_, h2_, h3_, h4_, h5_, h6_, h7_, h8_, h9_, h10_, h11_⟩
    have n0_ : Aside0 (Kd.R (Kd.int .i64) 3 w23 w.heap.size (fun k_ => some k_ ≠ (v290 : Value).ownBlock ∧ some k_ ≠ (v293 : Value).ownBlock ∧ some k_ ≠ (v296 : Value).ownBlock ∧ some k_ ≠ (v299 : Value).ownBlock) v287 y286) := ⟨h0_⟩
    have n1_ : Aside0 (Kd.R (Kd.int .i64) 3 w23 w.heap.size (fun k_ => some k_ ≠ (v287 : Value).ownBlock ∧ some k_ ≠ (v293 : Value).ownBlock ∧ some k_ ≠ (v296 : Value).ownBlock ∧ some k_ ≠ (v299 : Value).ownBlock) v290 y289) := ⟨h1_⟩
    have n2_ : Aside0 (Kd.R (Kd.int .i64) 3 w23 w.heap.size (fun k_ => some k_ ≠ (v287 : Value).ownBlock ∧ some k_ ≠ (v290 : Value).ownBlock ∧ some k_ ≠ (v296 : Value).ownBlock ∧ some k_ ≠ (v299 : Value).ownBlock) v293 t292) := ⟨h2_⟩
    have n3_ : Aside0 (Kd.R (Kd.int .i64) 3 w23 w.heap.size (fun k_ => some k_ ≠ (v287 : Value).ownBlock ∧ some k_ ≠ (v290 : Value).ownBlock ∧ some k_ ≠ (v293 : Value).ownBlock ∧ some k_ ≠ (v299 : Value).ownBlock) v296 t295) := ⟨h3_⟩
    have n4_ : Aside0 (Kd.R (Kd.int .i64) 3 w23 w.heap.size (fun k_ => some k_ ≠ (v287 : Value).ownBlock ∧ some k_ ≠ (v290 : Value).ownBlock ∧ some k_ ≠ (v293 : Value).ownBlock ∧ some k_ ≠ (v296 : Value).ownBlock) v299 t298) := ⟨h4_⟩
    have n5_ : Aside0 (w23.heap[gb285]? = some (.cells #[.slice A2_0 l2_0.length c2_0, .slice A2_1 l2_1.length c2_1, .slice A2_2 l2_2.length c2_2] 38 (0, 0))) := ⟨h5_⟩
    have n6_ : Aside0 (w23.heap[gb304]? = some (.cells #[.slice none 0 0, .slice none 0 0, .slice none 0 0, .slice none 0 0, .slice none 0 0, .slice none 0 0, .slice none 0 0] 105 (0, 0))) := ⟨h6_⟩
    have n7_ : Aside0 (w.heap.size ≤ gb304) := ⟨h7_⟩
    have n8_ : Aside0 (w.heap.size ≤ gb304) := ⟨h8_⟩
    have n9_ : Aside0 (gb285 ≠ gb304) := ⟨h9_⟩
    have n10_ : Aside0 (gb304 ≠ gb285) := ⟨h10_⟩
    have n11_ : Aside0 (Below w.heap.size w w23) := ⟨h11_⟩
    clear HO288
    clear HO291
    clear BK285
    clear HB
    clear h0_ h1_ h2_ h3_ h4_ h5_ h6_ h7_ h8_ h9_ h10_ h11_
    have HO288 := n0_
    have HO291 := n1_
    have HO294 := n2_
    have HO297 := n3_
    have HO300 := n4_
    have BK285 := n5_
    have BK304 := n6_
    have GW304 := n7_
    have GE304 := n8_
    have NB285_304 := n9_
    have NB304_285 := n10_
    have HB := n11_
    clear n0_ n1_ n2_ n3_ n4_ n5_ n6_ n7_ n8_ n9_ n10_ n11_
    have hHeld : w23.cell? ⟨gb285, 0, none⟩ = some (.slice A2_0 l2_0.length c2_0) ∧ w23.cell? ⟨gb285, 1, none⟩ = some (.slice A2_1 l2_1.length c2_1) ∧ w23.cell? ⟨gb285, 2, none⟩ = some (.slice A2_2 l2_2.length c2_2) := hS_
    refine norm_ (a' := ?_) ?_ ?_
    rotate_left
    ·simp only [putAll, Act.put, List.setIfInBounds_toArray, List.set_cons_zero, List.set_cons_succ]
     rfl
    refine one_ (i := 7) (N := some 29) (ra_ [9, 1, 1, 1]) rfl rfl (one_of HT_.out (by kernel_rfl)) (by decide) (fun K hK => ?_)
    refine goes_ Try.func81 (by kernel_rfl) rfl #[.slice A1 l1.length c1] (by rfl) rfl rfl z1_ ?_
    with_reducible refine (spec_LeftLeaf.calls k _ _ l1 t301 _ ?side1 ?side2 A10.out).mono ?_
    (case side1 => exact z10_)
    (case side2 => exact HC1.out)
    rintro e w24 ⟨v302, rfl, ho0, hb⟩
    refine ⟨_, rfl, ?_⟩
    have n0_ := Aside0.mk (Kd.R_elder' z17_ (Kd.R_base ho0) hb)
    have n1_ := Aside0.mk (Kd.R_elder' z22_ (Kd.R_base ho0) hb)
    have n2_ := Aside0.mk (Kd.R_elder' z30_ (Kd.R_base ho0) hb)
    have n3_ := Aside0.mk (Kd.R_elder' z43_ (Kd.R_base ho0) hb)
    have n4_ := Aside0.mk (Kd.R_elder' z78_ (Kd.R_base ho0) hb)
    have n5_ := Aside0.mk (Kd.R_lower (Kd.R_new' (Kd.R_new' (Kd.R_new' (Kd.R_new' (Kd.R_new' ho0 (Kd.R_lt z17_)) (Kd.R_lt z22_)) (Kd.R_lt z30_)) (Kd.R_lt z43_)) (Kd.R_lt z78_)) (below_size z6_))
    have n6_ := Aside0.mk (blk_below z7_ hb)
    have n7_ := Aside0.mk (blk_below z32_ hb)
    have n8_ := Aside0.mk (below_step z6_ hb)
    clear HO288
    clear HO291
    clear HO294
    clear HO297
    clear HO300
    clear BK285
    clear BK304
    clear HB
    have HO288 := n0_
    have HO291 := n1_
    have HO294 := n2_
    have HO297 := n3_
    have HO300 := n4_
    have HO303 := n5_
    have BK285 := n6_
    have BK304 := n7_
    have HB := n8_
    clear n0_ n1_ n2_ n3_ n4_ n5_ n6_ n7_ n8_
    (try clear hb)
    (try clear hb2)
    (try clear hk)
    (try clear hi)
    (try clear ho0)
    obtain ⟨Ao25, co25, eo25⟩ := Kd.R_slice HO303.out
    (first | subst eo25 | (injection eo25 with f1_ f2_ f3_; have f4_ := f1_.symm; have f5_ := f3_.symm; clear f1_ f2_ f3_; subst f4_; subst f5_))
    obtain ⟨Ao26, co26, eo26⟩ := Kd.R_slice HO300.out
    (first | subst eo26 | (injection eo26 with f1_ f2_ f3_; have f4_ := f1_.symm; have f5_ := f3_.symm; clear f1_ f2_ f3_; subst f4_; subst f5_))
    obtain ⟨Ao27, co27, eo27⟩ := Kd.R_slice HO297.out
    (first | subst eo27 | (injection eo27 with f1_ f2_ f3_; have f4_ := f1_.symm; have f5_ := f3_.symm; clear f1_ f2_ f3_; subst f4_; subst f5_))
    obtain ⟨Ao28, co28, eo28⟩ := Kd.R_slice HO294.out
    (first | subst eo28 | (injection eo28 with f1_ f2_ f3_; have f4_ := f1_.symm; have f5_ := f3_.symm; clear f1_ f2_ f3_; subst f4_; subst f5_))
    refine hK.out _ _ ⟨(blk_cell BK285.out 0).trans rfl, (blk_cell BK285.out 1).trans rfl, (blk_cell BK285.out 2).trans rfl⟩ (fun hHeld => ?_)
    clear hK K
    refine zn_ rfl ?_
    refine zpg_ (i := 9) (fl_ 12 11) HT_ rfl rfl (by kernel_rfl) (fun _ _ _ h => h) (by rfl) ?_
    exact norm_ z23_ (hJ1_3_5_7_10 (.slice Ao28 t292.length co28, .slice Ao27 t295.length co27, .slice Ao26 t298.length co26, .slice Ao25 t301.length co25, gb304) _ ⟨hHeld, z174_, z175_, z176_, z177_, z178_, z172_, z7_, z32_, GW304.out, GE304.out, NB285_304.out, NB304_285.out, z6_⟩)
  ·skip
   rintro ⟨v293, v296, v299, v302⟩ w27 ⟨hS_, h0_, h1_, h2_, h3_, h4_, h5_, h6_, h7_⟩
   have n0_ : Aside0 (Kd.R (Kd.int .i64) 3 w27 w.heap.size (fun k_ => some k_ ≠ (v290 : Value).ownBlock ∧ some k_ ≠ (v293 : Value).ownBlock ∧ some k_ ≠ (v296 : Value).ownBlock ∧ some k_ ≠ (v299 : Value).ownBlock ∧ some k_ ≠ (v302 : Value).ownBlock) v287 y286) := ⟨h0_⟩
   have n1_ : Aside0 (Kd.R (Kd.int .i64) 3 w27 w.heap.size (fun k_ => some k_ ≠ (v287 : Value).ownBlock ∧ some k_ ≠ (v293 : Value).ownBlock ∧ some k_ ≠ (v296 : Value).ownBlock ∧ some k_ ≠ (v299 : Value).ownBlock ∧ some k_ ≠ (v302 : Value).ownBlock) v290 y289) := ⟨h1_⟩
   have n2_ : Aside0 (Kd.R (Kd.int .i64) 3 w27 w.heap.size (fun k_ => some k_ ≠ (v287 : Value).ownBlock ∧ some k_ ≠ (v290 : Value).ownBlock ∧ some k_ ≠ (v296 : Value).ownBlock ∧ some k_ ≠ (v299 : Value).ownBlock ∧ some k_ ≠ (v302 : Value).ownBlock) v293 t292) := ⟨h2_⟩
   have n3_ : Aside0 (Kd.R (Kd.int .i64) 3 w27 w.heap.size (fun k_ => some k_ ≠ (v287 : Value).ownBlock ∧ some k_ ≠ (v290 : Value).ownBlock ∧ some k_ ≠ (v293 : Value).ownBlock ∧ some k_ ≠ (v299 : Value).ownBlock ∧ some k_ ≠ (v302 : Value).ownBlock) v296 t295) := ⟨h3_⟩
   have n4_ : Aside0 (Kd.R (Kd.int .i64) 3 w27 w.heap.size (fun k_ => some k_ ≠ (v287 : Value).ownBlock ∧ some k_ ≠ (v290 : Value).ownBlock ∧ some k_ ≠ (v293 : Value).ownBlock ∧ some k_ ≠ (v296 : Value).ownBlock ∧ some k_ ≠ (v302 : Value).ownBlock) v299 t298) := ⟨h4_⟩
   have n5_ : Aside0 (Kd.R (Kd.int .i64) 3 w27 w.heap.size (fun k_ => some k_ ≠ (v287 : Value).ownBlock ∧ some k_ ≠ (v290 : Value).ownBlock ∧ some k_ ≠ (v293 : Value).ownBlock ∧ some k_ ≠ (v296 : Value).ownBlock ∧ some k_ ≠ (v299 : Value).ownBlock) v302 t301) := ⟨h5_⟩
   have n6_ : Aside0 (w27.heap[gb285]? = some (.cells #[.slice A2_0 l2_0.length c2_0, .slice A2_1 l2_1.length c2_1, .slice A2_2 l2_2.length c2_2] 38 (0, 0))) := ⟨h6_⟩
   have n7_ : Aside0 (Below w.heap.size w w27) := ⟨h7_⟩
   clear HO288
   clear HO291
   clear BK285
   clear HB
   clear h0_ h1_ h2_ h3_ h4_ h5_ h6_ h7_
   have HO288 := n0_
   have HO291 := n1_
   have HO294 := n2_
   have HO297 := n3_
   have HO300 := n4_
   have HO303 := n5_
   have BK285 := n6_
   have HB := n7_
   clear n0_ n1_ n2_ n3_ n4_ n5_ n6_ n7_
   have hHeld : w27.cell? ⟨gb285, 0, none⟩ = some (.slice A2_0 l2_0.length c2_0) ∧ w27.cell? ⟨gb285, 1, none⟩ = some (.slice A2_1 l2_1.length c2_1) ∧ w27.cell? ⟨gb285, 2, none⟩ = some (.slice A2_2 l2_2.length c2_2) := hS_
   obtain ⟨Ao28, co28, eo28⟩ := Kd.R_slice HO303.out
   (first | subst eo28 | (injection eo28 with f1_ f2_ f3_; have f4_ := f1_.symm; have f5_ := f3_.symm; clear f1_ f2_ f3_; subst f4_; subst f5_))
   obtain ⟨Ao29, co29, eo29⟩ := Kd.R_slice HO300.out
   (first | subst eo29 | (injection eo29 with f1_ f2_ f3_; have f4_ := f1_.symm; have f5_ := f3_.symm; clear f1_ f2_ f3_; subst f4_; subst f5_))
   obtain ⟨Ao30, co30, eo30⟩ := Kd.R_slice HO297.out
   (first | subst eo30 | (injection eo30 with f1_ f2_ f3_; have f4_ := f1_.symm; have f5_ := f3_.symm; clear f1_ f2_ f3_; subst f4_; subst f5_))
   obtain ⟨Ao31, co31, eo31⟩ := Kd.R_slice HO294.out
   (first | subst eo31 | (injection eo31 with f1_ f2_ f3_; have f4_ := f1_.symm; have f5_ := f3_.symm; clear f1_ f2_ f3_; subst f4_; subst f5_))
   refine norm_ (a' := ?_) ?_ ?_
   rotate_left
   ·simp only [putAll, Act.put, List.setIfInBounds_toArray, List.set_cons_zero, List.set_cons_succ]
    rfl
   refine one_ (i := 10) (N := some 10) (fl_ 12 11) rfl rfl (one_of HT_.out (by kernel_rfl)) (by decide) (fun K hK => ?_)
   refine box_step ?hg (N := 10) ?hd (cs := #[.slice none 0 0, .slice none 0 0, .slice none 0 0, .slice none 0 0, .slice none 0 0, .slice none 0 0, .slice none 0 0]) (t := 105) ?hr ?_; (case hd => rfl); (case hg => rfl); (case hr => exact z9_)
   intro gb304 hg w32 hbox hb
   have n0_ := Aside0.mk (Kd.R_below z17_ hb)
   have n1_ := Aside0.mk (Kd.R_below z22_ hb)
   have n2_ := Aside0.mk (Kd.R_below z30_ hb)
   have n3_ := Aside0.mk (Kd.R_below z43_ hb)
   have n4_ := Aside0.mk (Kd.R_below z78_ hb)
   have n5_ := Aside0.mk (Kd.R_below z162_ hb)
   have n6_ := Aside0.mk (blk_below z7_ hb)
   have n7_ := Aside0.mk (below_step z8_ hb)
   have n8_ := Aside0.mk (hbox)
   have n9_ := Aside0.mk ((by rw [hg]; exact (below_size z8_) : w.heap.size ≤ gb304))
   have n10_ := Aside0.mk ((by rw [hg]; exact (below_size z8_) : w.heap.size ≤ gb304))
   have n11_ := Aside0.mk ((by rw [hg]; exact Nat.ne_of_lt (blk_lt (g := gb285) (o := .cells #[.slice A2_0 l2_0.length c2_0, .slice A2_1 l2_1.length c2_1, .slice A2_2 l2_2.length c2_2] 38 (0, 0)) z7_) : gb285 ≠ gb304))
   have n12_ := Aside0.mk ((by rw [hg]; exact Nat.ne_of_gt (blk_lt (g := gb285) (o := .cells #[.slice A2_0 l2_0.length c2_0, .slice A2_1 l2_1.length c2_1, .slice A2_2 l2_2.length c2_2] 38 (0, 0)) z7_) : gb304 ≠ gb285))
   clear HO288
   clear HO291
   clear HO294
   clear HO297
   clear HO300
   clear HO303
   clear BK285
   clear HB
   have HO288 := n0_
   have HO291 := n1_
   have HO294 := n2_
   have HO297 := n3_
   have HO300 := n4_
   have HO303 := n5_
   have BK285 := n6_
   have HB := n7_
   have BK304 := n8_
   have GW304 := n9_
   have GE304 := n10_
   have NB285_304 := n11_
   have NB304_285 := n12_
   clear n0_ n1_ n2_ n3_ n4_ n5_ n6_ n7_ n8_ n9_ n10_ n11_ n12_
   clear hb hbox hg
   refine hK.out _ _ ⟨(blk_cell BK285.out 0).trans rfl, (blk_cell BK285.out 1).trans rfl, (blk_cell BK285.out 2).trans rfl⟩ (fun hHeld => ?_)
   clear hK K
   refine zn_ rfl ?_
   exact norm_ z23_ (hJ1_3_5_7_10 (.slice Ao31 t292.length co31, .slice Ao30 t295.length co30, .slice Ao29 t298.length co29, .slice Ao28 t301.length co28, gb304) _ ⟨hHeld, z17_, z22_, z30_, z43_, z78_, z162_, z7_, z32_, GW304.out, GE304.out, NB285_304.out, NB304_285.out, z6_⟩)
 rintro ⟨v293, v296, v299, v302, gb304⟩ w28 ⟨hS_, h0_, h1_, h2_, h3_, h4_, h5_, h6_, h7_, h8_, h9_, h10_, h11_, h12_⟩
 have n0_ : Aside0 (Kd.R (Kd.int .i64) 3 w28 w.heap.size (fun k_ => some k_ ≠ (v290 : Value).ownBlock ∧ some k_ ≠ (v293 : Value).ownBlock ∧ some k_ ≠ (v296 : Value).ownBlock ∧ some k_ ≠ (v299 : Value).ownBlock ∧ some k_ ≠ (v302 : Value).ownBlock) v287 y286) := ⟨h0_⟩
 have n1_ : Aside0 (Kd.R (Kd.int .i64) 3 w28 w.heap.size (fun k_ => some k_ ≠ (v287 : Value).ownBlock ∧ some k_ ≠ (v293 : Value).ownBlock ∧ some k_ ≠ (v296 : Value).ownBlock ∧ some k_ ≠ (v299 : Value).ownBlock ∧ some k_ ≠ (v302 : Value).ownBlock) v290 y289) := ⟨h1_⟩
 have n2_ : Aside0 (Kd.R (Kd.int .i64) 3 w28 w.heap.size (fun k_ => some k_ ≠ (v287 : Value).ownBlock ∧ some k_ ≠ (v290 : Value).ownBlock ∧ some k_ ≠ (v296 : Value).ownBlock ∧ some k_ ≠ (v299 : Value).ownBlock ∧ some k_ ≠ (v302 : Value).ownBlock) v293 t292) := ⟨h2_⟩
 have n3_ : Aside0 (Kd.R (Kd.int .i64) 3 w28 w.heap.size (fun k_ => some k_ ≠ (v287 : Value).ownBlock ∧ some k_ ≠ (v290 : Value).ownBlock ∧ some k_ ≠ (v293 : Value).ownBlock ∧ some k_ ≠ (v299 : Value).ownBlock ∧ some k_ ≠ (v302 : Value).ownBlock) v296 t295) := ⟨h3_⟩
 have n4_ : Aside0 (Kd.R (Kd.int .i64) 3 w28 w.heap.size (fun k_ => some k_ ≠ (v287 : Value).ownBlock ∧ some k_ ≠ (v290 : Value).ownBlock ∧ some k_ ≠ (v293 : Value).ownBlock ∧ some k_ ≠ (v296 : Value).ownBlock ∧ some k_ ≠ (v302 : Value).ownBlock) v299 t298) := ⟨h4_⟩
 have n5_ : Aside0 (Kd.R (Kd.int .i64) 3 w28 w.heap.size (fun k_ => some k_ ≠ (v287 : Value).ownBlock ∧ some k_ ≠ (v290 : Value).ownBlock ∧ some k_ ≠ (v293 : Value).ownBlock ∧ some k_ ≠ (v296 : Value).ownBlock ∧ some k_ ≠ (v299 : Value).ownBlock) v302 t301) := ⟨h5_⟩
 have n6_ : Aside0 (w28.heap[gb285]? = some (.cells #[.slice A2_0 l2_0.length c2_0, .slice A2_1 l2_1.length c2_1, .slice A2_2 l2_2.length c2_2] 38 (0, 0))) := ⟨h6_⟩
 have n7_ : Aside0 (w28.heap[gb304]? = some (.cells #[.slice none 0 0, .slice none 0 0, .slice none 0 0, .slice none 0 0, .slice none 0 0, .slice none 0 0, .slice none 0 0] 105 (0, 0))) := ⟨h7_⟩
 have n8_ : Aside0 (w.heap.size ≤ gb304) := ⟨h8_⟩
 have n9_ : Aside0 (w.heap.size ≤ gb304) := ⟨h9_⟩
 have n10_ : Aside0 (gb285 ≠ gb304) := ⟨h10_⟩
 have n11_ : Aside0 (gb304 ≠ gb285) := ⟨h11_⟩
 have n12_ : Aside0 (Below w.heap.size w w28) := ⟨h12_⟩
 clear HO288
 clear HO291
 clear BK285
 clear HB
 clear h0_ h1_ h2_ h3_ h4_ h5_ h6_ h7_ h8_ h9_ h10_ h11_ h12_
 have HO288 := n0_
 have HO291 := n1_
 have HO294 := n2_
 have HO297 := n3_
 have HO300 := n4_
 have HO303 := n5_
 have BK285 := n6_
 have BK304 := n7_
 have GW304 := n8_
 have GE304 := n9_
 have NB285_304 := n10_
 have NB304_285 := n11_
 have HB := n12_
 clear n0_ n1_ n2_ n3_ n4_ n5_ n6_ n7_ n8_ n9_ n10_ n11_ n12_
 have hHeld : w28.cell? ⟨gb285, 0, none⟩ = some (.slice A2_0 l2_0.length c2_0) ∧ w28.cell? ⟨gb285, 1, none⟩ = some (.slice A2_1 l2_1.length c2_1) ∧ w28.cell? ⟨gb285, 2, none⟩ = some (.slice A2_2 l2_2.length c2_2) := hS_
 obtain ⟨Ao29, co29, eo29⟩ := Kd.R_slice HO303.out
 (first | subst eo29 | (injection eo29 with f1_ f2_ f3_; have f4_ := f1_.symm; have f5_ := f3_.symm; clear f1_ f2_ f3_; subst f4_; subst f5_))
 obtain ⟨Ao30, co30, eo30⟩ := Kd.R_slice HO300.out
 (first | subst eo30 | (injection eo30 with f1_ f2_ f3_; have f4_ := f1_.symm; have f5_ := f3_.symm; clear f1_ f2_ f3_; subst f4_; subst f5_))
 obtain ⟨Ao31, co31, eo31⟩ := Kd.R_slice HO297.out
 (first | subst eo31 | (injection eo31 with f1_ f2_ f3_; have f4_ := f1_.symm; have f5_ := f3_.symm; clear f1_ f2_ f3_; subst f4_; subst f5_))
 obtain ⟨Ao32, co32, eo32⟩ := Kd.R_slice HO294.out
 (first | subst eo32 | (injection eo32 with f1_ f2_ f3_; have f4_ := f1_.symm; have f5_ := f3_.symm; clear f1_ f2_ f3_; subst f4_; subst f5_))
 refine norm_ (a' := ?_) ?_ ?_
 rotate_left
 ·simp only [putAll, Act.put, List.setIfInBounds_toArray, List.set_cons_zero, List.set_cons_succ]
  rfl
 refine one_ (i := 11) (N := none) (fl_ 12 12) rfl rfl (one_of HT_.out (by kernel_rfl)) (by decide) (fun K hK => ?_)
 have hs33 : w28.cell? ⟨gb304, 0, none⟩ = some (.slice none 0 0) := (blk_cell BK304.out 0).trans rfl
 have hfs33 := blk_frozen BK304.out 0
 have hns33_0 := NB285_304.out
 have hms33_0 := NB304_285.out
 have hs34 : w28.cell? ⟨gb304, 1, none⟩ = some (.slice none 0 0) := (blk_cell BK304.out 1).trans rfl
 have hfs34 := blk_frozen BK304.out 1
 have hns34_0 := NB285_304.out
 have hms34_0 := NB304_285.out
 have hs35 : w28.cell? ⟨gb304, 2, none⟩ = some (.slice none 0 0) := (blk_cell BK304.out 2).trans rfl
 have hfs35 := blk_frozen BK304.out 2
 have hns35_0 := NB285_304.out
 have hms35_0 := NB304_285.out
 have hs36 : w28.cell? ⟨gb304, 3, none⟩ = some (.slice none 0 0) := (blk_cell BK304.out 3).trans rfl
 have hfs36 := blk_frozen BK304.out 3
 have hns36_0 := NB285_304.out
 have hms36_0 := NB304_285.out
 have hs37 : w28.cell? ⟨gb304, 4, none⟩ = some (.slice none 0 0) := (blk_cell BK304.out 4).trans rfl
 have hfs37 := blk_frozen BK304.out 4
 have hns37_0 := NB285_304.out
 have hms37_0 := NB304_285.out
 have hs38 : w28.cell? ⟨gb304, 5, none⟩ = some (.slice none 0 0) := (blk_cell BK304.out 5).trans rfl
 have hfs38 := blk_frozen BK304.out 5
 have hns38_0 := NB285_304.out
 have hms38_0 := NB304_285.out
 have hs39 : w28.cell? ⟨gb304, 6, none⟩ = some (.slice none 0 0) := (blk_cell BK304.out 6).trans rfl
 have hfs39 := blk_frozen BK304.out 6
 have hns39_0 := NB285_304.out
 have hms39_0 := NB304_285.out
 refine skip_ (w1 := ?_) (by rfl) rfl ?_ ?_
 rotate_left
 ·go_simp
  rfl
 refine hK.out _ _ ⟨((cell_far (p := ⟨gb304, _, none⟩) NB285_304.out _).trans (((cell_far (p := ⟨gb304, _, none⟩) NB285_304.out _).trans (((cell_far (p := ⟨gb304, _, none⟩) NB285_304.out _).trans (((cell_far (p := ⟨gb304, _, none⟩) NB285_304.out _).trans (((cell_far (p := ⟨gb304, _, none⟩) NB285_304.out _).trans (((cell_far (p := ⟨gb304, _, none⟩) NB285_304.out _).trans (((cell_far (p := ⟨gb304, _, none⟩) NB285_304.out _).trans (hHeld.1)))))))))))))), ((cell_far (p := ⟨gb304, _, none⟩) NB285_304.out _).trans (((cell_far (p := ⟨gb304, _, none⟩) NB285_304.out _).trans (((cell_far (p := ⟨gb304, _, none⟩) NB285_304.out _).trans (((cell_far (p := ⟨gb304, _, none⟩) NB285_304.out _).trans (((cell_far (p := ⟨gb304, _, none⟩) NB285_304.out _).trans (((cell_far (p := ⟨gb304, _, none⟩) NB285_304.out _).trans (((cell_far (p := ⟨gb304, _, none⟩) NB285_304.out _).trans (hHeld.2.1)))))))))))))), ((cell_far (p := ⟨gb304, _, none⟩) NB285_304.out _).trans (((cell_far (p := ⟨gb304, _, none⟩) NB285_304.out _).trans (((cell_far (p := ⟨gb304, _, none⟩) NB285_304.out _).trans (((cell_far (p := ⟨gb304, _, none⟩) NB285_304.out _).trans (((cell_far (p := ⟨gb304, _, none⟩) NB285_304.out _).trans (((cell_far (p := ⟨gb304, _, none⟩) NB285_304.out _).trans (((cell_far (p := ⟨gb304, _, none⟩) NB285_304.out _).trans (hHeld.2.2))))))))))))))⟩ (fun hHeld => ?_)
 clear hK K
 refine done_ (done_of HT_.out (by kernel_rfl)) ?_
 try go_wp2_with (first | ((with_reducible refine gate_callee (f := 82) rfl ?_); refine goesL_ (some 33) rfl rfl Try.func82 (by kernel_rfl) rfl #[.slice A0 l0.length c0] rfl z1_ ?_; (with_reducible refine (spec_KeyRoots.calls k _ _ l0 t305 _ ?side1 ?side2 A11.out).mono ?_); (case side1 => exact Kd.C_below HR0.out z6_); (case side2 => exact HC0.out); rintro e w40 ⟨v306, rfl, ho0, hb⟩; refine ⟨_, rfl, ?_⟩; have HO307 := Aside0.mk (Kd.R_lower (Kd.R_new' (Kd.R_new' (Kd.R_new' (Kd.R_new' (Kd.R_new' (Kd.R_new' ho0 (Kd.R_lt z47_)) (Kd.R_lt z48_)) (Kd.R_lt z49_)) (Kd.R_lt z50_)) (Kd.R_lt z51_)) (Kd.R_lt z52_)) (below_size z6_)); replace HO288 := Aside0.mk (Kd.R_elder' z47_ (Kd.R_base ho0) hb); replace HO291 := Aside0.mk (Kd.R_elder' z48_ (Kd.R_base ho0) hb); replace HO294 := Aside0.mk (Kd.R_elder' z49_ (Kd.R_base ho0) hb); replace HO297 := Aside0.mk (Kd.R_elder' z50_ (Kd.R_base ho0) hb); replace HO300 := Aside0.mk (Kd.R_elder' z51_ (Kd.R_base ho0) hb); replace HO303 := Aside0.mk (Kd.R_elder' z52_ (Kd.R_base ho0) hb); replace BK285 := Aside0.mk (blk_below (g := gb285) (o := .cells #[.slice A2_0 l2_0.length c2_0, .slice A2_1 l2_1.length c2_1, .slice A2_2 l2_2.length c2_2] 38 (0, 0)) (by (with_reducible repeat (first | refine blk_drewN ?_ _ | refine blk_drew ?_ | refine blk_alloc ?_ _)); refine blk_far ?_ NB285_304.out _; (with_reducible repeat (first | refine blk_drewN ?_ _ | refine blk_drew ?_ | refine blk_alloc ?_ _)); refine blk_far ?_ NB285_304.out _; (with_reducible repeat (first | refine blk_drewN ?_ _ | refine blk_drew ?_ | refine blk_alloc ?_ _)); refine blk_far ?_ NB285_304.out _; (with_reducible repeat (first | refine blk_drewN ?_ _ | refine blk_drew ?_ | refine blk_alloc ?_ _)); refine blk_far ?_ NB285_304.out _; (with_reducible repeat (first | refine blk_drewN ?_ _ | refine blk_drew ?_ | refine blk_alloc ?_ _)); refine blk_far ?_ NB285_304.out _; (with_reducible repeat (first | refine blk_drewN ?_ _ | refine blk_drew ?_ | refine blk_alloc ?_ _)); refine blk_far ?_ NB285_304.out _; (with_reducible repeat (first | refine blk_drewN ?_ _ | refine blk_drew ?_ | refine blk_alloc ?_ _)); refine blk_far ?_ NB285_304.out _; (with_reducible repeat (first | refine blk_drewN ?_ _ | refine blk_drew ?_ | refine blk_alloc ?_ _)); exact BK285.out) hb); replace BK304 := Aside0.mk (blk_below (g := gb304) (o := .cells #[.slice Ao32 t292.length co32, .slice Ao31 t295.length co31, .slice Ao30 t298.length co30, .slice Ao29 t301.length co29, .slice A2_0 l2_0.length c2_0, .slice A2_1 l2_1.length c2_1, .slice A2_2 l2_2.length c2_2] 105 (0, 0)) (by (with_reducible repeat (first | refine blk_drewN ?_ _ | refine blk_drew ?_ | refine blk_alloc ?_ _)); refine blk_put (cs := #[.slice Ao32 t292.length co32, .slice Ao31 t295.length co31, .slice Ao30 t298.length co30, .slice Ao29 t301.length co29, .slice A2_0 l2_0.length c2_0, .slice A2_1 l2_1.length c2_1, .slice none 0 0]) ?_ 6 _ rfl; (with_reducible repeat (first | refine blk_drewN ?_ _ | refine blk_drew ?_ | refine blk_alloc ?_ _)); refine blk_put (cs := #[.slice Ao32 t292.length co32, .slice Ao31 t295.length co31, .slice Ao30 t298.length co30, .slice Ao29 t301.length co29, .slice A2_0 l2_0.length c2_0, .slice none 0 0, .slice none 0 0]) ?_ 5 _ rfl; (with_reducible repeat (first | refine blk_drewN ?_ _ | refine blk_drew ?_ | refine blk_alloc ?_ _)); refine blk_put (cs := #[.slice Ao32 t292.length co32, .slice Ao31 t295.length co31, .slice Ao30 t298.length co30, .slice Ao29 t301.length co29, .slice none 0 0, .slice none 0 0, .slice none 0 0]) ?_ 4 _ rfl; (with_reducible repeat (first | refine blk_drewN ?_ _ | refine blk_drew ?_ | refine blk_alloc ?_ _)); refine blk_put (cs := #[.slice Ao32 t292.length co32, .slice Ao31 t295.length co31, .slice Ao30 t298.length co30, .slice none 0 0, .slice none 0 0, .slice none 0 0, .slice none 0 0]) ?_ 3 _ rfl; (with_reducible repeat (first | refine blk_drewN ?_ _ | refine blk_drew ?_ | refine blk_alloc ?_ _)); refine blk_put (cs := #[.slice Ao32 t292.length co32, .slice Ao31 t295.length co31, .slice none 0 0, .slice none 0 0, .slice none 0 0, .slice none 0 0, .slice none 0 0]) ?_ 2 _ rfl; (with_reducible repeat (first | refine blk_drewN ?_ _ | refine blk_drew ?_ | refine blk_alloc ?_ _)); refine blk_put (cs := #[.slice Ao32 t292.length co32, .slice none 0 0, .slice none 0 0, .slice none 0 0, .slice none 0 0, .slice none 0 0, .slice none 0 0]) ?_ 1 _ rfl; (with_reducible repeat (first | refine blk_drewN ?_ _ | refine blk_drew ?_ | refine blk_alloc ?_ _)); refine blk_put (cs := #[.slice none 0 0, .slice none 0 0, .slice none 0 0, .slice none 0 0, .slice none 0 0, .slice none 0 0, .slice none 0 0]) ?_ 0 _ rfl; (with_reducible repeat (first | refine blk_drewN ?_ _ | refine blk_drew ?_ | refine blk_alloc ?_ _)); exact BK304.out) hb); replace HB := Aside0.mk (below_step z6_ hb); (try clear hb ho0)) | ((with_reducible refine gate_callee (f := 82) rfl ?_); refine goesL_ (some 35) rfl rfl Try.func82 (by kernel_rfl) rfl #[.slice A1 l1.length c1] rfl z1_ ?_; (with_reducible refine (spec_KeyRoots.calls k _ _ l1 t308 _ ?side1 ?side2 A12.out).mono ?_); (case side1 => exact z10_); (case side2 => exact HC1.out); rintro e w41 ⟨v309, rfl, ho0, hb⟩; refine ⟨_, rfl, ?_⟩; have HO310 := Aside0.mk (Kd.R_lower (Kd.R_new' (Kd.R_new' (Kd.R_new' (Kd.R_new' (Kd.R_new' (Kd.R_new' (Kd.R_new' ho0 (Kd.R_lt z17_)) (Kd.R_lt z22_)) (Kd.R_lt z30_)) (Kd.R_lt z43_)) (Kd.R_lt z78_)) (Kd.R_lt z162_)) (Kd.R_lt z220_)) (below_size z6_)); replace HO288 := Aside0.mk (Kd.R_elder' z17_ (Kd.R_base ho0) hb); replace HO291 := Aside0.mk (Kd.R_elder' z22_ (Kd.R_base ho0) hb); replace HO294 := Aside0.mk (Kd.R_elder' z30_ (Kd.R_base ho0) hb); replace HO297 := Aside0.mk (Kd.R_elder' z43_ (Kd.R_base ho0) hb); replace HO300 := Aside0.mk (Kd.R_elder' z78_ (Kd.R_base ho0) hb); replace HO303 := Aside0.mk (Kd.R_elder' z162_ (Kd.R_base ho0) hb); replace HO307 := Aside0.mk (Kd.R_elder' z220_ (Kd.R_base ho0) hb); replace BK285 := Aside0.mk (blk_below z7_ hb); replace BK304 := Aside0.mk (blk_below z32_ hb); replace HB := Aside0.mk (below_step z6_ hb); (try clear hb ho0)))
 go_loopg [9, 13] k (fun kq v9 v13 w' => ∃ (x8_1 : List Int) (x9_1 : List Int) (x13_1 : Int), v13 = .int .i64 x13_1 ∧ Aside0 (spec_l8All.l0 kq x8_1 x9_1 t305 t308 x13_1 t292 t295 t298 t301 l2_0 l2_1 l2_2 = some (r1, r2)) ∧ Aside0 (kq ≤ k) ∧ Aside0 (Kd.R (Kd.int .i64) 3 w' w.heap.size (fun k_ => some k_ ≠ (v9 : Value).ownBlock ∧ some k_ ≠ (v306 : Value).ownBlock ∧ some k_ ≠ (v309 : Value).ownBlock ∧ some k_ ≠ ((.slice Ao32 t292.length co32) : Value).ownBlock ∧ some k_ ≠ ((.slice Ao31 t295.length co31) : Value).ownBlock ∧ some k_ ≠ ((.slice Ao30 t298.length co30) : Value).ownBlock ∧ some k_ ≠ ((.slice Ao29 t301.length co29) : Value).ownBlock) v287 x8_1) ∧ Aside0 (Kd.R (Kd.int .i64) 3 w' w.heap.size (fun k_ => some k_ ≠ (v287 : Value).ownBlock ∧ some k_ ≠ (v306 : Value).ownBlock ∧ some k_ ≠ (v309 : Value).ownBlock ∧ some k_ ≠ ((.slice Ao32 t292.length co32) : Value).ownBlock ∧ some k_ ≠ ((.slice Ao31 t295.length co31) : Value).ownBlock ∧ some k_ ≠ ((.slice Ao30 t298.length co30) : Value).ownBlock ∧ some k_ ≠ ((.slice Ao29 t301.length co29) : Value).ownBlock) v9 x9_1) ∧ Aside0 (Kd.R (Kd.int .i64) 3 w' w.heap.size (fun k_ => some k_ ≠ (v287 : Value).ownBlock ∧ some k_ ≠ (v9 : Value).ownBlock ∧ some k_ ≠ (v309 : Value).ownBlock ∧ some k_ ≠ ((.slice Ao32 t292.length co32) : Value).ownBlock ∧ some k_ ≠ ((.slice Ao31 t295.length co31) : Value).ownBlock ∧ some k_ ≠ ((.slice Ao30 t298.length co30) : Value).ownBlock ∧ some k_ ≠ ((.slice Ao29 t301.length co29) : Value).ownBlock) v306 t305) ∧ Aside0 (Kd.R (Kd.int .i64) 3 w' w.heap.size (fun k_ => some k_ ≠ (v287 : Value).ownBlock ∧ some k_ ≠ (v9 : Value).ownBlock ∧ some k_ ≠ (v306 : Value).ownBlock ∧ some k_ ≠ ((.slice Ao32 t292.length co32) : Value).ownBlock ∧ some k_ ≠ ((.slice Ao31 t295.length co31) : Value).ownBlock ∧ some k_ ≠ ((.slice Ao30 t298.length co30) : Value).ownBlock ∧ some k_ ≠ ((.slice Ao29 t301.length co29) : Value).ownBlock) v309 t308) ∧ Aside0 (Kd.R (Kd.int .i64) 3 w' w.heap.size (fun k_ => some k_ ≠ (v287 : Value).ownBlock ∧ some k_ ≠ (v9 : Value).ownBlock ∧ some k_ ≠ (v306 : Value).ownBlock ∧ some k_ ≠ (v309 : Value).ownBlock ∧ some k_ ≠ ((.slice Ao31 t295.length co31) : Value).ownBlock ∧ some k_ ≠ ((.slice Ao30 t298.length co30) : Value).ownBlock ∧ some k_ ≠ ((.slice Ao29 t301.length co29) : Value).ownBlock) (.slice Ao32 t292.length co32) t292) ∧ Aside0 (Kd.R (Kd.int .i64) 3 w' w.heap.size (fun k_ => some k_ ≠ (v287 : Value).ownBlock ∧ some k_ ≠ (v9 : Value).ownBlock ∧ some k_ ≠ (v306 : Value).ownBlock ∧ some k_ ≠ (v309 : Value).ownBlock ∧ some k_ ≠ ((.slice Ao32 t292.length co32) : Value).ownBlock ∧ some k_ ≠ ((.slice Ao30 t298.length co30) : Value).ownBlock ∧ some k_ ≠ ((.slice Ao29 t301.length co29) : Value).ownBlock) (.slice Ao31 t295.length co31) t295) ∧ Aside0 (Kd.R (Kd.int .i64) 3 w' w.heap.size (fun k_ => some k_ ≠ (v287 : Value).ownBlock ∧ some k_ ≠ (v9 : Value).ownBlock ∧ some k_ ≠ (v306 : Value).ownBlock ∧ some k_ ≠ (v309 : Value).ownBlock ∧ some k_ ≠ ((.slice Ao32 t292.length co32) : Value).ownBlock ∧ some k_ ≠ ((.slice Ao31 t295.length co31) : Value).ownBlock ∧ some k_ ≠ ((.slice Ao29 t301.length co29) : Value).ownBlock) (.slice Ao30 t298.length co30) t298) ∧ Aside0 (Kd.R (Kd.int .i64) 3 w' w.heap.size (fun k_ => some k_ ≠ (v287 : Value).ownBlock ∧ some k_ ≠ (v9 : Value).ownBlock ∧ some k_ ≠ (v306 : Value).ownBlock ∧ some k_ ≠ (v309 : Value).ownBlock ∧ some k_ ≠ ((.slice Ao32 t292.length co32) : Value).ownBlock ∧ some k_ ≠ ((.slice Ao31 t295.length co31) : Value).ownBlock ∧ some k_ ≠ ((.slice Ao30 t298.length co30) : Value).ownBlock) (.slice Ao29 t301.length co29) t301) ∧ Aside0 (w'.heap[gb285]? = some (.cells #[(.slice A2_0 l2_0.length c2_0), (.slice A2_1 l2_1.length c2_1), (.slice A2_2 l2_2.length c2_2)] 38 (0, 0))) ∧ Aside0 (w'.heap[gb304]? = some (.cells #[(.slice Ao32 t292.length co32), (.slice Ao31 t295.length co31), (.slice Ao30 t298.length co30), (.slice Ao29 t301.length co29), (.slice A2_0 l2_0.length c2_0), (.slice A2_1 l2_1.length c2_1), (.slice A2_2 l2_2.length c2_2)] 105 (0, 0))) ∧ Aside0 (Below w.heap.size w w'))
 case atStart => exact ⟨(y286), (y289), (0), z4_, H', ⟨Nat.le_refl _⟩, ⟨by (with_reducible repeat (first | apply Kd.R_alloc | apply Kd.R_drewN | apply Kd.R_drew)); exact Kd.R_mono HO288.out (fun _ hk => ⟨hk.1.1.1, ⟨hk.1.2, ⟨hk.2, ⟨hk.1.1.2.1, ⟨hk.1.1.2.2.1, ⟨hk.1.1.2.2.2.1, hk.1.1.2.2.2.2⟩⟩⟩⟩⟩⟩)⟩, ⟨by (with_reducible repeat (first | apply Kd.R_alloc | apply Kd.R_drewN | apply Kd.R_drew)); exact Kd.R_mono HO291.out (fun _ hk => ⟨hk.1.1.1, ⟨hk.1.2, ⟨hk.2, ⟨hk.1.1.2.1, ⟨hk.1.1.2.2.1, ⟨hk.1.1.2.2.2.1, hk.1.1.2.2.2.2⟩⟩⟩⟩⟩⟩)⟩, ⟨by (with_reducible repeat (first | apply Kd.R_alloc | apply Kd.R_drewN | apply Kd.R_drew)); exact Kd.R_mono HO307.out (fun _ hk => ⟨hk.1.1.1.1.1.1.2, ⟨hk.1.1.1.1.1.2, ⟨hk.2, ⟨hk.1.1.1.1.2, ⟨hk.1.1.1.2, ⟨hk.1.1.2, hk.1.2⟩⟩⟩⟩⟩⟩)⟩, ⟨by (with_reducible repeat (first | apply Kd.R_alloc | apply Kd.R_drewN | apply Kd.R_drew)); exact Kd.R_mono HO310.out (fun _ hk => ⟨hk.1.1.1.1.1.1.2, ⟨hk.1.1.1.1.1.2, ⟨hk.2, ⟨hk.1.1.1.1.2, ⟨hk.1.1.1.2, ⟨hk.1.1.2, hk.1.2⟩⟩⟩⟩⟩⟩)⟩, ⟨by (with_reducible repeat (first | apply Kd.R_alloc | apply Kd.R_drewN | apply Kd.R_drew)); exact Kd.R_mono HO294.out (fun _ hk => ⟨hk.1.1.1, ⟨hk.1.1.2.1, ⟨hk.1.2, ⟨hk.2, ⟨hk.1.1.2.2.1, ⟨hk.1.1.2.2.2.1, hk.1.1.2.2.2.2⟩⟩⟩⟩⟩⟩)⟩, ⟨by (with_reducible repeat (first | apply Kd.R_alloc | apply Kd.R_drewN | apply Kd.R_drew)); exact Kd.R_mono HO297.out (fun _ hk => ⟨hk.1.1.1, ⟨hk.1.1.2.1, ⟨hk.1.2, ⟨hk.2, ⟨hk.1.1.2.2.1, ⟨hk.1.1.2.2.2.1, hk.1.1.2.2.2.2⟩⟩⟩⟩⟩⟩)⟩, ⟨by (with_reducible repeat (first | apply Kd.R_alloc | apply Kd.R_drewN | apply Kd.R_drew)); exact Kd.R_mono HO300.out (fun _ hk => ⟨hk.1.1.1, ⟨hk.1.1.2.1, ⟨hk.1.2, ⟨hk.2, ⟨hk.1.1.2.2.1, ⟨hk.1.1.2.2.2.1, hk.1.1.2.2.2.2⟩⟩⟩⟩⟩⟩)⟩, ⟨by (with_reducible repeat (first | apply Kd.R_alloc | apply Kd.R_drewN | apply Kd.R_drew)); exact Kd.R_mono HO303.out (fun _ hk => ⟨hk.1.1.1, ⟨hk.1.1.2.1, ⟨hk.1.2, ⟨hk.2, ⟨hk.1.1.2.2.1, ⟨hk.1.1.2.2.2.1, hk.1.1.2.2.2.2⟩⟩⟩⟩⟩⟩)⟩, ⟨z7_⟩, ⟨z32_⟩, ⟨z6_⟩⟩
 case round =>
  clear H'
  try clear c1
  try clear c2
  try clear p2
  try clear c8
  obtain ⟨x8_1, x9_1, x13_1, rfl, HA, HK1, HO_8, HO_9, HO_11, HO_12, HO_305000, HO_305001, HO_305002, HO_305003, BK285, BK304, HB⟩ := hrel
  cases gk with
  | zero => exact absurd HA.out (by simp [spec_l8All.l0])
  | succ k1 =>
   have H := HA.out
   clear HA
   simp only [spec_l8All.l0] at H
   by_cases c42 : x13_1 < (t305.length : Int)
   ·rw [if_pos c42] at H
    have c42b0 := decide_eq_true c42
    clear c42
    have H' := Aside0.mk H
    clear H
    obtain ⟨Ao43, co43, eo43⟩ := Kd.R_slice HO_11.out
    subst eo43
    go_wp2
    go_loopg [9, 14] k1 (fun kq v9 v14 w' => ∃ (x8_2 : List Int) (x9_2 : List Int) (x14_2 : Int), v14 = .int .i64 x14_2 ∧ Aside0 (spec_l8All.l1 kq x8_2 x9_2 t305 t308 x13_1 x14_2 t292 t295 t298 t301 l2_0 l2_1 l2_2 = some (r1, r2)) ∧ Aside0 (kq ≤ k1) ∧ Aside0 (Kd.R (Kd.int .i64) 3 w' w.heap.size (fun k_ => some k_ ≠ (v9 : Value).ownBlock ∧ some k_ ≠ ((.slice Ao43 t305.length co43) : Value).ownBlock ∧ some k_ ≠ (v309 : Value).ownBlock ∧ some k_ ≠ ((.slice Ao32 t292.length co32) : Value).ownBlock ∧ some k_ ≠ ((.slice Ao31 t295.length co31) : Value).ownBlock ∧ some k_ ≠ ((.slice Ao30 t298.length co30) : Value).ownBlock ∧ some k_ ≠ ((.slice Ao29 t301.length co29) : Value).ownBlock) v287 x8_2) ∧ Aside0 (Kd.R (Kd.int .i64) 3 w' w.heap.size (fun k_ => some k_ ≠ (v287 : Value).ownBlock ∧ some k_ ≠ ((.slice Ao43 t305.length co43) : Value).ownBlock ∧ some k_ ≠ (v309 : Value).ownBlock ∧ some k_ ≠ ((.slice Ao32 t292.length co32) : Value).ownBlock ∧ some k_ ≠ ((.slice Ao31 t295.length co31) : Value).ownBlock ∧ some k_ ≠ ((.slice Ao30 t298.length co30) : Value).ownBlock ∧ some k_ ≠ ((.slice Ao29 t301.length co29) : Value).ownBlock) v9 x9_2) ∧ Aside0 (Kd.R (Kd.int .i64) 3 w' w.heap.size (fun k_ => some k_ ≠ (v287 : Value).ownBlock ∧ some k_ ≠ (v9 : Value).ownBlock ∧ some k_ ≠ (v309 : Value).ownBlock ∧ some k_ ≠ ((.slice Ao32 t292.length co32) : Value).ownBlock ∧ some k_ ≠ ((.slice Ao31 t295.length co31) : Value).ownBlock ∧ some k_ ≠ ((.slice Ao30 t298.length co30) : Value).ownBlock ∧ some k_ ≠ ((.slice Ao29 t301.length co29) : Value).ownBlock) (.slice Ao43 t305.length co43) t305) ∧ Aside0 (Kd.R (Kd.int .i64) 3 w' w.heap.size (fun k_ => some k_ ≠ (v287 : Value).ownBlock ∧ some k_ ≠ (v9 : Value).ownBlock ∧ some k_ ≠ ((.slice Ao43 t305.length co43) : Value).ownBlock ∧ some k_ ≠ ((.slice Ao32 t292.length co32) : Value).ownBlock ∧ some k_ ≠ ((.slice Ao31 t295.length co31) : Value).ownBlock ∧ some k_ ≠ ((.slice Ao30 t298.length co30) : Value).ownBlock ∧ some k_ ≠ ((.slice Ao29 t301.length co29) : Value).ownBlock) v309 t308) ∧ Aside0 (Kd.R (Kd.int .i64) 3 w' w.heap.size (fun k_ => some k_ ≠ (v287 : Value).ownBlock ∧ some k_ ≠ (v9 : Value).ownBlock ∧ some k_ ≠ ((.slice Ao43 t305.length co43) : Value).ownBlock ∧ some k_ ≠ (v309 : Value).ownBlock ∧ some k_ ≠ ((.slice Ao31 t295.length co31) : Value).ownBlock ∧ some k_ ≠ ((.slice Ao30 t298.length co30) : Value).ownBlock ∧ some k_ ≠ ((.slice Ao29 t301.length co29) : Value).ownBlock) (.slice Ao32 t292.length co32) t292) ∧ Aside0 (Kd.R (Kd.int .i64) 3 w' w.heap.size (fun k_ => some k_ ≠ (v287 : Value).ownBlock ∧ some k_ ≠ (v9 : Value).ownBlock ∧ some k_ ≠ ((.slice Ao43 t305.length co43) : Value).ownBlock ∧ some k_ ≠ (v309 : Value).ownBlock ∧ some k_ ≠ ((.slice Ao32 t292.length co32) : Value).ownBlock ∧ some k_ ≠ ((.slice Ao30 t298.length co30) : Value).ownBlock ∧ some k_ ≠ ((.slice Ao29 t301.length co29) : Value).ownBlock) (.slice Ao31 t295.length co31) t295) ∧ Aside0 (Kd.R (Kd.int .i64) 3 w' w.heap.size (fun k_ => some k_ ≠ (v287 : Value).ownBlock ∧ some k_ ≠ (v9 : Value).ownBlock ∧ some k_ ≠ ((.slice Ao43 t305.length co43) : Value).ownBlock ∧ some k_ ≠ (v309 : Value).ownBlock ∧ some k_ ≠ ((.slice Ao32 t292.length co32) : Value).ownBlock ∧ some k_ ≠ ((.slice Ao31 t295.length co31) : Value).ownBlock ∧ some k_ ≠ ((.slice Ao29 t301.length co29) : Value).ownBlock) (.slice Ao30 t298.length co30) t298) ∧ Aside0 (Kd.R (Kd.int .i64) 3 w' w.heap.size (fun k_ => some k_ ≠ (v287 : Value).ownBlock ∧ some k_ ≠ (v9 : Value).ownBlock ∧ some k_ ≠ ((.slice Ao43 t305.length co43) : Value).ownBlock ∧ some k_ ≠ (v309 : Value).ownBlock ∧ some k_ ≠ ((.slice Ao32 t292.length co32) : Value).ownBlock ∧ some k_ ≠ ((.slice Ao31 t295.length co31) : Value).ownBlock ∧ some k_ ≠ ((.slice Ao30 t298.length co30) : Value).ownBlock) (.slice Ao29 t301.length co29) t301) ∧ Aside0 (w'.heap[gb285]? = some (.cells #[(.slice A2_0 l2_0.length c2_0), (.slice A2_1 l2_1.length c2_1), (.slice A2_2 l2_2.length c2_2)] 38 (0, 0))) ∧ Aside0 (w'.heap[gb304]? = some (.cells #[(.slice Ao32 t292.length co32), (.slice Ao31 t295.length co31), (.slice Ao30 t298.length co30), (.slice Ao29 t301.length co29), (.slice A2_0 l2_0.length c2_0), (.slice A2_1 l2_1.length c2_1), (.slice A2_2 l2_2.length c2_2)] 105 (0, 0))) ∧ Aside0 (Below w.heap.size w w'))
    case atStart => exact ⟨(x8_1), (x9_1), (0), z4_, H', ⟨Nat.le_refl _⟩, ⟨z223_⟩, ⟨z202_⟩, ⟨z163_⟩, ⟨z198_⟩, ⟨z192_⟩, ⟨z193_⟩, ⟨z194_⟩, ⟨z195_⟩, ⟨z7_⟩, ⟨z32_⟩, ⟨z6_⟩⟩
    case round =>
     clear H'
     try clear c1
     try clear c2
     try clear p2
     try clear c4
     try clear c8
     try clear c42
     try clear c42b0
     try clear p2
     obtain ⟨x8_2, x9_2, x14_2, rfl, HA, HK2, HO_8, HO_9, HO_11, HO_12, HO_305000, HO_305001, HO_305002, HO_305003, BK285, BK304, HB⟩ := hrel
     cases gk with
     | zero => exact absurd HA.out (by simp [spec_l8All.l1])
     | succ k2 =>
      have H := HA.out
      clear HA
      simp only [spec_l8All.l1] at H
      by_cases c44 : x14_2 < (t308.length : Int)
      ·rw [if_pos c44] at H
       have c44b0 := decide_eq_true c44
       clear c44
       obtain ⟨c45b0, H⟩ := ifd_ H
       obtain ⟨c46b0, H⟩ := ifd_ H
       obtain ⟨c47b0, H⟩ := ifd_ H
       replace H := Option.bind_eq_some_iff.mp H
       obtain ⟨⟨t313, t316⟩, A480, H⟩ := H
       try dsimp only at H
       have A48 := Aside0.mk A480
       clear A480
       have H' := Aside0.mk H
       clear H
       obtain ⟨Ao49, co49, eo49⟩ := Kd.R_slice HO_12.out
       subst eo49
       try go_wp2
       have n0_ := Aside0.mk (Kd.R_drew HO_8.out)
       have n1_ := Aside0.mk (Kd.R_drew HO_9.out)
       have n2_ := Aside0.mk (Kd.R_drew HO_11.out)
       have n3_ := Aside0.mk (Kd.R_drew HO_12.out)
       have n4_ := Aside0.mk (Kd.R_drew HO_305000.out)
       have n5_ := Aside0.mk (Kd.R_drew HO_305001.out)
       have n6_ := Aside0.mk (Kd.R_drew HO_305002.out)
       have n7_ := Aside0.mk (Kd.R_drew HO_305003.out)
       have n8_ := Aside0.mk (blk_drew BK285.out)
       have n9_ := Aside0.mk (blk_drew BK304.out)
       have n10_ := Aside0.mk (below_drew1 HB.out)
       clear HO_8
       clear HO_9
       clear HO_11
       clear HO_12
       clear HO_305000
       clear HO_305001
       clear HO_305002
       clear HO_305003
       clear BK285
       clear BK304
       clear HB
       have HO_8 := n0_
       have HO_9 := n1_
       have HO_11 := n2_
       have HO_12 := n3_
       have HO_305000 := n4_
       have HO_305001 := n5_
       have HO_305002 := n6_
       have HO_305003 := n7_
       have BK285 := n8_
       have BK304 := n9_
       have HB := n10_
       clear n0_ n1_ n2_ n3_ n4_ n5_ n6_ n7_ n8_ n9_ n10_
       have p311 : 0 ≤ (x13_1 : Int) := odt_
       have q311 : x13_1 < (t305.length : Int) := odt_
       obtain ⟨ad311, e311, hx311_0⟩ := Kd.at_int (Kd.R_reads' HO_11.out).2.2 x13_1 p311 q311
       cases e311
       replace p311 := eq_true p311
       replace q311 := eq_true q311
       have p312 : 0 ≤ (x14_2 : Int) := odt_
       have q312 : x14_2 < (t308.length : Int) := odt_
       obtain ⟨ad312, e312, hx312_0⟩ := Kd.at_int (Kd.R_reads' HO_12.out).2.2 x14_2 p312 q312
       cases e312
       replace p312 := eq_true p312
       replace q312 := eq_true q312
       obtain ⟨Ao51, co51, eo51⟩ := Kd.R_slice HO_8.out
       (first | subst eo51 | (injection eo51 with f1_ f2_ f3_; have f4_ := f1_.symm; have f5_ := f3_.symm; clear f1_ f2_ f3_; subst f4_; subst f5_))
       refine start_ (n := 12) (S := fun w' => w'.cell? ⟨gb304, 0, none⟩ = some (.slice Ao32 t292.length co32) ∧ w'.cell? ⟨gb304, 1, none⟩ = some (.slice Ao31 t295.length co31) ∧ w'.cell? ⟨gb304, 2, none⟩ = some (.slice Ao30 t298.length co30) ∧ w'.cell? ⟨gb304, 3, none⟩ = some (.slice Ao29 t301.length co29) ∧ w'.cell? ⟨gb304, 4, none⟩ = some (.slice A2_0 l2_0.length c2_0) ∧ w'.cell? ⟨gb304, 5, none⟩ = some (.slice A2_1 l2_1.length c2_1) ∧ w'.cell? ⟨gb304, 6, none⟩ = some (.slice A2_2 l2_2.length c2_2) ∧ w'.cell? (ad311.add (x13_1).toNat) = some (.int .i64 (rd t305 x13_1)) ∧ w'.cell? (ad312.add (x14_2).toNat) = some (.int .i64 (rd t308 x14_2))) (ds := []) (fl_ 12 0) (by kernel_rfl) rfl (fl_zero _) ⟨(blk_cell BK304.out 0).trans rfl, (blk_cell BK304.out 1).trans rfl, (blk_cell BK304.out 2).trans rfl, (blk_cell BK304.out 3).trans rfl, (blk_cell BK304.out 4).trans rfl, (blk_cell BK304.out 5).trans rfl, (blk_cell BK304.out 6).trans rfl, hx311_0, hx312_0⟩ (fun hHeld => ?_); refine with_tabW spec_l8All.tab12 spec_l8All.bits12 (fun HT_ HW_ => ?_)
       generalize wr.drew = w50 at HO_8 HO_9 HO_11 HO_12 HO_305000 HO_305001 HO_305002 HO_305003 BK285 BK304 HB hx311_0 hx312_0 hHeld ⊢
       refine zpg_ (i := 1) (ra_ [0, 1, 1, 10]) HT_ rfl rfl (by kernel_rfl) (fun _ _ _ h => h) (by rfl) ?_
       refine zpg_ (i := 2) (ra_ [0, 1, 2, 9]) HT_ rfl rfl (by kernel_rfl) (fun _ _ _ h => h) (by rfl) ?_
       refine zpg_ (i := 3) (ra_ [0, 1, 3, 8]) HT_ rfl rfl (by kernel_rfl) (fun _ _ _ h => h) (by rfl) ?_
       refine zpg_ (i := 5) (ra_ [0, 1, 3, 1, 1, 6]) HT_ rfl rfl (by kernel_rfl) (fun _ _ _ h => h) (by rfl) ?_
       refine zpg_ (i := 6) (ra_ [0, 1, 3, 1, 2, 5]) HT_ rfl rfl (by kernel_rfl) (fun _ _ _ h => h) (by rfl) ?_
       refine zpg_ (i := 7) (ra_ [0, 1, 3, 1, 3, 4]) HT_ rfl rfl (by kernel_rfl) (fun _ _ _ h => h) (by rfl) ?_
       refine zpg_ (i := 9) (ra_ [0, 1, 3, 1, 3, 1, 1, 2]) HT_ rfl rfl (by kernel_rfl) (fun _ _ _ h => h) (by rfl) ?_
       refine ztg_ (i := 0) (ra_ [4, 1, 3, 1, 1, 2]) HT_ HW_ rfl rfl (by kernel_rfl) (fun _ _ _ h => h) (by rfl) hHeld ?_ z215_
       refine ztg_ (i := 4) (ra_ [8, 1, 1, 2]) HT_ HW_ rfl rfl (by kernel_rfl) (fun _ _ _ h => h) (by rfl) hHeld ?_ z215_
       refine ztg_ (i := 8) (fl_ 12 10) HT_ HW_ rfl rfl (by kernel_rfl) (fun _ _ _ h => h) (by rfl) hHeld ?_ z215_
       refine one_ (i := 10) (N := some 58) (fl_ 12 11) rfl rfl (one_of HT_.out (by kernel_rfl)) (by decide) (fun K hK => ?_)
       refine goes_ Try.func83 (by kernel_rfl) rfl #[.agg #[.slice Ao32 t292.length co32, .slice Ao31 t295.length co31, .slice Ao30 t298.length co30, .slice Ao29 t301.length co29, .slice A2_0 l2_0.length c2_0, .slice A2_1 l2_1.length c2_1, .slice A2_2 l2_2.length c2_2], .int .i64 (rd t305 x13_1), .int .i64 (rd t308 x14_2), .slice Ao51 x8_2.length co51] (by rfl) rfl rfl z1_ ?_
       with_reducible refine (spec_l8Forest.calls k2 _ _ t292 _ _ t295 _ _ t298 _ _ t301 _ _ l2_0 _ _ l2_1 _ _ l2_2 (rd t305 x13_1) (rd t308 x14_2) (fun k_ => some k_ = (.slice Ao51 x8_2.length co51 : Value).ownBlock) (.slice Ao51 x8_2.length co51) x8_2 t313 t316 w _ ?side1 ?side2 ?side3 ?side4 ?side5 ?side6 ?side7 ?side8 ?side9 ?side10 ?side11 ?side12 ?side13 ?side14 ?side15 ?side16 A48.out).mono ?_
       (case side1 => exact z6_)
       (case side2 => exact Kd.C_kept_own (HO_305000.out) (fun k_ hk_ hs_ => (hk_.1) hs_))
       (case side3 => exact (Kd.R_reads' HO_305000.out).2.1)
       (case side4 => exact Kd.C_kept_own (HO_305001.out) (fun k_ hk_ hs_ => (hk_.1) hs_))
       (case side5 => exact (Kd.R_reads' HO_305001.out).2.1)
       (case side6 => exact Kd.C_kept_own (HO_305002.out) (fun k_ hk_ hs_ => (hk_.1) hs_))
       (case side7 => exact (Kd.R_reads' HO_305002.out).2.1)
       (case side8 => exact Kd.C_kept_own (HO_305003.out) (fun k_ hk_ hs_ => (hk_.1) hs_))
       (case side9 => exact (Kd.R_reads' HO_305003.out).2.1)
       (case side10 => exact Kd.C_kept_came (Kd.heap_int .i64) HR2_0.out z6_ (fun k_ hs_ => (fun e_ => Kd.R_base HO_8.out k_ e_.symm) hs_))
       (case side11 => exact HC2_0.out)
       (case side12 => exact Kd.C_kept_came (Kd.heap_int .i64) HR2_1.out z6_ (fun k_ hs_ => (fun e_ => Kd.R_base HO_8.out k_ e_.symm) hs_))
       (case side13 => exact HC2_1.out)
       (case side14 => exact Kd.C_kept_came (Kd.heap_int .i64) HR2_2.out z6_ (fun k_ hs_ => (fun e_ => Kd.R_base HO_8.out k_ e_.symm) hs_))
       (case side15 => exact HC2_2.out)
       (case side16 => exact Kd.R_tight rfl HO_8.out)
       rintro e w52 ⟨v314, rfl, ho0, hy0, hb, hkp⟩
       have HS7_ := cell_kept (hHeld.2.2.2.2.2.2.2.1) hkp (by first | (rw [add_block]; exact (fun hs_ => (((HO_11.out).1 _ rfl).1) hs_)) | (show ¬ _; simp only [add_block]; exact (fun hs_ => (((HO_11.out).1 _ rfl).1) hs_)) | exact (fun hs_ => (((HO_11.out).1 _ rfl).1) hs_))
       have HS8_ := cell_kept (hHeld.2.2.2.2.2.2.2.2) hkp (by first | (rw [add_block]; exact (fun hs_ => (((HO_12.out).1 _ rfl).1) hs_)) | (show ¬ _; simp only [add_block]; exact (fun hs_ => (((HO_12.out).1 _ rfl).1) hs_)) | exact (fun hs_ => (((HO_12.out).1 _ rfl).1) hs_))
       refine ⟨_, rfl, ?_⟩
       have n0_ := Aside0.mk (Kd.R_reok rfl hy0 (fun k_ e_ => HO_8.out.1 k_ e_))
       have n1_ := Aside0.mk (Kd.R_mono (ok' := fun k_ => some k_ ≠ (.slice Ao51 x8_2.length co51 : Value).ownBlock ∧ some k_ ≠ (.slice (some ad311) t305.length co43 : Value).ownBlock ∧ some k_ ≠ (.slice (some ad312) t308.length co49 : Value).ownBlock ∧ some k_ ≠ (.slice Ao32 t292.length co32 : Value).ownBlock ∧ some k_ ≠ (.slice Ao31 t295.length co31 : Value).ownBlock ∧ some k_ ≠ (.slice Ao30 t298.length co30 : Value).ownBlock ∧ some k_ ≠ (.slice Ao29 t301.length co29 : Value).ownBlock ∧ some k_ ≠ (v314 : Value).ownBlock) (Kd.R_keptB (HO_9.out) hkp (fun k_ hk_ hs_ => (hk_.1) hs_)) (fun k_ hk_ => ⟨hk_.1.1, hk_.1.2.1, hk_.1.2.2.1, hk_.1.2.2.2.1, hk_.1.2.2.2.2.1, hk_.1.2.2.2.2.2.1, hk_.1.2.2.2.2.2.2, fun e_ => Or.elim (ho0.1 k_ e_.symm).1 (fun hs_ => hk_.2.1 hs_) (fun hn_ => Nat.not_le.2 hk_.2.2 hn_)⟩))
       have n2_ := Aside0.mk (Kd.R_mono (ok' := fun k_ => some k_ ≠ (.slice Ao51 x8_2.length co51 : Value).ownBlock ∧ some k_ ≠ (u9 : Value).ownBlock ∧ some k_ ≠ (.slice (some ad312) t308.length co49 : Value).ownBlock ∧ some k_ ≠ (.slice Ao32 t292.length co32 : Value).ownBlock ∧ some k_ ≠ (.slice Ao31 t295.length co31 : Value).ownBlock ∧ some k_ ≠ (.slice Ao30 t298.length co30 : Value).ownBlock ∧ some k_ ≠ (.slice Ao29 t301.length co29 : Value).ownBlock ∧ some k_ ≠ (v314 : Value).ownBlock) (Kd.R_keptB (HO_11.out) hkp (fun k_ hk_ hs_ => (hk_.1) hs_)) (fun k_ hk_ => ⟨hk_.1.1, hk_.1.2.1, hk_.1.2.2.1, hk_.1.2.2.2.1, hk_.1.2.2.2.2.1, hk_.1.2.2.2.2.2.1, hk_.1.2.2.2.2.2.2, fun e_ => Or.elim (ho0.1 k_ e_.symm).1 (fun hs_ => hk_.2.1 hs_) (fun hn_ => Nat.not_le.2 hk_.2.2 hn_)⟩))
       have n3_ := Aside0.mk (Kd.R_mono (ok' := fun k_ => some k_ ≠ (.slice Ao51 x8_2.length co51 : Value).ownBlock ∧ some k_ ≠ (u9 : Value).ownBlock ∧ some k_ ≠ (.slice (some ad311) t305.length co43 : Value).ownBlock ∧ some k_ ≠ (.slice Ao32 t292.length co32 : Value).ownBlock ∧ some k_ ≠ (.slice Ao31 t295.length co31 : Value).ownBlock ∧ some k_ ≠ (.slice Ao30 t298.length co30 : Value).ownBlock ∧ some k_ ≠ (.slice Ao29 t301.length co29 : Value).ownBlock ∧ some k_ ≠ (v314 : Value).ownBlock) (Kd.R_keptB (HO_12.out) hkp (fun k_ hk_ hs_ => (hk_.1) hs_)) (fun k_ hk_ => ⟨hk_.1.1, hk_.1.2.1, hk_.1.2.2.1, hk_.1.2.2.2.1, hk_.1.2.2.2.2.1, hk_.1.2.2.2.2.2.1, hk_.1.2.2.2.2.2.2, fun e_ => Or.elim (ho0.1 k_ e_.symm).1 (fun hs_ => hk_.2.1 hs_) (fun hn_ => Nat.not_le.2 hk_.2.2 hn_)⟩))
       have n4_ := Aside0.mk (Kd.R_mono (ok' := fun k_ => some k_ ≠ (.slice Ao51 x8_2.length co51 : Value).ownBlock ∧ some k_ ≠ (u9 : Value).ownBlock ∧ some k_ ≠ (.slice (some ad311) t305.length co43 : Value).ownBlock ∧ some k_ ≠ (.slice (some ad312) t308.length co49 : Value).ownBlock ∧ some k_ ≠ (.slice Ao31 t295.length co31 : Value).ownBlock ∧ some k_ ≠ (.slice Ao30 t298.length co30 : Value).ownBlock ∧ some k_ ≠ (.slice Ao29 t301.length co29 : Value).ownBlock ∧ some k_ ≠ (v314 : Value).ownBlock) (Kd.R_keptB (HO_305000.out) hkp (fun k_ hk_ hs_ => (hk_.1) hs_)) (fun k_ hk_ => ⟨hk_.1.1, hk_.1.2.1, hk_.1.2.2.1, hk_.1.2.2.2.1, hk_.1.2.2.2.2.1, hk_.1.2.2.2.2.2.1, hk_.1.2.2.2.2.2.2, fun e_ => Or.elim (ho0.1 k_ e_.symm).1 (fun hs_ => hk_.2.1 hs_) (fun hn_ => Nat.not_le.2 hk_.2.2 hn_)⟩))
       have n5_ := Aside0.mk (Kd.R_mono (ok' := fun k_ => some k_ ≠ (.slice Ao51 x8_2.length co51 : Value).ownBlock ∧ some k_ ≠ (u9 : Value).ownBlock ∧ some k_ ≠ (.slice (some ad311) t305.length co43 : Value).ownBlock ∧ some k_ ≠ (.slice (some ad312) t308.length co49 : Value).ownBlock ∧ some k_ ≠ (.slice Ao32 t292.length co32 : Value).ownBlock ∧ some k_ ≠ (.slice Ao30 t298.length co30 : Value).ownBlock ∧ some k_ ≠ (.slice Ao29 t301.length co29 : Value).ownBlock ∧ some k_ ≠ (v314 : Value).ownBlock) (Kd.R_keptB (HO_305001.out) hkp (fun k_ hk_ hs_ => (hk_.1) hs_)) (fun k_ hk_ => ⟨hk_.1.1, hk_.1.2.1, hk_.1.2.2.1, hk_.1.2.2.2.1, hk_.1.2.2.2.2.1, hk_.1.2.2.2.2.2.1, hk_.1.2.2.2.2.2.2, fun e_ => Or.elim (ho0.1 k_ e_.symm).1 (fun hs_ => hk_.2.1 hs_) (fun hn_ => Nat.not_le.2 hk_.2.2 hn_)⟩))
       have n6_ := Aside0.mk (Kd.R_mono (ok' := fun k_ => some k_ ≠ (.slice Ao51 x8_2.length co51 : Value).ownBlock ∧ some k_ ≠ (u9 : Value).ownBlock ∧ some k_ ≠ (.slice (some ad311) t305.length co43 : Value).ownBlock ∧ some k_ ≠ (.slice (some ad312) t308.length co49 : Value).ownBlock ∧ some k_ ≠ (.slice Ao32 t292.length co32 : Value).ownBlock ∧ some k_ ≠ (.slice Ao31 t295.length co31 : Value).ownBlock ∧ some k_ ≠ (.slice Ao29 t301.length co29 : Value).ownBlock ∧ some k_ ≠ (v314 : Value).ownBlock) (Kd.R_keptB (HO_305002.out) hkp (fun k_ hk_ hs_ => (hk_.1) hs_)) (fun k_ hk_ => ⟨hk_.1.1, hk_.1.2.1, hk_.1.2.2.1, hk_.1.2.2.2.1, hk_.1.2.2.2.2.1, hk_.1.2.2.2.2.2.1, hk_.1.2.2.2.2.2.2, fun e_ => Or.elim (ho0.1 k_ e_.symm).1 (fun hs_ => hk_.2.1 hs_) (fun hn_ => Nat.not_le.2 hk_.2.2 hn_)⟩))
       have n7_ := Aside0.mk (Kd.R_mono (ok' := fun k_ => some k_ ≠ (.slice Ao51 x8_2.length co51 : Value).ownBlock ∧ some k_ ≠ (u9 : Value).ownBlock ∧ some k_ ≠ (.slice (some ad311) t305.length co43 : Value).ownBlock ∧ some k_ ≠ (.slice (some ad312) t308.length co49 : Value).ownBlock ∧ some k_ ≠ (.slice Ao32 t292.length co32 : Value).ownBlock ∧ some k_ ≠ (.slice Ao31 t295.length co31 : Value).ownBlock ∧ some k_ ≠ (.slice Ao30 t298.length co30 : Value).ownBlock ∧ some k_ ≠ (v314 : Value).ownBlock) (Kd.R_keptB (HO_305003.out) hkp (fun k_ hk_ hs_ => (hk_.1) hs_)) (fun k_ hk_ => ⟨hk_.1.1, hk_.1.2.1, hk_.1.2.2.1, hk_.1.2.2.2.1, hk_.1.2.2.2.2.1, hk_.1.2.2.2.2.2.1, hk_.1.2.2.2.2.2.2, fun e_ => Or.elim (ho0.1 k_ e_.symm).1 (fun hs_ => hk_.2.1 hs_) (fun hn_ => Nat.not_le.2 hk_.2.2 hn_)⟩))
       have n8_ := Aside0.mk (blk_kept z7_ hkp (fun hs_ => (fun e_ => (Kd.R_ne HO_8.out BK285.out (by decide)) e_) hs_))
       have n9_ := Aside0.mk (blk_kept z32_ hkp (fun hs_ => (fun e_ => (Kd.R_ne HO_8.out BK304.out (by decide)) e_) hs_))
       have n10_ := Aside0.mk (Kd.R_mono (ok' := fun k_ => some k_ ≠ (u9 : Value).ownBlock ∧ some k_ ≠ (.slice (some ad311) t305.length co43 : Value).ownBlock ∧ some k_ ≠ (.slice (some ad312) t308.length co49 : Value).ownBlock ∧ some k_ ≠ (.slice Ao32 t292.length co32 : Value).ownBlock ∧ some k_ ≠ (.slice Ao31 t295.length co31 : Value).ownBlock ∧ some k_ ≠ (.slice Ao30 t298.length co30 : Value).ownBlock ∧ some k_ ≠ (.slice Ao29 t301.length co29 : Value).ownBlock ∧ some k_ ≠ (.slice Ao51 x8_2.length co51 : Value).ownBlock) ho0 (fun k_ hk_ => ⟨Or.elim hk_.1 (fun hs_ => fun e_ => (((HO_9.out).1 k_ e_.symm).1) hs_) (fun hn_ => (Kd.fresh' (Kd.R_lt z202_) k_ hn_)), Or.elim hk_.1 (fun hs_ => fun e_ => (((HO_11.out).1 k_ e_.symm).1) hs_) (fun hn_ => (Kd.fresh' (Kd.R_lt z163_) k_ hn_)), Or.elim hk_.1 (fun hs_ => fun e_ => (((HO_12.out).1 k_ e_.symm).1) hs_) (fun hn_ => (Kd.fresh' (Kd.R_lt z198_) k_ hn_)), Or.elim hk_.1 (fun hs_ => fun e_ => (((HO_305000.out).1 k_ e_.symm).1) hs_) (fun hn_ => (Kd.fresh' (Kd.R_lt z192_) k_ hn_)), Or.elim hk_.1 (fun hs_ => fun e_ => (((HO_305001.out).1 k_ e_.symm).1) hs_) (fun hn_ => (Kd.fresh' (Kd.R_lt z193_) k_ hn_)), Or.elim hk_.1 (fun hs_ => fun e_ => (((HO_305002.out).1 k_ e_.symm).1) hs_) (fun hn_ => (Kd.fresh' (Kd.R_lt z194_) k_ hn_)), Or.elim hk_.1 (fun hs_ => fun e_ => (((HO_305003.out).1 k_ e_.symm).1) hs_) (fun hn_ => (Kd.fresh' (Kd.R_lt z195_) k_ hn_)), hk_.2⟩))
       have n11_ := Aside0.mk (hb)
       clear HO_8
       clear HO_9
       clear HO_11
       clear HO_12
       clear HO_305000
       clear HO_305001
       clear HO_305002
       clear HO_305003
       clear BK285
       clear BK304
       clear HB
       have HO_8 := n0_
       have HO_9 := n1_
       have HO_11 := n2_
       have HO_12 := n3_
       have HO_305000 := n4_
       have HO_305001 := n5_
       have HO_305002 := n6_
       have HO_305003 := n7_
       have BK285 := n8_
       have BK304 := n9_
       have HO315 := n10_
       have HB := n11_
       clear n0_ n1_ n2_ n3_ n4_ n5_ n6_ n7_ n8_ n9_ n10_ n11_
       (try clear hb)
       (try clear hkp)
       (try clear ho0)
       (try clear hy0)
       refine hK.out _ _ ⟨(blk_cell BK304.out 0).trans rfl, (blk_cell BK304.out 1).trans rfl, (blk_cell BK304.out 2).trans rfl, (blk_cell BK304.out 3).trans rfl, (blk_cell BK304.out 4).trans rfl, (blk_cell BK304.out 5).trans rfl, (blk_cell BK304.out 6).trans rfl, HS7_, HS8_⟩ (fun hHeld => ?_)
       clear hK K
       refine zn_ rfl ?_
       refine zp_ HT_ rfl rfl (by kernel_rfl) (fun _ _ _ h => h) (by rfl) ?_
       refine done_ (done_of HT_.out (by kernel_rfl)) ?_
       try go_wp2
       go_roundg k2
       case measure => have := HK1.out; have := HK2.out; omega
       case rel => exact ⟨(t316), (t313), (wrap64 (x14_2 + 1)), z4_, H', ⟨z170_⟩, ⟨by (with_reducible repeat (first | apply Kd.R_alloc | apply Kd.R_drewN | apply Kd.R_drew)); exact Kd.R_reok rfl HO_8.out (fun k_ e_ => (fun hk => ⟨(fun e2_ => (HO315.out.1 k_ e2_.symm).2.2.2.2.2.2.2 e_.symm), ⟨hk.2.1, ⟨hk.2.2.1, ⟨hk.2.2.2.1, ⟨hk.2.2.2.2.1, ⟨hk.2.2.2.2.2.1, hk.2.2.2.2.2.2⟩⟩⟩⟩⟩⟩) (HO_8.out.1 k_ e_))⟩, ⟨by (with_reducible repeat (first | apply Kd.R_alloc | apply Kd.R_drewN | apply Kd.R_drew)); exact Kd.R_mono HO315.out (fun _ hk => ⟨hk.2.2.2.2.2.2.2, ⟨hk.2.1, ⟨hk.2.2.1, ⟨hk.2.2.2.1, ⟨hk.2.2.2.2.1, ⟨hk.2.2.2.2.2.1, hk.2.2.2.2.2.2.1⟩⟩⟩⟩⟩⟩)⟩, ⟨by (with_reducible repeat (first | apply Kd.R_alloc | apply Kd.R_drewN | apply Kd.R_drew)); exact Kd.R_mono HO_11.out (fun _ hk => ⟨hk.1, ⟨hk.2.2.2.2.2.2.2, ⟨hk.2.2.1, ⟨hk.2.2.2.1, ⟨hk.2.2.2.2.1, ⟨hk.2.2.2.2.2.1, hk.2.2.2.2.2.2.1⟩⟩⟩⟩⟩⟩)⟩, ⟨by (with_reducible repeat (first | apply Kd.R_alloc | apply Kd.R_drewN | apply Kd.R_drew)); exact Kd.R_mono HO_12.out (fun _ hk => ⟨hk.1, ⟨hk.2.2.2.2.2.2.2, ⟨hk.2.2.1, ⟨hk.2.2.2.1, ⟨hk.2.2.2.2.1, ⟨hk.2.2.2.2.2.1, hk.2.2.2.2.2.2.1⟩⟩⟩⟩⟩⟩)⟩, ⟨by (with_reducible repeat (first | apply Kd.R_alloc | apply Kd.R_drewN | apply Kd.R_drew)); exact Kd.R_mono HO_305000.out (fun _ hk => ⟨hk.1, ⟨hk.2.2.2.2.2.2.2, ⟨hk.2.2.1, ⟨hk.2.2.2.1, ⟨hk.2.2.2.2.1, ⟨hk.2.2.2.2.2.1, hk.2.2.2.2.2.2.1⟩⟩⟩⟩⟩⟩)⟩, ⟨by (with_reducible repeat (first | apply Kd.R_alloc | apply Kd.R_drewN | apply Kd.R_drew)); exact Kd.R_mono HO_305001.out (fun _ hk => ⟨hk.1, ⟨hk.2.2.2.2.2.2.2, ⟨hk.2.2.1, ⟨hk.2.2.2.1, ⟨hk.2.2.2.2.1, ⟨hk.2.2.2.2.2.1, hk.2.2.2.2.2.2.1⟩⟩⟩⟩⟩⟩)⟩, ⟨by (with_reducible repeat (first | apply Kd.R_alloc | apply Kd.R_drewN | apply Kd.R_drew)); exact Kd.R_mono HO_305002.out (fun _ hk => ⟨hk.1, ⟨hk.2.2.2.2.2.2.2, ⟨hk.2.2.1, ⟨hk.2.2.2.1, ⟨hk.2.2.2.2.1, ⟨hk.2.2.2.2.2.1, hk.2.2.2.2.2.2.1⟩⟩⟩⟩⟩⟩)⟩, ⟨by (with_reducible repeat (first | apply Kd.R_alloc | apply Kd.R_drewN | apply Kd.R_drew)); exact Kd.R_mono HO_305003.out (fun _ hk => ⟨hk.1, ⟨hk.2.2.2.2.2.2.2, ⟨hk.2.2.1, ⟨hk.2.2.2.1, ⟨hk.2.2.2.2.1, ⟨hk.2.2.2.2.2.1, hk.2.2.2.2.2.2.1⟩⟩⟩⟩⟩⟩)⟩, ⟨z7_⟩, ⟨z32_⟩, ⟨z6_⟩⟩
      ·rw [if_neg c44] at H
       have c44b0 := decide_eq_false c44
       clear c44
       have H' := Aside0.mk H
       clear H
       obtain ⟨Ao53, co53, eo53⟩ := Kd.R_slice HO_12.out
       subst eo53
       go_wp2
       go_roundg k2
       case measure => have := HK1.out; have := HK2.out; omega
       case rel => exact ⟨(x8_2), (x9_2), (wrap64 (x13_1 + 1)), z4_, H', ⟨z170_⟩, ⟨z223_⟩, ⟨z202_⟩, ⟨z163_⟩, ⟨z198_⟩, ⟨z192_⟩, ⟨z193_⟩, ⟨z194_⟩, ⟨z195_⟩, ⟨z7_⟩, ⟨z32_⟩, ⟨z6_⟩⟩
   ·rw [if_neg c42] at H
    have c42b0 := decide_eq_false c42
    clear c42
    simp only [Option.some.injEq, Prod.mk.injEq] at H
    obtain ⟨rfl, rfl⟩ := H
    obtain ⟨Ao54, co54, eo54⟩ := Kd.R_slice HO_11.out
    subst eo54
    go_wp2
    go_ret2
    exact ⟨_, _, by first | rfl | (simp [errW_none, errW_some] <;> rfl) | (simp only [← hji4]; first | rfl | (simp [errW_none, errW_some] <;> rfl)) | (simp [*, errW_none, errW_some] <;> rfl), by (with_reducible repeat (first | apply Kd.R_alloc | apply Kd.R_drewN | apply Kd.R_drew)); exact Kd.R_mono HO_8.out (fun _ hk => hk.1), by (with_reducible repeat (first | apply Kd.R_alloc | apply Kd.R_drewN | apply Kd.R_drew)); exact Kd.R_mono HO_9.out (fun _ hk => hk.1), z6_⟩

end Go.Proofs.Ytbmkobanpakohaa.PFnExactNearest
