/- Laid by a program of this session out of the kit's print for the law FnExactMedian: what it says of the machine is proved here, function by function; each contract under the conditions that it names. -/
import Derived.Test.YtbmkobanpakohaaMFnExactMedianx0
import Derived.Test.YtbmkobanpakohaaMFnExactMedianx6
import Derived.Test.YtbmkobanpakohaaMFnExactMedianx7
import Derived.Test.YtbmkobanpakohaaMFnExactMedianx8
import Derived.Test.YtbmkobanpakohaaMFnExactMedianx9
namespace Go.Proofs.Ytbmkobanpakohaa.PFnExactMedian
open Go.RowKit Go.Proofs.YtbmkobanpakohaaW.PrintWords Go.Proofs.YtbmkobanpakohaaW.PrintLast Go.Proofs.YtbmkobanpakohaaW.PrintMore
attribute [local go_sem] max2_int min2_int max_two min_two max_three min_three max_four min_four   -- for this text's walks alone
set_option linter.unusedVariables false
set_option linter.unusedSimpArgs false

/-! ### spec_l8All: function 62 -/
mutual
def spec_l8All.l0 : Nat → List Int → List Int → List Int → List Int → Int → List Int → List Int → List Int → List Int → List Int → List Int → List Int → Option (List Int × List Int)
 | 0, _, _, _, _, _, _, _, _, _, _, _, _ => none
 | k + 1, x8, x9, x11, x12, x13, x340000, x340001, x340002, x340003, x340004, x340005, x340006 => if x13 < (x11.length : Int) then (spec_l8All.l1 k x8 x9 x11 x12 x13 0 x340000 x340001 x340002 x340003 x340004 x340005 x340006) else (some (x8, x9))
def spec_l8All.l1 : Nat → List Int → List Int → List Int → List Int → Int → Int → List Int → List Int → List Int → List Int → List Int → List Int → List Int → Option (List Int × List Int)
 | 0, _, _, _, _, _, _, _, _, _, _, _, _, _ => none
 | k + 1, x8, x9, x11, x12, x13, x14, x340000, x340001, x340002, x340003, x340004, x340005, x340006 => if x14 < (x12.length : Int) then (if 0 ≤ x13 then (if x13 < (x11.length : Int) then (if 0 ≤ x14 then ((spec_l8Forest.f k x340000 x340001 x340002 x340003 x340004 x340005 x340006 (rd x11 x13) (rd x12 x14) x8).bind fun bt348 => (spec_l8All.l1 k bt348.2 bt348.1 x11 x12 x13 (wrap64 (x14 + 1)) x340000 x340001 x340002 x340003 x340004 x340005 x340006)) else (none)) else (none)) else (none)) else (spec_l8All.l0 k x8 x9 x11 x12 (wrap64 (x13 + 1)) x340000 x340001 x340002 x340003 x340004 x340005 x340006)
end
def spec_l8All.f (k : Nat) (l0 : List (S61)) (l1 : List (S61)) (l2_0 : List Int) (l2_1 : List Int) (l2_2 : List Int) : Option (List Int × List Int) := if 0 ≤ (wrap64 ((l0.length : Int) * (l1.length : Int))) then (if (wrap64 ((l0.length : Int) * (l1.length : Int)) : Int).toNat ≤ 35184372088832 then ((spec_l8Labels.f k l0).bind fun t327 => ((spec_l8Labels.f k l1).bind fun t330 => ((spec_LeftLeaf.f k l0).bind fun t333 => ((spec_LeftLeaf.f k l1).bind fun t336 => ((spec_KeyRoots.f k l0).bind fun t340 => ((spec_KeyRoots.f k l1).bind fun t343 => (spec_l8All.l0 k (List.replicate (wrap64 ((l0.length : Int) * (l1.length : Int)) : Int).toNat 0) (([] : List Int)) t340 t343 0 t327 t330 t333 t336 l2_0 l2_1 l2_2))))))) else (none)) else (none)
def spec_l8All.T3 : Bool × List (List Nat × List Nat) := (true, [([], []), ([0], [0]), ([], []), ([2, 1], [2]), ([], []), ([4, 3], [4]), ([], []), ([6, 5], [6]), ([], []), ([1, 3, 5, 7, 8], [1, 3, 5, 7, 8]), ([], []), ([10, 9, 7, 0, 1, 2, 3, 4, 5, 6, 7, 8, 9, 10], [9, 10])])
def spec_l8All.B3 : List Nat := [0, 1, 0, 7, 0, 31, 0, 127, 0, 511, 0, 2047]
theorem spec_l8All.tab3 : rtab .any (opsOf Try.f62 3) = spec_l8All.T3 := by kernel_rfl
theorem spec_l8All.bits3 : waitsOk spec_l8All.T3.2 spec_l8All.B3 = true := by kernel_rfl
def spec_l8All.T12 : Bool × List (List Nat × List Nat) := (true, [([], []), ([], []), ([], []), ([1, 2], [1, 2]), ([3], [3]), ([], []), ([], []), ([5, 6], [5, 6]), ([7], [7]), ([], []), ([0, 4, 8, 9], [0, 4, 8, 9]), ([10, 10, 0, 1, 2, 3, 4, 5, 6, 7, 8, 9, 10], [10])])
def spec_l8All.B12 : List Nat := [0, 0, 0, 6, 14, 0, 0, 96, 224, 0, 1023, 2047]
theorem spec_l8All.tab12 : rtab .any (opsOf Try.f62 12) = spec_l8All.T12 := by kernel_rfl
theorem spec_l8All.bits12 : waitsOk spec_l8All.T12.2 spec_l8All.B12 = true := by kernel_rfl
set_option maxHeartbeats 8000000 in
set_option maxRecDepth 100000 in
theorem spec_l8All.calls (k : Nat) (A0 : Option Addr) (c0 : Nat) (l0 : List (S61)) (A1 : Option Addr) (c1 : Nat) (l1 : List (S61)) (A2_0 : Option Addr) (c2_0 : Nat) (l2_0 : List Int) (A2_1 : Option Addr) (c2_1 : Nat) (l2_1 : List Int) (A2_2 : Option Addr) (c2_2 : Nat) (l2_2 : List Int) (r1 : List Int) (r2 : List Int) (w : World) (hr0 : Kd.C k61 w A0 l0.length l0) (hc0 : l0.length ≤ c0) (hr1 : Kd.C k61 w A1 l1.length l1) (hc1 : l1.length ≤ c1) (hr2_0 : Kd.C (Kd.int .i64) w A2_0 l2_0.length l2_0) (hc2_0 : l2_0.length ≤ c2_0) (hr2_1 : Kd.C (Kd.int .i64) w A2_1 l2_1.length l2_1) (hc2_1 : l2_1.length ≤ c2_1) (hr2_2 : Kd.C (Kd.int .i64) w A2_2 l2_2.length l2_2) (hc2_2 : l2_2.length ≤ c2_2) (h : spec_l8All.f k l0 l1 l2_0 l2_1 l2_2 = some (r1, r2)) :
  Calls Try.prog 62 #[.slice A0 l0.length c0, .slice A1 l1.length c1, .agg #[.slice A2_0 l2_0.length c2_0, .slice A2_1 l2_1.length c2_1, .slice A2_2 l2_2.length c2_2]] w fun e w' => ∃ v0_ v1_ : Value, e = .returned (.tuple #[v0_, v1_]) ∧ Kd.R (Kd.int .i64) 3 w' w.heap.size (fun k_ => some k_ ≠ (v1_ : Value).ownBlock) v0_ r1 ∧ Kd.R (Kd.int .i64) 3 w' w.heap.size (fun k_ => some k_ ≠ (v0_ : Value).ownBlock) v1_ r2 ∧ Below w.heap.size w w' := by
 have hu38 := Try.underlying38
 have hu105 := Try.underlying105
 have HR0 := Aside0.mk hr0
 have HC0 := Aside0.mk hc0
 clear hr0 hc0
 have HR1 := Aside0.mk hr1
 have HC1 := Aside0.mk hc1
 clear hr1 hc1
 have HR2_0 := Aside0.mk hr2_0
 have HC2_0 := Aside0.mk hc2_0
 clear hr2_0 hc2_0
 have HR2_1 := Aside0.mk hr2_1
 have HC2_1 := Aside0.mk hc2_1
 clear hr2_1 hc2_1
 have HR2_2 := Aside0.mk hr2_2
 have HC2_2 := Aside0.mk hc2_2
 clear hr2_2 hc2_2
 have HB := Aside0.mk (Below.refl w.heap.size w)
 have H : (if 0 ≤ (wrap64 ((l0.length : Int) * (l1.length : Int))) then (if (wrap64 ((l0.length : Int) * (l1.length : Int)) : Int).toNat ≤ 35184372088832 then ((spec_l8Labels.f k l0).bind fun t327 => ((spec_l8Labels.f k l1).bind fun t330 => ((spec_LeftLeaf.f k l0).bind fun t333 => ((spec_LeftLeaf.f k l1).bind fun t336 => ((spec_KeyRoots.f k l0).bind fun t340 => ((spec_KeyRoots.f k l1).bind fun t343 => (spec_l8All.l0 k (List.replicate (wrap64 ((l0.length : Int) * (l1.length : Int)) : Int).toNat 0) (([] : List Int)) t340 t343 0 t327 t330 t333 t336 l2_0 l2_1 l2_2))))))) else (none)) else (none)) = some (r1, r2) := h
 clear h
 obtain ⟨ji4, hji4⟩ : ∃ j_ : Int, (wrap64 ((l0.length : Int) * (l1.length : Int))) = j_ := ⟨_, rfl⟩
 first | rw [hji4] at H | simp only [hji4] at H
 have hji4w : (IntKind.i64.wrap ((l0.length : Int) * (l1.length : Int))) = ji4 := (i64_w _).trans hji4
 obtain ⟨c5b0, c5b1, H⟩ := ife_ H
 obtain ⟨c6b0, c6b1, H⟩ := ife_ H
 first | ((with_reducible have hz_ := gy_ H); obtain ⟨y321, Ny321, H⟩ := hz_) | (generalize hy_ : ((List.replicate (ji4 : Int).toNat 0) : List Int) = y321 at H; have Ny321 := Aside0.mk hy_.symm; clear hy_)
 first | ((with_reducible have hz_ := gy_ H); obtain ⟨y324, Ny324, H⟩ := hz_) | (generalize hy_ : ((([] : List Int)) : List Int) = y324 at H; have Ny324 := Aside0.mk hy_.symm; clear hy_)
 obtain ⟨t327, A7, H⟩ := bnd_ H
 obtain ⟨t330, A8, H⟩ := bnd_ H
 obtain ⟨t333, A9, H⟩ := bnd_ H
 obtain ⟨t336, A10, H⟩ := bnd_ H
 obtain ⟨t340, A11, H⟩ := bnd_ H
 obtain ⟨t343, A12, H⟩ := bnd_ H
 have H' := Aside0.mk H
 clear H
 go_enter Try.func62, Try.ntmps62
 try go_wp2_with (first | ((with_reducible refine gate_dst (N := 5) rfl ?_); refine box_event ?hg (N := 5) ?hd (cs := #[.slice A2_0 l2_0.length c2_0, .slice A2_1 l2_1.length c2_1, .slice A2_2 l2_2.length c2_2]) (t := 38) ?hr ?_; (case hd => rfl); (case hg => rfl); (case hr => exact z9_); intro gb320 hg w13 hbox hb; have BK320 := Aside0.mk (hbox); have GW320 := Aside0.mk ((by rw [hg]; exact (below_size z0_) : w.heap.size ≤ gb320)); have GE320 := Aside0.mk ((by rw [hg]; exact (below_size z0_) : w.heap.size ≤ gb320)); replace HB := Aside0.mk (below_step z0_ hb); clear hb hbox hg) | ((with_reducible refine gate_dst (N := 20) rfl ?_); refine Kd.R_make (Kd.int .i64) _ 3 rfl (N := 20) rfl 30 _ _ rfl ji4 rfl rfl Try.underlying30 (.int .i64 0) 8 info3 rfl (by decide) (by omega) 0 (ok := fun _ => True) (okp := fun _ => True) rfl (fun _ hk => hk) trivial (odt_) (Nat.le_trans (Nat.mul_le_mul_right _ (odt_ : ji4.toNat ≤ 35184372088832)) (by omega)) (Below.refl _ _) (Nat.le_refl _) ?_; intro v322 w14 ho15 hb hg_ hnew_; clear hg_ hnew_; (first | rw [← Ny321.out] at ho15 | (simp only [Int.reduceToNat] at ho15; rw [← Ny321.out] at ho15)); have HO323 := Aside0.mk (Kd.R_lower ho15 (below_size z8_)); replace BK320 := Aside0.mk (blk_below z7_ hb); replace HB := Aside0.mk (below_step z8_ hb); clear hb ho15) | ((with_reducible refine gate_dst (N := 21) rfl ?_); refine Kd.R_lit (Kd.int .i64) _ 3 ?hg (N := 21) ?hd (xs := ([] : List Int)) (inner := []) (ok := fun _ => True) (okp := fun _ => True) ?hr ?hp (fun _ hk => hk) trivial (Below.refl _ _) (Nat.le_refl _) (by simp) ?_; (case hd => rfl); (case hg => rfl); (case hr => exact z9_); (case hp => exact z199_); intro v325 w16 ho17 hb hg_ hnew_; clear hg_ hnew_; (first | rw [← Ny324.out] at ho17 | (simp only [Int.reduceToNat] at ho17; rw [← Ny324.out] at ho17)); have HO326 := Aside0.mk (Kd.R_lower (Kd.R_new' ho17 (Kd.R_lt z16_)) (below_size z8_)); replace HO323 := Aside0.mk (Kd.R_elder' z16_ (Kd.R_base ho17) hb); replace BK320 := Aside0.mk (blk_below z7_ hb); replace HB := Aside0.mk (below_step z8_ hb); clear hb ho17))
 have n0_ := Aside0.mk (Kd.R_drew HO323.out)
 have n1_ := Aside0.mk (Kd.R_drew HO326.out)
 have n2_ := Aside0.mk (blk_drew BK320.out)
 have n3_ := Aside0.mk (below_drew1 HB.out)
 clear HO323
 clear HO326
 clear BK320
 clear HB
 have HO323 := n0_
 have HO326 := n1_
 have BK320 := n2_
 have HB := n3_
 clear n0_ n1_ n2_ n3_
 refine start_ (n := 12) (S := fun w' => w'.cell? ⟨gb320, 0, none⟩ = some (.slice A2_0 l2_0.length c2_0) ∧ w'.cell? ⟨gb320, 1, none⟩ = some (.slice A2_1 l2_1.length c2_1) ∧ w'.cell? ⟨gb320, 2, none⟩ = some (.slice A2_2 l2_2.length c2_2)) (ds := []) (fl_ 12 0) (by kernel_rfl) rfl (fl_zero _) ⟨(blk_cell BK320.out 0).trans rfl, (blk_cell BK320.out 1).trans rfl, (blk_cell BK320.out 2).trans rfl⟩ (fun hHeld => ?_); refine with_tabW spec_l8All.tab3 spec_l8All.bits3 (fun HT_ HW_ => ?_)
 generalize w16.drew = w18 at HO323 HO326 BK320 HB hHeld ⊢
 refine zp_ HT_ rfl rfl (by kernel_rfl) (fun _ _ _ h => h) (by rfl) ?_
 refine zpg_ (i := 2) (ra_ [1, 1, 1, 9]) HT_ rfl rfl (by kernel_rfl) (fun _ _ _ h => h) (by rfl) ?_
 refine zpg_ (i := 4) (ra_ [1, 1, 1, 1, 1, 7]) HT_ rfl rfl (by kernel_rfl) (fun _ _ _ h => h) (by rfl) ?_
 refine zpg_ (i := 6) (ra_ [1, 1, 1, 1, 1, 1, 1, 5]) HT_ rfl rfl (by kernel_rfl) (fun _ _ _ h => h) (by rfl) ?_
 refine ztg_ (i := 8) (ra_ [1, 1, 1, 1, 1, 1, 1, 1, 1, 3]) HT_ HW_ rfl rfl (by kernel_rfl) (fun _ _ _ h => h) (by rfl) hHeld ?_ (by rintro w' ⟨s0, s1, s2⟩; go_simp; with_reducible rfl)
 refine join_ (σ := Value × Value × Value × Value × Nat) 1 #[true, true, true, true, true, true, true, true, true, true, true, false] (fun s_ => [(23, s_.1), (25, s_.2.1), (27, s_.2.2.1), (29, s_.2.2.2.1), (10, .pointer (some ⟨s_.2.2.2.2, 0, none⟩)), (31, .agg #[s_.1, s_.2.1, s_.2.2.1, s_.2.2.2.1, .slice A2_0 l2_0.length c2_0, .slice A2_1 l2_1.length c2_1, .slice A2_2 l2_2.length c2_2])]) (fun s_ w' => (w'.cell? ⟨gb320, 0, none⟩ = some (.slice A2_0 l2_0.length c2_0) ∧ w'.cell? ⟨gb320, 1, none⟩ = some (.slice A2_1 l2_1.length c2_1) ∧ w'.cell? ⟨gb320, 2, none⟩ = some (.slice A2_2 l2_2.length c2_2)) ∧ (Kd.R (Kd.int .i64) 3 w' w.heap.size (fun k_ => some k_ ≠ (v325 : Value).ownBlock ∧ some k_ ≠ (s_.1 : Value).ownBlock ∧ some k_ ≠ (s_.2.1 : Value).ownBlock ∧ some k_ ≠ (s_.2.2.1 : Value).ownBlock ∧ some k_ ≠ (s_.2.2.2.1 : Value).ownBlock) v322 y321) ∧ (Kd.R (Kd.int .i64) 3 w' w.heap.size (fun k_ => some k_ ≠ (v322 : Value).ownBlock ∧ some k_ ≠ (s_.1 : Value).ownBlock ∧ some k_ ≠ (s_.2.1 : Value).ownBlock ∧ some k_ ≠ (s_.2.2.1 : Value).ownBlock ∧ some k_ ≠ (s_.2.2.2.1 : Value).ownBlock) v325 y324) ∧ (Kd.R (Kd.int .i64) 3 w' w.heap.size (fun k_ => some k_ ≠ (v322 : Value).ownBlock ∧ some k_ ≠ (v325 : Value).ownBlock ∧ some k_ ≠ (s_.2.1 : Value).ownBlock ∧ some k_ ≠ (s_.2.2.1 : Value).ownBlock ∧ some k_ ≠ (s_.2.2.2.1 : Value).ownBlock) s_.1 t327) ∧ (Kd.R (Kd.int .i64) 3 w' w.heap.size (fun k_ => some k_ ≠ (v322 : Value).ownBlock ∧ some k_ ≠ (v325 : Value).ownBlock ∧ some k_ ≠ (s_.1 : Value).ownBlock ∧ some k_ ≠ (s_.2.2.1 : Value).ownBlock ∧ some k_ ≠ (s_.2.2.2.1 : Value).ownBlock) s_.2.1 t330) ∧ (Kd.R (Kd.int .i64) 3 w' w.heap.size (fun k_ => some k_ ≠ (v322 : Value).ownBlock ∧ some k_ ≠ (v325 : Value).ownBlock ∧ some k_ ≠ (s_.1 : Value).ownBlock ∧ some k_ ≠ (s_.2.1 : Value).ownBlock ∧ some k_ ≠ (s_.2.2.2.1 : Value).ownBlock) s_.2.2.1 t333) ∧ (Kd.R (Kd.int .i64) 3 w' w.heap.size (fun k_ => some k_ ≠ (v322 : Value).ownBlock ∧ some k_ ≠ (v325 : Value).ownBlock ∧ some k_ ≠ (s_.1 : Value).ownBlock ∧ some k_ ≠ (s_.2.1 : Value).ownBlock ∧ some k_ ≠ (s_.2.2.1 : Value).ownBlock) s_.2.2.2.1 t336) ∧ (w'.heap[gb320]? = some (.cells #[.slice A2_0 l2_0.length c2_0, .slice A2_1 l2_1.length c2_1, .slice A2_2 l2_2.length c2_2] 38 (0, 0))) ∧ (w'.heap[s_.2.2.2.2]? = some (.cells #[.slice none 0 0, .slice none 0 0, .slice none 0 0, .slice none 0 0, .slice none 0 0, .slice none 0 0, .slice none 0 0] 105 (0, 0))) ∧ (w.heap.size ≤ s_.2.2.2.2) ∧ (w.heap.size ≤ s_.2.2.2.2) ∧ (gb320 ≠ s_.2.2.2.2) ∧ (s_.2.2.2.2 ≠ gb320) ∧ (Below w.heap.size w w')) ?_ ?_
 rotate_left
 ·intro hJ1_3_5_7_10
  refine join_ (σ := Value × Value × Value × Value) 2 #[true, true, true, true, true, true, true, true, true, true, false, false] (fun s_ => [(23, s_.1), (25, s_.2.1), (27, s_.2.2.1), (29, s_.2.2.2), (31, .agg #[s_.1, s_.2.1, s_.2.2.1, s_.2.2.2, .slice A2_0 l2_0.length c2_0, .slice A2_1 l2_1.length c2_1, .slice A2_2 l2_2.length c2_2])]) (fun s_ w' => (w'.cell? ⟨gb320, 0, none⟩ = some (.slice A2_0 l2_0.length c2_0) ∧ w'.cell? ⟨gb320, 1, none⟩ = some (.slice A2_1 l2_1.length c2_1) ∧ w'.cell? ⟨gb320, 2, none⟩ = some (.slice A2_2 l2_2.length c2_2)) ∧ (Kd.R (Kd.int .i64) 3 w' w.heap.size (fun k_ => some k_ ≠ (v325 : Value).ownBlock ∧ some k_ ≠ (s_.1 : Value).ownBlock ∧ some k_ ≠ (s_.2.1 : Value).ownBlock ∧ some k_ ≠ (s_.2.2.1 : Value).ownBlock ∧ some k_ ≠ (s_.2.2.2 : Value).ownBlock) v322 y321) ∧ (Kd.R (Kd.int .i64) 3 w' w.heap.size (fun k_ => some k_ ≠ (v322 : Value).ownBlock ∧ some k_ ≠ (s_.1 : Value).ownBlock ∧ some k_ ≠ (s_.2.1 : Value).ownBlock ∧ some k_ ≠ (s_.2.2.1 : Value).ownBlock ∧ some k_ ≠ (s_.2.2.2 : Value).ownBlock) v325 y324) ∧ (Kd.R (Kd.int .i64) 3 w' w.heap.size (fun k_ => some k_ ≠ (v322 : Value).ownBlock ∧ some k_ ≠ (v325 : Value).ownBlock ∧ some k_ ≠ (s_.2.1 : Value).ownBlock ∧ some k_ ≠ (s_.2.2.1 : Value).ownBlock ∧ some k_ ≠ (s_.2.2.2 : Value).ownBlock) s_.1 t327) ∧ (Kd.R (Kd.int .i64) 3 w' w.heap.size (fun k_ => some k_ ≠ (v322 : Value).ownBlock ∧ some k_ ≠ (v325 : Value).ownBlock ∧ some k_ ≠ (s_.1 : Value).ownBlock ∧ some k_ ≠ (s_.2.2.1 : Value).ownBlock ∧ some k_ ≠ (s_.2.2.2 : Value).ownBlock) s_.2.1 t330) ∧ (Kd.R (Kd.int .i64) 3 w' w.heap.size (fun k_ => some k_ ≠ (v322 : Value).ownBlock ∧ some k_ ≠ (v325 : Value).ownBlock ∧ some k_ ≠ (s_.1 : Value).ownBlock ∧ some k_ ≠ (s_.2.1 : Value).ownBlock ∧ some k_ ≠ (s_.2.2.2 : Value).ownBlock) s_.2.2.1 t333) ∧ (Kd.R (Kd.int .i64) 3 w' w.heap.size (fun k_ => some k_ ≠ (v322 : Value).ownBlock ∧ some k_ ≠ (v325 : Value).ownBlock ∧ some k_ ≠ (s_.1 : Value).ownBlock ∧ some k_ ≠ (s_.2.1 : Value).ownBlock ∧ some k_ ≠ (s_.2.2.1 : Value).ownBlock) s_.2.2.2 t336) ∧ (w'.heap[gb320]? = some (.cells #[.slice A2_0 l2_0.length c2_0, .slice A2_1 l2_1.length c2_1, .slice A2_2 l2_2.length c2_2] 38 (0, 0))) ∧ (Below w.heap.size w w')) ?_ ?_
  rotate_left
  ·intro hJ1_3_5_7
   refine join_ (σ := Value × Value × Value × Nat) 3 #[true, true, true, true, true, true, true, false, true, false, true, false] (fun s_ => [(23, s_.1), (25, s_.2.1), (27, s_.2.2.1), (10, .pointer (some ⟨s_.2.2.2, 0, none⟩))]) (fun s_ w' => (w'.cell? ⟨gb320, 0, none⟩ = some (.slice A2_0 l2_0.length c2_0) ∧ w'.cell? ⟨gb320, 1, none⟩ = some (.slice A2_1 l2_1.length c2_1) ∧ w'.cell? ⟨gb320, 2, none⟩ = some (.slice A2_2 l2_2.length c2_2)) ∧ (Kd.R (Kd.int .i64) 3 w' w.heap.size (fun k_ => some k_ ≠ (v325 : Value).ownBlock ∧ some k_ ≠ (s_.1 : Value).ownBlock ∧ some k_ ≠ (s_.2.1 : Value).ownBlock ∧ some k_ ≠ (s_.2.2.1 : Value).ownBlock) v322 y321) ∧ (Kd.R (Kd.int .i64) 3 w' w.heap.size (fun k_ => some k_ ≠ (v322 : Value).ownBlock ∧ some k_ ≠ (s_.1 : Value).ownBlock ∧ some k_ ≠ (s_.2.1 : Value).ownBlock ∧ some k_ ≠ (s_.2.2.1 : Value).ownBlock) v325 y324) ∧ (Kd.R (Kd.int .i64) 3 w' w.heap.size (fun k_ => some k_ ≠ (v322 : Value).ownBlock ∧ some k_ ≠ (v325 : Value).ownBlock ∧ some k_ ≠ (s_.2.1 : Value).ownBlock ∧ some k_ ≠ (s_.2.2.1 : Value).ownBlock) s_.1 t327) ∧ (Kd.R (Kd.int .i64) 3 w' w.heap.size (fun k_ => some k_ ≠ (v322 : Value).ownBlock ∧ some k_ ≠ (v325 : Value).ownBlock ∧ some k_ ≠ (s_.1 : Value).ownBlock ∧ some k_ ≠ (s_.2.2.1 : Value).ownBlock) s_.2.1 t330) ∧ (Kd.R (Kd.int .i64) 3 w' w.heap.size (fun k_ => some k_ ≠ (v322 : Value).ownBlock ∧ some k_ ≠ (v325 : Value).ownBlock ∧ some k_ ≠ (s_.1 : Value).ownBlock ∧ some k_ ≠ (s_.2.1 : Value).ownBlock) s_.2.2.1 t333) ∧ (w'.heap[gb320]? = some (.cells #[.slice A2_0 l2_0.length c2_0, .slice A2_1 l2_1.length c2_1, .slice A2_2 l2_2.length c2_2] 38 (0, 0))) ∧ (w'.heap[s_.2.2.2]? = some (.cells #[.slice none 0 0, .slice none 0 0, .slice none 0 0, .slice none 0 0, .slice none 0 0, .slice none 0 0, .slice none 0 0] 105 (0, 0))) ∧ (w.heap.size ≤ s_.2.2.2) ∧ (w.heap.size ≤ s_.2.2.2) ∧ (gb320 ≠ s_.2.2.2) ∧ (s_.2.2.2 ≠ gb320) ∧ (Below w.heap.size w w')) ?_ ?_
   rotate_left
   ·intro hJ1_3_5_10
    refine join_ (σ := Value × Value × Value) 4 #[true, true, true, true, true, true, true, false, true, false, false, false] (fun s_ => [(23, s_.1), (25, s_.2.1), (27, s_.2.2)]) (fun s_ w' => (w'.cell? ⟨gb320, 0, none⟩ = some (.slice A2_0 l2_0.length c2_0) ∧ w'.cell? ⟨gb320, 1, none⟩ = some (.slice A2_1 l2_1.length c2_1) ∧ w'.cell? ⟨gb320, 2, none⟩ = some (.slice A2_2 l2_2.length c2_2)) ∧ (Kd.R (Kd.int .i64) 3 w' w.heap.size (fun k_ => some k_ ≠ (v325 : Value).ownBlock ∧ some k_ ≠ (s_.1 : Value).ownBlock ∧ some k_ ≠ (s_.2.1 : Value).ownBlock ∧ some k_ ≠ (s_.2.2 : Value).ownBlock) v322 y321) ∧ (Kd.R (Kd.int .i64) 3 w' w.heap.size (fun k_ => some k_ ≠ (v322 : Value).ownBlock ∧ some k_ ≠ (s_.1 : Value).ownBlock ∧ some k_ ≠ (s_.2.1 : Value).ownBlock ∧ some k_ ≠ (s_.2.2 : Value).ownBlock) v325 y324) ∧ (Kd.R (Kd.int .i64) 3 w' w.heap.size (fun k_ => some k_ ≠ (v322 : Value).ownBlock ∧ some k_ ≠ (v325 : Value).ownBlock ∧ some k_ ≠ (s_.2.1 : Value).ownBlock ∧ some k_ ≠ (s_.2.2 : Value).ownBlock) s_.1 t327) ∧ (Kd.R (Kd.int .i64) 3 w' w.heap.size (fun k_ => some k_ ≠ (v322 : Value).ownBlock ∧ some k_ ≠ (v325 : Value).ownBlock ∧ some k_ ≠ (s_.1 : Value).ownBlock ∧ some k_ ≠ (s_.2.2 : Value).ownBlock) s_.2.1 t330) ∧ (Kd.R (Kd.int .i64) 3 w' w.heap.size (fun k_ => some k_ ≠ (v322 : Value).ownBlock ∧ some k_ ≠ (v325 : Value).ownBlock ∧ some k_ ≠ (s_.1 : Value).ownBlock ∧ some k_ ≠ (s_.2.1 : Value).ownBlock) s_.2.2 t333) ∧ (w'.heap[gb320]? = some (.cells #[.slice A2_0 l2_0.length c2_0, .slice A2_1 l2_1.length c2_1, .slice A2_2 l2_2.length c2_2] 38 (0, 0))) ∧ (Below w.heap.size w w')) ?_ ?_
    rotate_left
    ·intro hJ1_3_5
     refine join_ (σ := Value × Value × Nat) 4 #[true, true, true, true, true, false, true, false, true, false, true, false] (fun s_ => [(23, s_.1), (25, s_.2.1), (10, .pointer (some ⟨s_.2.2, 0, none⟩))]) (fun s_ w' => (w'.cell? ⟨gb320, 0, none⟩ = some (.slice A2_0 l2_0.length c2_0) ∧ w'.cell? ⟨gb320, 1, none⟩ = some (.slice A2_1 l2_1.length c2_1) ∧ w'.cell? ⟨gb320, 2, none⟩ = some (.slice A2_2 l2_2.length c2_2)) ∧ (Kd.R (Kd.int .i64) 3 w' w.heap.size (fun k_ => some k_ ≠ (v325 : Value).ownBlock ∧ some k_ ≠ (s_.1 : Value).ownBlock ∧ some k_ ≠ (s_.2.1 : Value).ownBlock) v322 y321) ∧ (Kd.R (Kd.int .i64) 3 w' w.heap.size (fun k_ => some k_ ≠ (v322 : Value).ownBlock ∧ some k_ ≠ (s_.1 : Value).ownBlock ∧ some k_ ≠ (s_.2.1 : Value).ownBlock) v325 y324) ∧ (Kd.R (Kd.int .i64) 3 w' w.heap.size (fun k_ => some k_ ≠ (v322 : Value).ownBlock ∧ some k_ ≠ (v325 : Value).ownBlock ∧ some k_ ≠ (s_.2.1 : Value).ownBlock) s_.1 t327) ∧ (Kd.R (Kd.int .i64) 3 w' w.heap.size (fun k_ => some k_ ≠ (v322 : Value).ownBlock ∧ some k_ ≠ (v325 : Value).ownBlock ∧ some k_ ≠ (s_.1 : Value).ownBlock) s_.2.1 t330) ∧ (w'.heap[gb320]? = some (.cells #[.slice A2_0 l2_0.length c2_0, .slice A2_1 l2_1.length c2_1, .slice A2_2 l2_2.length c2_2] 38 (0, 0))) ∧ (w'.heap[s_.2.2]? = some (.cells #[.slice none 0 0, .slice none 0 0, .slice none 0 0, .slice none 0 0, .slice none 0 0, .slice none 0 0, .slice none 0 0] 105 (0, 0))) ∧ (w.heap.size ≤ s_.2.2) ∧ (w.heap.size ≤ s_.2.2) ∧ (gb320 ≠ s_.2.2) ∧ (s_.2.2 ≠ gb320) ∧ (Below w.heap.size w w')) ?_ ?_
     rotate_left
     ·intro hJ1_3_10
      refine join_ (σ := Value × Value) 5 #[true, true, true, true, true, false, true, false, true, false, false, false] (fun s_ => [(23, s_.1), (25, s_.2)]) (fun s_ w' => (w'.cell? ⟨gb320, 0, none⟩ = some (.slice A2_0 l2_0.length c2_0) ∧ w'.cell? ⟨gb320, 1, none⟩ = some (.slice A2_1 l2_1.length c2_1) ∧ w'.cell? ⟨gb320, 2, none⟩ = some (.slice A2_2 l2_2.length c2_2)) ∧ (Kd.R (Kd.int .i64) 3 w' w.heap.size (fun k_ => some k_ ≠ (v325 : Value).ownBlock ∧ some k_ ≠ (s_.1 : Value).ownBlock ∧ some k_ ≠ (s_.2 : Value).ownBlock) v322 y321) ∧ (Kd.R (Kd.int .i64) 3 w' w.heap.size (fun k_ => some k_ ≠ (v322 : Value).ownBlock ∧ some k_ ≠ (s_.1 : Value).ownBlock ∧ some k_ ≠ (s_.2 : Value).ownBlock) v325 y324) ∧ (Kd.R (Kd.int .i64) 3 w' w.heap.size (fun k_ => some k_ ≠ (v322 : Value).ownBlock ∧ some k_ ≠ (v325 : Value).ownBlock ∧ some k_ ≠ (s_.2 : Value).ownBlock) s_.1 t327) ∧ (Kd.R (Kd.int .i64) 3 w' w.heap.size (fun k_ => some k_ ≠ (v322 : Value).ownBlock ∧ some k_ ≠ (v325 : Value).ownBlock ∧ some k_ ≠ (s_.1 : Value).ownBlock) s_.2 t330) ∧ (w'.heap[gb320]? = some (.cells #[.slice A2_0 l2_0.length c2_0, .slice A2_1 l2_1.length c2_1, .slice A2_2 l2_2.length c2_2] 38 (0, 0))) ∧ (Below w.heap.size w w')) ?_ ?_
      rotate_left
      ·intro hJ1_3
       refine join_ (σ := Value × Nat) 5 #[true, true, true, false, true, false, true, false, true, false, true, false] (fun s_ => [(23, s_.1), (10, .pointer (some ⟨s_.2, 0, none⟩))]) (fun s_ w' => (w'.cell? ⟨gb320, 0, none⟩ = some (.slice A2_0 l2_0.length c2_0) ∧ w'.cell? ⟨gb320, 1, none⟩ = some (.slice A2_1 l2_1.length c2_1) ∧ w'.cell? ⟨gb320, 2, none⟩ = some (.slice A2_2 l2_2.length c2_2)) ∧ (Kd.R (Kd.int .i64) 3 w' w.heap.size (fun k_ => some k_ ≠ (v325 : Value).ownBlock ∧ some k_ ≠ (s_.1 : Value).ownBlock) v322 y321) ∧ (Kd.R (Kd.int .i64) 3 w' w.heap.size (fun k_ => some k_ ≠ (v322 : Value).ownBlock ∧ some k_ ≠ (s_.1 : Value).ownBlock) v325 y324) ∧ (Kd.R (Kd.int .i64) 3 w' w.heap.size (fun k_ => some k_ ≠ (v322 : Value).ownBlock ∧ some k_ ≠ (v325 : Value).ownBlock) s_.1 t327) ∧ (w'.heap[gb320]? = some (.cells #[.slice A2_0 l2_0.length c2_0, .slice A2_1 l2_1.length c2_1, .slice A2_2 l2_2.length c2_2] 38 (0, 0))) ∧ (w'.heap[s_.2]? = some (.cells #[.slice none 0 0, .slice none 0 0, .slice none 0 0, .slice none 0 0, .slice none 0 0, .slice none 0 0, .slice none 0 0] 105 (0, 0))) ∧ (w.heap.size ≤ s_.2) ∧ (w.heap.size ≤ s_.2) ∧ (gb320 ≠ s_.2) ∧ (s_.2 ≠ gb320) ∧ (Below w.heap.size w w')) ?_ ?_
       rotate_left
       ·intro hJ1_10
        refine join_ (σ := Value) 6 #[true, true, true, false, true, false, true, false, true, false, false, false] (fun s_ => [(23, s_)]) (fun s_ w' => (w'.cell? ⟨gb320, 0, none⟩ = some (.slice A2_0 l2_0.length c2_0) ∧ w'.cell? ⟨gb320, 1, none⟩ = some (.slice A2_1 l2_1.length c2_1) ∧ w'.cell? ⟨gb320, 2, none⟩ = some (.slice A2_2 l2_2.length c2_2)) ∧ (Kd.R (Kd.int .i64) 3 w' w.heap.size (fun k_ => some k_ ≠ (v325 : Value).ownBlock ∧ some k_ ≠ (s_ : Value).ownBlock) v322 y321) ∧ (Kd.R (Kd.int .i64) 3 w' w.heap.size (fun k_ => some k_ ≠ (v322 : Value).ownBlock ∧ some k_ ≠ (s_ : Value).ownBlock) v325 y324) ∧ (Kd.R (Kd.int .i64) 3 w' w.heap.size (fun k_ => some k_ ≠ (v322 : Value).ownBlock ∧ some k_ ≠ (v325 : Value).ownBlock) s_ t327) ∧ (w'.heap[gb320]? = some (.cells #[.slice A2_0 l2_0.length c2_0, .slice A2_1 l2_1.length c2_1, .slice A2_2 l2_2.length c2_2] 38 (0, 0))) ∧ (Below w.heap.size w w')) ?_ ?_
        rotate_left
        ·intro hJ1
         refine join_ (σ := Nat) 6 #[true, false, true, false, true, false, true, false, true, false, true, false] (fun s_ => [(10, .pointer (some ⟨s_, 0, none⟩))]) (fun s_ w' => (w'.cell? ⟨gb320, 0, none⟩ = some (.slice A2_0 l2_0.length c2_0) ∧ w'.cell? ⟨gb320, 1, none⟩ = some (.slice A2_1 l2_1.length c2_1) ∧ w'.cell? ⟨gb320, 2, none⟩ = some (.slice A2_2 l2_2.length c2_2)) ∧ (Kd.R (Kd.int .i64) 3 w' w.heap.size (fun k_ => some k_ ≠ (v325 : Value).ownBlock) v322 y321) ∧ (Kd.R (Kd.int .i64) 3 w' w.heap.size (fun k_ => some k_ ≠ (v322 : Value).ownBlock) v325 y324) ∧ (w'.heap[gb320]? = some (.cells #[.slice A2_0 l2_0.length c2_0, .slice A2_1 l2_1.length c2_1, .slice A2_2 l2_2.length c2_2] 38 (0, 0))) ∧ (w'.heap[s_]? = some (.cells #[.slice none 0 0, .slice none 0 0, .slice none 0 0, .slice none 0 0, .slice none 0 0, .slice none 0 0, .slice none 0 0] 105 (0, 0))) ∧ (w.heap.size ≤ s_) ∧ (w.heap.size ≤ s_) ∧ (gb320 ≠ s_) ∧ (s_ ≠ gb320) ∧ (Below w.heap.size w w')) ?_ ?_
         rotate_left
         ·intro hJ10
          refine two_ (i := 1) (j := 10) (Ni := some 23) (Nj := some 10) #[true, true, true, false, true, false, true, false, true, false, false, false] #[true, false, true, false, true, false, true, false, true, false, true, false] rfl rfl rfl rfl (two_of HT_.out (by kernel_rfl)) (by decide) (by decide) (fun K hK => ?_) (fun K hK => ?_)
          ·skip
           refine goes_ Try.func80 (by kernel_rfl) rfl #[.slice A0 l0.length c0] (by rfl) rfl rfl z1_ ?_
           with_reducible refine (spec_l8Labels.calls k _ _ l0 t327 _ ?side1 ?side2 A7.out).mono ?_
           (case side1 => exact z3_)
           (case side2 => exact HC0.out)
           rintro e w19 ⟨v328, rfl, ho0, hb⟩
           refine ⟨_, rfl, ?_⟩
           have n0_ := Aside0.mk (Kd.R_elder' z16_ (Kd.R_base ho0) hb)
           have n1_ := Aside0.mk (Kd.R_elder' z18_ (Kd.R_base ho0) hb)
           have n2_ := Aside0.mk (Kd.R_lower (Kd.R_new' (Kd.R_new' ho0 (Kd.R_lt z16_)) (Kd.R_lt z18_)) (below_size z8_))
           have n3_ := Aside0.mk (blk_below z7_ hb)
           have n4_ := Aside0.mk (below_step z8_ hb)
           clear HO323
           clear HO326
           clear BK320
           clear HB
           have HO323 := n0_
           have HO326 := n1_
           have HO329 := n2_
           have BK320 := n3_
           have HB := n4_
           clear n0_ n1_ n2_ n3_ n4_
           (try clear hb)
           (try clear hb2)
           (try clear hk)
           (try clear hi)
           (try clear ho0)
           refine hK.out _ _ ⟨(blk_cell BK320.out 0).trans rfl, (blk_cell BK320.out 1).trans rfl, (blk_cell BK320.out 2).trans rfl⟩ (fun hHeld => ?_)
           clear hK K
           refine zn_ rfl ?_
           exact norm_ z19_ (hJ1 (v328) _ ⟨hHeld, (by (with_reducible repeat (first | apply Kd.R_alloc | apply Kd.R_drewN | apply Kd.R_drew)); exact Kd.R_mono HO323.out (fun _ hk => ⟨hk.1.2, hk.2⟩)), (by (with_reducible repeat (first | apply Kd.R_alloc | apply Kd.R_drewN | apply Kd.R_drew)); exact Kd.R_mono HO326.out (fun _ hk => ⟨hk.1.2, hk.2⟩)), z211_, z7_, z8_⟩)
          ·skip
           refine box_step ?hg (N := 10) ?hd (cs := #[.slice none 0 0, .slice none 0 0, .slice none 0 0, .slice none 0 0, .slice none 0 0, .slice none 0 0, .slice none 0 0]) (t := 105) ?hr ?_; (case hd => rfl); (case hg => rfl); (case hr => exact z9_)
           intro gb339 hg w19 hbox hb
           have n0_ := Aside0.mk (Kd.R_below z16_ hb)
           have n1_ := Aside0.mk (Kd.R_below z18_ hb)
           have n2_ := Aside0.mk (blk_below z7_ hb)
           have n3_ := Aside0.mk (below_step z8_ hb)
           have n4_ := Aside0.mk (hbox)
           have n5_ := Aside0.mk ((by rw [hg]; exact (below_size z8_) : w.heap.size ≤ gb339))
           have n6_ := Aside0.mk ((by rw [hg]; exact (below_size z8_) : w.heap.size ≤ gb339))
           have n7_ := Aside0.mk ((by rw [hg]; exact Nat.ne_of_lt (blk_lt (g := gb320) (o := .cells #[.slice A2_0 l2_0.length c2_0, .slice A2_1 l2_1.length c2_1, .slice A2_2 l2_2.length c2_2] 38 (0, 0)) z7_) : gb320 ≠ gb339))
           have n8_ := Aside0.mk ((by rw [hg]; exact Nat.ne_of_gt (blk_lt (g := gb320) (o := .cells #[.slice A2_0 l2_0.length c2_0, .slice A2_1 l2_1.length c2_1, .slice A2_2 l2_2.length c2_2] 38 (0, 0)) z7_) : gb339 ≠ gb320))
           clear HO323
           clear HO326
           clear BK320
           clear HB
           have HO323 := n0_
           have HO326 := n1_
           have BK320 := n2_
           have HB := n3_
           have BK339 := n4_
           have GW339 := n5_
           have GE339 := n6_
           have NB320_339 := n7_
           have NB339_320 := n8_
           clear n0_ n1_ n2_ n3_ n4_ n5_ n6_ n7_ n8_
           clear hb hbox hg
           refine hK.out _ _ ⟨(blk_cell BK320.out 0).trans rfl, (blk_cell BK320.out 1).trans rfl, (blk_cell BK320.out 2).trans rfl⟩ (fun hHeld => ?_)
           clear hK K
           refine zn_ rfl ?_
           exact norm_ z19_ (hJ10 (gb339) _ ⟨hHeld, (by (with_reducible repeat (first | apply Kd.R_alloc | apply Kd.R_drewN | apply Kd.R_drew)); exact Kd.R_mono HO323.out (fun _ hk => hk.2)), (by (with_reducible repeat (first | apply Kd.R_alloc | apply Kd.R_drewN | apply Kd.R_drew)); exact Kd.R_mono HO326.out (fun _ hk => hk.2)), z7_, z29_, GW339.out, GE339.out, NB320_339.out, NB339_320.out, z6_⟩)
         ·skip
          rintro gb339 w20 ⟨hS_, h0_, h1_, h2_, h3_, h4_, h5_, h6_, h7_, h8_⟩
          have n0_ : Aside0 (Kd.R (Kd.int .i64) 3 w20 w.heap.size (fun k_ => some k_ ≠ (v325 : Value).ownBlock) v322 y321) := ⟨h0_⟩
          have n1_ : Aside0 (Kd.R (Kd.int .i64) 3 w20 w.heap.size (fun k_ => some k_ ≠ (v322 : Value).ownBlock) v325 y324) := ⟨h1_⟩
          have n2_ : Aside0 (w20.heap[gb320]? = some (.cells #[.slice A2_0 l2_0.length c2_0, .slice A2_1 l2_1.length c2_1, .slice A2_2 l2_2.length c2_2] 38 (0, 0))) := ⟨h2_⟩
          have n3_ : Aside0 (w20.heap[gb339]? = some (.cells #[.slice none 0 0, .slice none 0 0, .slice none 0 0, .slice none 0 0, .slice none 0 0, .slice none 0 0, .slice none 0 0] 105 (0, 0))) := ⟨h3_⟩
          have n4_ : Aside0 (w.heap.size ≤ gb339) := ⟨h4_⟩
          have n5_ : Aside0 (w.heap.size ≤ gb339) := ⟨h5_⟩
          have n6_ : Aside0 (gb320 ≠ gb339) := ⟨h6_⟩
          have n7_ : Aside0 (gb339 ≠ gb320) := ⟨h7_⟩
          have n8_ : Aside0 (Below w.heap.size w w20) := ⟨h8_⟩
          clear HO323
          clear HO326
          clear BK320
          clear HB
          clear h0_ h1_ h2_ h3_ h4_ h5_ h6_ h7_ h8_
          have HO323 := n0_
          have HO326 := n1_
          have BK320 := n2_
          have BK339 := n3_
          have GW339 := n4_
          have GE339 := n5_
          have NB320_339 := n6_
          have NB339_320 := n7_
          have HB := n8_
          clear n0_ n1_ n2_ n3_ n4_ n5_ n6_ n7_ n8_
          have hHeld : w20.cell? ⟨gb320, 0, none⟩ = some (.slice A2_0 l2_0.length c2_0) ∧ w20.cell? ⟨gb320, 1, none⟩ = some (.slice A2_1 l2_1.length c2_1) ∧ w20.cell? ⟨gb320, 2, none⟩ = some (.slice A2_2 l2_2.length c2_2) := hS_
          refine norm_ (a' := ?_) ?_ ?_
          rotate_left
          ·simp only [putAll, Act.put, List.setIfInBounds_toArray, List.set_cons_zero, List.set_cons_succ]
           rfl
          refine one_ (i := 1) (N := some 23) (ra_ [3, 1, 1, 1, 1, 1, 1, 1, 1, 1]) rfl rfl (one_of HT_.out (by kernel_rfl)) (by decide) (fun K hK => ?_)
          refine goes_ Try.func80 (by kernel_rfl) rfl #[.slice A0 l0.length c0] (by rfl) rfl rfl z1_ ?_
          with_reducible refine (spec_l8Labels.calls k _ _ l0 t327 _ ?side1 ?side2 A7.out).mono ?_
          (case side1 => exact z3_)
          (case side2 => exact HC0.out)
          rintro e w21 ⟨v328, rfl, ho0, hb⟩
          refine ⟨_, rfl, ?_⟩
          have n0_ := Aside0.mk (Kd.R_elder' z16_ (Kd.R_base ho0) hb)
          have n1_ := Aside0.mk (Kd.R_elder' z18_ (Kd.R_base ho0) hb)
          have n2_ := Aside0.mk (Kd.R_lower (Kd.R_new' (Kd.R_new' ho0 (Kd.R_lt z16_)) (Kd.R_lt z18_)) (below_size z6_))
          have n3_ := Aside0.mk (blk_below z7_ hb)
          have n4_ := Aside0.mk (blk_below z29_ hb)
          have n5_ := Aside0.mk (below_step z6_ hb)
          clear HO323
          clear HO326
          clear BK320
          clear BK339
          clear HB
          have HO323 := n0_
          have HO326 := n1_
          have HO329 := n2_
          have BK320 := n3_
          have BK339 := n4_
          have HB := n5_
          clear n0_ n1_ n2_ n3_ n4_ n5_
          (try clear hb)
          (try clear hb2)
          (try clear hk)
          (try clear hi)
          (try clear ho0)
          refine hK.out _ _ ⟨(blk_cell BK320.out 0).trans rfl, (blk_cell BK320.out 1).trans rfl, (blk_cell BK320.out 2).trans rfl⟩ (fun hHeld => ?_)
          clear hK K
          refine zn_ rfl ?_
          exact norm_ z19_ (hJ1_10 (v328, gb339) _ ⟨hHeld, z16_, z18_, z211_, z7_, z29_, GW339.out, GE339.out, NB320_339.out, NB339_320.out, z6_⟩)
        ·skip
         rintro v328 w20 ⟨hS_, h0_, h1_, h2_, h3_, h4_⟩
         have n0_ : Aside0 (Kd.R (Kd.int .i64) 3 w20 w.heap.size (fun k_ => some k_ ≠ (v325 : Value).ownBlock ∧ some k_ ≠ (v328 : Value).ownBlock) v322 y321) := ⟨h0_⟩
         have n1_ : Aside0 (Kd.R (Kd.int .i64) 3 w20 w.heap.size (fun k_ => some k_ ≠ (v322 : Value).ownBlock ∧ some k_ ≠ (v328 : Value).ownBlock) v325 y324) := ⟨h1_⟩
         have n2_ : Aside0 (Kd.R (Kd.int .i64) 3 w20 w.heap.size (fun k_ => some k_ ≠ (v322 : Value).ownBlock ∧ some k_ ≠ (v325 : Value).ownBlock) v328 t327) := ⟨h2_⟩
         have n3_ : Aside0 (w20.heap[gb320]? = some (.cells #[.slice A2_0 l2_0.length c2_0, .slice A2_1 l2_1.length c2_1, .slice A2_2 l2_2.length c2_2] 38 (0, 0))) := ⟨h3_⟩
         have n4_ : Aside0 (Below w.heap.size w w20) := ⟨h4_⟩
         clear HO323
         clear HO326
         clear BK320
         clear HB
         clear h0_ h1_ h2_ h3_ h4_
         have HO323 := n0_
         have HO326 := n1_
         have HO329 := n2_
         have BK320 := n3_
         have HB := n4_
         clear n0_ n1_ n2_ n3_ n4_
         have hHeld : w20.cell? ⟨gb320, 0, none⟩ = some (.slice A2_0 l2_0.length c2_0) ∧ w20.cell? ⟨gb320, 1, none⟩ = some (.slice A2_1 l2_1.length c2_1) ∧ w20.cell? ⟨gb320, 2, none⟩ = some (.slice A2_2 l2_2.length c2_2) := hS_
         refine norm_ (a' := ?_) ?_ ?_
         rotate_left
         ·simp only [putAll, Act.put, List.setIfInBounds_toArray, List.set_cons_zero, List.set_cons_succ]
          rfl
         refine two_ (i := 3) (j := 10) (Ni := some 25) (Nj := some 10) #[true, true, true, true, true, false, true, false, true, false, false, false] #[true, true, true, false, true, false, true, false, true, false, true, false] rfl rfl rfl rfl (two_of HT_.out (by kernel_rfl)) (by decide) (by decide) (fun K hK => ?_) (fun K hK => ?_)
         ·skip
          refine goes_ Try.func80 (by kernel_rfl) rfl #[.slice A1 l1.length c1] (by rfl) rfl rfl z1_ ?_
          with_reducible refine (spec_l8Labels.calls k _ _ l1 t330 _ ?side1 ?side2 A8.out).mono ?_
          (case side1 => exact z22_)
          (case side2 => exact HC1.out)
          rintro e w21 ⟨v331, rfl, ho0, hb⟩
          refine ⟨_, rfl, ?_⟩
          have n0_ := Aside0.mk (Kd.R_elder' z16_ (Kd.R_base ho0) hb)
          have n1_ := Aside0.mk (Kd.R_elder' z18_ (Kd.R_base ho0) hb)
          have n2_ := Aside0.mk (Kd.R_elder' z27_ (Kd.R_base ho0) hb)
          have n3_ := Aside0.mk (Kd.R_lower (Kd.R_new' (Kd.R_new' (Kd.R_new' ho0 (Kd.R_lt z16_)) (Kd.R_lt z18_)) (Kd.R_lt z27_)) (below_size z8_))
          have n4_ := Aside0.mk (blk_below z7_ hb)
          have n5_ := Aside0.mk (below_step z8_ hb)
          clear HO323
          clear HO326
          clear HO329
          clear BK320
          clear HB
          have HO323 := n0_
          have HO326 := n1_
          have HO329 := n2_
          have HO332 := n3_
          have BK320 := n4_
          have HB := n5_
          clear n0_ n1_ n2_ n3_ n4_ n5_
          (try clear hb)
          (try clear hb2)
          (try clear hk)
          (try clear hi)
          (try clear ho0)
          refine hK.out _ _ ⟨(blk_cell BK320.out 0).trans rfl, (blk_cell BK320.out 1).trans rfl, (blk_cell BK320.out 2).trans rfl⟩ (fun hHeld => ?_)
          clear hK K
          refine zn_ rfl ?_
          exact norm_ z19_ (hJ1_3 (v328, v331) _ ⟨hHeld, z207_, z208_, z209_, z204_, z7_, z8_⟩)
         ·skip
          refine box_step ?hg (N := 10) ?hd (cs := #[.slice none 0 0, .slice none 0 0, .slice none 0 0, .slice none 0 0, .slice none 0 0, .slice none 0 0, .slice none 0 0]) (t := 105) ?hr ?_; (case hd => rfl); (case hg => rfl); (case hr => exact z9_)
          intro gb339 hg w21 hbox hb
          have n0_ := Aside0.mk (Kd.R_below z16_ hb)
          have n1_ := Aside0.mk (Kd.R_below z18_ hb)
          have n2_ := Aside0.mk (Kd.R_below z27_ hb)
          have n3_ := Aside0.mk (blk_below z7_ hb)
          have n4_ := Aside0.mk (below_step z8_ hb)
          have n5_ := Aside0.mk (hbox)
          have n6_ := Aside0.mk ((by rw [hg]; exact (below_size z8_) : w.heap.size ≤ gb339))
          have n7_ := Aside0.mk ((by rw [hg]; exact (below_size z8_) : w.heap.size ≤ gb339))
          have n8_ := Aside0.mk ((by rw [hg]; exact Nat.ne_of_lt (blk_lt (g := gb320) (o := .cells #[.slice A2_0 l2_0.length c2_0, .slice A2_1 l2_1.length c2_1, .slice A2_2 l2_2.length c2_2] 38 (0, 0)) z7_) : gb320 ≠ gb339))
          have n9_ := Aside0.mk ((by rw [hg]; exact Nat.ne_of_gt (blk_lt (g := gb320) (o := .cells #[.slice A2_0 l2_0.length c2_0, .slice A2_1 l2_1.length c2_1, .slice A2_2 l2_2.length c2_2] 38 (0, 0)) z7_) : gb339 ≠ gb320))
          clear HO323
          clear HO326
          clear HO329
          clear BK320
          clear HB
          have HO323 := n0_
          have HO326 := n1_
          have HO329 := n2_
          have BK320 := n3_
          have HB := n4_
          have BK339 := n5_
          have GW339 := n6_
          have GE339 := n7_
          have NB320_339 := n8_
          have NB339_320 := n9_
          clear n0_ n1_ n2_ n3_ n4_ n5_ n6_ n7_ n8_ n9_
          clear hb hbox hg
          refine hK.out _ _ ⟨(blk_cell BK320.out 0).trans rfl, (blk_cell BK320.out 1).trans rfl, (blk_cell BK320.out 2).trans rfl⟩ (fun hHeld => ?_)
          clear hK K
          refine zn_ rfl ?_
          exact norm_ z19_ (hJ1_10 (v328, gb339) _ ⟨hHeld, z16_, z18_, z27_, z7_, z29_, GW339.out, GE339.out, NB320_339.out, NB339_320.out, z6_⟩)
       ·skip
        rintro ⟨v328, gb339⟩ w21 ⟨hS_, h0_, h1_, h2_, h3_, h4_, h5_, h6_, h7_, h8_, h9_⟩
        have n0_ : Aside0 (Kd.R (Kd.int .i64) 3 w21 w.heap.size (fun k_ => some k_ ≠ (v325 : Value).ownBlock ∧ some k_ ≠ (v328 : Value).ownBlock) v322 y321) := ⟨h0_⟩
        have n1_ : Aside0 (Kd.R (Kd.int .i64) 3 w21 w.heap.size (fun k_ => some k_ ≠ (v322 : Value).ownBlock ∧ some k_ ≠ (v328 : Value).ownBlock) v325 y324) := ⟨h1_⟩
        have n2_ : Aside0 (Kd.R (Kd.int .i64) 3 w21 w.heap.size (fun k_ => some k_ ≠ (v322 : Value).ownBlock ∧ some k_ ≠ (v325 : Value).ownBlock) v328 t327) := ⟨h2_⟩
        have n3_ : Aside0 (w21.heap[gb320]? = some (.cells #[.slice A2_0 l2_0.length c2_0, .slice A2_1 l2_1.length c2_1, .slice A2_2 l2_2.length c2_2] 38 (0, 0))) := ⟨h3_⟩
        have n4_ : Aside0 (w21.heap[gb339]? = some (.cells #[.slice none 0 0, .slice none 0 0, .slice none 0 0, .slice none 0 0, .slice none 0 0, .slice none 0 0, .slice none 0 0] 105 (0, 0))) := ⟨h4_⟩
        have n5_ : Aside0 (w.heap.size ≤ gb339) := ⟨h5_⟩
        have n6_ : Aside0 (w.heap.size ≤ gb339) := ⟨h6_⟩
        have n7_ : Aside0 (gb320 ≠ gb339) := ⟨h7_⟩
        have n8_ : Aside0 (gb339 ≠ gb320) := ⟨h8_⟩
        have n9_ : Aside0 (Below w.heap.size w w21) := ⟨h9_⟩
        clear HO323
        clear HO326
        clear BK320
        clear HB
        clear h0_ h1_ h2_ h3_ h4_ h5_ h6_ h7_ h8_ h9_
        have HO323 := n0_
        have HO326 := n1_
        have HO329 := n2_
        have BK320 := n3_
        have BK339 := n4_
        have GW339 := n5_
        have GE339 := n6_
        have NB320_339 := n7_
        have NB339_320 := n8_
        have HB := n9_
        clear n0_ n1_ n2_ n3_ n4_ n5_ n6_ n7_ n8_ n9_
        have hHeld : w21.cell? ⟨gb320, 0, none⟩ = some (.slice A2_0 l2_0.length c2_0) ∧ w21.cell? ⟨gb320, 1, none⟩ = some (.slice A2_1 l2_1.length c2_1) ∧ w21.cell? ⟨gb320, 2, none⟩ = some (.slice A2_2 l2_2.length c2_2) := hS_
        refine norm_ (a' := ?_) ?_ ?_
        rotate_left
        ·simp only [putAll, Act.put, List.setIfInBounds_toArray, List.set_cons_zero, List.set_cons_succ]
         rfl
        refine one_ (i := 3) (N := some 25) (ra_ [5, 1, 1, 1, 1, 1, 1, 1]) rfl rfl (one_of HT_.out (by kernel_rfl)) (by decide) (fun K hK => ?_)
        refine goes_ Try.func80 (by kernel_rfl) rfl #[.slice A1 l1.length c1] (by rfl) rfl rfl z1_ ?_
        with_reducible refine (spec_l8Labels.calls k _ _ l1 t330 _ ?side1 ?side2 A8.out).mono ?_
        (case side1 => exact z22_)
        (case side2 => exact HC1.out)
        rintro e w22 ⟨v331, rfl, ho0, hb⟩
        refine ⟨_, rfl, ?_⟩
        have n0_ := Aside0.mk (Kd.R_elder' z16_ (Kd.R_base ho0) hb)
        have n1_ := Aside0.mk (Kd.R_elder' z18_ (Kd.R_base ho0) hb)
        have n2_ := Aside0.mk (Kd.R_elder' z27_ (Kd.R_base ho0) hb)
        have n3_ := Aside0.mk (Kd.R_lower (Kd.R_new' (Kd.R_new' (Kd.R_new' ho0 (Kd.R_lt z16_)) (Kd.R_lt z18_)) (Kd.R_lt z27_)) (below_size z6_))
        have n4_ := Aside0.mk (blk_below z7_ hb)
        have n5_ := Aside0.mk (blk_below z29_ hb)
        have n6_ := Aside0.mk (below_step z6_ hb)
        clear HO323
        clear HO326
        clear HO329
        clear BK320
        clear BK339
        clear HB
        have HO323 := n0_
        have HO326 := n1_
        have HO329 := n2_
        have HO332 := n3_
        have BK320 := n4_
        have BK339 := n5_
        have HB := n6_
        clear n0_ n1_ n2_ n3_ n4_ n5_ n6_
        (try clear hb)
        (try clear hb2)
        (try clear hk)
        (try clear hi)
        (try clear ho0)
        refine hK.out _ _ ⟨(blk_cell BK320.out 0).trans rfl, (blk_cell BK320.out 1).trans rfl, (blk_cell BK320.out 2).trans rfl⟩ (fun hHeld => ?_)
        clear hK K
        refine zn_ rfl ?_
        exact norm_ z19_ (hJ1_3_10 (v328, v331, gb339) _ ⟨hHeld, z207_, z208_, z209_, z204_, z7_, z29_, GW339.out, GE339.out, NB320_339.out, NB339_320.out, z6_⟩)
      ·skip
       rintro ⟨v328, v331⟩ w21 ⟨hS_, h0_, h1_, h2_, h3_, h4_, h5_⟩
       have n0_ : Aside0 (Kd.R (Kd.int .i64) 3 w21 w.heap.size (fun k_ => some k_ ≠ (v325 : Value).ownBlock ∧ some k_ ≠ (v328 : Value).ownBlock ∧ some k_ ≠ (v331 : Value).ownBlock) v322 y321) := ⟨h0_⟩
       have n1_ : Aside0 (Kd.R (Kd.int .i64) 3 w21 w.heap.size (fun k_ => some k_ ≠ (v322 : Value).ownBlock ∧ some k_ ≠ (v328 : Value).ownBlock ∧ some k_ ≠ (v331 : Value).ownBlock) v325 y324) := ⟨h1_⟩
       have n2_ : Aside0 (Kd.R (Kd.int .i64) 3 w21 w.heap.size (fun k_ => some k_ ≠ (v322 : Value).ownBlock ∧ some k_ ≠ (v325 : Value).ownBlock ∧ some k_ ≠ (v331 : Value).ownBlock) v328 t327) := ⟨h2_⟩
       have n3_ : Aside0 (Kd.R (Kd.int .i64) 3 w21 w.heap.size (fun k_ => some k_ ≠ (v322 : Value).ownBlock ∧ some k_ ≠ (v325 : Value).ownBlock ∧ some k_ ≠ (v328 : Value).ownBlock) v331 t330) := ⟨h3_⟩
       have n4_ : Aside0 (w21.heap[gb320]? = some (.cells #[.slice A2_0 l2_0.length c2_0, .slice A2_1 l2_1.length c2_1, .slice A2_2 l2_2.length c2_2] 38 (0, 0))) := ⟨h4_⟩
       have n5_ : Aside0 (Below w.heap.size w w21) := ⟨h5_⟩
       clear HO323
       clear HO326
       clear BK320
       clear HB
       clear h0_ h1_ h2_ h3_ h4_ h5_
       have HO323 := n0_
       have HO326 := n1_
       have HO329 := n2_
       have HO332 := n3_
       have BK320 := n4_
       have HB := n5_
       clear n0_ n1_ n2_ n3_ n4_ n5_
       have hHeld : w21.cell? ⟨gb320, 0, none⟩ = some (.slice A2_0 l2_0.length c2_0) ∧ w21.cell? ⟨gb320, 1, none⟩ = some (.slice A2_1 l2_1.length c2_1) ∧ w21.cell? ⟨gb320, 2, none⟩ = some (.slice A2_2 l2_2.length c2_2) := hS_
       refine norm_ (a' := ?_) ?_ ?_
       rotate_left
       ·simp only [putAll, Act.put, List.setIfInBounds_toArray, List.set_cons_zero, List.set_cons_succ]
        rfl
       refine two_ (i := 5) (j := 10) (Ni := some 27) (Nj := some 10) #[true, true, true, true, true, true, true, false, true, false, false, false] #[true, true, true, true, true, false, true, false, true, false, true, false] rfl rfl rfl rfl (two_of HT_.out (by kernel_rfl)) (by decide) (by decide) (fun K hK => ?_) (fun K hK => ?_)
       ·skip
        refine goes_ Try.func81 (by kernel_rfl) rfl #[.slice A0 l0.length c0] (by rfl) rfl rfl z1_ ?_
        with_reducible refine (spec_LeftLeaf.calls k _ _ l0 t333 _ ?side1 ?side2 A9.out).mono ?_
        (case side1 => exact z3_)
        (case side2 => exact HC0.out)
        rintro e w22 ⟨v334, rfl, ho0, hb⟩
        refine ⟨_, rfl, ?_⟩
        have n0_ := Aside0.mk (Kd.R_elder' z16_ (Kd.R_base ho0) hb)
        have n1_ := Aside0.mk (Kd.R_elder' z18_ (Kd.R_base ho0) hb)
        have n2_ := Aside0.mk (Kd.R_elder' z27_ (Kd.R_base ho0) hb)
        have n3_ := Aside0.mk (Kd.R_elder' z40_ (Kd.R_base ho0) hb)
        have n4_ := Aside0.mk (Kd.R_lower (Kd.R_new' (Kd.R_new' (Kd.R_new' (Kd.R_new' ho0 (Kd.R_lt z16_)) (Kd.R_lt z18_)) (Kd.R_lt z27_)) (Kd.R_lt z40_)) (below_size z8_))
        have n5_ := Aside0.mk (blk_below z7_ hb)
        have n6_ := Aside0.mk (below_step z8_ hb)
        clear HO323
        clear HO326
        clear HO329
        clear HO332
        clear BK320
        clear HB
        have HO323 := n0_
        have HO326 := n1_
        have HO329 := n2_
        have HO332 := n3_
        have HO335 := n4_
        have BK320 := n5_
        have HB := n6_
        clear n0_ n1_ n2_ n3_ n4_ n5_ n6_
        (try clear hb)
        (try clear hb2)
        (try clear hk)
        (try clear hi)
        (try clear ho0)
        refine hK.out _ _ ⟨(blk_cell BK320.out 0).trans rfl, (blk_cell BK320.out 1).trans rfl, (blk_cell BK320.out 2).trans rfl⟩ (fun hHeld => ?_)
        clear hK K
        refine zn_ rfl ?_
        exact norm_ z19_ (hJ1_3_5 (v328, v331, v334) _ ⟨hHeld, z191_, z192_, z193_, z194_, z190_, z7_, z8_⟩)
       ·skip
        refine box_step ?hg (N := 10) ?hd (cs := #[.slice none 0 0, .slice none 0 0, .slice none 0 0, .slice none 0 0, .slice none 0 0, .slice none 0 0, .slice none 0 0]) (t := 105) ?hr ?_; (case hd => rfl); (case hg => rfl); (case hr => exact z9_)
        intro gb339 hg w22 hbox hb
        have n0_ := Aside0.mk (Kd.R_below z16_ hb)
        have n1_ := Aside0.mk (Kd.R_below z18_ hb)
        have n2_ := Aside0.mk (Kd.R_below z27_ hb)
        have n3_ := Aside0.mk (Kd.R_below z40_ hb)
        have n4_ := Aside0.mk (blk_below z7_ hb)
        have n5_ := Aside0.mk (below_step z8_ hb)
        have n6_ := Aside0.mk (hbox)
        have n7_ := Aside0.mk ((by rw [hg]; exact (below_size z8_) : w.heap.size ≤ gb339))
        have n8_ := Aside0.mk ((by rw [hg]; exact (below_size z8_) : w.heap.size ≤ gb339))
        have n9_ := Aside0.mk ((by rw [hg]; exact Nat.ne_of_lt (blk_lt (g := gb320) (o := .cells #[.slice A2_0 l2_0.length c2_0, .slice A2_1 l2_1.length c2_1, .slice A2_2 l2_2.length c2_2] 38 (0, 0)) z7_) : gb320 ≠ gb339))
        have n10_ := Aside0.mk ((by rw [hg]; exact Nat.ne_of_gt (blk_lt (g := gb320) (o := .cells #[.slice A2_0 l2_0.length c2_0, .slice A2_1 l2_1.length c2_1, .slice A2_2 l2_2.length c2_2] 38 (0, 0)) z7_) : gb339 ≠ gb320))
        clear HO323
        clear HO326
        clear HO329
        clear HO332
        clear BK320
        clear HB
        have HO323 := n0_
        have HO326 := n1_
        have HO329 := n2_
        have HO332 := n3_
        have BK320 := n4_
        have HB := n5_
        have BK339 := n6_
        have GW339 := n7_
        have GE339 := n8_
        have NB320_339 := n9_
        have NB339_320 := n10_
        clear n0_ n1_ n2_ n3_ n4_ n5_ n6_ n7_ n8_ n9_ n10_
        clear hb hbox hg
        refine hK.out _ _ ⟨(blk_cell BK320.out 0).trans rfl, (blk_cell BK320.out 1).trans rfl, (blk_cell BK320.out 2).trans rfl⟩ (fun hHeld => ?_)
        clear hK K
        refine zn_ rfl ?_
        exact norm_ z19_ (hJ1_3_10 (v328, v331, gb339) _ ⟨hHeld, z16_, z18_, z27_, z40_, z7_, z29_, GW339.out, GE339.out, NB320_339.out, NB339_320.out, z6_⟩)
     ·skip
      rintro ⟨v328, v331, gb339⟩ w22 ⟨hS_, h0_, h1_, h2_, h3_, h4_, h5_, h6_, h7_, h8_, h9_, h10_⟩
      have n0_ : Aside0 (Kd.R (Kd.int .i64) 3 w22 w.heap.size (fun k_ => some k_ ≠ (v325 : Value).ownBlock ∧ some k_ ≠ (v328 : Value).ownBlock ∧ some k_ ≠ (v331 : Value).ownBlock) v322 y321) := ⟨h0_⟩
      have n1_ : Aside0 (Kd.R (Kd.int .i64) 3 w22 w.heap.size (fun k_ => some k_ ≠ (v322 : Value).ownBlock ∧ some k_ ≠ (v328 : Value).ownBlock ∧ some k_ ≠ (v331 : Value).ownBlock) v325 y324) := ⟨h1_⟩
      have n2_ : Aside0 (Kd.R (Kd.int .i64) 3 w22 w.heap.size (fun k_ => some k_ ≠ (v322 : Value).ownBlock ∧ some k_ ≠ (v325 : Value).ownBlock ∧ some k_ ≠ (v331 : Value).ownBlock) v328 t327) := ⟨h2_⟩
      have n3_ : Aside0 (Kd.R (Kd.int .i64) 3 w22 w.heap.size (fun k_ => some k_ ≠ (v322 : Value).ownBlock ∧ some k_ ≠ (v325 : Value).ownBlock ∧ some k_ ≠ (v328 : Value).ownBlock) v331 t330) := ⟨h3_⟩
      have n4_ : Aside0 (w22.heap[gb320]? = some (.cells #[.slice A2_0 l2_0.length c2_0, .slice A2_1 l2_1.length c2_1, .slice A2_2 l2_2.length c2_2] 38 (0, 0))) := ⟨h4_⟩
      have n5_ : Aside0 (w22.heap[gb339]? = some (.cells #[.slice none 0 0, .slice none 0 0, .slice none 0 0, .slice none 0 0, .slice none 0 0, .slice none 0 0, .slice none 0 0] 105 (0, 0))) := ⟨h5_⟩
      have n6_ : Aside0 (w.heap.size ≤ gb339) := ⟨h6_⟩
      have n7_ : Aside0 (w.heap.size ≤ gb339) := ⟨h7_⟩
      have n8_ : Aside0 (gb320 ≠ gb339) := ⟨h8_⟩
      have n9_ : Aside0 (gb339 ≠ gb320) := ⟨h9_⟩
      have n10_ : Aside0 (Below w.heap.size w w22) := ⟨h10_⟩
      clear HO323
      clear HO326
      clear BK320
      clear HB
      clear h0_ h1_ h2_ h3_ h4_ h5_ h6_ h7_ h8_ h9_ h10_
      have HO323 := n0_
      have HO326 := n1_
      have HO329 := n2_
      have HO332 := n3_
      have BK320 := n4_
      have BK339 := n5_
      have GW339 := n6_
      have GE339 := n7_
      have NB320_339 := n8_
      have NB339_320 := n9_
      have HB := n10_
      clear n0_ n1_ n2_ n3_ n4_ n5_ n6_ n7_ n8_ n9_ n10_
      have hHeld : w22.cell? ⟨gb320, 0, none⟩ = some (.slice A2_0 l2_0.length c2_0) ∧ w22.cell? ⟨gb320, 1, none⟩ = some (.slice A2_1 l2_1.length c2_1) ∧ w22.cell? ⟨gb320, 2, none⟩ = some (.slice A2_2 l2_2.length c2_2) := hS_
      refine norm_ (a' := ?_) ?_ ?_
      rotate_left
      ·simp only [putAll, Act.put, List.setIfInBounds_toArray, List.set_cons_zero, List.set_cons_succ]
       rfl
      refine one_ (i := 5) (N := some 27) (ra_ [7, 1, 1, 1, 1, 1]) rfl rfl (one_of HT_.out (by kernel_rfl)) (by decide) (fun K hK => ?_)
      refine goes_ Try.func81 (by kernel_rfl) rfl #[.slice A0 l0.length c0] (by rfl) rfl rfl z1_ ?_
      with_reducible refine (spec_LeftLeaf.calls k _ _ l0 t333 _ ?side1 ?side2 A9.out).mono ?_
      (case side1 => exact z3_)
      (case side2 => exact HC0.out)
      rintro e w23 ⟨v334, rfl, ho0, hb⟩
      refine ⟨_, rfl, ?_⟩
      have n0_ := Aside0.mk (Kd.R_elder' z16_ (Kd.R_base ho0) hb)
      have n1_ := Aside0.mk (Kd.R_elder' z18_ (Kd.R_base ho0) hb)
      have n2_ := Aside0.mk (Kd.R_elder' z27_ (Kd.R_base ho0) hb)
      have n3_ := Aside0.mk (Kd.R_elder' z40_ (Kd.R_base ho0) hb)
      have n4_ := Aside0.mk (Kd.R_lower (Kd.R_new' (Kd.R_new' (Kd.R_new' (Kd.R_new' ho0 (Kd.R_lt z16_)) (Kd.R_lt z18_)) (Kd.R_lt z27_)) (Kd.R_lt z40_)) (below_size z6_))
      have n5_ := Aside0.mk (blk_below z7_ hb)
      have n6_ := Aside0.mk (blk_below z29_ hb)
      have n7_ := Aside0.mk (below_step z6_ hb)
      clear HO323
      clear HO326
      clear HO329
      clear HO332
      clear BK320
      clear BK339
      clear HB
      have HO323 := n0_
      have HO326 := n1_
      have HO329 := n2_
      have HO332 := n3_
      have HO335 := n4_
      have BK320 := n5_
      have BK339 := n6_
      have HB := n7_
      clear n0_ n1_ n2_ n3_ n4_ n5_ n6_ n7_
      (try clear hb)
      (try clear hb2)
      (try clear hk)
      (try clear hi)
      (try clear ho0)
      refine hK.out _ _ ⟨(blk_cell BK320.out 0).trans rfl, (blk_cell BK320.out 1).trans rfl, (blk_cell BK320.out 2).trans rfl⟩ (fun hHeld => ?_)
      clear hK K
      refine zn_ rfl ?_
      exact norm_ z19_ (hJ1_3_5_10 (v328, v331, v334, gb339) _ ⟨hHeld, z191_, z192_, z193_, z194_, z190_, z7_, z29_, GW339.out, GE339.out, NB320_339.out, NB339_320.out, z6_⟩)
    ·skip
     rintro ⟨v328, v331, v334⟩ w22 ⟨hS_, h0_, h1_, h2_, h3_, h4_, h5_, h6_⟩
     have n0_ : Aside0 (Kd.R (Kd.int .i64) 3 w22 w.heap.size (fun k_ => some k_ ≠ (v325 : Value).ownBlock ∧ some k_ ≠ (v328 : Value).ownBlock ∧ some k_ ≠ (v331 : Value).ownBlock ∧ some k_ ≠ (v334 : Value).ownBlock) v322 y321) := ⟨h0_⟩
     have n1_ : Aside0 (Kd.R (Kd.int .i64) 3 w22 w.heap.size (fun k_ => some k_ ≠ (v322 : Value).ownBlock ∧ some k_ ≠ (v328 : Value).ownBlock ∧ some k_ ≠ (v331 : Value).ownBlock ∧ some k_ ≠ (v334 : Value).ownBlock) v325 y324) := ⟨h1_⟩
     have n2_ : Aside0 (Kd.R (Kd.int .i64) 3 w22 w.heap.size (fun k_ => some k_ ≠ (v322 : Value).ownBlock ∧ some k_ ≠ (v325 : Value).ownBlock ∧ some k_ ≠ (v331 : Value).ownBlock ∧ some k_ ≠ (v334 : Value).ownBlock) v328 t327) := ⟨h2_⟩
     have n3_ : Aside0 (Kd.R (Kd.int .i64) 3 w22 w.heap.size (fun k_ => some k_ ≠ (v322 : Value).ownBlock ∧ some k_ ≠ (v325 : Value).ownBlock ∧ some k_ ≠ (v328 : Value).ownBlock ∧ some k_ ≠ (v334 : Value).ownBlock) v331 t330) := ⟨h3_⟩
     have n4_ : Aside0 (Kd.R (Kd.int .i64) 3 w22 w.heap.size (fun k_ => some k_ ≠ (v322 : Value).ownBlock ∧ some k_ ≠ (v325 : Value).ownBlock ∧ some k_ ≠ (v328 : Value).ownBlock ∧ some k_ ≠ (v331 : Value).ownBlock) v334 t333) := ⟨h4_⟩
     have n5_ : Aside0 (w22.heap[gb320]? = some (.cells #[.slice A2_0 l2_0.length c2_0, .slice A2_1 l2_1.length c2_1, .slice A2_2 l2_2.length c2_2] 38 (0, 0))) := ⟨h5_⟩
     have n6_ : Aside0 (Below w.heap.size w w22) := ⟨h6_⟩
     clear HO323
     clear HO326
     clear BK320
     clear HB
     clear h0_ h1_ h2_ h3_ h4_ h5_ h6_
     have HO323 := n0_
     have HO326 := n1_
     have HO329 := n2_
     have HO332 := n3_
     have HO335 := n4_
     have BK320 := n5_
     have HB := n6_
     clear n0_ n1_ n2_ n3_ n4_ n5_ n6_
     have hHeld : w22.cell? ⟨gb320, 0, none⟩ = some (.slice A2_0 l2_0.length c2_0) ∧ w22.cell? ⟨gb320, 1, none⟩ = some (.slice A2_1 l2_1.length c2_1) ∧ w22.cell? ⟨gb320, 2, none⟩ = some (.slice A2_2 l2_2.length c2_2) := hS_
     refine norm_ (a' := ?_) ?_ ?_
     rotate_left
     ·simp only [putAll, Act.put, List.setIfInBounds_toArray, List.set_cons_zero, List.set_cons_succ]
      rfl
     refine two_ (i := 7) (j := 10) (Ni := some 29) (Nj := some 10) #[true, true, true, true, true, true, true, true, true, false, false, false] #[true, true, true, true, true, true, true, false, true, false, true, false] rfl rfl rfl rfl (two_of HT_.out (by kernel_rfl)) (by decide) (by decide) (fun K hK => ?_) (fun K hK => ?_)
     ·skip
      refine goes_ Try.func81 (by kernel_rfl) rfl #[.slice A1 l1.length c1] (by rfl) rfl rfl z1_ ?_
      with_reducible refine (spec_LeftLeaf.calls k _ _ l1 t336 _ ?side1 ?side2 A10.out).mono ?_
      (case side1 => exact z22_)
      (case side2 => exact HC1.out)
      rintro e w23 ⟨v337, rfl, ho0, hb⟩
      refine ⟨_, rfl, ?_⟩
      have n0_ := Aside0.mk (Kd.R_elder' z16_ (Kd.R_base ho0) hb)
      have n1_ := Aside0.mk (Kd.R_elder' z18_ (Kd.R_base ho0) hb)
      have n2_ := Aside0.mk (Kd.R_elder' z27_ (Kd.R_base ho0) hb)
      have n3_ := Aside0.mk (Kd.R_elder' z40_ (Kd.R_base ho0) hb)
      have n4_ := Aside0.mk (Kd.R_elder' z75_ (Kd.R_base ho0) hb)
      have n5_ := Aside0.mk (Kd.R_lower (Kd.R_new' (Kd.R_new' (Kd.R_new' (Kd.R_new' (Kd.R_new' ho0 (Kd.R_lt z16_)) (Kd.R_lt z18_)) (Kd.R_lt z27_)) (Kd.R_lt z40_)) (Kd.R_lt z75_)) (below_size z8_))
      have n6_ := Aside0.mk (blk_below z7_ hb)
      have n7_ := Aside0.mk (below_step z8_ hb)
      clear HO323
      clear HO326
      clear HO329
      clear HO332
      clear HO335
      clear BK320
      clear HB
      have HO323 := n0_
      have HO326 := n1_
      have HO329 := n2_
      have HO332 := n3_
      have HO335 := n4_
      have HO338 := n5_
      have BK320 := n6_
      have HB := n7_
      clear n0_ n1_ n2_ n3_ n4_ n5_ n6_ n7_
      (try clear hb)
      (try clear hb2)
      (try clear hk)
      (try clear hi)
      (try clear ho0)
      obtain ⟨Ao24, co24, eo24⟩ := Kd.R_slice HO338.out
      (first | subst eo24 | (injection eo24 with f1_ f2_ f3_; have f4_ := f1_.symm; have f5_ := f3_.symm; clear f1_ f2_ f3_; subst f4_; subst f5_))
      obtain ⟨Ao25, co25, eo25⟩ := Kd.R_slice HO335.out
      (first | subst eo25 | (injection eo25 with f1_ f2_ f3_; have f4_ := f1_.symm; have f5_ := f3_.symm; clear f1_ f2_ f3_; subst f4_; subst f5_))
      obtain ⟨Ao26, co26, eo26⟩ := Kd.R_slice HO332.out
      (first | subst eo26 | (injection eo26 with f1_ f2_ f3_; have f4_ := f1_.symm; have f5_ := f3_.symm; clear f1_ f2_ f3_; subst f4_; subst f5_))
      obtain ⟨Ao27, co27, eo27⟩ := Kd.R_slice HO329.out
      (first | subst eo27 | (injection eo27 with f1_ f2_ f3_; have f4_ := f1_.symm; have f5_ := f3_.symm; clear f1_ f2_ f3_; subst f4_; subst f5_))
      refine hK.out _ _ ⟨(blk_cell BK320.out 0).trans rfl, (blk_cell BK320.out 1).trans rfl, (blk_cell BK320.out 2).trans rfl⟩ (fun hHeld => ?_)
      clear hK K
      refine zn_ rfl ?_
      refine zpg_ (i := 9) (fl_ 12 10) HT_ rfl rfl (by kernel_rfl) (fun _ _ _ h => h) (by rfl) ?_
      exact norm_ z19_ (hJ1_3_5_7 (.slice Ao27 t327.length co27, .slice Ao26 t330.length co26, .slice Ao25 t333.length co25, .slice Ao24 t336.length co24) _ ⟨hHeld, z175_, z176_, z177_, z178_, z179_, z173_, z7_, z8_⟩)
     ·skip
      refine box_step ?hg (N := 10) ?hd (cs := #[.slice none 0 0, .slice none 0 0, .slice none 0 0, .slice none 0 0, .slice none 0 0, .slice none 0 0, .slice none 0 0]) (t := 105) ?hr ?_; (case hd => rfl); (case hg => rfl); (case hr => exact z9_)
      intro gb339 hg w23 hbox hb
      have n0_ := Aside0.mk (Kd.R_below z16_ hb)
      have n1_ := Aside0.mk (Kd.R_below z18_ hb)
      have n2_ := Aside0.mk (Kd.R_below z27_ hb)
      have n3_ := Aside0.mk (Kd.R_below z40_ hb)
      have n4_ := Aside0.mk (Kd.R_below z75_ hb)
      have n5_ := Aside0.mk (blk_below z7_ hb)
      have n6_ := Aside0.mk (below_step z8_ hb)
      have n7_ := Aside0.mk (hbox)
      have n8_ := Aside0.mk ((by rw [hg]; exact (below_size z8_) : w.heap.size ≤ gb339))
      have n9_ := Aside0.mk ((by rw [hg]; exact (below_size z8_) : w.heap.size ≤ gb339))
      have n10_ := Aside0.mk ((by rw [hg]; exact Nat.ne_of_lt (blk_lt (g := gb320) (o := .cells #[.slice A2_0 l2_0.length c2_0, .slice A2_1 l2_1.length c2_1, .slice A2_2 l2_2.length c2_2] 38 (0, 0)) z7_) : gb320 ≠ gb339))
      have n11_ := Aside0.mk ((by rw [hg]; exact Nat.ne_of_gt (blk_lt (g := gb320) (o := .cells #[.slice A2_0 l2_0.length c2_0, .slice A2_1 l2_1.length c2_1, .slice A2_2 l2_2.length c2_2] 38 (0, 0)) z7_) : gb339 ≠ gb320))
      clear HO323
      clear HO326
      clear HO329
      clear HO332
      clear HO335
      clear BK320
      clear HB
      have HO323 := n0_
      have HO326 := n1_
      have HO329 := n2_
      have HO332 := n3_
      have HO335 := n4_
      have BK320 := n5_
      have HB := n6_
      have BK339 := n7_
      have GW339 := n8_
      have GE339 := n9_
      have NB320_339 := n10_
      have NB339_320 := n11_
      clear n0_ n1_ n2_ n3_ n4_ n5_ n6_ n7_ n8_ n9_ n10_ n11_
      clear hb hbox hg
      refine hK.out _ _ ⟨(blk_cell BK320.out 0).trans rfl, (blk_cell BK320.out 1).trans rfl, (blk_cell BK320.out 2).trans rfl⟩ (fun hHeld => ?_)
      clear hK K
      refine zn_ rfl ?_
      exact norm_ z19_ (hJ1_3_5_10 (v328, v331, v334, gb339) _ ⟨hHeld, z16_, z18_, z27_, z40_, z75_, z7_, z29_, GW339.out, GE339.out, NB320_339.out, NB339_320.out, z6_⟩)
   ·skip
    rintro ⟨v328, v331, v334, gb339⟩ w23 ⟨hS_, h0_, h1_, h2_, h3_, h4_, h5_, h6_, h7_, h8_, h9_, h10_, h11_⟩
    have n0_ : Aside0 (Kd.R (Kd.int .i64) 3 w23 w.heap.size (fun k_ => some k_ ≠ (v325 : Value).ownBlock ∧ some k_ ≠ (v328 : Value).ownBlock ∧ some k_ ≠ (v331 : Value).ownBlock ∧ some k_ ≠ (v334 : Value).ownBlock) v322 y321) := ⟨h0_⟩
    have n1_ : Aside0 (Kd.R (Kd.int .i64) 3 w23 w.heap.size (fun k_ => some k_ ≠ (v322 : Value).ownBlock ∧ some k_ ≠ (v328 : Value).ownBlock ∧ some k_ ≠ (v331 : Value).ownBlock ∧ some k_ ≠ (v334 : Value).ownBlock) v325 y324) := ⟨h1_⟩
    have n2_ : Aside0 (Kd.R (Kd.int .i64) 3 w23 w.heap.size (fun k_ => some k_ ≠ (v322 : Value).ownBlock ∧ some k_ ≠ (v325 : Value).ownBlock ∧ some k_ ≠ (v331 : Value).ownBlock ∧ some k_ ≠ (v334 : Value).ownBlock) v328 t327) := ⟨h2_⟩
    have n3_ : Aside0 (Kd.R (Kd.int .i64) 3 w23 w.heap.size (fun k_ => some k_ ≠ (v322 : Value).ownBlock ∧ some k_ ≠ (v325 : Value).ownBlock ∧ some k_ ≠ (v328 : Value).ownBlock ∧ some k_ ≠ (v334 : Value).ownBlock) v331 t330) := ⟨h3_⟩
    have n4_ : Aside0 (Kd.R (Kd.int .i64) 3 w23 w.heap.size (fun k_ => some k_ ≠ (v322 : Value).ownBlock ∧ some k_ ≠ (v325 : Value).ownBlock ∧ some k_ ≠ (v328 : Value).ownBlock ∧ some k_ ≠ (v331 : Value).ownBlock) v334 t333) := ⟨h4_⟩
    have n5_ : Aside0 (w23.heap[gb320]? = some (.cells #[.slice A2_0 l2_0.length c2_0, .slice A2_1 l2_1.length c2_1, .slice A2_2 l2_2.length c2_2] 38 (0, 0))) := ⟨h5_⟩
    have n6_ : Aside0 (w23.heap[gb339]? = some (.cells #[.slice none 0 0, .slice none 0 0, .slice none 0 0, .slice none 0 0, .slice none 0 0, .slice none 0 0, .slice none 0 0] 105 (0, 0))) := ⟨h6_⟩
    have n7_ : Aside0 (w.heap.size ≤ gb339) := ⟨h7_⟩
    have n8_ : Aside0 (w.heap.size ≤ gb339) := ⟨h8_⟩
    have n9_ : Aside0 (gb320 ≠ gb339) := ⟨h9_⟩
    have n10_ : Aside0 (gb339 ≠ gb320) := ⟨h10_⟩
    have n11_ : Aside0 (Below w.heap.size w w23) := ⟨h11_⟩
    clear HO323
    clear HO326
    clear BK320
    clear HB
    clear h0_ h1_ h2_ h3_ h4_ h5_ h6_ h7_ h8_ h9_ h10_ h11_
    have HO323 := n0_
    have HO326 := n1_
    have HO329 := n2_
    have HO332 := n3_
    have HO335 := n4_
    have BK320 := n5_
    have BK339 := n6_
    have GW339 := n7_
    have GE339 := n8_
    have NB320_339 := n9_
    have NB339_320 := n10_
    have HB := n11_
    clear n0_ n1_ n2_ n3_ n4_ n5_ n6_ n7_ n8_ n9_ n10_ n11_
    have hHeld : w23.cell? ⟨gb320, 0, none⟩ = some (.slice A2_0 l2_0.length c2_0) ∧ w23.cell? ⟨gb320, 1, none⟩ = some (.slice A2_1 l2_1.length c2_1) ∧ w23.cell? ⟨gb320, 2, none⟩ = some (.slice A2_2 l2_2.length c2_2) := hS_
    refine norm_ (a' := ?_) ?_ ?_
    rotate_left
    ·simp only [putAll, Act.put, List.setIfInBounds_toArray, List.set_cons_zero, List.set_cons_succ]
     rfl
    refine one_ (i := 7) (N := some 29) (ra_ [9, 1, 1, 1]) rfl rfl (one_of HT_.out (by kernel_rfl)) (by decide) (fun K hK => ?_)
    refine goes_ Try.func81 (by kernel_rfl) rfl #[.slice A1 l1.length c1] (by rfl) rfl rfl z1_ ?_
    with_reducible refine (spec_LeftLeaf.calls k _ _ l1 t336 _ ?side1 ?side2 A10.out).mono ?_
    (case side1 => exact z22_)
    (case side2 => exact HC1.out)
    rintro e w24 ⟨v337, rfl, ho0, hb⟩
    refine ⟨_, rfl, ?_⟩
    have n0_ := Aside0.mk (Kd.R_elder' z16_ (Kd.R_base ho0) hb)
    have n1_ := Aside0.mk (Kd.R_elder' z18_ (Kd.R_base ho0) hb)
    have n2_ := Aside0.mk (Kd.R_elder' z27_ (Kd.R_base ho0) hb)
    have n3_ := Aside0.mk (Kd.R_elder' z40_ (Kd.R_base ho0) hb)
    have n4_ := Aside0.mk (Kd.R_elder' z75_ (Kd.R_base ho0) hb)
    have n5_ := Aside0.mk (Kd.R_lower (Kd.R_new' (Kd.R_new' (Kd.R_new' (Kd.R_new' (Kd.R_new' ho0 (Kd.R_lt z16_)) (Kd.R_lt z18_)) (Kd.R_lt z27_)) (Kd.R_lt z40_)) (Kd.R_lt z75_)) (below_size z6_))
    have n6_ := Aside0.mk (blk_below z7_ hb)
    have n7_ := Aside0.mk (blk_below z29_ hb)
    have n8_ := Aside0.mk (below_step z6_ hb)
    clear HO323
    clear HO326
    clear HO329
    clear HO332
    clear HO335
    clear BK320
    clear BK339
    clear HB
    have HO323 := n0_
    have HO326 := n1_
    have HO329 := n2_
    have HO332 := n3_
    have HO335 := n4_
    have HO338 := n5_
    have BK320 := n6_
    have BK339 := n7_
    have HB := n8_
    clear n0_ n1_ n2_ n3_ n4_ n5_ n6_ n7_ n8_
    (try clear hb)
    (try clear hb2)
    (try clear hk)
    (try clear hi)
    (try clear ho0)
    obtain ⟨Ao25, co25, eo25⟩ := Kd.R_slice HO338.out
    (first | subst eo25 | (injection eo25 with f1_ f2_ f3_; have f4_ := f1_.symm; have f5_ := f3_.symm; clear f1_ f2_ f3_; subst f4_; subst f5_))
    obtain ⟨Ao26, co26, eo26⟩ := Kd.R_slice HO335.out
    (first | subst eo26 | (injection eo26 with f1_ f2_ f3_; have f4_ := f1_.symm; have f5_ := f3_.symm; clear f1_ f2_ f3_; subst f4_; subst f5_))
    obtain ⟨Ao27, co27, eo27⟩ := Kd.R_slice HO332.out
    (first | subst eo27 | (injection eo27 with f1_ f2_ f3_; have f4_ := f1_.symm; have f5_ := f3_.symm; clear f1_ f2_ f3_; subst f4_; subst f5_))
    obtain ⟨Ao28, co28, eo28⟩ := Kd.R_slice HO329.out
    (first | subst eo28 | (injection eo28 with f1_ f2_ f3_; have f4_ := f1_.symm; have f5_ := f3_.symm; clear f1_ f2_ f3_; subst f4_; subst f5_))
    refine hK.out _ _ ⟨(blk_cell BK320.out 0).trans rfl, (blk_cell BK320.out 1).trans rfl, (blk_cell BK320.out 2).trans rfl⟩ (fun hHeld => ?_)
    clear hK K
    refine zn_ rfl ?_
    refine zpg_ (i := 9) (fl_ 12 11) HT_ rfl rfl (by kernel_rfl) (fun _ _ _ h => h) (by rfl) ?_
    exact norm_ z19_ (hJ1_3_5_7_10 (.slice Ao28 t327.length co28, .slice Ao27 t330.length co27, .slice Ao26 t333.length co26, .slice Ao25 t336.length co25, gb339) _ ⟨hHeld, z175_, z176_, z177_, z178_, z179_, z173_, z7_, z29_, GW339.out, GE339.out, NB320_339.out, NB339_320.out, z6_⟩)
  ·skip
   rintro ⟨v328, v331, v334, v337⟩ w27 ⟨hS_, h0_, h1_, h2_, h3_, h4_, h5_, h6_, h7_⟩
   have n0_ : Aside0 (Kd.R (Kd.int .i64) 3 w27 w.heap.size (fun k_ => some k_ ≠ (v325 : Value).ownBlock ∧ some k_ ≠ (v328 : Value).ownBlock ∧ some k_ ≠ (v331 : Value).ownBlock ∧ some k_ ≠ (v334 : Value).ownBlock ∧ some k_ ≠ (v337 : Value).ownBlock) v322 y321) := ⟨h0_⟩
   have n1_ : Aside0 (Kd.R (Kd.int .i64) 3 w27 w.heap.size (fun k_ => some k_ ≠ (v322 : Value).ownBlock ∧ some k_ ≠ (v328 : Value).ownBlock ∧ some k_ ≠ (v331 : Value).ownBlock ∧ some k_ ≠ (v334 : Value).ownBlock ∧ some k_ ≠ (v337 : Value).ownBlock) v325 y324) := ⟨h1_⟩
   have n2_ : Aside0 (Kd.R (Kd.int .i64) 3 w27 w.heap.size (fun k_ => some k_ ≠ (v322 : Value).ownBlock ∧ some k_ ≠ (v325 : Value).ownBlock ∧ some k_ ≠ (v331 : Value).ownBlock ∧ some k_ ≠ (v334 : Value).ownBlock ∧ some k_ ≠ (v337 : Value).ownBlock) v328 t327) := ⟨h2_⟩
   have n3_ : Aside0 (Kd.R (Kd.int .i64) 3 w27 w.heap.size (fun k_ => some k_ ≠ (v322 : Value).ownBlock ∧ some k_ ≠ (v325 : Value).ownBlock ∧ some k_ ≠ (v328 : Value).ownBlock ∧ some k_ ≠ (v334 : Value).ownBlock ∧ some k_ ≠ (v337 : Value).ownBlock) v331 t330) := ⟨h3_⟩
   have n4_ : Aside0 (Kd.R (Kd.int .i64) 3 w27 w.heap.size (fun k_ => some k_ ≠ (v322 : Value).ownBlock ∧ some k_ ≠ (v325 : Value).ownBlock ∧ some k_ ≠ (v328 : Value).ownBlock ∧ some k_ ≠ (v331 : Value).ownBlock ∧ some k_ ≠ (v337 : Value).ownBlock) v334 t333) := ⟨h4_⟩
   have n5_ : Aside0 (Kd.R (Kd.int .i64) 3 w27 w.heap.size (fun k_ => some k_ ≠ (v322 : Value).ownBlock ∧ some k_ ≠ (v325 : Value).ownBlock ∧ some k_ ≠ (v328 : Value).ownBlock ∧ some k_ ≠ (v331 : Value).ownBlock ∧ some k_ ≠ (v334 : Value).ownBlock) v337 t336) := ⟨h5_⟩
   have n6_ : Aside0 (w27.heap[gb320]? = some (.cells #[.slice A2_0 l2_0.length c2_0, .slice A2_1 l2_1.length c2_1, .slice A2_2 l2_2.length c2_2] 38 (0, 0))) := ⟨h6_⟩
   have n7_ : Aside0 (Below w.heap.size w w27) := ⟨h7_⟩
   clear HO323
   clear HO326
   clear BK320
   clear HB
   clear h0_ h1_ h2_ h3_ h4_ h5_ h6_ h7_
   have HO323 := n0_
   have HO326 := n1_
   have HO329 := n2_
   have HO332 := n3_
   have HO335 := n4_
   have HO338 := n5_
   have BK320 := n6_
   have HB := n7_
   clear n0_ n1_ n2_ n3_ n4_ n5_ n6_ n7_
   have hHeld : w27.cell? ⟨gb320, 0, none⟩ = some (.slice A2_0 l2_0.length c2_0) ∧ w27.cell? ⟨gb320, 1, none⟩ = some (.slice A2_1 l2_1.length c2_1) ∧ w27.cell? ⟨gb320, 2, none⟩ = some (.slice A2_2 l2_2.length c2_2) := hS_
   obtain ⟨Ao28, co28, eo28⟩ := Kd.R_slice HO338.out
   (first | subst eo28 | (injection eo28 with f1_ f2_ f3_; have f4_ := f1_.symm; have f5_ := f3_.symm; clear f1_ f2_ f3_; subst f4_; subst f5_))
   obtain ⟨Ao29, co29, eo29⟩ := Kd.R_slice HO335.out
   (first | subst eo29 | (injection eo29 with f1_ f2_ f3_; have f4_ := f1_.symm; have f5_ := f3_.symm; clear f1_ f2_ f3_; subst f4_; subst f5_))
   obtain ⟨Ao30, co30, eo30⟩ := Kd.R_slice HO332.out
   (first | subst eo30 | (injection eo30 with f1_ f2_ f3_; have f4_ := f1_.symm; have f5_ := f3_.symm; clear f1_ f2_ f3_; subst f4_; subst f5_))
   obtain ⟨Ao31, co31, eo31⟩ := Kd.R_slice HO329.out
   (first | subst eo31 | (injection eo31 with f1_ f2_ f3_; have f4_ := f1_.symm; have f5_ := f3_.symm; clear f1_ f2_ f3_; subst f4_; subst f5_))
   refine norm_ (a' := ?_) ?_ ?_
   rotate_left
   ·simp only [putAll, Act.put, List.setIfInBounds_toArray, List.set_cons_zero, List.set_cons_succ]
    rfl
   refine one_ (i := 10) (N := some 10) (fl_ 12 11) rfl rfl (one_of HT_.out (by kernel_rfl)) (by decide) (fun K hK => ?_)
   refine box_step ?hg (N := 10) ?hd (cs := #[.slice none 0 0, .slice none 0 0, .slice none 0 0, .slice none 0 0, .slice none 0 0, .slice none 0 0, .slice none 0 0]) (t := 105) ?hr ?_; (case hd => rfl); (case hg => rfl); (case hr => exact z9_)
   intro gb339 hg w32 hbox hb
   have n0_ := Aside0.mk (Kd.R_below z16_ hb)
   have n1_ := Aside0.mk (Kd.R_below z18_ hb)
   have n2_ := Aside0.mk (Kd.R_below z27_ hb)
   have n3_ := Aside0.mk (Kd.R_below z40_ hb)
   have n4_ := Aside0.mk (Kd.R_below z75_ hb)
   have n5_ := Aside0.mk (Kd.R_below z164_ hb)
   have n6_ := Aside0.mk (blk_below z7_ hb)
   have n7_ := Aside0.mk (below_step z8_ hb)
   have n8_ := Aside0.mk (hbox)
   have n9_ := Aside0.mk ((by rw [hg]; exact (below_size z8_) : w.heap.size ≤ gb339))
   have n10_ := Aside0.mk ((by rw [hg]; exact (below_size z8_) : w.heap.size ≤ gb339))
   have n11_ := Aside0.mk ((by rw [hg]; exact Nat.ne_of_lt (blk_lt (g := gb320) (o := .cells #[.slice A2_0 l2_0.length c2_0, .slice A2_1 l2_1.length c2_1, .slice A2_2 l2_2.length c2_2] 38 (0, 0)) z7_) : gb320 ≠ gb339))
   have n12_ := Aside0.mk ((by rw [hg]; exact Nat.ne_of_gt (blk_lt (g := gb320) (o := .cells #[.slice A2_0 l2_0.length c2_0, .slice A2_1 l2_1.length c2_1, .slice A2_2 l2_2.length c2_2] 38 (0, 0)) z7_) : gb339 ≠ gb320))
   clear HO323
   clear HO326
   clear HO329
   clear HO332
   clear HO335
   clear HO338
   clear BK320
   clear HB
   have HO323 := n0_
   have HO326 := n1_
   have HO329 := n2_
   have HO332 := n3_
   have HO335 := n4_
   have HO338 := n5_
   have BK320 := n6_
   have HB := n7_
   have BK339 := n8_
   have GW339 := n9_
   have GE339 := n10_
   have NB320_339 := n11_
   have NB339_320 := n12_
   clear n0_ n1_ n2_ n3_ n4_ n5_ n6_ n7_ n8_ n9_ n10_ n11_ n12_
   clear hb hbox hg
   refine hK.out _ _ ⟨(blk_cell BK320.out 0).trans rfl, (blk_cell BK320.out 1).trans rfl, (blk_cell BK320.out 2).trans rfl⟩ (fun hHeld => ?_)
   clear hK K
   refine zn_ rfl ?_
   exact norm_ z19_ (hJ1_3_5_7_10 (.slice Ao31 t327.length co31, .slice Ao30 t330.length co30, .slice Ao29 t333.length co29, .slice Ao28 t336.length co28, gb339) _ ⟨hHeld, z16_, z18_, z27_, z40_, z75_, z164_, z7_, z29_, GW339.out, GE339.out, NB320_339.out, NB339_320.out, z6_⟩)
 rintro ⟨v328, v331, v334, v337, gb339⟩ w28 ⟨hS_, h0_, h1_, h2_, h3_, h4_, h5_, h6_, h7_, h8_, h9_, h10_, h11_, h12_⟩
 have n0_ : Aside0 (Kd.R (Kd.int .i64) 3 w28 w.heap.size (fun k_ => some k_ ≠ (v325 : Value).ownBlock ∧ some k_ ≠ (v328 : Value).ownBlock ∧ some k_ ≠ (v331 : Value).ownBlock ∧ some k_ ≠ (v334 : Value).ownBlock ∧ some k_ ≠ (v337 : Value).ownBlock) v322 y321) := ⟨h0_⟩
 have n1_ : Aside0 (Kd.R (Kd.int .i64) 3 w28 w.heap.size (fun k_ => some k_ ≠ (v322 : Value).ownBlock ∧ some k_ ≠ (v328 : Value).ownBlock ∧ some k_ ≠ (v331 : Value).ownBlock ∧ some k_ ≠ (v334 : Value).ownBlock ∧ some k_ ≠ (v337 : Value).ownBlock) v325 y324) := ⟨h1_⟩
 have n2_ : Aside0 (Kd.R (Kd.int .i64) 3 w28 w.heap.size (fun k_ => some k_ ≠ (v322 : Value).ownBlock ∧ some k_ ≠ (v325 : Value).ownBlock ∧ some k_ ≠ (v331 : Value).ownBlock ∧ some k_ ≠ (v334 : Value).ownBlock ∧ some k_ ≠ (v337 : Value).ownBlock) v328 t327) := ⟨h2_⟩
 have n3_ : Aside0 (Kd.R (Kd.int .i64) 3 w28 w.heap.size (fun k_ => some k_ ≠ (v322 : Value).ownBlock ∧ some k_ ≠ (v325 : Value).ownBlock ∧ some k_ ≠ (v328 : Value).ownBlock ∧ some k_ ≠ (v334 : Value).ownBlock ∧ some k_ ≠ (v337 : Value).ownBlock) v331 t330) := ⟨h3_⟩
 have n4_ : Aside0 (Kd.R (Kd.int .i64) 3 w28 w.heap.size (fun k_ => some k_ ≠ (v322 : Value).ownBlock ∧ some k_ ≠ (v325 : Value).ownBlock ∧ some k_ ≠ (v328 : Value).ownBlock ∧ some k_ ≠ (v331 : Value).ownBlock ∧ some k_ ≠ (v337 : Value).ownBlock) v334 t333) := ⟨h4_⟩
 have n5_ : Aside0 (Kd.R (Kd.int .i64) 3 w28 w.heap.size (fun k_ => some k_ ≠ (v322 : Value).ownBlock ∧ some k_ ≠ (v325 : Value).ownBlock ∧ some k_ ≠ (v328 : Value).ownBlock ∧ some k_ ≠ (v331 : Value).ownBlock ∧ some k_ ≠ (v334 : Value).ownBlock) v337 t336) := ⟨h5_⟩
 have n6_ : Aside0 (w28.heap[gb320]? = some (.cells #[.slice A2_0 l2_0.length c2_0, .slice A2_1 l2_1.length c2_1, .slice A2_2 l2_2.length c2_2] 38 (0, 0))) := ⟨h6_⟩
 have n7_ : Aside0 (w28.heap[gb339]? = some (.cells #[.slice none 0 0, .slice none 0 0, .slice none 0 0, .slice none 0 0, .slice none 0 0, .slice none 0 0, .slice none 0 0] 105 (0, 0))) := ⟨h7_⟩
 have n8_ : Aside0 (w.heap.size ≤ gb339) := ⟨h8_⟩
 have n9_ : Aside0 (w.heap.size ≤ gb339) := ⟨h9_⟩
 have n10_ : Aside0 (gb320 ≠ gb339) := ⟨h10_⟩
 have n11_ : Aside0 (gb339 ≠ gb320) := ⟨h11_⟩
 have n12_ : Aside0 (Below w.heap.size w w28) := ⟨h12_⟩
 clear HO323
 clear HO326
 clear BK320
 clear HB
 clear h0_ h1_ h2_ h3_ h4_ h5_ h6_ h7_ h8_ h9_ h10_ h11_ h12_
 have HO323 := n0_
 have HO326 := n1_
 have HO329 := n2_
 have HO332 := n3_
 have HO335 := n4_
 have HO338 := n5_
 have BK320 := n6_
 have BK339 := n7_
 have GW339 := n8_
 have GE339 := n9_
 have NB320_339 := n10_
 have NB339_320 := n11_
 have HB := n12_
 clear n0_ n1_ n2_ n3_ n4_ n5_ n6_ n7_ n8_ n9_ n10_ n11_ n12_
 have hHeld : w28.cell? ⟨gb320, 0, none⟩ = some (.slice A2_0 l2_0.length c2_0) ∧ w28.cell? ⟨gb320, 1, none⟩ = some (.slice A2_1 l2_1.length c2_1) ∧ w28.cell? ⟨gb320, 2, none⟩ = some (.slice A2_2 l2_2.length c2_2) := hS_
 obtain ⟨Ao29, co29, eo29⟩ := Kd.R_slice HO338.out
 (first | subst eo29 | (injection eo29 with f1_ f2_ f3_; have f4_ := f1_.symm; have f5_ := f3_.symm; clear f1_ f2_ f3_; subst f4_; subst f5_))
 obtain ⟨Ao30, co30, eo30⟩ := Kd.R_slice HO335.out
 (first | subst eo30 | (injection eo30 with f1_ f2_ f3_; have f4_ := f1_.symm; have f5_ := f3_.symm; clear f1_ f2_ f3_; subst f4_; subst f5_))
 obtain ⟨Ao31, co31, eo31⟩ := Kd.R_slice HO332.out
 (first | subst eo31 | (injection eo31 with f1_ f2_ f3_; have f4_ := f1_.symm; have f5_ := f3_.symm; clear f1_ f2_ f3_; subst f4_; subst f5_))
 obtain ⟨Ao32, co32, eo32⟩ := Kd.R_slice HO329.out
 (first | subst eo32 | (injection eo32 with f1_ f2_ f3_; have f4_ := f1_.symm; have f5_ := f3_.symm; clear f1_ f2_ f3_; subst f4_; subst f5_))
 refine norm_ (a' := ?_) ?_ ?_
 rotate_left
 ·simp only [putAll, Act.put, List.setIfInBounds_toArray, List.set_cons_zero, List.set_cons_succ]
  rfl
 refine one_ (i := 11) (N := none) (fl_ 12 12) rfl rfl (one_of HT_.out (by kernel_rfl)) (by decide) (fun K hK => ?_)
 have hs33 : w28.cell? ⟨gb339, 0, none⟩ = some (.slice none 0 0) := (blk_cell BK339.out 0).trans rfl
 have hfs33 := blk_frozen BK339.out 0
 have hns33_0 := NB320_339.out
 have hms33_0 := NB339_320.out
 have hs34 : w28.cell? ⟨gb339, 1, none⟩ = some (.slice none 0 0) := (blk_cell BK339.out 1).trans rfl
 have hfs34 := blk_frozen BK339.out 1
 have hns34_0 := NB320_339.out
 have hms34_0 := NB339_320.out
 have hs35 : w28.cell? ⟨gb339, 2, none⟩ = some (.slice none 0 0) := (blk_cell BK339.out 2).trans rfl
 have hfs35 := blk_frozen BK339.out 2
 have hns35_0 := NB320_339.out
 have hms35_0 := NB339_320.out
 have hs36 : w28.cell? ⟨gb339, 3, none⟩ = some (.slice none 0 0) := (blk_cell BK339.out 3).trans rfl
 have hfs36 := blk_frozen BK339.out 3
 have hns36_0 := NB320_339.out
 have hms36_0 := NB339_320.out
 have hs37 : w28.cell? ⟨gb339, 4, none⟩ = some (.slice none 0 0) := (blk_cell BK339.out 4).trans rfl
 have hfs37 := blk_frozen BK339.out 4
 have hns37_0 := NB320_339.out
 have hms37_0 := NB339_320.out
 have hs38 : w28.cell? ⟨gb339, 5, none⟩ = some (.slice none 0 0) := (blk_cell BK339.out 5).trans rfl
 have hfs38 := blk_frozen BK339.out 5
 have hns38_0 := NB320_339.out
 have hms38_0 := NB339_320.out
 have hs39 : w28.cell? ⟨gb339, 6, none⟩ = some (.slice none 0 0) := (blk_cell BK339.out 6).trans rfl
 have hfs39 := blk_frozen BK339.out 6
 have hns39_0 := NB320_339.out
 have hms39_0 := NB339_320.out
 refine skip_ (w1 := ?_) (by rfl) rfl ?_ ?_
 rotate_left
 ·go_simp
  rfl
 refine hK.out _ _ ⟨((cell_far (p := ⟨gb339, _, none⟩) NB320_339.out _).trans (((cell_far (p := ⟨gb339, _, none⟩) NB320_339.out _).trans (((cell_far (p := ⟨gb339, _, none⟩) NB320_339.out _).trans (((cell_far (p := ⟨gb339, _, none⟩) NB320_339.out _).trans (((cell_far (p := ⟨gb339, _, none⟩) NB320_339.out _).trans (((cell_far (p := ⟨gb339, _, none⟩) NB320_339.out _).trans (((cell_far (p := ⟨gb339, _, none⟩) NB320_339.out _).trans (hHeld.1)))))))))))))), ((cell_far (p := ⟨gb339, _, none⟩) NB320_339.out _).trans (((cell_far (p := ⟨gb339, _, none⟩) NB320_339.out _).trans (((cell_far (p := ⟨gb339, _, none⟩) NB320_339.out _).trans (((cell_far (p := ⟨gb339, _, none⟩) NB320_339.out _).trans (((cell_far (p := ⟨gb339, _, none⟩) NB320_339.out _).trans (((cell_far (p := ⟨gb339, _, none⟩) NB320_339.out _).trans (((cell_far (p := ⟨gb339, _, none⟩) NB320_339.out _).trans (hHeld.2.1)))))))))))))), ((cell_far (p := ⟨gb339, _, none⟩) NB320_339.out _).trans (((cell_far (p := ⟨gb339, _, none⟩) NB320_339.out _).trans (((cell_far (p := ⟨gb339, _, none⟩) NB320_339.out _).trans (((cell_far (p := ⟨gb339, _, none⟩) NB320_339.out _).trans (((cell_far (p := ⟨gb339, _, none⟩) NB320_339.out _).trans (((cell_far (p := ⟨gb339, _, none⟩) NB320_339.out _).trans (((cell_far (p := ⟨gb339, _, none⟩) NB320_339.out _).trans (hHeld.2.2))))))))))))))⟩ (fun hHeld => ?_)
 clear hK K
 refine done_ (done_of HT_.out (by kernel_rfl)) ?_
 try go_wp2_with (first | ((with_reducible refine gate_callee (f := 82) rfl ?_); refine goesL_ (some 33) rfl rfl Try.func82 (by kernel_rfl) rfl #[.slice A0 l0.length c0] rfl z1_ ?_; (with_reducible refine (spec_KeyRoots.calls k _ _ l0 t340 _ ?side1 ?side2 A11.out).mono ?_); (case side1 => exact Kd.C_below HR0.out z6_); (case side2 => exact HC0.out); rintro e w40 ⟨v341, rfl, ho0, hb⟩; refine ⟨_, rfl, ?_⟩; have HO342 := Aside0.mk (Kd.R_lower (Kd.R_new' (Kd.R_new' (Kd.R_new' (Kd.R_new' (Kd.R_new' (Kd.R_new' ho0 (Kd.R_lt z47_)) (Kd.R_lt z48_)) (Kd.R_lt z49_)) (Kd.R_lt z50_)) (Kd.R_lt z51_)) (Kd.R_lt z52_)) (below_size z6_)); replace HO323 := Aside0.mk (Kd.R_elder' z47_ (Kd.R_base ho0) hb); replace HO326 := Aside0.mk (Kd.R_elder' z48_ (Kd.R_base ho0) hb); replace HO329 := Aside0.mk (Kd.R_elder' z49_ (Kd.R_base ho0) hb); replace HO332 := Aside0.mk (Kd.R_elder' z50_ (Kd.R_base ho0) hb); replace HO335 := Aside0.mk (Kd.R_elder' z51_ (Kd.R_base ho0) hb); replace HO338 := Aside0.mk (Kd.R_elder' z52_ (Kd.R_base ho0) hb); replace BK320 := Aside0.mk (blk_below (g := gb320) (o := .cells #[.slice A2_0 l2_0.length c2_0, .slice A2_1 l2_1.length c2_1, .slice A2_2 l2_2.length c2_2] 38 (0, 0)) (by (with_reducible repeat (first | refine blk_drewN ?_ _ | refine blk_drew ?_ | refine blk_alloc ?_ _)); refine blk_far ?_ NB320_339.out _; (with_reducible repeat (first | refine blk_drewN ?_ _ | refine blk_drew ?_ | refine blk_alloc ?_ _)); refine blk_far ?_ NB320_339.out _; (with_reducible repeat (first | refine blk_drewN ?_ _ | refine blk_drew ?_ | refine blk_alloc ?_ _)); refine blk_far ?_ NB320_339.out _; (with_reducible repeat (first | refine blk_drewN ?_ _ | refine blk_drew ?_ | refine blk_alloc ?_ _)); refine blk_far ?_ NB320_339.out _; (with_reducible repeat (first | refine blk_drewN ?_ _ | refine blk_drew ?_ | refine blk_alloc ?_ _)); refine blk_far ?_ NB320_339.out _; (with_reducible repeat (first | refine blk_drewN ?_ _ | refine blk_drew ?_ | refine blk_alloc ?_ _)); refine blk_far ?_ NB320_339.out _; (with_reducible repeat (first | refine blk_drewN ?_ _ | refine blk_drew ?_ | refine blk_alloc ?_ _)); refine blk_far ?_ NB320_339.out _; (with_reducible repeat (first | refine blk_drewN ?_ _ | refine blk_drew ?_ | refine blk_alloc ?_ _)); exact BK320.out) hb); replace BK339 := Aside0.mk (blk_below (g := gb339) (o := .cells #[.slice Ao32 t327.length co32, .slice Ao31 t330.length co31, .slice Ao30 t333.length co30, .slice Ao29 t336.length co29, .slice A2_0 l2_0.length c2_0, .slice A2_1 l2_1.length c2_1, .slice A2_2 l2_2.length c2_2] 105 (0, 0)) (by (with_reducible repeat (first | refine blk_drewN ?_ _ | refine blk_drew ?_ | refine blk_alloc ?_ _)); refine blk_put (cs := #[.slice Ao32 t327.length co32, .slice Ao31 t330.length co31, .slice Ao30 t333.length co30, .slice Ao29 t336.length co29, .slice A2_0 l2_0.length c2_0, .slice A2_1 l2_1.length c2_1, .slice none 0 0]) ?_ 6 _ rfl; (with_reducible repeat (first | refine blk_drewN ?_ _ | refine blk_drew ?_ | refine blk_alloc ?_ _)); refine blk_put (cs := #[.slice Ao32 t327.length co32, .slice Ao31 t330.length co31, .slice Ao30 t333.length co30, .slice Ao29 t336.length co29, .slice A2_0 l2_0.length c2_0, .slice none 0 0, .slice none 0 0]) ?_ 5 _ rfl; (with_reducible repeat (first | refine blk_drewN ?_ _ | refine blk_drew ?_ | refine blk_alloc ?_ _)); refine blk_put (cs := #[.slice Ao32 t327.length co32, .slice Ao31 t330.length co31, .slice Ao30 t333.length co30, .slice Ao29 t336.length co29, .slice none 0 0, .slice none 0 0, .slice none 0 0]) ?_ 4 _ rfl; (with_reducible repeat (first | refine blk_drewN ?_ _ | refine blk_drew ?_ | refine blk_alloc ?_ _)); refine blk_put (cs := #[.slice Ao32 t327.length co32, .slice Ao31 t330.length co31, .slice Ao30 t333.length co30, .slice none 0 0, .slice none 0 0, .slice none 0 0, .slice none 0 0]) ?_ 3 _ rfl; (with_reducible repeat (first | refine blk_drewN ?_ _ | refine blk_drew ?_ | refine blk_alloc ?_ _)); refine blk_put (cs := #[.slice Ao32 t327.length co32, .slice Ao31 t330.length co31, .slice none 0 0, .slice none 0 0, .slice none 0 0, .slice none 0 0, .slice none 0 0]) ?_ 2 _ rfl; (with_reducible repeat (first | refine blk_drewN ?_ _ | refine blk_drew ?_ | refine blk_alloc ?_ _)); refine blk_put (cs := #[.slice Ao32 t327.length co32, .slice none 0 0, .slice none 0 0, .slice none 0 0, .slice none 0 0, .slice none 0 0, .slice none 0 0]) ?_ 1 _ rfl; (with_reducible repeat (first | refine blk_drewN ?_ _ | refine blk_drew ?_ | refine blk_alloc ?_ _)); refine blk_put (cs := #[.slice none 0 0, .slice none 0 0, .slice none 0 0, .slice none 0 0, .slice none 0 0, .slice none 0 0, .slice none 0 0]) ?_ 0 _ rfl; (with_reducible repeat (first | refine blk_drewN ?_ _ | refine blk_drew ?_ | refine blk_alloc ?_ _)); exact BK339.out) hb); replace HB := Aside0.mk (below_step z6_ hb); (try clear hb ho0)) | ((with_reducible refine gate_callee (f := 82) rfl ?_); refine goesL_ (some 35) rfl rfl Try.func82 (by kernel_rfl) rfl #[.slice A1 l1.length c1] rfl z1_ ?_; (with_reducible refine (spec_KeyRoots.calls k _ _ l1 t343 _ ?side1 ?side2 A12.out).mono ?_); (case side1 => exact z22_); (case side2 => exact HC1.out); rintro e w41 ⟨v344, rfl, ho0, hb⟩; refine ⟨_, rfl, ?_⟩; have HO345 := Aside0.mk (Kd.R_lower (Kd.R_new' (Kd.R_new' (Kd.R_new' (Kd.R_new' (Kd.R_new' (Kd.R_new' (Kd.R_new' ho0 (Kd.R_lt z16_)) (Kd.R_lt z18_)) (Kd.R_lt z27_)) (Kd.R_lt z40_)) (Kd.R_lt z75_)) (Kd.R_lt z164_)) (Kd.R_lt z223_)) (below_size z6_)); replace HO323 := Aside0.mk (Kd.R_elder' z16_ (Kd.R_base ho0) hb); replace HO326 := Aside0.mk (Kd.R_elder' z18_ (Kd.R_base ho0) hb); replace HO329 := Aside0.mk (Kd.R_elder' z27_ (Kd.R_base ho0) hb); replace HO332 := Aside0.mk (Kd.R_elder' z40_ (Kd.R_base ho0) hb); replace HO335 := Aside0.mk (Kd.R_elder' z75_ (Kd.R_base ho0) hb); replace HO338 := Aside0.mk (Kd.R_elder' z164_ (Kd.R_base ho0) hb); replace HO342 := Aside0.mk (Kd.R_elder' z223_ (Kd.R_base ho0) hb); replace BK320 := Aside0.mk (blk_below z7_ hb); replace BK339 := Aside0.mk (blk_below z29_ hb); replace HB := Aside0.mk (below_step z6_ hb); (try clear hb ho0)))
 go_loopg [9, 13] k (fun kq v9 v13 w' => ∃ (x8_1 : List Int) (x9_1 : List Int) (x13_1 : Int), v13 = .int .i64 x13_1 ∧ Aside0 (spec_l8All.l0 kq x8_1 x9_1 t340 t343 x13_1 t327 t330 t333 t336 l2_0 l2_1 l2_2 = some (r1, r2)) ∧ Aside0 (kq ≤ k) ∧ Aside0 (Kd.R (Kd.int .i64) 3 w' w.heap.size (fun k_ => some k_ ≠ (v9 : Value).ownBlock ∧ some k_ ≠ (v341 : Value).ownBlock ∧ some k_ ≠ (v344 : Value).ownBlock ∧ some k_ ≠ ((.slice Ao32 t327.length co32) : Value).ownBlock ∧ some k_ ≠ ((.slice Ao31 t330.length co31) : Value).ownBlock ∧ some k_ ≠ ((.slice Ao30 t333.length co30) : Value).ownBlock ∧ some k_ ≠ ((.slice Ao29 t336.length co29) : Value).ownBlock) v322 x8_1) ∧ Aside0 (Kd.R (Kd.int .i64) 3 w' w.heap.size (fun k_ => some k_ ≠ (v322 : Value).ownBlock ∧ some k_ ≠ (v341 : Value).ownBlock ∧ some k_ ≠ (v344 : Value).ownBlock ∧ some k_ ≠ ((.slice Ao32 t327.length co32) : Value).ownBlock ∧ some k_ ≠ ((.slice Ao31 t330.length co31) : Value).ownBlock ∧ some k_ ≠ ((.slice Ao30 t333.length co30) : Value).ownBlock ∧ some k_ ≠ ((.slice Ao29 t336.length co29) : Value).ownBlock) v9 x9_1) ∧ Aside0 (Kd.R (Kd.int .i64) 3 w' w.heap.size (fun k_ => some k_ ≠ (v322 : Value).ownBlock ∧ some k_ ≠ (v9 : Value).ownBlock ∧ some k_ ≠ (v344 : Value).ownBlock ∧ some k_ ≠ ((.slice Ao32 t327.length co32) : Value).ownBlock ∧ some k_ ≠ ((.slice Ao31 t330.length co31) : Value).ownBlock ∧ some k_ ≠ ((.slice Ao30 t333.length co30) : Value).ownBlock ∧ some k_ ≠ ((.slice Ao29 t336.length co29) : Value).ownBlock) v341 t340) ∧ Aside0 (Kd.R (Kd.int .i64) 3 w' w.heap.size (fun k_ => some k_ ≠ (v322 : Value).ownBlock ∧ some k_ ≠ (v9 : Value).ownBlock ∧ some k_ ≠ (v341 : Value).ownBlock ∧ some k_ ≠ ((.slice Ao32 t327.length co32) : Value).ownBlock ∧ some k_ ≠ ((.slice Ao31 t330.length co31) : Value).ownBlock ∧ some k_ ≠ ((.slice Ao30 t333.length co30) : Value).ownBlock ∧ some k_ ≠ ((.slice Ao29 t336.length co29) : Value).ownBlock) v344 t343) ∧ Aside0 (Kd.R (Kd.int .i64) 3 w' w.heap.size (fun k_ => some k_ ≠ (v322 : Value).ownBlock ∧ some k_ ≠ (v9 : Value).ownBlock ∧ some k_ ≠ (v341 : Value).ownBlock ∧ some k_ ≠ (v344 : Value).ownBlock ∧ some k_ ≠ ((.slice Ao31 t330.length co31) : Value).ownBlock ∧ some k_ ≠ ((.slice Ao30 t333.length co30) : Value).ownBlock ∧ some k_ ≠ ((.slice Ao29 t336.length co29) : Value).ownBlock) (.slice Ao32 t327.length co32) t327) ∧ Aside0 (Kd.R (Kd.int .i64) 3 w' w.heap.size (fun k_ => some k_ ≠ (v322 : Value).ownBlock ∧ some k_ ≠ (v9 : Value).ownBlock ∧ some k_ ≠ (v341 : Value).ownBlock ∧ some k_ ≠ (v344 : Value).ownBlock ∧ some k_ ≠ ((.slice Ao32 t327.length co32) : Value).ownBlock ∧ some k_ ≠ ((.slice Ao30 t333.length co30) : Value).ownBlock ∧ some k_ ≠ ((.slice Ao29 t336.length co29) : Value).ownBlock) (.slice Ao31 t330.length co31) t330) ∧ Aside0 (Kd.R (Kd.int .i64) 3 w' w.heap.size (fun k_ => some k_ ≠ (v322 : Value).ownBlock ∧ some k_ ≠ (v9 : Value).ownBlock ∧ some k_ ≠ (v341 : Value).ownBlock ∧ some k_ ≠ (v344 : Value).ownBlock ∧ some k_ ≠ ((.slice Ao32 t327.length co32) : Value).ownBlock ∧ some k_ ≠ ((.slice Ao31 t330.length co31) : Value).ownBlock ∧ some k_ ≠ ((.slice Ao29 t336.length co29) : Value).ownBlock) (.slice Ao30 t333.length co30) t333) ∧ Aside0 (Kd.R (Kd.int .i64) 3 w' w.heap.size (fun k_ => some k_ ≠ (v322 : Value).ownBlock ∧ some k_ ≠ (v9 : Value).ownBlock ∧ some k_ ≠ (v341 : Value).ownBlock ∧ some k_ ≠ (v344 : Value).ownBlock ∧ some k_ ≠ ((.slice Ao32 t327.length co32) : Value).ownBlock ∧ some k_ ≠ ((.slice Ao31 t330.length co31) : Value).ownBlock ∧ some k_ ≠ ((.slice Ao30 t333.length co30) : Value).ownBlock) (.slice Ao29 t336.length co29) t336) ∧ Aside0 (w'.heap[gb320]? = some (.cells #[(.slice A2_0 l2_0.length c2_0), (.slice A2_1 l2_1.length c2_1), (.slice A2_2 l2_2.length c2_2)] 38 (0, 0))) ∧ Aside0 (w'.heap[gb339]? = some (.cells #[(.slice Ao32 t327.length co32), (.slice Ao31 t330.length co31), (.slice Ao30 t333.length co30), (.slice Ao29 t336.length co29), (.slice A2_0 l2_0.length c2_0), (.slice A2_1 l2_1.length c2_1), (.slice A2_2 l2_2.length c2_2)] 105 (0, 0))) ∧ Aside0 (Below w.heap.size w w'))
 case atStart => exact ⟨(y321), (y324), (0), z4_, H', ⟨Nat.le_refl _⟩, ⟨by (with_reducible repeat (first | apply Kd.R_alloc | apply Kd.R_drewN | apply Kd.R_drew)); exact Kd.R_mono HO323.out (fun _ hk => ⟨hk.1.1.1, ⟨hk.1.2, ⟨hk.2, ⟨hk.1.1.2.1, ⟨hk.1.1.2.2.1, ⟨hk.1.1.2.2.2.1, hk.1.1.2.2.2.2⟩⟩⟩⟩⟩⟩)⟩, ⟨by (with_reducible repeat (first | apply Kd.R_alloc | apply Kd.R_drewN | apply Kd.R_drew)); exact Kd.R_mono HO326.out (fun _ hk => ⟨hk.1.1.1, ⟨hk.1.2, ⟨hk.2, ⟨hk.1.1.2.1, ⟨hk.1.1.2.2.1, ⟨hk.1.1.2.2.2.1, hk.1.1.2.2.2.2⟩⟩⟩⟩⟩⟩)⟩, ⟨by (with_reducible repeat (first | apply Kd.R_alloc | apply Kd.R_drewN | apply Kd.R_drew)); exact Kd.R_mono HO342.out (fun _ hk => ⟨hk.1.1.1.1.1.1.2, ⟨hk.1.1.1.1.1.2, ⟨hk.2, ⟨hk.1.1.1.1.2, ⟨hk.1.1.1.2, ⟨hk.1.1.2, hk.1.2⟩⟩⟩⟩⟩⟩)⟩, ⟨by (with_reducible repeat (first | apply Kd.R_alloc | apply Kd.R_drewN | apply Kd.R_drew)); exact Kd.R_mono HO345.out (fun _ hk => ⟨hk.1.1.1.1.1.1.2, ⟨hk.1.1.1.1.1.2, ⟨hk.2, ⟨hk.1.1.1.1.2, ⟨hk.1.1.1.2, ⟨hk.1.1.2, hk.1.2⟩⟩⟩⟩⟩⟩)⟩, ⟨by (with_reducible repeat (first | apply Kd.R_alloc | apply Kd.R_drewN | apply Kd.R_drew)); exact Kd.R_mono HO329.out (fun _ hk => ⟨hk.1.1.1, ⟨hk.1.1.2.1, ⟨hk.1.2, ⟨hk.2, ⟨hk.1.1.2.2.1, ⟨hk.1.1.2.2.2.1, hk.1.1.2.2.2.2⟩⟩⟩⟩⟩⟩)⟩, ⟨by (with_reducible repeat (first | apply Kd.R_alloc | apply Kd.R_drewN | apply Kd.R_drew)); exact Kd.R_mono HO332.out (fun _ hk => ⟨hk.1.1.1, ⟨hk.1.1.2.1, ⟨hk.1.2, ⟨hk.2, ⟨hk.1.1.2.2.1, ⟨hk.1.1.2.2.2.1, hk.1.1.2.2.2.2⟩⟩⟩⟩⟩⟩)⟩, ⟨by (with_reducible repeat (first | apply Kd.R_alloc | apply Kd.R_drewN | apply Kd.R_drew)); exact Kd.R_mono HO335.out (fun _ hk => ⟨hk.1.1.1, ⟨hk.1.1.2.1, ⟨hk.1.2, ⟨hk.2, ⟨hk.1.1.2.2.1, ⟨hk.1.1.2.2.2.1, hk.1.1.2.2.2.2⟩⟩⟩⟩⟩⟩)⟩, ⟨by (with_reducible repeat (first | apply Kd.R_alloc | apply Kd.R_drewN | apply Kd.R_drew)); exact Kd.R_mono HO338.out (fun _ hk => ⟨hk.1.1.1, ⟨hk.1.1.2.1, ⟨hk.1.2, ⟨hk.2, ⟨hk.1.1.2.2.1, ⟨hk.1.1.2.2.2.1, hk.1.1.2.2.2.2⟩⟩⟩⟩⟩⟩)⟩, ⟨z7_⟩, ⟨z29_⟩, ⟨z6_⟩⟩
 case round =>
  clear H'
  obtain ⟨x8_1, x9_1, x13_1, rfl, HA, HK1, HO_8, HO_9, HO_11, HO_12, HO_340000, HO_340001, HO_340002, HO_340003, BK320, BK339, HB⟩ := hrel
  cases gk with
  | zero => exact absurd HA.out (by simp [spec_l8All.l0])
  | succ k1 =>
   have H := HA.out
   clear HA
   simp only [spec_l8All.l0] at H
   by_cases c42 : x13_1 < (t340.length : Int)
   ·rw [if_pos c42] at H
    have c42b0 := decide_eq_true c42
    clear c42
    have H' := Aside0.mk H
    clear H
    obtain ⟨Ao43, co43, eo43⟩ := Kd.R_slice HO_11.out
    subst eo43
    go_wp2
    go_loopg [9, 14] k1 (fun kq v9 v14 w' => ∃ (x8_2 : List Int) (x9_2 : List Int) (x14_2 : Int), v14 = .int .i64 x14_2 ∧ Aside0 (spec_l8All.l1 kq x8_2 x9_2 t340 t343 x13_1 x14_2 t327 t330 t333 t336 l2_0 l2_1 l2_2 = some (r1, r2)) ∧ Aside0 (kq ≤ k1) ∧ Aside0 (Kd.R (Kd.int .i64) 3 w' w.heap.size (fun k_ => some k_ ≠ (v9 : Value).ownBlock ∧ some k_ ≠ ((.slice Ao43 t340.length co43) : Value).ownBlock ∧ some k_ ≠ (v344 : Value).ownBlock ∧ some k_ ≠ ((.slice Ao32 t327.length co32) : Value).ownBlock ∧ some k_ ≠ ((.slice Ao31 t330.length co31) : Value).ownBlock ∧ some k_ ≠ ((.slice Ao30 t333.length co30) : Value).ownBlock ∧ some k_ ≠ ((.slice Ao29 t336.length co29) : Value).ownBlock) v322 x8_2) ∧ Aside0 (Kd.R (Kd.int .i64) 3 w' w.heap.size (fun k_ => some k_ ≠ (v322 : Value).ownBlock ∧ some k_ ≠ ((.slice Ao43 t340.length co43) : Value).ownBlock ∧ some k_ ≠ (v344 : Value).ownBlock ∧ some k_ ≠ ((.slice Ao32 t327.length co32) : Value).ownBlock ∧ some k_ ≠ ((.slice Ao31 t330.length co31) : Value).ownBlock ∧ some k_ ≠ ((.slice Ao30 t333.length co30) : Value).ownBlock ∧ some k_ ≠ ((.slice Ao29 t336.length co29) : Value).ownBlock) v9 x9_2) ∧ Aside0 (Kd.R (Kd.int .i64) 3 w' w.heap.size (fun k_ => some k_ ≠ (v322 : Value).ownBlock ∧ some k_ ≠ (v9 : Value).ownBlock ∧ some k_ ≠ (v344 : Value).ownBlock ∧ some k_ ≠ ((.slice Ao32 t327.length co32) : Value).ownBlock ∧ some k_ ≠ ((.slice Ao31 t330.length co31) : Value).ownBlock ∧ some k_ ≠ ((.slice Ao30 t333.length co30) : Value).ownBlock ∧ some k_ ≠ ((.slice Ao29 t336.length co29) : Value).ownBlock) (.slice Ao43 t340.length co43) t340) ∧ Aside0 (Kd.R (Kd.int .i64) 3 w' w.heap.size (fun k_ => some k_ ≠ (v322 : Value).ownBlock ∧ some k_ ≠ (v9 : Value).ownBlock ∧ some k_ ≠ ((.slice Ao43 t340.length co43) : Value).ownBlock ∧ some k_ ≠ ((.slice Ao32 t327.length co32) : Value).ownBlock ∧ some k_ ≠ ((.slice Ao31 t330.length co31) : Value).ownBlock ∧ some k_ ≠ ((.slice Ao30 t333.length co30) : Value).ownBlock ∧ some k_ ≠ ((.slice Ao29 t336.length co29) : Value).ownBlock) v344 t343) ∧ Aside0 (Kd.R (Kd.int .i64) 3 w' w.heap.size (fun k_ => some k_ ≠ (v322 : Value).ownBlock ∧ some k_ ≠ (v9 : Value).ownBlock ∧ some k_ ≠ ((.slice Ao43 t340.length co43) : Value).ownBlock ∧ some k_ ≠ (v344 : Value).ownBlock ∧ some k_ ≠ ((.slice Ao31 t330.length co31) : Value).ownBlock ∧ some k_ ≠ ((.slice Ao30 t333.length co30) : Value).ownBlock ∧ some k_ ≠ ((.slice Ao29 t336.length co29) : Value).ownBlock) (.slice Ao32 t327.length co32) t327) ∧ Aside0 (Kd.R (Kd.int .i64) 3 w' w.heap.size (fun k_ => some k_ ≠ (v322 : Value).ownBlock ∧ some k_ ≠ (v9 : Value).ownBlock ∧ some k_ ≠ ((.slice Ao43 t340.length co43) : Value).ownBlock ∧ some k_ ≠ (v344 : Value).ownBlock ∧ some k_ ≠ ((.slice Ao32 t327.length co32) : Value).ownBlock ∧ some k_ ≠ ((.slice Ao30 t333.length co30) : Value).ownBlock ∧ some k_ ≠ ((.slice Ao29 t336.length co29) : Value).ownBlock) (.slice Ao31 t330.length co31) t330) ∧ Aside0 (Kd.R (Kd.int .i64) 3 w' w.heap.size (fun k_ => some k_ ≠ (v322 : Value).ownBlock ∧ some k_ ≠ (v9 : Value).ownBlock ∧ some k_ ≠ ((.slice Ao43 t340.length co43) : Value).ownBlock ∧ some k_ ≠ (v344 : Value).ownBlock ∧ some k_ ≠ ((.slice Ao32 t327.length co32) : Value).ownBlock ∧ some k_ ≠ ((.slice Ao31 t330.length co31) : Value).ownBlock ∧ some k_ ≠ ((.slice Ao29 t336.length co29) : Value).ownBlock) (.slice Ao30 t333.length co30) t333) ∧ Aside0 (Kd.R (Kd.int .i64) 3 w' w.heap.size (fun k_ => some k_ ≠ (v322 : Value).ownBlock ∧ some k_ ≠ (v9 : Value).ownBlock ∧ some k_ ≠ ((.slice Ao43 t340.length co43) : Value).ownBlock ∧ some k_ ≠ (v344 : Value).ownBlock ∧ some k_ ≠ ((.slice Ao32 t327.length co32) : Value).ownBlock ∧ some k_ ≠ ((.slice Ao31 t330.length co31) : Value).ownBlock ∧ some k_ ≠ ((.slice Ao30 t333.length co30) : Value).ownBlock) (.slice Ao29 t336.length co29) t336) ∧ Aside0 (w'.heap[gb320]? = some (.cells #[(.slice A2_0 l2_0.length c2_0), (.slice A2_1 l2_1.length c2_1), (.slice A2_2 l2_2.length c2_2)] 38 (0, 0))) ∧ Aside0 (w'.heap[gb339]? = some (.cells #[(.slice Ao32 t327.length co32), (.slice Ao31 t330.length co31), (.slice Ao30 t333.length co30), (.slice Ao29 t336.length co29), (.slice A2_0 l2_0.length c2_0), (.slice A2_1 l2_1.length c2_1), (.slice A2_2 l2_2.length c2_2)] 105 (0, 0))) ∧ Aside0 (Below w.heap.size w w'))
    case atStart => exact ⟨(x8_1), (x9_1), (0), z4_, H', ⟨Nat.le_refl _⟩, ⟨z226_⟩, ⟨z206_⟩, ⟨z165_⟩, ⟨z201_⟩, ⟨z195_⟩, ⟨z196_⟩, ⟨z197_⟩, ⟨z198_⟩, ⟨z7_⟩, ⟨z29_⟩, ⟨z6_⟩⟩
    case round =>
     clear H'
     obtain ⟨x8_2, x9_2, x14_2, rfl, HA, HK2, HO_8, HO_9, HO_11, HO_12, HO_340000, HO_340001, HO_340002, HO_340003, BK320, BK339, HB⟩ := hrel
     cases gk with
     | zero => exact absurd HA.out (by simp [spec_l8All.l1])
     | succ k2 =>
      have H := HA.out
      clear HA
      simp only [spec_l8All.l1] at H
      by_cases c44 : x14_2 < (t343.length : Int)
      ·rw [if_pos c44] at H
       have c44b0 := decide_eq_true c44
       clear c44
       obtain ⟨c45b0, H⟩ := ifd_ H
       obtain ⟨c46b0, H⟩ := ifd_ H
       obtain ⟨c47b0, H⟩ := ifd_ H
       replace H := Option.bind_eq_some_iff.mp H
       obtain ⟨⟨t348, t351⟩, A480, H⟩ := H
       try dsimp only at H
       have A48 := Aside0.mk A480
       clear A480
       have H' := Aside0.mk H
       clear H
       obtain ⟨Ao49, co49, eo49⟩ := Kd.R_slice HO_12.out
       subst eo49
       try go_wp2
       have n0_ := Aside0.mk (Kd.R_drew HO_8.out)
       have n1_ := Aside0.mk (Kd.R_drew HO_9.out)
       have n2_ := Aside0.mk (Kd.R_drew HO_11.out)
       have n3_ := Aside0.mk (Kd.R_drew HO_12.out)
       have n4_ := Aside0.mk (Kd.R_drew HO_340000.out)
       have n5_ := Aside0.mk (Kd.R_drew HO_340001.out)
       have n6_ := Aside0.mk (Kd.R_drew HO_340002.out)
       have n7_ := Aside0.mk (Kd.R_drew HO_340003.out)
       have n8_ := Aside0.mk (blk_drew BK320.out)
       have n9_ := Aside0.mk (blk_drew BK339.out)
       have n10_ := Aside0.mk (below_drew1 HB.out)
       clear HO_8
       clear HO_9
       clear HO_11
       clear HO_12
       clear HO_340000
       clear HO_340001
       clear HO_340002
       clear HO_340003
       clear BK320
       clear BK339
       clear HB
       have HO_8 := n0_
       have HO_9 := n1_
       have HO_11 := n2_
       have HO_12 := n3_
       have HO_340000 := n4_
       have HO_340001 := n5_
       have HO_340002 := n6_
       have HO_340003 := n7_
       have BK320 := n8_
       have BK339 := n9_
       have HB := n10_
       clear n0_ n1_ n2_ n3_ n4_ n5_ n6_ n7_ n8_ n9_ n10_
       have p346 : 0 ≤ (x13_1 : Int) := odt_
       have q346 : x13_1 < (t340.length : Int) := odt_
       obtain ⟨ad346, e346, hx346_0⟩ := Kd.at_int (Kd.R_reads' HO_11.out).2.2 x13_1 p346 q346
       cases e346
       replace p346 := eq_true p346
       replace q346 := eq_true q346
       have p347 : 0 ≤ (x14_2 : Int) := odt_
       have q347 : x14_2 < (t343.length : Int) := odt_
       obtain ⟨ad347, e347, hx347_0⟩ := Kd.at_int (Kd.R_reads' HO_12.out).2.2 x14_2 p347 q347
       cases e347
       replace p347 := eq_true p347
       replace q347 := eq_true q347
       obtain ⟨Ao51, co51, eo51⟩ := Kd.R_slice HO_8.out
       (first | subst eo51 | (injection eo51 with f1_ f2_ f3_; have f4_ := f1_.symm; have f5_ := f3_.symm; clear f1_ f2_ f3_; subst f4_; subst f5_))
       refine start_ (n := 12) (S := fun w' => w'.cell? ⟨gb339, 0, none⟩ = some (.slice Ao32 t327.length co32) ∧ w'.cell? ⟨gb339, 1, none⟩ = some (.slice Ao31 t330.length co31) ∧ w'.cell? ⟨gb339, 2, none⟩ = some (.slice Ao30 t333.length co30) ∧ w'.cell? ⟨gb339, 3, none⟩ = some (.slice Ao29 t336.length co29) ∧ w'.cell? ⟨gb339, 4, none⟩ = some (.slice A2_0 l2_0.length c2_0) ∧ w'.cell? ⟨gb339, 5, none⟩ = some (.slice A2_1 l2_1.length c2_1) ∧ w'.cell? ⟨gb339, 6, none⟩ = some (.slice A2_2 l2_2.length c2_2) ∧ w'.cell? (ad346.add (x13_1).toNat) = some (.int .i64 (rd t340 x13_1)) ∧ w'.cell? (ad347.add (x14_2).toNat) = some (.int .i64 (rd t343 x14_2))) (ds := []) (fl_ 12 0) (by kernel_rfl) rfl (fl_zero _) ⟨(blk_cell BK339.out 0).trans rfl, (blk_cell BK339.out 1).trans rfl, (blk_cell BK339.out 2).trans rfl, (blk_cell BK339.out 3).trans rfl, (blk_cell BK339.out 4).trans rfl, (blk_cell BK339.out 5).trans rfl, (blk_cell BK339.out 6).trans rfl, hx346_0, hx347_0⟩ (fun hHeld => ?_); refine with_tabW spec_l8All.tab12 spec_l8All.bits12 (fun HT_ HW_ => ?_)
       generalize wr.drew = w50 at HO_8 HO_9 HO_11 HO_12 HO_340000 HO_340001 HO_340002 HO_340003 BK320 BK339 HB hx346_0 hx347_0 hHeld ⊢
       refine zpg_ (i := 1) (ra_ [0, 1, 1, 10]) HT_ rfl rfl (by kernel_rfl) (fun _ _ _ h => h) (by rfl) ?_
       refine zpg_ (i := 2) (ra_ [0, 1, 2, 9]) HT_ rfl rfl (by kernel_rfl) (fun _ _ _ h => h) (by rfl) ?_
       refine zpg_ (i := 3) (ra_ [0, 1, 3, 8]) HT_ rfl rfl (by kernel_rfl) (fun _ _ _ h => h) (by rfl) ?_
       refine zpg_ (i := 5) (ra_ [0, 1, 3, 1, 1, 6]) HT_ rfl rfl (by kernel_rfl) (fun _ _ _ h => h) (by rfl) ?_
       refine zpg_ (i := 6) (ra_ [0, 1, 3, 1, 2, 5]) HT_ rfl rfl (by kernel_rfl) (fun _ _ _ h => h) (by rfl) ?_
       refine zpg_ (i := 7) (ra_ [0, 1, 3, 1, 3, 4]) HT_ rfl rfl (by kernel_rfl) (fun _ _ _ h => h) (by rfl) ?_
       refine zpg_ (i := 9) (ra_ [0, 1, 3, 1, 3, 1, 1, 2]) HT_ rfl rfl (by kernel_rfl) (fun _ _ _ h => h) (by rfl) ?_
       refine ztg_ (i := 0) (ra_ [4, 1, 3, 1, 1, 2]) HT_ HW_ rfl rfl (by kernel_rfl) (fun _ _ _ h => h) (by rfl) hHeld ?_ z218_
       refine ztg_ (i := 4) (ra_ [8, 1, 1, 2]) HT_ HW_ rfl rfl (by kernel_rfl) (fun _ _ _ h => h) (by rfl) hHeld ?_ z218_
       refine ztg_ (i := 8) (fl_ 12 10) HT_ HW_ rfl rfl (by kernel_rfl) (fun _ _ _ h => h) (by rfl) hHeld ?_ z218_
       refine one_ (i := 10) (N := some 58) (fl_ 12 11) rfl rfl (one_of HT_.out (by kernel_rfl)) (by decide) (fun K hK => ?_)
       refine goes_ Try.func83 (by kernel_rfl) rfl #[.agg #[.slice Ao32 t327.length co32, .slice Ao31 t330.length co31, .slice Ao30 t333.length co30, .slice Ao29 t336.length co29, .slice A2_0 l2_0.length c2_0, .slice A2_1 l2_1.length c2_1, .slice A2_2 l2_2.length c2_2], .int .i64 (rd t340 x13_1), .int .i64 (rd t343 x14_2), .slice Ao51 x8_2.length co51] (by rfl) rfl rfl z1_ ?_
       with_reducible refine (spec_l8Forest.calls k2 _ _ t327 _ _ t330 _ _ t333 _ _ t336 _ _ l2_0 _ _ l2_1 _ _ l2_2 (rd t340 x13_1) (rd t343 x14_2) (fun k_ => some k_ = (.slice Ao51 x8_2.length co51 : Value).ownBlock) (.slice Ao51 x8_2.length co51) x8_2 t348 t351 w _ ?side1 ?side2 ?side3 ?side4 ?side5 ?side6 ?side7 ?side8 ?side9 ?side10 ?side11 ?side12 ?side13 ?side14 ?side15 ?side16 A48.out).mono ?_
       (case side1 => exact z6_)
       (case side2 => exact Kd.C_kept_own (HO_340000.out) (fun k_ hk_ hs_ => (hk_.1) hs_))
       (case side3 => exact (Kd.R_reads' HO_340000.out).2.1)
       (case side4 => exact Kd.C_kept_own (HO_340001.out) (fun k_ hk_ hs_ => (hk_.1) hs_))
       (case side5 => exact (Kd.R_reads' HO_340001.out).2.1)
       (case side6 => exact Kd.C_kept_own (HO_340002.out) (fun k_ hk_ hs_ => (hk_.1) hs_))
       (case side7 => exact (Kd.R_reads' HO_340002.out).2.1)
       (case side8 => exact Kd.C_kept_own (HO_340003.out) (fun k_ hk_ hs_ => (hk_.1) hs_))
       (case side9 => exact (Kd.R_reads' HO_340003.out).2.1)
       (case side10 => exact Kd.C_kept_came (Kd.heap_int .i64) HR2_0.out z6_ (fun k_ hs_ => (fun e_ => Kd.R_base HO_8.out k_ e_.symm) hs_))
       (case side11 => exact HC2_0.out)
       (case side12 => exact Kd.C_kept_came (Kd.heap_int .i64) HR2_1.out z6_ (fun k_ hs_ => (fun e_ => Kd.R_base HO_8.out k_ e_.symm) hs_))
       (case side13 => exact HC2_1.out)
       (case side14 => exact Kd.C_kept_came (Kd.heap_int .i64) HR2_2.out z6_ (fun k_ hs_ => (fun e_ => Kd.R_base HO_8.out k_ e_.symm) hs_))
       (case side15 => exact HC2_2.out)
       (case side16 => exact Kd.R_tight rfl HO_8.out)
       rintro e w52 ⟨v349, rfl, ho0, hy0, hb, hkp⟩
       have HS7_ := cell_kept (hHeld.2.2.2.2.2.2.2.1) hkp (by first | (rw [add_block]; exact (fun hs_ => (((HO_11.out).1 _ rfl).1) hs_)) | (show ¬ _; simp only [add_block]; exact (fun hs_ => (((HO_11.out).1 _ rfl).1) hs_)) | exact (fun hs_ => (((HO_11.out).1 _ rfl).1) hs_))
       have HS8_ := cell_kept (hHeld.2.2.2.2.2.2.2.2) hkp (by first | (rw [add_block]; exact (fun hs_ => (((HO_12.out).1 _ rfl).1) hs_)) | (show ¬ _; simp only [add_block]; exact (fun hs_ => (((HO_12.out).1 _ rfl).1) hs_)) | exact (fun hs_ => (((HO_12.out).1 _ rfl).1) hs_))
       refine ⟨_, rfl, ?_⟩
       have n0_ := Aside0.mk (Kd.R_reok rfl hy0 (fun k_ e_ => HO_8.out.1 k_ e_))
       have n1_ := Aside0.mk (Kd.R_mono (ok' := fun k_ => some k_ ≠ (.slice Ao51 x8_2.length co51 : Value).ownBlock ∧ some k_ ≠ (.slice (some ad346) t340.length co43 : Value).ownBlock ∧ some k_ ≠ (.slice (some ad347) t343.length co49 : Value).ownBlock ∧ some k_ ≠ (.slice Ao32 t327.length co32 : Value).ownBlock ∧ some k_ ≠ (.slice Ao31 t330.length co31 : Value).ownBlock ∧ some k_ ≠ (.slice Ao30 t333.length co30 : Value).ownBlock ∧ some k_ ≠ (.slice Ao29 t336.length co29 : Value).ownBlock ∧ some k_ ≠ (v349 : Value).ownBlock) (Kd.R_keptB (HO_9.out) hkp (fun k_ hk_ hs_ => (hk_.1) hs_)) (fun k_ hk_ => ⟨hk_.1.1, hk_.1.2.1, hk_.1.2.2.1, hk_.1.2.2.2.1, hk_.1.2.2.2.2.1, hk_.1.2.2.2.2.2.1, hk_.1.2.2.2.2.2.2, fun e_ => Or.elim (ho0.1 k_ e_.symm).1 (fun hs_ => hk_.2.1 hs_) (fun hn_ => Nat.not_le.2 hk_.2.2 hn_)⟩))
       have n2_ := Aside0.mk (Kd.R_mono (ok' := fun k_ => some k_ ≠ (.slice Ao51 x8_2.length co51 : Value).ownBlock ∧ some k_ ≠ (u9 : Value).ownBlock ∧ some k_ ≠ (.slice (some ad347) t343.length co49 : Value).ownBlock ∧ some k_ ≠ (.slice Ao32 t327.length co32 : Value).ownBlock ∧ some k_ ≠ (.slice Ao31 t330.length co31 : Value).ownBlock ∧ some k_ ≠ (.slice Ao30 t333.length co30 : Value).ownBlock ∧ some k_ ≠ (.slice Ao29 t336.length co29 : Value).ownBlock ∧ some k_ ≠ (v349 : Value).ownBlock) (Kd.R_keptB (HO_11.out) hkp (fun k_ hk_ hs_ => (hk_.1) hs_)) (fun k_ hk_ => ⟨hk_.1.1, hk_.1.2.1, hk_.1.2.2.1, hk_.1.2.2.2.1, hk_.1.2.2.2.2.1, hk_.1.2.2.2.2.2.1, hk_.1.2.2.2.2.2.2, fun e_ => Or.elim (ho0.1 k_ e_.symm).1 (fun hs_ => hk_.2.1 hs_) (fun hn_ => Nat.not_le.2 hk_.2.2 hn_)⟩))
       have n3_ := Aside0.mk (Kd.R_mono (ok' := fun k_ => some k_ ≠ (.slice Ao51 x8_2.length co51 : Value).ownBlock ∧ some k_ ≠ (u9 : Value).ownBlock ∧ some k_ ≠ (.slice (some ad346) t340.length co43 : Value).ownBlock ∧ some k_ ≠ (.slice Ao32 t327.length co32 : Value).ownBlock ∧ some k_ ≠ (.slice Ao31 t330.length co31 : Value).ownBlock ∧ some k_ ≠ (.slice Ao30 t333.length co30 : Value).ownBlock ∧ some k_ ≠ (.slice Ao29 t336.length co29 : Value).ownBlock ∧ some k_ ≠ (v349 : Value).ownBlock) (Kd.R_keptB (HO_12.out) hkp (fun k_ hk_ hs_ => (hk_.1) hs_)) (fun k_ hk_ => ⟨hk_.1.1, hk_.1.2.1, hk_.1.2.2.1, hk_.1.2.2.2.1, hk_.1.2.2.2.2.1, hk_.1.2.2.2.2.2.1, hk_.1.2.2.2.2.2.2, fun e_ => Or.elim (ho0.1 k_ e_.symm).1 (fun hs_ => hk_.2.1 hs_) (fun hn_ => Nat.not_le.2 hk_.2.2 hn_)⟩))
       have n4_ := Aside0.mk (Kd.R_mono (ok' := fun k_ => some k_ ≠ (.slice Ao51 x8_2.length co51 : Value).ownBlock ∧ some k_ ≠ (u9 : Value).ownBlock ∧ some k_ ≠ (.slice (some ad346) t340.length co43 : Value).ownBlock ∧ some k_ ≠ (.slice (some ad347) t343.length co49 : Value).ownBlock ∧ some k_ ≠ (.slice Ao31 t330.length co31 : Value).ownBlock ∧ some k_ ≠ (.slice Ao30 t333.length co30 : Value).ownBlock ∧ some k_ ≠ (.slice Ao29 t336.length co29 : Value).ownBlock ∧ some k_ ≠ (v349 : Value).ownBlock) (Kd.R_keptB (HO_340000.out) hkp (fun k_ hk_ hs_ => (hk_.1) hs_)) (fun k_ hk_ => ⟨hk_.1.1, hk_.1.2.1, hk_.1.2.2.1, hk_.1.2.2.2.1, hk_.1.2.2.2.2.1, hk_.1.2.2.2.2.2.1, hk_.1.2.2.2.2.2.2, fun e_ => Or.elim (ho0.1 k_ e_.symm).1 (fun hs_ => hk_.2.1 hs_) (fun hn_ => Nat.not_le.2 hk_.2.2 hn_)⟩))
       have n5_ := Aside0.mk (Kd.R_mono (ok' := fun k_ => some k_ ≠ (.slice Ao51 x8_2.length co51 : Value).ownBlock ∧ some k_ ≠ (u9 : Value).ownBlock ∧ some k_ ≠ (.slice (some ad346) t340.length co43 : Value).ownBlock ∧ some k_ ≠ (.slice (some ad347) t343.length co49 : Value).ownBlock ∧ some k_ ≠ (.slice Ao32 t327.length co32 : Value).ownBlock ∧ some k_ ≠ (.slice Ao30 t333.length co30 : Value).ownBlock ∧ some k_ ≠ (.slice Ao29 t336.length co29 : Value).ownBlock ∧ some k_ ≠ (v349 : Value).ownBlock) (Kd.R_keptB (HO_340001.out) hkp (fun k_ hk_ hs_ => (hk_.1) hs_)) (fun k_ hk_ => ⟨hk_.1.1, hk_.1.2.1, hk_.1.2.2.1, hk_.1.2.2.2.1, hk_.1.2.2.2.2.1, hk_.1.2.2.2.2.2.1, hk_.1.2.2.2.2.2.2, fun e_ => Or.elim (ho0.1 k_ e_.symm).1 (fun hs_ => hk_.2.1 hs_) (fun hn_ => Nat.not_le.2 hk_.2.2 hn_)⟩))
       have n6_ := Aside0.mk (Kd.R_mono (ok' := fun k_ => some k_ ≠ (.slice Ao51 x8_2.length co51 : Value).ownBlock ∧ some k_ ≠ (u9 : Value).ownBlock ∧ some k_ ≠ (.slice (some ad346) t340.length co43 : Value).ownBlock ∧ some k_ ≠ (.slice (some ad347) t343.length co49 : Value).ownBlock ∧ some k_ ≠ (.slice Ao32 t327.length co32 : Value).ownBlock ∧ some k_ ≠ (.slice Ao31 t330.length co31 : Value).ownBlock ∧ some k_ ≠ (.slice Ao29 t336.length co29 : Value).ownBlock ∧ some k_ ≠ (v349 : Value).ownBlock) (Kd.R_keptB (HO_340002.out) hkp (fun k_ hk_ hs_ => (hk_.1) hs_)) (fun k_ hk_ => ⟨hk_.1.1, hk_.1.2.1, hk_.1.2.2.1, hk_.1.2.2.2.1, hk_.1.2.2.2.2.1, hk_.1.2.2.2.2.2.1, hk_.1.2.2.2.2.2.2, fun e_ => Or.elim (ho0.1 k_ e_.symm).1 (fun hs_ => hk_.2.1 hs_) (fun hn_ => Nat.not_le.2 hk_.2.2 hn_)⟩))
       have n7_ := Aside0.mk (Kd.R_mono (ok' := fun k_ => some k_ ≠ (.slice Ao51 x8_2.length co51 : Value).ownBlock ∧ some k_ ≠ (u9 : Value).ownBlock ∧ some k_ ≠ (.slice (some ad346) t340.length co43 : Value).ownBlock ∧ some k_ ≠ (.slice (some ad347) t343.length co49 : Value).ownBlock ∧ some k_ ≠ (.slice Ao32 t327.length co32 : Value).ownBlock ∧ some k_ ≠ (.slice Ao31 t330.length co31 : Value).ownBlock ∧ some k_ ≠ (.slice Ao30 t333.length co30 : Value).ownBlock ∧ some k_ ≠ (v349 : Value).ownBlock) (Kd.R_keptB (HO_340003.out) hkp (fun k_ hk_ hs_ => (hk_.1) hs_)) (fun k_ hk_ => ⟨hk_.1.1, hk_.1.2.1, hk_.1.2.2.1, hk_.1.2.2.2.1, hk_.1.2.2.2.2.1, hk_.1.2.2.2.2.2.1, hk_.1.2.2.2.2.2.2, fun e_ => Or.elim (ho0.1 k_ e_.symm).1 (fun hs_ => hk_.2.1 hs_) (fun hn_ => Nat.not_le.2 hk_.2.2 hn_)⟩))
       have n8_ := Aside0.mk (blk_kept z7_ hkp (fun hs_ => (fun e_ => (Kd.R_ne HO_8.out BK320.out (by decide)) e_) hs_))
       have n9_ := Aside0.mk (blk_kept z29_ hkp (fun hs_ => (fun e_ => (Kd.R_ne HO_8.out BK339.out (by decide)) e_) hs_))
       have n10_ := Aside0.mk (Kd.R_mono (ok' := fun k_ => some k_ ≠ (u9 : Value).ownBlock ∧ some k_ ≠ (.slice (some ad346) t340.length co43 : Value).ownBlock ∧ some k_ ≠ (.slice (some ad347) t343.length co49 : Value).ownBlock ∧ some k_ ≠ (.slice Ao32 t327.length co32 : Value).ownBlock ∧ some k_ ≠ (.slice Ao31 t330.length co31 : Value).ownBlock ∧ some k_ ≠ (.slice Ao30 t333.length co30 : Value).ownBlock ∧ some k_ ≠ (.slice Ao29 t336.length co29 : Value).ownBlock ∧ some k_ ≠ (.slice Ao51 x8_2.length co51 : Value).ownBlock) ho0 (fun k_ hk_ => ⟨Or.elim hk_.1 (fun hs_ => fun e_ => (((HO_9.out).1 k_ e_.symm).1) hs_) (fun hn_ => (Kd.fresh' (Kd.R_lt z206_) k_ hn_)), Or.elim hk_.1 (fun hs_ => fun e_ => (((HO_11.out).1 k_ e_.symm).1) hs_) (fun hn_ => (Kd.fresh' (Kd.R_lt z165_) k_ hn_)), Or.elim hk_.1 (fun hs_ => fun e_ => (((HO_12.out).1 k_ e_.symm).1) hs_) (fun hn_ => (Kd.fresh' (Kd.R_lt z201_) k_ hn_)), Or.elim hk_.1 (fun hs_ => fun e_ => (((HO_340000.out).1 k_ e_.symm).1) hs_) (fun hn_ => (Kd.fresh' (Kd.R_lt z195_) k_ hn_)), Or.elim hk_.1 (fun hs_ => fun e_ => (((HO_340001.out).1 k_ e_.symm).1) hs_) (fun hn_ => (Kd.fresh' (Kd.R_lt z196_) k_ hn_)), Or.elim hk_.1 (fun hs_ => fun e_ => (((HO_340002.out).1 k_ e_.symm).1) hs_) (fun hn_ => (Kd.fresh' (Kd.R_lt z197_) k_ hn_)), Or.elim hk_.1 (fun hs_ => fun e_ => (((HO_340003.out).1 k_ e_.symm).1) hs_) (fun hn_ => (Kd.fresh' (Kd.R_lt z198_) k_ hn_)), hk_.2⟩))
       have n11_ := Aside0.mk (hb)
       clear HO_8
       clear HO_9
       clear HO_11
       clear HO_12
       clear HO_340000
       clear HO_340001
       clear HO_340002
       clear HO_340003
       clear BK320
       clear BK339
       clear HB
       have HO_8 := n0_
       have HO_9 := n1_
       have HO_11 := n2_
       have HO_12 := n3_
       have HO_340000 := n4_
       have HO_340001 := n5_
       have HO_340002 := n6_
       have HO_340003 := n7_
       have BK320 := n8_
       have BK339 := n9_
       have HO350 := n10_
       have HB := n11_
       clear n0_ n1_ n2_ n3_ n4_ n5_ n6_ n7_ n8_ n9_ n10_ n11_
       (try clear hb)
       (try clear hkp)
       (try clear ho0)
       (try clear hy0)
       refine hK.out _ _ ⟨(blk_cell BK339.out 0).trans rfl, (blk_cell BK339.out 1).trans rfl, (blk_cell BK339.out 2).trans rfl, (blk_cell BK339.out 3).trans rfl, (blk_cell BK339.out 4).trans rfl, (blk_cell BK339.out 5).trans rfl, (blk_cell BK339.out 6).trans rfl, HS7_, HS8_⟩ (fun hHeld => ?_)
       clear hK K
       refine zn_ rfl ?_
       refine zp_ HT_ rfl rfl (by kernel_rfl) (fun _ _ _ h => h) (by rfl) ?_
       refine done_ (done_of HT_.out (by kernel_rfl)) ?_
       try go_wp2
       go_roundg k2
       case measure => have := HK1.out; have := HK2.out; omega
       case rel => exact ⟨(t351), (t348), (wrap64 (x14_2 + 1)), z4_, H', ⟨z107_⟩, ⟨by (with_reducible repeat (first | apply Kd.R_alloc | apply Kd.R_drewN | apply Kd.R_drew)); exact Kd.R_reok rfl HO_8.out (fun k_ e_ => (fun hk => ⟨(fun e2_ => (HO350.out.1 k_ e2_.symm).2.2.2.2.2.2.2 e_.symm), ⟨hk.2.1, ⟨hk.2.2.1, ⟨hk.2.2.2.1, ⟨hk.2.2.2.2.1, ⟨hk.2.2.2.2.2.1, hk.2.2.2.2.2.2⟩⟩⟩⟩⟩⟩) (HO_8.out.1 k_ e_))⟩, ⟨by (with_reducible repeat (first | apply Kd.R_alloc | apply Kd.R_drewN | apply Kd.R_drew)); exact Kd.R_mono HO350.out (fun _ hk => ⟨hk.2.2.2.2.2.2.2, ⟨hk.2.1, ⟨hk.2.2.1, ⟨hk.2.2.2.1, ⟨hk.2.2.2.2.1, ⟨hk.2.2.2.2.2.1, hk.2.2.2.2.2.2.1⟩⟩⟩⟩⟩⟩)⟩, ⟨by (with_reducible repeat (first | apply Kd.R_alloc | apply Kd.R_drewN | apply Kd.R_drew)); exact Kd.R_mono HO_11.out (fun _ hk => ⟨hk.1, ⟨hk.2.2.2.2.2.2.2, ⟨hk.2.2.1, ⟨hk.2.2.2.1, ⟨hk.2.2.2.2.1, ⟨hk.2.2.2.2.2.1, hk.2.2.2.2.2.2.1⟩⟩⟩⟩⟩⟩)⟩, ⟨by (with_reducible repeat (first | apply Kd.R_alloc | apply Kd.R_drewN | apply Kd.R_drew)); exact Kd.R_mono HO_12.out (fun _ hk => ⟨hk.1, ⟨hk.2.2.2.2.2.2.2, ⟨hk.2.2.1, ⟨hk.2.2.2.1, ⟨hk.2.2.2.2.1, ⟨hk.2.2.2.2.2.1, hk.2.2.2.2.2.2.1⟩⟩⟩⟩⟩⟩)⟩, ⟨by (with_reducible repeat (first | apply Kd.R_alloc | apply Kd.R_drewN | apply Kd.R_drew)); exact Kd.R_mono HO_340000.out (fun _ hk => ⟨hk.1, ⟨hk.2.2.2.2.2.2.2, ⟨hk.2.2.1, ⟨hk.2.2.2.1, ⟨hk.2.2.2.2.1, ⟨hk.2.2.2.2.2.1, hk.2.2.2.2.2.2.1⟩⟩⟩⟩⟩⟩)⟩, ⟨by (with_reducible repeat (first | apply Kd.R_alloc | apply Kd.R_drewN | apply Kd.R_drew)); exact Kd.R_mono HO_340001.out (fun _ hk => ⟨hk.1, ⟨hk.2.2.2.2.2.2.2, ⟨hk.2.2.1, ⟨hk.2.2.2.1, ⟨hk.2.2.2.2.1, ⟨hk.2.2.2.2.2.1, hk.2.2.2.2.2.2.1⟩⟩⟩⟩⟩⟩)⟩, ⟨by (with_reducible repeat (first | apply Kd.R_alloc | apply Kd.R_drewN | apply Kd.R_drew)); exact Kd.R_mono HO_340002.out (fun _ hk => ⟨hk.1, ⟨hk.2.2.2.2.2.2.2, ⟨hk.2.2.1, ⟨hk.2.2.2.1, ⟨hk.2.2.2.2.1, ⟨hk.2.2.2.2.2.1, hk.2.2.2.2.2.2.1⟩⟩⟩⟩⟩⟩)⟩, ⟨by (with_reducible repeat (first | apply Kd.R_alloc | apply Kd.R_drewN | apply Kd.R_drew)); exact Kd.R_mono HO_340003.out (fun _ hk => ⟨hk.1, ⟨hk.2.2.2.2.2.2.2, ⟨hk.2.2.1, ⟨hk.2.2.2.1, ⟨hk.2.2.2.2.1, ⟨hk.2.2.2.2.2.1, hk.2.2.2.2.2.2.1⟩⟩⟩⟩⟩⟩)⟩, ⟨z7_⟩, ⟨z29_⟩, ⟨z6_⟩⟩
      ·rw [if_neg c44] at H
       have c44b0 := decide_eq_false c44
       clear c44
       have H' := Aside0.mk H
       clear H
       obtain ⟨Ao53, co53, eo53⟩ := Kd.R_slice HO_12.out
       subst eo53
       go_wp2
       go_roundg k2
       case measure => have := HK1.out; have := HK2.out; omega
       case rel => exact ⟨(x8_2), (x9_2), (wrap64 (x13_1 + 1)), z4_, H', ⟨z107_⟩, ⟨z226_⟩, ⟨z206_⟩, ⟨z165_⟩, ⟨z201_⟩, ⟨z195_⟩, ⟨z196_⟩, ⟨z197_⟩, ⟨z198_⟩, ⟨z7_⟩, ⟨z29_⟩, ⟨z6_⟩⟩
   ·rw [if_neg c42] at H
    have c42b0 := decide_eq_false c42
    clear c42
    simp only [Option.some.injEq, Prod.mk.injEq] at H
    obtain ⟨rfl, rfl⟩ := H
    obtain ⟨Ao54, co54, eo54⟩ := Kd.R_slice HO_11.out
    subst eo54
    go_wp2
    go_ret2
    exact ⟨_, _, by first | rfl | (simp [errW_none, errW_some] <;> rfl) | (simp only [← hji4]; first | rfl | (simp [errW_none, errW_some] <;> rfl)) | (simp [*, errW_none, errW_some] <;> rfl), by (with_reducible repeat (first | apply Kd.R_alloc | apply Kd.R_drewN | apply Kd.R_drew)); exact Kd.R_mono HO_8.out (fun _ hk => hk.1), by (with_reducible repeat (first | apply Kd.R_alloc | apply Kd.R_drewN | apply Kd.R_drew)); exact Kd.R_mono HO_9.out (fun _ hk => hk.1), z6_⟩

end Go.Proofs.Ytbmkobanpakohaa.PFnExactMedian
