/- Laid by a program of this session out of the kit's print for the law FnExactSimilarity: what it says of the machine is proved here, function by function; each contract under the conditions that it names. -/
import Derived.Test.YtbmkobanpakohaaMFnExactSimilarityx0
import Derived.Test.YtbmkobanpakohaaMFnExactSimilarityx4
import Derived.Test.YtbmkobanpakohaaMFnExactSimilarityx5
import Derived.Test.YtbmkobanpakohaaMFnExactSimilarityx6
import Derived.Test.YtbmkobanpakohaaMFnExactSimilarityx7
namespace Go.Proofs.Ytbmkobanpakohaa.PFnExactSimilarity
open Go.RowKit Go.Proofs.YtbmkobanpakohaaW.PrintWords Go.Proofs.YtbmkobanpakohaaW.PrintLast Go.Proofs.YtbmkobanpakohaaW.PrintMore
attribute [local go_sem] max2_int min2_int max_two min_two max_three min_three max_four min_four   -- for this text's walks alone
set_option linter.unusedVariables false
set_option linter.unusedSimpArgs false

/-! ### spec_l8All: function 62 -/
mutual
def spec_l8All.l0 : Nat → List Int → List Int → List Int → List Int → Int → List Int → List Int → List Int → List Int → List Int → List Int → List Int → Option (List Int × List Int)
 | 0, _, _, _, _, _, _, _, _, _, _, _, _ => none
 | k + 1, x8, x9, x11, x12, x13, x284000, x284001, x284002, x284003, x284004, x284005, x284006 => if x13 < (x11.length : Int) then (spec_l8All.l1 k x8 x9 x11 x12 x13 0 x284000 x284001 x284002 x284003 x284004 x284005 x284006) else (some (x8, x9))
def spec_l8All.l1 : Nat → List Int → List Int → List Int → List Int → Int → Int → List Int → List Int → List Int → List Int → List Int → List Int → List Int → Option (List Int × List Int)
 | 0, _, _, _, _, _, _, _, _, _, _, _, _, _ => none
 | k + 1, x8, x9, x11, x12, x13, x14, x284000, x284001, x284002, x284003, x284004, x284005, x284006 => if x14 < (x12.length : Int) then (if 0 ≤ x13 then (if x13 < (x11.length : Int) then (if 0 ≤ x14 then ((spec_l8Forest.f k x284000 x284001 x284002 x284003 x284004 x284005 x284006 (rd x11 x13) (rd x12 x14) x8).bind fun bt292 => (spec_l8All.l1 k bt292.2 bt292.1 x11 x12 x13 (wrap64 (x14 + 1)) x284000 x284001 x284002 x284003 x284004 x284005 x284006)) else (none)) else (none)) else (none)) else (spec_l8All.l0 k x8 x9 x11 x12 (wrap64 (x13 + 1)) x284000 x284001 x284002 x284003 x284004 x284005 x284006)
end
def spec_l8All.f (k : Nat) (l0 : List (S61)) (l1 : List (S61)) (l2_0 : List Int) (l2_1 : List Int) (l2_2 : List Int) : Option (List Int × List Int) := if 0 ≤ (wrap64 ((l0.length : Int) * (l1.length : Int))) then (if (wrap64 ((l0.length : Int) * (l1.length : Int)) : Int).toNat ≤ 35184372088832 then ((spec_l8Labels.f k l0).bind fun t271 => ((spec_l8Labels.f k l1).bind fun t274 => ((spec_LeftLeaf.f k l0).bind fun t277 => ((spec_LeftLeaf.f k l1).bind fun t280 => ((spec_KeyRoots.f k l0).bind fun t284 => ((spec_KeyRoots.f k l1).bind fun t287 => (spec_l8All.l0 k (List.replicate (wrap64 ((l0.length : Int) * (l1.length : Int)) : Int).toNat 0) (([] : List Int)) t284 t287 0 t271 t274 t277 t280 l2_0 l2_1 l2_2))))))) else (none)) else (none)
def spec_l8All.T3 : Bool × List (List Nat × List Nat) := (true, [([], []), ([0], [0]), ([], []), ([2, 1], [2]), ([], []), ([4, 3], [4]), ([], []), ([6, 5], [6]), ([], []), ([1, 3, 5, 7, 8], [1, 3, 5, 7, 8]), ([], []), ([10, 9, 7, 0, 1, 2, 3, 4, 5, 6, 7, 8, 9, 10], [9, 10])])
def spec_l8All.B3 : List Nat := [0, 1, 0, 7, 0, 31, 0, 127, 0, 511, 0, 2047]
theorem spec_l8All.tab3 : rtab .any (opsOf Try.f62 3) = spec_l8All.T3 := by kernel_rfl
theorem spec_l8All.bits3 : waitsOk spec_l8All.T3.2 spec_l8All.B3 = true := by kernel_rfl
def spec_l8All.T12 : Bool × List (List Nat × List Nat) := (true, [([], []), ([], []), ([], []), ([1, 2], [1, 2]), ([3], [3]), ([], []), ([], []), ([5, 6], [5, 6]), ([7], [7]), ([], []), ([0, 4, 8, 9], [0, 4, 8, 9]), ([10, 10, 0, 1, 2, 3, 4, 5, 6, 7, 8, 9, 10], [10])])
def spec_l8All.B12 : List Nat := [0, 0, 0, 6, 14, 0, 0, 96, 224, 0, 1023, 2047]
theorem spec_l8All.tab12 : rtab .any (opsOf Try.f62 12) = spec_l8All.T12 := by kernel_rfl
theorem spec_l8All.bits12 : waitsOk spec_l8All.T12.2 spec_l8All.B12 = true := by kernel_rfl
set_option maxHeartbeats 8000000 in
set_option maxRecDepth 100000 in
theorem spec_l8All.calls (k : Nat) (A0 : Option Addr) (c0 : Nat) (l0 : List (S61)) (A1 : Option Addr) (c1 : Nat) (l1 : List (S61)) (A2_0 : Option Addr) (c2_0 : Nat) (l2_0 : List Int) (A2_1 : Option Addr) (c2_1 : Nat) (l2_1 : List Int) (A2_2 : Option Addr) (c2_2 : Nat) (l2_2 : List Int) (r1 : List Int) (r2 : List Int) (w : World) (hr0 : Kd.C k61 w A0 l0.length l0) (hc0 : l0.length ≤ c0) (hr1 : Kd.C k61 w A1 l1.length l1) (hc1 : l1.length ≤ c1) (hr2_0 : Kd.C (Kd.int .i64) w A2_0 l2_0.length l2_0) (hc2_0 : l2_0.length ≤ c2_0) (hr2_1 : Kd.C (Kd.int .i64) w A2_1 l2_1.length l2_1) (hc2_1 : l2_1.length ≤ c2_1) (hr2_2 : Kd.C (Kd.int .i64) w A2_2 l2_2.length l2_2) (hc2_2 : l2_2.length ≤ c2_2) (h : spec_l8All.f k l0 l1 l2_0 l2_1 l2_2 = some (r1, r2)) :
  Calls Try.prog 62 #[.slice A0 l0.length c0, .slice A1 l1.length c1, .agg #[.slice A2_0 l2_0.length c2_0, .slice A2_1 l2_1.length c2_1, .slice A2_2 l2_2.length c2_2]] w fun e w' => ∃ v0_ v1_ : Value, e = .returned (.tuple #[v0_, v1_]) ∧ Kd.R (Kd.int .i64) 3 w' w.heap.size (fun k_ => some k_ ≠ (v1_ : Value).ownBlock) v0_ r1 ∧ Kd.R (Kd.int .i64) 3 w' w.heap.size (fun k_ => some k_ ≠ (v0_ : Value).ownBlock) v1_ r2 ∧ Below w.heap.size w w' := by
 have hu38 := Try.underlying38
 have hu105 := Try.underlying105
 have HR0 := Aside0.mk hr0
 have HC0 := Aside0.mk hc0
 clear hr0 hc0
 have HR1 := Aside0.mk hr1
 have HC1 := Aside0.mk hc1
 clear hr1 hc1
 have HR2_0 := Aside0.mk hr2_0
 have HC2_0 := Aside0.mk hc2_0
 clear hr2_0 hc2_0
 have HR2_1 := Aside0.mk hr2_1
 have HC2_1 := Aside0.mk hc2_1
 clear hr2_1 hc2_1
 have HR2_2 := Aside0.mk hr2_2
 have HC2_2 := Aside0.mk hc2_2
 clear hr2_2 hc2_2
 have HB := Aside0.mk (Below.refl w.heap.size w)
 have H : (if 0 ≤ (wrap64 ((l0.length : Int) * (l1.length : Int))) then (if (wrap64 ((l0.length : Int) * (l1.length : Int)) : Int).toNat ≤ 35184372088832 then ((spec_l8Labels.f k l0).bind fun t271 => ((spec_l8Labels.f k l1).bind fun t274 => ((spec_LeftLeaf.f k l0).bind fun t277 => ((spec_LeftLeaf.f k l1).bind fun t280 => ((spec_KeyRoots.f k l0).bind fun t284 => ((spec_KeyRoots.f k l1).bind fun t287 => (spec_l8All.l0 k (List.replicate (wrap64 ((l0.length : Int) * (l1.length : Int)) : Int).toNat 0) (([] : List Int)) t284 t287 0 t271 t274 t277 t280 l2_0 l2_1 l2_2))))))) else (none)) else (none)) = some (r1, r2) := h
 clear h
 obtain ⟨ji4, hji4⟩ : ∃ j_ : Int, (wrap64 ((l0.length : Int) * (l1.length : Int))) = j_ := ⟨_, rfl⟩
 first | rw [hji4] at H | simp only [hji4] at H
 have hji4w : (IntKind.i64.wrap ((l0.length : Int) * (l1.length : Int))) = ji4 := (i64_w _).trans hji4
 obtain ⟨c5b0, c5b1, H⟩ := ife_ H
 obtain ⟨c6b0, c6b1, H⟩ := ife_ H
 first | ((with_reducible have hz_ := gy_ H); obtain ⟨y265, Ny265, H⟩ := hz_) | (generalize hy_ : ((List.replicate (ji4 : Int).toNat 0) : List Int) = y265 at H; have Ny265 := Aside0.mk hy_.symm; clear hy_)
 first | ((with_reducible have hz_ := gy_ H); obtain ⟨y268, Ny268, H⟩ := hz_) | (generalize hy_ : ((([] : List Int)) : List Int) = y268 at H; have Ny268 := Aside0.mk hy_.symm; clear hy_)
 obtain ⟨t271, A7, H⟩ := bnd_ H
 obtain ⟨t274, A8, H⟩ := bnd_ H
 obtain ⟨t277, A9, H⟩ := bnd_ H
 obtain ⟨t280, A10, H⟩ := bnd_ H
 obtain ⟨t284, A11, H⟩ := bnd_ H
 obtain ⟨t287, A12, H⟩ := bnd_ H
 have H' := Aside0.mk H
 clear H
 go_enter Try.func62, Try.ntmps62
 try go_wp2_with (first | ((with_reducible refine gate_dst (N := 5) rfl ?_); refine box_event ?hg (N := 5) ?hd (cs := #[.slice A2_0 l2_0.length c2_0, .slice A2_1 l2_1.length c2_1, .slice A2_2 l2_2.length c2_2]) (t := 38) ?hr ?_; (case hd => rfl); (case hg => rfl); (case hr => exact z14_); intro gb264 hg w13 hbox hb; have BK264 := Aside0.mk (hbox); have GW264 := Aside0.mk ((by rw [hg]; exact (below_size z0_) : w.heap.size ≤ gb264)); have GE264 := Aside0.mk ((by rw [hg]; exact (below_size z0_) : w.heap.size ≤ gb264)); replace HB := Aside0.mk (below_step z0_ hb); clear hb hbox hg) | ((with_reducible refine gate_dst (N := 20) rfl ?_); refine Kd.R_make (Kd.int .i64) _ 3 rfl (N := 20) rfl 30 _ _ rfl ji4 rfl rfl Try.underlying30 (.int .i64 0) 8 info3 rfl (by decide) (by omega) 0 (ok := fun _ => True) (okp := fun _ => True) rfl (fun _ hk => hk) trivial (odt_) (Nat.le_trans (Nat.mul_le_mul_right _ (odt_ : ji4.toNat ≤ 35184372088832)) (by omega)) (Below.refl _ _) (Nat.le_refl _) ?_; intro v266 w14 ho15 hb hg_ hnew_; clear hg_ hnew_; (first | rw [← Ny265.out] at ho15 | (simp only [Int.reduceToNat] at ho15; rw [← Ny265.out] at ho15)); have HO267 := Aside0.mk (Kd.R_lower ho15 (below_size z10_)); replace BK264 := Aside0.mk (blk_below (g := gb264) (o := .cells #[.slice A2_0 l2_0.length c2_0, .slice A2_1 l2_1.length c2_1, .slice A2_2 l2_2.length c2_2] 38 (0, 0)) z9_ hb); replace HB := Aside0.mk (below_step z10_ hb); clear hb ho15) | ((with_reducible refine gate_dst (N := 21) rfl ?_); refine Kd.R_lit (Kd.int .i64) _ 3 ?hg (N := 21) ?hd (xs := ([] : List Int)) (inner := []) (ok := fun _ => True) (okp := fun _ => True) ?hr ?hp (fun _ hk => hk) trivial (Below.refl _ _) (Nat.le_refl _) (by simp) ?_; (case hd => rfl); (case hg => rfl); (case hr => exact z14_); (case hp => exact z219_); intro v269 w16 ho17 hb hg_ hnew_; clear hg_ hnew_; (first | rw [← Ny268.out] at ho17 | (simp only [Int.reduceToNat] at ho17; rw [← Ny268.out] at ho17)); have HO270 := Aside0.mk (Kd.R_lower (Kd.R_new' ho17 (Kd.R_lt z20_)) (below_size z10_)); replace HO267 := Aside0.mk (Kd.R_elder' z20_ (Kd.R_base ho17) hb); replace BK264 := Aside0.mk (blk_below (g := gb264) (o := .cells #[.slice A2_0 l2_0.length c2_0, .slice A2_1 l2_1.length c2_1, .slice A2_2 l2_2.length c2_2] 38 (0, 0)) z9_ hb); replace HB := Aside0.mk (below_step z10_ hb); clear hb ho17))
 have n0_ := Aside0.mk (Kd.R_drew HO267.out)
 have n1_ := Aside0.mk (Kd.R_drew HO270.out)
 have n2_ := Aside0.mk (blk_drew BK264.out)
 have n3_ := Aside0.mk (below_drew1 HB.out)
 clear HO267
 clear HO270
 clear BK264
 clear HB
 have HO267 := n0_
 have HO270 := n1_
 have BK264 := n2_
 have HB := n3_
 clear n0_ n1_ n2_ n3_
 refine start_ (n := 12) (S := fun w' => w'.cell? ⟨gb264, 0, none⟩ = some (.slice A2_0 l2_0.length c2_0) ∧ w'.cell? ⟨gb264, 1, none⟩ = some (.slice A2_1 l2_1.length c2_1) ∧ w'.cell? ⟨gb264, 2, none⟩ = some (.slice A2_2 l2_2.length c2_2)) (ds := []) (fl_ 12 0) (by kernel_rfl) rfl (fl_zero _) ⟨(blk_cell BK264.out 0).trans rfl, (blk_cell BK264.out 1).trans rfl, (blk_cell BK264.out 2).trans rfl⟩ (fun hHeld => ?_); refine with_tabW spec_l8All.tab3 spec_l8All.bits3 (fun HT_ HW_ => ?_)
 generalize w16.drew = w18 at HO267 HO270 BK264 HB hHeld ⊢
 refine zp_ HT_ rfl rfl (by kernel_rfl) (fun _ _ _ h => h) (by rfl) ?_
 refine zpg_ (i := 2) (ra_ [1, 1, 1, 9]) HT_ rfl rfl (by kernel_rfl) (fun _ _ _ h => h) (by rfl) ?_
 refine zpg_ (i := 4) (ra_ [1, 1, 1, 1, 1, 7]) HT_ rfl rfl (by kernel_rfl) (fun _ _ _ h => h) (by rfl) ?_
 refine zpg_ (i := 6) (ra_ [1, 1, 1, 1, 1, 1, 1, 5]) HT_ rfl rfl (by kernel_rfl) (fun _ _ _ h => h) (by rfl) ?_
 refine ztg_ (i := 8) (ra_ [1, 1, 1, 1, 1, 1, 1, 1, 1, 3]) HT_ HW_ rfl rfl (by kernel_rfl) (fun _ _ _ h => h) (by rfl) hHeld ?_ z263_
 refine join_ (σ := Value × Value × Value × Value × Nat) 1 #[true, true, true, true, true, true, true, true, true, true, true, false] (fun s_ => [(23, s_.1), (25, s_.2.1), (27, s_.2.2.1), (29, s_.2.2.2.1), (10, .pointer (some ⟨s_.2.2.2.2, 0, none⟩)), (31, .agg #[s_.1, s_.2.1, s_.2.2.1, s_.2.2.2.1, .slice A2_0 l2_0.length c2_0, .slice A2_1 l2_1.length c2_1, .slice A2_2 l2_2.length c2_2])]) (fun s_ w' => (w'.cell? ⟨gb264, 0, none⟩ = some (.slice A2_0 l2_0.length c2_0) ∧ w'.cell? ⟨gb264, 1, none⟩ = some (.slice A2_1 l2_1.length c2_1) ∧ w'.cell? ⟨gb264, 2, none⟩ = some (.slice A2_2 l2_2.length c2_2)) ∧ (Kd.R (Kd.int .i64) 3 w' w.heap.size (fun k_ => some k_ ≠ (v269 : Value).ownBlock ∧ some k_ ≠ (s_.1 : Value).ownBlock ∧ some k_ ≠ (s_.2.1 : Value).ownBlock ∧ some k_ ≠ (s_.2.2.1 : Value).ownBlock ∧ some k_ ≠ (s_.2.2.2.1 : Value).ownBlock) v266 y265) ∧ (Kd.R (Kd.int .i64) 3 w' w.heap.size (fun k_ => some k_ ≠ (v266 : Value).ownBlock ∧ some k_ ≠ (s_.1 : Value).ownBlock ∧ some k_ ≠ (s_.2.1 : Value).ownBlock ∧ some k_ ≠ (s_.2.2.1 : Value).ownBlock ∧ some k_ ≠ (s_.2.2.2.1 : Value).ownBlock) v269 y268) ∧ (Kd.R (Kd.int .i64) 3 w' w.heap.size (fun k_ => some k_ ≠ (v266 : Value).ownBlock ∧ some k_ ≠ (v269 : Value).ownBlock ∧ some k_ ≠ (s_.2.1 : Value).ownBlock ∧ some k_ ≠ (s_.2.2.1 : Value).ownBlock ∧ some k_ ≠ (s_.2.2.2.1 : Value).ownBlock) s_.1 t271) ∧ (Kd.R (Kd.int .i64) 3 w' w.heap.size (fun k_ => some k_ ≠ (v266 : Value).ownBlock ∧ some k_ ≠ (v269 : Value).ownBlock ∧ some k_ ≠ (s_.1 : Value).ownBlock ∧ some k_ ≠ (s_.2.2.1 : Value).ownBlock ∧ some k_ ≠ (s_.2.2.2.1 : Value).ownBlock) s_.2.1 t274) ∧ (Kd.R (Kd.int .i64) 3 w' w.heap.size (fun k_ => some k_ ≠ (v266 : Value).ownBlock ∧ some k_ ≠ (v269 : Value).ownBlock ∧ some k_ ≠ (s_.1 : Value).ownBlock ∧ some k_ ≠ (s_.2.1 : Value).ownBlock ∧ some k_ ≠ (s_.2.2.2.1 : Value).ownBlock) s_.2.2.1 t277) ∧ (Kd.R (Kd.int .i64) 3 w' w.heap.size (fun k_ => some k_ ≠ (v266 : Value).ownBlock ∧ some k_ ≠ (v269 : Value).ownBlock ∧ some k_ ≠ (s_.1 : Value).ownBlock ∧ some k_ ≠ (s_.2.1 : Value).ownBlock ∧ some k_ ≠ (s_.2.2.1 : Value).ownBlock) s_.2.2.2.1 t280) ∧ (w'.heap[gb264]? = some (.cells #[.slice A2_0 l2_0.length c2_0, .slice A2_1 l2_1.length c2_1, .slice A2_2 l2_2.length c2_2] 38 (0, 0))) ∧ (w'.heap[s_.2.2.2.2]? = some (.cells #[.slice none 0 0, .slice none 0 0, .slice none 0 0, .slice none 0 0, .slice none 0 0, .slice none 0 0, .slice none 0 0] 105 (0, 0))) ∧ (w.heap.size ≤ s_.2.2.2.2) ∧ (w.heap.size ≤ s_.2.2.2.2) ∧ (gb264 ≠ s_.2.2.2.2) ∧ (s_.2.2.2.2 ≠ gb264) ∧ (Below w.heap.size w w')) ?_ ?_
 rotate_left
 ·intro hJ1_3_5_7_10
  refine join_ (σ := Value × Value × Value × Value) 2 #[true, true, true, true, true, true, true, true, true, true, false, false] (fun s_ => [(23, s_.1), (25, s_.2.1), (27, s_.2.2.1), (29, s_.2.2.2), (31, .agg #[s_.1, s_.2.1, s_.2.2.1, s_.2.2.2, .slice A2_0 l2_0.length c2_0, .slice A2_1 l2_1.length c2_1, .slice A2_2 l2_2.length c2_2])]) (fun s_ w' => (w'.cell? ⟨gb264, 0, none⟩ = some (.slice A2_0 l2_0.length c2_0) ∧ w'.cell? ⟨gb264, 1, none⟩ = some (.slice A2_1 l2_1.length c2_1) ∧ w'.cell? ⟨gb264, 2, none⟩ = some (.slice A2_2 l2_2.length c2_2)) ∧ (Kd.R (Kd.int .i64) 3 w' w.heap.size (fun k_ => some k_ ≠ (v269 : Value).ownBlock ∧ some k_ ≠ (s_.1 : Value).ownBlock ∧ some k_ ≠ (s_.2.1 : Value).ownBlock ∧ some k_ ≠ (s_.2.2.1 : Value).ownBlock ∧ some k_ ≠ (s_.2.2.2 : Value).ownBlock) v266 y265) ∧ (Kd.R (Kd.int .i64) 3 w' w.heap.size (fun k_ => some k_ ≠ (v266 : Value).ownBlock ∧ some k_ ≠ (s_.1 : Value).ownBlock ∧ some k_ ≠ (s_.2.1 : Value).ownBlock ∧ some k_ ≠ (s_.2.2.1 : Value).ownBlock ∧ some k_ ≠ (s_.2.2.2 : Value).ownBlock) v269 y268) ∧ (Kd.R (Kd.int .i64) 3 w' w.heap.size (fun k_ => some k_ ≠ (v266 : Value).ownBlock ∧ some k_ ≠ (v269 : Value).ownBlock ∧ some k_ ≠ (s_.2.1 : Value).ownBlock ∧ some k_ ≠ (s_.2.2.1 : Value).ownBlock ∧ some k_ ≠ (s_.2.2.2 : Value).ownBlock) s_.1 t271) ∧ (Kd.R (Kd.int .i64) 3 w' w.heap.size (fun k_ => some k_ ≠ (v266 : Value).ownBlock ∧ some k_ ≠ (v269 : Value).ownBlock ∧ some k_ ≠ (s_.1 : Value).ownBlock ∧ some k_ ≠ (s_.2.2.1 : Value).ownBlock ∧ some k_ ≠ (s_.2.2.2 : Value).ownBlock) s_.2.1 t274) ∧ (Kd.R (Kd.int .i64) 3 w' w.heap.size (fun k_ => some k_ ≠ (v266 : Value).ownBlock ∧ some k_ ≠ (v269 : Value).ownBlock ∧ some k_ ≠ (s_.1 : Value).ownBlock ∧ some k_ ≠ (s_.2.1 : Value).ownBlock ∧ some k_ ≠ (s_.2.2.2 : Value).ownBlock) s_.2.2.1 t277) ∧ (Kd.R (Kd.int .i64) 3 w' w.heap.size (fun k_ => some k_ ≠ (v266 : Value).ownBlock ∧ some k_ ≠ (v269 : Value).ownBlock ∧ some k_ ≠ (s_.1 : Value).ownBlock ∧ some k_ ≠ (s_.2.1 : Value).ownBlock ∧ some k_ ≠ (s_.2.2.1 : Value).ownBlock) s_.2.2.2 t280) ∧ (w'.heap[gb264]? = some (.cells #[.slice A2_0 l2_0.length c2_0, .slice A2_1 l2_1.length c2_1, .slice A2_2 l2_2.length c2_2] 38 (0, 0))) ∧ (Below w.heap.size w w')) ?_ ?_
  rotate_left
  ·intro hJ1_3_5_7
   refine join_ (σ := Value × Value × Value × Nat) 3 #[true, true, true, true, true, true, true, false, true, false, true, false] (fun s_ => [(23, s_.1), (25, s_.2.1), (27, s_.2.2.1), (10, .pointer (some ⟨s_.2.2.2, 0, none⟩))]) (fun s_ w' => (w'.cell? ⟨gb264, 0, none⟩ = some (.slice A2_0 l2_0.length c2_0) ∧ w'.cell? ⟨gb264, 1, none⟩ = some (.slice A2_1 l2_1.length c2_1) ∧ w'.cell? ⟨gb264, 2, none⟩ = some (.slice A2_2 l2_2.length c2_2)) ∧ (Kd.R (Kd.int .i64) 3 w' w.heap.size (fun k_ => some k_ ≠ (v269 : Value).ownBlock ∧ some k_ ≠ (s_.1 : Value).ownBlock ∧ some k_ ≠ (s_.2.1 : Value).ownBlock ∧ some k_ ≠ (s_.2.2.1 : Value).ownBlock) v266 y265) ∧ (Kd.R (Kd.int .i64) 3 w' w.heap.size (fun k_ => some k_ ≠ (v266 : Value).ownBlock ∧ some k_ ≠ (s_.1 : Value).ownBlock ∧ some k_ ≠ (s_.2.1 : Value).ownBlock ∧ some k_ ≠ (s_.2.2.1 : Value).ownBlock) v269 y268) ∧ (Kd.R (Kd.int .i64) 3 w' w.heap.size (fun k_ => some k_ ≠ (v266 : Value).ownBlock ∧ some k_ ≠ (v269 : Value).ownBlock ∧ some k_ ≠ (s_.2.1 : Value).ownBlock ∧ some k_ ≠ (s_.2.2.1 : Value).ownBlock) s_.1 t271) ∧ (Kd.R (Kd.int .i64) 3 w' w.heap.size (fun k_ => some k_ ≠ (v266 : Value).ownBlock ∧ some k_ ≠ (v269 : Value).ownBlock ∧ some k_ ≠ (s_.1 : Value).ownBlock ∧ some k_ ≠ (s_.2.2.1 : Value).ownBlock) s_.2.1 t274) ∧ (Kd.R (Kd.int .i64) 3 w' w.heap.size (fun k_ => some k_ ≠ (v266 : Value).ownBlock ∧ some k_ ≠ (v269 : Value).ownBlock ∧ some k_ ≠ (s_.1 : Value).ownBlock ∧ some k_ ≠ (s_.2.1 : Value).ownBlock) s_.2.2.1 t277) ∧ (w'.heap[gb264]? = some (.cells #[.slice A2_0 l2_0.length c2_0, .slice A2_1 l2_1.length c2_1, .slice A2_2 l2_2.length c2_2] 38 (0, 0))) ∧ (w'.heap[s_.2.2.2]? = some (.cells #[.slice none 0 0, .slice none 0 0, .slice none 0 0, .slice none 0 0, .slice none 0 0, .slice none 0 0, .slice none 0 0] 105 (0, 0))) ∧ (w.heap.size ≤ s_.2.2.2) ∧ (w.heap.size ≤ s_.2.2.2) ∧ (gb264 ≠ s_.2.2.2) ∧ (s_.2.2.2 ≠ gb264) ∧ (Below w.heap.size w w')) ?_ ?_
   rotate_left
   ·intro hJ1_3_5_10
    refine join_ (σ := Value × Value × Value) 4 #[true, true, true, true, true, true, true, false, true, false, false, false] (fun s_ => [(23, s_.1), (25, s_.2.1), (27, s_.2.2)]) (fun s_ w' => (w'.cell? ⟨gb264, 0, none⟩ = some (.slice A2_0 l2_0.length c2_0) ∧ w'.cell? ⟨gb264, 1, none⟩ = some (.slice A2_1 l2_1.length c2_1) ∧ w'.cell? ⟨gb264, 2, none⟩ = some (.slice A2_2 l2_2.length c2_2)) ∧ (Kd.R (Kd.int .i64) 3 w' w.heap.size (fun k_ => some k_ ≠ (v269 : Value).ownBlock ∧ some k_ ≠ (s_.1 : Value).ownBlock ∧ some k_ ≠ (s_.2.1 : Value).ownBlock ∧ some k_ ≠ (s_.2.2 : Value).ownBlock) v266 y265) ∧ (Kd.R (Kd.int .i64) 3 w' w.heap.size (fun k_ => some k_ ≠ (v266 : Value).ownBlock ∧ some k_ ≠ (s_.1 : Value).ownBlock ∧ some k_ ≠ (s_.2.1 : Value).ownBlock ∧ some k_ ≠ (s_.2.2 : Value).ownBlock) v269 y268) ∧ (Kd.R (Kd.int .i64) 3 w' w.heap.size (fun k_ => some k_ ≠ (v266 : Value).ownBlock ∧ some k_ ≠ (v269 : Value).ownBlock ∧ some k_ ≠ (s_.2.1 : Value).ownBlock ∧ some k_ ≠ (s_.2.2 : Value).ownBlock) s_.1 t271) ∧ (Kd.R (Kd.int .i64) 3 w' w.heap.size (fun k_ => some k_ ≠ (v266 : Value).ownBlock ∧ some k_ ≠ (v269 : Value).ownBlock ∧ some k_ ≠ (s_.1 : Value).ownBlock ∧ some k_ ≠ (s_.2.2 : Value).ownBlock) s_.2.1 t274) ∧ (Kd.R (Kd.int .i64) 3 w' w.heap.size (fun k_ => some k_ ≠ (v266 : Value).ownBlock ∧ some k_ ≠ (v269 : Value).ownBlock ∧ some k_ ≠ (s_.1 : Value).ownBlock ∧ some k_ ≠ (s_.2.1 : Value).ownBlock) s_.2.2 t277) ∧ (w'.heap[gb264]? = some (.cells #[.slice A2_0 l2_0.length c2_0, .slice A2_1 l2_1.length c2_1, .slice A2_2 l2_2.length c2_2] 38 (0, 0))) ∧ (Below w.heap.size w w')) ?_ ?_
    rotate_left
    ·intro hJ1_3_5
     refine join_ (σ := Value × Value × Nat) 4 #[true, true, true, true, true, false, true, false, true, false, true, false] (fun s_ => [(23, s_.1), (25, s_.2.1), (10, .pointer (some ⟨s_.2.2, 0, none⟩))]) (fun s_ w' => (w'.cell? ⟨gb264, 0, none⟩ = some (.slice A2_0 l2_0.length c2_0) ∧ w'.cell? ⟨gb264, 1, none⟩ = some (.slice A2_1 l2_1.length c2_1) ∧ w'.cell? ⟨gb264, 2, none⟩ = some (.slice A2_2 l2_2.length c2_2)) ∧ (Kd.R (Kd.int .i64) 3 w' w.heap.size (fun k_ => some k_ ≠ (v269 : Value).ownBlock ∧ some k_ ≠ (s_.1 : Value).ownBlock ∧ some k_ ≠ (s_.2.1 : Value).ownBlock) v266 y265) ∧ (Kd.R (Kd.int .i64) 3 w' w.heap.size (fun k_ => some k_ ≠ (v266 : Value).ownBlock ∧ some k_ ≠ (s_.1 : Value).ownBlock ∧ some k_ ≠ (s_.2.1 : Value).ownBlock) v269 y268) ∧ (Kd.R (Kd.int .i64) 3 w' w.heap.size (fun k_ => some k_ ≠ (v266 : Value).ownBlock ∧ some k_ ≠ (v269 : Value).ownBlock ∧ some k_ ≠ (s_.2.1 : Value).ownBlock) s_.1 t271) ∧ (Kd.R (Kd.int .i64) 3 w' w.heap.size (fun k_ => some k_ ≠ (v266 : Value).ownBlock ∧ some k_ ≠ (v269 : Value).ownBlock ∧ some k_ ≠ (s_.1 : Value).ownBlock) s_.2.1 t274) ∧ (w'.heap[gb264]? = some (.cells #[.slice A2_0 l2_0.length c2_0, .slice A2_1 l2_1.length c2_1, .slice A2_2 l2_2.length c2_2] 38 (0, 0))) ∧ (w'.heap[s_.2.2]? = some (.cells #[.slice none 0 0, .slice none 0 0, .slice none 0 0, .slice none 0 0, .slice none 0 0, .slice none 0 0, .slice none 0 0] 105 (0, 0))) ∧ (w.heap.size ≤ s_.2.2) ∧ (w.heap.size ≤ s_.2.2) ∧ (gb264 ≠ s_.2.2) ∧ (s_.2.2 ≠ gb264) ∧ (Below w.heap.size w w')) ?_ ?_
     rotate_left
     ·intro hJ1_3_10
      refine join_ (σ := Value × Value) 5 #[true, true, true, true, true, false, true, false, true, false, false, false] (fun s_ => [(23, s_.1), (25, s_.2)]) (fun s_ w' => (w'.cell? ⟨gb264, 0, none⟩ = some (.slice A2_0 l2_0.length c2_0) ∧ w'.cell? ⟨gb264, 1, none⟩ = some (.slice A2_1 l2_1.length c2_1) ∧ w'.cell? ⟨gb264, 2, none⟩ = some (.slice A2_2 l2_2.length c2_2)) ∧ (Kd.R (Kd.int .i64) 3 w' w.heap.size (fun k_ => some k_ ≠ (v269 : Value).ownBlock ∧ some k_ ≠ (s_.1 : Value).ownBlock ∧ some k_ ≠ (s_.2 : Value).ownBlock) v266 y265) ∧ (Kd.R (Kd.int .i64) 3 w' w.heap.size (fun k_ => some k_ ≠ (v266 : Value).ownBlock ∧ some k_ ≠ (s_.1 : Value).ownBlock ∧ some k_ ≠ (s_.2 : Value).ownBlock) v269 y268) ∧ (Kd.R (Kd.int .i64) 3 w' w.heap.size (fun k_ => some k_ ≠ (v266 : Value).ownBlock ∧ some k_ ≠ (v269 : Value).ownBlock ∧ some k_ ≠ (s_.2 : Value).ownBlock) s_.1 t271) ∧ (Kd.R (Kd.int .i64) 3 w' w.heap.size (fun k_ => some k_ ≠ (v266 : Value).ownBlock ∧ some k_ ≠ (v269 : Value).ownBlock ∧ some k_ ≠ (s_.1 : Value).ownBlock) s_.2 t274) ∧ (w'.heap[gb264]? = some (.cells #[.slice A2_0 l2_0.length c2_0, .slice A2_1 l2_1.length c2_1, .slice A2_2 l2_2.length c2_2] 38 (0, 0))) ∧ (Below w.heap.size w w')) ?_ ?_
      rotate_left
      ·intro hJ1_3
       refine join_ (σ := Value × Nat) 5 #[true, true, true, false, true, false, true, false, true, false, true, false] (fun s_ => [(23, s_.1), (10, .pointer (some ⟨s_.2, 0, none⟩))]) (fun s_ w' => (w'.cell? ⟨gb264, 0, none⟩ = some (.slice A2_0 l2_0.length c2_0) ∧ w'.cell? ⟨gb264, 1, none⟩ = some (.slice A2_1 l2_1.length c2_1) ∧ w'.cell? ⟨gb264, 2, none⟩ = some (.slice A2_2 l2_2.length c2_2)) ∧ (Kd.R (Kd.int .i64) 3 w' w.heap.size (fun k_ => some k_ ≠ (v269 : Value).ownBlock ∧ some k_ ≠ (s_.1 : Value).ownBlock) v266 y265) ∧ (Kd.R (Kd.int .i64) 3 w' w.heap.size (fun k_ => some k_ ≠ (v266 : Value).ownBlock ∧ some k_ ≠ (s_.1 : Value).ownBlock) v269 y268) ∧ (Kd.R (Kd.int .i64) 3 w' w.heap.size (fun k_ => some k_ ≠ (v266 : Value).ownBlock ∧ some k_ ≠ (v269 : Value).ownBlock) s_.1 t271) ∧ (w'.heap[gb264]? = some (.cells #[.slice A2_0 l2_0.length c2_0, .slice A2_1 l2_1.length c2_1, .slice A2_2 l2_2.length c2_2] 38 (0, 0))) ∧ (w'.heap[s_.2]? = some (.cells #[.slice none 0 0, .slice none 0 0, .slice none 0 0, .slice none 0 0, .slice none 0 0, .slice none 0 0, .slice none 0 0] 105 (0, 0))) ∧ (w.heap.size ≤ s_.2) ∧ (w.heap.size ≤ s_.2) ∧ (gb264 ≠ s_.2) ∧ (s_.2 ≠ gb264) ∧ (Below w.heap.size w w')) ?_ ?_
       rotate_left
       ·intro hJ1_10
        refine join_ (σ := Value) 6 #[true, true, true, false, true, false, true, false, true, false, false, false] (fun s_ => [(23, s_)]) (fun s_ w' => (w'.cell? ⟨gb264, 0, none⟩ = some (.slice A2_0 l2_0.length c2_0) ∧ w'.cell? ⟨gb264, 1, none⟩ = some (.slice A2_1 l2_1.length c2_1) ∧ w'.cell? ⟨gb264, 2, none⟩ = some (.slice A2_2 l2_2.length c2_2)) ∧ (Kd.R (Kd.int .i64) 3 w' w.heap.size (fun k_ => some k_ ≠ (v269 : Value).ownBlock ∧ some k_ ≠ (s_ : Value).ownBlock) v266 y265) ∧ (Kd.R (Kd.int .i64) 3 w' w.heap.size (fun k_ => some k_ ≠ (v266 : Value).ownBlock ∧ some k_ ≠ (s_ : Value).ownBlock) v269 y268) ∧ (Kd.R (Kd.int .i64) 3 w' w.heap.size (fun k_ => some k_ ≠ (v266 : Value).ownBlock ∧ some k_ ≠ (v269 : Value).ownBlock) s_ t271) ∧ (w'.heap[gb264]? = some (.cells #[.slice A2_0 l2_0.length c2_0, .slice A2_1 l2_1.length c2_1, .slice A2_2 l2_2.length c2_2] 38 (0, 0))) ∧ (Below w.heap.size w w')) ?_ ?_
        rotate_left
        ·intro hJ1
         refine join_ (σ := Nat) 6 #[true, false, true, false, true, false, true, false, true, false, true, false] (fun s_ => [(10, .pointer (some ⟨s_, 0, none⟩))]) (fun s_ w' => (w'.cell? ⟨gb264, 0, none⟩ = some (.slice A2_0 l2_0.length c2_0) ∧ w'.cell? ⟨gb264, 1, none⟩ = some (.slice A2_1 l2_1.length c2_1) ∧ w'.cell? ⟨gb264, 2, none⟩ = some (.slice A2_2 l2_2.length c2_2)) ∧ (Kd.R (Kd.int .i64) 3 w' w.heap.size (fun k_ => some k_ ≠ (v269 : Value).ownBlock) v266 y265) ∧ (Kd.R (Kd.int .i64) 3 w' w.heap.size (fun k_ => some k_ ≠ (v266 : Value).ownBlock) v269 y268) ∧ (w'.heap[gb264]? = some (.cells #[.slice A2_0 l2_0.length c2_0, .slice A2_1 l2_1.length c2_1, .slice A2_2 l2_2.length c2_2] 38 (0, 0))) ∧ (w'.heap[s_]? = some (.cells #[.slice none 0 0, .slice none 0 0, .slice none 0 0, .slice none 0 0, .slice none 0 0, .slice none 0 0, .slice none 0 0] 105 (0, 0))) ∧ (w.heap.size ≤ s_) ∧ (w.heap.size ≤ s_) ∧ (gb264 ≠ s_) ∧ (s_ ≠ gb264) ∧ (Below w.heap.size w w')) ?_ ?_
         rotate_left
         ·intro hJ10
          refine two_ (i := 1) (j := 10) (Ni := some 23) (Nj := some 10) #[true, true, true, false, true, false, true, false, true, false, false, false] #[true, false, true, false, true, false, true, false, true, false, true, false] rfl rfl rfl rfl (two_of HT_.out (by kernel_rfl)) (by decide) (by decide) (fun K hK => ?_) (fun K hK => ?_)
          ·skip
           refine goes_ Try.func80 (by kernel_rfl) rfl #[.slice A0 l0.length c0] (by rfl) rfl rfl z1_ ?_
           with_reducible refine (spec_l8Labels.calls k _ _ l0 t271 _ ?side1 ?side2 A7.out).mono ?_
           (case side1 => exact z3_)
           (case side2 => exact HC0.out)
           rintro e w19 ⟨v272, rfl, ho0, hb⟩
           refine ⟨_, rfl, ?_⟩
           have n0_ := Aside0.mk (Kd.R_elder' z20_ (Kd.R_base ho0) hb)
           have n1_ := Aside0.mk (Kd.R_elder' z22_ (Kd.R_base ho0) hb)
           have n2_ := Aside0.mk (Kd.R_lower (Kd.R_new' (Kd.R_new' ho0 (Kd.R_lt z20_)) (Kd.R_lt z22_)) (below_size z10_))
           have n3_ := Aside0.mk (blk_below (g := gb264) (o := .cells #[.slice A2_0 l2_0.length c2_0, .slice A2_1 l2_1.length c2_1, .slice A2_2 l2_2.length c2_2] 38 (0, 0)) z9_ hb)
           have n4_ := Aside0.mk (below_step z10_ hb)
           clear HO267
           clear HO270
           clear BK264
           clear HB
           have HO267 := n0_
           have HO270 := n1_
           have HO273 := n2_
           have BK264 := n3_
           have HB := n4_
           clear n0_ n1_ n2_ n3_ n4_
           (try clear hb)
           (try clear hb2)
           (try clear hk)
           (try clear hi)
           (try clear ho0)
           refine hK.out _ _ ⟨(blk_cell BK264.out 0).trans rfl, (blk_cell BK264.out 1).trans rfl, (blk_cell BK264.out 2).trans rfl⟩ (fun hHeld => ?_)
           clear hK K
           refine zn_ rfl ?_
           exact norm_ z23_ (hJ1 (v272) _ ⟨hHeld, (by (with_reducible repeat (first | apply Kd.R_alloc | apply Kd.R_drewN | apply Kd.R_drew)); exact Kd.R_mono HO267.out (fun _ hk => ⟨hk.1.2, hk.2⟩)), (by (with_reducible repeat (first | apply Kd.R_alloc | apply Kd.R_drewN | apply Kd.R_drew)); exact Kd.R_mono HO270.out (fun _ hk => ⟨hk.1.2, hk.2⟩)), z233_, z9_, z10_⟩)
          ·skip
           refine box_step ?hg (N := 10) ?hd (cs := #[.slice none 0 0, .slice none 0 0, .slice none 0 0, .slice none 0 0, .slice none 0 0, .slice none 0 0, .slice none 0 0]) (t := 105) ?hr ?_; (case hd => rfl); (case hg => rfl); (case hr => exact z14_)
           intro gb283 hg w19 hbox hb
           have n0_ := Aside0.mk (Kd.R_below z20_ hb)
           have n1_ := Aside0.mk (Kd.R_below z22_ hb)
           have n2_ := Aside0.mk (blk_below (g := gb264) (o := .cells #[.slice A2_0 l2_0.length c2_0, .slice A2_1 l2_1.length c2_1, .slice A2_2 l2_2.length c2_2] 38 (0, 0)) z9_ hb)
           have n3_ := Aside0.mk (below_step z10_ hb)
           have n4_ := Aside0.mk (hbox)
           have n5_ := Aside0.mk ((by rw [hg]; exact (below_size z10_) : w.heap.size ≤ gb283))
           have n6_ := Aside0.mk ((by rw [hg]; exact (below_size z10_) : w.heap.size ≤ gb283))
           have n7_ := Aside0.mk ((by rw [hg]; exact Nat.ne_of_lt (blk_lt (g := gb264) (o := .cells #[.slice A2_0 l2_0.length c2_0, .slice A2_1 l2_1.length c2_1, .slice A2_2 l2_2.length c2_2] 38 (0, 0)) z9_) : gb264 ≠ gb283))
           have n8_ := Aside0.mk ((by rw [hg]; exact Nat.ne_of_gt (blk_lt (g := gb264) (o := .cells #[.slice A2_0 l2_0.length c2_0, .slice A2_1 l2_1.length c2_1, .slice A2_2 l2_2.length c2_2] 38 (0, 0)) z9_) : gb283 ≠ gb264))
           clear HO267
           clear HO270
           clear BK264
           clear HB
           have HO267 := n0_
           have HO270 := n1_
           have BK264 := n2_
           have HB := n3_
           have BK283 := n4_
           have GW283 := n5_
           have GE283 := n6_
           have NB264_283 := n7_
           have NB283_264 := n8_
           clear n0_ n1_ n2_ n3_ n4_ n5_ n6_ n7_ n8_
           clear hb hbox hg
           refine hK.out _ _ ⟨(blk_cell BK264.out 0).trans rfl, (blk_cell BK264.out 1).trans rfl, (blk_cell BK264.out 2).trans rfl⟩ (fun hHeld => ?_)
           clear hK K
           refine zn_ rfl ?_
           exact norm_ z23_ (hJ10 (gb283) _ ⟨hHeld, (by (with_reducible repeat (first | apply Kd.R_alloc | apply Kd.R_drewN | apply Kd.R_drew)); exact Kd.R_mono HO267.out (fun _ hk => hk.2)), (by (with_reducible repeat (first | apply Kd.R_alloc | apply Kd.R_drewN | apply Kd.R_drew)); exact Kd.R_mono HO270.out (fun _ hk => hk.2)), z9_, z34_, GW283.out, GE283.out, NB264_283.out, NB283_264.out, z6_⟩)
         ·skip
          rintro gb283 w20 ⟨hS_, h0_, h1_, h2_, h3_, h4_, h5_, h6_, h7_, h8_⟩
          have n0_ : Aside0 (Kd.R (Kd.int .i64) 3 w20 w.heap.size (fun k_ => some k_ ≠ (v269 : Value).ownBlock) v266 y265) := ⟨h0_⟩
          have n1_ : Aside0 (Kd.R (Kd.int .i64) 3 w20 w.heap.size (fun k_ => some k_ ≠ (v266 : Value).ownBlock) v269 y268) := ⟨h1_⟩
          have n2_ : Aside0 (w20.heap[gb264]? = some (.cells #[.slice A2_0 l2_0.length c2_0, .slice A2_1 l2_1.length c2_1, .slice A2_2 l2_2.length c2_2] 38 (0, 0))) := ⟨h2_⟩
          have n3_ : Aside0 (w20.heap[gb283]? = some (.cells #[.slice none 0 0, .slice none 0 0, .slice none 0 0, .slice none 0 0, .slice none 0 0, .slice none 0 0, .slice none 0 0] 105 (0, 0))) := ⟨h3_⟩
          have n4_ : Aside0 (w.heap.size ≤ gb283) := ⟨h4_⟩
          have n5_ : Aside0 (w.heap.size ≤ gb283) := ⟨h5_⟩
          have n6_ : Aside0 (gb264 ≠ gb283) := ⟨h6_⟩
          have n7_ : Aside0 (gb283 ≠ gb264) := ⟨h7_⟩
          have n8_ : Aside0 (Below w.heap.size w w20) := ⟨h8_⟩
          clear HO267
          clear HO270
          clear BK264
          clear HB
          clear h0_ h1_ h2_ h3_ h4_ h5_ h6_ h7_ h8_
          have HO267 := n0_
          have HO270 := n1_
          have BK264 := n2_
          have BK283 := n3_
          have GW283 := n4_
          have GE283 := n5_
          have NB264_283 := n6_
          have NB283_264 := n7_
          have HB := n8_
          clear n0_ n1_ n2_ n3_ n4_ n5_ n6_ n7_ n8_
          have hHeld : w20.cell? ⟨gb264, 0, none⟩ = some (.slice A2_0 l2_0.length c2_0) ∧ w20.cell? ⟨gb264, 1, none⟩ = some (.slice A2_1 l2_1.length c2_1) ∧ w20.cell? ⟨gb264, 2, none⟩ = some (.slice A2_2 l2_2.length c2_2) := hS_
          refine norm_ (a' := ?_) ?_ ?_
          rotate_left
          ·simp only [putAll, Act.put, List.setIfInBounds_toArray, List.set_cons_zero, List.set_cons_succ]
           rfl
          refine one_ (i := 1) (N := some 23) (ra_ [3, 1, 1, 1, 1, 1, 1, 1, 1, 1]) rfl rfl (one_of HT_.out (by kernel_rfl)) (by decide) (fun K hK => ?_)
          refine goes_ Try.func80 (by kernel_rfl) rfl #[.slice A0 l0.length c0] (by rfl) rfl rfl z1_ ?_
          with_reducible refine (spec_l8Labels.calls k _ _ l0 t271 _ ?side1 ?side2 A7.out).mono ?_
          (case side1 => exact z3_)
          (case side2 => exact HC0.out)
          rintro e w21 ⟨v272, rfl, ho0, hb⟩
          refine ⟨_, rfl, ?_⟩
          have n0_ := Aside0.mk (Kd.R_elder' z20_ (Kd.R_base ho0) hb)
          have n1_ := Aside0.mk (Kd.R_elder' z22_ (Kd.R_base ho0) hb)
          have n2_ := Aside0.mk (Kd.R_lower (Kd.R_new' (Kd.R_new' ho0 (Kd.R_lt z20_)) (Kd.R_lt z22_)) (below_size z6_))
          have n3_ := Aside0.mk (blk_below (g := gb264) (o := .cells #[.slice A2_0 l2_0.length c2_0, .slice A2_1 l2_1.length c2_1, .slice A2_2 l2_2.length c2_2] 38 (0, 0)) z9_ hb)
          have n4_ := Aside0.mk (blk_below (g := gb283) (o := .cells #[.slice none 0 0, .slice none 0 0, .slice none 0 0, .slice none 0 0, .slice none 0 0, .slice none 0 0, .slice none 0 0] 105 (0, 0)) z34_ hb)
          have n5_ := Aside0.mk (below_step z6_ hb)
          clear HO267
          clear HO270
          clear BK264
          clear BK283
          clear HB
          have HO267 := n0_
          have HO270 := n1_
          have HO273 := n2_
          have BK264 := n3_
          have BK283 := n4_
          have HB := n5_
          clear n0_ n1_ n2_ n3_ n4_ n5_
          (try clear hb)
          (try clear hb2)
          (try clear hk)
          (try clear hi)
          (try clear ho0)
          refine hK.out _ _ ⟨(blk_cell BK264.out 0).trans rfl, (blk_cell BK264.out 1).trans rfl, (blk_cell BK264.out 2).trans rfl⟩ (fun hHeld => ?_)
          clear hK K
          refine zn_ rfl ?_
          exact norm_ z23_ (hJ1_10 (v272, gb283) _ ⟨hHeld, z20_, z22_, z233_, z9_, z34_, GW283.out, GE283.out, NB264_283.out, NB283_264.out, z6_⟩)
        ·skip
         rintro v272 w20 ⟨hS_, h0_, h1_, h2_, h3_, h4_⟩
         have n0_ : Aside0 (Kd.R (Kd.int .i64) 3 w20 w.heap.size (fun k_ => some k_ ≠ (v269 : Value).ownBlock ∧ some k_ ≠ (v272 : Value).ownBlock) v266 y265) := ⟨h0_⟩
         have n1_ : Aside0 (Kd.R (Kd.int .i64) 3 w20 w.heap.size (fun k_ => some k_ ≠ (v266 : Value).ownBlock ∧ some k_ ≠ (v272 : Value).ownBlock) v269 y268) := ⟨h1_⟩
         have n2_ : Aside0 (Kd.R (Kd.int .i64) 3 w20 w.heap.size (fun k_ => some k_ ≠ (v266 : Value).ownBlock ∧ some k_ ≠ (v269 : Value).ownBlock) v272 t271) := ⟨h2_⟩
         have n3_ : Aside0 (w20.heap[gb264]? = some (.cells #[.slice A2_0 l2_0.length c2_0, .slice A2_1 l2_1.length c2_1, .slice A2_2 l2_2.length c2_2] 38 (0, 0))) := ⟨h3_⟩
         have n4_ : Aside0 (Below w.heap.size w w20) := ⟨h4_⟩
         clear HO267
         clear HO270
         clear BK264
         clear HB
         clear h0_ h1_ h2_ h3_ h4_
         have HO267 := n0_
         have HO270 := n1_
         have HO273 := n2_
         have BK264 := n3_
         have HB := n4_
         clear n0_ n1_ n2_ n3_ n4_
         have hHeld : w20.cell? ⟨gb264, 0, none⟩ = some (.slice A2_0 l2_0.length c2_0) ∧ w20.cell? ⟨gb264, 1, none⟩ = some (.slice A2_1 l2_1.length c2_1) ∧ w20.cell? ⟨gb264, 2, none⟩ = some (.slice A2_2 l2_2.length c2_2) := hS_
         refine norm_ (a' := ?_) ?_ ?_
         rotate_left
         ·simp only [putAll, Act.put, List.setIfInBounds_toArray, List.set_cons_zero, List.set_cons_succ]
          rfl
         refine two_ (i := 3) (j := 10) (Ni := some 25) (Nj := some 10) #[true, true, true, true, true, false, true, false, true, false, false, false] #[true, true, true, false, true, false, true, false, true, false, true, false] rfl rfl rfl rfl (two_of HT_.out (by kernel_rfl)) (by decide) (by decide) (fun K hK => ?_) (fun K hK => ?_)
         ·skip
          refine goes_ Try.func80 (by kernel_rfl) rfl #[.slice A1 l1.length c1] (by rfl) rfl rfl z1_ ?_
          with_reducible refine (spec_l8Labels.calls k _ _ l1 t274 _ ?side1 ?side2 A8.out).mono ?_
          (case side1 => exact z8_)
          (case side2 => exact HC1.out)
          rintro e w21 ⟨v275, rfl, ho0, hb⟩
          refine ⟨_, rfl, ?_⟩
          have n0_ := Aside0.mk (Kd.R_elder' z20_ (Kd.R_base ho0) hb)
          have n1_ := Aside0.mk (Kd.R_elder' z22_ (Kd.R_base ho0) hb)
          have n2_ := Aside0.mk (Kd.R_elder' z32_ (Kd.R_base ho0) hb)
          have n3_ := Aside0.mk (Kd.R_lower (Kd.R_new' (Kd.R_new' (Kd.R_new' ho0 (Kd.R_lt z20_)) (Kd.R_lt z22_)) (Kd.R_lt z32_)) (below_size z10_))
          have n4_ := Aside0.mk (blk_below (g := gb264) (o := .cells #[.slice A2_0 l2_0.length c2_0, .slice A2_1 l2_1.length c2_1, .slice A2_2 l2_2.length c2_2] 38 (0, 0)) z9_ hb)
          have n5_ := Aside0.mk (below_step z10_ hb)
          clear HO267
          clear HO270
          clear HO273
          clear BK264
          clear HB
          have HO267 := n0_
          have HO270 := n1_
          have HO273 := n2_
          have HO276 := n3_
          have BK264 := n4_
          have HB := n5_
          clear n0_ n1_ n2_ n3_ n4_ n5_
          (try clear hb)
          (try clear hb2)
          (try clear hk)
          (try clear hi)
          (try clear ho0)
          refine hK.out _ _ ⟨(blk_cell BK264.out 0).trans rfl, (blk_cell BK264.out 1).trans rfl, (blk_cell BK264.out 2).trans rfl⟩ (fun hHeld => ?_)
          clear hK K
          refine zn_ rfl ?_
          exact norm_ z23_ (hJ1_3 (v272, v275) _ ⟨hHeld, z229_, z230_, z231_, z227_, z9_, z10_⟩)
         ·skip
          refine box_step ?hg (N := 10) ?hd (cs := #[.slice none 0 0, .slice none 0 0, .slice none 0 0, .slice none 0 0, .slice none 0 0, .slice none 0 0, .slice none 0 0]) (t := 105) ?hr ?_; (case hd => rfl); (case hg => rfl); (case hr => exact z14_)
          intro gb283 hg w21 hbox hb
          have n0_ := Aside0.mk (Kd.R_below z20_ hb)
          have n1_ := Aside0.mk (Kd.R_below z22_ hb)
          have n2_ := Aside0.mk (Kd.R_below z32_ hb)
          have n3_ := Aside0.mk (blk_below (g := gb264) (o := .cells #[.slice A2_0 l2_0.length c2_0, .slice A2_1 l2_1.length c2_1, .slice A2_2 l2_2.length c2_2] 38 (0, 0)) z9_ hb)
          have n4_ := Aside0.mk (below_step z10_ hb)
          have n5_ := Aside0.mk (hbox)
          have n6_ := Aside0.mk ((by rw [hg]; exact (below_size z10_) : w.heap.size ≤ gb283))
          have n7_ := Aside0.mk ((by rw [hg]; exact (below_size z10_) : w.heap.size ≤ gb283))
          have n8_ := Aside0.mk ((by rw [hg]; exact Nat.ne_of_lt (blk_lt (g := gb264) (o := .cells #[.slice A2_0 l2_0.length c2_0, .slice A2_1 l2_1.length c2_1, .slice A2_2 l2_2.length c2_2] 38 (0, 0)) z9_) : gb264 ≠ gb283))
          have n9_ := Aside0.mk ((by rw [hg]; exact Nat.ne_of_gt (blk_lt (g := gb264) (o := .cells #[.slice A2_0 l2_0.length c2_0, .slice A2_1 l2_1.length c2_1, .slice A2_2 l2_2.length c2_2] 38 (0, 0)) z9_) : gb283 ≠ gb264))
          clear HO267
          clear HO270
          clear HO273
          clear BK264
          clear HB
          have HO267 := n0_
          have HO270 := n1_
          have HO273 := n2_
          have BK264 := n3_
          have HB := n4_
          have BK283 := n5_
          have GW283 := n6_
          have GE283 := n7_
          have NB264_283 := n8_
          have NB283_264 := n9_
          clear n0_ n1_ n2_ n3_ n4_ n5_ n6_ n7_ n8_ n9_
          clear hb hbox hg
          refine hK.out _ _ ⟨(blk_cell BK264.out 0).trans rfl, (blk_cell BK264.out 1).trans rfl, (blk_cell BK264.out 2).trans rfl⟩ (fun hHeld => ?_)
          clear hK K
          refine zn_ rfl ?_
          exact norm_ z23_ (hJ1_10 (v272, gb283) _ ⟨hHeld, z20_, z22_, z32_, z9_, z34_, GW283.out, GE283.out, NB264_283.out, NB283_264.out, z6_⟩)
       ·skip
        rintro ⟨v272, gb283⟩ w21 ⟨hS_, h0_, h1_, h2_, h3_, h4_, h5_, h6_, h7_, h8_, h9_⟩
        have n0_ : Aside0 (Kd.R (Kd.int .i64) 3 w21 w.heap.size (fun k_ => some k_ ≠ (v269 : Value).ownBlock ∧ some k_ ≠ (v272 : Value).ownBlock) v266 y265) := ⟨h0_⟩
        have n1_ : Aside0 (Kd.R (Kd.int .i64) 3 w21 w.heap.size (fun k_ => some k_ ≠ (v266 : Value).ownBlock ∧ some k_ ≠ (v272 : Value).ownBlock) v269 y268) := ⟨h1_⟩
        have n2_ : Aside0 (Kd.R (Kd.int .i64) 3 w21 w.heap.size (fun k_ => some k_ ≠ (v266 : Value).ownBlock ∧ some k_ ≠ (v269 : Value).ownBlock) v272 t271) := ⟨h2_⟩
        have n3_ : Aside0 (w21.heap[gb264]? = some (.cells #[.slice A2_0 l2_0.length c2_0, .slice A2_1 l2_1.length c2_1, .slice A2_2 l2_2.length c2_2] 38 (0, 0))) := ⟨h3_⟩
        have n4_ : Aside0 (w21.heap[gb283]? = some (.cells #[.slice none 0 0, .slice none 0 0, .slice none 0 0, .slice none 0 0, .slice none 0 0, .slice none 0 0, .slice none 0 0] 105 (0, 0))) := ⟨h4_⟩
        have n5_ : Aside0 (w.heap.size ≤ gb283) := ⟨h5_⟩
        have n6_ : Aside0 (w.heap.size ≤ gb283) := ⟨h6_⟩
        have n7_ : Aside0 (gb264 ≠ gb283) := ⟨h7_⟩
        have n8_ : Aside0 (gb283 ≠ gb264) := ⟨h8_⟩
        have n9_ : Aside0 (Below w.heap.size w w21) := ⟨h9_⟩
        clear HO267
        clear HO270
        clear BK264
        clear HB
        clear h0_ h1_ h2_ h3_ h4_ h5_ h6_ h7_ h8_ h9_
        have HO267 := n0_
        have HO270 := n1_
        have HO273 := n2_
        have BK264 := n3_
        have BK283 := n4_
        have GW283 := n5_
        have GE283 := n6_
        have NB264_283 := n7_
        have NB283_264 := n8_
        have HB := n9_
        clear n0_ n1_ n2_ n3_ n4_ n5_ n6_ n7_ n8_ n9_
        have hHeld : w21.cell? ⟨gb264, 0, none⟩ = some (.slice A2_0 l2_0.length c2_0) ∧ w21.cell? ⟨gb264, 1, none⟩ = some (.slice A2_1 l2_1.length c2_1) ∧ w21.cell? ⟨gb264, 2, none⟩ = some (.slice A2_2 l2_2.length c2_2) := hS_
        refine norm_ (a' := ?_) ?_ ?_
        rotate_left
        ·simp only [putAll, Act.put, List.setIfInBounds_toArray, List.set_cons_zero, List.set_cons_succ]
         rfl
        refine one_ (i := 3) (N := some 25) (ra_ [5, 1, 1, 1, 1, 1, 1, 1]) rfl rfl (one_of HT_.out (by kernel_rfl)) (by decide) (fun K hK => ?_)
        refine goes_ Try.func80 (by kernel_rfl) rfl #[.slice A1 l1.length c1] (by rfl) rfl rfl z1_ ?_
        with_reducible refine (spec_l8Labels.calls k _ _ l1 t274 _ ?side1 ?side2 A8.out).mono ?_
        (case side1 => exact z8_)
        (case side2 => exact HC1.out)
        rintro e w22 ⟨v275, rfl, ho0, hb⟩
        refine ⟨_, rfl, ?_⟩
        have n0_ := Aside0.mk (Kd.R_elder' z20_ (Kd.R_base ho0) hb)
        have n1_ := Aside0.mk (Kd.R_elder' z22_ (Kd.R_base ho0) hb)
        have n2_ := Aside0.mk (Kd.R_elder' z32_ (Kd.R_base ho0) hb)
        have n3_ := Aside0.mk (Kd.R_lower (Kd.R_new' (Kd.R_new' (Kd.R_new' ho0 (Kd.R_lt z20_)) (Kd.R_lt z22_)) (Kd.R_lt z32_)) (below_size z6_))
        have n4_ := Aside0.mk (blk_below (g := gb264) (o := .cells #[.slice A2_0 l2_0.length c2_0, .slice A2_1 l2_1.length c2_1, .slice A2_2 l2_2.length c2_2] 38 (0, 0)) z9_ hb)
        have n5_ := Aside0.mk (blk_below (g := gb283) (o := .cells #[.slice none 0 0, .slice none 0 0, .slice none 0 0, .slice none 0 0, .slice none 0 0, .slice none 0 0, .slice none 0 0] 105 (0, 0)) z34_ hb)
        have n6_ := Aside0.mk (below_step z6_ hb)
        clear HO267
        clear HO270
        clear HO273
        clear BK264
        clear BK283
        clear HB
        have HO267 := n0_
        have HO270 := n1_
        have HO273 := n2_
        have HO276 := n3_
        have BK264 := n4_
        have BK283 := n5_
        have HB := n6_
        clear n0_ n1_ n2_ n3_ n4_ n5_ n6_
        (try clear hb)
        (try clear hb2)
        (try clear hk)
        (try clear hi)
        (try clear ho0)
        refine hK.out _ _ ⟨(blk_cell BK264.out 0).trans rfl, (blk_cell BK264.out 1).trans rfl, (blk_cell BK264.out 2).trans rfl⟩ (fun hHeld => ?_)
        clear hK K
        refine zn_ rfl ?_
        exact norm_ z23_ (hJ1_3_10 (v272, v275, gb283) _ ⟨hHeld, z229_, z230_, z231_, z227_, z9_, z34_, GW283.out, GE283.out, NB264_283.out, NB283_264.out, z6_⟩)
      ·skip
       rintro ⟨v272, v275⟩ w21 ⟨hS_, h0_, h1_, h2_, h3_, h4_, h5_⟩
       have n0_ : Aside0 (Kd.R (Kd.int .i64) 3 w21 w.heap.size (fun k_ => some k_ ≠ (v269 : Value).ownBlock ∧ some k_ ≠ (v272 : Value).ownBlock ∧ some k_ ≠ (v275 : Value).ownBlock) v266 y265) := ⟨h0_⟩
       have n1_ : Aside0 (Kd.R (Kd.int .i64) 3 w21 w.heap.size (fun k_ => some k_ ≠ (v266 : Value).ownBlock ∧ some k_ ≠ (v272 : Value).ownBlock ∧ some k_ ≠ (v275 : Value).ownBlock) v269 y268) := ⟨h1_⟩
       have n2_ : Aside0 (Kd.R (Kd.int .i64) 3 w21 w.heap.size (fun k_ => some k_ ≠ (v266 : Value).ownBlock ∧ some k_ ≠ (v269 : Value).ownBlock ∧ some k_ ≠ (v275 : Value).ownBlock) v272 t271) := ⟨h2_⟩
       have n3_ : Aside0 (Kd.R (Kd.int .i64) 3 w21 w.heap.size (fun k_ => some k_ ≠ (v266 : Value).ownBlock ∧ some k_ ≠ (v269 : Value).ownBlock ∧ some k_ ≠ (v272 : Value).ownBlock) v275 t274) := ⟨h3_⟩
       have n4_ : Aside0 (w21.heap[gb264]? = some (.cells #[.slice A2_0 l2_0.length c2_0, .slice A2_1 l2_1.length c2_1, .slice A2_2 l2_2.length c2_2] 38 (0, 0))) := ⟨h4_⟩
       have n5_ : Aside0 (Below w.heap.size w w21) := ⟨h5_⟩
       clear HO267
       clear HO270
       clear BK264
       clear HB
       clear h0_ h1_ h2_ h3_ h4_ h5_
       have HO267 := n0_
       have HO270 := n1_
       have HO273 := n2_
       have HO276 := n3_
       have BK264 := n4_
       have HB := n5_
       clear n0_ n1_ n2_ n3_ n4_ n5_
       have hHeld : w21.cell? ⟨gb264, 0, none⟩ = some (.slice A2_0 l2_0.length c2_0) ∧ w21.cell? ⟨gb264, 1, none⟩ = some (.slice A2_1 l2_1.length c2_1) ∧ w21.cell? ⟨gb264, 2, none⟩ = some (.slice A2_2 l2_2.length c2_2) := hS_
       refine norm_ (a' := ?_) ?_ ?_
       rotate_left
       ·simp only [putAll, Act.put, List.setIfInBounds_toArray, List.set_cons_zero, List.set_cons_succ]
        rfl
       refine two_ (i := 5) (j := 10) (Ni := some 27) (Nj := some 10) #[true, true, true, true, true, true, true, false, true, false, false, false] #[true, true, true, true, true, false, true, false, true, false, true, false] rfl rfl rfl rfl (two_of HT_.out (by kernel_rfl)) (by decide) (by decide) (fun K hK => ?_) (fun K hK => ?_)
       ·skip
        refine goes_ Try.func81 (by kernel_rfl) rfl #[.slice A0 l0.length c0] (by rfl) rfl rfl z1_ ?_
        with_reducible refine (spec_LeftLeaf.calls k _ _ l0 t277 _ ?side1 ?side2 A9.out).mono ?_
        (case side1 => exact z3_)
        (case side2 => exact HC0.out)
        rintro e w22 ⟨v278, rfl, ho0, hb⟩
        refine ⟨_, rfl, ?_⟩
        have n0_ := Aside0.mk (Kd.R_elder' z20_ (Kd.R_base ho0) hb)
        have n1_ := Aside0.mk (Kd.R_elder' z22_ (Kd.R_base ho0) hb)
        have n2_ := Aside0.mk (Kd.R_elder' z32_ (Kd.R_base ho0) hb)
        have n3_ := Aside0.mk (Kd.R_elder' z48_ (Kd.R_base ho0) hb)
        have n4_ := Aside0.mk (Kd.R_lower (Kd.R_new' (Kd.R_new' (Kd.R_new' (Kd.R_new' ho0 (Kd.R_lt z20_)) (Kd.R_lt z22_)) (Kd.R_lt z32_)) (Kd.R_lt z48_)) (below_size z10_))
        have n5_ := Aside0.mk (blk_below (g := gb264) (o := .cells #[.slice A2_0 l2_0.length c2_0, .slice A2_1 l2_1.length c2_1, .slice A2_2 l2_2.length c2_2] 38 (0, 0)) z9_ hb)
        have n6_ := Aside0.mk (below_step z10_ hb)
        clear HO267
        clear HO270
        clear HO273
        clear HO276
        clear BK264
        clear HB
        have HO267 := n0_
        have HO270 := n1_
        have HO273 := n2_
        have HO276 := n3_
        have HO279 := n4_
        have BK264 := n5_
        have HB := n6_
        clear n0_ n1_ n2_ n3_ n4_ n5_ n6_
        (try clear hb)
        (try clear hb2)
        (try clear hk)
        (try clear hi)
        (try clear ho0)
        refine hK.out _ _ ⟨(blk_cell BK264.out 0).trans rfl, (blk_cell BK264.out 1).trans rfl, (blk_cell BK264.out 2).trans rfl⟩ (fun hHeld => ?_)
        clear hK K
        refine zn_ rfl ?_
        exact norm_ z23_ (hJ1_3_5 (v272, v275, v278) _ ⟨hHeld, z209_, z210_, z211_, z212_, z205_, z9_, z10_⟩)
       ·skip
        refine box_step ?hg (N := 10) ?hd (cs := #[.slice none 0 0, .slice none 0 0, .slice none 0 0, .slice none 0 0, .slice none 0 0, .slice none 0 0, .slice none 0 0]) (t := 105) ?hr ?_; (case hd => rfl); (case hg => rfl); (case hr => exact z14_)
        intro gb283 hg w22 hbox hb
        have n0_ := Aside0.mk (Kd.R_below z20_ hb)
        have n1_ := Aside0.mk (Kd.R_below z22_ hb)
        have n2_ := Aside0.mk (Kd.R_below z32_ hb)
        have n3_ := Aside0.mk (Kd.R_below z48_ hb)
        have n4_ := Aside0.mk (blk_below (g := gb264) (o := .cells #[.slice A2_0 l2_0.length c2_0, .slice A2_1 l2_1.length c2_1, .slice A2_2 l2_2.length c2_2] 38 (0, 0)) z9_ hb)
        have n5_ := Aside0.mk (below_step z10_ hb)
        have n6_ := Aside0.mk (hbox)
        have n7_ := Aside0.mk ((by rw [hg]; exact (below_size z10_) : w.heap.size ≤ gb283))
        have n8_ := Aside0.mk ((by rw [hg]; exact (below_size z10_) : w.heap.size ≤ gb283))
        have n9_ := Aside0.mk ((by rw [hg]; exact Nat.ne_of_lt (blk_lt (g := gb264) (o := .cells #[.slice A2_0 l2_0.length c2_0, .slice A2_1 l2_1.length c2_1, .slice A2_2 l2_2.length c2_2] 38 (0, 0)) z9_) : gb264 ≠ gb283))
        have n10_ := Aside0.mk ((by rw [hg]; exact Nat.ne_of_gt (blk_lt (g := gb264) (o := .cells #[.slice A2_0 l2_0.length c2_0, .slice A2_1 l2_1.length c2_1, .slice A2_2 l2_2.length c2_2] 38 (0, 0)) z9_) : gb283 ≠ gb264))
        clear HO267
        clear HO270
        clear HO273
        clear HO276
        clear BK264
        clear HB
        have HO267 := n0_
        have HO270 := n1_
        have HO273 := n2_
        have HO276 := n3_
        have BK264 := n4_
        have HB := n5_
        have BK283 := n6_
        have GW283 := n7_
        have GE283 := n8_
        have NB264_283 := n9_
        have NB283_264 := n10_
        clear n0_ n1_ n2_ n3_ n4_ n5_ n6_ n7_ n8_ n9_ n10_
        clear hb hbox hg
        refine hK.out _ _ ⟨(blk_cell BK264.out 0).trans rfl, (blk_cell BK264.out 1).trans rfl, (blk_cell BK264.out 2).trans rfl⟩ (fun hHeld => ?_)
        clear hK K
        refine zn_ rfl ?_
        exact norm_ z23_ (hJ1_3_10 (v272, v275, gb283) _ ⟨hHeld, z20_, z22_, z32_, z48_, z9_, z34_, GW283.out, GE283.out, NB264_283.out, NB283_264.out, z6_⟩)
     ·skip
      rintro ⟨v272, v275, gb283⟩ w22 ⟨hS_, h0_, h1_, h2_, h3_, h4_, h5_, h6_, h7_, h8_, h9_, h10_⟩
      have n0_ : Aside0 (Kd.R (Kd.int .i64) 3 w22 w.heap.size (fun k_ => some k_ ≠ (v269 : Value).ownBlock ∧ some k_ ≠ (v272 : Value).ownBlock ∧ some k_ ≠ (v275 : Value).ownBlock) v266 y265) := ⟨h0_⟩
      have n1_ : Aside0 (Kd.R (Kd.int .i64) 3 w22 w.heap.size (fun k_ => some k_ ≠ (v266 : Value).ownBlock ∧ some k_ ≠ (v272 : Value).ownBlock ∧ some k_ ≠ (v275 : Value).ownBlock) v269 y268) := ⟨h1_⟩
      have n2_ : Aside0 (Kd.R (Kd.int .i64) 3 w22 w.heap.size (fun k_ => some k_ ≠ (v266 : Value).ownBlock ∧ some k_ ≠ (v269 : Value).ownBlock ∧ some k_ ≠ (v275 : Value).ownBlock) v272 t271) := ⟨h2_⟩
      have n3_ : Aside0 (Kd.R (Kd.int .i64) 3 w22 w.heap.size (fun k_ => some k_ ≠ (v266 : Value).ownBlock ∧ some k_ ≠ (v269 : Value).ownBlock ∧ some k_ ≠ (v272 : Value).ownBlock) v275 t274) := ⟨h3_⟩
      have n4_ : Aside0 (w22.heap[gb264]? = some (.cells #[.slice A2_0 l2_0.length c2_0, .slice A2_1 l2_1.length c2_1, .slice A2_2 l2_2.length c2_2] 38 (0, 0))) := ⟨h4_⟩
      have n5_ : Aside0 (w22.heap[gb283]? = some (.cells #[.slice none 0 0, .slice none 0 0, .slice none 0 0, .slice none 0 0, .slice none 0 0, .slice none 0 0, .slice none 0 0] 105 (0, 0))) := ⟨h5_⟩
      have n6_ : Aside0 (w.heap.size ≤ gb283) := ⟨h6_⟩
      have n7_ : Aside0 (w.heap.size ≤ gb283) := ⟨h7_⟩
      have n8_ : Aside0 (gb264 ≠ gb283) := ⟨h8_⟩
      have n9_ : Aside0 (gb283 ≠ gb264) := ⟨h9_⟩
      have n10_ : Aside0 (Below w.heap.size w w22) := ⟨h10_⟩
      clear HO267
      clear HO270
      clear BK264
      clear HB
      clear h0_ h1_ h2_ h3_ h4_ h5_ h6_ h7_ h8_ h9_ h10_
      have HO267 := n0_
      have HO270 := n1_
      have HO273 := n2_
      have HO276 := n3_
      have BK264 := n4_
      have BK283 := n5_
      have GW283 := n6_
      have GE283 := n7_
      have NB264_283 := n8_
      have NB283_264 := n9_
      have HB := n10_
      clear n0_ n1_ n2_ n3_ n4_ n5_ n6_ n7_ n8_ n9_ n10_
      have hHeld : w22.cell? ⟨gb264, 0, none⟩ = some (.slice A2_0 l2_0.length c2_0) ∧ w22.cell? ⟨gb264, 1, none⟩ = some (.slice A2_1 l2_1.length c2_1) ∧ w22.cell? ⟨gb264, 2, none⟩ = some (.slice A2_2 l2_2.length c2_2) := hS_
      refine norm_ (a' := ?_) ?_ ?_
      rotate_left
      ·simp only [putAll, Act.put, List.setIfInBounds_toArray, List.set_cons_zero, List.set_cons_succ]
       rfl
      refine one_ (i := 5) (N := some 27) (ra_ [7, 1, 1, 1, 1, 1]) rfl rfl (one_of HT_.out (by kernel_rfl)) (by decide) (fun K hK => ?_)
      refine goes_ Try.func81 (by kernel_rfl) rfl #[.slice A0 l0.length c0] (by rfl) rfl rfl z1_ ?_
      with_reducible refine (spec_LeftLeaf.calls k _ _ l0 t277 _ ?side1 ?side2 A9.out).mono ?_
      (case side1 => exact z3_)
      (case side2 => exact HC0.out)
      rintro e w23 ⟨v278, rfl, ho0, hb⟩
      refine ⟨_, rfl, ?_⟩
      have n0_ := Aside0.mk (Kd.R_elder' z20_ (Kd.R_base ho0) hb)
      have n1_ := Aside0.mk (Kd.R_elder' z22_ (Kd.R_base ho0) hb)
      have n2_ := Aside0.mk (Kd.R_elder' z32_ (Kd.R_base ho0) hb)
      have n3_ := Aside0.mk (Kd.R_elder' z48_ (Kd.R_base ho0) hb)
      have n4_ := Aside0.mk (Kd.R_lower (Kd.R_new' (Kd.R_new' (Kd.R_new' (Kd.R_new' ho0 (Kd.R_lt z20_)) (Kd.R_lt z22_)) (Kd.R_lt z32_)) (Kd.R_lt z48_)) (below_size z6_))
      have n5_ := Aside0.mk (blk_below (g := gb264) (o := .cells #[.slice A2_0 l2_0.length c2_0, .slice A2_1 l2_1.length c2_1, .slice A2_2 l2_2.length c2_2] 38 (0, 0)) z9_ hb)
      have n6_ := Aside0.mk (blk_below (g := gb283) (o := .cells #[.slice none 0 0, .slice none 0 0, .slice none 0 0, .slice none 0 0, .slice none 0 0, .slice none 0 0, .slice none 0 0] 105 (0, 0)) z34_ hb)
      have n7_ := Aside0.mk (below_step z6_ hb)
      clear HO267
      clear HO270
      clear HO273
      clear HO276
      clear BK264
      clear BK283
      clear HB
      have HO267 := n0_
      have HO270 := n1_
      have HO273 := n2_
      have HO276 := n3_
      have HO279 := n4_
      have BK264 := n5_
      have BK283 := n6_
      have HB := n7_
      clear n0_ n1_ n2_ n3_ n4_ n5_ n6_ n7_
      (try clear hb)
      (try clear hb2)
      (try clear hk)
      (try clear hi)
      (try clear ho0)
      refine hK.out _ _ ⟨(blk_cell BK264.out 0).trans rfl, (blk_cell BK264.out 1).trans rfl, (blk_cell BK264.out 2).trans rfl⟩ (fun hHeld => ?_)
      clear hK K
      refine zn_ rfl ?_
      exact norm_ z23_ (hJ1_3_5_10 (v272, v275, v278, gb283) _ ⟨hHeld, z209_, z210_, z211_, z212_, z205_, z9_, z34_, GW283.out, GE283.out, NB264_283.out, NB283_264.out, z6_⟩)
    ·skip
     rintro ⟨v272, v275, v278⟩ w22 ⟨hS_, h0_, h1_, h2_, h3_, h4_, h5_, h6_⟩
     have n0_ : Aside0 (Kd.R (Kd.int .i64) 3 w22 w.heap.size (fun k_ => some k_ ≠ (v269 : Value).ownBlock ∧ some k_ ≠ (v272 : Value).ownBlock ∧ some k_ ≠ (v275 : Value).ownBlock ∧ some k_ ≠ (v278 : Value).ownBlock) v266 y265) := ⟨h0_⟩
     have n1_ : Aside0 (Kd.R (Kd.int .i64) 3 w22 w.heap.size (fun k_ => some k_ ≠ (v266 : Value).ownBlock ∧ some k_ ≠ (v272 : Value).ownBlock ∧ some k_ ≠ (v275 : Value).ownBlock ∧ some k_ ≠ (v278 : Value).ownBlock) v269 y268) := ⟨h1_⟩
     have n2_ : Aside0 (Kd.R (Kd.int .i64) 3 w22 w.heap.size (fun k_ => some k_ ≠ (v266 : Value).ownBlock ∧ some k_ ≠ (v269 : Value).ownBlock ∧ some k_ ≠ (v275 : Value).ownBlock ∧ some k_ ≠ (v278 : Value).ownBlock) v272 t271) := ⟨h2_⟩
     have n3_ : Aside0 (Kd.R (Kd.int .i64) 3 w22 w.heap.size (fun k_ => some k_ ≠ (v266 : Value).ownBlock ∧ some k_ ≠ (v269 : Value).ownBlock ∧ some k_ ≠ (v272 : Value).ownBlock ∧ some k_ ≠ (v278 : Value).ownBlock) v275 t274) := ⟨h3_⟩
     have n4_ : Aside0 (Kd.R (Kd.int .i64) 3 w22 w.heap.size (fun k_ => some k_ ≠ (v266 : Value).ownBlock ∧ some k_ ≠ (v269 : Value).ownBlock ∧ some k_ ≠ (v272 : Value).ownBlock ∧ some k_ ≠ (v275 : Value).ownBlock) v278 t277) := ⟨h4_⟩
     have n5_ : Aside0 (w22.heap[gb264]? = some (.cells #[.slice A2_0 l2_0.length c2_0, .slice A2_1 l2_1.length c2_1, .slice A2_2 l2_2.length c2_2] 38 (0, 0))) := ⟨h5_⟩
     have n6_ : Aside0 (Below w.heap.size w w22) := ⟨h6_⟩
     clear HO267
     clear HO270
     clear BK264
     clear HB
     clear h0_ h1_ h2_ h3_ h4_ h5_ h6_
     have HO267 := n0_
     have HO270 := n1_
     have HO273 := n2_
     have HO276 := n3_
     have HO279 := n4_
     have BK264 := n5_
     have HB := n6_
     clear n0_ n1_ n2_ n3_ n4_ n5_ n6_
     have hHeld : w22.cell? ⟨gb264, 0, none⟩ = some (.slice A2_0 l2_0.length c2_0) ∧ w22.cell? ⟨gb264, 1, none⟩ = some (.slice A2_1 l2_1.length c2_1) ∧ w22.cell? ⟨gb264, 2, none⟩ = some (.slice A2_2 l2_2.length c2_2) := hS_
     refine norm_ (a' := ?_) ?_ ?_
     rotate_left
     ·simp only [putAll, Act.put, List.setIfInBounds_toArray, List.set_cons_zero, List.set_cons_succ]
      rfl
     refine two_ (i := 7) (j := 10) (Ni := some 29) (Nj := some 10) #[true, true, true, true, true, true, true, true, true, false, false, false] #[true, true, true, true, true, true, true, false, true, false, true, false] rfl rfl rfl rfl (two_of HT_.out (by kernel_rfl)) (by decide) (by decide) (fun K hK => ?_) (fun K hK => ?_)
     ·skip
      refine goes_ Try.func81 (by kernel_rfl) rfl #[.slice A1 l1.length c1] (by rfl) rfl rfl z1_ ?_
      with_reducible refine (spec_LeftLeaf.calls k _ _ l1 t280 _ ?side1 ?side2 A10.out).mono ?_
      (case side1 => exact z8_)
      (case side2 => exact HC1.out)
      rintro e w23 ⟨v281, rfl, ho0, hb⟩
      refine ⟨_, rfl, ?_⟩
      have n0_ := Aside0.mk (Kd.R_elder' z20_ (Kd.R_base ho0) hb)
      have n1_ := Aside0.mk (Kd.R_elder' z22_ (Kd.R_base ho0) hb)
      have n2_ := Aside0.mk (Kd.R_elder' z32_ (Kd.R_base ho0) hb)
      have n3_ := Aside0.mk (Kd.R_elder' z48_ (Kd.R_base ho0) hb)
      have n4_ := Aside0.mk (Kd.R_elder' z79_ (Kd.R_base ho0) hb)
      have n5_ := Aside0.mk (Kd.R_lower (Kd.R_new' (Kd.R_new' (Kd.R_new' (Kd.R_new' (Kd.R_new' ho0 (Kd.R_lt z20_)) (Kd.R_lt z22_)) (Kd.R_lt z32_)) (Kd.R_lt z48_)) (Kd.R_lt z79_)) (below_size z10_))
      have n6_ := Aside0.mk (blk_below (g := gb264) (o := .cells #[.slice A2_0 l2_0.length c2_0, .slice A2_1 l2_1.length c2_1, .slice A2_2 l2_2.length c2_2] 38 (0, 0)) z9_ hb)
      have n7_ := Aside0.mk (below_step z10_ hb)
      clear HO267
      clear HO270
      clear HO273
      clear HO276
      clear HO279
      clear BK264
      clear HB
      have HO267 := n0_
      have HO270 := n1_
      have HO273 := n2_
      have HO276 := n3_
      have HO279 := n4_
      have HO282 := n5_
      have BK264 := n6_
      have HB := n7_
      clear n0_ n1_ n2_ n3_ n4_ n5_ n6_ n7_
      (try clear hb)
      (try clear hb2)
      (try clear hk)
      (try clear hi)
      (try clear ho0)
      obtain ⟨Ao24, co24, eo24⟩ := Kd.R_slice HO282.out
      (first | subst eo24 | (injection eo24 with f1_ f2_ f3_; have f4_ := f1_.symm; have f5_ := f3_.symm; clear f1_ f2_ f3_; subst f4_; subst f5_))
      obtain ⟨Ao25, co25, eo25⟩ := Kd.R_slice HO279.out
      (first | subst eo25 | (injection eo25 with f1_ f2_ f3_; have f4_ := f1_.symm; have f5_ := f3_.symm; clear f1_ f2_ f3_; subst f4_; subst f5_))
      obtain ⟨Ao26, co26, eo26⟩ := Kd.R_slice HO276.out
      (first | subst eo26 | (injection eo26 with f1_ f2_ f3_; have f4_ := f1_.symm; have f5_ := f3_.symm; clear f1_ f2_ f3_; subst f4_; subst f5_))
      obtain ⟨Ao27, co27, eo27⟩ := Kd.R_slice HO273.out
      (first | subst eo27 | (injection eo27 with f1_ f2_ f3_; have f4_ := f1_.symm; have f5_ := f3_.symm; clear f1_ f2_ f3_; subst f4_; subst f5_))
      refine hK.out _ _ ⟨(blk_cell BK264.out 0).trans rfl, (blk_cell BK264.out 1).trans rfl, (blk_cell BK264.out 2).trans rfl⟩ (fun hHeld => ?_)
      clear hK K
      refine zn_ rfl ?_
      refine zpg_ (i := 9) (fl_ 12 10) HT_ rfl rfl (by kernel_rfl) (fun _ _ _ h => h) (by rfl) ?_
      exact norm_ z23_ (hJ1_3_5_7 (.slice Ao27 t271.length co27, .slice Ao26 t274.length co26, .slice Ao25 t277.length co25, .slice Ao24 t280.length co24) _ ⟨hHeld, z184_, z185_, z186_, z187_, z188_, z182_, z9_, z10_⟩)
     ·skip
      refine box_step ?hg (N := 10) ?hd (cs := #[.slice none 0 0, .slice none 0 0, .slice none 0 0, .slice none 0 0, .slice none 0 0, .slice none 0 0, .slice none 0 0]) (t := 105) ?hr ?_; (case hd => rfl); (case hg => rfl); (case hr => exact z14_)
      intro gb283 hg w23 hbox hb
      have n0_ := Aside0.mk (Kd.R_below z20_ hb)
      have n1_ := Aside0.mk (Kd.R_below z22_ hb)
      have n2_ := Aside0.mk (Kd.R_below z32_ hb)
      have n3_ := Aside0.mk (Kd.R_below z48_ hb)
      have n4_ := Aside0.mk (Kd.R_below z79_ hb)
      have n5_ := Aside0.mk (blk_below (g := gb264) (o := .cells #[.slice A2_0 l2_0.length c2_0, .slice A2_1 l2_1.length c2_1, .slice A2_2 l2_2.length c2_2] 38 (0, 0)) z9_ hb)
      have n6_ := Aside0.mk (below_step z10_ hb)
      have n7_ := Aside0.mk (hbox)
      have n8_ := Aside0.mk ((by rw [hg]; exact (below_size z10_) : w.heap.size ≤ gb283))
      have n9_ := Aside0.mk ((by rw [hg]; exact (below_size z10_) : w.heap.size ≤ gb283))
      have n10_ := Aside0.mk ((by rw [hg]; exact Nat.ne_of_lt (blk_lt (g := gb264) (o := .cells #[.slice A2_0 l2_0.length c2_0, .slice A2_1 l2_1.length c2_1, .slice A2_2 l2_2.length c2_2] 38 (0, 0)) z9_) : gb264 ≠ gb283))
      have n11_ := Aside0.mk ((by rw [hg]; exact Nat.ne_of_gt (blk_lt (g := gb264) (o := .cells #[.slice A2_0 l2_0.length c2_0, .slice A2_1 l2_1.length c2_1, .slice A2_2 l2_2.length c2_2] 38 (0, 0)) z9_) : gb283 ≠ gb264))
      clear HO267
      clear HO270
      clear HO273
      clear HO276
      clear HO279
      clear BK264
      clear HB
      have HO267 := n0_
      have HO270 := n1_
      have HO273 := n2_
      have HO276 := n3_
      have HO279 := n4_
      have BK264 := n5_
      have HB := n6_
      have BK283 := n7_
      have GW283 := n8_
      have GE283 := n9_
      have NB264_283 := n10_
      have NB283_264 := n11_
      clear n0_ n1_ n2_ n3_ n4_ n5_ n6_ n7_ n8_ n9_ n10_ n11_
      clear hb hbox hg
      refine hK.out _ _ ⟨(blk_cell BK264.out 0).trans rfl, (blk_cell BK264.out 1).trans rfl, (blk_cell BK264.out 2).trans rfl⟩ (fun hHeld => ?_)
      clear hK K
      refine zn_ rfl ?_
      exact norm_ z23_ (hJ1_3_5_10 (v272, v275, v278, gb283) _ ⟨hHeld, z20_, z22_, z32_, z48_, z79_, z9_, z34_, GW283.out, GE283.out, NB264_283.out, NB283_264.out, z6_⟩)
   ·skip
    rintro ⟨v272, v275, v278, gb283⟩ w23 ⟨hS_, h0_, h1_, h2_, h3_, h4_, h5_, h6_, h7_, h8_, h9_, h10_, h11_⟩
    have n0_ : Aside0 (Kd.R (Kd.int .i64) 3 w23 w.heap.size (fun k_ => some k_ ≠ (v269 : Value).ownBlock ∧ some k_ ≠ (v272 : Value).ownBlock ∧ some k_ ≠ (v275 : Value).ownBlock ∧ some k_ ≠ (v278 : Value).ownBlock) v266 y265) := ⟨h0_⟩
    have n1_ : Aside0 (Kd.R (Kd.int .i64) 3 w23 w.heap.size (fun k_ => some k_ ≠ (v266 : Value).ownBlock ∧ some k_ ≠ (v272 : Value).ownBlock ∧ some k_ ≠ (v275 : Value).ownBlock ∧ some k_ ≠ (v278 : Value).ownBlock) v269 y268) := ⟨h1_⟩
    have n2_ : Aside0 (Kd.R (Kd.int .i64) 3 w23 w.heap.size (fun k_ => some k_ ≠ (v266 : Value).ownBlock ∧ some k_ ≠ (v269 : Value).ownBlock ∧ some k_ ≠ (v275 : Value).ownBlock ∧ some k_ ≠ (v278 : Value).ownBlock) v272 t271) := ⟨h2_⟩
    have n3_ : Aside0 (Kd.R (Kd.int .i64) 3 w23 w.heap.size (fun k_ => some k_ ≠ (v266 : Value).ownBlock ∧ some k_ ≠ (v269 : Value).ownBlock ∧ some k_ ≠ (v272 : Value).ownBlock ∧ some k_ ≠ (v278 : Value).ownBlock) v275 t274) := ⟨h3_⟩
    have n4_ : Aside0 (Kd.R (Kd.int .i64) 3 w23 w.heap.size (fun k_ => some k_ ≠ (v266 : Value).ownBlock ∧ some k_ ≠ (v269 : Value).ownBlock ∧ some k_ ≠ (v272 : Value).ownBlock ∧ some k_ ≠ (v275 : Value).ownBlock) v278 t277) := ⟨h4_⟩
    have n5_ : Aside0 (w23.heap[gb264]? = some (.cells #[.slice A2_0 l2_0.length c2_0, .slice A2_1 l2_1.length c2_1, .slice A2_2 l2_2.length c2_2] 38 (0, 0))) := ⟨h5_⟩
    have n6_ : Aside0 (w23.heap[gb283]? = some (.cells #[.slice none 0 0, .slice none 0 0, .slice none 0 0, .slice none 0 0, .slice none 0 0, .slice none 0 0, .slice none 0 0] 105 (0, 0))) := ⟨h6_⟩
    have n7_ : Aside0 (w.heap.size ≤ gb283) := ⟨h7_⟩
    have n8_ : Aside0 (w.heap.size ≤ gb283) := ⟨h8_⟩
    have n9_ : Aside0 (gb264 ≠ gb283) := ⟨h9_⟩
    have n10_ : Aside0 (gb283 ≠ gb264) := ⟨h10_⟩
    have n11_ : Aside0 (Below w.heap.size w w23) := ⟨h11_⟩
    clear HO267
    clear HO270
    clear BK264
    clear HB
    clear h0_ h1_ h2_ h3_ h4_ h5_ h6_ h7_ h8_ h9_ h10_ h11_
    have HO267 := n0_
    have HO270 := n1_
    have HO273 := n2_
    have HO276 := n3_
    have HO279 := n4_
    have BK264 := n5_
    have BK283 := n6_
    have GW283 := n7_
    have GE283 := n8_
    have NB264_283 := n9_
    have NB283_264 := n10_
    have HB := n11_
    clear n0_ n1_ n2_ n3_ n4_ n5_ n6_ n7_ n8_ n9_ n10_ n11_
    have hHeld : w23.cell? ⟨gb264, 0, none⟩ = some (.slice A2_0 l2_0.length c2_0) ∧ w23.cell? ⟨gb264, 1, none⟩ = some (.slice A2_1 l2_1.length c2_1) ∧ w23.cell? ⟨gb264, 2, none⟩ = some (.slice A2_2 l2_2.length c2_2) := hS_
    refine norm_ (a' := ?_) ?_ ?_
    rotate_left
    ·simp only [putAll, Act.put, List.setIfInBounds_toArray, List.set_cons_zero, List.set_cons_succ]
     rfl
    refine one_ (i := 7) (N := some 29) (ra_ [9, 1, 1, 1]) rfl rfl (one_of HT_.out (by kernel_rfl)) (by decide) (fun K hK => ?_)
    refine goes_ Try.func81 (by kernel_rfl) rfl #[.slice A1 l1.length c1] (by rfl) rfl rfl z1_ ?_
    with_reducible refine (spec_LeftLeaf.calls k _ _ l1 t280 _ ?side1 ?side2 A10.out).mono ?_
    (case side1 => exact z8_)
    (case side2 => exact HC1.out)
    rintro e w24 ⟨v281, rfl, ho0, hb⟩
    refine ⟨_, rfl, ?_⟩
    have n0_ := Aside0.mk (Kd.R_elder' z20_ (Kd.R_base ho0) hb)
    have n1_ := Aside0.mk (Kd.R_elder' z22_ (Kd.R_base ho0) hb)
    have n2_ := Aside0.mk (Kd.R_elder' z32_ (Kd.R_base ho0) hb)
    have n3_ := Aside0.mk (Kd.R_elder' z48_ (Kd.R_base ho0) hb)
    have n4_ := Aside0.mk (Kd.R_elder' z79_ (Kd.R_base ho0) hb)
    have n5_ := Aside0.mk (Kd.R_lower (Kd.R_new' (Kd.R_new' (Kd.R_new' (Kd.R_new' (Kd.R_new' ho0 (Kd.R_lt z20_)) (Kd.R_lt z22_)) (Kd.R_lt z32_)) (Kd.R_lt z48_)) (Kd.R_lt z79_)) (below_size z6_))
    have n6_ := Aside0.mk (blk_below (g := gb264) (o := .cells #[.slice A2_0 l2_0.length c2_0, .slice A2_1 l2_1.length c2_1, .slice A2_2 l2_2.length c2_2] 38 (0, 0)) z9_ hb)
    have n7_ := Aside0.mk (blk_below (g := gb283) (o := .cells #[.slice none 0 0, .slice none 0 0, .slice none 0 0, .slice none 0 0, .slice none 0 0, .slice none 0 0, .slice none 0 0] 105 (0, 0)) z34_ hb)
    have n8_ := Aside0.mk (below_step z6_ hb)
    clear HO267
    clear HO270
    clear HO273
    clear HO276
    clear HO279
    clear BK264
    clear BK283
    clear HB
    have HO267 := n0_
    have HO270 := n1_
    have HO273 := n2_
    have HO276 := n3_
    have HO279 := n4_
    have HO282 := n5_
    have BK264 := n6_
    have BK283 := n7_
    have HB := n8_
    clear n0_ n1_ n2_ n3_ n4_ n5_ n6_ n7_ n8_
    (try clear hb)
    (try clear hb2)
    (try clear hk)
    (try clear hi)
    (try clear ho0)
    obtain ⟨Ao25, co25, eo25⟩ := Kd.R_slice HO282.out
    (first | subst eo25 | (injection eo25 with f1_ f2_ f3_; have f4_ := f1_.symm; have f5_ := f3_.symm; clear f1_ f2_ f3_; subst f4_; subst f5_))
    obtain ⟨Ao26, co26, eo26⟩ := Kd.R_slice HO279.out
    (first | subst eo26 | (injection eo26 with f1_ f2_ f3_; have f4_ := f1_.symm; have f5_ := f3_.symm; clear f1_ f2_ f3_; subst f4_; subst f5_))
    obtain ⟨Ao27, co27, eo27⟩ := Kd.R_slice HO276.out
    (first | subst eo27 | (injection eo27 with f1_ f2_ f3_; have f4_ := f1_.symm; have f5_ := f3_.symm; clear f1_ f2_ f3_; subst f4_; subst f5_))
    obtain ⟨Ao28, co28, eo28⟩ := Kd.R_slice HO273.out
    (first | subst eo28 | (injection eo28 with f1_ f2_ f3_; have f4_ := f1_.symm; have f5_ := f3_.symm; clear f1_ f2_ f3_; subst f4_; subst f5_))
    refine hK.out _ _ ⟨(blk_cell BK264.out 0).trans rfl, (blk_cell BK264.out 1).trans rfl, (blk_cell BK264.out 2).trans rfl⟩ (fun hHeld => ?_)
    clear hK K
    refine zn_ rfl ?_
    refine zpg_ (i := 9) (fl_ 12 11) HT_ rfl rfl (by kernel_rfl) (fun _ _ _ h => h) (by rfl) ?_
    exact norm_ z23_ (hJ1_3_5_7_10 (.slice Ao28 t271.length co28, .slice Ao27 t274.length co27, .slice Ao26 t277.length co26, .slice Ao25 t280.length co25, gb283) _ ⟨hHeld, z184_, z185_, z186_, z187_, z188_, z182_, z9_, z34_, GW283.out, GE283.out, NB264_283.out, NB283_264.out, z6_⟩)
  ·skip
   rintro ⟨v272, v275, v278, v281⟩ w27 ⟨hS_, h0_, h1_, h2_, h3_, h4_, h5_, h6_, h7_⟩
   have n0_ : Aside0 (Kd.R (Kd.int .i64) 3 w27 w.heap.size (fun k_ => some k_ ≠ (v269 : Value).ownBlock ∧ some k_ ≠ (v272 : Value).ownBlock ∧ some k_ ≠ (v275 : Value).ownBlock ∧ some k_ ≠ (v278 : Value).ownBlock ∧ some k_ ≠ (v281 : Value).ownBlock) v266 y265) := ⟨h0_⟩
   have n1_ : Aside0 (Kd.R (Kd.int .i64) 3 w27 w.heap.size (fun k_ => some k_ ≠ (v266 : Value).ownBlock ∧ some k_ ≠ (v272 : Value).ownBlock ∧ some k_ ≠ (v275 : Value).ownBlock ∧ some k_ ≠ (v278 : Value).ownBlock ∧ some k_ ≠ (v281 : Value).ownBlock) v269 y268) := ⟨h1_⟩
   have n2_ : Aside0 (Kd.R (Kd.int .i64) 3 w27 w.heap.size (fun k_ => some k_ ≠ (v266 : Value).ownBlock ∧ some k_ ≠ (v269 : Value).ownBlock ∧ some k_ ≠ (v275 : Value).ownBlock ∧ some k_ ≠ (v278 : Value).ownBlock ∧ some k_ ≠ (v281 : Value).ownBlock) v272 t271) := ⟨h2_⟩
   have n3_ : Aside0 (Kd.R (Kd.int .i64) 3 w27 w.heap.size (fun k_ => some k_ ≠ (v266 : Value).ownBlock ∧ some k_ ≠ (v269 : Value).ownBlock ∧ some k_ ≠ (v272 : Value).ownBlock ∧ some k_ ≠ (v278 : Value).ownBlock ∧ some k_ ≠ (v281 : Value).ownBlock) v275 t274) := ⟨h3_⟩
   have n4_ : Aside0 (Kd.R (Kd.int .i64) 3 w27 w.heap.size (fun k_ => some k_ ≠ (v266 : Value).ownBlock ∧ some k_ ≠ (v269 : Value).ownBlock ∧ some k_ ≠ (v272 : Value).ownBlock ∧ some k_ ≠ (v275 : Value).ownBlock ∧ some k_ ≠ (v281 : Value).ownBlock) v278 t277) := ⟨h4_⟩
   have n5_ : Aside0 (Kd.R (Kd.int .i64) 3 w27 w.heap.size (fun k_ => some k_ ≠ (v266 : Value).ownBlock ∧ some k_ ≠ (v269 : Value).ownBlock ∧ some k_ ≠ (v272 : Value).ownBlock ∧ some k_ ≠ (v275 : Value).ownBlock ∧ some k_ ≠ (v278 : Value).ownBlock) v281 t280) := ⟨h5_⟩
   have n6_ : Aside0 (w27.heap[gb264]? = some (.cells #[.slice A2_0 l2_0.length c2_0, .slice A2_1 l2_1.length c2_1, .slice A2_2 l2_2.length c2_2] 38 (0, 0))) := ⟨h6_⟩
   have n7_ : Aside0 (Below w.heap.size w w27) := ⟨h7_⟩
   clear HO267
   clear HO270
   clear BK264
   clear HB
   clear h0_ h1_ h2_ h3_ h4_ h5_ h6_ h7_
   have HO267 := n0_
   have HO270 := n1_
   have HO273 := n2_
   have HO276 := n3_
   have HO279 := n4_
   have HO282 := n5_
   have BK264 := n6_
   have HB := n7_
   clear n0_ n1_ n2_ n3_ n4_ n5_ n6_ n7_
   have hHeld : w27.cell? ⟨gb264, 0, none⟩ = some (.slice A2_0 l2_0.length c2_0) ∧ w27.cell? ⟨gb264, 1, none⟩ = some (.slice A2_1 l2_1.length c2_1) ∧ w27.cell? ⟨gb264, 2, none⟩ = some (.slice A2_2 l2_2.length c2_2) := hS_
   obtain ⟨Ao28, co28, eo28⟩ := Kd.R_slice HO282.out
   (first | subst eo28 | (injection eo28 with f1_ f2_ f3_; have f4_ := f1_.symm; have f5_ := f3_.symm; clear f1_ f2_ f3_; subst f4_; subst f5_))
   obtain ⟨Ao29, co29, eo29⟩ := Kd.R_slice HO279.out
   (first | subst eo29 | (injection eo29 with f1_ f2_ f3_; have f4_ := f1_.symm; have f5_ := f3_.symm; clear f1_ f2_ f3_; subst f4_; subst f5_))
   obtain ⟨Ao30, co30, eo30⟩ := Kd.R_slice HO276.out
   (first | subst eo30 | (injection eo30 with f1_ f2_ f3_; have f4_ := f1_.symm; have f5_ := f3_.symm; clear f1_ f2_ f3_; subst f4_; subst f5_))
   obtain ⟨Ao31, co31, eo31⟩ := Kd.R_slice HO273.out
   (first | subst eo31 | (injection eo31 with f1_ f2_ f3_; have f4_ := f1_.symm; have f5_ := f3_.symm; clear f1_ f2_ f3_; subst f4_; subst f5_))
   refine norm_ (a' := ?_) ?_ ?_
   rotate_left
   ·simp only [putAll, Act.put, List.setIfInBounds_toArray, List.set_cons_zero, List.set_cons_succ]
    rfl
   refine one_ (i := 10) (N := some 10) (fl_ 12 11) rfl rfl (one_of HT_.out (by kernel_rfl)) (by decide) (fun K hK => ?_)
   refine box_step ?hg (N := 10) ?hd (cs := #[.slice none 0 0, .slice none 0 0, .slice none 0 0, .slice none 0 0, .slice none 0 0, .slice none 0 0, .slice none 0 0]) (t := 105) ?hr ?_; (case hd => rfl); (case hg => rfl); (case hr => exact z14_)
   intro gb283 hg w32 hbox hb
   have n0_ := Aside0.mk (Kd.R_below z20_ hb)
   have n1_ := Aside0.mk (Kd.R_below z22_ hb)
   have n2_ := Aside0.mk (Kd.R_below z32_ hb)
   have n3_ := Aside0.mk (Kd.R_below z48_ hb)
   have n4_ := Aside0.mk (Kd.R_below z79_ hb)
   have n5_ := Aside0.mk (Kd.R_below z171_ hb)
   have n6_ := Aside0.mk (blk_below (g := gb264) (o := .cells #[.slice A2_0 l2_0.length c2_0, .slice A2_1 l2_1.length c2_1, .slice A2_2 l2_2.length c2_2] 38 (0, 0)) z9_ hb)
   have n7_ := Aside0.mk (below_step z10_ hb)
   have n8_ := Aside0.mk (hbox)
   have n9_ := Aside0.mk ((by rw [hg]; exact (below_size z10_) : w.heap.size ≤ gb283))
   have n10_ := Aside0.mk ((by rw [hg]; exact (below_size z10_) : w.heap.size ≤ gb283))
   have n11_ := Aside0.mk ((by rw [hg]; exact Nat.ne_of_lt (blk_lt (g := gb264) (o := .cells #[.slice A2_0 l2_0.length c2_0, .slice A2_1 l2_1.length c2_1, .slice A2_2 l2_2.length c2_2] 38 (0, 0)) z9_) : gb264 ≠ gb283))
   have n12_ := Aside0.mk ((by rw [hg]; exact Nat.ne_of_gt (blk_lt (g := gb264) (o := .cells #[.slice A2_0 l2_0.length c2_0, .slice A2_1 l2_1.length c2_1, .slice A2_2 l2_2.length c2_2] 38 (0, 0)) z9_) : gb283 ≠ gb264))
   clear HO267
   clear HO270
   clear HO273
   clear HO276
   clear HO279
   clear HO282
   clear BK264
   clear HB
   have HO267 := n0_
   have HO270 := n1_
   have HO273 := n2_
   have HO276 := n3_
   have HO279 := n4_
   have HO282 := n5_
   have BK264 := n6_
   have HB := n7_
   have BK283 := n8_
   have GW283 := n9_
   have GE283 := n10_
   have NB264_283 := n11_
   have NB283_264 := n12_
   clear n0_ n1_ n2_ n3_ n4_ n5_ n6_ n7_ n8_ n9_ n10_ n11_ n12_
   clear hb hbox hg
   refine hK.out _ _ ⟨(blk_cell BK264.out 0).trans rfl, (blk_cell BK264.out 1).trans rfl, (blk_cell BK264.out 2).trans rfl⟩ (fun hHeld => ?_)
   clear hK K
   refine zn_ rfl ?_
   exact norm_ z23_ (hJ1_3_5_7_10 (.slice Ao31 t271.length co31, .slice Ao30 t274.length co30, .slice Ao29 t277.length co29, .slice Ao28 t280.length co28, gb283) _ ⟨hHeld, z20_, z22_, z32_, z48_, z79_, z171_, z9_, z34_, GW283.out, GE283.out, NB264_283.out, NB283_264.out, z6_⟩)
 rintro ⟨v272, v275, v278, v281, gb283⟩ w28 ⟨hS_, h0_, h1_, h2_, h3_, h4_, h5_, h6_, h7_, h8_, h9_, h10_, h11_, h12_⟩
 have n0_ : Aside0 (Kd.R (Kd.int .i64) 3 w28 w.heap.size (fun k_ => some k_ ≠ (v269 : Value).ownBlock ∧ some k_ ≠ (v272 : Value).ownBlock ∧ some k_ ≠ (v275 : Value).ownBlock ∧ some k_ ≠ (v278 : Value).ownBlock ∧ some k_ ≠ (v281 : Value).ownBlock) v266 y265) := ⟨h0_⟩
 have n1_ : Aside0 (Kd.R (Kd.int .i64) 3 w28 w.heap.size (fun k_ => some k_ ≠ (v266 : Value).ownBlock ∧ some k_ ≠ (v272 : Value).ownBlock ∧ some k_ ≠ (v275 : Value).ownBlock ∧ some k_ ≠ (v278 : Value).ownBlock ∧ some k_ ≠ (v281 : Value).ownBlock) v269 y268) := ⟨h1_⟩
 have n2_ : Aside0 (Kd.R (Kd.int .i64) 3 w28 w.heap.size (fun k_ => some k_ ≠ (v266 : Value).ownBlock ∧ some k_ ≠ (v269 : Value).ownBlock ∧ some k_ ≠ (v275 : Value).ownBlock ∧ some k_ ≠ (v278 : Value).ownBlock ∧ some k_ ≠ (v281 : Value).ownBlock) v272 t271) := ⟨h2_⟩
 have n3_ : Aside0 (Kd.R (Kd.int .i64) 3 w28 w.heap.size (fun k_ => some k_ ≠ (v266 : Value).ownBlock ∧ some k_ ≠ (v269 : Value).ownBlock ∧ some k_ ≠ (v272 : Value).ownBlock ∧ some k_ ≠ (v278 : Value).ownBlock ∧ some k_ ≠ (v281 : Value).ownBlock) v275 t274) := ⟨h3_⟩
 have n4_ : Aside0 (Kd.R (Kd.int .i64) 3 w28 w.heap.size (fun k_ => some k_ ≠ (v266 : Value).ownBlock ∧ some k_ ≠ (v269 : Value).ownBlock ∧ some k_ ≠ (v272 : Value).ownBlock ∧ some k_ ≠ (v275 : Value).ownBlock ∧ some k_ ≠ (v281 : Value).ownBlock) v278 t277) := ⟨h4_⟩
 have n5_ : Aside0 (Kd.R (Kd.int .i64) 3 w28 w.heap.size (fun k_ => some k_ ≠ (v266 : Value).ownBlock ∧ some k_ ≠ (v269 : Value).ownBlock ∧ some k_ ≠ (v272 : Value).ownBlock ∧ some k_ ≠ (v275 : Value).ownBlock ∧ some k_ ≠ (v278 : Value).ownBlock) v281 t280) := ⟨h5_⟩
 have n6_ : Aside0 (w28.heap[gb264]? = some (.cells #[.slice A2_0 l2_0.length c2_0, .slice A2_1 l2_1.length c2_1, .slice A2_2 l2_2.length c2_2] 38 (0, 0))) := ⟨h6_⟩
 have n7_ : Aside0 (w28.heap[gb283]? = some (.cells #[.slice none 0 0, .slice none 0 0, .slice none 0 0, .slice none 0 0, .slice none 0 0, .slice none 0 0, .slice none 0 0] 105 (0, 0))) := ⟨h7_⟩
 have n8_ : Aside0 (w.heap.size ≤ gb283) := ⟨h8_⟩
 have n9_ : Aside0 (w.heap.size ≤ gb283) := ⟨h9_⟩
 have n10_ : Aside0 (gb264 ≠ gb283) := ⟨h10_⟩
 have n11_ : Aside0 (gb283 ≠ gb264) := ⟨h11_⟩
 have n12_ : Aside0 (Below w.heap.size w w28) := ⟨h12_⟩
 clear HO267
 clear HO270
 clear BK264
 clear HB
 clear h0_ h1_ h2_ h3_ h4_ h5_ h6_ h7_ h8_ h9_ h10_ h11_ h12_
 have HO267 := n0_
 have HO270 := n1_
 have HO273 := n2_
 have HO276 := n3_
 have HO279 := n4_
 have HO282 := n5_
 have BK264 := n6_
 have BK283 := n7_
 have GW283 := n8_
 have GE283 := n9_
 have NB264_283 := n10_
 have NB283_264 := n11_
 have HB := n12_
 clear n0_ n1_ n2_ n3_ n4_ n5_ n6_ n7_ n8_ n9_ n10_ n11_ n12_
 have hHeld : w28.cell? ⟨gb264, 0, none⟩ = some (.slice A2_0 l2_0.length c2_0) ∧ w28.cell? ⟨gb264, 1, none⟩ = some (.slice A2_1 l2_1.length c2_1) ∧ w28.cell? ⟨gb264, 2, none⟩ = some (.slice A2_2 l2_2.length c2_2) := hS_
 obtain ⟨Ao29, co29, eo29⟩ := Kd.R_slice HO282.out
 (first | subst eo29 | (injection eo29 with f1_ f2_ f3_; have f4_ := f1_.symm; have f5_ := f3_.symm; clear f1_ f2_ f3_; subst f4_; subst f5_))
 obtain ⟨Ao30, co30, eo30⟩ := Kd.R_slice HO279.out
 (first | subst eo30 | (injection eo30 with f1_ f2_ f3_; have f4_ := f1_.symm; have f5_ := f3_.symm; clear f1_ f2_ f3_; subst f4_; subst f5_))
 obtain ⟨Ao31, co31, eo31⟩ := Kd.R_slice HO276.out
 (first | subst eo31 | (injection eo31 with f1_ f2_ f3_; have f4_ := f1_.symm; have f5_ := f3_.symm; clear f1_ f2_ f3_; subst f4_; subst f5_))
 obtain ⟨Ao32, co32, eo32⟩ := Kd.R_slice HO273.out
 (first | subst eo32 | (injection eo32 with f1_ f2_ f3_; have f4_ := f1_.symm; have f5_ := f3_.symm; clear f1_ f2_ f3_; subst f4_; subst f5_))
 refine norm_ (a' := ?_) ?_ ?_
 rotate_left
 ·simp only [putAll, Act.put, List.setIfInBounds_toArray, List.set_cons_zero, List.set_cons_succ]
  rfl
 refine one_ (i := 11) (N := none) (fl_ 12 12) rfl rfl (one_of HT_.out (by kernel_rfl)) (by decide) (fun K hK => ?_)
 have hs33 : w28.cell? ⟨gb283, 0, none⟩ = some (.slice none 0 0) := (blk_cell BK283.out 0).trans rfl
 have hfs33 := blk_frozen BK283.out 0
 have hns33_0 := NB264_283.out
 have hms33_0 := NB283_264.out
 have hs34 : w28.cell? ⟨gb283, 1, none⟩ = some (.slice none 0 0) := (blk_cell BK283.out 1).trans rfl
 have hfs34 := blk_frozen BK283.out 1
 have hns34_0 := NB264_283.out
 have hms34_0 := NB283_264.out
 have hs35 : w28.cell? ⟨gb283, 2, none⟩ = some (.slice none 0 0) := (blk_cell BK283.out 2).trans rfl
 have hfs35 := blk_frozen BK283.out 2
 have hns35_0 := NB264_283.out
 have hms35_0 := NB283_264.out
 have hs36 : w28.cell? ⟨gb283, 3, none⟩ = some (.slice none 0 0) := (blk_cell BK283.out 3).trans rfl
 have hfs36 := blk_frozen BK283.out 3
 have hns36_0 := NB264_283.out
 have hms36_0 := NB283_264.out
 have hs37 : w28.cell? ⟨gb283, 4, none⟩ = some (.slice none 0 0) := (blk_cell BK283.out 4).trans rfl
 have hfs37 := blk_frozen BK283.out 4
 have hns37_0 := NB264_283.out
 have hms37_0 := NB283_264.out
 have hs38 : w28.cell? ⟨gb283, 5, none⟩ = some (.slice none 0 0) := (blk_cell BK283.out 5).trans rfl
 have hfs38 := blk_frozen BK283.out 5
 have hns38_0 := NB264_283.out
 have hms38_0 := NB283_264.out
 have hs39 : w28.cell? ⟨gb283, 6, none⟩ = some (.slice none 0 0) := (blk_cell BK283.out 6).trans rfl
 have hfs39 := blk_frozen BK283.out 6
 have hns39_0 := NB264_283.out
 have hms39_0 := NB283_264.out
 refine skip_ (w1 := ?_) (by rfl) rfl ?_ ?_
 rotate_left
 ·go_simp
  rfl
 refine hK.out _ _ ⟨((cell_far (p := ⟨gb283, _, none⟩) NB264_283.out _).trans (((cell_far (p := ⟨gb283, _, none⟩) NB264_283.out _).trans (((cell_far (p := ⟨gb283, _, none⟩) NB264_283.out _).trans (((cell_far (p := ⟨gb283, _, none⟩) NB264_283.out _).trans (((cell_far (p := ⟨gb283, _, none⟩) NB264_283.out _).trans (((cell_far (p := ⟨gb283, _, none⟩) NB264_283.out _).trans (((cell_far (p := ⟨gb283, _, none⟩) NB264_283.out _).trans (hHeld.1)))))))))))))), ((cell_far (p := ⟨gb283, _, none⟩) NB264_283.out _).trans (((cell_far (p := ⟨gb283, _, none⟩) NB264_283.out _).trans (((cell_far (p := ⟨gb283, _, none⟩) NB264_283.out _).trans (((cell_far (p := ⟨gb283, _, none⟩) NB264_283.out _).trans (((cell_far (p := ⟨gb283, _, none⟩) NB264_283.out _).trans (((cell_far (p := ⟨gb283, _, none⟩) NB264_283.out _).trans (((cell_far (p := ⟨gb283, _, none⟩) NB264_283.out _).trans (hHeld.2.1)))))))))))))), ((cell_far (p := ⟨gb283, _, none⟩) NB264_283.out _).trans (((cell_far (p := ⟨gb283, _, none⟩) NB264_283.out _).trans (((cell_far (p := ⟨gb283, _, none⟩) NB264_283.out _).trans (((cell_far (p := ⟨gb283, _, none⟩) NB264_283.out _).trans (((cell_far (p := ⟨gb283, _, none⟩) NB264_283.out _).trans (((cell_far (p := ⟨gb283, _, none⟩) NB264_283.out _).trans (((cell_far (p := ⟨gb283, _, none⟩) NB264_283.out _).trans (hHeld.2.2))))))))))))))⟩ (fun hHeld => ?_)
 clear hK K
 refine done_ (done_of HT_.out (by kernel_rfl)) ?_
 try go_wp2_with (first | ((with_reducible refine gate_callee (f := 82) rfl ?_); refine goesL_ (some 33) rfl rfl Try.func82 (by kernel_rfl) rfl #[.slice A0 l0.length c0] rfl z1_ ?_; (with_reducible refine (spec_KeyRoots.calls k _ _ l0 t284 _ ?side1 ?side2 A11.out).mono ?_); (case side1 => exact Kd.C_below HR0.out z6_); (case side2 => exact HC0.out); rintro e w40 ⟨v285, rfl, ho0, hb⟩; refine ⟨_, rfl, ?_⟩; have HO286 := Aside0.mk (Kd.R_lower (Kd.R_new' (Kd.R_new' (Kd.R_new' (Kd.R_new' (Kd.R_new' (Kd.R_new' ho0 (Kd.R_lt z54_)) (Kd.R_lt z55_)) (Kd.R_lt z56_)) (Kd.R_lt z57_)) (Kd.R_lt z58_)) (Kd.R_lt z59_)) (below_size z6_)); replace HO267 := Aside0.mk (Kd.R_elder' z54_ (Kd.R_base ho0) hb); replace HO270 := Aside0.mk (Kd.R_elder' z55_ (Kd.R_base ho0) hb); replace HO273 := Aside0.mk (Kd.R_elder' z56_ (Kd.R_base ho0) hb); replace HO276 := Aside0.mk (Kd.R_elder' z57_ (Kd.R_base ho0) hb); replace HO279 := Aside0.mk (Kd.R_elder' z58_ (Kd.R_base ho0) hb); replace HO282 := Aside0.mk (Kd.R_elder' z59_ (Kd.R_base ho0) hb); replace BK264 := Aside0.mk (blk_below (g := gb264) (o := .cells #[.slice A2_0 l2_0.length c2_0, .slice A2_1 l2_1.length c2_1, .slice A2_2 l2_2.length c2_2] 38 (0, 0)) (by (with_reducible repeat (first | refine blk_drewN ?_ _ | refine blk_drew ?_ | refine blk_alloc ?_ _)); refine blk_far ?_ NB264_283.out _; (with_reducible repeat (first | refine blk_drewN ?_ _ | refine blk_drew ?_ | refine blk_alloc ?_ _)); refine blk_far ?_ NB264_283.out _; (with_reducible repeat (first | refine blk_drewN ?_ _ | refine blk_drew ?_ | refine blk_alloc ?_ _)); refine blk_far ?_ NB264_283.out _; (with_reducible repeat (first | refine blk_drewN ?_ _ | refine blk_drew ?_ | refine blk_alloc ?_ _)); refine blk_far ?_ NB264_283.out _; (with_reducible repeat (first | refine blk_drewN ?_ _ | refine blk_drew ?_ | refine blk_alloc ?_ _)); refine blk_far ?_ NB264_283.out _; (with_reducible repeat (first | refine blk_drewN ?_ _ | refine blk_drew ?_ | refine blk_alloc ?_ _)); refine blk_far ?_ NB264_283.out _; (with_reducible repeat (first | refine blk_drewN ?_ _ | refine blk_drew ?_ | refine blk_alloc ?_ _)); refine blk_far ?_ NB264_283.out _; (with_reducible repeat (first | refine blk_drewN ?_ _ | refine blk_drew ?_ | refine blk_alloc ?_ _)); exact BK264.out) hb); replace BK283 := Aside0.mk (blk_below (g := gb283) (o := .cells #[.slice Ao32 t271.length co32, .slice Ao31 t274.length co31, .slice Ao30 t277.length co30, .slice Ao29 t280.length co29, .slice A2_0 l2_0.length c2_0, .slice A2_1 l2_1.length c2_1, .slice A2_2 l2_2.length c2_2] 105 (0, 0)) (by (with_reducible repeat (first | refine blk_drewN ?_ _ | refine blk_drew ?_ | refine blk_alloc ?_ _)); refine blk_put (cs := #[.slice Ao32 t271.length co32, .slice Ao31 t274.length co31, .slice Ao30 t277.length co30, .slice Ao29 t280.length co29, .slice A2_0 l2_0.length c2_0, .slice A2_1 l2_1.length c2_1, .slice none 0 0]) ?_ 6 _ rfl; (with_reducible repeat (first | refine blk_drewN ?_ _ | refine blk_drew ?_ | refine blk_alloc ?_ _)); refine blk_put (cs := #[.slice Ao32 t271.length co32, .slice Ao31 t274.length co31, .slice Ao30 t277.length co30, .slice Ao29 t280.length co29, .slice A2_0 l2_0.length c2_0, .slice none 0 0, .slice none 0 0]) ?_ 5 _ rfl; (with_reducible repeat (first | refine blk_drewN ?_ _ | refine blk_drew ?_ | refine blk_alloc ?_ _)); refine blk_put (cs := #[.slice Ao32 t271.length co32, .slice Ao31 t274.length co31, .slice Ao30 t277.length co30, .slice Ao29 t280.length co29, .slice none 0 0, .slice none 0 0, .slice none 0 0]) ?_ 4 _ rfl; (with_reducible repeat (first | refine blk_drewN ?_ _ | refine blk_drew ?_ | refine blk_alloc ?_ _)); refine blk_put (cs := #[.slice Ao32 t271.length co32, .slice Ao31 t274.length co31, .slice Ao30 t277.length co30, .slice none 0 0, .slice none 0 0, .slice none 0 0, .slice none 0 0]) ?_ 3 _ rfl; (with_reducible repeat (first | refine blk_drewN ?_ _ | refine blk_drew ?_ | refine blk_alloc ?_ _)); refine blk_put (cs := #[.slice Ao32 t271.length co32, .slice Ao31 t274.length co31, .slice none 0 0, .slice none 0 0, .slice none 0 0, .slice none 0 0, .slice none 0 0]) ?_ 2 _ rfl; (with_reducible repeat (first | refine blk_drewN ?_ _ | refine blk_drew ?_ | refine blk_alloc ?_ _)); refine blk_put (cs := #[.slice Ao32 t271.length co32, .slice none 0 0, .slice none 0 0, .slice none 0 0, .slice none 0 0, .slice none 0 0, .slice none 0 0]) ?_ 1 _ rfl; (with_reducible repeat (first | refine blk_drewN ?_ _ | refine blk_drew ?_ | refine blk_alloc ?_ _)); refine blk_put (cs := #[.slice none 0 0, .slice none 0 0, .slice none 0 0, .slice none 0 0, .slice none 0 0, .slice none 0 0, .slice none 0 0]) ?_ 0 _ rfl; (with_reducible repeat (first | refine blk_drewN ?_ _ | refine blk_drew ?_ | refine blk_alloc ?_ _)); exact BK283.out) hb); replace HB := Aside0.mk (below_step z6_ hb); (try clear hb ho0)) | ((with_reducible refine gate_callee (f := 82) rfl ?_); refine goesL_ (some 35) rfl rfl Try.func82 (by kernel_rfl) rfl #[.slice A1 l1.length c1] rfl z1_ ?_; (with_reducible refine (spec_KeyRoots.calls k _ _ l1 t287 _ ?side1 ?side2 A12.out).mono ?_); (case side1 => exact z8_); (case side2 => exact HC1.out); rintro e w41 ⟨v288, rfl, ho0, hb⟩; refine ⟨_, rfl, ?_⟩; have HO289 := Aside0.mk (Kd.R_lower (Kd.R_new' (Kd.R_new' (Kd.R_new' (Kd.R_new' (Kd.R_new' (Kd.R_new' (Kd.R_new' ho0 (Kd.R_lt z20_)) (Kd.R_lt z22_)) (Kd.R_lt z32_)) (Kd.R_lt z48_)) (Kd.R_lt z79_)) (Kd.R_lt z171_)) (Kd.R_lt z248_)) (below_size z6_)); replace HO267 := Aside0.mk (Kd.R_elder' z20_ (Kd.R_base ho0) hb); replace HO270 := Aside0.mk (Kd.R_elder' z22_ (Kd.R_base ho0) hb); replace HO273 := Aside0.mk (Kd.R_elder' z32_ (Kd.R_base ho0) hb); replace HO276 := Aside0.mk (Kd.R_elder' z48_ (Kd.R_base ho0) hb); replace HO279 := Aside0.mk (Kd.R_elder' z79_ (Kd.R_base ho0) hb); replace HO282 := Aside0.mk (Kd.R_elder' z171_ (Kd.R_base ho0) hb); replace HO286 := Aside0.mk (Kd.R_elder' z248_ (Kd.R_base ho0) hb); replace BK264 := Aside0.mk (blk_below (g := gb264) (o := .cells #[.slice A2_0 l2_0.length c2_0, .slice A2_1 l2_1.length c2_1, .slice A2_2 l2_2.length c2_2] 38 (0, 0)) z9_ hb); replace BK283 := Aside0.mk (blk_below (g := gb283) (o := .cells #[.slice Ao32 t271.length co32, .slice Ao31 t274.length co31, .slice Ao30 t277.length co30, .slice Ao29 t280.length co29, .slice A2_0 l2_0.length c2_0, .slice A2_1 l2_1.length c2_1, .slice A2_2 l2_2.length c2_2] 105 (0, 0)) z34_ hb); replace HB := Aside0.mk (below_step z6_ hb); (try clear hb ho0)))
 go_loopg [9, 13] k (fun kq v9 v13 w' => ∃ (x8_1 : List Int) (x9_1 : List Int) (x13_1 : Int), v13 = .int .i64 x13_1 ∧ Aside0 (spec_l8All.l0 kq x8_1 x9_1 t284 t287 x13_1 t271 t274 t277 t280 l2_0 l2_1 l2_2 = some (r1, r2)) ∧ Aside0 (kq ≤ k) ∧ Aside0 (Kd.R (Kd.int .i64) 3 w' w.heap.size (fun k_ => some k_ ≠ (v9 : Value).ownBlock ∧ some k_ ≠ (v285 : Value).ownBlock ∧ some k_ ≠ (v288 : Value).ownBlock ∧ some k_ ≠ ((.slice Ao32 t271.length co32) : Value).ownBlock ∧ some k_ ≠ ((.slice Ao31 t274.length co31) : Value).ownBlock ∧ some k_ ≠ ((.slice Ao30 t277.length co30) : Value).ownBlock ∧ some k_ ≠ ((.slice Ao29 t280.length co29) : Value).ownBlock) v266 x8_1) ∧ Aside0 (Kd.R (Kd.int .i64) 3 w' w.heap.size (fun k_ => some k_ ≠ (v266 : Value).ownBlock ∧ some k_ ≠ (v285 : Value).ownBlock ∧ some k_ ≠ (v288 : Value).ownBlock ∧ some k_ ≠ ((.slice Ao32 t271.length co32) : Value).ownBlock ∧ some k_ ≠ ((.slice Ao31 t274.length co31) : Value).ownBlock ∧ some k_ ≠ ((.slice Ao30 t277.length co30) : Value).ownBlock ∧ some k_ ≠ ((.slice Ao29 t280.length co29) : Value).ownBlock) v9 x9_1) ∧ Aside0 (Kd.R (Kd.int .i64) 3 w' w.heap.size (fun k_ => some k_ ≠ (v266 : Value).ownBlock ∧ some k_ ≠ (v9 : Value).ownBlock ∧ some k_ ≠ (v288 : Value).ownBlock ∧ some k_ ≠ ((.slice Ao32 t271.length co32) : Value).ownBlock ∧ some k_ ≠ ((.slice Ao31 t274.length co31) : Value).ownBlock ∧ some k_ ≠ ((.slice Ao30 t277.length co30) : Value).ownBlock ∧ some k_ ≠ ((.slice Ao29 t280.length co29) : Value).ownBlock) v285 t284) ∧ Aside0 (Kd.R (Kd.int .i64) 3 w' w.heap.size (fun k_ => some k_ ≠ (v266 : Value).ownBlock ∧ some k_ ≠ (v9 : Value).ownBlock ∧ some k_ ≠ (v285 : Value).ownBlock ∧ some k_ ≠ ((.slice Ao32 t271.length co32) : Value).ownBlock ∧ some k_ ≠ ((.slice Ao31 t274.length co31) : Value).ownBlock ∧ some k_ ≠ ((.slice Ao30 t277.length co30) : Value).ownBlock ∧ some k_ ≠ ((.slice Ao29 t280.length co29) : Value).ownBlock) v288 t287) ∧ Aside0 (Kd.R (Kd.int .i64) 3 w' w.heap.size (fun k_ => some k_ ≠ (v266 : Value).ownBlock ∧ some k_ ≠ (v9 : Value).ownBlock ∧ some k_ ≠ (v285 : Value).ownBlock ∧ some k_ ≠ (v288 : Value).ownBlock ∧ some k_ ≠ ((.slice Ao31 t274.length co31) : Value).ownBlock ∧ some k_ ≠ ((.slice Ao30 t277.length co30) : Value).ownBlock ∧ some k_ ≠ ((.slice Ao29 t280.length co29) : Value).ownBlock) (.slice Ao32 t271.length co32) t271) ∧ Aside0 (Kd.R (Kd.int .i64) 3 w' w.heap.size (fun k_ => some k_ ≠ (v266 : Value).ownBlock ∧ some k_ ≠ (v9 : Value).ownBlock ∧ some k_ ≠ (v285 : Value).ownBlock ∧ some k_ ≠ (v288 : Value).ownBlock ∧ some k_ ≠ ((.slice Ao32 t271.length co32) : Value).ownBlock ∧ some k_ ≠ ((.slice Ao30 t277.length co30) : Value).ownBlock ∧ some k_ ≠ ((.slice Ao29 t280.length co29) : Value).ownBlock) (.slice Ao31 t274.length co31) t274) ∧ Aside0 (Kd.R (Kd.int .i64) 3 w' w.heap.size (fun k_ => some k_ ≠ (v266 : Value).ownBlock ∧ some k_ ≠ (v9 : Value).ownBlock ∧ some k_ ≠ (v285 : Value).ownBlock ∧ some k_ ≠ (v288 : Value).ownBlock ∧ some k_ ≠ ((.slice Ao32 t271.length co32) : Value).ownBlock ∧ some k_ ≠ ((.slice Ao31 t274.length co31) : Value).ownBlock ∧ some k_ ≠ ((.slice Ao29 t280.length co29) : Value).ownBlock) (.slice Ao30 t277.length co30) t277) ∧ Aside0 (Kd.R (Kd.int .i64) 3 w' w.heap.size (fun k_ => some k_ ≠ (v266 : Value).ownBlock ∧ some k_ ≠ (v9 : Value).ownBlock ∧ some k_ ≠ (v285 : Value).ownBlock ∧ some k_ ≠ (v288 : Value).ownBlock ∧ some k_ ≠ ((.slice Ao32 t271.length co32) : Value).ownBlock ∧ some k_ ≠ ((.slice Ao31 t274.length co31) : Value).ownBlock ∧ some k_ ≠ ((.slice Ao30 t277.length co30) : Value).ownBlock) (.slice Ao29 t280.length co29) t280) ∧ Aside0 (w'.heap[gb264]? = some (.cells #[(.slice A2_0 l2_0.length c2_0), (.slice A2_1 l2_1.length c2_1), (.slice A2_2 l2_2.length c2_2)] 38 (0, 0))) ∧ Aside0 (w'.heap[gb283]? = some (.cells #[(.slice Ao32 t271.length co32), (.slice Ao31 t274.length co31), (.slice Ao30 t277.length co30), (.slice Ao29 t280.length co29), (.slice A2_0 l2_0.length c2_0), (.slice A2_1 l2_1.length c2_1), (.slice A2_2 l2_2.length c2_2)] 105 (0, 0))) ∧ Aside0 (Below w.heap.size w w'))
 case atStart => exact ⟨(y265), (y268), (0), z7_, H', ⟨Nat.le_refl _⟩, ⟨by (with_reducible repeat (first | apply Kd.R_alloc | apply Kd.R_drewN | apply Kd.R_drew)); exact Kd.R_mono HO267.out (fun _ hk => ⟨hk.1.1.1, ⟨hk.1.2, ⟨hk.2, ⟨hk.1.1.2.1, ⟨hk.1.1.2.2.1, ⟨hk.1.1.2.2.2.1, hk.1.1.2.2.2.2⟩⟩⟩⟩⟩⟩)⟩, ⟨by (with_reducible repeat (first | apply Kd.R_alloc | apply Kd.R_drewN | apply Kd.R_drew)); exact Kd.R_mono HO270.out (fun _ hk => ⟨hk.1.1.1, ⟨hk.1.2, ⟨hk.2, ⟨hk.1.1.2.1, ⟨hk.1.1.2.2.1, ⟨hk.1.1.2.2.2.1, hk.1.1.2.2.2.2⟩⟩⟩⟩⟩⟩)⟩, ⟨by (with_reducible repeat (first | apply Kd.R_alloc | apply Kd.R_drewN | apply Kd.R_drew)); exact Kd.R_mono HO286.out (fun _ hk => ⟨hk.1.1.1.1.1.1.2, ⟨hk.1.1.1.1.1.2, ⟨hk.2, ⟨hk.1.1.1.1.2, ⟨hk.1.1.1.2, ⟨hk.1.1.2, hk.1.2⟩⟩⟩⟩⟩⟩)⟩, ⟨by (with_reducible repeat (first | apply Kd.R_alloc | apply Kd.R_drewN | apply Kd.R_drew)); exact Kd.R_mono HO289.out (fun _ hk => ⟨hk.1.1.1.1.1.1.2, ⟨hk.1.1.1.1.1.2, ⟨hk.2, ⟨hk.1.1.1.1.2, ⟨hk.1.1.1.2, ⟨hk.1.1.2, hk.1.2⟩⟩⟩⟩⟩⟩)⟩, ⟨by (with_reducible repeat (first | apply Kd.R_alloc | apply Kd.R_drewN | apply Kd.R_drew)); exact Kd.R_mono HO273.out (fun _ hk => ⟨hk.1.1.1, ⟨hk.1.1.2.1, ⟨hk.1.2, ⟨hk.2, ⟨hk.1.1.2.2.1, ⟨hk.1.1.2.2.2.1, hk.1.1.2.2.2.2⟩⟩⟩⟩⟩⟩)⟩, ⟨by (with_reducible repeat (first | apply Kd.R_alloc | apply Kd.R_drewN | apply Kd.R_drew)); exact Kd.R_mono HO276.out (fun _ hk => ⟨hk.1.1.1, ⟨hk.1.1.2.1, ⟨hk.1.2, ⟨hk.2, ⟨hk.1.1.2.2.1, ⟨hk.1.1.2.2.2.1, hk.1.1.2.2.2.2⟩⟩⟩⟩⟩⟩)⟩, ⟨by (with_reducible repeat (first | apply Kd.R_alloc | apply Kd.R_drewN | apply Kd.R_drew)); exact Kd.R_mono HO279.out (fun _ hk => ⟨hk.1.1.1, ⟨hk.1.1.2.1, ⟨hk.1.2, ⟨hk.2, ⟨hk.1.1.2.2.1, ⟨hk.1.1.2.2.2.1, hk.1.1.2.2.2.2⟩⟩⟩⟩⟩⟩)⟩, ⟨by (with_reducible repeat (first | apply Kd.R_alloc | apply Kd.R_drewN | apply Kd.R_drew)); exact Kd.R_mono HO282.out (fun _ hk => ⟨hk.1.1.1, ⟨hk.1.1.2.1, ⟨hk.1.2, ⟨hk.2, ⟨hk.1.1.2.2.1, ⟨hk.1.1.2.2.2.1, hk.1.1.2.2.2.2⟩⟩⟩⟩⟩⟩)⟩, ⟨z9_⟩, ⟨z34_⟩, ⟨z6_⟩⟩
 case round =>
  clear H'
  try clear c1
  try clear c2
  try clear p2
  try clear c8
  obtain ⟨x8_1, x9_1, x13_1, rfl, HA, HK1, HO_8, HO_9, HO_11, HO_12, HO_284000, HO_284001, HO_284002, HO_284003, BK264, BK283, HB⟩ := hrel
  cases gk with
  | zero => exact absurd HA.out (by simp [spec_l8All.l0])
  | succ k1 =>
   have H := HA.out
   clear HA
   simp only [spec_l8All.l0] at H
   by_cases c42 : x13_1 < (t284.length : Int)
   ·rw [if_pos c42] at H
    have c42b0 := decide_eq_true c42
    clear c42
    have H' := Aside0.mk H
    clear H
    obtain ⟨Ao43, co43, eo43⟩ := Kd.R_slice HO_11.out
    subst eo43
    go_wp2
    go_loopg [9, 14] k1 (fun kq v9 v14 w' => ∃ (x8_2 : List Int) (x9_2 : List Int) (x14_2 : Int), v14 = .int .i64 x14_2 ∧ Aside0 (spec_l8All.l1 kq x8_2 x9_2 t284 t287 x13_1 x14_2 t271 t274 t277 t280 l2_0 l2_1 l2_2 = some (r1, r2)) ∧ Aside0 (kq ≤ k1) ∧ Aside0 (Kd.R (Kd.int .i64) 3 w' w.heap.size (fun k_ => some k_ ≠ (v9 : Value).ownBlock ∧ some k_ ≠ ((.slice Ao43 t284.length co43) : Value).ownBlock ∧ some k_ ≠ (v288 : Value).ownBlock ∧ some k_ ≠ ((.slice Ao32 t271.length co32) : Value).ownBlock ∧ some k_ ≠ ((.slice Ao31 t274.length co31) : Value).ownBlock ∧ some k_ ≠ ((.slice Ao30 t277.length co30) : Value).ownBlock ∧ some k_ ≠ ((.slice Ao29 t280.length co29) : Value).ownBlock) v266 x8_2) ∧ Aside0 (Kd.R (Kd.int .i64) 3 w' w.heap.size (fun k_ => some k_ ≠ (v266 : Value).ownBlock ∧ some k_ ≠ ((.slice Ao43 t284.length co43) : Value).ownBlock ∧ some k_ ≠ (v288 : Value).ownBlock ∧ some k_ ≠ ((.slice Ao32 t271.length co32) : Value).ownBlock ∧ some k_ ≠ ((.slice Ao31 t274.length co31) : Value).ownBlock ∧ some k_ ≠ ((.slice Ao30 t277.length co30) : Value).ownBlock ∧ some k_ ≠ ((.slice Ao29 t280.length co29) : Value).ownBlock) v9 x9_2) ∧ Aside0 (Kd.R (Kd.int .i64) 3 w' w.heap.size (fun k_ => some k_ ≠ (v266 : Value).ownBlock ∧ some k_ ≠ (v9 : Value).ownBlock ∧ some k_ ≠ (v288 : Value).ownBlock ∧ some k_ ≠ ((.slice Ao32 t271.length co32) : Value).ownBlock ∧ some k_ ≠ ((.slice Ao31 t274.length co31) : Value).ownBlock ∧ some k_ ≠ ((.slice Ao30 t277.length co30) : Value).ownBlock ∧ some k_ ≠ ((.slice Ao29 t280.length co29) : Value).ownBlock) (.slice Ao43 t284.length co43) t284) ∧ Aside0 (Kd.R (Kd.int .i64) 3 w' w.heap.size (fun k_ => some k_ ≠ (v266 : Value).ownBlock ∧ some k_ ≠ (v9 : Value).ownBlock ∧ some k_ ≠ ((.slice Ao43 t284.length co43) : Value).ownBlock ∧ some k_ ≠ ((.slice Ao32 t271.length co32) : Value).ownBlock ∧ some k_ ≠ ((.slice Ao31 t274.length co31) : Value).ownBlock ∧ some k_ ≠ ((.slice Ao30 t277.length co30) : Value).ownBlock ∧ some k_ ≠ ((.slice Ao29 t280.length co29) : Value).ownBlock) v288 t287) ∧ Aside0 (Kd.R (Kd.int .i64) 3 w' w.heap.size (fun k_ => some k_ ≠ (v266 : Value).ownBlock ∧ some k_ ≠ (v9 : Value).ownBlock ∧ some k_ ≠ ((.slice Ao43 t284.length co43) : Value).ownBlock ∧ some k_ ≠ (v288 : Value).ownBlock ∧ some k_ ≠ ((.slice Ao31 t274.length co31) : Value).ownBlock ∧ some k_ ≠ ((.slice Ao30 t277.length co30) : Value).ownBlock ∧ some k_ ≠ ((.slice Ao29 t280.length co29) : Value).ownBlock) (.slice Ao32 t271.length co32) t271) ∧ Aside0 (Kd.R (Kd.int .i64) 3 w' w.heap.size (fun k_ => some k_ ≠ (v266 : Value).ownBlock ∧ some k_ ≠ (v9 : Value).ownBlock ∧ some k_ ≠ ((.slice Ao43 t284.length co43) : Value).ownBlock ∧ some k_ ≠ (v288 : Value).ownBlock ∧ some k_ ≠ ((.slice Ao32 t271.length co32) : Value).ownBlock ∧ some k_ ≠ ((.slice Ao30 t277.length co30) : Value).ownBlock ∧ some k_ ≠ ((.slice Ao29 t280.length co29) : Value).ownBlock) (.slice Ao31 t274.length co31) t274) ∧ Aside0 (Kd.R (Kd.int .i64) 3 w' w.heap.size (fun k_ => some k_ ≠ (v266 : Value).ownBlock ∧ some k_ ≠ (v9 : Value).ownBlock ∧ some k_ ≠ ((.slice Ao43 t284.length co43) : Value).ownBlock ∧ some k_ ≠ (v288 : Value).ownBlock ∧ some k_ ≠ ((.slice Ao32 t271.length co32) : Value).ownBlock ∧ some k_ ≠ ((.slice Ao31 t274.length co31) : Value).ownBlock ∧ some k_ ≠ ((.slice Ao29 t280.length co29) : Value).ownBlock) (.slice Ao30 t277.length co30) t277) ∧ Aside0 (Kd.R (Kd.int .i64) 3 w' w.heap.size (fun k_ => some k_ ≠ (v266 : Value).ownBlock ∧ some k_ ≠ (v9 : Value).ownBlock ∧ some k_ ≠ ((.slice Ao43 t284.length co43) : Value).ownBlock ∧ some k_ ≠ (v288 : Value).ownBlock ∧ some k_ ≠ ((.slice Ao32 t271.length co32) : Value).ownBlock ∧ some k_ ≠ ((.slice Ao31 t274.length co31) : Value).ownBlock ∧ some k_ ≠ ((.slice Ao30 t277.length co30) : Value).ownBlock) (.slice Ao29 t280.length co29) t280) ∧ Aside0 (w'.heap[gb264]? = some (.cells #[(.slice A2_0 l2_0.length c2_0), (.slice A2_1 l2_1.length c2_1), (.slice A2_2 l2_2.length c2_2)] 38 (0, 0))) ∧ Aside0 (w'.heap[gb283]? = some (.cells #[(.slice Ao32 t271.length co32), (.slice Ao31 t274.length co31), (.slice Ao30 t277.length co30), (.slice Ao29 t280.length co29), (.slice A2_0 l2_0.length c2_0), (.slice A2_1 l2_1.length c2_1), (.slice A2_2 l2_2.length c2_2)] 105 (0, 0))) ∧ Aside0 (Below w.heap.size w w'))
    case atStart => exact ⟨(x8_1), (x9_1), (0), z7_, H', ⟨Nat.le_refl _⟩, ⟨z258_⟩, ⟨z228_⟩, ⟨z172_⟩, ⟨z223_⟩, ⟨z215_⟩, ⟨z216_⟩, ⟨z217_⟩, ⟨z218_⟩, ⟨z9_⟩, ⟨z34_⟩, ⟨z6_⟩⟩
    case round =>
     clear H'
     try clear c1
     try clear c2
     try clear p2
     try clear c4
     try clear c8
     try clear c42
     try clear c42b0
     try clear p2
     obtain ⟨x8_2, x9_2, x14_2, rfl, HA, HK2, HO_8, HO_9, HO_11, HO_12, HO_284000, HO_284001, HO_284002, HO_284003, BK264, BK283, HB⟩ := hrel
     cases gk with
     | zero => exact absurd HA.out (by simp [spec_l8All.l1])
     | succ k2 =>
      have H := HA.out
      clear HA
      simp only [spec_l8All.l1] at H
      by_cases c44 : x14_2 < (t287.length : Int)
      ·rw [if_pos c44] at H
       have c44b0 := decide_eq_true c44
       clear c44
       obtain ⟨c45b0, H⟩ := ifd_ H
       obtain ⟨c46b0, H⟩ := ifd_ H
       obtain ⟨c47b0, H⟩ := ifd_ H
       replace H := Option.bind_eq_some_iff.mp H
       obtain ⟨⟨t292, t295⟩, A480, H⟩ := H
       try dsimp only at H
       have A48 := Aside0.mk A480
       clear A480
       have H' := Aside0.mk H
       clear H
       obtain ⟨Ao49, co49, eo49⟩ := Kd.R_slice HO_12.out
       subst eo49
       try go_wp2
       have n0_ := Aside0.mk (Kd.R_drew HO_8.out)
       have n1_ := Aside0.mk (Kd.R_drew HO_9.out)
       have n2_ := Aside0.mk (Kd.R_drew HO_11.out)
       have n3_ := Aside0.mk (Kd.R_drew HO_12.out)
       have n4_ := Aside0.mk (Kd.R_drew HO_284000.out)
       have n5_ := Aside0.mk (Kd.R_drew HO_284001.out)
       have n6_ := Aside0.mk (Kd.R_drew HO_284002.out)
       have n7_ := Aside0.mk (Kd.R_drew HO_284003.out)
       have n8_ := Aside0.mk (blk_drew BK264.out)
       have n9_ := Aside0.mk (blk_drew BK283.out)
       have n10_ := Aside0.mk (below_drew1 HB.out)
       clear HO_8
       clear HO_9
       clear HO_11
       clear HO_12
       clear HO_284000
       clear HO_284001
       clear HO_284002
       clear HO_284003
       clear BK264
       clear BK283
       clear HB
       have HO_8 := n0_
       have HO_9 := n1_
       have HO_11 := n2_
       have HO_12 := n3_
       have HO_284000 := n4_
       have HO_284001 := n5_
       have HO_284002 := n6_
       have HO_284003 := n7_
       have BK264 := n8_
       have BK283 := n9_
       have HB := n10_
       clear n0_ n1_ n2_ n3_ n4_ n5_ n6_ n7_ n8_ n9_ n10_
       have p290 : 0 ≤ (x13_1 : Int) := odt_
       have q290 : x13_1 < (t284.length : Int) := odt_
       obtain ⟨ad290, e290, hx290_0⟩ := Kd.at_int (Kd.R_reads' HO_11.out).2.2 x13_1 p290 q290
       cases e290
       replace p290 := eq_true p290
       replace q290 := eq_true q290
       have p291 : 0 ≤ (x14_2 : Int) := odt_
       have q291 : x14_2 < (t287.length : Int) := odt_
       obtain ⟨ad291, e291, hx291_0⟩ := Kd.at_int (Kd.R_reads' HO_12.out).2.2 x14_2 p291 q291
       cases e291
       replace p291 := eq_true p291
       replace q291 := eq_true q291
       obtain ⟨Ao51, co51, eo51⟩ := Kd.R_slice HO_8.out
       (first | subst eo51 | (injection eo51 with f1_ f2_ f3_; have f4_ := f1_.symm; have f5_ := f3_.symm; clear f1_ f2_ f3_; subst f4_; subst f5_))
       refine start_ (n := 12) (S := fun w' => w'.cell? ⟨gb283, 0, none⟩ = some (.slice Ao32 t271.length co32) ∧ w'.cell? ⟨gb283, 1, none⟩ = some (.slice Ao31 t274.length co31) ∧ w'.cell? ⟨gb283, 2, none⟩ = some (.slice Ao30 t277.length co30) ∧ w'.cell? ⟨gb283, 3, none⟩ = some (.slice Ao29 t280.length co29) ∧ w'.cell? ⟨gb283, 4, none⟩ = some (.slice A2_0 l2_0.length c2_0) ∧ w'.cell? ⟨gb283, 5, none⟩ = some (.slice A2_1 l2_1.length c2_1) ∧ w'.cell? ⟨gb283, 6, none⟩ = some (.slice A2_2 l2_2.length c2_2) ∧ w'.cell? (ad290.add (x13_1).toNat) = some (.int .i64 (rd t284 x13_1)) ∧ w'.cell? (ad291.add (x14_2).toNat) = some (.int .i64 (rd t287 x14_2))) (ds := []) (fl_ 12 0) (by kernel_rfl) rfl (fl_zero _) ⟨(blk_cell BK283.out 0).trans rfl, (blk_cell BK283.out 1).trans rfl, (blk_cell BK283.out 2).trans rfl, (blk_cell BK283.out 3).trans rfl, (blk_cell BK283.out 4).trans rfl, (blk_cell BK283.out 5).trans rfl, (blk_cell BK283.out 6).trans rfl, hx290_0, hx291_0⟩ (fun hHeld => ?_); refine with_tabW spec_l8All.tab12 spec_l8All.bits12 (fun HT_ HW_ => ?_)
       generalize wr.drew = w50 at HO_8 HO_9 HO_11 HO_12 HO_284000 HO_284001 HO_284002 HO_284003 BK264 BK283 HB hx290_0 hx291_0 hHeld ⊢
       refine zpg_ (i := 1) (ra_ [0, 1, 1, 10]) HT_ rfl rfl (by kernel_rfl) (fun _ _ _ h => h) (by rfl) ?_
       refine zpg_ (i := 2) (ra_ [0, 1, 2, 9]) HT_ rfl rfl (by kernel_rfl) (fun _ _ _ h => h) (by rfl) ?_
       refine zpg_ (i := 3) (ra_ [0, 1, 3, 8]) HT_ rfl rfl (by kernel_rfl) (fun _ _ _ h => h) (by rfl) ?_
       refine zpg_ (i := 5) (ra_ [0, 1, 3, 1, 1, 6]) HT_ rfl rfl (by kernel_rfl) (fun _ _ _ h => h) (by rfl) ?_
       refine zpg_ (i := 6) (ra_ [0, 1, 3, 1, 2, 5]) HT_ rfl rfl (by kernel_rfl) (fun _ _ _ h => h) (by rfl) ?_
       refine zpg_ (i := 7) (ra_ [0, 1, 3, 1, 3, 4]) HT_ rfl rfl (by kernel_rfl) (fun _ _ _ h => h) (by rfl) ?_
       refine zpg_ (i := 9) (ra_ [0, 1, 3, 1, 3, 1, 1, 2]) HT_ rfl rfl (by kernel_rfl) (fun _ _ _ h => h) (by rfl) ?_
       refine ztg_ (i := 0) (ra_ [4, 1, 3, 1, 1, 2]) HT_ HW_ rfl rfl (by kernel_rfl) (fun _ _ _ h => h) (by rfl) hHeld ?_ z243_
       refine ztg_ (i := 4) (ra_ [8, 1, 1, 2]) HT_ HW_ rfl rfl (by kernel_rfl) (fun _ _ _ h => h) (by rfl) hHeld ?_ z243_
       refine ztg_ (i := 8) (fl_ 12 10) HT_ HW_ rfl rfl (by kernel_rfl) (fun _ _ _ h => h) (by rfl) hHeld ?_ z243_
       refine one_ (i := 10) (N := some 58) (fl_ 12 11) rfl rfl (one_of HT_.out (by kernel_rfl)) (by decide) (fun K hK => ?_)
       refine goes_ Try.func83 (by kernel_rfl) rfl #[.agg #[.slice Ao32 t271.length co32, .slice Ao31 t274.length co31, .slice Ao30 t277.length co30, .slice Ao29 t280.length co29, .slice A2_0 l2_0.length c2_0, .slice A2_1 l2_1.length c2_1, .slice A2_2 l2_2.length c2_2], .int .i64 (rd t284 x13_1), .int .i64 (rd t287 x14_2), .slice Ao51 x8_2.length co51] (by rfl) rfl rfl z1_ ?_
       with_reducible refine (spec_l8Forest.calls k2 _ _ t271 _ _ t274 _ _ t277 _ _ t280 _ _ l2_0 _ _ l2_1 _ _ l2_2 (rd t284 x13_1) (rd t287 x14_2) (fun k_ => some k_ = (.slice Ao51 x8_2.length co51 : Value).ownBlock) (.slice Ao51 x8_2.length co51) x8_2 t292 t295 w _ ?side1 ?side2 ?side3 ?side4 ?side5 ?side6 ?side7 ?side8 ?side9 ?side10 ?side11 ?side12 ?side13 ?side14 ?side15 ?side16 A48.out).mono ?_
       (case side1 => exact z6_)
       (case side2 => exact Kd.C_kept_own (HO_284000.out) (fun k_ hk_ hs_ => (hk_.1) hs_))
       (case side3 => exact (Kd.R_reads' HO_284000.out).2.1)
       (case side4 => exact Kd.C_kept_own (HO_284001.out) (fun k_ hk_ hs_ => (hk_.1) hs_))
       (case side5 => exact (Kd.R_reads' HO_284001.out).2.1)
       (case side6 => exact Kd.C_kept_own (HO_284002.out) (fun k_ hk_ hs_ => (hk_.1) hs_))
       (case side7 => exact (Kd.R_reads' HO_284002.out).2.1)
       (case side8 => exact Kd.C_kept_own (HO_284003.out) (fun k_ hk_ hs_ => (hk_.1) hs_))
       (case side9 => exact (Kd.R_reads' HO_284003.out).2.1)
       (case side10 => exact Kd.C_kept_came (Kd.heap_int .i64) HR2_0.out z6_ (fun k_ hs_ => (fun e_ => Kd.R_base HO_8.out k_ e_.symm) hs_))
       (case side11 => exact HC2_0.out)
       (case side12 => exact Kd.C_kept_came (Kd.heap_int .i64) HR2_1.out z6_ (fun k_ hs_ => (fun e_ => Kd.R_base HO_8.out k_ e_.symm) hs_))
       (case side13 => exact HC2_1.out)
       (case side14 => exact Kd.C_kept_came (Kd.heap_int .i64) HR2_2.out z6_ (fun k_ hs_ => (fun e_ => Kd.R_base HO_8.out k_ e_.symm) hs_))
       (case side15 => exact HC2_2.out)
       (case side16 => exact Kd.R_tight rfl HO_8.out)
       rintro e w52 ⟨v293, rfl, ho0, hy0, hb, hkp⟩
       have HS7_ := cell_kept (hHeld.2.2.2.2.2.2.2.1) hkp (by first | (rw [add_block]; exact (fun hs_ => (((HO_11.out).1 _ rfl).1) hs_)) | (show ¬ _; simp only [add_block]; exact (fun hs_ => (((HO_11.out).1 _ rfl).1) hs_)) | exact (fun hs_ => (((HO_11.out).1 _ rfl).1) hs_))
       have HS8_ := cell_kept (hHeld.2.2.2.2.2.2.2.2) hkp (by first | (rw [add_block]; exact (fun hs_ => (((HO_12.out).1 _ rfl).1) hs_)) | (show ¬ _; simp only [add_block]; exact (fun hs_ => (((HO_12.out).1 _ rfl).1) hs_)) | exact (fun hs_ => (((HO_12.out).1 _ rfl).1) hs_))
       refine ⟨_, rfl, ?_⟩
       have n0_ := Aside0.mk (Kd.R_reok rfl hy0 (fun k_ e_ => HO_8.out.1 k_ e_))
       have n1_ := Aside0.mk (Kd.R_mono (ok' := fun k_ => some k_ ≠ (.slice Ao51 x8_2.length co51 : Value).ownBlock ∧ some k_ ≠ (.slice (some ad290) t284.length co43 : Value).ownBlock ∧ some k_ ≠ (.slice (some ad291) t287.length co49 : Value).ownBlock ∧ some k_ ≠ (.slice Ao32 t271.length co32 : Value).ownBlock ∧ some k_ ≠ (.slice Ao31 t274.length co31 : Value).ownBlock ∧ some k_ ≠ (.slice Ao30 t277.length co30 : Value).ownBlock ∧ some k_ ≠ (.slice Ao29 t280.length co29 : Value).ownBlock ∧ some k_ ≠ (v293 : Value).ownBlock) (Kd.R_keptB (HO_9.out) hkp (fun k_ hk_ hs_ => (hk_.1) hs_)) (fun k_ hk_ => ⟨hk_.1.1, hk_.1.2.1, hk_.1.2.2.1, hk_.1.2.2.2.1, hk_.1.2.2.2.2.1, hk_.1.2.2.2.2.2.1, hk_.1.2.2.2.2.2.2, fun e_ => Or.elim (ho0.1 k_ e_.symm).1 (fun hs_ => hk_.2.1 hs_) (fun hn_ => Nat.not_le.2 hk_.2.2 hn_)⟩))
       have n2_ := Aside0.mk (Kd.R_mono (ok' := fun k_ => some k_ ≠ (.slice Ao51 x8_2.length co51 : Value).ownBlock ∧ some k_ ≠ (u9 : Value).ownBlock ∧ some k_ ≠ (.slice (some ad291) t287.length co49 : Value).ownBlock ∧ some k_ ≠ (.slice Ao32 t271.length co32 : Value).ownBlock ∧ some k_ ≠ (.slice Ao31 t274.length co31 : Value).ownBlock ∧ some k_ ≠ (.slice Ao30 t277.length co30 : Value).ownBlock ∧ some k_ ≠ (.slice Ao29 t280.length co29 : Value).ownBlock ∧ some k_ ≠ (v293 : Value).ownBlock) (Kd.R_keptB (HO_11.out) hkp (fun k_ hk_ hs_ => (hk_.1) hs_)) (fun k_ hk_ => ⟨hk_.1.1, hk_.1.2.1, hk_.1.2.2.1, hk_.1.2.2.2.1, hk_.1.2.2.2.2.1, hk_.1.2.2.2.2.2.1, hk_.1.2.2.2.2.2.2, fun e_ => Or.elim (ho0.1 k_ e_.symm).1 (fun hs_ => hk_.2.1 hs_) (fun hn_ => Nat.not_le.2 hk_.2.2 hn_)⟩))
       have n3_ := Aside0.mk (Kd.R_mono (ok' := fun k_ => some k_ ≠ (.slice Ao51 x8_2.length co51 : Value).ownBlock ∧ some k_ ≠ (u9 : Value).ownBlock ∧ some k_ ≠ (.slice (some ad290) t284.length co43 : Value).ownBlock ∧ some k_ ≠ (.slice Ao32 t271.length co32 : Value).ownBlock ∧ some k_ ≠ (.slice Ao31 t274.length co31 : Value).ownBlock ∧ some k_ ≠ (.slice Ao30 t277.length co30 : Value).ownBlock ∧ some k_ ≠ (.slice Ao29 t280.length co29 : Value).ownBlock ∧ some k_ ≠ (v293 : Value).ownBlock) (Kd.R_keptB (HO_12.out) hkp (fun k_ hk_ hs_ => (hk_.1) hs_)) (fun k_ hk_ => ⟨hk_.1.1, hk_.1.2.1, hk_.1.2.2.1, hk_.1.2.2.2.1, hk_.1.2.2.2.2.1, hk_.1.2.2.2.2.2.1, hk_.1.2.2.2.2.2.2, fun e_ => Or.elim (ho0.1 k_ e_.symm).1 (fun hs_ => hk_.2.1 hs_) (fun hn_ => Nat.not_le.2 hk_.2.2 hn_)⟩))
       have n4_ := Aside0.mk (Kd.R_mono (ok' := fun k_ => some k_ ≠ (.slice Ao51 x8_2.length co51 : Value).ownBlock ∧ some k_ ≠ (u9 : Value).ownBlock ∧ some k_ ≠ (.slice (some ad290) t284.length co43 : Value).ownBlock ∧ some k_ ≠ (.slice (some ad291) t287.length co49 : Value).ownBlock ∧ some k_ ≠ (.slice Ao31 t274.length co31 : Value).ownBlock ∧ some k_ ≠ (.slice Ao30 t277.length co30 : Value).ownBlock ∧ some k_ ≠ (.slice Ao29 t280.length co29 : Value).ownBlock ∧ some k_ ≠ (v293 : Value).ownBlock) (Kd.R_keptB (HO_284000.out) hkp (fun k_ hk_ hs_ => (hk_.1) hs_)) (fun k_ hk_ => ⟨hk_.1.1, hk_.1.2.1, hk_.1.2.2.1, hk_.1.2.2.2.1, hk_.1.2.2.2.2.1, hk_.1.2.2.2.2.2.1, hk_.1.2.2.2.2.2.2, fun e_ => Or.elim (ho0.1 k_ e_.symm).1 (fun hs_ => hk_.2.1 hs_) (fun hn_ => Nat.not_le.2 hk_.2.2 hn_)⟩))
       have n5_ := Aside0.mk (Kd.R_mono (ok' := fun k_ => some k_ ≠ (.slice Ao51 x8_2.length co51 : Value).ownBlock ∧ some k_ ≠ (u9 : Value).ownBlock ∧ some k_ ≠ (.slice (some ad290) t284.length co43 : Value).ownBlock ∧ some k_ ≠ (.slice (some ad291) t287.length co49 : Value).ownBlock ∧ some k_ ≠ (.slice Ao32 t271.length co32 : Value).ownBlock ∧ some k_ ≠ (.slice Ao30 t277.length co30 : Value).ownBlock ∧ some k_ ≠ (.slice Ao29 t280.length co29 : Value).ownBlock ∧ some k_ ≠ (v293 : Value).ownBlock) (Kd.R_keptB (HO_284001.out) hkp (fun k_ hk_ hs_ => (hk_.1) hs_)) (fun k_ hk_ => ⟨hk_.1.1, hk_.1.2.1, hk_.1.2.2.1, hk_.1.2.2.2.1, hk_.1.2.2.2.2.1, hk_.1.2.2.2.2.2.1, hk_.1.2.2.2.2.2.2, fun e_ => Or.elim (ho0.1 k_ e_.symm).1 (fun hs_ => hk_.2.1 hs_) (fun hn_ => Nat.not_le.2 hk_.2.2 hn_)⟩))
       have n6_ := Aside0.mk (Kd.R_mono (ok' := fun k_ => some k_ ≠ (.slice Ao51 x8_2.length co51 : Value).ownBlock ∧ some k_ ≠ (u9 : Value).ownBlock ∧ some k_ ≠ (.slice (some ad290) t284.length co43 : Value).ownBlock ∧ some k_ ≠ (.slice (some ad291) t287.length co49 : Value).ownBlock ∧ some k_ ≠ (.slice Ao32 t271.length co32 : Value).ownBlock ∧ some k_ ≠ (.slice Ao31 t274.length co31 : Value).ownBlock ∧ some k_ ≠ (.slice Ao29 t280.length co29 : Value).ownBlock ∧ some k_ ≠ (v293 : Value).ownBlock) (Kd.R_keptB (HO_284002.out) hkp (fun k_ hk_ hs_ => (hk_.1) hs_)) (fun k_ hk_ => ⟨hk_.1.1, hk_.1.2.1, hk_.1.2.2.1, hk_.1.2.2.2.1, hk_.1.2.2.2.2.1, hk_.1.2.2.2.2.2.1, hk_.1.2.2.2.2.2.2, fun e_ => Or.elim (ho0.1 k_ e_.symm).1 (fun hs_ => hk_.2.1 hs_) (fun hn_ => Nat.not_le.2 hk_.2.2 hn_)⟩))
       have n7_ := Aside0.mk (Kd.R_mono (ok' := fun k_ => some k_ ≠ (.slice Ao51 x8_2.length co51 : Value).ownBlock ∧ some k_ ≠ (u9 : Value).ownBlock ∧ some k_ ≠ (.slice (some ad290) t284.length co43 : Value).ownBlock ∧ some k_ ≠ (.slice (some ad291) t287.length co49 : Value).ownBlock ∧ some k_ ≠ (.slice Ao32 t271.length co32 : Value).ownBlock ∧ some k_ ≠ (.slice Ao31 t274.length co31 : Value).ownBlock ∧ some k_ ≠ (.slice Ao30 t277.length co30 : Value).ownBlock ∧ some k_ ≠ (v293 : Value).ownBlock) (Kd.R_keptB (HO_284003.out) hkp (fun k_ hk_ hs_ => (hk_.1) hs_)) (fun k_ hk_ => ⟨hk_.1.1, hk_.1.2.1, hk_.1.2.2.1, hk_.1.2.2.2.1, hk_.1.2.2.2.2.1, hk_.1.2.2.2.2.2.1, hk_.1.2.2.2.2.2.2, fun e_ => Or.elim (ho0.1 k_ e_.symm).1 (fun hs_ => hk_.2.1 hs_) (fun hn_ => Nat.not_le.2 hk_.2.2 hn_)⟩))
       have n8_ := Aside0.mk (blk_kept z9_ hkp (fun hs_ => (fun e_ => (Kd.R_ne HO_8.out BK264.out (by decide)) e_) hs_))
       have n9_ := Aside0.mk (blk_kept z34_ hkp (fun hs_ => (fun e_ => (Kd.R_ne HO_8.out BK283.out (by decide)) e_) hs_))
       have n10_ := Aside0.mk (Kd.R_mono (ok' := fun k_ => some k_ ≠ (u9 : Value).ownBlock ∧ some k_ ≠ (.slice (some ad290) t284.length co43 : Value).ownBlock ∧ some k_ ≠ (.slice (some ad291) t287.length co49 : Value).ownBlock ∧ some k_ ≠ (.slice Ao32 t271.length co32 : Value).ownBlock ∧ some k_ ≠ (.slice Ao31 t274.length co31 : Value).ownBlock ∧ some k_ ≠ (.slice Ao30 t277.length co30 : Value).ownBlock ∧ some k_ ≠ (.slice Ao29 t280.length co29 : Value).ownBlock ∧ some k_ ≠ (.slice Ao51 x8_2.length co51 : Value).ownBlock) ho0 (fun k_ hk_ => ⟨Or.elim hk_.1 (fun hs_ => fun e_ => (((HO_9.out).1 k_ e_.symm).1) hs_) (fun hn_ => (Kd.fresh' (Kd.R_lt z228_) k_ hn_)), Or.elim hk_.1 (fun hs_ => fun e_ => (((HO_11.out).1 k_ e_.symm).1) hs_) (fun hn_ => (Kd.fresh' (Kd.R_lt z172_) k_ hn_)), Or.elim hk_.1 (fun hs_ => fun e_ => (((HO_12.out).1 k_ e_.symm).1) hs_) (fun hn_ => (Kd.fresh' (Kd.R_lt z223_) k_ hn_)), Or.elim hk_.1 (fun hs_ => fun e_ => (((HO_284000.out).1 k_ e_.symm).1) hs_) (fun hn_ => (Kd.fresh' (Kd.R_lt z215_) k_ hn_)), Or.elim hk_.1 (fun hs_ => fun e_ => (((HO_284001.out).1 k_ e_.symm).1) hs_) (fun hn_ => (Kd.fresh' (Kd.R_lt z216_) k_ hn_)), Or.elim hk_.1 (fun hs_ => fun e_ => (((HO_284002.out).1 k_ e_.symm).1) hs_) (fun hn_ => (Kd.fresh' (Kd.R_lt z217_) k_ hn_)), Or.elim hk_.1 (fun hs_ => fun e_ => (((HO_284003.out).1 k_ e_.symm).1) hs_) (fun hn_ => (Kd.fresh' (Kd.R_lt z218_) k_ hn_)), hk_.2⟩))
       have n11_ := Aside0.mk (hb)
       clear HO_8
       clear HO_9
       clear HO_11
       clear HO_12
       clear HO_284000
       clear HO_284001
       clear HO_284002
       clear HO_284003
       clear BK264
       clear BK283
       clear HB
       have HO_8 := n0_
       have HO_9 := n1_
       have HO_11 := n2_
       have HO_12 := n3_
       have HO_284000 := n4_
       have HO_284001 := n5_
       have HO_284002 := n6_
       have HO_284003 := n7_
       have BK264 := n8_
       have BK283 := n9_
       have HO294 := n10_
       have HB := n11_
       clear n0_ n1_ n2_ n3_ n4_ n5_ n6_ n7_ n8_ n9_ n10_ n11_
       (try clear hb)
       (try clear hkp)
       (try clear ho0)
       (try clear hy0)
       refine hK.out _ _ ⟨(blk_cell BK283.out 0).trans rfl, (blk_cell BK283.out 1).trans rfl, (blk_cell BK283.out 2).trans rfl, (blk_cell BK283.out 3).trans rfl, (blk_cell BK283.out 4).trans rfl, (blk_cell BK283.out 5).trans rfl, (blk_cell BK283.out 6).trans rfl, HS7_, HS8_⟩ (fun hHeld => ?_)
       clear hK K
       refine zn_ rfl ?_
       refine zp_ HT_ rfl rfl (by kernel_rfl) (fun _ _ _ h => h) (by rfl) ?_
       refine done_ (done_of HT_.out (by kernel_rfl)) ?_
       try go_wp2
       go_roundg k2
       case measure => have := HK1.out; have := HK2.out; omega
       case rel => exact ⟨(t295), (t292), (wrap64 (x14_2 + 1)), z7_, H', ⟨z122_⟩, ⟨by (with_reducible repeat (first | apply Kd.R_alloc | apply Kd.R_drewN | apply Kd.R_drew)); exact Kd.R_reok rfl HO_8.out (fun k_ e_ => (fun hk => ⟨(fun e2_ => (HO294.out.1 k_ e2_.symm).2.2.2.2.2.2.2 e_.symm), ⟨hk.2.1, ⟨hk.2.2.1, ⟨hk.2.2.2.1, ⟨hk.2.2.2.2.1, ⟨hk.2.2.2.2.2.1, hk.2.2.2.2.2.2⟩⟩⟩⟩⟩⟩) (HO_8.out.1 k_ e_))⟩, ⟨by (with_reducible repeat (first | apply Kd.R_alloc | apply Kd.R_drewN | apply Kd.R_drew)); exact Kd.R_mono HO294.out (fun _ hk => ⟨hk.2.2.2.2.2.2.2, ⟨hk.2.1, ⟨hk.2.2.1, ⟨hk.2.2.2.1, ⟨hk.2.2.2.2.1, ⟨hk.2.2.2.2.2.1, hk.2.2.2.2.2.2.1⟩⟩⟩⟩⟩⟩)⟩, ⟨by (with_reducible repeat (first | apply Kd.R_alloc | apply Kd.R_drewN | apply Kd.R_drew)); exact Kd.R_mono HO_11.out (fun _ hk => ⟨hk.1, ⟨hk.2.2.2.2.2.2.2, ⟨hk.2.2.1, ⟨hk.2.2.2.1, ⟨hk.2.2.2.2.1, ⟨hk.2.2.2.2.2.1, hk.2.2.2.2.2.2.1⟩⟩⟩⟩⟩⟩)⟩, ⟨by (with_reducible repeat (first | apply Kd.R_alloc | apply Kd.R_drewN | apply Kd.R_drew)); exact Kd.R_mono HO_12.out (fun _ hk => ⟨hk.1, ⟨hk.2.2.2.2.2.2.2, ⟨hk.2.2.1, ⟨hk.2.2.2.1, ⟨hk.2.2.2.2.1, ⟨hk.2.2.2.2.2.1, hk.2.2.2.2.2.2.1⟩⟩⟩⟩⟩⟩)⟩, ⟨by (with_reducible repeat (first | apply Kd.R_alloc | apply Kd.R_drewN | apply Kd.R_drew)); exact Kd.R_mono HO_284000.out (fun _ hk => ⟨hk.1, ⟨hk.2.2.2.2.2.2.2, ⟨hk.2.2.1, ⟨hk.2.2.2.1, ⟨hk.2.2.2.2.1, ⟨hk.2.2.2.2.2.1, hk.2.2.2.2.2.2.1⟩⟩⟩⟩⟩⟩)⟩, ⟨by (with_reducible repeat (first | apply Kd.R_alloc | apply Kd.R_drewN | apply Kd.R_drew)); exact Kd.R_mono HO_284001.out (fun _ hk => ⟨hk.1, ⟨hk.2.2.2.2.2.2.2, ⟨hk.2.2.1, ⟨hk.2.2.2.1, ⟨hk.2.2.2.2.1, ⟨hk.2.2.2.2.2.1, hk.2.2.2.2.2.2.1⟩⟩⟩⟩⟩⟩)⟩, ⟨by (with_reducible repeat (first | apply Kd.R_alloc | apply Kd.R_drewN | apply Kd.R_drew)); exact Kd.R_mono HO_284002.out (fun _ hk => ⟨hk.1, ⟨hk.2.2.2.2.2.2.2, ⟨hk.2.2.1, ⟨hk.2.2.2.1, ⟨hk.2.2.2.2.1, ⟨hk.2.2.2.2.2.1, hk.2.2.2.2.2.2.1⟩⟩⟩⟩⟩⟩)⟩, ⟨by (with_reducible repeat (first | apply Kd.R_alloc | apply Kd.R_drewN | apply Kd.R_drew)); exact Kd.R_mono HO_284003.out (fun _ hk => ⟨hk.1, ⟨hk.2.2.2.2.2.2.2, ⟨hk.2.2.1, ⟨hk.2.2.2.1, ⟨hk.2.2.2.2.1, ⟨hk.2.2.2.2.2.1, hk.2.2.2.2.2.2.1⟩⟩⟩⟩⟩⟩)⟩, ⟨z9_⟩, ⟨z34_⟩, ⟨z6_⟩⟩
      ·rw [if_neg c44] at H
       have c44b0 := decide_eq_false c44
       clear c44
       have H' := Aside0.mk H
       clear H
       obtain ⟨Ao53, co53, eo53⟩ := Kd.R_slice HO_12.out
       subst eo53
       go_wp2
       go_roundg k2
       case measure => have := HK1.out; have := HK2.out; omega
       case rel => exact ⟨(x8_2), (x9_2), (wrap64 (x13_1 + 1)), z7_, H', ⟨z122_⟩, ⟨z258_⟩, ⟨z228_⟩, ⟨z172_⟩, ⟨z223_⟩, ⟨z215_⟩, ⟨z216_⟩, ⟨z217_⟩, ⟨z218_⟩, ⟨z9_⟩, ⟨z34_⟩, ⟨z6_⟩⟩
   ·rw [if_neg c42] at H
    have c42b0 := decide_eq_false c42
    clear c42
    simp only [Option.some.injEq, Prod.mk.injEq] at H
    obtain ⟨rfl, rfl⟩ := H
    obtain ⟨Ao54, co54, eo54⟩ := Kd.R_slice HO_11.out
    subst eo54
    go_wp2
    go_ret2
    exact ⟨_, _, by first | rfl | (simp [errW_none, errW_some] <;> rfl) | (simp only [← hji4]; first | rfl | (simp [errW_none, errW_some] <;> rfl)) | (simp [*, errW_none, errW_some] <;> rfl), by (with_reducible repeat (first | apply Kd.R_alloc | apply Kd.R_drewN | apply Kd.R_drew)); exact Kd.R_mono HO_8.out (fun _ hk => hk.1), by (with_reducible repeat (first | apply Kd.R_alloc | apply Kd.R_drewN | apply Kd.R_drew)); exact Kd.R_mono HO_9.out (fun _ hk => hk.1), z6_⟩

end Go.Proofs.Ytbmkobanpakohaa.PFnExactSimilarity
