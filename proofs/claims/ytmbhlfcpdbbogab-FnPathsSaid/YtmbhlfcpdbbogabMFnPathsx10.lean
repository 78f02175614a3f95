/- Laid by a program of this session out of the kit's print for the law FnPaths: what it says of the machine is proved here, function by function; each contract under the conditions that it names. -/
import Derived.Test.YtmbhlfcpdbbogabMFnPathsx0
import Derived.Test.YtmbhlfcpdbbogabMFnPathsx2
import Derived.Test.YtmbhlfcpdbbogabMFnPathsx3
import Derived.Test.YtmbhlfcpdbbogabMFnPathsx5
import Derived.Test.YtmbhlfcpdbbogabMFnPathsx6
import Derived.Test.YtmbhlfcpdbbogabMFnPathsx7
import Derived.Test.YtmbhlfcpdbbogabMFnPathsx8
import Derived.Test.YtmbhlfcpdbbogabMFnPathsx9
namespace Go.Proofs.Ytmbhlfcpdbbogab.PFnPaths
open Go.RowKit Go.Proofs.YtmbhlfcpdbbogabW.PrintWords Go.Proofs.YtmbhlfcpdbbogabW.PrintLast Go.Proofs.YtmbhlfcpdbbogabW.PrintMore
attribute [local go_sem] max2_int min2_int max_two min_two max_three min_three max_four min_four   -- for this text's walks alone
set_option linter.unusedVariables false
set_option linter.unusedSimpArgs false

/-! ### spec_PathOf: function 79 -/
def spec_PathOf.l0 : Nat → List (S55) → List Int → Int → Option (List Int)
 | 0, _, _, _ => none
 | k + 1, x0, x5, x6 => (spec_KidRank.f k x0 x6).bind fun t369 => (if t369 ≥ 0 then ((spec_KidRank.f k x0 x6).bind fun t370 => ((some (([t370] : List Int) : List Int)).bind fun y371 => (if y371.length + x5.length < 17592186044416 then ((spec_ParentOf.f k x0 x6).bind fun t377 => (spec_PathOf.l0 k x0 (y371 ++ x5) t377)) else (none)))) else (some x5))
def spec_PathOf.f (k : Nat) (l0 : List (S55)) (a1 : Int) : Option (List Int) := spec_PathOf.l0 k l0 (([] : List Int)) a1
theorem spec_PathOf.mono_l : ∀ k, (∀ y0 y1 y2, LeO (spec_PathOf.l0 k y0 y1 y2) (spec_PathOf.l0 (k + 1) y0 y1 y2))
 | 0 => fun _ _ _ r h => by simp [spec_PathOf.l0] at h
 | k + 1 => by
  have ih0 := spec_PathOf.mono_l k
  ·intro y0 y1 y2
   unfold spec_PathOf.l0
   repeat' first | (with_reducible first | exact ih0 _ _ _ | exact spec_KidRank.mono _ _ _ | exact spec_ParentOf.mono _ _ _ | exact LeO.refl _ | exact LeO.none _ | refine LeO.ite ?_ ?_ | refine LeO.bind ?_ (fun _ => ?_)) | exact ih0 _ _ _ | exact spec_KidRank.mono _ _ _ | exact spec_ParentOf.mono _ _ _ | exact LeO.none _ | refine LeO.ite ?_ ?_ | refine LeO.bind ?_ (fun _ => ?_)
theorem spec_PathOf.mono : ∀ a0 a1 k, LeO (spec_PathOf.f k a0 a1) (spec_PathOf.f (k + 1) a0 a1) := by
 intro a0 a1 k
 have ih0 := spec_PathOf.mono_l k
 unfold spec_PathOf.f
 repeat' first | (with_reducible first | exact ih0 _ _ _ | exact spec_KidRank.mono _ _ _ | exact spec_ParentOf.mono _ _ _ | exact LeO.refl _ | exact LeO.none _ | refine LeO.ite ?_ ?_ | refine LeO.bind ?_ (fun _ => ?_)) | exact ih0 _ _ _ | exact spec_KidRank.mono _ _ _ | exact spec_ParentOf.mono _ _ _ | exact LeO.none _ | refine LeO.ite ?_ ?_ | refine LeO.bind ?_ (fun _ => ?_)
set_option maxHeartbeats 8000000 in
set_option maxRecDepth 100000 in
theorem spec_PathOf.calls (k : Nat) (A0 : Option Addr) (c0 : Nat) (l0 : List (S55)) (a1 : Int) (r : List Int) (w : World) (hr0 : Kd.C k55 w A0 l0.length l0) (hc0 : l0.length ≤ c0) (h : spec_PathOf.f k l0 a1 = some r) :
  Calls Try.prog 79 #[.slice A0 l0.length c0, .int .i64 a1] w fun e w' => ∃ v0_ : Value, e = .returned (v0_) ∧ Kd.R (Kd.int .i64) 3 w' w.heap.size (fun _ => True) v0_ r ∧ Below w.heap.size w w' := by
 have HR0 := Aside0.mk hr0
 have HC0 := Aside0.mk hc0
 clear hr0 hc0
 have HB := Aside0.mk (Below.refl w.heap.size w)
 have H : (spec_PathOf.l0 k l0 (([] : List Int)) a1) = some r := h
 clear h
 obtain ⟨y366, hy366⟩ : ∃ y_ : List Int, y_ = (([] : List Int)) := ⟨_, rfl⟩
 replace H : (spec_PathOf.l0 k l0 y366 a1) = some r := by first | (rw [hy366]; with_reducible exact H) | (have H2_ := (Option.bind_some _ _).symm.trans H; rw [hy366]; with_reducible exact H2_) | (have H2_ := (Option.bind_some _ _).symm.trans H; with_reducible exact H2_) | with_reducible exact H | (rw [hy366]; exact H) | exact H
 have Ny366 := Aside0.mk hy366
 clear hy366
 have H' := Aside0.mk H
 clear H
 go_enter Try.func79, Try.ntmps79
 go_wp2_with (first | ((with_reducible refine gate_dst (N := 7) rfl ?_); refine Kd.R_lit (Kd.int .i64) _ 3 ?hg (N := 7) ?hd (xs := ([] : List Int)) (inner := []) (ok := fun _ => True) (okp := fun _ => True) ?hr ?hp (fun _ hk => hk) trivial (Below.refl _ _) (Nat.le_refl _) (by simp) ?_; (case hd => rfl); (case hg => rfl); (case hr => exact z35_); (case hp => exact z136_); intro v367 w3 ho4 hb hg_ hnew_; clear hg_ hnew_; (first | rw [← Ny366.out] at ho4 | (simp only [Int.reduceToNat] at ho4; rw [← Ny366.out] at ho4)); have HO368 := Aside0.mk (Kd.R_lower ho4 (below_size z0_)); replace HB := Aside0.mk (below_step z0_ hb); clear hb ho4))
 go_loopg [5, 6] k (fun kq v5 v6 w' => ∃ (x5_1 : List Int) (x6_1 : Int), v6 = .int .i64 x6_1 ∧ Aside0 (spec_PathOf.l0 kq l0 x5_1 x6_1 = some r) ∧ Aside0 (kq ≤ k) ∧ Aside0 (Kd.R (Kd.int .i64) 3 w' w.heap.size (fun _ => True) v5 x5_1) ∧ Aside0 (Below w.heap.size w w'))
 case atStart => exact ⟨(y366), (a1), z15_, H', ⟨Nat.le_refl _⟩, ⟨by (with_reducible repeat (first | apply Kd.R_alloc | apply Kd.R_drewN | apply Kd.R_drew)); exact HO368.out⟩, ⟨z0_⟩⟩
 case round =>
  clear H'
  try clear p2
  obtain ⟨x5_1, x6_1, rfl, HA, HK1, HO_5, HB⟩ := hrel
  cases gk with
  | zero => exact absurd HA.out (by simp [spec_PathOf.l0])
  | succ k1 =>
   have H := HA.out
   clear HA
   simp only [spec_PathOf.l0] at H
   obtain ⟨t369, A5, H⟩ := bnd_ H
   by_cases c6 : t369 ≥ 0
   ·rw [if_pos c6] at H
    have c6b0 : decide (0 ≤ t369) = true := decide_eq_true c6
    clear c6
    obtain ⟨t370, A7, H⟩ := bnd_ H
    obtain ⟨y371, hy371⟩ : ∃ y_ : List Int, y_ = (([t370] : List Int)) := ⟨_, rfl⟩
    replace H : (if y371.length + x5_1.length < 17592186044416 then ((spec_ParentOf.f k1 l0 x6_1).bind fun t377 => (spec_PathOf.l0 k1 l0 (y371 ++ x5_1) t377)) else (none)) = some r := by first | (rw [hy371]; with_reducible exact H) | (have H2_ := (Option.bind_some _ _).symm.trans H; rw [hy371]; with_reducible exact H2_) | (have H2_ := (Option.bind_some _ _).symm.trans H; with_reducible exact H2_) | with_reducible exact H | (rw [hy371]; exact H) | exact H
    have Ny371 := Aside0.mk hy371
    clear hy371
    obtain ⟨c8, H⟩ := ifs_ H
    have LMc8 := Aside0.mk c8
    clear c8
    obtain ⟨y374, hy374⟩ : ∃ y_ : List Int, y_ = (y371 ++ x5_1) := ⟨_, rfl⟩
    replace H : ((spec_ParentOf.f k1 l0 x6_1).bind fun t377 => (spec_PathOf.l0 k1 l0 y374 t377)) = some r := by first | (rw [hy374]; with_reducible exact H) | (have H2_ := (Option.bind_some _ _).symm.trans H; rw [hy374]; with_reducible exact H2_) | (have H2_ := (Option.bind_some _ _).symm.trans H; with_reducible exact H2_) | with_reducible exact H | (rw [hy374]; exact H) | exact H
    have Ny374 := Aside0.mk hy374
    clear hy374
    obtain ⟨t377, A9, H⟩ := bnd_ H
    have H' := Aside0.mk H
    clear H
    go_wp2_with (first | ((with_reducible refine gate_callee (f := 66) rfl ?_); refine goesL_ (some 11) rfl rfl Try.func66 (by kernel_rfl) rfl #[.slice A0 l0.length c0, .int .i64 x6_1] rfl z1_ ?_; (with_reducible refine (spec_KidRank.calls k1 _ _ l0 x6_1 t369 _ ?side1 ?side2 A5.out).mono ?_); (case side1 => exact z7_); (case side2 => exact HC0.out); rintro e w10 ⟨rfl, hb⟩; refine ⟨_, rfl, ?_⟩; replace HO_5 := Aside0.mk (Kd.R_below z8_ hb); replace HB := Aside0.mk (below_step z0_ hb); (try clear hb)) | ((with_reducible refine gate_callee (f := 66) rfl ?_); refine goesL_ (some 18) rfl rfl Try.func66 (by kernel_rfl) rfl #[.slice A0 l0.length c0, .int .i64 x6_1] rfl z1_ ?_; (with_reducible refine (spec_KidRank.calls k1 _ _ l0 x6_1 t370 _ ?side1 ?side2 A7.out).mono ?_); (case side1 => exact z7_); (case side2 => exact HC0.out); rintro e w11 ⟨rfl, hb⟩; refine ⟨_, rfl, ?_⟩; replace HO_5 := Aside0.mk (Kd.R_below z8_ hb); replace HB := Aside0.mk (below_step z0_ hb); (try clear hb)) | ((with_reducible refine gate_dst (N := 19) rfl ?_); refine Kd.R_lit (Kd.int .i64) _ 3 ?hg (N := 19) ?hd (xs := ([t370] : List Int)) (inner := [.int .i64 t370]) (ok := fun _ => True) (okp := fun _ => True) ?hr ?hp (fun _ hk => hk) trivial (Below.refl _ _) (Nat.le_refl _) (by simp) ?_; (case hd => rfl); (case hg => rfl); (case hr => exact z35_); (case hp => exact (Reps.one (show Kd.M (Kd.int .i64) _ _ _ t370 [.int .i64 t370] from rfl) (Reps.none _ _))); intro v372 w12 ho13 hb hg_ hnew_; clear hg_ hnew_; (first | rw [← Ny371.out] at ho13 | (simp only [Int.reduceToNat] at ho13; rw [← Ny371.out] at ho13)); have HO373 := Aside0.mk (Kd.R_lower (Kd.R_new' ho13 (Kd.R_lt z8_)) (below_size z0_)); replace HO_5 := Aside0.mk (Kd.R_elder' z8_ (Kd.R_base ho13) hb); replace HB := Aside0.mk (below_step z0_ hb); clear hb ho13; obtain ⟨Ao15, co15, eo15⟩ := Kd.R_slice HO_5.out; subst eo15) | ((with_reducible refine gate_builtin (b := .append) (xs := #[.tmp 19, .tmp 20]) rfl ?_); at_builtin; refine Kd.R_append_rows (Kd.int .i64) (w0 := w) w.heap.size rfl (.tmp 19) (.tmp 20) 47 3 (.int .i64 0) 8 rfl Try.underlying47 info3 rfl (by decide) (by omega) v372 y371 x5_1 _ _ _ (fun k_ => some k_ ≠ (.slice Ao15 x5_1.length co15 : Value).ownBlock) (fun _ => False) rfl rfl ?aO ?aR (fun _ _ h => h) (fun _ h => h.elim) ?aF ?aB ?aS ?aL ?_; (case aR => exact z71_); (case aB => exact z62_); (case aF => exact (fun k_ hk => Kd.fresh' (Kd.R_lt z8_) k_ hk)); (case aO => exact (by (with_reducible repeat (first | apply Kd.R_alloc | apply Kd.R_drewN | apply Kd.R_drew)); exact Kd.R_mono HO373.out (fun _ hk => hk.2))); (case aS => exact z57_); (case aL => have := LMc8.out; omega); intro v375 w14 ho hb hg hat; rw [← Ny374.out] at ho; replace HO_5 := Aside0.mk (Kd.R_after (ok := (fun _ => True)) z8_ hg hat); replace HB := Aside0.mk (hb); have HO376 := Aside0.mk (ho); clear HO373; clear ho hb hg hat) | ((with_reducible refine gate_callee (f := 64) rfl ?_); refine goesL_ (some 15) rfl rfl Try.func64 (by kernel_rfl) rfl #[.slice A0 l0.length c0, .int .i64 x6_1] rfl z1_ ?_; (with_reducible refine (spec_ParentOf.calls k1 _ _ l0 x6_1 t377 _ ?side1 ?side2 A9.out).mono ?_); (case side1 => exact z7_); (case side2 => exact HC0.out); rintro e w16 ⟨rfl, hb⟩; refine ⟨_, rfl, ?_⟩; replace HO_5 := Aside0.mk (Kd.R_below z8_ hb); replace HO376 := Aside0.mk (Kd.R_below (by (with_reducible repeat (first | apply Kd.R_alloc | apply Kd.R_drewN | apply Kd.R_drew)); exact HO376.out) hb); replace HB := Aside0.mk (below_step z0_ hb); (try clear hb)))
    go_roundg k1
    case measure => have := HK1.out; omega
    case rel => exact ⟨(y374), (t377), z15_, H', ⟨z116_⟩, ⟨by (with_reducible repeat (first | apply Kd.R_alloc | apply Kd.R_drewN | apply Kd.R_drew)); exact Kd.R_mono HO376.out (fun _ hk => trivial)⟩, ⟨z0_⟩⟩
   ·rw [if_neg c6] at H
    have c6b0 : decide (0 ≤ t369) = false := decide_eq_false c6
    clear c6
    obtain rfl := Option.some.inj H
    go_wp2_with (first | ((with_reducible refine gate_callee (f := 66) rfl ?_); refine goesL_ (some 11) rfl rfl Try.func66 (by kernel_rfl) rfl #[.slice A0 l0.length c0, .int .i64 x6_1] rfl z1_ ?_; (with_reducible refine (spec_KidRank.calls k1 _ _ l0 x6_1 t369 _ ?side1 ?side2 A5.out).mono ?_); (case side1 => exact z7_); (case side2 => exact HC0.out); rintro e w17 ⟨rfl, hb⟩; refine ⟨_, rfl, ?_⟩; replace HO_5 := Aside0.mk (Kd.R_below z8_ hb); replace HB := Aside0.mk (below_step z0_ hb); (try clear hb)))
    go_ret
    exact ⟨_, z9_, z8_, z0_⟩

/-! ### spec_DrawNodeAt: function 25 -/
def spec_DrawNodeAt.j0 : Nat → List (S55) → List Int → Bool → List Int → Int → Int → Option ((List (S55)) × List Int)
 | 0, _, _, _, _, _, _ => none
 | k + 1, x5, x7, x24, x382000, x382001, x382002 => if x24 = true then ((spec_l1Below.f x382000 x382001 x382002 (x7.length : Int)).bind fun bt394 => ((spec_l1Below.f x382000 bt394.2.1 bt394.2.2 4).bind fun bt397 => (if 0 ≤ bt394.1 then (if bt394.1 < (x7.length : Int) then (some (x5, (x7.set (bt394.1 : Int).toNat (wrap64 (bt397.1 - 1))))) else (none)) else (none)))) else (some (x5, x7))
def spec_DrawNodeAt.f (k : Nat) (l0 : List Int) : Option ((List (S55)) × List Int) := (spec_l1New.f k l0).bind fun bt378 => ((spec_l3Where.f k bt378.1 bt378.2.1 bt378.2.2).bind fun bt382 => ((spec_PathOf.f k bt382.1 bt382.2.1).bind fun t388 => (if (t388.length : Int) > 0 then ((spec_l1Once.f bt378.1 bt382.2.2.1 bt382.2.2.2 3).bind fun bt391 => (spec_DrawNodeAt.j0 k bt382.1 t388 bt391.1 bt378.1 bt391.2.1 bt391.2.2)) else (spec_DrawNodeAt.j0 k bt382.1 t388 false bt378.1 bt382.2.2.1 bt382.2.2.2))))
theorem spec_DrawNodeAt.mono_l : ∀ k, (∀ y0 y1 y2 y3 y4 y5, LeO (spec_DrawNodeAt.j0 k y0 y1 y2 y3 y4 y5) (spec_DrawNodeAt.j0 (k + 1) y0 y1 y2 y3 y4 y5))
 | 0 => fun _ _ _ _ _ _ r h => by simp [spec_DrawNodeAt.j0] at h
 | k + 1 => by
  have ih0 := spec_DrawNodeAt.mono_l k
  ·intro y0 y1 y2 y3 y4 y5
   unfold spec_DrawNodeAt.j0
   repeat' first | (with_reducible first | exact ih0 _ _ _ _ _ _ | exact spec_PathOf.mono _ _ _ | exact spec_l1New.mono _ _ | exact spec_l3Where.mono _ _ _ _ | exact LeO.refl _ | exact LeO.none _ | refine LeO.ite ?_ ?_ | refine LeO.bind ?_ (fun _ => ?_)) | exact ih0 _ _ _ _ _ _ | exact spec_PathOf.mono _ _ _ | exact spec_l1New.mono _ _ | exact spec_l3Where.mono _ _ _ _ | exact LeO.none _ | refine LeO.ite ?_ ?_ | refine LeO.bind ?_ (fun _ => ?_)
theorem spec_DrawNodeAt.mono : ∀ a0 k, LeO (spec_DrawNodeAt.f k a0) (spec_DrawNodeAt.f (k + 1) a0) := by
 intro a0 k
 have ih0 := spec_DrawNodeAt.mono_l k
 unfold spec_DrawNodeAt.f
 repeat' first | (with_reducible first | exact ih0 _ _ _ _ _ _ | exact spec_PathOf.mono _ _ _ | exact spec_l1New.mono _ _ | exact spec_l3Where.mono _ _ _ _ | exact LeO.refl _ | exact LeO.none _ | refine LeO.ite ?_ ?_ | refine LeO.bind ?_ (fun _ => ?_)) | exact ih0 _ _ _ _ _ _ | exact spec_PathOf.mono _ _ _ | exact spec_l1New.mono _ _ | exact spec_l3Where.mono _ _ _ _ | exact LeO.none _ | refine LeO.ite ?_ ?_ | refine LeO.bind ?_ (fun _ => ?_)
set_option maxHeartbeats 8000000 in
set_option maxRecDepth 100000 in
theorem spec_DrawNodeAt.calls (k : Nat) (A0 : Option Addr) (c0 : Nat) (l0 : List Int) (r1 : List (S55)) (r2 : List Int) (w : World) (hr0 : Kd.C (Kd.int .u8) w A0 l0.length l0) (hc0 : l0.length ≤ c0) (h : spec_DrawNodeAt.f k l0 = some (r1, r2)) :
  Calls Try.prog 25 #[.slice A0 l0.length c0] w fun e w' => ∃ v0_ v1_ : Value, e = .returned (.tuple #[v0_, v1_]) ∧ Kd.Q k55 55 w' w.heap.size (fun _ => True) v0_ r1 ∧ Kd.R (Kd.int .i64) 3 w' w.heap.size (fun _ => True) v1_ r2 ∧ Below w.heap.size w w' := by
 have HR0 := Aside0.mk hr0
 have HC0 := Aside0.mk hc0
 clear hr0 hc0
 have HB := Aside0.mk (Below.refl w.heap.size w)
 have H : ((spec_l1New.f k l0).bind fun bt378 => ((spec_l3Where.f k bt378.1 bt378.2.1 bt378.2.2).bind fun bt382 => ((spec_PathOf.f k bt382.1 bt382.2.1).bind fun t388 => (if (t388.length : Int) > 0 then ((spec_l1Once.f bt378.1 bt382.2.2.1 bt382.2.2.2 3).bind fun bt391 => (spec_DrawNodeAt.j0 k bt382.1 t388 bt391.1 bt378.1 bt391.2.1 bt391.2.2)) else (spec_DrawNodeAt.j0 k bt382.1 t388 false bt378.1 bt382.2.2.1 bt382.2.2.2))))) = some (r1, r2) := h
 clear h
 replace H := Option.bind_eq_some_iff.mp H
 obtain ⟨⟨t378, t379, t380⟩, A20, H⟩ := H
 replace H : ((spec_l3Where.f k t378 t379 t380).bind fun bt382 => ((spec_PathOf.f k bt382.1 bt382.2.1).bind fun t388 => (if (t388.length : Int) > 0 then ((spec_l1Once.f t378 bt382.2.2.1 bt382.2.2.2 3).bind fun bt391 => (spec_DrawNodeAt.j0 k bt382.1 t388 bt391.1 t378 bt391.2.1 bt391.2.2)) else (spec_DrawNodeAt.j0 k bt382.1 t388 false t378 bt382.2.2.1 bt382.2.2.2)))) = some (r1, r2) := H
 have A2 := Aside0.mk A20
 clear A20
 replace H := Option.bind_eq_some_iff.mp H
 obtain ⟨⟨t382, t385, t386, t387⟩, A30, H⟩ := H
 replace H : ((spec_PathOf.f k t382 t385).bind fun t388 => (if (t388.length : Int) > 0 then ((spec_l1Once.f t378 t386 t387 3).bind fun bt391 => (spec_DrawNodeAt.j0 k t382 t388 bt391.1 t378 bt391.2.1 bt391.2.2)) else (spec_DrawNodeAt.j0 k t382 t388 false t378 t386 t387))) = some (r1, r2) := H
 have A3 := Aside0.mk A30
 clear A30
 obtain ⟨t388, A4, H⟩ := bnd_ H
 have HC5 := Aside0.mk H
 clear H
 go_enter Try.func25, Try.ntmps25
 go_upto_region 4 with (first | ((with_reducible refine gate_callee (f := 75) rfl ?_); refine goesL_ (some 9) rfl rfl Try.func75 (by kernel_rfl) rfl #[.slice A0 l0.length c0] rfl z1_ ?_; (with_reducible refine (spec_l1New.calls k _ _ l0 t378 t379 t380 w _ ?side1 ?side2 ?side3 A2.out).mono ?_); (case side1 => exact z0_); (case side2 => exact HR0.out); (case side3 => exact HC0.out); rintro e w6 ⟨g381, rfl, hi, hb, hb2⟩; refine ⟨_, rfl, ?_⟩; replace HB := Aside0.mk (hb); have HI381 := Aside0.mk (hi); (try clear hb hb2 hi)) | ((with_reducible refine gate_callee (f := 74) rfl ?_); refine goesL_ (some 12) rfl rfl Try.func74 (by kernel_rfl) rfl #[.pointer (some ⟨g381, 0, none⟩)] rfl z1_ ?_; (with_reducible refine (spec_l3Where.calls k g381 t378 t379 t380 t382 t385 t386 t387 w _ ?side1 ?side2 A3.out).mono ?_); (case side1 => exact z48_); (case side2 => exact z37_); rintro e w7 ⟨v383, rfl, ho0, hi, hb, hk⟩; refine ⟨_, rfl, ?_⟩; have HO384 := Aside0.mk (Kd.Q_lower ho0 (below_size z37_)); replace HB := Aside0.mk (hb); replace HI381 := Aside0.mk (hi); (try clear hb hk hi ho0); obtain ⟨Ao8, co8, eo8, _⟩ := Kd.Q_slice HO384.out; subst eo8) | ((with_reducible refine gate_callee (f := 79) rfl ?_); refine goesL_ (some 17) rfl rfl Try.func79 (by kernel_rfl) rfl #[.slice Ao8 t382.length co8, .int .i64 t385] rfl z1_ ?_; (with_reducible refine (spec_PathOf.calls k _ _ t382 t385 t388 _ ?side1 ?side2 A4.out).mono ?_); (case side1 => repeat (first | exact (Kd.Q_reads' HO384.out).2.2 | (with_reducible refine Kd.C_alloc ?_ _) | (with_reducible refine Kd.C_drewN ?_ _) | (with_reducible refine Kd.C_drew ?_))); (case side2 => exact (Kd.Q_reads' HO384.out).2.1); rintro e w9 ⟨v389, rfl, ho0, hb⟩; refine ⟨_, rfl, ?_⟩; replace HO384 := Aside0.mk (Kd.Q_below z118_ hb); have HO390 := Aside0.mk (Kd.R_lower ho0 (below_size z37_)); replace HB := Aside0.mk (below_step z37_ hb); replace HI381 := Aside0.mk (IsS136.below z48_ hb); (try clear hb ho0)))
 (try simp only [Act.put, List.setIfInBounds_toArray, List.set_cons_zero, List.set_cons_succ])
 go_cut [24] (fun v24 wc => ∃ (kq : Nat) (x24_4 : Bool) (x382001_4 : Int) (x382002_4 : Int), v24 = .bool x24_4 ∧ Aside0 (spec_DrawNodeAt.j0 kq t382 t388 x24_4 t378 x382001_4 x382002_4 = some (r1, r2)) ∧ Aside0 (kq ≤ k) ∧ Aside0 (Kd.Q k55 55 wc w.heap.size (fun _ => True) (.slice Ao8 t382.length co8) t382) ∧ Aside0 (Kd.R (Kd.int .i64) 3 wc w.heap.size (fun _ => True) v389 t388) ∧ Aside0 (IsS136 w wc g381 t378 x382001_4 x382002_4) ∧ Aside0 (Below w.heap.size w wc))
 case first =>
  have H := HC5.out
  clear HC5
  by_cases c10 : (t388.length : Int) > 0
  ·rw [if_pos c10] at H
   have c10b0 : decide (0 < (t388.length : Int)) = true := decide_eq_true c10
   have c10b1 : decide (0 < t388.length) = true := decide_eq_true (by omega)
   clear c10
   (first | rw [c10b0] | rw [c10b1] | (simp only [i64_w, i32_w]; rw [c10b0]) | skip)
   replace H := Option.bind_eq_some_iff.mp H
   obtain ⟨⟨t391, t392, t393⟩, A110, H⟩ := H
   replace H : (spec_DrawNodeAt.j0 k t382 t388 t391 t378 t392 t393) = some (r1, r2) := H
   have A11 := Aside0.mk A110
   clear A110
   have H' := Aside0.mk H
   clear H
   obtain ⟨Ao12, co12, eo12⟩ := Kd.R_slice HO390.out
   subst eo12
   go_wp2_with (first | (go_at_call 80; (with_reducible refine (spec_l1Once.calls g381 t378 t386 t387 3 t391 t392 t393 w _ ?side1 ?side2 A11.out).mono ?_); (case side1 => exact z48_); (case side2 => exact z37_); rintro e w13 ⟨rfl, hi, hb, hk⟩; replace HO384 := Aside0.mk (Kd.Q_mono (Kd.Q_keep (IsS136.apartQ (show IsS136 w _ g381 t378 t386 t387 from by repeat (first | (with_reducible first | exact HI381.out | apply IsS136.alloc | apply IsS136.drewN | apply IsS136.drew | apply IsS136.set_1 | apply IsS136.set_2) | exact HI381.out)) z118_ (by decide)) hk (fun _ h => h.2)) (fun _ h => h.1)); replace HO390 := Aside0.mk (Kd.R_mono (Kd.R_keep (IsS136.apart (show IsS136 w _ g381 t378 t386 t387 from by repeat (first | (with_reducible first | exact HI381.out | apply IsS136.alloc | apply IsS136.drewN | apply IsS136.drew | apply IsS136.set_1 | apply IsS136.set_2) | exact HI381.out)) z129_ (by decide)) hk (fun _ h => h.2)) (fun _ h => h.1)); replace HB := Aside0.mk (hb); replace HI381 := Aside0.mk (hi); (try clear hb hk hi)))
   go_meet
   case rel => exact ⟨_, (t391), (t392), (t393), z15_, H', ⟨z124_⟩, ⟨z118_⟩, ⟨z129_⟩, ⟨z48_⟩, ⟨z37_⟩⟩
  ·rw [if_neg c10] at H
   have c10b0 : decide (0 < (t388.length : Int)) = false := decide_eq_false c10
   have c10b1 : decide (0 < t388.length) = false := decide_eq_false (by omega)
   clear c10
   (first | rw [c10b0] | rw [c10b1] | (simp only [i64_w, i32_w]; rw [c10b0]) | skip)
   have H' := Aside0.mk H
   clear H
   obtain ⟨Ao14, co14, eo14⟩ := Kd.R_slice HO390.out
   subst eo14
   go_wp2
   go_meet
   case rel => exact ⟨_, (false), (t386), (t387), z15_, H', ⟨z124_⟩, ⟨z118_⟩, ⟨z129_⟩, ⟨z48_⟩, ⟨z37_⟩⟩
 case rest =>
  clear HC5
  try clear c1
  try clear c2
  try clear p2
  try clear c7
  try clear c10
  try clear c10b0
  try clear c10b1
  obtain ⟨kq, x24_4, x382001_4, x382002_4, rfl, HA, HJ4, HO_5, HO_7, HI381, HB⟩ := hcut
  cases kq with
  | zero => exact absurd HA.out (by simp [spec_DrawNodeAt.j0])
  | succ kj4 =>
   have H := HA.out
   clear HA
   simp only [spec_DrawNodeAt.j0] at H
   by_cases c15 : x24_4 = true
   ·subst c15
    replace H := ift_ H
    replace H := Option.bind_eq_some_iff.mp H
    obtain ⟨⟨t394, t395, t396⟩, A160, H⟩ := H
    replace H : ((spec_l1Below.f t378 t395 t396 4).bind fun bt397 => (if 0 ≤ t394 then (if t394 < (t388.length : Int) then (some (t382, (t388.set (t394 : Int).toNat (wrap64 (bt397.1 - 1))))) else (none)) else (none))) = some (r1, r2) := H
    have A16 := Aside0.mk A160
    clear A160
    replace H := Option.bind_eq_some_iff.mp H
    obtain ⟨⟨t397, t398, t399⟩, A170, H⟩ := H
    replace H : (if 0 ≤ t394 then (if t394 < (t388.length : Int) then (some (t382, (t388.set (t394 : Int).toNat (wrap64 (t397 - 1))))) else (none)) else (none)) = some (r1, r2) := H
    have A17 := Aside0.mk A170
    clear A170
    obtain ⟨c18b0, H⟩ := ifd_ H
    obtain ⟨c19b0, H⟩ := ifd_ H
    obtain ⟨y400, hy400⟩ : ∃ y_ : List Int, y_ = (t388.set (t394 : Int).toNat (wrap64 (t397 - 1))) := ⟨_, rfl⟩
    replace H : (some (t382, y400)) = some (r1, r2) := by first | (rw [hy400]; with_reducible exact H) | (have H2_ := (Option.bind_some _ _).symm.trans H; rw [hy400]; with_reducible exact H2_) | (have H2_ := (Option.bind_some _ _).symm.trans H; with_reducible exact H2_) | with_reducible exact H | (rw [hy400]; exact H) | exact H
    have Ny400 := Aside0.mk hy400
    clear hy400
    simp only [Option.some.injEq, Prod.mk.injEq] at H
    obtain ⟨rfl, rfl⟩ := H
    obtain ⟨Ao21, co21, eo21⟩ := Kd.R_slice HO_7.out
    subst eo21
    go_wp2_with (first | ((with_reducible refine gate_callee (f := 81) rfl ?_); refine goesL_ (some 29) rfl rfl Try.func81 (by kernel_rfl) rfl #[.pointer (some ⟨g381, 0, none⟩), .int .i64 (t388.length : Int)] rfl z1_ ?_; (with_reducible refine (spec_l1Below.calls g381 t378 x382001_4 x382002_4 (t388.length : Int) t394 t395 t396 w _ ?side1 ?side2 A16.out).mono ?_); (case side1 => exact z48_); (case side2 => exact z37_); rintro e w22 ⟨rfl, hi, hb, hk⟩; refine ⟨_, rfl, ?_⟩; replace HO_5 := Aside0.mk (Kd.Q_mono (Kd.Q_keep (IsS136.apartQ (show IsS136 w _ g381 t378 x382001_4 x382002_4 from by repeat (first | (with_reducible first | exact HI381.out | apply IsS136.alloc | apply IsS136.drewN | apply IsS136.drew | apply IsS136.set_1 | apply IsS136.set_2) | exact HI381.out)) z110_ (by decide)) hk (fun _ h => h.2)) (fun _ h => h.1)); replace HO_7 := Aside0.mk (Kd.R_mono (Kd.R_keep (IsS136.apart (show IsS136 w _ g381 t378 x382001_4 x382002_4 from by repeat (first | (with_reducible first | exact HI381.out | apply IsS136.alloc | apply IsS136.drewN | apply IsS136.drew | apply IsS136.set_1 | apply IsS136.set_2) | exact HI381.out)) z44_ (by decide)) hk (fun _ h => h.2)) (fun _ h => h.1)); replace HB := Aside0.mk (hb); replace HI381 := Aside0.mk (hi); (try clear hb hk hi)) | ((with_reducible refine gate_callee (f := 81) rfl ?_); refine goesL_ (some 31) rfl rfl Try.func81 (by kernel_rfl) rfl #[.pointer (some ⟨g381, 0, none⟩), .int .i64 4] rfl z1_ ?_; (with_reducible refine (spec_l1Below.calls g381 t378 t395 t396 4 t397 t398 t399 w _ ?side1 ?side2 A17.out).mono ?_); (case side1 => exact z48_); (case side2 => exact z37_); rintro e w23 ⟨rfl, hi, hb, hk⟩; refine ⟨_, rfl, ?_⟩; replace HO_5 := Aside0.mk (Kd.Q_mono (Kd.Q_keep (IsS136.apartQ (show IsS136 w _ g381 t378 t395 t396 from by repeat (first | (with_reducible first | exact HI381.out | apply IsS136.alloc | apply IsS136.drewN | apply IsS136.drew | apply IsS136.set_1 | apply IsS136.set_2) | exact HI381.out)) z110_ (by decide)) hk (fun _ h => h.2)) (fun _ h => h.1)); replace HO_7 := Aside0.mk (Kd.R_mono (Kd.R_keep (IsS136.apart (show IsS136 w _ g381 t378 t395 t396 from by repeat (first | (with_reducible first | exact HI381.out | apply IsS136.alloc | apply IsS136.drewN | apply IsS136.drew | apply IsS136.set_1 | apply IsS136.set_2) | exact HI381.out)) z44_ (by decide)) hk (fun _ h => h.2)) (fun _ h => h.1)); replace HB := Aside0.mk (hb); replace HI381 := Aside0.mk (hi); (try clear hb hk hi); have p20 : 0 ≤ (t394 : Int) := odt_; have q20 : (t394 : Int) < ((t388.length : Int) : Int) := odt_; obtain ⟨go20, co20, eo20, gb20, gl20, cl20, HG20⟩ := Kd.R_form HO_7.out (by omega); (first | cases eo20 | (injection eo20 with ea_ en_ ec_; (first | subst ea_ | (injection ea_ with ea_; subst ea_)); subst ec_; clear en_)); have GB20 := Aside0.mk gb20; have GG20 := Aside0.mk HG20; clear gb20 gl20 HG20; obtain ⟨hx20_0, hf20_0⟩ := Kd.R_celln 0 HO_7.out (t394 : Int) p20 q20; replace p20 := eq_true p20; replace q20 := eq_true q20; obtain ⟨hy24_, hz24_⟩ := Kd.R_celln 0 HO_7.out (t394 : Int) (odt_) (odt_); have HP24 := Kd.R_putg HO_7.out (t394 : Int) (wrap64 (t397 - 1))) | ((with_reducible refine gate_store (t := 3) (p := 33) rfl ?_); refine store_event (t := 3) (p := 33) (v := ?vo_w25) (w1 := (w23.setCell ⟨go20, (t394 : Int).toNat, none⟩ (.int .i64 (wrap64 (t397 - 1))))) ?hg ?ho ?hn ?hr ?_; (case ho => rfl); (case hg => rfl); (case hn => rfl); (case hr => exact z35_); intro w25 hw; have hg : w23.grownBy w25 (some go20) := (by rw [hw]; exact HP24.2); have hp_ : Kd.R (Kd.int .i64) 3 w25 w.heap.size (fun _ => True) (.slice (some ⟨go20, 0, none⟩) t388.length co21) y400 := (by rw [hw, Ny400.out]; exact HP24.1); clear HP24; replace HO_5 := Aside0.mk (Kd.Q_over' (v := (.slice (some ⟨go20, 0, none⟩) t388.length co21)) z110_ (Kd.R_typed HO_7.out) (by decide) hg); replace HI381 := Aside0.mk (IsS136.grown z48_ hg (IsS136.own_ne HI381.out HO_7.out (by decide))); replace HO_7 := Aside0.mk (hp_); replace HB := Aside0.mk ((by rw [hw]; exact below_set (HB.out) GB20.out : Below w.heap.size w w25)); clear hg hw hp_))
    go_ret2
    exact ⟨_, _, z9_, z110_, z44_, z37_⟩
   ·replace c15 := Bool.eq_false_iff.mpr c15
    subst c15
    replace H := iff_ H
    simp only [Option.some.injEq, Prod.mk.injEq] at H
    obtain ⟨rfl, rfl⟩ := H
    go_wp2
    go_ret2
    exact ⟨_, _, z9_, z110_, z44_, z37_⟩

/-! ### impl_NodeAt: function 26 -/
def impl_NodeAt.l0 : Nat → List (S55) → Int → List Int → Int → Int → Option (Int)
 | 0, _, _, _, _, _ => none
 | k + 1, x0, x5, x12, x13, x14 => if x14 < x13 then (if 0 ≤ x14 then (if x14 < (x12.length : Int) then ((impl_KidsOf.f k x0 x5).bind fun t403 => ((impl_within.f (rd x12 x14) 0 (wrap64 ((t403.length : Int) - 1))).bind fun t406 => (if t406 = true then (if 0 ≤ (rd x12 x14) then (if (rd x12 x14) < (t403.length : Int) then (impl_NodeAt.l0 k x0 (rd t403 (rd x12 x14)) x12 x13 (wrap64 (x14 + 1))) else (none)) else (none)) else (some (-1))))) else (none)) else (none)) else (some x5)
def impl_NodeAt.f (k : Nat) (l0 : List (S55)) (l1 : List Int) : Option (Int) := (impl_TreeOk.f k l0).bind fun t401 => (if t401 = true then (impl_NodeAt.l0 k l0 0 l1 (l1.length : Int) 0) else (some (-1)))
theorem impl_NodeAt.mono_l : ∀ k, (∀ y0 y1 y2 y3 y4, LeO (impl_NodeAt.l0 k y0 y1 y2 y3 y4) (impl_NodeAt.l0 (k + 1) y0 y1 y2 y3 y4))
 | 0 => fun _ _ _ _ _ r h => by simp [impl_NodeAt.l0] at h
 | k + 1 => by
  have ih0 := impl_NodeAt.mono_l k
  ·intro y0 y1 y2 y3 y4
   unfold impl_NodeAt.l0
   repeat' first | (with_reducible first | exact ih0 _ _ _ _ _ | exact impl_KidsOf.mono _ _ _ | exact impl_TreeOk.mono _ _ | exact LeO.refl _ | exact LeO.none _ | refine LeO.ite ?_ ?_ | refine LeO.bind ?_ (fun _ => ?_)) | exact ih0 _ _ _ _ _ | exact impl_KidsOf.mono _ _ _ | exact impl_TreeOk.mono _ _ | exact LeO.none _ | refine LeO.ite ?_ ?_ | refine LeO.bind ?_ (fun _ => ?_)
theorem impl_NodeAt.mono : ∀ a0 a1 k, LeO (impl_NodeAt.f k a0 a1) (impl_NodeAt.f (k + 1) a0 a1) := by
 intro a0 a1 k
 have ih0 := impl_NodeAt.mono_l k
 unfold impl_NodeAt.f
 repeat' first | (with_reducible first | exact ih0 _ _ _ _ _ | exact impl_KidsOf.mono _ _ _ | exact impl_TreeOk.mono _ _ | exact LeO.refl _ | exact LeO.none _ | refine LeO.ite ?_ ?_ | refine LeO.bind ?_ (fun _ => ?_)) | exact ih0 _ _ _ _ _ | exact impl_KidsOf.mono _ _ _ | exact impl_TreeOk.mono _ _ | exact LeO.none _ | refine LeO.ite ?_ ?_ | refine LeO.bind ?_ (fun _ => ?_)
set_option maxHeartbeats 8000000 in
set_option maxRecDepth 100000 in
theorem impl_NodeAt.calls (k : Nat) (A0 : Option Addr) (c0 : Nat) (l0 : List (S55)) (A1 : Option Addr) (c1 : Nat) (l1 : List Int) (r : Int) (w : World) (hr0 : Kd.C k55 w A0 l0.length l0) (hc0 : l0.length ≤ c0) (hr1 : Kd.C (Kd.int .i64) w A1 l1.length l1) (hc1 : l1.length ≤ c1) (h : impl_NodeAt.f k l0 l1 = some r) :
  Calls Try.prog 26 #[.slice A0 l0.length c0, .slice A1 l1.length c1] w fun e w' => e = .returned (.int .i64 r) ∧ Below w.heap.size w w' := by
 have HR0 := Aside0.mk hr0
 have HC0 := Aside0.mk hc0
 clear hr0 hc0
 have HR1 := Aside0.mk hr1
 have HC1 := Aside0.mk hc1
 clear hr1 hc1
 have HB := Aside0.mk (Below.refl w.heap.size w)
 have H : ((impl_TreeOk.f k l0).bind fun t401 => (if t401 = true then (impl_NodeAt.l0 k l0 0 l1 (l1.length : Int) 0) else (some (-1)))) = some r := h
 clear h
 obtain ⟨t401, A3, H⟩ := bnd_ H
 by_cases c4 : t401 = true
 ·subst c4
  replace H := ift_ H
  have H' := Aside0.mk H
  clear H
  go_enter Try.func26, Try.ntmps26
  go_wp2_with (first | ((with_reducible refine gate_callee (f := 68) rfl ?_); refine goesL_ (some 10) rfl rfl Try.func68 (by kernel_rfl) rfl #[.slice A0 l0.length c0] rfl z1_ ?_; (with_reducible refine (impl_TreeOk.calls k _ _ l0 true _ ?side1 ?side2 A3.out).mono ?_); (case side1 => exact z14_); (case side2 => exact HC0.out); rintro e w5 ⟨rfl, hb⟩; refine ⟨_, rfl, ?_⟩; replace HB := Aside0.mk (below_step z0_ hb); (try clear hb)))
  go_loopg [5, 14] k (fun kq v5 v14 w' => ∃ (x5_1 : Int) (x14_1 : Int), v5 = .int .i64 x5_1 ∧ v14 = .int .i64 x14_1 ∧ Aside0 (impl_NodeAt.l0 kq l0 x5_1 l1 (l1.length : Int) x14_1 = some r) ∧ Aside0 (kq ≤ k) ∧ Aside0 (Below w.heap.size w w'))
  case atStart => exact ⟨(0), (0), z15_, z15_, H', ⟨Nat.le_refl _⟩, ⟨z0_⟩⟩
  case round =>
   clear H'
   try clear c1
   try clear c2
   try clear p2
   try clear c4
   obtain ⟨x5_1, x14_1, rfl, rfl, HA, HK1, HB⟩ := hrel
   cases gk with
   | zero => exact absurd HA.out (by simp [impl_NodeAt.l0])
   | succ k1 =>
    have H := HA.out
    clear HA
    simp only [impl_NodeAt.l0] at H
    by_cases c6 : x14_1 < (l1.length : Int)
    ·rw [if_pos c6] at H
     have c6b0 : decide (x14_1 < (l1.length : Int)) = true := decide_eq_true c6
     clear c6
     obtain ⟨c7b0, H⟩ := ifd_ H
     obtain ⟨c8b0, H⟩ := ifd_ H
     obtain ⟨t403, A9, H⟩ := bnd_ H
     obtain ⟨t406, A10, H⟩ := bnd_ H
     by_cases c11 : t406 = true
     ·subst c11
      replace H := ift_ H
      obtain ⟨c12b0, H⟩ := ifd_ H
      obtain ⟨c13b0, H⟩ := ifd_ H
      have H' := Aside0.mk H
      clear H
      have p402 : 0 ≤ (x14_1 : Int) := odt_
      have q402 : x14_1 < (l1.length : Int) := odt_
      obtain ⟨ad402, e402, hx402_0⟩ := Kd.at_int HR1.out x14_1 p402 q402
      cases e402
      replace hx402_0 := (HB.out.cell (World.block_lt_of_cell? w _ hx402_0)).trans hx402_0
      replace p402 := eq_true p402
      replace q402 := eq_true q402
      go_wp2_with (first | ((with_reducible refine gate_callee (f := 71) rfl ?_); refine goesL_ (some 20) rfl rfl Try.func71 (by kernel_rfl) rfl #[.slice A0 l0.length c0, .int .i64 x5_1] rfl z1_ ?_; (with_reducible refine (impl_KidsOf.calls k1 _ _ l0 x5_1 t403 _ ?side1 ?side2 A9.out).mono ?_); (case side1 => exact z7_); (case side2 => exact HC0.out); rintro e w14 ⟨v404, rfl, ho0, hb⟩; refine ⟨_, rfl, ?_⟩; have HO405 := Aside0.mk (Kd.R_lower ho0 (below_size z0_)); replace HB := Aside0.mk (below_step z0_ hb); (try clear hb ho0); obtain ⟨Ao15, co15, eo15⟩ := Kd.R_slice HO405.out; subst eo15) | ((with_reducible refine gate_callee (f := 82) rfl ?_); refine goesL_ (some 25) rfl rfl Try.func82 (by kernel_rfl) rfl #[.int .i64 (rd l1 x14_1), .int .i64 0, .int .i64 (wrap64 ((t403.length : Int) - 1))] rfl z1_ ?_; (with_reducible refine (impl_within.calls (rd l1 x14_1) 0 (wrap64 ((t403.length : Int) - 1)) true _ A10.out).mono ?_); rintro e w' ⟨rfl, ⟨nd, rfl⟩⟩; refine ⟨_, rfl, ?_⟩; have p407 : 0 ≤ ((rd l1 x14_1) : Int) := odt_; have q407 : (rd l1 x14_1) < (t403.length : Int) := odt_; obtain ⟨ad407, e407, hx407_0⟩ := Kd.at_int (Kd.R_reads' HO405.out).2.2 (rd l1 x14_1) p407 q407; cases e407; replace p407 := eq_true p407; replace q407 := eq_true q407))
      go_roundg k1
      case measure => have := HK1.out; omega
      case rel => exact ⟨(rd t403 (rd l1 x14_1)), (wrap64 (x14_1 + 1)), z15_, z15_, H', ⟨z116_⟩, ⟨z0_⟩⟩
     ·replace c11 := Bool.eq_false_iff.mpr c11
      subst c11
      replace H := iff_ H
      obtain rfl := Option.some.inj H
      have p402 : 0 ≤ (x14_1 : Int) := odt_
      have q402 : x14_1 < (l1.length : Int) := odt_
      obtain ⟨ad402, e402, hx402_0⟩ := Kd.at_int HR1.out x14_1 p402 q402
      cases e402
      replace hx402_0 := (HB.out.cell (World.block_lt_of_cell? w _ hx402_0)).trans hx402_0
      replace p402 := eq_true p402
      replace q402 := eq_true q402
      go_wp2_with (first | ((with_reducible refine gate_callee (f := 71) rfl ?_); refine goesL_ (some 20) rfl rfl Try.func71 (by kernel_rfl) rfl #[.slice A0 l0.length c0, .int .i64 x5_1] rfl z1_ ?_; (with_reducible refine (impl_KidsOf.calls k1 _ _ l0 x5_1 t403 _ ?side1 ?side2 A9.out).mono ?_); (case side1 => exact z7_); (case side2 => exact HC0.out); rintro e w16 ⟨v404, rfl, ho0, hb⟩; refine ⟨_, rfl, ?_⟩; have HO405 := Aside0.mk (Kd.R_lower ho0 (below_size z0_)); replace HB := Aside0.mk (below_step z0_ hb); (try clear hb ho0); obtain ⟨Ao17, co17, eo17⟩ := Kd.R_slice HO405.out; subst eo17) | ((with_reducible refine gate_callee (f := 82) rfl ?_); refine goesL_ (some 25) rfl rfl Try.func82 (by kernel_rfl) rfl #[.int .i64 (rd l1 x14_1), .int .i64 0, .int .i64 (wrap64 ((t403.length : Int) - 1))] rfl z1_ ?_; (with_reducible refine (impl_within.calls (rd l1 x14_1) 0 (wrap64 ((t403.length : Int) - 1)) false _ A10.out).mono ?_); rintro e w' ⟨rfl, ⟨nd, rfl⟩⟩; refine ⟨_, rfl, ?_⟩))
      go_ret
      exact ⟨z9_, z0_⟩
    ·rw [if_neg c6] at H
     have c6b0 : decide (x14_1 < (l1.length : Int)) = false := decide_eq_false c6
     clear c6
     obtain rfl := Option.some.inj H
     go_wp2
     go_ret
     exact ⟨z9_, z0_⟩
 ·replace c4 := Bool.eq_false_iff.mpr c4
  subst c4
  replace H := iff_ H
  obtain rfl := Option.some.inj H
  go_enter Try.func26, Try.ntmps26
  go_wp2_with (first | ((with_reducible refine gate_callee (f := 68) rfl ?_); refine goesL_ (some 10) rfl rfl Try.func68 (by kernel_rfl) rfl #[.slice A0 l0.length c0] rfl z1_ ?_; (with_reducible refine (impl_TreeOk.calls k _ _ l0 false _ ?side1 ?side2 A3.out).mono ?_); (case side1 => exact z14_); (case side2 => exact HC0.out); rintro e w18 ⟨rfl, hb⟩; refine ⟨_, rfl, ?_⟩; replace HB := Aside0.mk (below_step z0_ hb); (try clear hb)))
  go_ret
  exact ⟨z9_, z0_⟩

/-! ### spec_NodeAt: function 27 -/
def spec_NodeAt.l0 : Nat → List (S55) → List Int → Int → Int → Option (Int)
 | 0, _, _, _, _ => none
 | k + 1, x0, x1, x5, x6 => if x6 < (x1.length : Int) then ((spec_KidsOf.f k x0 x5).bind fun t409 => (if 0 ≤ x6 then ((spec_l1In.f (rd x1 x6) 0 (wrap64 ((t409.length : Int) - 1))).bind fun t413 => (if t413 = true then (if 0 ≤ (rd x1 x6) then (if (rd x1 x6) < (t409.length : Int) then (spec_NodeAt.l0 k x0 x1 (rd t409 (rd x1 x6)) (wrap64 (x6 + 1))) else (none)) else (none)) else (some (-1)))) else (none))) else (some x5)
def spec_NodeAt.f (k : Nat) (l0 : List (S55)) (l1 : List Int) : Option (Int) := (spec_TreeOk.f k l0).bind fun t408 => (if t408 = true then (spec_NodeAt.l0 k l0 l1 0 0) else (some (-1)))
theorem spec_NodeAt.mono_l : ∀ k, (∀ y0 y1 y2 y3, LeO (spec_NodeAt.l0 k y0 y1 y2 y3) (spec_NodeAt.l0 (k + 1) y0 y1 y2 y3))
 | 0 => fun _ _ _ _ r h => by simp [spec_NodeAt.l0] at h
 | k + 1 => by
  have ih0 := spec_NodeAt.mono_l k
  ·intro y0 y1 y2 y3
   unfold spec_NodeAt.l0
   repeat' first | (with_reducible first | exact ih0 _ _ _ _ | exact spec_KidsOf.mono _ _ _ | exact spec_TreeOk.mono _ _ | exact LeO.refl _ | exact LeO.none _ | refine LeO.ite ?_ ?_ | refine LeO.bind ?_ (fun _ => ?_)) | exact ih0 _ _ _ _ | exact spec_KidsOf.mono _ _ _ | exact spec_TreeOk.mono _ _ | exact LeO.none _ | refine LeO.ite ?_ ?_ | refine LeO.bind ?_ (fun _ => ?_)
theorem spec_NodeAt.mono : ∀ a0 a1 k, LeO (spec_NodeAt.f k a0 a1) (spec_NodeAt.f (k + 1) a0 a1) := by
 intro a0 a1 k
 have ih0 := spec_NodeAt.mono_l k
 unfold spec_NodeAt.f
 repeat' first | (with_reducible first | exact ih0 _ _ _ _ | exact spec_KidsOf.mono _ _ _ | exact spec_TreeOk.mono _ _ | exact LeO.refl _ | exact LeO.none _ | refine LeO.ite ?_ ?_ | refine LeO.bind ?_ (fun _ => ?_)) | exact ih0 _ _ _ _ | exact spec_KidsOf.mono _ _ _ | exact spec_TreeOk.mono _ _ | exact LeO.none _ | refine LeO.ite ?_ ?_ | refine LeO.bind ?_ (fun _ => ?_)
set_option maxHeartbeats 8000000 in
set_option maxRecDepth 100000 in
theorem spec_NodeAt.calls (k : Nat) (A0 : Option Addr) (c0 : Nat) (l0 : List (S55)) (A1 : Option Addr) (c1 : Nat) (l1 : List Int) (r : Int) (w : World) (hr0 : Kd.C k55 w A0 l0.length l0) (hc0 : l0.length ≤ c0) (hr1 : Kd.C (Kd.int .i64) w A1 l1.length l1) (hc1 : l1.length ≤ c1) (h : spec_NodeAt.f k l0 l1 = some r) :
  Calls Try.prog 27 #[.slice A0 l0.length c0, .slice A1 l1.length c1] w fun e w' => e = .returned (.int .i64 r) ∧ Below w.heap.size w w' := by
 have HR0 := Aside0.mk hr0
 have HC0 := Aside0.mk hc0
 clear hr0 hc0
 have HR1 := Aside0.mk hr1
 have HC1 := Aside0.mk hc1
 clear hr1 hc1
 have HB := Aside0.mk (Below.refl w.heap.size w)
 have H : ((spec_TreeOk.f k l0).bind fun t408 => (if t408 = true then (spec_NodeAt.l0 k l0 l1 0 0) else (some (-1)))) = some r := h
 clear h
 obtain ⟨t408, A3, H⟩ := bnd_ H
 by_cases c4 : t408 = true
 ·subst c4
  replace H := ift_ H
  have H' := Aside0.mk H
  clear H
  go_enter Try.func27, Try.ntmps27
  go_wp2_with (first | ((with_reducible refine gate_callee (f := 29) rfl ?_); refine goesL_ (some 9) rfl rfl Try.func29 (by kernel_rfl) rfl #[.slice A0 l0.length c0] rfl z1_ ?_; (with_reducible refine (spec_TreeOk.calls k _ _ l0 true _ ?side1 ?side2 A3.out).mono ?_); (case side1 => exact z14_); (case side2 => exact HC0.out); rintro e w5 ⟨rfl, hb⟩; refine ⟨_, rfl, ?_⟩; replace HB := Aside0.mk (below_step z0_ hb); (try clear hb)))
  go_loopg [5, 6] k (fun kq v5 v6 w' => ∃ (x5_1 : Int) (x6_1 : Int), v5 = .int .i64 x5_1 ∧ v6 = .int .i64 x6_1 ∧ Aside0 (spec_NodeAt.l0 kq l0 l1 x5_1 x6_1 = some r) ∧ Aside0 (kq ≤ k) ∧ Aside0 (Below w.heap.size w w'))
  case atStart => exact ⟨(0), (0), z15_, z15_, H', ⟨Nat.le_refl _⟩, ⟨z0_⟩⟩
  case round =>
   clear H'
   try clear c1
   try clear c2
   try clear p2
   try clear c4
   obtain ⟨x5_1, x6_1, rfl, rfl, HA, HK1, HB⟩ := hrel
   cases gk with
   | zero => exact absurd HA.out (by simp [spec_NodeAt.l0])
   | succ k1 =>
    have H := HA.out
    clear HA
    simp only [spec_NodeAt.l0] at H
    by_cases c6 : x6_1 < (l1.length : Int)
    ·rw [if_pos c6] at H
     have c6b0 : decide (x6_1 < (l1.length : Int)) = true := decide_eq_true c6
     clear c6
     obtain ⟨t409, A7, H⟩ := bnd_ H
     obtain ⟨c8b0, H⟩ := ifd_ H
     obtain ⟨t413, A9, H⟩ := bnd_ H
     by_cases c10 : t413 = true
     ·subst c10
      replace H := ift_ H
      obtain ⟨c11b0, H⟩ := ifd_ H
      obtain ⟨c12b0, H⟩ := ifd_ H
      have H' := Aside0.mk H
      clear H
      go_wp2_with (first | ((with_reducible refine gate_callee (f := 65) rfl ?_); refine goesL_ (some 19) rfl rfl Try.func65 (by kernel_rfl) rfl #[.slice A0 l0.length c0, .int .i64 x5_1] rfl z1_ ?_; (with_reducible refine (spec_KidsOf.calls k1 _ _ l0 x5_1 t409 _ ?side1 ?side2 A7.out).mono ?_); (case side1 => exact z7_); (case side2 => exact HC0.out); rintro e w13 ⟨v410, rfl, ho0, hb⟩; refine ⟨_, rfl, ?_⟩; have HO411 := Aside0.mk (Kd.R_lower ho0 (below_size z0_)); replace HB := Aside0.mk (below_step z0_ hb); (try clear hb ho0); have p412 : 0 ≤ (x6_1 : Int) := odt_; have q412 : x6_1 < (l1.length : Int) := odt_; obtain ⟨ad412, e412, hx412_0⟩ := Kd.at_int HR1.out x6_1 p412 q412; cases e412; replace hx412_0 := (HB.out.cell (World.block_lt_of_cell? w _ hx412_0)).trans hx412_0; replace p412 := eq_true p412; replace q412 := eq_true q412; obtain ⟨Ao14, co14, eo14⟩ := Kd.R_slice HO411.out; subst eo14) | ((with_reducible refine gate_callee (f := 83) rfl ?_); refine goesL_ (some 27) rfl rfl Try.func83 (by kernel_rfl) rfl #[.int .i64 (rd l1 x6_1), .int .i64 0, .int .i64 (wrap64 ((t409.length : Int) - 1))] rfl z1_ ?_; (with_reducible refine (spec_l1In.calls (rd l1 x6_1) 0 (wrap64 ((t409.length : Int) - 1)) true _ A9.out).mono ?_); rintro e w' ⟨rfl, ⟨nd, rfl⟩⟩; refine ⟨_, rfl, ?_⟩; have p414 : 0 ≤ (x6_1 : Int) := odt_; have q414 : x6_1 < (l1.length : Int) := odt_; obtain ⟨ad414, e414, hx414_0⟩ := Kd.at_int HR1.out x6_1 p414 q414; obtain rfl : ad412 = ad414 := (by injection e414); replace hx414_0 := (HB.out.cell (World.block_lt_of_cell? w _ hx414_0)).trans hx414_0; replace p414 := eq_true p414; replace q414 := eq_true q414; have p415 : 0 ≤ ((rd l1 x6_1) : Int) := odt_; have q415 : (rd l1 x6_1) < (t409.length : Int) := odt_; obtain ⟨ad415, e415, hx415_0⟩ := Kd.at_int (Kd.R_reads' HO411.out).2.2 (rd l1 x6_1) p415 q415; cases e415; replace p415 := eq_true p415; replace q415 := eq_true q415))
      go_roundg k1
      case measure => have := HK1.out; omega
      case rel => exact ⟨(rd t409 (rd l1 x6_1)), (wrap64 (x6_1 + 1)), z15_, z15_, H', ⟨z116_⟩, ⟨z0_⟩⟩
     ·replace c10 := Bool.eq_false_iff.mpr c10
      subst c10
      replace H := iff_ H
      obtain rfl := Option.some.inj H
      go_wp2_with (first | ((with_reducible refine gate_callee (f := 65) rfl ?_); refine goesL_ (some 19) rfl rfl Try.func65 (by kernel_rfl) rfl #[.slice A0 l0.length c0, .int .i64 x5_1] rfl z1_ ?_; (with_reducible refine (spec_KidsOf.calls k1 _ _ l0 x5_1 t409 _ ?side1 ?side2 A7.out).mono ?_); (case side1 => exact z7_); (case side2 => exact HC0.out); rintro e w15 ⟨v410, rfl, ho0, hb⟩; refine ⟨_, rfl, ?_⟩; have HO411 := Aside0.mk (Kd.R_lower ho0 (below_size z0_)); replace HB := Aside0.mk (below_step z0_ hb); (try clear hb ho0); have p412 : 0 ≤ (x6_1 : Int) := odt_; have q412 : x6_1 < (l1.length : Int) := odt_; obtain ⟨ad412, e412, hx412_0⟩ := Kd.at_int HR1.out x6_1 p412 q412; cases e412; replace hx412_0 := (HB.out.cell (World.block_lt_of_cell? w _ hx412_0)).trans hx412_0; replace p412 := eq_true p412; replace q412 := eq_true q412; obtain ⟨Ao16, co16, eo16⟩ := Kd.R_slice HO411.out; subst eo16) | ((with_reducible refine gate_callee (f := 83) rfl ?_); refine goesL_ (some 27) rfl rfl Try.func83 (by kernel_rfl) rfl #[.int .i64 (rd l1 x6_1), .int .i64 0, .int .i64 (wrap64 ((t409.length : Int) - 1))] rfl z1_ ?_; (with_reducible refine (spec_l1In.calls (rd l1 x6_1) 0 (wrap64 ((t409.length : Int) - 1)) false _ A9.out).mono ?_); rintro e w' ⟨rfl, ⟨nd, rfl⟩⟩; refine ⟨_, rfl, ?_⟩))
      go_ret
      exact ⟨z9_, z0_⟩
    ·rw [if_neg c6] at H
     have c6b0 : decide (x6_1 < (l1.length : Int)) = false := decide_eq_false c6
     clear c6
     obtain rfl := Option.some.inj H
     go_wp2
     go_ret
     exact ⟨z9_, z0_⟩
 ·replace c4 := Bool.eq_false_iff.mpr c4
  subst c4
  replace H := iff_ H
  obtain rfl := Option.some.inj H
  go_enter Try.func27, Try.ntmps27
  go_wp2_with (first | ((with_reducible refine gate_callee (f := 29) rfl ?_); refine goesL_ (some 9) rfl rfl Try.func29 (by kernel_rfl) rfl #[.slice A0 l0.length c0] rfl z1_ ?_; (with_reducible refine (spec_TreeOk.calls k _ _ l0 false _ ?side1 ?side2 A3.out).mono ?_); (case side1 => exact z14_); (case side2 => exact HC0.out); rintro e w17 ⟨rfl, hb⟩; refine ⟨_, rfl, ?_⟩; replace HB := Aside0.mk (below_step z0_ hb); (try clear hb)))
  go_ret
  exact ⟨z9_, z0_⟩

/-! ### laws_sameInts: function 28 -/
def laws_sameInts.l0 : Nat → List Int → List Int → Int → Option (Bool)
 | 0, _, _, _ => none
 | k + 1, x0, x1, x5 => if x5 < (x0.length : Int) then (if 0 ≤ x5 then (if x5 < (x1.length : Int) then (if (rd x0 x5) = (rd x1 x5) then (laws_sameInts.l0 k x0 x1 (wrap64 (x5 + 1))) else (some false)) else (none)) else (none)) else (some true)
def laws_sameInts.f (k : Nat) (l0 : List Int) (l1 : List Int) : Option (Bool) := if (l0.length : Int) = (l1.length : Int) then (laws_sameInts.l0 k l0 l1 0) else (some false)
theorem laws_sameInts.mono_l : ∀ k, (∀ y0 y1 y2, LeO (laws_sameInts.l0 k y0 y1 y2) (laws_sameInts.l0 (k + 1) y0 y1 y2))
 | 0 => fun _ _ _ r h => by simp [laws_sameInts.l0] at h
 | k + 1 => by
  have ih0 := laws_sameInts.mono_l k
  ·intro y0 y1 y2
   unfold laws_sameInts.l0
   repeat' first | (with_reducible first | exact ih0 _ _ _ | exact LeO.refl _ | exact LeO.none _ | refine LeO.ite ?_ ?_ | refine LeO.bind ?_ (fun _ => ?_)) | exact ih0 _ _ _ | exact LeO.none _ | refine LeO.ite ?_ ?_ | refine LeO.bind ?_ (fun _ => ?_)
theorem laws_sameInts.mono : ∀ a0 a1 k, LeO (laws_sameInts.f k a0 a1) (laws_sameInts.f (k + 1) a0 a1) := by
 intro a0 a1 k
 have ih0 := laws_sameInts.mono_l k
 unfold laws_sameInts.f
 repeat' first | (with_reducible first | exact ih0 _ _ _ | exact LeO.refl _ | exact LeO.none _ | refine LeO.ite ?_ ?_ | refine LeO.bind ?_ (fun _ => ?_)) | exact ih0 _ _ _ | exact LeO.none _ | refine LeO.ite ?_ ?_ | refine LeO.bind ?_ (fun _ => ?_)
set_option maxHeartbeats 8000000 in
set_option maxRecDepth 100000 in
theorem laws_sameInts.calls (k : Nat) (A0 : Option Addr) (c0 : Nat) (l0 : List Int) (A1 : Option Addr) (c1 : Nat) (l1 : List Int) (r : Bool) (w : World) (hr0 : Kd.C (Kd.int .i64) w A0 l0.length l0) (hc0 : l0.length ≤ c0) (hr1 : Kd.C (Kd.int .i64) w A1 l1.length l1) (hc1 : l1.length ≤ c1) (h : laws_sameInts.f k l0 l1 = some r) :
  Calls Try.prog 28 #[.slice A0 l0.length c0, .slice A1 l1.length c1] w fun e w' => e = .returned (.bool r) ∧ Drawn0 w w' := by
 have HR0 := Aside0.mk hr0
 have HC0 := Aside0.mk hc0
 clear hr0 hc0
 have HR1 := Aside0.mk hr1
 have HC1 := Aside0.mk hc1
 clear hr1 hc1
 have H : (if (l0.length : Int) = (l1.length : Int) then (laws_sameInts.l0 k l0 l1 0) else (some false)) = some r := h
 clear h
 by_cases c3 : (l0.length : Int) = (l1.length : Int)
 ·rw [if_pos c3] at H
  have c3b0 : ((l0.length : Int) == (l1.length : Int)) = true := beq_iff_eq.mpr c3
  have c3b1 : ((l0.length : Int) != (l1.length : Int)) = false := bne_eq_false_iff_eq.mpr c3
  have c3b2 : (l0.length == l1.length) = true := by first | simpa using c3 | (simp at c3 ⊢; omega)
  clear c3
  have H' := Aside0.mk H
  clear H
  go_enter Try.func28, Try.ntmps28
  go_wp2
  repeat (go_quiet (fail); try go_wp2)
  go_loopg [5] k (fun kq v5 w' => ∃ (x5_1 : Int), v5 = .int .i64 x5_1 ∧ Aside0 (laws_sameInts.l0 kq l0 l1 x5_1 = some r) ∧ Aside0 (kq ≤ k) ∧ Drawn0 w w')
  case atStart => exact ⟨(0), z15_, H', ⟨Nat.le_refl _⟩, z56_⟩
  case round =>
   clear H'
   try clear c1
   try clear c2
   try clear p2
   try clear c3
   try clear c3b0
   try clear c3b1
   try clear c3b2
   obtain ⟨x5_1, rfl, HA, HK1, ⟨m1, rfl⟩⟩ := hrel
   cases gk with
   | zero => exact absurd HA.out (by simp [laws_sameInts.l0])
   | succ k1 =>
    have H := HA.out
    clear HA
    simp only [laws_sameInts.l0] at H
    by_cases c4 : x5_1 < (l0.length : Int)
    ·rw [if_pos c4] at H
     have c4b0 : decide (x5_1 < (l0.length : Int)) = true := decide_eq_true c4
     clear c4
     obtain ⟨c5b0, H⟩ := ifd_ H
     obtain ⟨c6b0, H⟩ := ifd_ H
     by_cases c7 : (rd l0 x5_1) = (rd l1 x5_1)
     ·rw [if_pos c7] at H
      have c7b0 : ((rd l0 x5_1) == (rd l1 x5_1)) = true := beq_iff_eq.mpr c7
      have c7b1 : ((rd l0 x5_1) != (rd l1 x5_1)) = false := bne_eq_false_iff_eq.mpr c7
      clear c7
      have H' := Aside0.mk H
      clear H
      have p416 : 0 ≤ (x5_1 : Int) := odt_
      have q416 : x5_1 < (l0.length : Int) := odt_
      obtain ⟨ad416, e416, hx416_0⟩ := Kd.at_int HR0.out x5_1 p416 q416
      cases e416
      replace p416 := eq_true p416
      replace q416 := eq_true q416
      have p417 : 0 ≤ (x5_1 : Int) := odt_
      have q417 : x5_1 < (l1.length : Int) := odt_
      obtain ⟨ad417, e417, hx417_0⟩ := Kd.at_int HR1.out x5_1 p417 q417
      cases e417
      replace p417 := eq_true p417
      replace q417 := eq_true q417
      go_wp2
      repeat (go_quiet (fail); try go_wp2)
      go_roundg k1
      case measure => have := HK1.out; omega
      case rel => exact ⟨(wrap64 (x5_1 + 1)), z15_, H', ⟨z116_⟩, z56_⟩
     ·rw [if_neg c7] at H
      have c7b0 : ((rd l0 x5_1) == (rd l1 x5_1)) = false := beq_eq_false_iff_ne.mpr c7
      have c7b1 : ((rd l0 x5_1) != (rd l1 x5_1)) = true := bne_iff_ne.mpr c7
      obtain rfl := Option.some.inj H
      have p416 : 0 ≤ (x5_1 : Int) := odt_
      have q416 : x5_1 < (l0.length : Int) := odt_
      obtain ⟨ad416, e416, hx416_0⟩ := Kd.at_int HR0.out x5_1 p416 q416
      cases e416
      replace p416 := eq_true p416
      replace q416 := eq_true q416
      have p417 : 0 ≤ (x5_1 : Int) := odt_
      have q417 : x5_1 < (l1.length : Int) := odt_
      obtain ⟨ad417, e417, hx417_0⟩ := Kd.at_int HR1.out x5_1 p417 q417
      cases e417
      replace p417 := eq_true p417
      replace q417 := eq_true q417
      go_wp2
      repeat (go_quiet (fail); try go_wp2)
      go_ret
      exact ⟨z15_, z56_⟩
    ·rw [if_neg c4] at H
     have c4b0 : decide (x5_1 < (l0.length : Int)) = false := decide_eq_false c4
     clear c4
     obtain rfl := Option.some.inj H
     go_wp2
     repeat (go_quiet (fail); try go_wp2)
     go_ret
     exact ⟨z15_, z56_⟩
 ·rw [if_neg c3] at H
  have c3b0 : ((l0.length : Int) == (l1.length : Int)) = false := beq_eq_false_iff_ne.mpr c3
  have c3b1 : ((l0.length : Int) != (l1.length : Int)) = true := bne_iff_ne.mpr c3
  have c3b2 : (l0.length == l1.length) = false := by first | simpa using c3 | (simp at c3 ⊢; omega)
  obtain rfl := Option.some.inj H
  go_enter Try.func28, Try.ntmps28
  go_wp2
  repeat (go_quiet (fail); try go_wp2)
  go_ret
  exact ⟨z15_, z56_⟩

/-! ### slices_Contains_int_int: function 92 -/
def slices_Contains_int_int.f (k : Nat) (l0 : List Int) (a1 : Int) : Option (Bool) := (slices_Index_int_int.f k l0 a1).bind fun t418 => (some (decide (t418 ≥ 0)))
theorem slices_Contains_int_int.mono : ∀ a0 a1 k, LeO (slices_Contains_int_int.f k a0 a1) (slices_Contains_int_int.f (k + 1) a0 a1) := by
 intro a0 a1 k
 unfold slices_Contains_int_int.f
 repeat' first | (with_reducible first | exact slices_Index_int_int.mono _ _ _ | exact LeO.refl _ | exact LeO.none _ | refine LeO.ite ?_ ?_ | refine LeO.bind ?_ (fun _ => ?_)) | exact slices_Index_int_int.mono _ _ _ | exact LeO.none _ | refine LeO.ite ?_ ?_ | refine LeO.bind ?_ (fun _ => ?_)
set_option maxHeartbeats 8000000 in
set_option maxRecDepth 100000 in
theorem slices_Contains_int_int.calls (k : Nat) (A0 : Option Addr) (c0 : Nat) (l0 : List Int) (a1 : Int) (r : Bool) (w : World) (hr0 : Kd.C (Kd.int .i64) w A0 l0.length l0) (hc0 : l0.length ≤ c0) (h : slices_Contains_int_int.f k l0 a1 = some r) :
  Calls Try.prog 92 #[.slice A0 l0.length c0, .int .i64 a1] w fun e w' => e = .returned (.bool r) ∧ Drawn0 w w' := by
 have HR0 := Aside0.mk hr0
 have HC0 := Aside0.mk hc0
 clear hr0 hc0
 have H : ((slices_Index_int_int.f k l0 a1).bind fun t418 => (some (decide (t418 ≥ 0)))) = some r := h
 clear h
 obtain ⟨t418, A3, H⟩ := bnd_ H
 obtain rfl := Option.some.inj H
 go_enter Try.func92, Try.ntmps92
 go_wp2_with (first | ((with_reducible refine gate_callee (f := 72) rfl ?_); refine goesL_ (some 7) rfl rfl Try.func72 (by kernel_rfl) rfl #[.slice A0 l0.length c0, .int .i64 a1] rfl z1_ ?_; (with_reducible refine (slices_Index_int_int.calls k _ _ l0 a1 t418 _ ?side1 ?side2 A3.out).mono ?_); (case side1 => exact z14_); (case side2 => exact HC0.out); rintro e w' ⟨rfl, ⟨nd, rfl⟩⟩; refine ⟨_, rfl, ?_⟩))
 go_ret
 exact ⟨z15_, z56_⟩

end Go.Proofs.Ytmbhlfcpdbbogab.PFnPaths
