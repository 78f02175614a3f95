/- Laid by a program of this session out of the kit's print for the law FnKept: what it says of the machine is proved here, function by function; each contract under the conditions that it names. -/
import Derived.Test.YtbiffnahknkoiaaMFnKeptx0
import Derived.Test.YtbiffnahknkoiaaMFnKeptx4
import Derived.Test.YtbiffnahknkoiaaMFnKeptx5
import Derived.Test.YtbiffnahknkoiaaMFnKeptx15
namespace Go.Proofs.Ytbiffnahknkoiaa.PFnKept
open Go.RowKit Go.Proofs.YtbiffnahknkoiaaW.PrintWords Go.Proofs.YtbiffnahknkoiaaW.PrintLast Go.Proofs.YtbiffnahknkoiaaW.PrintMore
attribute [local go_sem] max2_int min2_int max_two min_two max_three min_three max_four min_four   -- for this text's walks alone
set_option linter.unusedVariables false
set_option linter.unusedSimpArgs false

/-! ### spec_Kept: function 15 -/
mutual
def spec_Kept.j0 : Nat → List (S45) → List (S47) → List (S45) → List Int → Bool → Option ((List (S45)))
 | 0, _, _, _, _, _ => none
 | k + 1, x0, x1, x5, x6, x23 => if x23 = true then (some (([] : List (S45)))) else (spec_Kept.l0 k x0 x1 x5 x6 (wrap64 ((x6.length : Int) - 1)))
def spec_Kept.l0 : Nat → List (S45) → List (S47) → List (S45) → List Int → Int → Option ((List (S45)))
 | 0, _, _, _, _, _ => none
 | k + 1, x0, x1, x5, x6, x7 => if x7 ≥ 0 then (spec_Kept.l1 k x0 x1 x5 x6 x7 (wrap64 ((x0.length : Int) - 1))) else (spec_Kept.l3 k x1 x5 (([] : List (S45))) 0)
def spec_Kept.l1 : Nat → List (S45) → List (S47) → List (S45) → List Int → Int → Int → Option ((List (S45)))
 | 0, _, _, _, _, _, _ => none
 | k + 1, x0, x1, x5, x6, x7, x8 => if x8 ≥ 1 then (if 0 ≤ x7 then (if x7 < (x6.length : Int) then (if (rd x6 x7) = x8 then ((spec_l10IsA.f k x1 x8).bind fun t628 => (spec_Kept.j3 k x0 x1 x5 x6 x7 x8 (!t628))) else (spec_Kept.j3 k x0 x1 x5 x6 x7 x8 false)) else (none)) else (none)) else (spec_Kept.l0 k x0 x1 x5 x6 (wrap64 (x7 - 1)))
def spec_Kept.j3 : Nat → List (S45) → List (S47) → List (S45) → List Int → Int → Int → Bool → Option ((List (S45)))
 | 0, _, _, _, _, _, _, _ => none
 | k + 1, x0, x1, x5, x6, x7, x8, x50 => if x50 = true then (spec_Kept.l2 k x0 x1 x5 x6 x7 x8 (wrap64 (x8 + 1))) else (spec_Kept.l1 k x0 x1 x5 x6 x7 (wrap64 (x8 - 1)))
def spec_Kept.l2 : Nat → List (S45) → List (S47) → List (S45) → List Int → Int → Int → Int → Option ((List (S45)))
 | 0, _, _, _, _, _, _, _ => none
 | k + 1, x0, x1, x5, x6, x7, x8, x9 => if x9 < (x0.length : Int) then (if 0 ≤ x9 then (if 0 ≤ x8 then (if x8 < (x0.length : Int) then (if ((rd_T45 x0 x9).f1) > ((rd_T45 x0 x8).f1) then (if x9 < (x5.length : Int) then (spec_Kept.l2 k x0 x1 (x5.set (x9 : Int).toNat (⟨(rd_T45 x5 x9).f0, wrap64 (((rd_T45 x5 x9).f1) - 1)⟩ : S45)) x6 x7 x8 (wrap64 (x9 + 1))) else (none)) else (spec_Kept.l1 k x0 x1 x5 x6 x7 (wrap64 (x8 - 1)))) else (none)) else (none)) else (none)) else (spec_Kept.l1 k x0 x1 x5 x6 x7 (wrap64 (x8 - 1)))
def spec_Kept.l3 : Nat → List (S47) → List (S45) → List (S45) → Int → Option ((List (S45)))
 | 0, _, _, _, _ => none
 | k + 1, x1, x5, x10, x11 => if x11 < (x5.length : Int) then ((spec_l10IsA.f k x1 x11).bind fun t636 => (if t636 = true then (if 0 ≤ x11 then (if x10.length < 8796093022208 then (spec_Kept.l3 k x1 x5 (x10 ++ [(⟨(rd_T45 x5 x11).f0, (rd_T45 x5 x11).f1⟩ : S45)]) (wrap64 (x11 + 1))) else (none)) else (none)) else (spec_Kept.l3 k x1 x5 x10 (wrap64 (x11 + 1))))) else (some x10)
end
def spec_Kept.f (k : Nat) (l0 : List (S45)) (l1 : List (S47)) : Option ((List (S45))) := (spec_l3Copy.f l0).bind fun t616 => ((spec_PostOrder.f k l0).bind fun t619 => ((spec_TreeOk.f k l0).bind fun t622 => (if t622 = true then ((spec_l10IsA.f k l1 0).bind fun t623 => (spec_Kept.j0 k l0 l1 t616 t619 (!t623))) else (spec_Kept.j0 k l0 l1 t616 t619 true))))
set_option maxHeartbeats 8000000 in
set_option maxRecDepth 100000 in
theorem spec_Kept.calls (k : Nat) (A0 : Option Addr) (c0 : Nat) (l0 : List (S45)) (A1 : Option Addr) (c1 : Nat) (l1 : List (S47)) (r : List (S45)) (w : World) (hr0 : Kd.C k45 w A0 l0.length l0) (hc0 : l0.length ≤ c0) (hr1 : Kd.C k47 w A1 l1.length l1) (hc1 : l1.length ≤ c1) (h : spec_Kept.f k l0 l1 = some r) :
  Calls Try.prog 15 #[.slice A0 l0.length c0, .slice A1 l1.length c1] w fun e w' => ∃ v0_ : Value, e = .returned (v0_) ∧ Kd.R k45 45 w' w.heap.size (fun _ => True) v0_ r ∧ Below w.heap.size w w' := by
 have hu45 := Try.underlying45
 have HR0 := Aside0.mk hr0
 have HC0 := Aside0.mk hc0
 clear hr0 hc0
 have HR1 := Aside0.mk hr1
 have HC1 := Aside0.mk hc1
 clear hr1 hc1
 have HB := Aside0.mk (Below.refl w.heap.size w)
 have H : ((spec_l3Copy.f l0).bind fun t616 => ((spec_PostOrder.f k l0).bind fun t619 => ((spec_TreeOk.f k l0).bind fun t622 => (if t622 = true then ((spec_l10IsA.f k l1 0).bind fun t623 => (spec_Kept.j0 k l0 l1 t616 t619 (!t623))) else (spec_Kept.j0 k l0 l1 t616 t619 true))))) = some r := h
 clear h
 obtain ⟨t616, A3, H⟩ := bnd_ H
 obtain ⟨t619, A4, H⟩ := bnd_ H
 have HC5 := Aside0.mk H
 clear H
 go_enter Try.func15, Try.ntmps15
 go_upto_region 3 with (first | (go_at_call 45; (with_reducible refine (spec_l3Copy.calls _ _ l0 t616 _ ?side1 ?side2 A3.out).mono ?_); (case side1 => exact z11_); (case side2 => exact HC0.out); rintro e w6 ⟨v617, rfl, ho0, hb⟩; have HO618 := Aside0.mk (Kd.R_lower ho0 (below_size z0_)); replace HB := Aside0.mk (below_step z0_ hb); (try clear hb ho0)) | (go_at_call 46; (with_reducible refine (spec_PostOrder.calls k _ _ l0 t619 _ ?side1 ?side2 A4.out).mono ?_); (case side1 => exact z8_); (case side2 => exact HC0.out); rintro e w7 ⟨v620, rfl, ho0, hb⟩; replace HO618 := Aside0.mk (Kd.R_below z81_ hb); have HO621 := Aside0.mk (Kd.R_lower ho0 (below_size z0_)); replace HB := Aside0.mk (below_step z0_ hb); (try clear hb ho0)))
 repeat (go_quiet (first | (go_at_call 45; (with_reducible refine (spec_l3Copy.calls _ _ l0 t616 _ ?side1 ?side2 A3.out).mono ?_); (case side1 => exact z11_); (case side2 => exact HC0.out); rintro e w6 ⟨v617, rfl, ho0, hb⟩; have HO618 := Aside0.mk (Kd.R_lower ho0 (below_size z0_)); replace HB := Aside0.mk (below_step z0_ hb); (try clear hb ho0)) | (go_at_call 46; (with_reducible refine (spec_PostOrder.calls k _ _ l0 t619 _ ?side1 ?side2 A4.out).mono ?_); (case side1 => exact z8_); (case side2 => exact HC0.out); rintro e w7 ⟨v620, rfl, ho0, hb⟩; replace HO618 := Aside0.mk (Kd.R_below z81_ hb); have HO621 := Aside0.mk (Kd.R_lower ho0 (below_size z0_)); replace HB := Aside0.mk (below_step z0_ hb); (try clear hb ho0))); go_upto_region 3 with (first | (go_at_call 45; (with_reducible refine (spec_l3Copy.calls _ _ l0 t616 _ ?side1 ?side2 A3.out).mono ?_); (case side1 => exact z11_); (case side2 => exact HC0.out); rintro e w6 ⟨v617, rfl, ho0, hb⟩; have HO618 := Aside0.mk (Kd.R_lower ho0 (below_size z0_)); replace HB := Aside0.mk (below_step z0_ hb); (try clear hb ho0)) | (go_at_call 46; (with_reducible refine (spec_PostOrder.calls k _ _ l0 t619 _ ?side1 ?side2 A4.out).mono ?_); (case side1 => exact z8_); (case side2 => exact HC0.out); rintro e w7 ⟨v620, rfl, ho0, hb⟩; replace HO618 := Aside0.mk (Kd.R_below z81_ hb); have HO621 := Aside0.mk (Kd.R_lower ho0 (below_size z0_)); replace HB := Aside0.mk (below_step z0_ hb); (try clear hb ho0))))
 (try simp only [Act.put, List.setIfInBounds_toArray, List.set_cons_zero, List.set_cons_succ])
 go_cut [23] (fun v23 wc => ∃ (kq : Nat) (x23_4 : Bool), v23 = .bool x23_4 ∧ Aside0 (spec_Kept.j0 kq l0 l1 t616 t619 x23_4 = some r) ∧ Aside0 (kq ≤ k) ∧ Aside0 (Kd.R k45 45 wc w.heap.size (fun _ => True) v617 t616) ∧ Aside0 (Kd.R (Kd.int .i64) 3 wc w.heap.size (fun _ => True) v620 t619) ∧ Aside0 (Below w.heap.size w wc))
 case first =>
  have H := HC5.out
  clear HC5
  obtain ⟨t622, A8, H⟩ := bnd_ H
  by_cases c9 : t622 = true
  ·subst c9
   replace H := ift_ H
   obtain ⟨t623, A10, H⟩ := bnd_ H
   have H' := Aside0.mk H
   clear H
   go_wp2_with (first | (go_at_call 16; (with_reducible refine (spec_TreeOk.calls k _ _ l0 true _ ?side1 ?side2 A8.out).mono ?_); (case side1 => exact z8_); (case side2 => exact HC0.out); rintro e w11 ⟨rfl, hb⟩; replace HO618 := Aside0.mk (Kd.R_below z81_ hb); replace HO621 := Aside0.mk (Kd.R_below z100_ hb); replace HB := Aside0.mk (below_step z0_ hb); (try clear hb)) | (go_at_call 47; (with_reducible refine (spec_l10IsA.calls k _ _ l1 0 t623 _ ?side1 ?side2 A10.out).mono ?_); (case side1 => exact z24_); (case side2 => exact HC1.out); rintro e w' ⟨rfl, ⟨nd, rfl⟩⟩; (try first | exact ⟨rfl, _, World.drewN_drewN _ _ _⟩ | exact ⟨rfl, _, Eq.trans (World.drewN_drewN _ _ _) (congrArg (World.drewN _) (Nat.add_assoc _ _ _))⟩)))
   repeat (go_quiet (first | (go_at_call 16; (with_reducible refine (spec_TreeOk.calls k _ _ l0 true _ ?side1 ?side2 A8.out).mono ?_); (case side1 => exact z8_); (case side2 => exact HC0.out); rintro e w11 ⟨rfl, hb⟩; replace HO618 := Aside0.mk (Kd.R_below z81_ hb); replace HO621 := Aside0.mk (Kd.R_below z100_ hb); replace HB := Aside0.mk (below_step z0_ hb); (try clear hb)) | (go_at_call 47; (with_reducible refine (spec_l10IsA.calls k _ _ l1 0 t623 _ ?side1 ?side2 A10.out).mono ?_); (case side1 => exact z24_); (case side2 => exact HC1.out); rintro e w' ⟨rfl, ⟨nd, rfl⟩⟩; (try first | exact ⟨rfl, _, World.drewN_drewN _ _ _⟩ | exact ⟨rfl, _, Eq.trans (World.drewN_drewN _ _ _) (congrArg (World.drewN _) (Nat.add_assoc _ _ _))⟩))); try go_wp2_with (first | (go_at_call 16; (with_reducible refine (spec_TreeOk.calls k _ _ l0 true _ ?side1 ?side2 A8.out).mono ?_); (case side1 => exact z8_); (case side2 => exact HC0.out); rintro e w11 ⟨rfl, hb⟩; replace HO618 := Aside0.mk (Kd.R_below z81_ hb); replace HO621 := Aside0.mk (Kd.R_below z100_ hb); replace HB := Aside0.mk (below_step z0_ hb); (try clear hb)) | (go_at_call 47; (with_reducible refine (spec_l10IsA.calls k _ _ l1 0 t623 _ ?side1 ?side2 A10.out).mono ?_); (case side1 => exact z24_); (case side2 => exact HC1.out); rintro e w' ⟨rfl, ⟨nd, rfl⟩⟩; (try first | exact ⟨rfl, _, World.drewN_drewN _ _ _⟩ | exact ⟨rfl, _, Eq.trans (World.drewN_drewN _ _ _) (congrArg (World.drewN _) (Nat.add_assoc _ _ _))⟩))))
   go_meet
   case rel => exact ⟨_, (!t623), z9_, H', ⟨z185_⟩, ⟨z81_⟩, ⟨z100_⟩, ⟨z0_⟩⟩
  ·replace c9 := Bool.eq_false_iff.mpr c9
   subst c9
   replace H := iff_ H
   have H' := Aside0.mk H
   clear H
   go_wp2_with (first | (go_at_call 16; (with_reducible refine (spec_TreeOk.calls k _ _ l0 false _ ?side1 ?side2 A8.out).mono ?_); (case side1 => exact z8_); (case side2 => exact HC0.out); rintro e w12 ⟨rfl, hb⟩; replace HO618 := Aside0.mk (Kd.R_below z81_ hb); replace HO621 := Aside0.mk (Kd.R_below z100_ hb); replace HB := Aside0.mk (below_step z0_ hb); (try clear hb)))
   repeat (go_quiet (first | (go_at_call 16; (with_reducible refine (spec_TreeOk.calls k _ _ l0 false _ ?side1 ?side2 A8.out).mono ?_); (case side1 => exact z8_); (case side2 => exact HC0.out); rintro e w12 ⟨rfl, hb⟩; replace HO618 := Aside0.mk (Kd.R_below z81_ hb); replace HO621 := Aside0.mk (Kd.R_below z100_ hb); replace HB := Aside0.mk (below_step z0_ hb); (try clear hb))); try go_wp2_with (first | (go_at_call 16; (with_reducible refine (spec_TreeOk.calls k _ _ l0 false _ ?side1 ?side2 A8.out).mono ?_); (case side1 => exact z8_); (case side2 => exact HC0.out); rintro e w12 ⟨rfl, hb⟩; replace HO618 := Aside0.mk (Kd.R_below z81_ hb); replace HO621 := Aside0.mk (Kd.R_below z100_ hb); replace HB := Aside0.mk (below_step z0_ hb); (try clear hb))))
   go_meet
   case rel => exact ⟨_, (true), z9_, H', ⟨z185_⟩, ⟨z81_⟩, ⟨z100_⟩, ⟨z0_⟩⟩
 case rest =>
  clear HC5
  try clear c1
  try clear p2
  try clear c9
  obtain ⟨kq, x23_4, rfl, HA, HJ4, HO_5, HO_6, HB⟩ := hcut
  cases kq with
  | zero => exact absurd HA.out (by simp [spec_Kept.j0])
  | succ kj4 =>
   have H := HA.out
   clear HA
   simp only [spec_Kept.j0] at H
   by_cases c13 : x23_4 = true
   ·subst c13
    replace H := ift_ H
    first | ((with_reducible have hz_ := gy_ H); obtain ⟨y624, Ny624, H⟩ := hz_) | (generalize hy_ : ((([] : List (S45))) : List (S45)) = y624 at H; have Ny624 := Aside0.mk hy_.symm; clear hy_)
    obtain rfl := Option.some.inj H
    go_wp2_with (first | ((with_reducible refine gate_dst (N := 24) rfl ?_); refine Kd.R_lit k45 _ 45 ?hg (N := 24) ?hd (xs := ([] : List (S45))) (inner := []) (ok := fun _ => True) (okp := fun _ => True) ?hr ?hp (fun _ hk => hk) trivial (Below.refl _ _) (Nat.le_refl _) (by simp) ?_; (case hd => rfl); (case hg => rfl); (case hr => exact z26_); (case hp => exact z162_); intro v625 w14 ho15 hb hg_ hnew_; clear hg_ hnew_; (first | rw [← Ny624.out] at ho15 | (simp only [Int.reduceToNat] at ho15; rw [← Ny624.out] at ho15)); replace HO_6 := Aside0.mk (Kd.R_below z23_ hb); have HO626 := Aside0.mk (Kd.R_lower (Kd.R_new' ho15 (Kd.R_lt z5_)) (below_size z0_)); replace HO_5 := Aside0.mk (Kd.R_elder' z5_ (Kd.R_base ho15) hb); replace HB := Aside0.mk (below_step z0_ hb); clear hb ho15))
    repeat (go_quiet (first | ((with_reducible refine gate_dst (N := 24) rfl ?_); refine Kd.R_lit k45 _ 45 ?hg (N := 24) ?hd (xs := ([] : List (S45))) (inner := []) (ok := fun _ => True) (okp := fun _ => True) ?hr ?hp (fun _ hk => hk) trivial (Below.refl _ _) (Nat.le_refl _) (by simp) ?_; (case hd => rfl); (case hg => rfl); (case hr => exact z26_); (case hp => exact z162_); intro v625 w14 ho15 hb hg_ hnew_; clear hg_ hnew_; (first | rw [← Ny624.out] at ho15 | (simp only [Int.reduceToNat] at ho15; rw [← Ny624.out] at ho15)); replace HO_6 := Aside0.mk (Kd.R_below z23_ hb); have HO626 := Aside0.mk (Kd.R_lower (Kd.R_new' ho15 (Kd.R_lt z5_)) (below_size z0_)); replace HO_5 := Aside0.mk (Kd.R_elder' z5_ (Kd.R_base ho15) hb); replace HB := Aside0.mk (below_step z0_ hb); clear hb ho15)); try go_wp2_with (first | ((with_reducible refine gate_dst (N := 24) rfl ?_); refine Kd.R_lit k45 _ 45 ?hg (N := 24) ?hd (xs := ([] : List (S45))) (inner := []) (ok := fun _ => True) (okp := fun _ => True) ?hr ?hp (fun _ hk => hk) trivial (Below.refl _ _) (Nat.le_refl _) (by simp) ?_; (case hd => rfl); (case hg => rfl); (case hr => exact z26_); (case hp => exact z162_); intro v625 w14 ho15 hb hg_ hnew_; clear hg_ hnew_; (first | rw [← Ny624.out] at ho15 | (simp only [Int.reduceToNat] at ho15; rw [← Ny624.out] at ho15)); replace HO_6 := Aside0.mk (Kd.R_below z23_ hb); have HO626 := Aside0.mk (Kd.R_lower (Kd.R_new' ho15 (Kd.R_lt z5_)) (below_size z0_)); replace HO_5 := Aside0.mk (Kd.R_elder' z5_ (Kd.R_base ho15) hb); replace HB := Aside0.mk (below_step z0_ hb); clear hb ho15)))
    go_ret
    exact ⟨_, z7_, by (with_reducible repeat (first | apply Kd.R_alloc | apply Kd.R_drewN | apply Kd.R_drew)); exact Kd.R_mono HO626.out (fun _ hk => trivial), z0_⟩
   ·replace c13 := Bool.eq_false_iff.mpr c13
    subst c13
    replace H := iff_ H
    have H' := Aside0.mk H
    clear H
    obtain ⟨Ao16, co16, eo16⟩ := Kd.R_slice HO_6.out
    subst eo16
    go_wp2
    repeat (go_quiet (fail); try go_wp2)
    go_loopg [7] kj4 (fun kq v7 w' => ∃ (x5_2 : List (S45)) (x7_2 : Int), v7 = .int .i64 x7_2 ∧ Aside0 (spec_Kept.l0 kq l0 l1 x5_2 t619 x7_2 = some r) ∧ Aside0 (kq ≤ kj4) ∧ Aside0 (Kd.R k45 45 w' w.heap.size (fun _ => True) v617 x5_2) ∧ Aside0 (Kd.R (Kd.int .i64) 3 w' w.heap.size (fun _ => True) (.slice Ao16 t619.length co16) t619) ∧ Aside0 (Below w.heap.size w w'))
    case atStart => exact ⟨(t616), (wrap64 ((t619.length : Int) - 1)), z9_, H', ⟨Nat.le_refl _⟩, ⟨z5_⟩, ⟨z23_⟩, ⟨z0_⟩⟩
    case round =>
     clear H'
     try clear c1
     try clear p2
     try clear p6
     try clear c9
     try clear c13
     try clear c15
     try clear p2
     obtain ⟨x5_2, x7_2, rfl, HA, HK2, HO_5, HO_6, HB⟩ := hrel
     cases gk with
     | zero => exact absurd HA.out (by simp [spec_Kept.l0])
     | succ k2 =>
      have H := HA.out
      clear HA
      simp only [spec_Kept.l0] at H
      by_cases c17 : x7_2 ≥ 0
      ·rw [if_pos c17] at H
       have c17b0 := decide_eq_true c17
       clear c17
       have H' := Aside0.mk H
       clear H
       go_wp2
       repeat (go_quiet (fail); try go_wp2)
       go_loopg [8] k2 (fun kq v8 w' => ∃ (x5_3 : List (S45)) (x8_3 : Int), v8 = .int .i64 x8_3 ∧ Aside0 (spec_Kept.l1 kq l0 l1 x5_3 t619 x7_2 x8_3 = some r) ∧ Aside0 (kq ≤ k2) ∧ Aside0 (Kd.R k45 45 w' w.heap.size (fun _ => True) v617 x5_3) ∧ Aside0 (Kd.R (Kd.int .i64) 3 w' w.heap.size (fun _ => True) (.slice Ao16 t619.length co16) t619) ∧ Aside0 (Below w.heap.size w w'))
       case atStart => exact ⟨(x5_2), (wrap64 ((l0.length : Int) - 1)), z9_, H', ⟨Nat.le_refl _⟩, ⟨z5_⟩, ⟨z23_⟩, ⟨z0_⟩⟩
       case round =>
        clear H'
        try clear c1
        try clear p2
        try clear p6
        try clear c9
        try clear c13
        try clear c15
        try clear c17
        try clear c17b0
        try clear p2
        try clear p6
        obtain ⟨x5_3, x8_3, rfl, HA, HK3, HO_5, HO_6, HB⟩ := hrel
        cases gk with
        | zero => exact absurd HA.out (by simp [spec_Kept.l1])
        | succ k3 =>
         have H := HA.out
         clear HA
         simp only [spec_Kept.l1] at H
         by_cases c18 : x8_3 ≥ 1
         ·rw [if_pos c18] at H
          have c18b0 := decide_eq_true c18
          clear c18
          have HC19 := Aside0.mk H
          clear H
          go_upto_region 11 with (fail)
          repeat (go_quiet (fail); go_upto_region 11 with (fail))
          go_cut [50] (fun v50 wc => ∃ (kq : Nat) (x50_18 : Bool), v50 = .bool x50_18 ∧ Aside0 (spec_Kept.j3 kq l0 l1 x5_3 t619 x7_2 x8_3 x50_18 = some r) ∧ Aside0 (kq ≤ k3) ∧ Aside0 (Kd.R k45 45 wc w.heap.size (fun _ => True) v617 x5_3) ∧ Aside0 (Kd.R (Kd.int .i64) 3 wc w.heap.size (fun _ => True) (.slice Ao16 t619.length co16) t619) ∧ Aside0 (Below w.heap.size w wc))
          case first =>
           have H := HC19.out
           clear HC19
           obtain ⟨c20b0, H⟩ := ifd_ H
           (first | rw [c20b0] | rw [c20b1] | (simp only [i64_w, i32_w]; rw [c20b0]) | skip)
           obtain ⟨c21b0, H⟩ := ifd_ H
           by_cases c22 : (rd t619 x7_2) = x8_3
           ·rw [if_pos c22] at H
            have c22b0 : ((rd t619 x7_2) == x8_3) = true := beq_iff_eq.mpr c22
            have c22b1 : ((rd t619 x7_2) != x8_3) = false := bne_eq_false_iff_eq.mpr c22
            clear c22
            obtain ⟨t628, A23, H⟩ := bnd_ H
            have H' := Aside0.mk H
            clear H
            have p627 : 0 ≤ (x7_2 : Int) := odt_
            have q627 : x7_2 < (t619.length : Int) := odt_
            obtain ⟨ad627, e627, hx627_0⟩ := Kd.at_int (Kd.R_reads' HO_6.out).2.2 x7_2 p627 q627
            cases e627
            replace p627 := eq_true p627
            replace q627 := eq_true q627
            go_wp2_with (first | (go_at_call 47; (with_reducible refine (spec_l10IsA.calls k3 _ _ l1 x8_3 t628 _ ?side1 ?side2 A23.out).mono ?_); (case side1 => exact z24_); (case side2 => exact HC1.out); rintro e w' ⟨rfl, ⟨nd, rfl⟩⟩; (try first | exact ⟨rfl, _, World.drewN_drewN _ _ _⟩ | exact ⟨rfl, _, Eq.trans (World.drewN_drewN _ _ _) (congrArg (World.drewN _) (Nat.add_assoc _ _ _))⟩)))
            repeat (go_quiet (first | (go_at_call 47; (with_reducible refine (spec_l10IsA.calls k3 _ _ l1 x8_3 t628 _ ?side1 ?side2 A23.out).mono ?_); (case side1 => exact z24_); (case side2 => exact HC1.out); rintro e w' ⟨rfl, ⟨nd, rfl⟩⟩; (try first | exact ⟨rfl, _, World.drewN_drewN _ _ _⟩ | exact ⟨rfl, _, Eq.trans (World.drewN_drewN _ _ _) (congrArg (World.drewN _) (Nat.add_assoc _ _ _))⟩))); try go_wp2_with (first | (go_at_call 47; (with_reducible refine (spec_l10IsA.calls k3 _ _ l1 x8_3 t628 _ ?side1 ?side2 A23.out).mono ?_); (case side1 => exact z24_); (case side2 => exact HC1.out); rintro e w' ⟨rfl, ⟨nd, rfl⟩⟩; (try first | exact ⟨rfl, _, World.drewN_drewN _ _ _⟩ | exact ⟨rfl, _, Eq.trans (World.drewN_drewN _ _ _) (congrArg (World.drewN _) (Nat.add_assoc _ _ _))⟩))))
            go_meet
            case rel => exact ⟨_, (!t628), z9_, H', ⟨z213_⟩, ⟨z5_⟩, ⟨z23_⟩, ⟨z0_⟩⟩
           ·rw [if_neg c22] at H
            have c22b0 : ((rd t619 x7_2) == x8_3) = false := beq_eq_false_iff_ne.mpr c22
            have c22b1 : ((rd t619 x7_2) != x8_3) = true := bne_iff_ne.mpr c22
            have H' := Aside0.mk H
            clear H
            have p627 : 0 ≤ (x7_2 : Int) := odt_
            have q627 : x7_2 < (t619.length : Int) := odt_
            obtain ⟨ad627, e627, hx627_0⟩ := Kd.at_int (Kd.R_reads' HO_6.out).2.2 x7_2 p627 q627
            cases e627
            replace p627 := eq_true p627
            replace q627 := eq_true q627
            go_wp2
            repeat (go_quiet (fail); try go_wp2)
            go_meet
            case rel => exact ⟨_, (false), z9_, H', ⟨z213_⟩, ⟨z5_⟩, ⟨z23_⟩, ⟨z0_⟩⟩
          case rest =>
           clear HC19
           try clear c1
           try clear c2
           try clear p2
           try clear p6
           try clear q6
           try clear hx6
           try clear c9
           try clear c13
           try clear c15
           try clear c17
           try clear c17b0
           try clear c18
           try clear c18b0
           try clear c20
           try clear c20b0
           try clear c21
           try clear c21b0
           try clear c22
           try clear c22b0
           try clear c22b1
           try clear hx627_0
           try clear p2
           try clear p6
           try clear p627
           try clear q627
           obtain ⟨kq, x50_18, rfl, HA, HJ18, HO_5, HO_6, HB⟩ := hcut
           cases kq with
           | zero => exact absurd HA.out (by simp [spec_Kept.j3])
           | succ kj18 =>
            have H := HA.out
            clear HA
            simp only [spec_Kept.j3] at H
            by_cases c24 : x50_18 = true
            ·subst c24
             replace H := ift_ H
             have H' := Aside0.mk H
             clear H
             go_wp2
             repeat (go_quiet (fail); try go_wp2)
             go_loopg [9] kj18 (fun kq v9 w' => ∃ (x5_5 : List (S45)) (x9_5 : Int), v9 = .int .i64 x9_5 ∧ Aside0 (spec_Kept.l2 kq l0 l1 x5_5 t619 x7_2 x8_3 x9_5 = some r) ∧ Aside0 (kq ≤ kj18) ∧ Aside0 (Kd.R k45 45 w' w.heap.size (fun _ => True) v617 x5_5) ∧ Aside0 (Kd.R (Kd.int .i64) 3 w' w.heap.size (fun _ => True) (.slice Ao16 t619.length co16) t619) ∧ Aside0 (Below w.heap.size w w'))
             case atStart => exact ⟨(x5_3), (wrap64 (x8_3 + 1)), z9_, H', ⟨Nat.le_refl _⟩, ⟨z5_⟩, ⟨z23_⟩, ⟨z0_⟩⟩
             case round =>
              clear H'
              try clear c1
              try clear c2
              try clear p2
              try clear p6
              try clear q6
              try clear hx6
              try clear c9
              try clear c13
              try clear c15
              try clear c17
              try clear c17b0
              try clear c18
              try clear c18b0
              try clear c20
              try clear c20b0
              try clear c21
              try clear c21b0
              try clear c22
              try clear c22b0
              try clear c22b1
              try clear c24
              try clear hx627_0
              try clear p2
              try clear p6
              try clear p627
              try clear q6
              try clear q627
              obtain ⟨x5_5, x9_5, rfl, HA, HK5, HO_5, HO_6, HB⟩ := hrel
              cases gk with
              | zero => exact absurd HA.out (by simp [spec_Kept.l2])
              | succ k5 =>
               have H := HA.out
               clear HA
               simp only [spec_Kept.l2] at H
               by_cases c25 : x9_5 < (l0.length : Int)
               ·rw [if_pos c25] at H
                have c25b0 := decide_eq_true c25
                clear c25
                obtain ⟨c26b0, H⟩ := ifd_ H
                obtain ⟨c27b0, H⟩ := ifd_ H
                obtain ⟨c28b0, H⟩ := ifd_ H
                by_cases c29 : ((rd_T45 l0 x9_5).f1) > ((rd_T45 l0 x8_3).f1)
                ·rw [if_pos c29] at H
                 have c29b0 := decide_eq_true c29
                 clear c29
                 obtain ⟨c30b0, H⟩ := ifd_ H
                 first | ((with_reducible have hz_ := gy_ H); obtain ⟨y632, Ny632, H⟩ := hz_) | (generalize hy_ : ((x5_5.set (x9_5 : Int).toNat (⟨(rd_T45 x5_5 x9_5).f0, wrap64 (((rd_T45 x5_5 x9_5).f1) - 1)⟩ : S45)) : List (S45)) = y632 at H; have Ny632 := Aside0.mk hy_.symm; clear hy_)
                 have H' := Aside0.mk H
                 clear H
                 obtain ⟨p629, q629, ad629, e629, hx629_0, hx629_1⟩ := atb45_ HR0 HB x9_5
                 cases e629
                 obtain ⟨p630, q630, ad630, e630, hx630_0, hx630_1⟩ := atb45_ HR0 HB x8_3
                 obtain rfl : ad629 = ad630 := (by injection e630)
                 obtain ⟨Ao32, co32, eo32⟩ := Kd.R_slice HO_5.out
                 subst eo32
                 have p631 : 0 ≤ (x9_5 : Int) := odt_
                 have q631 : x9_5 < (x5_5.length : Int) := odt_
                 obtain ⟨ad631, e631, hx631_0, hx631_1⟩ := at_T45 (Kd.R_reads' HO_5.out).2.2 x9_5 p631 q631
                 cases e631
                 replace p631 := eq_true p631
                 replace q631 := eq_true q631
                 have p31 : 0 ≤ (x9_5 : Int) := odt_
                 have q31 : (x9_5 : Int) < ((x5_5.length : Int) : Int) := odt_
                 obtain ⟨go31, co31, eo31, gb31, gl31, cl31, HG31⟩ := Kd.R_form HO_5.out (by omega)
                 (first | cases eo31 | (injection eo31 with ea_ en_ ec_; (first | subst ea_ | (injection ea_ with ea_; subst ea_)); subst ec_; clear en_))
                 have GB31 := Aside0.mk gb31
                 have GG31 := Aside0.mk HG31
                 clear gb31 gl31 HG31
                 (first | simp only [add_plain] at hx631_0 | skip)
                 (first | simp only [add_plain] at hx631_1 | skip)
                 obtain ⟨ce31, hcl31, hM31, hcc31, hfr31⟩ := Kd.R_elem HO_5.out z45 (x9_5 : Int) p31 q31
                 obtain rfl := k45_openM hM31
                 have hx31_0 : wr.cell? ⟨go31, (x9_5 : Int).toNat * 2, none⟩ = some (.int .i64 ((rd_T45 x5_5 x9_5).f0)) := hcc31 0 _ rfl
                 have hx31_1 : wr.cell? ⟨go31, (x9_5 : Int).toNat * 2 + 1, none⟩ = some (.int .i64 ((rd_T45 x5_5 x9_5).f1)) := hcc31 1 _ rfl
                 have hf31_0 : wr.frozen? ⟨go31, (x9_5 : Int).toNat * 2, none⟩ = false := hfr31 0
                 have hf31_1 : wr.frozen? ⟨go31, (x9_5 : Int).toNat * 2 + 1, none⟩ = false := hfr31 1
                 clear hcl31 hcc31 hfr31 hM31
                 replace p31 := eq_true p31
                 replace q31 := eq_true q31
                 have HX33 := Aside0.mk (show Kd.R k45 45 wr w.heap.size (fun _ => True) (.slice (some ⟨go31, 0, none⟩) x5_5.length co32) x5_5 from z5_)
                 obtain ⟨ce33, hcl33, hM33, hcc33, hfr33⟩ := Kd.R_elem HX33.out z45 (x9_5 : Int) (odt_) (by have h_ : (x9_5 : Int) < ((x5_5.length : Int) : Int) := odt_; first | exact h_ | (have e_ := (Kd.R_reads' HO_5.out).1; omega) | simpa using h_)
                 obtain rfl := k45_openM hM33
                 have HP33 := Kd.R_seg HX33.out (x9_5 : Int) (odt_) (by have h_ : (x9_5 : Int) < ((x5_5.length : Int) : Int) := odt_; first | exact h_ | (have e_ := (Kd.R_reads' HO_5.out).1; omega) | simpa using h_) (seg := [.int .i64 (wrap64 (((rd_T45 x5_5 x9_5).f1) - 1))]) (j := 1) hcl33 hcc33 (show 2 ≤ 2 from by decide) (x' := (⟨(rd_T45 x5_5 x9_5).f0, wrap64 (((rd_T45 x5_5 x9_5).f1) - 1)⟩ : S45)) (k45_mkM _ _ _ (⟨(rd_T45 x5_5 x9_5).f0, wrap64 (((rd_T45 x5_5 x9_5).f1) - 1)⟩ : S45) ) (fun _ hk => hk)
                 have hx33_1 := hcc33 1 _ rfl
                 (try simp only [show (k45).sz = 2 from rfl, Nat.mul_one, Nat.add_zero] at hx33_1)
                 have hf33_1 := hfr33 1
                 (try simp only [show (k45).sz = 2 from rfl, Nat.mul_one, Nat.add_zero] at hf33_1)
                 clear hcl33 hcc33 hfr33 hM33
                 go_wp2_with (first | ((with_reducible refine gate_store (t := 3) (p := 79) rfl ?_); (try (rw [drewN_self wr]; generalize hq_ : World.drewN wr _ = wr; have n0_ := Aside0.mk (Kd.R_at hq_ HO_5.out); have n1_ := Aside0.mk (Kd.R_at hq_ HO_6.out); have n2_ := Aside0.mk (below_at hq_ HB.out); clear hq_ HO_5 HO_6 HB; have HO_5 := n0_; have HO_6 := n1_; have HB := n2_; clear n0_ n1_ n2_; (try (have HX33 := Aside0.mk (show Kd.R k45 45 wr w.heap.size (fun _ => True) (.slice (some ⟨go31, 0, none⟩) x5_5.length co32) x5_5 from z5_))); (try (obtain ⟨ce33, hcl33, hM33, hcc33, hfr33⟩ := Kd.R_elem HX33.out z45 (x9_5 : Int) (odt_) (by have h_ : (x9_5 : Int) < ((x5_5.length : Int) : Int) := odt_; first | exact h_ | (have e_ := (Kd.R_reads' HO_5.out).1; omega) | simpa using h_))); (try (obtain rfl := k45_openM hM33)); (try (have HP33 := Kd.R_seg HX33.out (x9_5 : Int) (odt_) (by have h_ : (x9_5 : Int) < ((x5_5.length : Int) : Int) := odt_; first | exact h_ | (have e_ := (Kd.R_reads' HO_5.out).1; omega) | simpa using h_) (seg := [.int .i64 (wrap64 (((rd_T45 x5_5 x9_5).f1) - 1))]) (j := 1) hcl33 hcc33 (show 2 ≤ 2 from by decide) (x' := (⟨(rd_T45 x5_5 x9_5).f0, wrap64 (((rd_T45 x5_5 x9_5).f1) - 1)⟩ : S45)) (k45_mkM _ _ _ (⟨(rd_T45 x5_5 x9_5).f0, wrap64 (((rd_T45 x5_5 x9_5).f1) - 1)⟩ : S45) ) (fun _ hk => hk))); (try (have hx33_1 := hcc33 1 _ rfl)); (try (try simp only [show (k45).sz = 2 from rfl, Nat.mul_one, Nat.add_zero] at hx33_1)); (try (have hf33_1 := hfr33 1)); (try (try simp only [show (k45).sz = 2 from rfl, Nat.mul_one, Nat.add_zero] at hf33_1)); (try (clear hcl33 hcc33 hfr33 hM33)))); refine store_event (t := 3) (p := 79) (v := ?vo_w34) (w1 := (wr.setCell ⟨go31, (x9_5 : Int).toNat * 2 + 1, none⟩ (.int .i64 (wrap64 (((rd_T45 x5_5 x9_5).f1) - 1))))) ?hg ?ho ?hn ?hr ?_; (case ho => rfl); (case hg => rfl); (case hn => rfl); (case hr => exact z26_); intro w34 hw; have hg : wr.grownBy w34 (some go31) := (by rw [hw]; exact HP33.2); have hp_ : Kd.R k45 45 w34 w.heap.size (fun _ => True) (.slice (some ⟨go31, 0, none⟩) x5_5.length co32) y632 := (by rw [hw, Ny632.out]; exact HP33.1); clear HP33; replace HO_6 := Aside0.mk (Kd.R_over' (v := (.slice (some ⟨go31, 0, none⟩) x5_5.length co32)) z23_ (Kd.R_typed HO_5.out) (by decide) hg); replace HO_5 := Aside0.mk (hp_); replace HB := Aside0.mk ((by rw [hw]; exact below_set (HB.out) GB31.out : Below w.heap.size w w34)); clear hg hw hp_))
                 repeat (go_quiet (first | ((with_reducible refine gate_store (t := 3) (p := 79) rfl ?_); (try (rw [drewN_self wr]; generalize hq_ : World.drewN wr _ = wr; have n0_ := Aside0.mk (Kd.R_at hq_ HO_5.out); have n1_ := Aside0.mk (Kd.R_at hq_ HO_6.out); have n2_ := Aside0.mk (below_at hq_ HB.out); clear hq_ HO_5 HO_6 HB; have HO_5 := n0_; have HO_6 := n1_; have HB := n2_; clear n0_ n1_ n2_; (try (have HX33 := Aside0.mk (show Kd.R k45 45 wr w.heap.size (fun _ => True) (.slice (some ⟨go31, 0, none⟩) x5_5.length co32) x5_5 from z5_))); (try (obtain ⟨ce33, hcl33, hM33, hcc33, hfr33⟩ := Kd.R_elem HX33.out z45 (x9_5 : Int) (odt_) (by have h_ : (x9_5 : Int) < ((x5_5.length : Int) : Int) := odt_; first | exact h_ | (have e_ := (Kd.R_reads' HO_5.out).1; omega) | simpa using h_))); (try (obtain rfl := k45_openM hM33)); (try (have HP33 := Kd.R_seg HX33.out (x9_5 : Int) (odt_) (by have h_ : (x9_5 : Int) < ((x5_5.length : Int) : Int) := odt_; first | exact h_ | (have e_ := (Kd.R_reads' HO_5.out).1; omega) | simpa using h_) (seg := [.int .i64 (wrap64 (((rd_T45 x5_5 x9_5).f1) - 1))]) (j := 1) hcl33 hcc33 (show 2 ≤ 2 from by decide) (x' := (⟨(rd_T45 x5_5 x9_5).f0, wrap64 (((rd_T45 x5_5 x9_5).f1) - 1)⟩ : S45)) (k45_mkM _ _ _ (⟨(rd_T45 x5_5 x9_5).f0, wrap64 (((rd_T45 x5_5 x9_5).f1) - 1)⟩ : S45) ) (fun _ hk => hk))); (try (have hx33_1 := hcc33 1 _ rfl)); (try (try simp only [show (k45).sz = 2 from rfl, Nat.mul_one, Nat.add_zero] at hx33_1)); (try (have hf33_1 := hfr33 1)); (try (try simp only [show (k45).sz = 2 from rfl, Nat.mul_one, Nat.add_zero] at hf33_1)); (try (clear hcl33 hcc33 hfr33 hM33)))); refine store_event (t := 3) (p := 79) (v := ?vo_w34) (w1 := (wr.setCell ⟨go31, (x9_5 : Int).toNat * 2 + 1, none⟩ (.int .i64 (wrap64 (((rd_T45 x5_5 x9_5).f1) - 1))))) ?hg ?ho ?hn ?hr ?_; (case ho => rfl); (case hg => rfl); (case hn => rfl); (case hr => exact z26_); intro w34 hw; have hg : wr.grownBy w34 (some go31) := (by rw [hw]; exact HP33.2); have hp_ : Kd.R k45 45 w34 w.heap.size (fun _ => True) (.slice (some ⟨go31, 0, none⟩) x5_5.length co32) y632 := (by rw [hw, Ny632.out]; exact HP33.1); clear HP33; replace HO_6 := Aside0.mk (Kd.R_over' (v := (.slice (some ⟨go31, 0, none⟩) x5_5.length co32)) z23_ (Kd.R_typed HO_5.out) (by decide) hg); replace HO_5 := Aside0.mk (hp_); replace HB := Aside0.mk ((by rw [hw]; exact below_set (HB.out) GB31.out : Below w.heap.size w w34)); clear hg hw hp_)); try go_wp2_with (first | ((with_reducible refine gate_store (t := 3) (p := 79) rfl ?_); (try (rw [drewN_self wr]; generalize hq_ : World.drewN wr _ = wr; have n0_ := Aside0.mk (Kd.R_at hq_ HO_5.out); have n1_ := Aside0.mk (Kd.R_at hq_ HO_6.out); have n2_ := Aside0.mk (below_at hq_ HB.out); clear hq_ HO_5 HO_6 HB; have HO_5 := n0_; have HO_6 := n1_; have HB := n2_; clear n0_ n1_ n2_; (try (have HX33 := Aside0.mk (show Kd.R k45 45 wr w.heap.size (fun _ => True) (.slice (some ⟨go31, 0, none⟩) x5_5.length co32) x5_5 from z5_))); (try (obtain ⟨ce33, hcl33, hM33, hcc33, hfr33⟩ := Kd.R_elem HX33.out z45 (x9_5 : Int) (odt_) (by have h_ : (x9_5 : Int) < ((x5_5.length : Int) : Int) := odt_; first | exact h_ | (have e_ := (Kd.R_reads' HO_5.out).1; omega) | simpa using h_))); (try (obtain rfl := k45_openM hM33)); (try (have HP33 := Kd.R_seg HX33.out (x9_5 : Int) (odt_) (by have h_ : (x9_5 : Int) < ((x5_5.length : Int) : Int) := odt_; first | exact h_ | (have e_ := (Kd.R_reads' HO_5.out).1; omega) | simpa using h_) (seg := [.int .i64 (wrap64 (((rd_T45 x5_5 x9_5).f1) - 1))]) (j := 1) hcl33 hcc33 (show 2 ≤ 2 from by decide) (x' := (⟨(rd_T45 x5_5 x9_5).f0, wrap64 (((rd_T45 x5_5 x9_5).f1) - 1)⟩ : S45)) (k45_mkM _ _ _ (⟨(rd_T45 x5_5 x9_5).f0, wrap64 (((rd_T45 x5_5 x9_5).f1) - 1)⟩ : S45) ) (fun _ hk => hk))); (try (have hx33_1 := hcc33 1 _ rfl)); (try (try simp only [show (k45).sz = 2 from rfl, Nat.mul_one, Nat.add_zero] at hx33_1)); (try (have hf33_1 := hfr33 1)); (try (try simp only [show (k45).sz = 2 from rfl, Nat.mul_one, Nat.add_zero] at hf33_1)); (try (clear hcl33 hcc33 hfr33 hM33)))); refine store_event (t := 3) (p := 79) (v := ?vo_w34) (w1 := (wr.setCell ⟨go31, (x9_5 : Int).toNat * 2 + 1, none⟩ (.int .i64 (wrap64 (((rd_T45 x5_5 x9_5).f1) - 1))))) ?hg ?ho ?hn ?hr ?_; (case ho => rfl); (case hg => rfl); (case hn => rfl); (case hr => exact z26_); intro w34 hw; have hg : wr.grownBy w34 (some go31) := (by rw [hw]; exact HP33.2); have hp_ : Kd.R k45 45 w34 w.heap.size (fun _ => True) (.slice (some ⟨go31, 0, none⟩) x5_5.length co32) y632 := (by rw [hw, Ny632.out]; exact HP33.1); clear HP33; replace HO_6 := Aside0.mk (Kd.R_over' (v := (.slice (some ⟨go31, 0, none⟩) x5_5.length co32)) z23_ (Kd.R_typed HO_5.out) (by decide) hg); replace HO_5 := Aside0.mk (hp_); replace HB := Aside0.mk ((by rw [hw]; exact below_set (HB.out) GB31.out : Below w.heap.size w w34)); clear hg hw hp_)))
                 go_roundg k5
                 case measure => have := HJ4.out; have := HK2.out; have := HK3.out; have := HJ18.out; have := HK5.out; omega
                 case rel => exact ⟨(y632), (wrap64 (x9_5 + 1)), z9_, H', ⟨z186_⟩, ⟨z5_⟩, ⟨z23_⟩, ⟨z0_⟩⟩
                ·rw [if_neg c29] at H
                 have c29b0 := decide_eq_false c29
                 clear c29
                 have H' := Aside0.mk H
                 clear H
                 obtain ⟨p629, q629, ad629, e629, hx629_0, hx629_1⟩ := atb45_ HR0 HB x9_5
                 cases e629
                 obtain ⟨p630, q630, ad630, e630, hx630_0, hx630_1⟩ := atb45_ HR0 HB x8_3
                 obtain rfl : ad629 = ad630 := (by injection e630)
                 go_wp2
                 repeat (go_quiet (fail); try go_wp2)
                 go_roundg k5
                 case measure => have := HJ4.out; have := HK2.out; have := HK3.out; have := HJ18.out; have := HK5.out; omega
                 case rel => exact ⟨(x5_5), (wrap64 (x8_3 - 1)), z9_, H', ⟨z186_⟩, ⟨z5_⟩, ⟨z23_⟩, ⟨z0_⟩⟩
               ·rw [if_neg c25] at H
                have c25b0 := decide_eq_false c25
                clear c25
                have H' := Aside0.mk H
                clear H
                go_wp2
                repeat (go_quiet (fail); try go_wp2)
                go_roundg k5
                case measure => have := HJ4.out; have := HK2.out; have := HK3.out; have := HJ18.out; have := HK5.out; omega
                case rel => exact ⟨(x5_5), (wrap64 (x8_3 - 1)), z9_, H', ⟨z186_⟩, ⟨z5_⟩, ⟨z23_⟩, ⟨z0_⟩⟩
            ·replace c24 := Bool.eq_false_iff.mpr c24
             subst c24
             replace H := iff_ H
             have H' := Aside0.mk H
             clear H
             go_wp2
             repeat (go_quiet (fail); try go_wp2)
             go_roundg kj18
             case measure => have := HJ4.out; have := HK2.out; have := HK3.out; have := HJ18.out; omega
             case rel => exact ⟨(x5_3), (wrap64 (x8_3 - 1)), z9_, H', ⟨by have := HJ4.out; have := HK2.out; have := HK3.out; have := HJ18.out; omega⟩, ⟨z5_⟩, ⟨z23_⟩, ⟨z0_⟩⟩
         ·rw [if_neg c18] at H
          have c18b0 := decide_eq_false c18
          clear c18
          have H' := Aside0.mk H
          clear H
          go_wp2
          repeat (go_quiet (fail); try go_wp2)
          go_roundg k3
          case measure => have := HJ4.out; have := HK2.out; have := HK3.out; omega
          case rel => exact ⟨(x5_3), (wrap64 (x7_2 - 1)), z9_, H', ⟨z215_⟩, ⟨z5_⟩, ⟨z23_⟩, ⟨z0_⟩⟩
      ·rw [if_neg c17] at H
       have c17b0 := decide_eq_false c17
       clear c17
       first | ((with_reducible have hz_ := gy_ H); obtain ⟨y633, Ny633, H⟩ := hz_) | (generalize hy_ : ((([] : List (S45))) : List (S45)) = y633 at H; have Ny633 := Aside0.mk hy_.symm; clear hy_)
       have H' := Aside0.mk H
       clear H
       go_wp2_with (first | ((with_reducible refine gate_dst (N := 82) rfl ?_); refine Kd.R_lit k45 _ 45 ?hg (N := 82) ?hd (xs := ([] : List (S45))) (inner := []) (ok := fun _ => True) (okp := fun _ => True) ?hr ?hp (fun _ hk => hk) trivial (Below.refl _ _) (Nat.le_refl _) (by simp) ?_; (case hd => rfl); (case hg => rfl); (case hr => exact z26_); (case hp => exact z162_); intro v634 w35 ho36 hb hg_ hnew_; clear hg_ hnew_; (first | rw [← Ny633.out] at ho36 | (simp only [Int.reduceToNat] at ho36; rw [← Ny633.out] at ho36)); replace HO_6 := Aside0.mk (Kd.R_below z23_ hb); have HO635 := Aside0.mk (Kd.R_lower (Kd.R_new' ho36 (Kd.R_lt z5_)) (below_size z0_)); replace HO_5 := Aside0.mk (Kd.R_elder' z5_ (Kd.R_base ho36) hb); replace HB := Aside0.mk (below_step z0_ hb); clear hb ho36))
       repeat (go_quiet (first | ((with_reducible refine gate_dst (N := 82) rfl ?_); refine Kd.R_lit k45 _ 45 ?hg (N := 82) ?hd (xs := ([] : List (S45))) (inner := []) (ok := fun _ => True) (okp := fun _ => True) ?hr ?hp (fun _ hk => hk) trivial (Below.refl _ _) (Nat.le_refl _) (by simp) ?_; (case hd => rfl); (case hg => rfl); (case hr => exact z26_); (case hp => exact z162_); intro v634 w35 ho36 hb hg_ hnew_; clear hg_ hnew_; (first | rw [← Ny633.out] at ho36 | (simp only [Int.reduceToNat] at ho36; rw [← Ny633.out] at ho36)); replace HO_6 := Aside0.mk (Kd.R_below z23_ hb); have HO635 := Aside0.mk (Kd.R_lower (Kd.R_new' ho36 (Kd.R_lt z5_)) (below_size z0_)); replace HO_5 := Aside0.mk (Kd.R_elder' z5_ (Kd.R_base ho36) hb); replace HB := Aside0.mk (below_step z0_ hb); clear hb ho36)); try go_wp2_with (first | ((with_reducible refine gate_dst (N := 82) rfl ?_); refine Kd.R_lit k45 _ 45 ?hg (N := 82) ?hd (xs := ([] : List (S45))) (inner := []) (ok := fun _ => True) (okp := fun _ => True) ?hr ?hp (fun _ hk => hk) trivial (Below.refl _ _) (Nat.le_refl _) (by simp) ?_; (case hd => rfl); (case hg => rfl); (case hr => exact z26_); (case hp => exact z162_); intro v634 w35 ho36 hb hg_ hnew_; clear hg_ hnew_; (first | rw [← Ny633.out] at ho36 | (simp only [Int.reduceToNat] at ho36; rw [← Ny633.out] at ho36)); replace HO_6 := Aside0.mk (Kd.R_below z23_ hb); have HO635 := Aside0.mk (Kd.R_lower (Kd.R_new' ho36 (Kd.R_lt z5_)) (below_size z0_)); replace HO_5 := Aside0.mk (Kd.R_elder' z5_ (Kd.R_base ho36) hb); replace HB := Aside0.mk (below_step z0_ hb); clear hb ho36)))
       go_loopg [10, 11] k2 (fun kq v10 v11 w' => ∃ (x10_3 : List (S45)) (x11_3 : Int), v11 = .int .i64 x11_3 ∧ Aside0 (spec_Kept.l3 kq l1 x5_2 x10_3 x11_3 = some r) ∧ Aside0 (kq ≤ k2) ∧ Aside0 (Kd.R k45 45 w' w.heap.size (fun k_ => some k_ ≠ (v10 : Value).ownBlock) v617 x5_2) ∧ Aside0 (Kd.R k45 45 w' w.heap.size (fun k_ => some k_ ≠ (v617 : Value).ownBlock) v10 x10_3) ∧ Aside0 (Below w.heap.size w w'))
       case atStart => exact ⟨(y633), (0), z9_, H', ⟨Nat.le_refl _⟩, ⟨z190_⟩, ⟨by (with_reducible repeat (first | apply Kd.R_alloc | apply Kd.R_drewN | apply Kd.R_drew)); exact Kd.R_mono HO635.out (fun _ hk => hk.2)⟩, ⟨z0_⟩⟩
       case round =>
        clear H'
        try clear c1
        try clear c2
        try clear p2
        try clear c3
        try clear p3
        try clear q3
        try clear hx3
        try clear hf3
        try clear p6
        try clear q6
        try clear hx6
        try clear c9
        try clear c13
        try clear c15
        try clear c17
        try clear c17b0
        try clear c18
        try clear c18b0
        try clear c20
        try clear c20b0
        try clear c21
        try clear c21b0
        try clear c22
        try clear c22b0
        try clear c22b1
        try clear c24
        try clear c25
        try clear c25b0
        try clear c26
        try clear c26b0
        try clear c27
        try clear c27b0
        try clear c28
        try clear c28b0
        try clear c29
        try clear c29b0
        try clear c30
        try clear c30b0
        try clear c31
        try clear p31
        try clear q31
        try clear hx31
        try clear hf31
        try clear c33
        try clear hx33
        try clear hf33
        try clear hx31_0
        try clear hx31_1
        try clear hx33_1
        try clear hx627_0
        try clear hx629_0
        try clear hx629_1
        try clear hx630_0
        try clear hx630_1
        try clear hx631_0
        try clear hx631_1
        try clear p2
        try clear p31
        try clear p6
        try clear p627
        try clear p629
        try clear p630
        try clear p631
        try clear q31
        try clear q6
        try clear q627
        try clear q629
        try clear q630
        try clear q631
        obtain ⟨x10_3, x11_3, rfl, HA, HK3, HO_5, HO_10, HB⟩ := hrel
        cases gk with
        | zero => exact absurd HA.out (by simp [spec_Kept.l3])
        | succ k3 =>
         have H := HA.out
         clear HA
         simp only [spec_Kept.l3] at H
         by_cases c37 : x11_3 < (x5_2.length : Int)
         ·rw [if_pos c37] at H
          have c37b0 := decide_eq_true c37
          clear c37
          obtain ⟨t636, A38, H⟩ := bnd_ H
          by_cases c39 : t636 = true
          ·subst c39
           replace H := ift_ H
           obtain ⟨c40b0, H⟩ := ifd_ H
           obtain ⟨c41, H⟩ := ifs_ H
           have LMc41 := Aside0.mk c41
           clear c41
           first | ((with_reducible have hz_ := gy_ H); obtain ⟨y638, Ny638, H⟩ := hz_) | (generalize hy_ : ((x10_3 ++ [(⟨(rd_T45 x5_2 x11_3).f0, (rd_T45 x5_2 x11_3).f1⟩ : S45)]) : List (S45)) = y638 at H; have Ny638 := Aside0.mk hy_.symm; clear hy_)
           have H' := Aside0.mk H
           clear H
           obtain ⟨Ao42, co42, eo42⟩ := Kd.R_slice HO_5.out
           subst eo42
           go_wp2_with (first | (go_at_call 47; (with_reducible refine (spec_l10IsA.calls k3 _ _ l1 x11_3 true _ ?side1 ?side2 A38.out).mono ?_); (case side1 => exact z24_); (case side2 => exact HC1.out); rintro e w' ⟨rfl, ⟨nd, rfl⟩⟩; (try first | exact ⟨rfl, _, World.drewN_drewN _ _ _⟩ | exact ⟨rfl, _, Eq.trans (World.drewN_drewN _ _ _) (congrArg (World.drewN _) (Nat.add_assoc _ _ _))⟩); have p637 : 0 ≤ (x11_3 : Int) := odt_; have q637 : x11_3 < (x5_2.length : Int) := odt_; obtain ⟨ad637, e637, hx637_0, hx637_1⟩ := at_T45 (Kd.R_reads' HO_5.out).2.2 x11_3 p637 q637; cases e637; replace p637 := eq_true p637; replace q637 := eq_true q637) | ((with_reducible refine gate_builtin (b := .append) (xs := #[.tmp 92, .tmp 97]) rfl ?_); at_builtin; refine Kd.R_append k45 (w0 := w) w.heap.size rfl (.tmp 92) (.tmp 97) 30 45 (.agg #[(.int .i64 0), (.int .i64 0)]) 16 rfl Try.underlying30 info45 rfl (by decide) (by omega) u10 x10_3 (⟨(rd_T45 x5_2 x11_3).f0, (rd_T45 x5_2 x11_3).f1⟩ : S45) [.int .i64 ((rd_T45 x5_2 x11_3).f0), .int .i64 ((rd_T45 x5_2 x11_3).f1)] (fun k_ => some k_ ≠ (.slice (some ad637) x5_2.length co42 : Value).ownBlock) (fun _ => False) rfl rfl ?aP (fun _ hk => hk.elim) ?aF ?aO ?aB ?aS ?aL ?_; (case aP => exact z194_); (case aB => exact z72_); (case aF => exact z105_); (case aO => exact z167_); (case aS => exact z67_); (case aL => have := LMc41.out; omega); intro v639 w43 ho hb hg hat; rw [← Ny638.out] at ho; replace HO_5 := Aside0.mk (Kd.R_after (ok := (fun _ => True)) z151_ hg hat); replace HB := Aside0.mk (hb); have HO640 := Aside0.mk (ho); clear HO_10; clear ho hb hg hat))
           repeat (go_quiet (first | (go_at_call 47; (with_reducible refine (spec_l10IsA.calls k3 _ _ l1 x11_3 true _ ?side1 ?side2 A38.out).mono ?_); (case side1 => exact z24_); (case side2 => exact HC1.out); rintro e w' ⟨rfl, ⟨nd, rfl⟩⟩; (try first | exact ⟨rfl, _, World.drewN_drewN _ _ _⟩ | exact ⟨rfl, _, Eq.trans (World.drewN_drewN _ _ _) (congrArg (World.drewN _) (Nat.add_assoc _ _ _))⟩); have p637 : 0 ≤ (x11_3 : Int) := odt_; have q637 : x11_3 < (x5_2.length : Int) := odt_; obtain ⟨ad637, e637, hx637_0, hx637_1⟩ := at_T45 (Kd.R_reads' HO_5.out).2.2 x11_3 p637 q637; cases e637; replace p637 := eq_true p637; replace q637 := eq_true q637) | ((with_reducible refine gate_builtin (b := .append) (xs := #[.tmp 92, .tmp 97]) rfl ?_); at_builtin; refine Kd.R_append k45 (w0 := w) w.heap.size rfl (.tmp 92) (.tmp 97) 30 45 (.agg #[(.int .i64 0), (.int .i64 0)]) 16 rfl Try.underlying30 info45 rfl (by decide) (by omega) u10 x10_3 (⟨(rd_T45 x5_2 x11_3).f0, (rd_T45 x5_2 x11_3).f1⟩ : S45) [.int .i64 ((rd_T45 x5_2 x11_3).f0), .int .i64 ((rd_T45 x5_2 x11_3).f1)] (fun k_ => some k_ ≠ (.slice (some ad637) x5_2.length co42 : Value).ownBlock) (fun _ => False) rfl rfl ?aP (fun _ hk => hk.elim) ?aF ?aO ?aB ?aS ?aL ?_; (case aP => exact z194_); (case aB => exact z72_); (case aF => exact z105_); (case aO => exact z167_); (case aS => exact z67_); (case aL => have := LMc41.out; omega); intro v639 w43 ho hb hg hat; rw [← Ny638.out] at ho; replace HO_5 := Aside0.mk (Kd.R_after (ok := (fun _ => True)) z151_ hg hat); replace HB := Aside0.mk (hb); have HO640 := Aside0.mk (ho); clear HO_10; clear ho hb hg hat)); try go_wp2_with (first | (go_at_call 47; (with_reducible refine (spec_l10IsA.calls k3 _ _ l1 x11_3 true _ ?side1 ?side2 A38.out).mono ?_); (case side1 => exact z24_); (case side2 => exact HC1.out); rintro e w' ⟨rfl, ⟨nd, rfl⟩⟩; (try first | exact ⟨rfl, _, World.drewN_drewN _ _ _⟩ | exact ⟨rfl, _, Eq.trans (World.drewN_drewN _ _ _) (congrArg (World.drewN _) (Nat.add_assoc _ _ _))⟩); have p637 : 0 ≤ (x11_3 : Int) := odt_; have q637 : x11_3 < (x5_2.length : Int) := odt_; obtain ⟨ad637, e637, hx637_0, hx637_1⟩ := at_T45 (Kd.R_reads' HO_5.out).2.2 x11_3 p637 q637; cases e637; replace p637 := eq_true p637; replace q637 := eq_true q637) | ((with_reducible refine gate_builtin (b := .append) (xs := #[.tmp 92, .tmp 97]) rfl ?_); at_builtin; refine Kd.R_append k45 (w0 := w) w.heap.size rfl (.tmp 92) (.tmp 97) 30 45 (.agg #[(.int .i64 0), (.int .i64 0)]) 16 rfl Try.underlying30 info45 rfl (by decide) (by omega) u10 x10_3 (⟨(rd_T45 x5_2 x11_3).f0, (rd_T45 x5_2 x11_3).f1⟩ : S45) [.int .i64 ((rd_T45 x5_2 x11_3).f0), .int .i64 ((rd_T45 x5_2 x11_3).f1)] (fun k_ => some k_ ≠ (.slice (some ad637) x5_2.length co42 : Value).ownBlock) (fun _ => False) rfl rfl ?aP (fun _ hk => hk.elim) ?aF ?aO ?aB ?aS ?aL ?_; (case aP => exact z194_); (case aB => exact z72_); (case aF => exact z105_); (case aO => exact z167_); (case aS => exact z67_); (case aL => have := LMc41.out; omega); intro v639 w43 ho hb hg hat; rw [← Ny638.out] at ho; replace HO_5 := Aside0.mk (Kd.R_after (ok := (fun _ => True)) z151_ hg hat); replace HB := Aside0.mk (hb); have HO640 := Aside0.mk (ho); clear HO_10; clear ho hb hg hat)))
           go_roundg k3
           case measure => have := HJ4.out; have := HK2.out; have := HK3.out; omega
           case rel => exact ⟨(y638), (wrap64 (x11_3 + 1)), z9_, H', ⟨z215_⟩, ⟨z190_⟩, ⟨by (with_reducible repeat (first | apply Kd.R_alloc | apply Kd.R_drewN | apply Kd.R_drew)); exact HO640.out⟩, ⟨z0_⟩⟩
          ·replace c39 := Bool.eq_false_iff.mpr c39
           subst c39
           replace H := iff_ H
           have H' := Aside0.mk H
           clear H
           obtain ⟨Ao44, co44, eo44⟩ := Kd.R_slice HO_5.out
           subst eo44
           go_wp2_with (first | (go_at_call 47; (with_reducible refine (spec_l10IsA.calls k3 _ _ l1 x11_3 false _ ?side1 ?side2 A38.out).mono ?_); (case side1 => exact z24_); (case side2 => exact HC1.out); rintro e w' ⟨rfl, ⟨nd, rfl⟩⟩; (try first | exact ⟨rfl, _, World.drewN_drewN _ _ _⟩ | exact ⟨rfl, _, Eq.trans (World.drewN_drewN _ _ _) (congrArg (World.drewN _) (Nat.add_assoc _ _ _))⟩)))
           repeat (go_quiet (first | (go_at_call 47; (with_reducible refine (spec_l10IsA.calls k3 _ _ l1 x11_3 false _ ?side1 ?side2 A38.out).mono ?_); (case side1 => exact z24_); (case side2 => exact HC1.out); rintro e w' ⟨rfl, ⟨nd, rfl⟩⟩; (try first | exact ⟨rfl, _, World.drewN_drewN _ _ _⟩ | exact ⟨rfl, _, Eq.trans (World.drewN_drewN _ _ _) (congrArg (World.drewN _) (Nat.add_assoc _ _ _))⟩))); try go_wp2_with (first | (go_at_call 47; (with_reducible refine (spec_l10IsA.calls k3 _ _ l1 x11_3 false _ ?side1 ?side2 A38.out).mono ?_); (case side1 => exact z24_); (case side2 => exact HC1.out); rintro e w' ⟨rfl, ⟨nd, rfl⟩⟩; (try first | exact ⟨rfl, _, World.drewN_drewN _ _ _⟩ | exact ⟨rfl, _, Eq.trans (World.drewN_drewN _ _ _) (congrArg (World.drewN _) (Nat.add_assoc _ _ _))⟩))))
           go_roundg k3
           case measure => have := HJ4.out; have := HK2.out; have := HK3.out; omega
           case rel => exact ⟨(x10_3), (wrap64 (x11_3 + 1)), z9_, H', ⟨z215_⟩, ⟨z5_⟩, ⟨z156_⟩, ⟨z0_⟩⟩
         ·rw [if_neg c37] at H
          have c37b0 := decide_eq_false c37
          clear c37
          obtain rfl := Option.some.inj H
          obtain ⟨Ao45, co45, eo45⟩ := Kd.R_slice HO_5.out
          subst eo45
          go_wp2
          repeat (go_quiet (fail); try go_wp2)
          go_ret
          exact ⟨_, z7_, by (with_reducible repeat (first | apply Kd.R_alloc | apply Kd.R_drewN | apply Kd.R_drew)); exact Kd.R_mono HO_10.out (fun _ hk => trivial), z0_⟩

end Go.Proofs.Ytbiffnahknkoiaa.PFnKept
