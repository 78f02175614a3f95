/- Laid by a program of this session out of the kit's print for the law FnKept: what it says of the machine is proved here, function by function; each contract under the conditions that it names. -/
import Derived.Test.YtbiffnahknkoiaaMFnKeptx0
import Derived.Test.YtbiffnahknkoiaaMFnKeptx1
import Derived.Test.YtbiffnahknkoiaaMFnKeptx4
import Derived.Test.YtbiffnahknkoiaaMFnKeptx10
namespace Go.Proofs.Ytbiffnahknkoiaa.PFnKept
open Go.RowKit Go.Proofs.YtbiffnahknkoiaaW.PrintWords Go.Proofs.YtbiffnahknkoiaaW.PrintLast Go.Proofs.YtbiffnahknkoiaaW.PrintMore
attribute [local go_sem] max2_int min2_int max_two min_two max_three min_three max_four min_four   -- for this text's walks alone
set_option linter.unusedVariables false
set_option linter.unusedSimpArgs false

attribute [local go_sem high] eqA47
/-! ### impl_Turned: function 12 -/
def impl_Turned.l0 : Nat → List (S47) → List (S47) → Int → Int → Option ((List (S47)))
 | 0, _, _, _, _ => none
 | k + 1, x3, x7, x8, x9 => if x9 < x8 then (if 0 ≤ x9 then (if x9 < (x7.length : Int) then (if x3.length < 8796093022208 then (impl_Turned.l0 k (x3 ++ [(⟨(rd_T47 x7 x9).f1, (rd_T47 x7 x9).f0⟩ : S47)]) x7 x8 (wrap64 (x9 + 1))) else (none)) else (none)) else (none)) else (some x3)
def impl_Turned.f (k : Nat) (l0 : List (S47)) : Option ((List (S47))) := impl_Turned.l0 k (([] : List (S47))) l0 (l0.length : Int) 0
set_option maxHeartbeats 8000000 in
set_option maxRecDepth 100000 in
theorem impl_Turned.calls (k : Nat) (A0 : Option Addr) (c0 : Nat) (l0 : List (S47)) (r : List (S47)) (w : World) (hr0 : Kd.C k47 w A0 l0.length l0) (hc0 : l0.length ≤ c0) (h : impl_Turned.f k l0 = some r) :
  Calls Try.prog 12 #[.slice A0 l0.length c0] w fun e w' => ∃ v0_ : Value, e = .returned (v0_) ∧ Kd.R k47 47 w' w.heap.size (fun _ => True) v0_ r ∧ Below w.heap.size w w' := by
 have hu47 := Try.underlying47
 have HR0 := Aside0.mk hr0
 have HC0 := Aside0.mk hc0
 clear hr0 hc0
 have HB := Aside0.mk (Below.refl w.heap.size w)
 have H : (impl_Turned.l0 k (([] : List (S47))) l0 (l0.length : Int) 0) = some r := h
 clear h
 first | ((with_reducible have hz_ := gy_ H); obtain ⟨y573, Ny573, H⟩ := hz_) | (generalize hy_ : ((([] : List (S47))) : List (S47)) = y573 at H; have Ny573 := Aside0.mk hy_.symm; clear hy_)
 have H' := Aside0.mk H
 clear H
 go_enter Try.func12, Try.ntmps12
 go_wp2_with (first | ((with_reducible refine gate_dst (N := 6) rfl ?_); refine Kd.R_lit k47 _ 47 ?hg (N := 6) ?hd (xs := ([] : List (S47))) (inner := []) (ok := fun _ => True) (okp := fun _ => True) ?hr ?hp (fun _ hk => hk) trivial (Below.refl _ _) (Nat.le_refl _) (by simp) ?_; (case hd => rfl); (case hg => rfl); (case hr => exact z26_); (case hp => exact z162_); intro v574 w2 ho3 hb hg_ hnew_; clear hg_ hnew_; (first | rw [← Ny573.out] at ho3 | (simp only [Int.reduceToNat] at ho3; rw [← Ny573.out] at ho3)); have HO575 := Aside0.mk (Kd.R_lower ho3 (below_size z0_)); replace HB := Aside0.mk (below_step z0_ hb); clear hb ho3))
 go_loopg [3, 9] k (fun kq v3 v9 w' => ∃ (x3_1 : List (S47)) (x9_1 : Int), v9 = .int .i64 x9_1 ∧ Aside0 (impl_Turned.l0 kq x3_1 l0 (l0.length : Int) x9_1 = some r) ∧ Aside0 (kq ≤ k) ∧ Aside0 (Kd.R k47 47 w' w.heap.size (fun _ => True) v3 x3_1) ∧ Aside0 (Below w.heap.size w w'))
 case atStart => exact ⟨(y573), (0), z9_, H', ⟨Nat.le_refl _⟩, ⟨by (with_reducible repeat (first | apply Kd.R_alloc | apply Kd.R_drewN | apply Kd.R_drew)); exact HO575.out⟩, ⟨z0_⟩⟩
 case round =>
  clear H'
  try clear c1
  try clear p2
  obtain ⟨x3_1, x9_1, rfl, HA, HK1, HO_3, HB⟩ := hrel
  cases gk with
  | zero => exact absurd HA.out (by simp [impl_Turned.l0])
  | succ k1 =>
   have H := HA.out
   clear HA
   simp only [impl_Turned.l0] at H
   by_cases c4 : x9_1 < (l0.length : Int)
   ·rw [if_pos c4] at H
    have c4b0 := decide_eq_true c4
    clear c4
    obtain ⟨c5b0, H⟩ := ifd_ H
    obtain ⟨c6b0, H⟩ := ifd_ H
    obtain ⟨c7, H⟩ := ifs_ H
    have LMc7 := Aside0.mk c7
    clear c7
    first | ((with_reducible have hz_ := gy_ H); obtain ⟨y578, Ny578, H⟩ := hz_) | (generalize hy_ : ((x3_1 ++ [(⟨(rd_T47 l0 x9_1).f1, (rd_T47 l0 x9_1).f0⟩ : S47)]) : List (S47)) = y578 at H; have Ny578 := Aside0.mk hy_.symm; clear hy_)
    have H' := Aside0.mk H
    clear H
    obtain ⟨p576, q576, ad576, e576, hx576_0, hx576_1⟩ := atb47_ HR0 HB x9_1
    cases e576
    go_wp2_with (first | ((with_reducible refine gate_dst (N := 5) rfl ?_); refine box_event ?hg (N := 5) ?hd (cs := #[.int .i64 0, .int .i64 0]) (t := 47) ?hr ?_; (case hd => rfl); (case hg => rfl); (case hr => exact z26_); intro gb577 hg w8 hbox hb; replace HO_3 := Aside0.mk (Kd.R_below (Kd.R_elderB z158_ gb577 (Nat.le_of_eq hg.symm)) hb); have BK577 := Aside0.mk (hbox); have GW577 := Aside0.mk ((by rw [hg]; exact (below_size z0_) : w.heap.size ≤ gb577)); have GE577 := Aside0.mk ((by rw [hg]; exact (below_size z0_) : w.heap.size ≤ gb577)); replace HB := Aside0.mk (below_step z0_ hb); clear hb hbox hg; obtain ⟨hcz9_0, hcz9_1, hfz9_0, hfz9_1⟩ := bx2_ BK577.out) | ((with_reducible refine gate_builtin (b := .append) (xs := #[.tmp 13, .tmp 19]) rfl ?_); at_builtin; refine Kd.R_append k47 (w0 := w) w.heap.size rfl (.tmp 13) (.tmp 19) 34 47 (.agg #[(.int .i64 0), (.int .i64 0)]) 16 rfl Try.underlying34 info47 rfl (by decide) (by omega) u3 x3_1 (⟨(rd_T47 l0 x9_1).f1, (rd_T47 l0 x9_1).f0⟩ : S47) [.int .i64 ((rd_T47 l0 x9_1).f1), .int .i64 ((rd_T47 l0 x9_1).f0)] (fun k_ => k_ ≠ gb577) (fun _ => False) rfl z26_ ?aP (fun _ hk => hk.elim) ?aF ?aO ?aB ?aS ?aL ?_; (case aP => exact k47_mkM _ _ _ (⟨(rd_T47 l0 x9_1).f1, (rd_T47 l0 x9_1).f0⟩ : S47)); (case aB => exact z143_); (case aF => exact (fun k_ hk => Kd.freshB (g := gb577) (o := .cells #[.int .i64 ((rd_T47 l0 x9_1).f0), .int .i64 ((rd_T47 l0 x9_1).f1)] 47 (0, 0)) z91_ k_ hk)); (case aO => exact (by (with_reducible repeat (first | apply Kd.R_alloc | apply Kd.R_drewN | apply Kd.R_drew)); exact Kd.R_mono (Kd.R_far (p := ⟨gb577, 1, none⟩) (Kd.R_far (p := ⟨gb577, 0, none⟩) (Kd.R_mono HO_3.out (fun k_ hk => (⟨hk, hk.2⟩ : _ ∧ k_ ≠ gb577))) (fun _ hk => hk.2) (.int .i64 ((rd_T47 l0 x9_1).f0))) (fun _ hk => hk.2) (.int .i64 ((rd_T47 l0 x9_1).f1))) (fun _ hk => hk.1.2))); (case aS => exact (below_size z143_)); (case aL => have := LMc7.out; omega); intro v579 w10 ho hb hg hat; rw [← Ny578.out] at ho; replace BK577 := Aside0.mk (blk_grown (g := gb577) (o := .cells #[.int .i64 ((rd_T47 l0 x9_1).f0), .int .i64 ((rd_T47 l0 x9_1).f1)] 47 (0, 0)) z91_ hg (Kd.R_away HO_3.out (fun _ hk => hk.2))); replace HB := Aside0.mk (hb); have HO580 := Aside0.mk (ho); clear HO_3; clear ho hb hg hat))
    go_roundg k1
    case measure => have := HK1.out; omega
    case rel => exact ⟨(y578), (wrap64 (x9_1 + 1)), z9_, H', ⟨z140_⟩, ⟨by (with_reducible repeat (first | apply Kd.R_alloc | apply Kd.R_drewN | apply Kd.R_drew)); exact Kd.R_mono HO580.out (fun _ hk => trivial)⟩, ⟨z143_⟩⟩
   ·rw [if_neg c4] at H
    have c4b0 := decide_eq_false c4
    clear c4
    obtain rfl := Option.some.inj H
    go_wp2
    go_ret
    exact ⟨_, z7_, z158_, z0_⟩

/-! ### spec_RootsPaired: function 14 -/
def spec_RootsPaired.f (l0 : List (S47)) : Option (Bool) := if (l0.length : Int) > 0 then (if 0 < (l0.length : Int) then (some (((rd_T47 l0 0).f0) == 0 && (((rd_T47 l0 0).f1) == 0))) else (none)) else (some false)
set_option maxHeartbeats 8000000 in
set_option maxRecDepth 100000 in
theorem spec_RootsPaired.calls (A0 : Option Addr) (c0 : Nat) (l0 : List (S47)) (r : Bool) (w : World) (hr0 : Kd.C k47 w A0 l0.length l0) (hc0 : l0.length ≤ c0) (h : spec_RootsPaired.f l0 = some r) :
  Calls Try.prog 14 #[.slice A0 l0.length c0] w fun e w' => e = .returned (.bool r) ∧ Drawn0 w w' := by
 have hu47 := Try.underlying47
 have HR0 := Aside0.mk hr0
 have HC0 := Aside0.mk hc0
 clear hr0 hc0
 have H : (if (l0.length : Int) > 0 then (if 0 < (l0.length : Int) then (some (((rd_T47 l0 0).f0) == 0 && (((rd_T47 l0 0).f1) == 0))) else (none)) else (some false)) = some r := h
 clear h
 by_cases c2 : (l0.length : Int) > 0
 ·rw [if_pos c2] at H
  have c2b0 := decide_eq_true c2
  have c2b1 : decide (0 < l0.length) = true := decide_eq_true (by omega)
  clear c2
  obtain ⟨c3, H⟩ := ifs_ H
  have c3b0 := decide_eq_true c3
  have c3b1 : decide (0 < l0.length) = true := decide_eq_true (by omega)
  clear c3
  obtain rfl := Option.some.inj H
  have p581 : 0 ≤ (0 : Int) := (by omega)
  have q581 : 0 < (l0.length : Int) := odt_
  obtain ⟨ad581, e581, hx581_0, hx581_1⟩ := at_T47 HR0.out 0 p581 q581
  cases e581
  have qi581 : (0 < l0.length) = True := eq_true (by omega)
  (try rw [show ((0 : Int)).toNat = 0 from rfl] at hx581_0)
  (try rw [show 0 * 2 = 0 from rfl] at hx581_0)
  (try rw [Addr.add_zero'] at hx581_0)
  (try rw [show ((0 : Int)).toNat = 0 from rfl] at hx581_1)
  (try rw [show 0 * 2 = 0 from rfl] at hx581_1)
  (try rw [Addr.add_zero'] at hx581_1)
  replace p581 := eq_true p581
  replace q581 := eq_true q581
  go_enter Try.func14, Try.ntmps14
  go_wp2
  go_ret
  exact ⟨z9_, z64_⟩
 ·rw [if_neg c2] at H
  have c2b0 := decide_eq_false c2
  have c2b1 : decide (0 < l0.length) = false := decide_eq_false (by omega)
  clear c2
  obtain rfl := Option.some.inj H
  go_enter Try.func14, Try.ntmps14
  go_wp2
  go_ret
  exact ⟨z9_, z64_⟩

/-! ### spec_KidsOf: function 103 -/
mutual
def spec_KidsOf.l0 : Nat → List (S45) → Int → List Int → Int → Option (List Int)
 | 0, _, _, _, _ => none
 | k + 1, x0, x1, x5, x6 => (spec_l3At.f k x0 x1).bind fun t585 => (if t585 = true then ((spec_EndOf.f k x0 x1).bind fun t586 => (spec_KidsOf.j1 k x0 x1 x5 x6 (decide (x6 < t586)))) else (spec_KidsOf.j1 k x0 x1 x5 x6 false))
def spec_KidsOf.j1 : Nat → List (S45) → Int → List Int → Int → Bool → Option (List Int)
 | 0, _, _, _, _, _ => none
 | k + 1, x0, x1, x5, x6, x19 => if x19 = true then (if 0 ≤ x6 then (if x6 < (x0.length : Int) then (if 0 ≤ x1 then (if x1 < (x0.length : Int) then (if ((rd_T45 x0 x6).f1) = (wrap64 (((rd_T45 x0 x1).f1) + 1)) then (if x5.length < 17592186044416 then (spec_KidsOf.l0 k x0 x1 (x5 ++ [x6]) (wrap64 (x6 + 1))) else (none)) else (spec_KidsOf.l0 k x0 x1 x5 (wrap64 (x6 + 1)))) else (none)) else (none)) else (none)) else (none)) else (some x5)
end
def spec_KidsOf.f (k : Nat) (l0 : List (S45)) (a1 : Int) : Option (List Int) := spec_KidsOf.l0 k l0 a1 (([] : List Int)) (wrap64 (a1 + 1))
set_option maxHeartbeats 8000000 in
set_option maxRecDepth 100000 in
theorem spec_KidsOf.calls (k : Nat) (A0 : Option Addr) (c0 : Nat) (l0 : List (S45)) (a1 : Int) (r : List Int) (w : World) (hr0 : Kd.C k45 w A0 l0.length l0) (hc0 : l0.length ≤ c0) (h : spec_KidsOf.f k l0 a1 = some r) :
  Calls Try.prog 103 #[.slice A0 l0.length c0, .int .i64 a1] w fun e w' => ∃ v0_ : Value, e = .returned (v0_) ∧ Kd.R (Kd.int .i64) 3 w' w.heap.size (fun _ => True) v0_ r ∧ Below w.heap.size w w' := by
 have HR0 := Aside0.mk hr0
 have HC0 := Aside0.mk hc0
 clear hr0 hc0
 have HB := Aside0.mk (Below.refl w.heap.size w)
 have H : (spec_KidsOf.l0 k l0 a1 (([] : List Int)) (wrap64 (a1 + 1))) = some r := h
 clear h
 first | ((with_reducible have hz_ := gy_ H); obtain ⟨y582, Ny582, H⟩ := hz_) | (generalize hy_ : ((([] : List Int)) : List Int) = y582 at H; have Ny582 := Aside0.mk hy_.symm; clear hy_)
 have H' := Aside0.mk H
 clear H
 go_enter Try.func103, Try.ntmps103
 go_wp2_with (first | ((with_reducible refine gate_dst (N := 7) rfl ?_); refine Kd.R_lit (Kd.int .i64) _ 3 ?hg (N := 7) ?hd (xs := ([] : List Int)) (inner := []) (ok := fun _ => True) (okp := fun _ => True) ?hr ?hp (fun _ hk => hk) trivial (Below.refl _ _) (Nat.le_refl _) (by simp) ?_; (case hd => rfl); (case hg => rfl); (case hr => exact z26_); (case hp => exact z162_); intro v583 w3 ho4 hb hg_ hnew_; clear hg_ hnew_; (first | rw [← Ny582.out] at ho4 | (simp only [Int.reduceToNat] at ho4; rw [← Ny582.out] at ho4)); have HO584 := Aside0.mk (Kd.R_lower ho4 (below_size z0_)); replace HB := Aside0.mk (below_step z0_ hb); clear hb ho4))
 repeat (go_quiet (first | ((with_reducible refine gate_dst (N := 7) rfl ?_); refine Kd.R_lit (Kd.int .i64) _ 3 ?hg (N := 7) ?hd (xs := ([] : List Int)) (inner := []) (ok := fun _ => True) (okp := fun _ => True) ?hr ?hp (fun _ hk => hk) trivial (Below.refl _ _) (Nat.le_refl _) (by simp) ?_; (case hd => rfl); (case hg => rfl); (case hr => exact z26_); (case hp => exact z162_); intro v583 w3 ho4 hb hg_ hnew_; clear hg_ hnew_; (first | rw [← Ny582.out] at ho4 | (simp only [Int.reduceToNat] at ho4; rw [← Ny582.out] at ho4)); have HO584 := Aside0.mk (Kd.R_lower ho4 (below_size z0_)); replace HB := Aside0.mk (below_step z0_ hb); clear hb ho4)); try go_wp2_with (first | ((with_reducible refine gate_dst (N := 7) rfl ?_); refine Kd.R_lit (Kd.int .i64) _ 3 ?hg (N := 7) ?hd (xs := ([] : List Int)) (inner := []) (ok := fun _ => True) (okp := fun _ => True) ?hr ?hp (fun _ hk => hk) trivial (Below.refl _ _) (Nat.le_refl _) (by simp) ?_; (case hd => rfl); (case hg => rfl); (case hr => exact z26_); (case hp => exact z162_); intro v583 w3 ho4 hb hg_ hnew_; clear hg_ hnew_; (first | rw [← Ny582.out] at ho4 | (simp only [Int.reduceToNat] at ho4; rw [← Ny582.out] at ho4)); have HO584 := Aside0.mk (Kd.R_lower ho4 (below_size z0_)); replace HB := Aside0.mk (below_step z0_ hb); clear hb ho4)))
 go_loopg [5, 6] k (fun kq v5 v6 w' => ∃ (x5_1 : List Int) (x6_1 : Int), v6 = .int .i64 x6_1 ∧ Aside0 (spec_KidsOf.l0 kq l0 a1 x5_1 x6_1 = some r) ∧ Aside0 (kq ≤ k) ∧ Aside0 (Kd.R (Kd.int .i64) 3 w' w.heap.size (fun _ => True) v5 x5_1) ∧ Aside0 (Below w.heap.size w w'))
 case atStart => exact ⟨(y582), (wrap64 (a1 + 1)), z9_, H', ⟨Nat.le_refl _⟩, ⟨by (with_reducible repeat (first | apply Kd.R_alloc | apply Kd.R_drewN | apply Kd.R_drew)); exact HO584.out⟩, ⟨z0_⟩⟩
 case round =>
  clear H'
  try clear c1
  try clear p2
  obtain ⟨x5_1, x6_1, rfl, HA, HK1, HO_5, HB⟩ := hrel
  cases gk with
  | zero => exact absurd HA.out (by simp [spec_KidsOf.l0])
  | succ k1 =>
   have H := HA.out
   clear HA
   simp only [spec_KidsOf.l0] at H
   have HC5 := Aside0.mk H
   clear H
   go_upto_region 3 with (fail)
   repeat (go_quiet (fail); go_upto_region 3 with (fail))
   go_cut [19] (fun v19 wc => ∃ (kq : Nat) (x19_4 : Bool), v19 = .bool x19_4 ∧ Aside0 (spec_KidsOf.j1 kq l0 a1 x5_1 x6_1 x19_4 = some r) ∧ Aside0 (kq ≤ k1) ∧ Aside0 (Kd.R (Kd.int .i64) 3 wc w.heap.size (fun _ => True) u5 x5_1) ∧ Aside0 (Below w.heap.size w wc))
   case first =>
    have H := HC5.out
    clear HC5
    obtain ⟨t585, A6, H⟩ := bnd_ H
    by_cases c7 : t585 = true
    ·subst c7
     replace H := ift_ H
     obtain ⟨t586, A8, H⟩ := bnd_ H
     have H' := Aside0.mk H
     clear H
     go_wp2_with (first | (go_at_call 43; (with_reducible refine (spec_l3At.calls k1 _ _ l0 a1 true _ ?side1 ?side2 A6.out).mono ?_); (case side1 => exact z8_); (case side2 => exact HC0.out); rintro e w9 ⟨rfl, hb⟩; replace HO_5 := Aside0.mk (Kd.R_below z5_ hb); replace HB := Aside0.mk (below_step z0_ hb); (try clear hb)) | (go_at_call 81; (with_reducible refine (spec_EndOf.calls k1 _ _ l0 a1 t586 _ ?side1 ?side2 A8.out).mono ?_); (case side1 => exact z8_); (case side2 => exact HC0.out); rintro e w10 ⟨rfl, hb⟩; replace HO_5 := Aside0.mk (Kd.R_below z5_ hb); replace HB := Aside0.mk (below_step z0_ hb); (try clear hb)))
     repeat (go_quiet (first | (go_at_call 43; (with_reducible refine (spec_l3At.calls k1 _ _ l0 a1 true _ ?side1 ?side2 A6.out).mono ?_); (case side1 => exact z8_); (case side2 => exact HC0.out); rintro e w9 ⟨rfl, hb⟩; replace HO_5 := Aside0.mk (Kd.R_below z5_ hb); replace HB := Aside0.mk (below_step z0_ hb); (try clear hb)) | (go_at_call 81; (with_reducible refine (spec_EndOf.calls k1 _ _ l0 a1 t586 _ ?side1 ?side2 A8.out).mono ?_); (case side1 => exact z8_); (case side2 => exact HC0.out); rintro e w10 ⟨rfl, hb⟩; replace HO_5 := Aside0.mk (Kd.R_below z5_ hb); replace HB := Aside0.mk (below_step z0_ hb); (try clear hb))); try go_wp2_with (first | (go_at_call 43; (with_reducible refine (spec_l3At.calls k1 _ _ l0 a1 true _ ?side1 ?side2 A6.out).mono ?_); (case side1 => exact z8_); (case side2 => exact HC0.out); rintro e w9 ⟨rfl, hb⟩; replace HO_5 := Aside0.mk (Kd.R_below z5_ hb); replace HB := Aside0.mk (below_step z0_ hb); (try clear hb)) | (go_at_call 81; (with_reducible refine (spec_EndOf.calls k1 _ _ l0 a1 t586 _ ?side1 ?side2 A8.out).mono ?_); (case side1 => exact z8_); (case side2 => exact HC0.out); rintro e w10 ⟨rfl, hb⟩; replace HO_5 := Aside0.mk (Kd.R_below z5_ hb); replace HB := Aside0.mk (below_step z0_ hb); (try clear hb))))
     go_meet
     case rel => exact ⟨_, (decide (x6_1 < t586)), z9_, H', ⟨z153_⟩, ⟨z5_⟩, ⟨z0_⟩⟩
    ·replace c7 := Bool.eq_false_iff.mpr c7
     subst c7
     replace H := iff_ H
     have H' := Aside0.mk H
     clear H
     go_wp2_with (first | (go_at_call 43; (with_reducible refine (spec_l3At.calls k1 _ _ l0 a1 false _ ?side1 ?side2 A6.out).mono ?_); (case side1 => exact z8_); (case side2 => exact HC0.out); rintro e w11 ⟨rfl, hb⟩; replace HO_5 := Aside0.mk (Kd.R_below z5_ hb); replace HB := Aside0.mk (below_step z0_ hb); (try clear hb)))
     repeat (go_quiet (first | (go_at_call 43; (with_reducible refine (spec_l3At.calls k1 _ _ l0 a1 false _ ?side1 ?side2 A6.out).mono ?_); (case side1 => exact z8_); (case side2 => exact HC0.out); rintro e w11 ⟨rfl, hb⟩; replace HO_5 := Aside0.mk (Kd.R_below z5_ hb); replace HB := Aside0.mk (below_step z0_ hb); (try clear hb))); try go_wp2_with (first | (go_at_call 43; (with_reducible refine (spec_l3At.calls k1 _ _ l0 a1 false _ ?side1 ?side2 A6.out).mono ?_); (case side1 => exact z8_); (case side2 => exact HC0.out); rintro e w11 ⟨rfl, hb⟩; replace HO_5 := Aside0.mk (Kd.R_below z5_ hb); replace HB := Aside0.mk (below_step z0_ hb); (try clear hb))))
     go_meet
     case rel => exact ⟨_, (false), z9_, H', ⟨z153_⟩, ⟨z5_⟩, ⟨z0_⟩⟩
   case rest =>
    clear HC5
    try clear c1
    try clear p2
    try clear p6
    try clear c7
    try clear c10
    try clear p2
    obtain ⟨kq, x19_4, rfl, HA, HJ4, HO_5, HB⟩ := hcut
    cases kq with
    | zero => exact absurd HA.out (by simp [spec_KidsOf.j1])
    | succ kj4 =>
     have H := HA.out
     clear HA
     simp only [spec_KidsOf.j1] at H
     by_cases c12 : x19_4 = true
     ·subst c12
      replace H := ift_ H
      obtain ⟨c13b0, H⟩ := ifd_ H
      obtain ⟨c14b0, H⟩ := ifd_ H
      obtain ⟨c15b0, H⟩ := ifd_ H
      obtain ⟨c16b0, H⟩ := ifd_ H
      by_cases c17 : ((rd_T45 l0 x6_1).f1) = (wrap64 (((rd_T45 l0 a1).f1) + 1))
      ·rw [if_pos c17] at H
       have c17b0 : (((rd_T45 l0 x6_1).f1) == (wrap64 (((rd_T45 l0 a1).f1) + 1))) = true := beq_iff_eq.mpr c17
       have c17b1 : (((rd_T45 l0 x6_1).f1) != (wrap64 (((rd_T45 l0 a1).f1) + 1))) = false := bne_eq_false_iff_eq.mpr c17
       clear c17
       obtain ⟨c18, H⟩ := ifs_ H
       have LMc18 := Aside0.mk c18
       clear c18
       first | ((with_reducible have hz_ := gy_ H); obtain ⟨y589, Ny589, H⟩ := hz_) | (generalize hy_ : ((x5_1 ++ [x6_1]) : List Int) = y589 at H; have Ny589 := Aside0.mk hy_.symm; clear hy_)
       have H' := Aside0.mk H
       clear H
       obtain ⟨p587, q587, ad587, e587, hx587_0, hx587_1⟩ := atb45_ HR0 HB x6_1
       cases e587
       obtain ⟨p588, q588, ad588, e588, hx588_0, hx588_1⟩ := atb45_ HR0 HB a1
       obtain rfl : ad587 = ad588 := (by injection e588)
       go_wp2_with (first | ((with_reducible refine gate_builtin (b := .append) (xs := #[.tmp 34, .tmp 36]) rfl ?_); at_builtin; refine Kd.R_append (Kd.int .i64) (w0 := w) w.heap.size rfl (.tmp 34) (.tmp 36) 31 3 (.int .i64 0) 8 rfl Try.underlying31 info3 rfl (by decide) (by omega) u5 x5_1 x6_1 [.int .i64 x6_1] (fun _ => True) (fun _ => False) rfl rfl ?aP (fun _ hk => hk.elim) ?aF ?aO ?aB ?aS ?aL ?_; (case aP => exact rfl); (case aB => exact z72_); (case aF => exact z168_); (case aO => exact z70_); (case aS => exact z67_); (case aL => exact z216_); intro v590 w19 ho hb hg hat; rw [← Ny589.out] at ho; replace HB := Aside0.mk (hb); have HO591 := Aside0.mk (ho); clear HO_5; clear ho hb hg hat))
       repeat (go_quiet (first | ((with_reducible refine gate_builtin (b := .append) (xs := #[.tmp 34, .tmp 36]) rfl ?_); at_builtin; refine Kd.R_append (Kd.int .i64) (w0 := w) w.heap.size rfl (.tmp 34) (.tmp 36) 31 3 (.int .i64 0) 8 rfl Try.underlying31 info3 rfl (by decide) (by omega) u5 x5_1 x6_1 [.int .i64 x6_1] (fun _ => True) (fun _ => False) rfl rfl ?aP (fun _ hk => hk.elim) ?aF ?aO ?aB ?aS ?aL ?_; (case aP => exact rfl); (case aB => exact z72_); (case aF => exact z168_); (case aO => exact z70_); (case aS => exact z67_); (case aL => exact z216_); intro v590 w19 ho hb hg hat; rw [← Ny589.out] at ho; replace HB := Aside0.mk (hb); have HO591 := Aside0.mk (ho); clear HO_5; clear ho hb hg hat)); try go_wp2_with (first | ((with_reducible refine gate_builtin (b := .append) (xs := #[.tmp 34, .tmp 36]) rfl ?_); at_builtin; refine Kd.R_append (Kd.int .i64) (w0 := w) w.heap.size rfl (.tmp 34) (.tmp 36) 31 3 (.int .i64 0) 8 rfl Try.underlying31 info3 rfl (by decide) (by omega) u5 x5_1 x6_1 [.int .i64 x6_1] (fun _ => True) (fun _ => False) rfl rfl ?aP (fun _ hk => hk.elim) ?aF ?aO ?aB ?aS ?aL ?_; (case aP => exact rfl); (case aB => exact z72_); (case aF => exact z168_); (case aO => exact z70_); (case aS => exact z67_); (case aL => exact z216_); intro v590 w19 ho hb hg hat; rw [← Ny589.out] at ho; replace HB := Aside0.mk (hb); have HO591 := Aside0.mk (ho); clear HO_5; clear ho hb hg hat)))
       go_roundg kj4
       case measure => have := HK1.out; have := HJ4.out; omega
       case rel => exact ⟨(y589), (wrap64 (x6_1 + 1)), z9_, H', ⟨by have := HK1.out; have := HJ4.out; omega⟩, ⟨by (with_reducible repeat (first | apply Kd.R_alloc | apply Kd.R_drewN | apply Kd.R_drew)); exact HO591.out⟩, ⟨z0_⟩⟩
      ·rw [if_neg c17] at H
       have c17b0 : (((rd_T45 l0 x6_1).f1) == (wrap64 (((rd_T45 l0 a1).f1) + 1))) = false := beq_eq_false_iff_ne.mpr c17
       have c17b1 : (((rd_T45 l0 x6_1).f1) != (wrap64 (((rd_T45 l0 a1).f1) + 1))) = true := bne_iff_ne.mpr c17
       have H' := Aside0.mk H
       clear H
       obtain ⟨p587, q587, ad587, e587, hx587_0, hx587_1⟩ := atb45_ HR0 HB x6_1
       cases e587
       obtain ⟨p588, q588, ad588, e588, hx588_0, hx588_1⟩ := atb45_ HR0 HB a1
       obtain rfl : ad587 = ad588 := (by injection e588)
       go_wp2
       repeat (go_quiet (fail); try go_wp2)
       go_roundg kj4
       case measure => have := HK1.out; have := HJ4.out; omega
       case rel => exact ⟨(x5_1), (wrap64 (x6_1 + 1)), z9_, H', ⟨by have := HK1.out; have := HJ4.out; omega⟩, ⟨z5_⟩, ⟨z0_⟩⟩
     ·replace c12 := Bool.eq_false_iff.mpr c12
      subst c12
      replace H := iff_ H
      obtain rfl := Option.some.inj H
      go_wp2
      repeat (go_quiet (fail); try go_wp2)
      go_ret
      exact ⟨_, z7_, z5_, z0_⟩

/-! ### spec_l6Post: function 82 -/
mutual
def spec_l6Post.l0 : Nat → List (S45) → Int → List Int → List Int → Int → Option (List Int)
 | 0, _, _, _, _, _ => none
 | k + 1, x0, x1, x5, x6, x7 => if x7 < (x6.length : Int) then (if 0 ≤ x7 then ((spec_l6Post.f k x0 (rd x6 x7)).bind fun t599 => (if x5.length + t599.length < 17592186044416 then (spec_l6Post.l0 k x0 x1 (x5 ++ t599) x6 (wrap64 (x7 + 1))) else (none))) else (none)) else (if x5.length < 17592186044416 then (some (x5 ++ [x1])) else (none))
def spec_l6Post.f : Nat → List (S45) → Int → Option (List Int)
 | 0, _, _ => none
 | k + 1, l0, a1 => (spec_KidsOf.f k l0 a1).bind fun t595 => (spec_l6Post.l0 k l0 a1 (([] : List Int)) t595 0)
end
set_option maxHeartbeats 8000000 in
set_option maxRecDepth 100000 in
theorem spec_l6Post.calls (k : Nat) : ∀ (A0 : Option Addr) (c0 : Nat) (l0 : List (S45)) (a1 : Int) (r : List Int) (w : World) (hr0 : Kd.C k45 w A0 l0.length l0) (hc0 : l0.length ≤ c0) (h : spec_l6Post.f k l0 a1 = some r),
  Calls Try.prog 82 #[.slice A0 l0.length c0, .int .i64 a1] w fun e w' => ∃ v0_ : Value, e = .returned (v0_) ∧ Kd.R (Kd.int .i64) 3 w' w.heap.size (fun _ => True) v0_ r ∧ Below w.heap.size w w' := by
 induction k using Nat.strongRecOn with
 | _ k ih =>
 intro A0 c0 l0 a1 r w hr0 hc0 h
 cases k with
 | zero => exact absurd h (by simp [spec_l6Post.f])
 | succ k =>
 simp only [spec_l6Post.f] at h
 have HR0 := Aside0.mk hr0
 have HC0 := Aside0.mk hc0
 clear hr0 hc0
 have HB := Aside0.mk (Below.refl w.heap.size w)
 have H : ((spec_KidsOf.f k l0 a1).bind fun t595 => (spec_l6Post.l0 k l0 a1 (([] : List Int)) t595 0)) = some r := h
 clear h
 first | ((with_reducible have hz_ := gy_ H); obtain ⟨y592, Ny592, H⟩ := hz_) | (generalize hy_ : ((([] : List Int)) : List Int) = y592 at H; have Ny592 := Aside0.mk hy_.symm; clear hy_)
 obtain ⟨t595, A3, H⟩ := bnd_ H
 have H' := Aside0.mk H
 clear H
 go_enter Try.func82, Try.ntmps82
 go_wp2_with (first | ((with_reducible refine gate_dst (N := 8) rfl ?_); refine Kd.R_lit (Kd.int .i64) _ 3 ?hg (N := 8) ?hd (xs := ([] : List Int)) (inner := []) (ok := fun _ => True) (okp := fun _ => True) ?hr ?hp (fun _ hk => hk) trivial (Below.refl _ _) (Nat.le_refl _) (by simp) ?_; (case hd => rfl); (case hg => rfl); (case hr => exact z26_); (case hp => exact z162_); intro v593 w4 ho5 hb hg_ hnew_; clear hg_ hnew_; (first | rw [← Ny592.out] at ho5 | (simp only [Int.reduceToNat] at ho5; rw [← Ny592.out] at ho5)); have HO594 := Aside0.mk (Kd.R_lower ho5 (below_size z0_)); replace HB := Aside0.mk (below_step z0_ hb); clear hb ho5) | ((with_reducible refine gate_callee (f := 103) rfl ?_); refine goesL_ (some 11) rfl rfl Try.func103 (by kernel_rfl) rfl #[.slice A0 l0.length c0, .int .i64 a1] rfl z4_ ?_; (with_reducible refine (spec_KidsOf.calls k _ _ l0 a1 t595 _ ?side1 ?side2 A3.out).mono ?_); (case side1 => exact z8_); (case side2 => exact HC0.out); rintro e w6 ⟨v596, rfl, ho0, hb⟩; refine ⟨_, rfl, ?_⟩; have HO597 := Aside0.mk (Kd.R_lower (Kd.R_new' ho0 (Kd.R_lt z205_)) (below_size z0_)); replace HO594 := Aside0.mk (Kd.R_elder' z205_ (Kd.R_base ho0) hb); replace HB := Aside0.mk (below_step z0_ hb); (try clear hb ho0)))
 go_loopg [5, 7] k (fun kq v5 v7 w' => ∃ (x5_1 : List Int) (x7_1 : Int), v7 = .int .i64 x7_1 ∧ Aside0 (spec_l6Post.l0 kq l0 a1 x5_1 t595 x7_1 = some r) ∧ Aside0 (kq ≤ k) ∧ Aside0 (Kd.R (Kd.int .i64) 3 w' w.heap.size (fun k_ => some k_ ≠ (v596 : Value).ownBlock) v5 x5_1) ∧ Aside0 (Kd.R (Kd.int .i64) 3 w' w.heap.size (fun k_ => some k_ ≠ (v5 : Value).ownBlock) v596 t595) ∧ Aside0 (Below w.heap.size w w'))
 case atStart => exact ⟨(y592), (0), z9_, H', ⟨Nat.le_refl _⟩, ⟨by (with_reducible repeat (first | apply Kd.R_alloc | apply Kd.R_drewN | apply Kd.R_drew)); exact Kd.R_mono HO594.out (fun _ hk => hk.2)⟩, ⟨by (with_reducible repeat (first | apply Kd.R_alloc | apply Kd.R_drewN | apply Kd.R_drew)); exact Kd.R_mono HO597.out (fun _ hk => hk.2)⟩, ⟨z0_⟩⟩
 case round =>
  clear H'
  try clear c1
  try clear p2
  obtain ⟨x5_1, x7_1, rfl, HA, HK1, HO_5, HO_6, HB⟩ := hrel
  cases gk with
  | zero => exact absurd HA.out (by simp [spec_l6Post.l0])
  | succ k1 =>
   have H := HA.out
   clear HA
   simp only [spec_l6Post.l0] at H
   by_cases c7 : x7_1 < (t595.length : Int)
   ·rw [if_pos c7] at H
    have c7b0 := decide_eq_true c7
    clear c7
    obtain ⟨c8b0, H⟩ := ifd_ H
    obtain ⟨t599, A9, H⟩ := bnd_ H
    obtain ⟨c10, H⟩ := ifs_ H
    have LMc10 := Aside0.mk c10
    clear c10
    first | ((with_reducible have hz_ := gy_ H); obtain ⟨y602, Ny602, H⟩ := hz_) | (generalize hy_ : ((x5_1 ++ t599) : List Int) = y602 at H; have Ny602 := Aside0.mk hy_.symm; clear hy_)
    have H' := Aside0.mk H
    clear H
    obtain ⟨Ao11, co11, eo11⟩ := Kd.R_slice HO_6.out
    subst eo11
    have p598 : 0 ≤ (x7_1 : Int) := odt_
    have q598 : x7_1 < (t595.length : Int) := odt_
    obtain ⟨ad598, e598, hx598_0⟩ := Kd.at_int (Kd.R_reads' HO_6.out).2.2 x7_1 p598 q598
    cases e598
    replace p598 := eq_true p598
    replace q598 := eq_true q598
    go_wp2_with (first | ((with_reducible refine gate_callee (f := 82) rfl ?_); refine goesL_ (some 24) rfl rfl Try.func82 (by kernel_rfl) rfl #[.slice A0 l0.length c0, .int .i64 (rd t595 x7_1)] rfl z4_ ?_; (with_reducible refine (ih k1 z140_ _ _ l0 (rd t595 x7_1) t599 _ ?side1 ?side2 A9.out).mono ?_); (case side1 => exact z8_); (case side2 => exact HC0.out); rintro e w12 ⟨v600, rfl, ho0, hb⟩; refine ⟨_, rfl, ?_⟩; have HO601 := Aside0.mk (Kd.R_lower (Kd.R_new' (Kd.R_new' ho0 (Kd.R_lt z5_)) (Kd.R_lt z23_)) (below_size z0_)); replace HO_5 := Aside0.mk (Kd.R_elder' z5_ (Kd.R_base ho0) hb); replace HO_6 := Aside0.mk (Kd.R_elder' z23_ (Kd.R_base ho0) hb); replace HB := Aside0.mk (below_step z0_ hb); (try clear hb ho0); obtain ⟨Ao14, co14, eo14⟩ := Kd.R_slice HO601.out; subst eo14) | ((with_reducible refine gate_builtin (b := .append) (xs := #[.tmp 18, .tmp 24]) rfl ?_); at_builtin; refine Kd.R_append_rows (Kd.int .i64) (w0 := w) w.heap.size rfl (.tmp 18) (.tmp 24) 31 3 (.int .i64 0) 8 rfl Try.underlying31 info3 rfl (by decide) (by omega) u5 x5_1 t599 _ _ _ (fun k_ => some k_ ≠ (.slice (some ad598) t595.length co11 : Value).ownBlock ∧ some k_ ≠ (.slice Ao14 t599.length co14 : Value).ownBlock) (fun _ => False) rfl rfl ?aO ?aR (fun _ _ h => h) (fun _ h => h.elim) ?aF ?aB ?aS ?aL ?_; (case aR => repeat (first | exact (Kd.R_reads' HO601.out).2.2 | (with_reducible refine Kd.C_alloc ?_ _) | (with_reducible refine Kd.C_drewN ?_ _) | (with_reducible refine Kd.C_drew ?_))); (case aB => exact z72_); (case aF => exact (fun k_ hk => ⟨Kd.fresh' (Kd.R_lt z23_) k_ hk, Kd.fresh' (Kd.R_lt (by (with_reducible repeat (first | apply Kd.R_alloc | apply Kd.R_drewN | apply Kd.R_drew)); exact HO601.out)) k_ hk⟩)); (case aO => exact z70_); (case aS => exact z67_); (case aL => have := LMc10.out; omega); intro v603 w13 ho hb hg hat; rw [← Ny602.out] at ho; replace HO_6 := Aside0.mk (Kd.R_after (ok := (fun k_ => some k_ ≠ (.slice Ao14 t599.length co14 : Value).ownBlock)) (by (with_reducible repeat (first | apply Kd.R_alloc | apply Kd.R_drewN | apply Kd.R_drew)); exact Kd.R_mono HO_6.out (fun _ hk => ⟨hk.2, hk.1⟩)) hg hat); replace HO601 := Aside0.mk (Kd.R_after (ok := (fun k_ => some k_ ≠ (.slice (some ad598) t595.length co11 : Value).ownBlock)) (by (with_reducible repeat (first | apply Kd.R_alloc | apply Kd.R_drewN | apply Kd.R_drew)); exact Kd.R_mono HO601.out (fun _ hk => ⟨hk.2, hk.1.2⟩)) hg hat); replace HB := Aside0.mk (hb); have HO604 := Aside0.mk (ho); clear HO_5; clear ho hb hg hat))
    go_roundg k1
    case measure => have := HK1.out; omega
    case rel => exact ⟨(y602), (wrap64 (x7_1 + 1)), z9_, H', ⟨z140_⟩, ⟨by (with_reducible repeat (first | apply Kd.R_alloc | apply Kd.R_drewN | apply Kd.R_drew)); exact Kd.R_mono HO604.out (fun _ hk => hk.1)⟩, ⟨by (with_reducible repeat (first | apply Kd.R_alloc | apply Kd.R_drewN | apply Kd.R_drew)); exact Kd.R_mono HO_6.out (fun _ hk => hk.2)⟩, ⟨z0_⟩⟩
   ·rw [if_neg c7] at H
    have c7b0 := decide_eq_false c7
    clear c7
    obtain ⟨c15, H⟩ := ifs_ H
    have LMc15 := Aside0.mk c15
    clear c15
    first | ((with_reducible have hz_ := gy_ H); obtain ⟨y605, Ny605, H⟩ := hz_) | (generalize hy_ : ((x5_1 ++ [a1]) : List Int) = y605 at H; have Ny605 := Aside0.mk hy_.symm; clear hy_)
    obtain rfl := Option.some.inj H
    obtain ⟨Ao16, co16, eo16⟩ := Kd.R_slice HO_6.out
    subst eo16
    go_wp2_with (first | ((with_reducible refine gate_builtin (b := .append) (xs := #[.tmp 26, .tmp 28]) rfl ?_); at_builtin; refine Kd.R_append (Kd.int .i64) (w0 := w) w.heap.size rfl (.tmp 26) (.tmp 28) 31 3 (.int .i64 0) 8 rfl Try.underlying31 info3 rfl (by decide) (by omega) u5 x5_1 a1 [.int .i64 a1] (fun k_ => some k_ ≠ (.slice Ao16 t595.length co16 : Value).ownBlock) (fun _ => False) rfl rfl ?aP (fun _ hk => hk.elim) ?aF ?aO ?aB ?aS ?aL ?_; (case aP => exact rfl); (case aB => exact z72_); (case aF => exact (fun k_ hk => Kd.fresh' (Kd.R_lt z23_) k_ hk)); (case aO => exact z70_); (case aS => exact z67_); (case aL => have := LMc15.out; omega); intro v606 w17 ho hb hg hat; rw [← Ny605.out] at ho; replace HO_6 := Aside0.mk (Kd.R_after (ok := (fun _ => True)) (by (with_reducible repeat (first | apply Kd.R_alloc | apply Kd.R_drewN | apply Kd.R_drew)); exact Kd.R_mono HO_6.out (fun _ hk => ⟨trivial, hk⟩)) hg hat); replace HB := Aside0.mk (hb); have HO607 := Aside0.mk (ho); clear HO_5; clear ho hb hg hat))
    go_ret
    exact ⟨_, z7_, by (with_reducible repeat (first | apply Kd.R_alloc | apply Kd.R_drewN | apply Kd.R_drew)); exact Kd.R_mono HO607.out (fun _ hk => trivial), z0_⟩

/-! ### spec_PostOrder: function 46 -/
def spec_PostOrder.f (k : Nat) (l0 : List (S45)) : Option (List Int) := (spec_TreeOk.f k l0).bind fun t608 => (if t608 = true then ((spec_l6Post.f k l0 0).bind fun t609 => (some t609)) else (some (([] : List Int))))
set_option maxHeartbeats 8000000 in
set_option maxRecDepth 100000 in
theorem spec_PostOrder.calls (k : Nat) (A0 : Option Addr) (c0 : Nat) (l0 : List (S45)) (r : List Int) (w : World) (hr0 : Kd.C k45 w A0 l0.length l0) (hc0 : l0.length ≤ c0) (h : spec_PostOrder.f k l0 = some r) :
  Calls Try.prog 46 #[.slice A0 l0.length c0] w fun e w' => ∃ v0_ : Value, e = .returned (v0_) ∧ Kd.R (Kd.int .i64) 3 w' w.heap.size (fun _ => True) v0_ r ∧ Below w.heap.size w w' := by
 have HR0 := Aside0.mk hr0
 have HC0 := Aside0.mk hc0
 clear hr0 hc0
 have HB := Aside0.mk (Below.refl w.heap.size w)
 have H : ((spec_TreeOk.f k l0).bind fun t608 => (if t608 = true then ((spec_l6Post.f k l0 0).bind fun t609 => (some t609)) else (some (([] : List Int))))) = some r := h
 clear h
 obtain ⟨t608, A2, H⟩ := bnd_ H
 by_cases c3 : t608 = true
 ·subst c3
  replace H := ift_ H
  obtain ⟨t609, A4, H⟩ := bnd_ H
  obtain rfl := Option.some.inj H
  go_enter Try.func46, Try.ntmps46
  go_wp2_with (first | ((with_reducible refine gate_callee (f := 16) rfl ?_); refine goesL_ (some 4) rfl rfl Try.func16 (by kernel_rfl) rfl #[.slice A0 l0.length c0] rfl z4_ ?_; (with_reducible refine (spec_TreeOk.calls k _ _ l0 true _ ?side1 ?side2 A2.out).mono ?_); (case side1 => exact z11_); (case side2 => exact HC0.out); rintro e w5 ⟨rfl, hb⟩; refine ⟨_, rfl, ?_⟩; replace HB := Aside0.mk (below_step z0_ hb); (try clear hb)) | ((with_reducible refine gate_callee (f := 82) rfl ?_); refine goesL_ (some 8) rfl rfl Try.func82 (by kernel_rfl) rfl #[.slice A0 l0.length c0, .int .i64 0] rfl z4_ ?_; (with_reducible refine (spec_l6Post.calls k _ _ l0 0 t609 _ ?side1 ?side2 A4.out).mono ?_); (case side1 => exact z8_); (case side2 => exact HC0.out); rintro e w6 ⟨v610, rfl, ho0, hb⟩; refine ⟨_, rfl, ?_⟩; have HO611 := Aside0.mk (Kd.R_lower ho0 (below_size z0_)); replace HB := Aside0.mk (below_step z0_ hb); (try clear hb ho0)))
  go_ret
  exact ⟨_, z7_, by (with_reducible repeat (first | apply Kd.R_alloc | apply Kd.R_drewN | apply Kd.R_drew)); exact HO611.out, z0_⟩
 ·replace c3 := Bool.eq_false_iff.mpr c3
  subst c3
  replace H := iff_ H
  first | ((with_reducible have hz_ := gy_ H); obtain ⟨y612, Ny612, H⟩ := hz_) | (generalize hy_ : ((([] : List Int)) : List Int) = y612 at H; have Ny612 := Aside0.mk hy_.symm; clear hy_)
  obtain rfl := Option.some.inj H
  go_enter Try.func46, Try.ntmps46
  go_wp2_with (first | ((with_reducible refine gate_callee (f := 16) rfl ?_); refine goesL_ (some 4) rfl rfl Try.func16 (by kernel_rfl) rfl #[.slice A0 l0.length c0] rfl z4_ ?_; (with_reducible refine (spec_TreeOk.calls k _ _ l0 false _ ?side1 ?side2 A2.out).mono ?_); (case side1 => exact z11_); (case side2 => exact HC0.out); rintro e w7 ⟨rfl, hb⟩; refine ⟨_, rfl, ?_⟩; replace HB := Aside0.mk (below_step z0_ hb); (try clear hb)) | ((with_reducible refine gate_dst (N := 6) rfl ?_); refine Kd.R_lit (Kd.int .i64) _ 3 ?hg (N := 6) ?hd (xs := ([] : List Int)) (inner := []) (ok := fun _ => True) (okp := fun _ => True) ?hr ?hp (fun _ hk => hk) trivial (Below.refl _ _) (Nat.le_refl _) (by simp) ?_; (case hd => rfl); (case hg => rfl); (case hr => exact z26_); (case hp => exact z162_); intro v613 w8 ho9 hb hg_ hnew_; clear hg_ hnew_; (first | rw [← Ny612.out] at ho9 | (simp only [Int.reduceToNat] at ho9; rw [← Ny612.out] at ho9)); have HO614 := Aside0.mk (Kd.R_lower ho9 (below_size z0_)); replace HB := Aside0.mk (below_step z0_ hb); clear hb ho9))
  go_ret
  exact ⟨_, z7_, by (with_reducible repeat (first | apply Kd.R_alloc | apply Kd.R_drewN | apply Kd.R_drew)); exact HO614.out, z0_⟩

/-! ### spec_l10IsA: function 47 -/
def spec_l10IsA.l0 : Nat → List (S47) → Int → Int → Option (Bool)
 | 0, _, _, _ => none
 | k + 1, x0, x1, x5 => if x5 < (x0.length : Int) then (if 0 ≤ x5 then (if ((rd_T47 x0 x5).f0) = x1 then (some true) else (spec_l10IsA.l0 k x0 x1 (wrap64 (x5 + 1)))) else (none)) else (some false)
def spec_l10IsA.f (k : Nat) (l0 : List (S47)) (a1 : Int) : Option (Bool) := spec_l10IsA.l0 k l0 a1 0
set_option maxHeartbeats 8000000 in
set_option maxRecDepth 100000 in
theorem spec_l10IsA.calls (k : Nat) (A0 : Option Addr) (c0 : Nat) (l0 : List (S47)) (a1 : Int) (r : Bool) (w : World) (hr0 : Kd.C k47 w A0 l0.length l0) (hc0 : l0.length ≤ c0) (h : spec_l10IsA.f k l0 a1 = some r) :
  Calls Try.prog 47 #[.slice A0 l0.length c0, .int .i64 a1] w fun e w' => e = .returned (.bool r) ∧ Drawn0 w w' := by
 have HR0 := Aside0.mk hr0
 have HC0 := Aside0.mk hc0
 clear hr0 hc0
 have H : (spec_l10IsA.l0 k l0 a1 0) = some r := h
 clear h
 have H' := Aside0.mk H
 clear H
 go_enter Try.func47, Try.ntmps47
 go_wp2
 go_loopg [5] k (fun kq v5 w' => ∃ (x5_1 : Int), v5 = .int .i64 x5_1 ∧ Aside0 (spec_l10IsA.l0 kq l0 a1 x5_1 = some r) ∧ Aside0 (kq ≤ k) ∧ Drawn0 w w')
 case atStart => exact ⟨(0), z9_, H', ⟨Nat.le_refl _⟩, z64_⟩
 case round =>
  clear H'
  try clear p2
  obtain ⟨x5_1, rfl, HA, HK1, ⟨m1, rfl⟩⟩ := hrel
  cases gk with
  | zero => exact absurd HA.out (by simp [spec_l10IsA.l0])
  | succ k1 =>
   have H := HA.out
   clear HA
   simp only [spec_l10IsA.l0] at H
   by_cases c3 : x5_1 < (l0.length : Int)
   ·rw [if_pos c3] at H
    have c3b0 := decide_eq_true c3
    clear c3
    obtain ⟨c4b0, H⟩ := ifd_ H
    by_cases c5 : ((rd_T47 l0 x5_1).f0) = a1
    ·rw [if_pos c5] at H
     have c5b0 : (((rd_T47 l0 x5_1).f0) == a1) = true := beq_iff_eq.mpr c5
     have c5b1 : (((rd_T47 l0 x5_1).f0) != a1) = false := bne_eq_false_iff_eq.mpr c5
     clear c5
     obtain rfl := Option.some.inj H
     obtain ⟨p615, q615, ad615, e615, hx615_0, hx615_1⟩ := ato47_ HR0 x5_1
     cases e615
     go_wp2
     go_ret
     exact ⟨z9_, z64_⟩
    ·rw [if_neg c5] at H
     have c5b0 : (((rd_T47 l0 x5_1).f0) == a1) = false := beq_eq_false_iff_ne.mpr c5
     have c5b1 : (((rd_T47 l0 x5_1).f0) != a1) = true := bne_iff_ne.mpr c5
     have H' := Aside0.mk H
     clear H
     obtain ⟨p615, q615, ad615, e615, hx615_0, hx615_1⟩ := ato47_ HR0 x5_1
     cases e615
     go_wp2
     go_roundg k1
     case measure => have := HK1.out; omega
     case rel => exact ⟨(wrap64 (x5_1 + 1)), z9_, H', ⟨z140_⟩, z64_⟩
   ·rw [if_neg c3] at H
    have c3b0 := decide_eq_false c3
    clear c3
    obtain rfl := Option.some.inj H
    go_wp2
    go_ret
    exact ⟨z9_, z64_⟩

end Go.Proofs.Ytbiffnahknkoiaa.PFnKept
