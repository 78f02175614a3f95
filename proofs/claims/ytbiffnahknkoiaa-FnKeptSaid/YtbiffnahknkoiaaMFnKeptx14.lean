/- Laid by a program of this session out of the kit's print for the law FnKept: what it says of the machine is proved here, function by function; each contract under the conditions that it names. -/
import Derived.Test.YtbiffnahknkoiaaMFnKeptx0
import Derived.Test.YtbiffnahknkoiaaMFnKeptx13
namespace Go.Proofs.Ytbiffnahknkoiaa.PFnKept
open Go.RowKit Go.Proofs.YtbiffnahknkoiaaW.PrintWords Go.Proofs.YtbiffnahknkoiaaW.PrintLast Go.Proofs.YtbiffnahknkoiaaW.PrintMore
attribute [local go_sem] max2_int min2_int max_two min_two max_three min_three max_four min_four   -- for this text's walks alone
set_option linter.unusedVariables false
set_option linter.unusedSimpArgs false

/-! ### slices_Index_int_int: function 54 -/
def slices_Index_int_int.l0 : Nat → List Int → Int → Int → Int → Option (Int)
 | 0, _, _, _, _ => none
 | k + 1, x0, x1, x7, x8 => if x8 < x7 then (if 0 ≤ x8 then (if x8 < (x0.length : Int) then (if x1 = (rd x0 x8) then (some x8) else (slices_Index_int_int.l0 k x0 x1 x7 (wrap64 (x8 + 1)))) else (none)) else (none)) else (some (-1))
def slices_Index_int_int.f (k : Nat) (l0 : List Int) (a1 : Int) : Option (Int) := slices_Index_int_int.l0 k l0 a1 (l0.length : Int) 0
set_option maxHeartbeats 8000000 in
set_option maxRecDepth 100000 in
theorem slices_Index_int_int.calls (k : Nat) (A0 : Option Addr) (c0 : Nat) (l0 : List Int) (a1 : Int) (r : Int) (w : World) (hr0 : Kd.C (Kd.int .i64) w A0 l0.length l0) (hc0 : l0.length ≤ c0) (h : slices_Index_int_int.f k l0 a1 = some r) :
  Calls Try.prog 54 #[.slice A0 l0.length c0, .int .i64 a1] w fun e w' => e = .returned (.int .i64 r) ∧ Drawn0 w w' := by
 have HR0 := Aside0.mk hr0
 have HC0 := Aside0.mk hc0
 clear hr0 hc0
 have H : (slices_Index_int_int.l0 k l0 a1 (l0.length : Int) 0) = some r := h
 clear h
 have H' := Aside0.mk H
 clear H
 go_enter Try.func54, Try.ntmps54
 go_wp2
 go_loopg [8] k (fun kq v8 w' => ∃ (x8_1 : Int), v8 = .int .i64 x8_1 ∧ Aside0 (slices_Index_int_int.l0 kq l0 a1 (l0.length : Int) x8_1 = some r) ∧ Aside0 (kq ≤ k) ∧ Drawn0 w w')
 case atStart => exact ⟨(0), z9_, H', ⟨Nat.le_refl _⟩, z64_⟩
 case round =>
  clear H'
  try clear p2
  obtain ⟨x8_1, rfl, HA, HK1, ⟨m1, rfl⟩⟩ := hrel
  cases gk with
  | zero => exact absurd HA.out (by simp [slices_Index_int_int.l0])
  | succ k1 =>
   have H := HA.out
   clear HA
   simp only [slices_Index_int_int.l0] at H
   by_cases c3 : x8_1 < (l0.length : Int)
   ·rw [if_pos c3] at H
    have c3b0 := decide_eq_true c3
    clear c3
    obtain ⟨c4b0, H⟩ := ifd_ H
    obtain ⟨c5b0, H⟩ := ifd_ H
    by_cases c6 : a1 = (rd l0 x8_1)
    ·rw [if_pos c6] at H
     have c6b0 : (a1 == (rd l0 x8_1)) = true := beq_iff_eq.mpr c6
     have c6b1 : (a1 != (rd l0 x8_1)) = false := bne_eq_false_iff_eq.mpr c6
     clear c6
     obtain rfl := Option.some.inj H
     have p548 : 0 ≤ (x8_1 : Int) := odt_
     have q548 : x8_1 < (l0.length : Int) := odt_
     obtain ⟨ad548, e548, hx548_0⟩ := Kd.at_int HR0.out x8_1 p548 q548
     cases e548
     replace p548 := eq_true p548
     replace q548 := eq_true q548
     go_wp2
     go_ret
     exact ⟨z9_, z64_⟩
    ·rw [if_neg c6] at H
     have c6b0 : (a1 == (rd l0 x8_1)) = false := beq_eq_false_iff_ne.mpr c6
     have c6b1 : (a1 != (rd l0 x8_1)) = true := bne_iff_ne.mpr c6
     have H' := Aside0.mk H
     clear H
     have p548 : 0 ≤ (x8_1 : Int) := odt_
     have q548 : x8_1 < (l0.length : Int) := odt_
     obtain ⟨ad548, e548, hx548_0⟩ := Kd.at_int HR0.out x8_1 p548 q548
     cases e548
     replace p548 := eq_true p548
     replace q548 := eq_true q548
     go_wp2
     go_roundg k1
     case measure => have := HK1.out; omega
     case rel => exact ⟨(wrap64 (x8_1 + 1)), z9_, H', ⟨z140_⟩, z64_⟩
   ·rw [if_neg c3] at H
    have c3b0 := decide_eq_false c3
    clear c3
    obtain rfl := Option.some.inj H
    go_wp2
    go_ret
    exact ⟨z9_, z64_⟩

/-! ### slices_Contains_int_int: function 41 -/
def slices_Contains_int_int.f (k : Nat) (l0 : List Int) (a1 : Int) : Option (Bool) := (slices_Index_int_int.f k l0 a1).bind fun t549 => (some (decide (t549 ≥ 0)))
set_option maxHeartbeats 8000000 in
set_option maxRecDepth 100000 in
theorem slices_Contains_int_int.calls (k : Nat) (A0 : Option Addr) (c0 : Nat) (l0 : List Int) (a1 : Int) (r : Bool) (w : World) (hr0 : Kd.C (Kd.int .i64) w A0 l0.length l0) (hc0 : l0.length ≤ c0) (h : slices_Contains_int_int.f k l0 a1 = some r) :
  Calls Try.prog 41 #[.slice A0 l0.length c0, .int .i64 a1] w fun e w' => e = .returned (.bool r) ∧ Drawn0 w w' := by
 have HR0 := Aside0.mk hr0
 have HC0 := Aside0.mk hc0
 clear hr0 hc0
 have H : ((slices_Index_int_int.f k l0 a1).bind fun t549 => (some (decide (t549 ≥ 0)))) = some r := h
 clear h
 obtain ⟨t549, A3, H⟩ := bnd_ H
 obtain rfl := Option.some.inj H
 go_enter Try.func41, Try.ntmps41
 go_wp2_with (first | ((with_reducible refine gate_callee (f := 54) rfl ?_); refine goesL_ (some 7) rfl rfl Try.func54 (by kernel_rfl) rfl #[.slice A0 l0.length c0, .int .i64 a1] rfl z4_ ?_; (with_reducible refine (slices_Index_int_int.calls k _ _ l0 a1 t549 _ ?side1 ?side2 A3.out).mono ?_); (case side1 => exact z11_); (case side2 => exact HC0.out); rintro e w' ⟨rfl, ⟨nd, rfl⟩⟩; refine ⟨_, rfl, ?_⟩))
 go_ret
 exact ⟨z9_, z64_⟩

/-! ### impl_hasNode: function 79 -/
def impl_hasNode.f (k : Nat) (l0 : List (S45)) (a1 : Int) : Option (Bool) := (impl_TreeOk.f k l0).bind fun t550 => (if t550 = true then ((impl_within.f a1 0 (wrap64 ((l0.length : Int) - 1))).bind fun t551 => (some t551)) else (some false))
set_option maxHeartbeats 8000000 in
set_option maxRecDepth 100000 in
theorem impl_hasNode.calls (k : Nat) (A0 : Option Addr) (c0 : Nat) (l0 : List (S45)) (a1 : Int) (r : Bool) (w : World) (hr0 : Kd.C k45 w A0 l0.length l0) (hc0 : l0.length ≤ c0) (h : impl_hasNode.f k l0 a1 = some r) :
  Calls Try.prog 79 #[.slice A0 l0.length c0, .int .i64 a1] w fun e w' => e = .returned (.bool r) ∧ Below w.heap.size w w' := by
 have HR0 := Aside0.mk hr0
 have HC0 := Aside0.mk hc0
 clear hr0 hc0
 have HB := Aside0.mk (Below.refl w.heap.size w)
 have H : ((impl_TreeOk.f k l0).bind fun t550 => (if t550 = true then ((impl_within.f a1 0 (wrap64 ((l0.length : Int) - 1))).bind fun t551 => (some t551)) else (some false))) = some r := h
 clear h
 obtain ⟨t550, A3, H⟩ := bnd_ H
 by_cases c4 : t550 = true
 ·subst c4
  replace H := ift_ H
  obtain ⟨t551, A5, H⟩ := bnd_ H
  obtain rfl := Option.some.inj H
  go_enter Try.func79, Try.ntmps79
  go_wp2_with (first | ((with_reducible refine gate_callee (f := 40) rfl ?_); refine goesL_ (some 6) rfl rfl Try.func40 (by kernel_rfl) rfl #[.slice A0 l0.length c0] rfl z4_ ?_; (with_reducible refine (impl_TreeOk.calls k _ _ l0 true _ ?side1 ?side2 A3.out).mono ?_); (case side1 => exact z11_); (case side2 => exact HC0.out); rintro e w6 ⟨rfl, hb⟩; refine ⟨_, rfl, ?_⟩; replace HB := Aside0.mk (below_step z0_ hb); (try clear hb)) | (go_at_call 67; (with_reducible refine (impl_within.calls a1 0 (wrap64 ((l0.length : Int) - 1)) t551 _ A5.out).mono ?_); rintro e w' ⟨rfl, ⟨nd, rfl⟩⟩))
  go_ret
  exact ⟨z7_, z0_⟩
 ·replace c4 := Bool.eq_false_iff.mpr c4
  subst c4
  replace H := iff_ H
  obtain rfl := Option.some.inj H
  go_enter Try.func79, Try.ntmps79
  go_wp2_with (first | ((with_reducible refine gate_callee (f := 40) rfl ?_); refine goesL_ (some 6) rfl rfl Try.func40 (by kernel_rfl) rfl #[.slice A0 l0.length c0] rfl z4_ ?_; (with_reducible refine (impl_TreeOk.calls k _ _ l0 false _ ?side1 ?side2 A3.out).mono ?_); (case side1 => exact z11_); (case side2 => exact HC0.out); rintro e w7 ⟨rfl, hb⟩; refine ⟨_, rfl, ?_⟩; replace HB := Aside0.mk (below_step z0_ hb); (try clear hb)))
  go_ret
  exact ⟨z7_, z0_⟩

/-! ### impl_endOf: function 80 -/
def impl_endOf.l0 : Nat → List (S45) → Int → Int → Option (Int)
 | 0, _, _, _ => none
 | k + 1, x0, x1, x5 => if x5 < (x0.length : Int) then (if 0 ≤ x5 then (if 0 ≤ x1 then (if x1 < (x0.length : Int) then (if ((rd_T45 x0 x5).f1) > ((rd_T45 x0 x1).f1) then (impl_endOf.l0 k x0 x1 (wrap64 (x5 + 1))) else (some x5)) else (none)) else (none)) else (none)) else (some x5)
def impl_endOf.f (k : Nat) (l0 : List (S45)) (a1 : Int) : Option (Int) := impl_endOf.l0 k l0 a1 (wrap64 (a1 + 1))
set_option maxHeartbeats 8000000 in
set_option maxRecDepth 100000 in
theorem impl_endOf.calls (k : Nat) (A0 : Option Addr) (c0 : Nat) (l0 : List (S45)) (a1 : Int) (r : Int) (w : World) (hr0 : Kd.C k45 w A0 l0.length l0) (hc0 : l0.length ≤ c0) (h : impl_endOf.f k l0 a1 = some r) :
  Calls Try.prog 80 #[.slice A0 l0.length c0, .int .i64 a1] w fun e w' => e = .returned (.int .i64 r) ∧ Drawn0 w w' := by
 have HR0 := Aside0.mk hr0
 have HC0 := Aside0.mk hc0
 clear hr0 hc0
 have H : (impl_endOf.l0 k l0 a1 (wrap64 (a1 + 1))) = some r := h
 clear h
 have H' := Aside0.mk H
 clear H
 go_enter Try.func80, Try.ntmps80
 go_wp2
 repeat (go_quiet (fail); try go_wp2)
 go_loopg [5] k (fun kq v5 w' => ∃ (x5_1 : Int), v5 = .int .i64 x5_1 ∧ Aside0 (impl_endOf.l0 kq l0 a1 x5_1 = some r) ∧ Aside0 (kq ≤ k) ∧ Drawn0 w w')
 case atStart => exact ⟨(wrap64 (a1 + 1)), z9_, H', ⟨Nat.le_refl _⟩, z64_⟩
 case round =>
  clear H'
  try clear p2
  obtain ⟨x5_1, rfl, HA, HK1, ⟨m1, rfl⟩⟩ := hrel
  cases gk with
  | zero => exact absurd HA.out (by simp [impl_endOf.l0])
  | succ k1 =>
   have H := HA.out
   clear HA
   simp only [impl_endOf.l0] at H
   by_cases c3 : x5_1 < (l0.length : Int)
   ·rw [if_pos c3] at H
    have c3b0 := decide_eq_true c3
    clear c3
    obtain ⟨c4b0, H⟩ := ifd_ H
    obtain ⟨c5b0, H⟩ := ifd_ H
    obtain ⟨c6b0, H⟩ := ifd_ H
    by_cases c7 : ((rd_T45 l0 x5_1).f1) > ((rd_T45 l0 a1).f1)
    ·rw [if_pos c7] at H
     have c7b0 := decide_eq_true c7
     clear c7
     have H' := Aside0.mk H
     clear H
     obtain ⟨p552, q552, ad552, e552, hx552_0, hx552_1⟩ := ato45_ HR0 x5_1
     cases e552
     obtain ⟨p553, q553, ad553, e553, hx553_0, hx553_1⟩ := ato45_ HR0 a1
     obtain rfl : ad552 = ad553 := (by injection e553)
     go_wp2
     repeat (go_quiet (fail); try go_wp2)
     go_roundg k1
     case measure => have := HK1.out; omega
     case rel => exact ⟨(wrap64 (x5_1 + 1)), z9_, H', ⟨z140_⟩, z64_⟩
    ·rw [if_neg c7] at H
     have c7b0 := decide_eq_false c7
     clear c7
     obtain rfl := Option.some.inj H
     obtain ⟨p552, q552, ad552, e552, hx552_0, hx552_1⟩ := ato45_ HR0 x5_1
     cases e552
     obtain ⟨p553, q553, ad553, e553, hx553_0, hx553_1⟩ := ato45_ HR0 a1
     obtain rfl : ad552 = ad553 := (by injection e553)
     go_wp2
     repeat (go_quiet (fail); try go_wp2)
     go_ret
     exact ⟨z9_, z64_⟩
   ·rw [if_neg c3] at H
    have c3b0 := decide_eq_false c3
    clear c3
    obtain rfl := Option.some.inj H
    go_wp2
    repeat (go_quiet (fail); try go_wp2)
    go_ret
    exact ⟨z9_, z64_⟩

/-! ### impl_Under: function 42 -/
def impl_Under.f (k : Nat) (l0 : List (S45)) (a1 : Int) (a2 : Int) : Option (Bool) := (impl_hasNode.f k l0 a1).bind fun t554 => (if t554 = true then ((impl_hasNode.f k l0 a2).bind fun t555 => (if t555 = true then (if a1 < a2 then ((impl_endOf.f k l0 a1).bind fun t556 => (some (decide (a2 < t556)))) else (some false)) else (some false))) else (some false))
set_option maxHeartbeats 8000000 in
set_option maxRecDepth 100000 in
theorem impl_Under.calls (k : Nat) (A0 : Option Addr) (c0 : Nat) (l0 : List (S45)) (a1 : Int) (a2 : Int) (r : Bool) (w : World) (hr0 : Kd.C k45 w A0 l0.length l0) (hc0 : l0.length ≤ c0) (h : impl_Under.f k l0 a1 a2 = some r) :
  Calls Try.prog 42 #[.slice A0 l0.length c0, .int .i64 a1, .int .i64 a2] w fun e w' => e = .returned (.bool r) ∧ Below w.heap.size w w' := by
 have HR0 := Aside0.mk hr0
 have HC0 := Aside0.mk hc0
 clear hr0 hc0
 have HB := Aside0.mk (Below.refl w.heap.size w)
 have H : ((impl_hasNode.f k l0 a1).bind fun t554 => (if t554 = true then ((impl_hasNode.f k l0 a2).bind fun t555 => (if t555 = true then (if a1 < a2 then ((impl_endOf.f k l0 a1).bind fun t556 => (some (decide (a2 < t556)))) else (some false)) else (some false))) else (some false))) = some r := h
 clear h
 obtain ⟨t554, A4, H⟩ := bnd_ H
 by_cases c5 : t554 = true
 ·subst c5
  replace H := ift_ H
  obtain ⟨t555, A6, H⟩ := bnd_ H
  by_cases c7 : t555 = true
  ·subst c7
   replace H := ift_ H
   by_cases c8 : a1 < a2
   ·rw [if_pos c8] at H
    have c8b0 := decide_eq_true c8
    clear c8
    obtain ⟨t556, A9, H⟩ := bnd_ H
    obtain rfl := Option.some.inj H
    go_enter Try.func42, Try.ntmps42
    go_wp2_with (first | ((with_reducible refine gate_callee (f := 79) rfl ?_); refine goesL_ (some 9) rfl rfl Try.func79 (by kernel_rfl) rfl #[.slice A0 l0.length c0, .int .i64 a1] rfl z4_ ?_; (with_reducible refine (impl_hasNode.calls k _ _ l0 a1 true _ ?side1 ?side2 A4.out).mono ?_); (case side1 => exact z11_); (case side2 => exact HC0.out); rintro e w10 ⟨rfl, hb⟩; refine ⟨_, rfl, ?_⟩; replace HB := Aside0.mk (below_step z0_ hb); (try clear hb)) | (go_at_call 79; (with_reducible refine (impl_hasNode.calls k _ _ l0 a2 true _ ?side1 ?side2 A6.out).mono ?_); (case side1 => exact z8_); (case side2 => exact HC0.out); rintro e w11 ⟨rfl, hb⟩; replace HB := Aside0.mk (below_step z0_ hb); (try clear hb)) | (go_at_call 80; (with_reducible refine (impl_endOf.calls k _ _ l0 a1 t556 _ ?side1 ?side2 A9.out).mono ?_); (case side1 => exact z8_); (case side2 => exact HC0.out); rintro e w' ⟨rfl, ⟨nd, rfl⟩⟩))
    go_ret
    exact ⟨z7_, z0_⟩
   ·rw [if_neg c8] at H
    have c8b0 := decide_eq_false c8
    clear c8
    obtain rfl := Option.some.inj H
    go_enter Try.func42, Try.ntmps42
    go_wp2_with (first | ((with_reducible refine gate_callee (f := 79) rfl ?_); refine goesL_ (some 9) rfl rfl Try.func79 (by kernel_rfl) rfl #[.slice A0 l0.length c0, .int .i64 a1] rfl z4_ ?_; (with_reducible refine (impl_hasNode.calls k _ _ l0 a1 true _ ?side1 ?side2 A4.out).mono ?_); (case side1 => exact z11_); (case side2 => exact HC0.out); rintro e w12 ⟨rfl, hb⟩; refine ⟨_, rfl, ?_⟩; replace HB := Aside0.mk (below_step z0_ hb); (try clear hb)) | (go_at_call 79; (with_reducible refine (impl_hasNode.calls k _ _ l0 a2 true _ ?side1 ?side2 A6.out).mono ?_); (case side1 => exact z8_); (case side2 => exact HC0.out); rintro e w13 ⟨rfl, hb⟩; replace HB := Aside0.mk (below_step z0_ hb); (try clear hb)))
    go_ret
    exact ⟨z7_, z0_⟩
  ·replace c7 := Bool.eq_false_iff.mpr c7
   subst c7
   replace H := iff_ H
   obtain rfl := Option.some.inj H
   go_enter Try.func42, Try.ntmps42
   go_wp2_with (first | ((with_reducible refine gate_callee (f := 79) rfl ?_); refine goesL_ (some 9) rfl rfl Try.func79 (by kernel_rfl) rfl #[.slice A0 l0.length c0, .int .i64 a1] rfl z4_ ?_; (with_reducible refine (impl_hasNode.calls k _ _ l0 a1 true _ ?side1 ?side2 A4.out).mono ?_); (case side1 => exact z11_); (case side2 => exact HC0.out); rintro e w14 ⟨rfl, hb⟩; refine ⟨_, rfl, ?_⟩; replace HB := Aside0.mk (below_step z0_ hb); (try clear hb)) | (go_at_call 79; (with_reducible refine (impl_hasNode.calls k _ _ l0 a2 false _ ?side1 ?side2 A6.out).mono ?_); (case side1 => exact z8_); (case side2 => exact HC0.out); rintro e w15 ⟨rfl, hb⟩; replace HB := Aside0.mk (below_step z0_ hb); (try clear hb)))
   go_ret
   exact ⟨z7_, z0_⟩
 ·replace c5 := Bool.eq_false_iff.mpr c5
  subst c5
  replace H := iff_ H
  obtain rfl := Option.some.inj H
  go_enter Try.func42, Try.ntmps42
  go_wp2_with (first | ((with_reducible refine gate_callee (f := 79) rfl ?_); refine goesL_ (some 9) rfl rfl Try.func79 (by kernel_rfl) rfl #[.slice A0 l0.length c0, .int .i64 a1] rfl z4_ ?_; (with_reducible refine (impl_hasNode.calls k _ _ l0 a1 false _ ?side1 ?side2 A4.out).mono ?_); (case side1 => exact z11_); (case side2 => exact HC0.out); rintro e w16 ⟨rfl, hb⟩; refine ⟨_, rfl, ?_⟩; replace HB := Aside0.mk (below_step z0_ hb); (try clear hb)))
  go_ret
  exact ⟨z7_, z0_⟩

/-! ### impl_Kept: function 11 -/
mutual
def impl_Kept.j0 : Nat → List (S45) → List (S45) → List Int → Bool → Option ((List (S45)))
 | 0, _, _, _, _ => none
 | k + 1, x0, x5, x6, x22 => if x22 = true then (some x5) else (impl_Kept.l0 k x0 x5 x6 x0 (x0.length : Int) 0)
def impl_Kept.l0 : Nat → List (S45) → List (S45) → List Int → List (S45) → Int → Int → Option ((List (S45)))
 | 0, _, _, _, _, _, _ => none
 | k + 1, x0, x5, x6, x24, x25, x26 => if x26 < x25 then (if 0 ≤ x26 then (if x26 < (x24.length : Int) then ((slices_Contains_int_int.f k x6 x26).bind fun t567 => (if t567 = true then (impl_Kept.l0 k x0 x5 x6 x24 x25 (wrap64 (x26 + 1))) else (impl_Kept.l1 k x0 x5 x6 x26 ((rd_T45 x24 x26).f1) x24 x25 x26 x6 (x6.length : Int) 0 ((rd_T45 x24 x26).f0) ((rd_T45 x24 x26).f1)))) else (none)) else (none)) else (some x5)
def impl_Kept.l1 : Nat → List (S45) → List (S45) → List Int → Int → Int → List (S45) → Int → Int → List Int → Int → Int → Int → Int → Option ((List (S45)))
 | 0, _, _, _, _, _, _, _, _, _, _, _, _, _ => none
 | k + 1, x0, x5, x6, x7, x9, x24, x25, x26, x36, x37, x38, x567000, x567001 => if x38 < x37 then (if 0 ≤ x38 then (if x38 < (x36.length : Int) then ((impl_Under.f k x0 (rd x36 x38) x7).bind fun t569 => (if t569 = true then (impl_Kept.l1 k x0 x5 x6 x7 (wrap64 (x9 - 1)) x24 x25 x26 x36 x37 (wrap64 (x38 + 1)) x567000 x567001) else (impl_Kept.l1 k x0 x5 x6 x7 x9 x24 x25 x26 x36 x37 (wrap64 (x38 + 1)) x567000 x567001))) else (none)) else (none)) else (if x5.length < 8796093022208 then (impl_Kept.l0 k x0 (x5 ++ [(⟨x567000, x9⟩ : S45)]) x6 x24 x25 (wrap64 (x26 + 1))) else (none))
end
def impl_Kept.f (k : Nat) (l0 : List (S45)) (l1 : List (S47)) : Option ((List (S45))) := (some (([] : List (S45)) : List (S45))).bind fun y557 => ((impl_Unmapped.f k l0 l1).bind fun t560 => ((impl_TreeOk.f k l0).bind fun t563 => (if t563 = true then ((slices_Contains_int_int.f k t560 0).bind fun t564 => (impl_Kept.j0 k l0 y557 t560 t564)) else (impl_Kept.j0 k l0 y557 t560 true))))
set_option maxHeartbeats 8000000 in
set_option maxRecDepth 100000 in
theorem impl_Kept.calls (k : Nat) (A0 : Option Addr) (c0 : Nat) (l0 : List (S45)) (A1 : Option Addr) (c1 : Nat) (l1 : List (S47)) (r : List (S45)) (w : World) (hr0 : Kd.C k45 w A0 l0.length l0) (hc0 : l0.length ≤ c0) (hr1 : Kd.C k47 w A1 l1.length l1) (hc1 : l1.length ≤ c1) (h : impl_Kept.f k l0 l1 = some r) :
  Calls Try.prog 11 #[.slice A0 l0.length c0, .slice A1 l1.length c1] w fun e w' => ∃ v0_ : Value, e = .returned (v0_) ∧ Kd.R k45 45 w' w.heap.size (fun _ => True) v0_ r ∧ Below w.heap.size w w' := by
 have hu45 := Try.underlying45
 have HR0 := Aside0.mk hr0
 have HC0 := Aside0.mk hc0
 clear hr0 hc0
 have HR1 := Aside0.mk hr1
 have HC1 := Aside0.mk hc1
 clear hr1 hc1
 have HB := Aside0.mk (Below.refl w.heap.size w)
 have H : ((some (([] : List (S45)) : List (S45))).bind fun y557 => ((impl_Unmapped.f k l0 l1).bind fun t560 => ((impl_TreeOk.f k l0).bind fun t563 => (if t563 = true then ((slices_Contains_int_int.f k t560 0).bind fun t564 => (impl_Kept.j0 k l0 y557 t560 t564)) else (impl_Kept.j0 k l0 y557 t560 true))))) = some r := h
 clear h
 first | ((with_reducible have hz_ := gy_ H); obtain ⟨y557, Ny557, H⟩ := hz_) | (generalize hy_ : ((([] : List (S45))) : List (S45)) = y557 at H; have Ny557 := Aside0.mk hy_.symm; clear hy_)
 obtain ⟨t560, A3, H⟩ := bnd_ H
 have HC4 := Aside0.mk H
 clear H
 go_enter Try.func11, Try.ntmps11
 go_upto_region 2 with (first | ((with_reducible refine gate_dst (N := 12) rfl ?_); refine Kd.R_lit k45 _ 45 ?hg (N := 12) ?hd (xs := ([] : List (S45))) (inner := []) (ok := fun _ => True) (okp := fun _ => True) ?hr ?hp (fun _ hk => hk) trivial (Below.refl _ _) (Nat.le_refl _) (by simp) ?_; (case hd => rfl); (case hg => rfl); (case hr => exact z26_); (case hp => exact z162_); intro v558 w5 ho6 hb hg_ hnew_; clear hg_ hnew_; (first | rw [← Ny557.out] at ho6 | (simp only [Int.reduceToNat] at ho6; rw [← Ny557.out] at ho6)); have HO559 := Aside0.mk (Kd.R_lower ho6 (below_size z0_)); replace HB := Aside0.mk (below_step z0_ hb); clear hb ho6) | ((with_reducible refine gate_callee (f := 39) rfl ?_); refine goesL_ (some 15) rfl rfl Try.func39 (by kernel_rfl) rfl #[.slice A0 l0.length c0, .slice A1 l1.length c1] rfl z4_ ?_; (with_reducible refine (impl_Unmapped.calls k _ _ l0 _ _ l1 t560 _ ?side1 ?side2 ?side3 ?side4 A3.out).mono ?_); (case side1 => exact z8_); (case side2 => exact HC0.out); (case side3 => exact z24_); (case side4 => exact HC1.out); rintro e w7 ⟨v561, rfl, ho0, hb⟩; refine ⟨_, rfl, ?_⟩; replace HO559 := Aside0.mk (Kd.R_below z131_ hb); have HO562 := Aside0.mk (Kd.R_lower ho0 (below_size z0_)); replace HB := Aside0.mk (below_step z0_ hb); (try clear hb ho0)))
 (try simp only [Act.put, List.setIfInBounds_toArray, List.set_cons_zero, List.set_cons_succ])
 go_cut [22] (fun v22 wc => ∃ (kq : Nat) (x22_3 : Bool), v22 = .bool x22_3 ∧ Aside0 (impl_Kept.j0 kq l0 y557 t560 x22_3 = some r) ∧ Aside0 (kq ≤ k) ∧ Aside0 (Kd.R k45 45 wc w.heap.size (fun _ => True) v558 y557) ∧ Aside0 (Kd.R (Kd.int .i64) 3 wc w.heap.size (fun _ => True) v561 t560) ∧ Aside0 (Below w.heap.size w wc))
 case first =>
  have H := HC4.out
  clear HC4
  obtain ⟨t563, A8, H⟩ := bnd_ H
  by_cases c9 : t563 = true
  ·subst c9
   replace H := ift_ H
   obtain ⟨t564, A10, H⟩ := bnd_ H
   have H' := Aside0.mk H
   clear H
   go_wp2_with (first | ((with_reducible refine gate_callee (f := 40) rfl ?_); refine goesL_ (some 17) rfl rfl Try.func40 (by kernel_rfl) rfl #[.slice A0 l0.length c0] rfl z4_ ?_; (with_reducible refine (impl_TreeOk.calls k _ _ l0 true _ ?side1 ?side2 A8.out).mono ?_); (case side1 => exact z8_); (case side2 => exact HC0.out); rintro e w11 ⟨rfl, hb⟩; refine ⟨_, rfl, ?_⟩; replace HO559 := Aside0.mk (Kd.R_below z131_ hb); replace HO562 := Aside0.mk (Kd.R_below z155_ hb); replace HB := Aside0.mk (below_step z0_ hb); (try clear hb); obtain ⟨Ao12, co12, eo12⟩ := Kd.R_slice HO562.out; subst eo12) | (go_at_call 41; (with_reducible refine (slices_Contains_int_int.calls k _ _ t560 0 t564 _ ?side1 ?side2 A10.out).mono ?_); (case side1 => repeat (first | exact (Kd.R_reads' HO562.out).2.2 | (with_reducible refine Kd.C_alloc ?_ _) | (with_reducible refine Kd.C_drewN ?_ _) | (with_reducible refine Kd.C_drew ?_))); (case side2 => exact (Kd.R_reads' HO562.out).2.1); rintro e w' ⟨rfl, ⟨nd, rfl⟩⟩))
   go_meet
   case rel => exact ⟨_, (t564), z9_, H', ⟨z185_⟩, ⟨z131_⟩, ⟨z155_⟩, ⟨z0_⟩⟩
  ·replace c9 := Bool.eq_false_iff.mpr c9
   subst c9
   replace H := iff_ H
   have H' := Aside0.mk H
   clear H
   go_wp2_with (first | ((with_reducible refine gate_callee (f := 40) rfl ?_); refine goesL_ (some 17) rfl rfl Try.func40 (by kernel_rfl) rfl #[.slice A0 l0.length c0] rfl z4_ ?_; (with_reducible refine (impl_TreeOk.calls k _ _ l0 false _ ?side1 ?side2 A8.out).mono ?_); (case side1 => exact z8_); (case side2 => exact HC0.out); rintro e w13 ⟨rfl, hb⟩; refine ⟨_, rfl, ?_⟩; replace HO559 := Aside0.mk (Kd.R_below z131_ hb); replace HO562 := Aside0.mk (Kd.R_below z155_ hb); replace HB := Aside0.mk (below_step z0_ hb); (try clear hb)))
   go_meet
   case rel => exact ⟨_, (true), z9_, H', ⟨z185_⟩, ⟨z131_⟩, ⟨z155_⟩, ⟨z0_⟩⟩
 case rest =>
  clear HC4
  try clear c1
  try clear p2
  try clear c3
  try clear c4
  try clear c9
  try clear c11
  obtain ⟨kq, x22_3, rfl, HA, HJ3, HO_5, HO_6, HB⟩ := hcut
  cases kq with
  | zero => exact absurd HA.out (by simp [impl_Kept.j0])
  | succ kj3 =>
   have H := HA.out
   clear HA
   simp only [impl_Kept.j0] at H
   by_cases c14 : x22_3 = true
   ·subst c14
    replace H := ift_ H
    obtain rfl := Option.some.inj H
    go_wp2
    go_ret
    exact ⟨_, z7_, z5_, z0_⟩
   ·replace c14 := Bool.eq_false_iff.mpr c14
    subst c14
    replace H := iff_ H
    have H' := Aside0.mk H
    clear H
    go_wp2
    go_loopg [5, 26] kj3 (fun kq v5 v26 w' => ∃ (x5_2 : List (S45)) (x26_2 : Int), v26 = .int .i64 x26_2 ∧ Aside0 (impl_Kept.l0 kq l0 x5_2 t560 l0 (l0.length : Int) x26_2 = some r) ∧ Aside0 (kq ≤ kj3) ∧ Aside0 (Kd.R k45 45 w' w.heap.size (fun _ => True) v5 x5_2) ∧ Aside0 (Kd.R (Kd.int .i64) 3 w' w.heap.size (fun _ => True) v561 t560) ∧ Aside0 (Below w.heap.size w w'))
    case atStart => exact ⟨(y557), (0), z9_, H', ⟨Nat.le_refl _⟩, ⟨z5_⟩, ⟨z23_⟩, ⟨z0_⟩⟩
    case round =>
     clear H'
     try clear c1
     try clear p2
     try clear c3
     try clear c4
     try clear c9
     try clear c11
     try clear c14
     try clear p2
     obtain ⟨x5_2, x26_2, rfl, HA, HK2, HO_5, HO_6, HB⟩ := hrel
     cases gk with
     | zero => exact absurd HA.out (by simp [impl_Kept.l0])
     | succ k2 =>
      have H := HA.out
      clear HA
      simp only [impl_Kept.l0] at H
      by_cases c15 : x26_2 < (l0.length : Int)
      ·rw [if_pos c15] at H
       have c15b0 := decide_eq_true c15
       clear c15
       obtain ⟨c16b0, H⟩ := ifd_ H
       obtain ⟨c17b0, H⟩ := ifd_ H
       obtain ⟨t567, A18, H⟩ := bnd_ H
       by_cases c19 : t567 = true
       ·subst c19
        replace H := ift_ H
        have H' := Aside0.mk H
        clear H
        obtain ⟨p565, q565, ad565, e565, hx565_0, hx565_1⟩ := atb45_ HR0 HB x26_2
        cases e565
        go_wp2_with (first | ((with_reducible refine gate_dst (N := 8) rfl ?_); refine box_event ?hg (N := 8) ?hd (cs := #[.int .i64 0, .int .i64 0]) (t := 45) ?hr ?_; (case hd => rfl); (case hg => rfl); (case hr => exact z26_); intro gb566 hg w20 hbox hb; replace HO_5 := Aside0.mk (Kd.R_below (Kd.R_elderB z5_ gb566 (Nat.le_of_eq hg.symm)) hb); replace HO_6 := Aside0.mk (Kd.R_below z23_ hb); have BK566 := Aside0.mk (hbox); have GW566 := Aside0.mk ((by rw [hg]; exact (below_size z0_) : w.heap.size ≤ gb566)); have GE566 := Aside0.mk ((by rw [hg]; exact (below_size z0_) : w.heap.size ≤ gb566)); replace HB := Aside0.mk (below_step z0_ hb); clear hb hbox hg; obtain ⟨hcz21_0, hcz21_1, hfz21_0, hfz21_1⟩ := bx2_ BK566.out; obtain ⟨Ao22, co22, eo22⟩ := Kd.R_slice HO_6.out; subst eo22) | ((with_reducible refine gate_callee (f := 41) rfl ?_); refine goesL_ (some 33) rfl rfl Try.func41 (by kernel_rfl) rfl #[.slice Ao22 t560.length co22, .int .i64 x26_2] rfl z4_ ?_; (with_reducible refine (slices_Contains_int_int.calls k2 _ _ t560 x26_2 true _ ?side1 ?side2 A18.out).mono ?_); (case side1 => refine (Kd.R_reads' (e := 3) (base := w.heap.size) (ok := fun k_ => True) (n := t560.length) (c := co22) ?_).2.2; exact z113_); (case side2 => exact (Kd.R_reads' HO_6.out).2.1); rintro e w' ⟨rfl, ⟨nd, rfl⟩⟩; refine ⟨_, rfl, ?_⟩))
        go_roundg k2
        case measure => have := HJ3.out; have := HK2.out; omega
        case rel => exact ⟨(x5_2), (wrap64 (x26_2 + 1)), z9_, H', ⟨by have := HJ3.out; have := HK2.out; omega⟩, ⟨by (with_reducible repeat (first | apply Kd.R_alloc | apply Kd.R_drewN | apply Kd.R_drew)); exact Kd.R_mono (Kd.R_far (p := ⟨gb566, 1, none⟩) (Kd.R_far (p := ⟨gb566, 0, none⟩) (Kd.R_mono HO_5.out (fun k_ hk => (⟨hk, hk.2⟩ : _ ∧ k_ ≠ gb566))) (fun _ hk => hk.2) (.int .i64 ((rd_T45 l0 x26_2).f0))) (fun _ hk => hk.2) (.int .i64 ((rd_T45 l0 x26_2).f1))) (fun _ hk => trivial)⟩, ⟨z83_⟩, ⟨z71_⟩⟩
       ·replace c19 := Bool.eq_false_iff.mpr c19
        subst c19
        replace H := iff_ H
        have H' := Aside0.mk H
        clear H
        obtain ⟨p565, q565, ad565, e565, hx565_0, hx565_1⟩ := atb45_ HR0 HB x26_2
        cases e565
        go_wp2_with (first | ((with_reducible refine gate_dst (N := 8) rfl ?_); refine box_event ?hg (N := 8) ?hd (cs := #[.int .i64 0, .int .i64 0]) (t := 45) ?hr ?_; (case hd => rfl); (case hg => rfl); (case hr => exact z26_); intro gb566 hg w23 hbox hb; replace HO_5 := Aside0.mk (Kd.R_below (Kd.R_elderB z5_ gb566 (Nat.le_of_eq hg.symm)) hb); replace HO_6 := Aside0.mk (Kd.R_below z23_ hb); have BK566 := Aside0.mk (hbox); have GW566 := Aside0.mk ((by rw [hg]; exact (below_size z0_) : w.heap.size ≤ gb566)); have GE566 := Aside0.mk ((by rw [hg]; exact (below_size z0_) : w.heap.size ≤ gb566)); replace HB := Aside0.mk (below_step z0_ hb); clear hb hbox hg; obtain ⟨hcz24_0, hcz24_1, hfz24_0, hfz24_1⟩ := bx2_ BK566.out; obtain ⟨Ao25, co25, eo25⟩ := Kd.R_slice HO_6.out; subst eo25) | ((with_reducible refine gate_callee (f := 41) rfl ?_); refine goesL_ (some 33) rfl rfl Try.func41 (by kernel_rfl) rfl #[.slice Ao25 t560.length co25, .int .i64 x26_2] rfl z4_ ?_; (with_reducible refine (slices_Contains_int_int.calls k2 _ _ t560 x26_2 false _ ?side1 ?side2 A18.out).mono ?_); (case side1 => refine (Kd.R_reads' (e := 3) (base := w.heap.size) (ok := fun k_ => True) (n := t560.length) (c := co25) ?_).2.2; exact z113_); (case side2 => exact (Kd.R_reads' HO_6.out).2.1); rintro e w' ⟨rfl, ⟨nd, rfl⟩⟩; refine ⟨_, rfl, ?_⟩))
        go_loopg [9, 38] k2 (fun kq v9 v38 w' => ∃ (x9_3 : Int) (x38_3 : Int), v9 = .int .i64 x9_3 ∧ v38 = .int .i64 x38_3 ∧ Aside0 (impl_Kept.l1 kq l0 x5_2 t560 x26_2 x9_3 l0 (l0.length : Int) x26_2 t560 (t560.length : Int) x38_3 ((rd_T45 l0 x26_2).f0) ((rd_T45 l0 x26_2).f1) = some r) ∧ Aside0 (kq ≤ k2) ∧ Aside0 (Kd.R k45 45 w' w.heap.size (fun k_ => k_ ≠ gb566) u5 x5_2) ∧ Aside0 (Kd.R (Kd.int .i64) 3 w' w.heap.size (fun _ => True) (.slice Ao25 t560.length co25) t560) ∧ Aside0 (Kd.R (Kd.int .i64) 3 w' w.heap.size (fun _ => True) (.slice Ao25 t560.length co25) t560) ∧ Aside0 (w'.heap[gb566]? = some (.cells #[.int .i64 ((rd_T45 l0 x26_2).f0), .int .i64 ((rd_T45 l0 x26_2).f1)] 45 (0, 0))) ∧ Aside0 (Below w.heap.size w w'))
        case atStart => exact ⟨((rd_T45 l0 x26_2).f1), (0), z9_, z9_, H', ⟨Nat.le_refl _⟩, ⟨by (with_reducible repeat (first | apply Kd.R_alloc | apply Kd.R_drewN | apply Kd.R_drew)); exact Kd.R_mono (Kd.R_far (p := ⟨gb566, 1, none⟩) (Kd.R_far (p := ⟨gb566, 0, none⟩) (Kd.R_mono HO_5.out (fun k_ hk => (⟨hk, hk.2⟩ : _ ∧ k_ ≠ gb566))) (fun _ hk => hk.2) (.int .i64 ((rd_T45 l0 x26_2).f0))) (fun _ hk => hk.2) (.int .i64 ((rd_T45 l0 x26_2).f1))) (fun _ hk => hk.1.2)⟩, ⟨z83_⟩, ⟨z83_⟩, ⟨by (with_reducible repeat (first | refine blk_drewN ?_ _ | refine blk_drew ?_ | refine blk_alloc ?_ _)); refine blk_put (cs := #[.int .i64 ((rd_T45 l0 x26_2).f0), .int .i64 0]) ?_ 1 _ rfl; (with_reducible repeat (first | refine blk_drewN ?_ _ | refine blk_drew ?_ | refine blk_alloc ?_ _)); refine blk_put (cs := #[.int .i64 0, .int .i64 0]) ?_ 0 _ rfl; (with_reducible repeat (first | refine blk_drewN ?_ _ | refine blk_drew ?_ | refine blk_alloc ?_ _)); exact BK566.out⟩, ⟨z71_⟩⟩
        case round =>
         clear H'
         try clear c1
         try clear p2
         try clear c3
         try clear c4
         try clear p5
         try clear q5
         try clear hx5
         try clear p6
         try clear c9
         try clear c11
         try clear c14
         try clear c15
         try clear c15b0
         try clear c16
         try clear c16b0
         try clear c17
         try clear c17b0
         try clear c19
         try clear hcz21_0
         try clear hcz21_1
         try clear hcz24_0
         try clear hcz24_1
         try clear hfz21_0
         try clear hfz21_1
         try clear hfz24_0
         try clear hfz24_1
         try clear hx565_0
         try clear hx565_1
         try clear p2
         try clear p565
         try clear q565
         obtain ⟨x9_3, x38_3, rfl, rfl, HA, HK3, HO_5, HO_6, HO_36, BK566, HB⟩ := hrel
         cases gk with
         | zero => exact absurd HA.out (by simp [impl_Kept.l1])
         | succ k3 =>
          have H := HA.out
          clear HA
          simp only [impl_Kept.l1] at H
          by_cases c26 : x38_3 < (t560.length : Int)
          ·rw [if_pos c26] at H
           have c26b0 := decide_eq_true c26
           clear c26
           obtain ⟨c27b0, H⟩ := ifd_ H
           obtain ⟨c28b0, H⟩ := ifd_ H
           obtain ⟨t569, A29, H⟩ := bnd_ H
           by_cases c30 : t569 = true
           ·subst c30
            replace H := ift_ H
            have H' := Aside0.mk H
            clear H
            have p568 : 0 ≤ (x38_3 : Int) := odt_
            have q568 : x38_3 < (t560.length : Int) := odt_
            obtain ⟨ad568, e568, hx568_0⟩ := Kd.at_int (Kd.R_reads' HO_36.out).2.2 x38_3 p568 q568
            cases e568
            replace p568 := eq_true p568
            replace q568 := eq_true q568
            go_wp2_with (first | ((with_reducible refine gate_callee (f := 42) rfl ?_); refine goesL_ (some 45) rfl rfl Try.func42 (by kernel_rfl) rfl #[.slice (some ad565) l0.length c0, .int .i64 (rd t560 x38_3), .int .i64 x26_2] rfl z4_ ?_; (with_reducible refine (impl_Under.calls k3 _ _ l0 (rd t560 x38_3) x26_2 true _ ?side1 ?side2 A29.out).mono ?_); (case side1 => exact z8_); (case side2 => exact HC0.out); rintro e w31 ⟨rfl, hb⟩; refine ⟨_, rfl, ?_⟩; replace HO_5 := Aside0.mk (Kd.R_below z5_ hb); replace HO_6 := Aside0.mk (Kd.R_below z23_ hb); replace HO_36 := Aside0.mk (Kd.R_below z132_ hb); replace BK566 := Aside0.mk (blk_below (g := gb566) (o := .cells #[.int .i64 ((rd_T45 l0 x26_2).f0), .int .i64 ((rd_T45 l0 x26_2).f1)] 45 (0, 0)) z112_ hb); replace HB := Aside0.mk (below_step z71_ hb); (try clear hb)))
            go_roundg k3
            case measure => have := HJ3.out; have := HK2.out; have := HK3.out; omega
            case rel => exact ⟨(wrap64 (x9_3 - 1)), (wrap64 (x38_3 + 1)), z9_, z9_, H', ⟨z214_⟩, ⟨z5_⟩, ⟨z23_⟩, ⟨z132_⟩, ⟨z112_⟩, ⟨z71_⟩⟩
           ·replace c30 := Bool.eq_false_iff.mpr c30
            subst c30
            replace H := iff_ H
            have H' := Aside0.mk H
            clear H
            have p568 : 0 ≤ (x38_3 : Int) := odt_
            have q568 : x38_3 < (t560.length : Int) := odt_
            obtain ⟨ad568, e568, hx568_0⟩ := Kd.at_int (Kd.R_reads' HO_36.out).2.2 x38_3 p568 q568
            cases e568
            replace p568 := eq_true p568
            replace q568 := eq_true q568
            go_wp2_with (first | ((with_reducible refine gate_callee (f := 42) rfl ?_); refine goesL_ (some 45) rfl rfl Try.func42 (by kernel_rfl) rfl #[.slice (some ad565) l0.length c0, .int .i64 (rd t560 x38_3), .int .i64 x26_2] rfl z4_ ?_; (with_reducible refine (impl_Under.calls k3 _ _ l0 (rd t560 x38_3) x26_2 false _ ?side1 ?side2 A29.out).mono ?_); (case side1 => exact z8_); (case side2 => exact HC0.out); rintro e w32 ⟨rfl, hb⟩; refine ⟨_, rfl, ?_⟩; replace HO_5 := Aside0.mk (Kd.R_below z5_ hb); replace HO_6 := Aside0.mk (Kd.R_below z23_ hb); replace HO_36 := Aside0.mk (Kd.R_below z132_ hb); replace BK566 := Aside0.mk (blk_below (g := gb566) (o := .cells #[.int .i64 ((rd_T45 l0 x26_2).f0), .int .i64 ((rd_T45 l0 x26_2).f1)] 45 (0, 0)) z112_ hb); replace HB := Aside0.mk (below_step z71_ hb); (try clear hb)))
            go_roundg k3
            case measure => have := HJ3.out; have := HK2.out; have := HK3.out; omega
            case rel => exact ⟨(x9_3), (wrap64 (x38_3 + 1)), z9_, z9_, H', ⟨z214_⟩, ⟨z5_⟩, ⟨z23_⟩, ⟨z132_⟩, ⟨z112_⟩, ⟨z71_⟩⟩
          ·rw [if_neg c26] at H
           have c26b0 := decide_eq_false c26
           clear c26
           obtain ⟨c33, H⟩ := ifs_ H
           have LMc33 := Aside0.mk c33
           clear c33
           first | ((with_reducible have hz_ := gy_ H); obtain ⟨y570, Ny570, H⟩ := hz_) | (generalize hy_ : ((x5_2 ++ [(⟨((rd_T45 l0 x26_2).f0), x9_3⟩ : S45)]) : List (S45)) = y570 at H; have Ny570 := Aside0.mk hy_.symm; clear hy_)
           have H' := Aside0.mk H
           clear H
           obtain ⟨hcz34_0, hcz34_1, hfz34_0, hfz34_1⟩ := bx2_ BK566.out
           go_wp2_with (first | ((with_reducible refine gate_builtin (b := .append) (xs := #[.tmp 49, .tmp 54]) rfl ?_); at_builtin; refine Kd.R_append k45 (w0 := w) w.heap.size rfl (.tmp 49) (.tmp 54) 30 45 (.agg #[(.int .i64 0), (.int .i64 0)]) 16 rfl Try.underlying30 info45 rfl (by decide) (by omega) u5 x5_2 (⟨((rd_T45 l0 x26_2).f0), x9_3⟩ : S45) [.int .i64 ((rd_T45 l0 x26_2).f0), .int .i64 x9_3] (fun k_ => k_ ≠ gb566) (fun _ => False) rfl rfl ?aP (fun _ hk => hk.elim) ?aF ?aO ?aB ?aS ?aL ?_; (case aP => exact k45_mkM _ _ _ (⟨((rd_T45 l0 x26_2).f0), x9_3⟩ : S45)); (case aB => exact z71_); (case aF => exact (fun k_ hk => Kd.freshB (g := gb566) (o := .cells #[.int .i64 ((rd_T45 l0 x26_2).f0), .int .i64 ((rd_T45 l0 x26_2).f1)] 45 (0, 0)) z112_ k_ hk)); (case aO => exact z70_); (case aS => exact (below_size z71_)); (case aL => have := LMc33.out; omega); intro v571 w35 ho hb hg hat; rw [← Ny570.out] at ho; replace HO_6 := Aside0.mk (Kd.R_over' z23_ (Kd.R_typed z5_) (by decide) hg); replace HO_36 := Aside0.mk (Kd.R_over' z132_ (Kd.R_typed z5_) (by decide) hg); replace BK566 := Aside0.mk (blk_grown (g := gb566) (o := .cells #[.int .i64 ((rd_T45 l0 x26_2).f0), .int .i64 ((rd_T45 l0 x26_2).f1)] 45 (0, 0)) z112_ hg (Kd.R_away HO_5.out (fun _ hk => hk))); replace HB := Aside0.mk (hb); have HO572 := Aside0.mk (ho); clear HO_5; clear ho hb hg hat))
           go_roundg k3
           case measure => have := HJ3.out; have := HK2.out; have := HK3.out; omega
           case rel => exact ⟨(y570), (wrap64 (x26_2 + 1)), z9_, H', ⟨z214_⟩, ⟨by (with_reducible repeat (first | apply Kd.R_alloc | apply Kd.R_drewN | apply Kd.R_drew)); exact Kd.R_mono HO572.out (fun _ hk => trivial)⟩, ⟨z23_⟩, ⟨z71_⟩⟩
      ·rw [if_neg c15] at H
       have c15b0 := decide_eq_false c15
       clear c15
       obtain rfl := Option.some.inj H
       go_wp2
       go_ret
       exact ⟨_, z7_, z5_, z0_⟩

end Go.Proofs.Ytbiffnahknkoiaa.PFnKept
