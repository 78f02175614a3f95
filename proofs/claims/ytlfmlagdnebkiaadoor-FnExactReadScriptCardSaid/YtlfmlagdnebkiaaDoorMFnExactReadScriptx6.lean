/- Laid by a program of this session out of the kit's print for the law FnExactReadScript: what it says of the machine is proved here, function by function; each contract under the conditions that it names. -/
import Derived.Test.YtlfmlagdnebkiaaDoorShelf
import Derived.Lib.AppendIntMem
import Derived.Test.YtlfmlagdnebkiaaDoorMFnExactReadScriptx0
import Derived.Test.YtlfmlagdnebkiaaDoorMFnExactReadScriptx1
import Derived.Test.YtlfmlagdnebkiaaDoorMFnExactReadScriptx5
namespace Go.Proofs.YtlfmlagdnebkiaaDoor.PFnExactReadScript
open Go.RowKit Go.Proofs.YtlfmlagdnebkiaaDoorW.PrintWords Go.Proofs.YtlfmlagdnebkiaaDoorW.PrintLast Go.Proofs.YtlfmlagdnebkiaaDoorW.PrintMore
attribute [local go_sem] max2_int min2_int max_two min_two max_three min_three max_four min_four   -- for this text's walks alone
set_option linter.unusedVariables false
set_option linter.unusedSimpArgs false

/-! ### impl_ReadDec: function 20 -/
mutual
def impl_ReadDec.j0 : Nat → ByteArray → ByteArray → Int → Bool → Option (Int × Bool)
 | 0, _, _, _, _ => none
 | k + 1, x0, x4, x5, x16 => if x16 = true then (if 1 ≤ (x0.size : Int) then (impl_ReadDec.j1 k x0 (x0.extract 1 x0.size) (-1)) else (none)) else (impl_ReadDec.j1 k x0 x4 x5)
def impl_ReadDec.j1 : Nat → ByteArray → ByteArray → Int → Option (Int × Bool)
 | 0, _, _, _ => none
 | k + 1, x0, x4, x5 => (impl_within.f (x4.size : Int) 1 9).bind fun t228 => (if t228 = true then (impl_ReadDec.l0 k x0 x4 x5 0 (x4.size : Int) 0) else (some (0, false)))
def impl_ReadDec.l0 : Nat → ByteArray → ByteArray → Int → Int → Int → Int → Option (Int × Bool)
 | 0, _, _, _, _, _, _ => none
 | k + 1, x0, x4, x5, x6, x24, x25 => if x25 < x24 then (if 0 ≤ x25 then (if x25 < (x4.size : Int) then (if (bt x4 x25) < 48 then (some (0, false)) else (if (bt x4 x25) > 57 then (some (0, false)) else (impl_ReadDec.l0 k x0 x4 x5 (wrap64 ((wrap64 (10 * x6)) + (((bt x4 x25) - 48) % 256))) x24 (wrap64 (x25 + 1))))) else (none)) else (none)) else ((impl_Dec.f k (wrap64 (x5 * x6))).bind fun t229 => (if t229.toList = x0.toList then (some (wrap64 (x5 * x6), true)) else (some (0, false))))
end
def impl_ReadDec.f (k : Nat) (a0 : ByteArray) : Option (Int × Bool) := if (a0.size : Int) > 0 then (if 0 < (a0.size : Int) then (impl_ReadDec.j0 k a0 a0 1 ((bt a0 0) == 45)) else (none)) else (impl_ReadDec.j0 k a0 a0 1 false)
set_option maxHeartbeats 8000000 in
set_option maxRecDepth 100000 in
theorem impl_ReadDec.calls (k : Nat) (a0 : ByteArray) (r1 : Int) (r2 : Bool) (w : World) (hL : Laid w) (h : impl_ReadDec.f k a0 = some (r1, r2)) :
  Calls Tryd.prog 20 #[.string a0] w fun e w' => e = .returned (.tuple #[.int .i64 r1, .bool r2]) ∧ Below w.heap.size w w' := by
 have HB := Aside0.mk (Below.refl w.heap.size w)
 have H : (if (a0.size : Int) > 0 then (if 0 < (a0.size : Int) then (impl_ReadDec.j0 k a0 a0 1 ((bt a0 0) == 45)) else (none)) else (impl_ReadDec.j0 k a0 a0 1 false)) = some (r1, r2) := h
 clear h
 have HC2 := Aside0.mk H
 clear H
 go_enter Tryd.func20, Tryd.ntmps20
 go_upto_region 2 with (fail)
 go_cut [16] (fun v16 wc => ∃ (kq : Nat) (x16_1 : Bool), v16 = .bool x16_1 ∧ Aside0 (impl_ReadDec.j0 kq a0 a0 1 x16_1 = some (r1, r2)) ∧ Aside0 (kq ≤ k) ∧ Aside0 (Below w.heap.size w wc))
 case first =>
  have H := HC2.out
  clear HC2
  by_cases c3 : (a0.size : Int) > 0
  ·rw [if_pos c3] at H
   have c3b0 := decide_eq_true c3
   have c3b1 : decide (0 < a0.size) = true := decide_eq_true (by omega)
   clear c3
   (first | rw [c3b0] | rw [c3b1] | (simp only [i64_w, i32_w]; rw [c3b0]) | skip)
   obtain ⟨c4, H⟩ := ifs_ H
   have c4b0 := decide_eq_true c4
   have c4b1 : decide (0 < a0.size) = true := decide_eq_true (by omega)
   clear c4
   have H' := Aside0.mk H
   clear H
   have p5 : 0 ≤ (0 : Int) := (by omega)
   have q5 : 0 < a0.size := (by have : (0 : Int) < (a0.size : Int) := odt_; omega)
   have hx5 : ∀ h : 0 < a0.size, ((a0[0]'h).toNat : Int) = bt a0 0 := bt_at a0 0
   clear p5
   have qi5 : (0 < (a0.size : Int)) = True := eq_true (odt_)
   replace q5 := eq_true q5
   go_wp2
   go_meet
   case rel => exact ⟨_, (((bt a0 0) == 45)), z4_, H', ⟨z74_⟩, ⟨z0_⟩⟩
  ·rw [if_neg c3] at H
   have c3b0 := decide_eq_false c3
   have c3b1 : decide (0 < a0.size) = false := decide_eq_false (by omega)
   clear c3
   (first | rw [c3b0] | rw [c3b1] | (simp only [i64_w, i32_w]; rw [c3b0]) | skip)
   have H' := Aside0.mk H
   clear H
   go_wp2
   go_meet
   case rel => exact ⟨_, (false), z4_, H', ⟨z74_⟩, ⟨z0_⟩⟩
 case rest =>
  clear HC2
  try clear c2
  try clear p2
  try clear c3
  try clear c3b0
  try clear c3b1
  try clear c4
  try clear c4b0
  try clear c4b1
  try clear p5
  try clear q5
  try clear hx5
  try clear qi5
  try clear p5
  try clear q5
  obtain ⟨kq, x16_1, rfl, HA, HJ1, HB⟩ := hcut
  cases kq with
  | zero => exact absurd HA.out (by simp [impl_ReadDec.j0])
  | succ kj1 =>
   have H := HA.out
   clear HA
   simp only [impl_ReadDec.j0] at H
   have HC6 := Aside0.mk H
   clear H
   go_upto_if 16 with (fail)
   go_cut [4, 5] (fun v4 v5 wc => ∃ (kq : Nat) (x4_5 : ByteArray) (x5_5 : Int), v4 = .string x4_5 ∧ v5 = .int .i64 x5_5 ∧ Aside0 (impl_ReadDec.j1 kq a0 x4_5 x5_5 = some (r1, r2)) ∧ Aside0 (kq ≤ kj1) ∧ Aside0 (Below w.heap.size w wc))
   case first =>
    have H := HC6.out
    clear HC6
    by_cases c7 : x16_1 = true
    ·subst c7
     replace H := ift_ H
     obtain ⟨c8b0, c8b1, H⟩ := ife_ H
     have H' := Aside0.mk H
     clear H
     go_wp2
     go_meet
     case rel => exact ⟨_, (a0.extract 1 a0.size), ((-1)), z4_, z4_, H', ⟨by have := HJ1.out; first | omega | exact Nat.le_refl _⟩, ⟨z0_⟩⟩
    ·replace c7 := Bool.eq_false_iff.mpr c7
     subst c7
     replace H := iff_ H
     have H' := Aside0.mk H
     clear H
     go_wp2
     go_meet
     case rel => exact ⟨_, (a0), (1), z4_, z4_, H', ⟨by have := HJ1.out; first | omega | exact Nat.le_refl _⟩, ⟨z0_⟩⟩
   case rest =>
    clear HC6
    try clear c2
    try clear p2
    try clear c3
    try clear c3b0
    try clear c3b1
    try clear c4
    try clear c4b0
    try clear c4b1
    try clear p5
    try clear q5
    try clear hx5
    try clear qi5
    try clear c7
    try clear c8
    try clear c8b0
    try clear c8b1
    try clear p2
    try clear p5
    try clear q5
    obtain ⟨kq, x4_5, x5_5, rfl, rfl, HA, HJ5, HB⟩ := hcut
    cases kq with
    | zero => exact absurd HA.out (by simp [impl_ReadDec.j1])
    | succ kj5 =>
     have H := HA.out
     clear HA
     simp only [impl_ReadDec.j1] at H
     obtain ⟨t228, A9, H⟩ := bnd_ H
     by_cases c10 : t228 = true
     ·subst c10
      replace H := ift_ H
      have H' := Aside0.mk H
      clear H
      go_wp2_with (first | ((with_reducible refine gate_callee (f := 35) rfl ?_); refine goesL_ (some 21) rfl rfl Tryd.func35 (by kernel_rfl) rfl #[.int .i64 (x4_5.size : Int), .int .i64 1, .int .i64 9] rfl z1_ ?_; (with_reducible refine (impl_within.calls (x4_5.size : Int) 1 9 true _ A9.out).mono ?_); rintro e w' ⟨rfl, ⟨nd, rfl⟩⟩; refine ⟨_, rfl, ?_⟩))
      go_loopg [6, 25] kj5 (fun kq v6 v25 w' => ∃ (x6_3 : Int) (x25_3 : Int), v6 = .int .i64 x6_3 ∧ v25 = .int .i64 x25_3 ∧ Aside0 (impl_ReadDec.l0 kq a0 x4_5 x5_5 x6_3 (x4_5.size : Int) x25_3 = some (r1, r2)) ∧ Aside0 (kq ≤ kj5) ∧ Aside0 (Below w.heap.size w w'))
      case atStart => exact ⟨(0), (0), z4_, z4_, H', ⟨Nat.le_refl _⟩, ⟨z0_⟩⟩
      case round =>
       clear H'
       try clear c1
       try clear c2
       try clear p2
       try clear c3
       try clear c3b0
       try clear c3b1
       try clear c4
       try clear c4b0
       try clear c4b1
       try clear p5
       try clear q5
       try clear hx5
       try clear qi5
       try clear c7
       try clear c8
       try clear c8b0
       try clear c8b1
       try clear c10
       try clear p2
       try clear p5
       try clear q5
       obtain ⟨x6_3, x25_3, rfl, rfl, HA, HK3, HB⟩ := hrel
       cases gk with
       | zero => exact absurd HA.out (by simp [impl_ReadDec.l0])
       | succ k3 =>
        have H := HA.out
        clear HA
        simp only [impl_ReadDec.l0] at H
        by_cases c11 : x25_3 < (x4_5.size : Int)
        ·rw [if_pos c11] at H
         have c11b0 := decide_eq_true c11
         clear c11
         obtain ⟨c12b0, H⟩ := ifd_ H
         obtain ⟨c13b0, H⟩ := ifd_ H
         by_cases c15 : (bt x4_5 x25_3) < 48
         ·rw [if_pos c15] at H
          have c15b0 := decide_eq_true c15
          clear c15
          simp only [Option.some.injEq, Prod.mk.injEq] at H
          obtain ⟨rfl, rfl⟩ := H
          have p14 : 0 ≤ (x25_3 : Int) := odt_
          have q14 : x25_3 < (x4_5.size : Int) := odt_
          have hx14 := bt_at x4_5 x25_3
          replace p14 := eq_true p14
          replace q14 := eq_true q14
          go_wp2
          go_ret2
          exact ⟨z2_, z0_⟩
         ·rw [if_neg c15] at H
          have c15b0 := decide_eq_false c15
          clear c15
          by_cases c17 : (bt x4_5 x25_3) > 57
          ·rw [if_pos c17] at H
           have c17b0 := decide_eq_true c17
           clear c17
           simp only [Option.some.injEq, Prod.mk.injEq] at H
           obtain ⟨rfl, rfl⟩ := H
           have p14 : 0 ≤ (x25_3 : Int) := odt_
           have q14 : x25_3 < (x4_5.size : Int) := odt_
           have hx14 := bt_at x4_5 x25_3
           replace p14 := eq_true p14
           replace q14 := eq_true q14
           have p16 : 0 ≤ (x25_3 : Int) := odt_
           have q16 : x25_3 < (x4_5.size : Int) := odt_
           have hx16 := bt_at x4_5 x25_3
           replace p16 := eq_true p16
           replace q16 := eq_true q16
           go_wp2
           go_ret2
           exact ⟨z2_, z0_⟩
          ·rw [if_neg c17] at H
           have c17b0 := decide_eq_false c17
           clear c17
           have H' := Aside0.mk H
           clear H
           have p14 : 0 ≤ (x25_3 : Int) := odt_
           have q14 : x25_3 < (x4_5.size : Int) := odt_
           have hx14 := bt_at x4_5 x25_3
           replace p14 := eq_true p14
           replace q14 := eq_true q14
           have p16 : 0 ≤ (x25_3 : Int) := odt_
           have q16 : x25_3 < (x4_5.size : Int) := odt_
           have hx16 := bt_at x4_5 x25_3
           replace p16 := eq_true p16
           replace q16 := eq_true q16
           have p18 : 0 ≤ (x25_3 : Int) := odt_
           have q18 : x25_3 < (x4_5.size : Int) := odt_
           have hx18 := bt_at x4_5 x25_3
           replace p18 := eq_true p18
           replace q18 := eq_true q18
           go_wp2
           go_roundg k3
           case measure => have := HJ1.out; have := HJ5.out; have := HK3.out; omega
           case rel => exact ⟨(wrap64 ((wrap64 (10 * x6_3)) + (((bt x4_5 x25_3) - 48) % 256))), (wrap64 (x25_3 + 1)), z4_, z4_, H', ⟨by have := HJ1.out; have := HJ5.out; have := HK3.out; omega⟩, ⟨z0_⟩⟩
        ·rw [if_neg c11] at H
         have c11b0 := decide_eq_false c11
         clear c11
         obtain ⟨t229, A19, H⟩ := bnd_ H
         by_cases c20 : t229.toList = a0.toList
         ·rw [if_pos c20] at H
          have c20b0 : (t229.toList == a0.toList) = true := beq_iff_eq.mpr c20
          have c20b1 : (t229.toList != a0.toList) = false := bne_eq_false_iff_eq.mpr c20
          clear c20
          simp only [Option.some.injEq, Prod.mk.injEq] at H
          obtain ⟨rfl, rfl⟩ := H
          go_wp2_with (first | ((with_reducible refine gate_callee (f := 36) rfl ?_); refine goesL_ (some 50) rfl rfl Tryd.func36 (by kernel_rfl) rfl #[.int .i64 (wrap64 (x5_5 * x6_3))] rfl z1_ ?_; (with_reducible refine (impl_Dec.calls k3 (wrap64 (x5_5 * x6_3)) t229 _ (hL.below z7_) A19.out).mono ?_); rintro e w21 ⟨rfl, hb⟩; refine ⟨_, rfl, ?_⟩; replace HB := Aside0.mk (below_step z0_ hb); (try clear hb)))
          go_ret2
          exact ⟨z2_, z0_⟩
         ·rw [if_neg c20] at H
          have c20b0 : (t229.toList == a0.toList) = false := beq_eq_false_iff_ne.mpr c20
          have c20b1 : (t229.toList != a0.toList) = true := bne_iff_ne.mpr c20
          simp only [Option.some.injEq, Prod.mk.injEq] at H
          obtain ⟨rfl, rfl⟩ := H
          go_wp2_with (first | ((with_reducible refine gate_callee (f := 36) rfl ?_); refine goesL_ (some 50) rfl rfl Tryd.func36 (by kernel_rfl) rfl #[.int .i64 (wrap64 (x5_5 * x6_3))] rfl z1_ ?_; (with_reducible refine (impl_Dec.calls k3 (wrap64 (x5_5 * x6_3)) t229 _ (hL.below z7_) A19.out).mono ?_); rintro e w22 ⟨rfl, hb⟩; refine ⟨_, rfl, ?_⟩; replace HB := Aside0.mk (below_step z0_ hb); (try clear hb)))
          go_ret2
          exact ⟨z2_, z0_⟩
     ·replace c10 := Bool.eq_false_iff.mpr c10
      subst c10
      replace H := iff_ H
      simp only [Option.some.injEq, Prod.mk.injEq] at H
      obtain ⟨rfl, rfl⟩ := H
      go_wp2_with (first | ((with_reducible refine gate_callee (f := 35) rfl ?_); refine goesL_ (some 21) rfl rfl Tryd.func35 (by kernel_rfl) rfl #[.int .i64 (x4_5.size : Int), .int .i64 1, .int .i64 9] rfl z1_ ?_; (with_reducible refine (impl_within.calls (x4_5.size : Int) 1 9 false _ A9.out).mono ?_); rintro e w' ⟨rfl, ⟨nd, rfl⟩⟩; refine ⟨_, rfl, ?_⟩))
      go_ret2
      exact ⟨z2_, z0_⟩

/-! ### impl_LabelName: function 37 -/
def impl_LabelName.f (a0 : Int) : Option (ByteArray) := (spec_LabelOk.f a0).bind fun t230 => (if t230 = true then ((some (([(⟨#[100, 105, 118]⟩ : ByteArray), (⟨#[112]⟩ : ByteArray), (⟨#[97]⟩ : ByteArray), (⟨#[117, 108]⟩ : ByteArray), (⟨#[108, 105]⟩ : ByteArray), (⟨#[98]⟩ : ByteArray)] : List ByteArray) : List ByteArray)).bind fun y231 => (if 0 ≤ a0 then (if a0 < (y231.length : Int) then (some (rdOf ByteArray.empty y231 a0)) else (none)) else (none))) else (some (⟨#[]⟩ : ByteArray)))
set_option maxHeartbeats 8000000 in
set_option maxRecDepth 100000 in
theorem impl_LabelName.calls (a0 : Int) (r : ByteArray) (w : World) (h : impl_LabelName.f a0 = some r) :
  Calls Tryd.prog 37 #[.int .i64 a0] w fun e w' => e = .returned (.string r) ∧ Below w.heap.size w w' := by
 have hv : a0 < 0 ∨ 5 < a0 ∨ a0 = 0 ∨ a0 = 1 ∨ a0 = 2 ∨ a0 = 3 ∨ a0 = 4 ∨ a0 = 5 := by omega
 rcases hv with hv | hv | rfl | rfl | rfl | rfl | rfl | rfl
 ·have e : r = ⟨#[]⟩ := by
   have h1 : ¬ a0 ≥ 0 := by omega
   simp only [impl_LabelName.f, spec_LabelOk.f, spec_l1In.f, if_neg h1, Option.bind_some] at h
   exact (Option.some.inj (by simpa using h)).symm
  have hb_ : decide (0 ≤ a0) = false := decide_eq_false (by omega)
  clear h hv
  subst e
  go_enter Tryd.func37, Tryd.ntmps37
  go_wp2
  go_ret
  exact ⟨rfl, z33_⟩
 ·have e : r = ⟨#[]⟩ := by
   have h1 : a0 ≥ 0 := by omega
   have h2 : ¬ a0 ≤ 5 := by omega
   simp only [impl_LabelName.f, spec_LabelOk.f, spec_l1In.f, if_pos h1, Option.bind_some, decide_eq_false h2] at h
   exact (Option.some.inj (by simpa using h)).symm
  have hb_ : decide (0 ≤ a0) = true := decide_eq_true (by omega)
  have hc_ : decide (a0 ≤ 5) = false := decide_eq_false (by omega)
  clear h hv
  subst e
  go_enter Tryd.func37, Tryd.ntmps37
  go_wp2
  go_ret
  exact ⟨rfl, z33_⟩
 ·have e : r = ⟨#[100, 105, 118]⟩ := by
   have h1 : impl_LabelName.f 0 = some ⟨#[100, 105, 118]⟩ := by rfl
   exact Option.some.inj (h.symm.trans h1)
  clear h
  subst e
  go_enter Tryd.func37, Tryd.ntmps37
  go_wp2
  go_ret
  exact ⟨rfl, z33_⟩
 ·have e : r = ⟨#[112]⟩ := by
   have h1 : impl_LabelName.f 1 = some ⟨#[112]⟩ := by rfl
   exact Option.some.inj (h.symm.trans h1)
  clear h
  subst e
  go_enter Tryd.func37, Tryd.ntmps37
  go_wp2
  go_ret
  exact ⟨rfl, z33_⟩
 ·have e : r = ⟨#[97]⟩ := by
   have h1 : impl_LabelName.f 2 = some ⟨#[97]⟩ := by rfl
   exact Option.some.inj (h.symm.trans h1)
  clear h
  subst e
  go_enter Tryd.func37, Tryd.ntmps37
  go_wp2
  go_ret
  exact ⟨rfl, z33_⟩
 ·have e : r = ⟨#[117, 108]⟩ := by
   have h1 : impl_LabelName.f 3 = some ⟨#[117, 108]⟩ := by rfl
   exact Option.some.inj (h.symm.trans h1)
  clear h
  subst e
  go_enter Tryd.func37, Tryd.ntmps37
  go_wp2
  go_ret
  exact ⟨rfl, z33_⟩
 ·have e : r = ⟨#[108, 105]⟩ := by
   have h1 : impl_LabelName.f 4 = some ⟨#[108, 105]⟩ := by rfl
   exact Option.some.inj (h.symm.trans h1)
  clear h
  subst e
  go_enter Tryd.func37, Tryd.ntmps37
  go_wp2
  go_ret
  exact ⟨rfl, z33_⟩
 ·have e : r = ⟨#[98]⟩ := by
   have h1 : impl_LabelName.f 5 = some ⟨#[98]⟩ := by rfl
   exact Option.some.inj (h.symm.trans h1)
  clear h
  subst e
  go_enter Tryd.func37, Tryd.ntmps37
  go_wp2
  go_ret
  exact ⟨rfl, z33_⟩

/-! ### impl_LabelOf: function 21 -/
def impl_LabelOf.l0 : Nat → ByteArray → Int → Option (Int)
 | 0, _, _ => none
 | k + 1, x0, x4 => if x4 < 6 then ((impl_LabelName.f x4).bind fun t235 => (if t235.toList = x0.toList then (some x4) else (impl_LabelOf.l0 k x0 (wrap64 (x4 + 1))))) else (some (-1))
def impl_LabelOf.f (k : Nat) (a0 : ByteArray) : Option (Int) := impl_LabelOf.l0 k a0 0
set_option maxHeartbeats 8000000 in
set_option maxRecDepth 100000 in
theorem impl_LabelOf.calls (k : Nat) (a0 : ByteArray) (r : Int) (w : World) (h : impl_LabelOf.f k a0 = some r) :
  Calls Tryd.prog 21 #[.string a0] w fun e w' => e = .returned (.int .i64 r) ∧ Below w.heap.size w w' := by
 have HB := Aside0.mk (Below.refl w.heap.size w)
 have H : (impl_LabelOf.l0 k a0 0) = some r := h
 clear h
 have H' := Aside0.mk H
 clear H
 go_enter Tryd.func21, Tryd.ntmps21
 go_wp2
 go_loopg [4] k (fun kq v4 w' => ∃ (x4_1 : Int), v4 = .int .i64 x4_1 ∧ Aside0 (impl_LabelOf.l0 kq a0 x4_1 = some r) ∧ Aside0 (kq ≤ k) ∧ Aside0 (Below w.heap.size w w'))
 case atStart => exact ⟨(0), z4_, H', ⟨Nat.le_refl _⟩, ⟨z0_⟩⟩
 case round =>
  clear H'
  obtain ⟨x4_1, rfl, HA, HK1, HB⟩ := hrel
  cases gk with
  | zero => exact absurd HA.out (by simp [impl_LabelOf.l0])
  | succ k1 =>
   have H := HA.out
   clear HA
   simp only [impl_LabelOf.l0] at H
   by_cases c2 : x4_1 < 6
   ·rw [if_pos c2] at H
    have c2b0 := decide_eq_true c2
    clear c2
    obtain ⟨t235, A3, H⟩ := bnd_ H
    by_cases c4 : t235.toList = a0.toList
    ·rw [if_pos c4] at H
     have c4b0 : (t235.toList == a0.toList) = true := beq_iff_eq.mpr c4
     have c4b1 : (t235.toList != a0.toList) = false := bne_eq_false_iff_eq.mpr c4
     clear c4
     obtain rfl := Option.some.inj H
     go_wp2_with (first | ((with_reducible refine gate_callee (f := 37) rfl ?_); refine goesL_ (some 8) rfl rfl Tryd.func37 (by kernel_rfl) rfl #[.int .i64 x4_1] rfl z1_ ?_; (with_reducible refine (impl_LabelName.calls x4_1 t235 _ A3.out).mono ?_); rintro e w5 ⟨rfl, hb⟩; refine ⟨_, rfl, ?_⟩; replace HB := Aside0.mk (below_step z0_ hb); (try clear hb)))
     go_ret
     exact ⟨z2_, z0_⟩
    ·rw [if_neg c4] at H
     have c4b0 : (t235.toList == a0.toList) = false := beq_eq_false_iff_ne.mpr c4
     have c4b1 : (t235.toList != a0.toList) = true := bne_iff_ne.mpr c4
     have H' := Aside0.mk H
     clear H
     go_wp2_with (first | ((with_reducible refine gate_callee (f := 37) rfl ?_); refine goesL_ (some 8) rfl rfl Tryd.func37 (by kernel_rfl) rfl #[.int .i64 x4_1] rfl z1_ ?_; (with_reducible refine (impl_LabelName.calls x4_1 t235 _ A3.out).mono ?_); rintro e w6 ⟨rfl, hb⟩; refine ⟨_, rfl, ?_⟩; replace HB := Aside0.mk (below_step z0_ hb); (try clear hb)))
     go_roundg k1
     case measure => have := HK1.out; omega
     case rel => exact ⟨(wrap64 (x4_1 + 1)), z4_, H', ⟨z62_⟩, ⟨z0_⟩⟩
   ·rw [if_neg c2] at H
    have c2b0 := decide_eq_false c2
    clear c2
    obtain rfl := Option.some.inj H
    go_wp2
    go_ret
    exact ⟨z2_, z0_⟩

/-! ### impl_LabelOk: function 49 -/
def impl_LabelOk.f (a0 : Int) : Option (Bool) := (impl_within.f a0 0 5).bind fun t236 => (some t236)
set_option maxHeartbeats 8000000 in
set_option maxRecDepth 100000 in
theorem impl_LabelOk.calls (a0 : Int) (r : Bool) (w : World) (h : impl_LabelOk.f a0 = some r) :
  Calls Tryd.prog 49 #[.int .i64 a0] w fun e w' => e = .returned (.bool r) ∧ Drawn0 w w' := by
 have H : ((impl_within.f a0 0 5).bind fun t236 => (some t236)) = some r := h
 clear h
 obtain ⟨t236, A2, H⟩ := bnd_ H
 obtain rfl := Option.some.inj H
 go_enter Tryd.func49, Tryd.ntmps49
 go_wp2_with (first | ((with_reducible refine gate_callee (f := 35) rfl ?_); refine goesL_ (some 4) rfl rfl Tryd.func35 (by kernel_rfl) rfl #[.int .i64 a0, .int .i64 0, .int .i64 5] rfl z1_ ?_; (with_reducible refine (impl_within.calls a0 0 5 t236 _ A2.out).mono ?_); rintro e w' ⟨rfl, ⟨nd, rfl⟩⟩; refine ⟨_, rfl, ?_⟩))
 go_ret
 exact ⟨z4_, z24_⟩

/-! ### impl_OpOk_lit1: function 51 -/
def impl_OpOk_lit1.f (a0 : Int) : Option (Bool) := (impl_within.f a0 0 24).bind fun t237 => (some (!t237))
set_option maxHeartbeats 8000000 in
set_option maxRecDepth 100000 in
theorem impl_OpOk_lit1.calls (a0 : Int) (r : Bool) (w : World) (h : impl_OpOk_lit1.f a0 = some r) :
  Calls Tryd.prog 51 #[.int .i64 a0] w fun e w' => e = .returned (.bool r) ∧ Drawn0 w w' := by
 have H : ((impl_within.f a0 0 24).bind fun t237 => (some (!t237))) = some r := h
 clear h
 obtain ⟨t237, A2, H⟩ := bnd_ H
 obtain rfl := Option.some.inj H
 go_enter Tryd.func51, Tryd.ntmps51
 go_wp2_with (first | ((with_reducible refine gate_callee (f := 35) rfl ?_); refine goesL_ (some 4) rfl rfl Tryd.func35 (by kernel_rfl) rfl #[.int .i64 a0, .int .i64 0, .int .i64 24] rfl z1_ ?_; (with_reducible refine (impl_within.calls a0 0 24 t237 _ A2.out).mono ?_); rintro e w' ⟨rfl, ⟨nd, rfl⟩⟩; refine ⟨_, rfl, ?_⟩))
 go_ret
 exact ⟨z4_, z24_⟩

/-! ### slices_IndexFunc_int_int: function 63 -/
def slices_IndexFunc_int_int.l0 : Nat → List Int → Int → Int → Option (Int)
 | 0, _, _, _ => none
 | k + 1, x0, x7, x8 => if x8 < x7 then (if 0 ≤ x8 then (if x8 < (x0.length : Int) then ((impl_OpOk_lit1.f (rd x0 x8)).bind fun t239 => (if t239 = true then (some x8) else (slices_IndexFunc_int_int.l0 k x0 x7 (wrap64 (x8 + 1))))) else (none)) else (none)) else (some (-1))
def slices_IndexFunc_int_int.f (k : Nat) (l0 : List Int) : Option (Int) := slices_IndexFunc_int_int.l0 k l0 (l0.length : Int) 0
set_option maxHeartbeats 8000000 in
set_option maxRecDepth 100000 in
theorem slices_IndexFunc_int_int.calls (k : Nat) (A0 : Option Addr) (c0 : Nat) (l0 : List Int) (r : Int) (w : World) (hr0 : Kd.C (Kd.int .i64) w A0 l0.length l0) (hc0 : l0.length ≤ c0) (h : slices_IndexFunc_int_int.f k l0 = some r) :
  Calls Tryd.prog 63 #[.slice A0 l0.length c0, .func (.func 51) #[] #[]] w fun e w' => e = .returned (.int .i64 r) ∧ Drawn0 w w' := by
 have HR0 := Aside0.mk hr0
 have HC0 := Aside0.mk hc0
 clear hr0 hc0
 have H : (slices_IndexFunc_int_int.l0 k l0 (l0.length : Int) 0) = some r := h
 clear h
 have H' := Aside0.mk H
 clear H
 go_enter Tryd.func63, Tryd.ntmps63
 go_wp2
 go_loopg [8] k (fun kq v8 w' => ∃ (x8_1 : Int), v8 = .int .i64 x8_1 ∧ Aside0 (slices_IndexFunc_int_int.l0 kq l0 (l0.length : Int) x8_1 = some r) ∧ Aside0 (kq ≤ k) ∧ Drawn0 w w')
 case atStart => exact ⟨(0), z4_, H', ⟨Nat.le_refl _⟩, z24_⟩
 case round =>
  clear H'
  obtain ⟨x8_1, rfl, HA, HK1, ⟨m1, rfl⟩⟩ := hrel
  cases gk with
  | zero => exact absurd HA.out (by simp [slices_IndexFunc_int_int.l0])
  | succ k1 =>
   have H := HA.out
   clear HA
   simp only [slices_IndexFunc_int_int.l0] at H
   by_cases c2 : x8_1 < (l0.length : Int)
   ·rw [if_pos c2] at H
    have c2b0 := decide_eq_true c2
    clear c2
    obtain ⟨c3b0, H⟩ := ifd_ H
    obtain ⟨c4b0, H⟩ := ifd_ H
    obtain ⟨t239, A5, H⟩ := bnd_ H
    by_cases c6 : t239 = true
    ·subst c6
     replace H := ift_ H
     obtain rfl := Option.some.inj H
     have p238 : 0 ≤ (x8_1 : Int) := odt_
     have q238 : x8_1 < (l0.length : Int) := odt_
     obtain ⟨ad238, e238, hx238_0⟩ := Kd.at_int HR0.out x8_1 p238 q238
     cases e238
     replace p238 := eq_true p238
     replace q238 := eq_true q238
     go_wp2_with (first | (go_at_call 51; (with_reducible refine (impl_OpOk_lit1.calls (rd l0 x8_1) true _ A5.out).mono ?_); rintro e w' ⟨rfl, ⟨nd, rfl⟩⟩))
     go_ret
     exact ⟨z4_, z24_⟩
    ·replace c6 := Bool.eq_false_iff.mpr c6
     subst c6
     replace H := iff_ H
     have H' := Aside0.mk H
     clear H
     have p238 : 0 ≤ (x8_1 : Int) := odt_
     have q238 : x8_1 < (l0.length : Int) := odt_
     obtain ⟨ad238, e238, hx238_0⟩ := Kd.at_int HR0.out x8_1 p238 q238
     cases e238
     replace p238 := eq_true p238
     replace q238 := eq_true q238
     go_wp2_with (first | (go_at_call 51; (with_reducible refine (impl_OpOk_lit1.calls (rd l0 x8_1) false _ A5.out).mono ?_); rintro e w' ⟨rfl, ⟨nd, rfl⟩⟩))
     go_roundg k1
     case measure => have := HK1.out; omega
     case rel => exact ⟨(wrap64 (x8_1 + 1)), z4_, H', ⟨z62_⟩, z24_⟩
   ·rw [if_neg c2] at H
    have c2b0 := decide_eq_false c2
    clear c2
    obtain rfl := Option.some.inj H
    go_wp2
    go_ret
    exact ⟨z4_, z24_⟩

/-! ### slices_ContainsFunc_int_int: function 50 -/
def slices_ContainsFunc_int_int.f (k : Nat) (l0 : List Int) : Option (Bool) := (slices_IndexFunc_int_int.f k l0).bind fun t240 => (some (decide (t240 ≥ 0)))
set_option maxHeartbeats 8000000 in
set_option maxRecDepth 100000 in
theorem slices_ContainsFunc_int_int.calls (k : Nat) (A0 : Option Addr) (c0 : Nat) (l0 : List Int) (r : Bool) (w : World) (hr0 : Kd.C (Kd.int .i64) w A0 l0.length l0) (hc0 : l0.length ≤ c0) (h : slices_ContainsFunc_int_int.f k l0 = some r) :
  Calls Tryd.prog 50 #[.slice A0 l0.length c0, .func (.func 51) #[] #[]] w fun e w' => e = .returned (.bool r) ∧ Drawn0 w w' := by
 have HR0 := Aside0.mk hr0
 have HC0 := Aside0.mk hc0
 clear hr0 hc0
 have H : ((slices_IndexFunc_int_int.f k l0).bind fun t240 => (some (decide (t240 ≥ 0)))) = some r := h
 clear h
 obtain ⟨t240, A2, H⟩ := bnd_ H
 obtain rfl := Option.some.inj H
 go_enter Tryd.func50, Tryd.ntmps50
 go_wp2_with (first | ((with_reducible refine gate_callee (f := 63) rfl ?_); refine goesL_ (some 7) rfl rfl Tryd.func63 (by kernel_rfl) rfl #[.slice A0 l0.length c0, .func (.func 51) #[] #[]] rfl z1_ ?_; (with_reducible refine (slices_IndexFunc_int_int.calls k _ _ l0 t240 _ ?side1 ?side2 A2.out).mono ?_); (case side1 => exact z53_); (case side2 => exact HC0.out); rintro e w' ⟨rfl, ⟨nd, rfl⟩⟩; refine ⟨_, rfl, ?_⟩))
 go_ret
 exact ⟨z4_, z24_⟩

end Go.Proofs.YtlfmlagdnebkiaaDoor.PFnExactReadScript
