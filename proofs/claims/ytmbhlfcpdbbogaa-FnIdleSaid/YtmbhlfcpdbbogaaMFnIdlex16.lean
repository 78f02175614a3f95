/- Laid by a program of this session out of the kit's print for the law FnIdle: what it says of the machine is proved here, function by function; each contract under the conditions that it names. -/
import Derived.Test.YtmbhlfcpdbbogaaMFnIdlex0
import Derived.Test.YtmbhlfcpdbbogaaMFnIdlex1
namespace Go.Proofs.Ytmbhlfcpdbbogaa.PFnIdle
open Go.RowKit Go.Proofs.YtmbhlfcpdbbogaaW.PrintWords Go.Proofs.YtmbhlfcpdbbogaaW.PrintLast Go.Proofs.YtmbhlfcpdbbogaaW.PrintMore
attribute [local go_sem] max2_int min2_int max_two min_two max_three min_three max_four min_four   -- for this text's walks alone
set_option linter.unusedVariables false
set_option linter.unusedSimpArgs false

attribute [local go_sem high] eqA63
/-! ### spec_SameTree: function 15 -/
def spec_SameTree.l0 : Nat → List (S63) → List (S63) → Int → Option (Bool)
 | 0, _, _, _ => none
 | k + 1, x0, x1, x5 => if x5 < (x0.length : Int) then (if 0 ≤ x5 then (if x5 < (x1.length : Int) then (if (!(((rd_T63 x0 x5).f0) == ((rd_T63 x1 x5).f0)) || (!(((rd_T63 x0 x5).f1) == ((rd_T63 x1 x5).f1)))) = true then (some false) else (spec_SameTree.l0 k x0 x1 (wrap64 (x5 + 1)))) else (none)) else (none)) else (some true)
def spec_SameTree.f (k : Nat) (l0 : List (S63)) (l1 : List (S63)) : Option (Bool) := if (l0.length : Int) = (l1.length : Int) then (spec_SameTree.l0 k l0 l1 0) else (some false)
theorem spec_SameTree.mono_l : ∀ k, (∀ y0 y1 y2, LeO (spec_SameTree.l0 k y0 y1 y2) (spec_SameTree.l0 (k + 1) y0 y1 y2))
 | 0 => fun _ _ _ r h => by simp [spec_SameTree.l0] at h
 | k + 1 => by
  have ih0 := spec_SameTree.mono_l k
  ·intro y0 y1 y2
   unfold spec_SameTree.l0
   repeat' first | (with_reducible first | exact ih0 _ _ _ | exact LeO.refl _ | exact LeO.none _ | refine LeO.ite ?_ ?_ | refine LeO.bind ?_ (fun _ => ?_)) | exact ih0 _ _ _ | exact LeO.none _ | refine LeO.ite ?_ ?_ | refine LeO.bind ?_ (fun _ => ?_)
theorem spec_SameTree.mono : ∀ a0 a1 k, LeO (spec_SameTree.f k a0 a1) (spec_SameTree.f (k + 1) a0 a1) := by
 intro a0 a1 k
 have ih0 := spec_SameTree.mono_l k
 unfold spec_SameTree.f
 repeat' first | (with_reducible first | exact ih0 _ _ _ | exact LeO.refl _ | exact LeO.none _ | refine LeO.ite ?_ ?_ | refine LeO.bind ?_ (fun _ => ?_)) | exact ih0 _ _ _ | exact LeO.none _ | refine LeO.ite ?_ ?_ | refine LeO.bind ?_ (fun _ => ?_)
set_option maxHeartbeats 8000000 in
set_option maxRecDepth 100000 in
theorem spec_SameTree.calls (k : Nat) (A0 : Option Addr) (c0 : Nat) (l0 : List (S63)) (A1 : Option Addr) (c1 : Nat) (l1 : List (S63)) (r : Bool) (w : World) (hr0 : Kd.C k63 w A0 l0.length l0) (hc0 : l0.length ≤ c0) (hr1 : Kd.C k63 w A1 l1.length l1) (hc1 : l1.length ≤ c1) (h : spec_SameTree.f k l0 l1 = some r) :
  Calls Try.prog 15 #[.slice A0 l0.length c0, .slice A1 l1.length c1] w fun e w' => e = .returned (.bool r) ∧ Drawn0 w w' := by
 have hu63 := Try.underlying63
 have HR0 := Aside0.mk hr0
 have HC0 := Aside0.mk hc0
 clear hr0 hc0
 have HR1 := Aside0.mk hr1
 have HC1 := Aside0.mk hc1
 clear hr1 hc1
 have H : (if (l0.length : Int) = (l1.length : Int) then (spec_SameTree.l0 k l0 l1 0) else (some false)) = some r := h
 clear h
 by_cases c3 : (l0.length : Int) = (l1.length : Int)
 ·rw [if_pos c3] at H
  have c3b0 : ((l0.length : Int) == (l1.length : Int)) = true := beq_iff_eq.mpr c3
  have c3b1 : ((l0.length : Int) != (l1.length : Int)) = false := bne_eq_false_iff_eq.mpr c3
  have c3b2 : (l0.length == l1.length) = true := by first | simpa using c3 | (simp at c3 ⊢; omega)
  clear c3
  have H' := Aside0.mk H
  clear H
  go_enter Try.func15, Try.ntmps15
  go_wp2
  repeat (go_quiet (fail); try go_wp2)
  go_loopg [5] k (fun kq v5 w' => ∃ (x5_1 : Int), v5 = .int .i64 x5_1 ∧ Aside0 (spec_SameTree.l0 kq l0 l1 x5_1 = some r) ∧ Aside0 (kq ≤ k) ∧ Drawn0 w w')
  case atStart => exact ⟨(0), z14_, H', ⟨Nat.le_refl _⟩, z47_⟩
  case round =>
   clear H'
   try clear c1
   try clear p2
   try clear c3
   try clear c3b0
   try clear c3b1
   try clear c3b2
   obtain ⟨x5_1, rfl, HA, HK1, ⟨m1, rfl⟩⟩ := hrel
   cases gk with
   | zero => exact absurd HA.out (by simp [spec_SameTree.l0])
   | succ k1 =>
    have H := HA.out
    clear HA
    simp only [spec_SameTree.l0] at H
    by_cases c4 : x5_1 < (l0.length : Int)
    ·rw [if_pos c4] at H
     have c4b0 : decide (x5_1 < (l0.length : Int)) = true := decide_eq_true c4
     clear c4
     obtain ⟨c5b0, H⟩ := ifd_ H
     obtain ⟨c6b0, H⟩ := ifd_ H
     by_cases c7 : (!(((rd_T63 l0 x5_1).f0) == ((rd_T63 l1 x5_1).f0)) || (!(((rd_T63 l0 x5_1).f1) == ((rd_T63 l1 x5_1).f1)))) = true
     ·rw [if_pos c7] at H
      have c7b0 : (!(((rd_T63 l0 x5_1).f0) == ((rd_T63 l1 x5_1).f0)) || (!(((rd_T63 l0 x5_1).f1) == ((rd_T63 l1 x5_1).f1)))) = true := c7
      clear c7
      obtain rfl := Option.some.inj H
      obtain ⟨p623, q623, ad623, e623, hx623_0, hx623_1⟩ := ato63_ HR0 x5_1
      cases e623
      obtain ⟨p624, q624, ad624, e624, hx624_0, hx624_1⟩ := ato63_ HR1 x5_1
      cases e624
      go_wp2
      repeat (go_quiet (fail); try go_wp2)
      go_ret
      exact ⟨z14_, z47_⟩
     ·rw [if_neg c7] at H
      have c7b0 : (!(((rd_T63 l0 x5_1).f0) == ((rd_T63 l1 x5_1).f0)) || (!(((rd_T63 l0 x5_1).f1) == ((rd_T63 l1 x5_1).f1)))) = false := by simpa using c7
      clear c7
      have H' := Aside0.mk H
      clear H
      obtain ⟨p623, q623, ad623, e623, hx623_0, hx623_1⟩ := ato63_ HR0 x5_1
      cases e623
      obtain ⟨p624, q624, ad624, e624, hx624_0, hx624_1⟩ := ato63_ HR1 x5_1
      cases e624
      go_wp2
      repeat (go_quiet (fail); try go_wp2)
      go_roundg k1
      case measure => have := HK1.out; omega
      case rel => exact ⟨(wrap64 (x5_1 + 1)), z14_, H', ⟨z84_⟩, z47_⟩
    ·rw [if_neg c4] at H
     have c4b0 : decide (x5_1 < (l0.length : Int)) = false := decide_eq_false c4
     clear c4
     obtain rfl := Option.some.inj H
     go_wp2
     repeat (go_quiet (fail); try go_wp2)
     go_ret
     exact ⟨z14_, z47_⟩
 ·rw [if_neg c3] at H
  have c3b0 : ((l0.length : Int) == (l1.length : Int)) = false := beq_eq_false_iff_ne.mpr c3
  have c3b1 : ((l0.length : Int) != (l1.length : Int)) = true := bne_iff_ne.mpr c3
  have c3b2 : (l0.length == l1.length) = false := by first | simpa using c3 | (simp at c3 ⊢; omega)
  obtain rfl := Option.some.inj H
  go_enter Try.func15, Try.ntmps15
  go_wp2
  repeat (go_quiet (fail); try go_wp2)
  go_ret
  exact ⟨z14_, z47_⟩

/-! ### spec_l7Same: function 90 -/
def spec_l7Same.l0 : Nat → List Int → List Int → Int → Option (Bool)
 | 0, _, _, _ => none
 | k + 1, x0, x1, x5 => if x5 < (x0.length : Int) then (if 0 ≤ x5 then (if x5 < (x1.length : Int) then (if (rd x0 x5) = (rd x1 x5) then (spec_l7Same.l0 k x0 x1 (wrap64 (x5 + 1))) else (some false)) else (none)) else (none)) else (some true)
def spec_l7Same.f (k : Nat) (l0 : List Int) (l1 : List Int) : Option (Bool) := if (l0.length : Int) = (l1.length : Int) then (spec_l7Same.l0 k l0 l1 0) else (some false)
theorem spec_l7Same.mono_l : ∀ k, (∀ y0 y1 y2, LeO (spec_l7Same.l0 k y0 y1 y2) (spec_l7Same.l0 (k + 1) y0 y1 y2))
 | 0 => fun _ _ _ r h => by simp [spec_l7Same.l0] at h
 | k + 1 => by
  have ih0 := spec_l7Same.mono_l k
  ·intro y0 y1 y2
   unfold spec_l7Same.l0
   repeat' first | (with_reducible first | exact ih0 _ _ _ | exact LeO.refl _ | exact LeO.none _ | refine LeO.ite ?_ ?_ | refine LeO.bind ?_ (fun _ => ?_)) | exact ih0 _ _ _ | exact LeO.none _ | refine LeO.ite ?_ ?_ | refine LeO.bind ?_ (fun _ => ?_)
theorem spec_l7Same.mono : ∀ a0 a1 k, LeO (spec_l7Same.f k a0 a1) (spec_l7Same.f (k + 1) a0 a1) := by
 intro a0 a1 k
 have ih0 := spec_l7Same.mono_l k
 unfold spec_l7Same.f
 repeat' first | (with_reducible first | exact ih0 _ _ _ | exact LeO.refl _ | exact LeO.none _ | refine LeO.ite ?_ ?_ | refine LeO.bind ?_ (fun _ => ?_)) | exact ih0 _ _ _ | exact LeO.none _ | refine LeO.ite ?_ ?_ | refine LeO.bind ?_ (fun _ => ?_)
set_option maxHeartbeats 8000000 in
set_option maxRecDepth 100000 in
theorem spec_l7Same.calls (k : Nat) (A0 : Option Addr) (c0 : Nat) (l0 : List Int) (A1 : Option Addr) (c1 : Nat) (l1 : List Int) (r : Bool) (w : World) (hr0 : Kd.C (Kd.int .i64) w A0 l0.length l0) (hc0 : l0.length ≤ c0) (hr1 : Kd.C (Kd.int .i64) w A1 l1.length l1) (hc1 : l1.length ≤ c1) (h : spec_l7Same.f k l0 l1 = some r) :
  Calls Try.prog 90 #[.slice A0 l0.length c0, .slice A1 l1.length c1] w fun e w' => e = .returned (.bool r) ∧ Drawn0 w w' := by
 have HR0 := Aside0.mk hr0
 have HC0 := Aside0.mk hc0
 clear hr0 hc0
 have HR1 := Aside0.mk hr1
 have HC1 := Aside0.mk hc1
 clear hr1 hc1
 have H : (if (l0.length : Int) = (l1.length : Int) then (spec_l7Same.l0 k l0 l1 0) else (some false)) = some r := h
 clear h
 by_cases c3 : (l0.length : Int) = (l1.length : Int)
 ·rw [if_pos c3] at H
  have c3b0 : ((l0.length : Int) == (l1.length : Int)) = true := beq_iff_eq.mpr c3
  have c3b1 : ((l0.length : Int) != (l1.length : Int)) = false := bne_eq_false_iff_eq.mpr c3
  have c3b2 : (l0.length == l1.length) = true := by first | simpa using c3 | (simp at c3 ⊢; omega)
  clear c3
  have H' := Aside0.mk H
  clear H
  go_enter Try.func90, Try.ntmps90
  go_wp2
  repeat (go_quiet (fail); try go_wp2)
  go_loopg [5] k (fun kq v5 w' => ∃ (x5_1 : Int), v5 = .int .i64 x5_1 ∧ Aside0 (spec_l7Same.l0 kq l0 l1 x5_1 = some r) ∧ Aside0 (kq ≤ k) ∧ Drawn0 w w')
  case atStart => exact ⟨(0), z14_, H', ⟨Nat.le_refl _⟩, z47_⟩
  case round =>
   clear H'
   try clear c1
   try clear p2
   try clear c3
   try clear c3b0
   try clear c3b1
   try clear c3b2
   obtain ⟨x5_1, rfl, HA, HK1, ⟨m1, rfl⟩⟩ := hrel
   cases gk with
   | zero => exact absurd HA.out (by simp [spec_l7Same.l0])
   | succ k1 =>
    have H := HA.out
    clear HA
    simp only [spec_l7Same.l0] at H
    by_cases c4 : x5_1 < (l0.length : Int)
    ·rw [if_pos c4] at H
     have c4b0 : decide (x5_1 < (l0.length : Int)) = true := decide_eq_true c4
     clear c4
     obtain ⟨c5b0, H⟩ := ifd_ H
     obtain ⟨c6b0, H⟩ := ifd_ H
     by_cases c7 : (rd l0 x5_1) = (rd l1 x5_1)
     ·rw [if_pos c7] at H
      have c7b0 : ((rd l0 x5_1) == (rd l1 x5_1)) = true := beq_iff_eq.mpr c7
      have c7b1 : ((rd l0 x5_1) != (rd l1 x5_1)) = false := bne_eq_false_iff_eq.mpr c7
      clear c7
      have H' := Aside0.mk H
      clear H
      have p625 : 0 ≤ (x5_1 : Int) := odt_
      have q625 : x5_1 < (l0.length : Int) := odt_
      obtain ⟨ad625, e625, hx625_0⟩ := Kd.at_int HR0.out x5_1 p625 q625
      cases e625
      replace p625 := eq_true p625
      replace q625 := eq_true q625
      have p626 : 0 ≤ (x5_1 : Int) := odt_
      have q626 : x5_1 < (l1.length : Int) := odt_
      obtain ⟨ad626, e626, hx626_0⟩ := Kd.at_int HR1.out x5_1 p626 q626
      cases e626
      replace p626 := eq_true p626
      replace q626 := eq_true q626
      go_wp2
      repeat (go_quiet (fail); try go_wp2)
      go_roundg k1
      case measure => have := HK1.out; omega
      case rel => exact ⟨(wrap64 (x5_1 + 1)), z14_, H', ⟨z84_⟩, z47_⟩
     ·rw [if_neg c7] at H
      have c7b0 : ((rd l0 x5_1) == (rd l1 x5_1)) = false := beq_eq_false_iff_ne.mpr c7
      have c7b1 : ((rd l0 x5_1) != (rd l1 x5_1)) = true := bne_iff_ne.mpr c7
      obtain rfl := Option.some.inj H
      have p625 : 0 ≤ (x5_1 : Int) := odt_
      have q625 : x5_1 < (l0.length : Int) := odt_
      obtain ⟨ad625, e625, hx625_0⟩ := Kd.at_int HR0.out x5_1 p625 q625
      cases e625
      replace p625 := eq_true p625
      replace q625 := eq_true q625
      have p626 : 0 ≤ (x5_1 : Int) := odt_
      have q626 : x5_1 < (l1.length : Int) := odt_
      obtain ⟨ad626, e626, hx626_0⟩ := Kd.at_int HR1.out x5_1 p626 q626
      cases e626
      replace p626 := eq_true p626
      replace q626 := eq_true q626
      go_wp2
      repeat (go_quiet (fail); try go_wp2)
      go_ret
      exact ⟨z14_, z47_⟩
    ·rw [if_neg c4] at H
     have c4b0 : decide (x5_1 < (l0.length : Int)) = false := decide_eq_false c4
     clear c4
     obtain rfl := Option.some.inj H
     go_wp2
     repeat (go_quiet (fail); try go_wp2)
     go_ret
     exact ⟨z14_, z47_⟩
 ·rw [if_neg c3] at H
  have c3b0 : ((l0.length : Int) == (l1.length : Int)) = false := beq_eq_false_iff_ne.mpr c3
  have c3b1 : ((l0.length : Int) != (l1.length : Int)) = true := bne_iff_ne.mpr c3
  have c3b2 : (l0.length == l1.length) = false := by first | simpa using c3 | (simp at c3 ⊢; omega)
  obtain rfl := Option.some.inj H
  go_enter Try.func90, Try.ntmps90
  go_wp2
  repeat (go_quiet (fail); try go_wp2)
  go_ret
  exact ⟨z14_, z47_⟩

/-! ### spec_l15Same: function 49 -/
def spec_l15Same.f (k : Nat) (a0_0 : Int) (l0_1 : List Int) (a0_2 : Int) (a0_3 : Int) (a0_4 : Int) (a1_0 : Int) (l1_1 : List Int) (a1_2 : Int) (a1_3 : Int) (a1_4 : Int) : Option (Bool) := if a0_0 = a1_0 then ((spec_l7Same.f k l0_1 l1_1).bind fun t629 => (if t629 = true then (if a0_2 = a1_2 then (if a0_3 = a1_3 then (some (a0_4 == a1_4)) else (some false)) else (some false)) else (some false))) else (some false)
theorem spec_l15Same.mono : ∀ a0 a1 a2 a3 a4 a5 a6 a7 a8 a9 k, LeO (spec_l15Same.f k a0 a1 a2 a3 a4 a5 a6 a7 a8 a9) (spec_l15Same.f (k + 1) a0 a1 a2 a3 a4 a5 a6 a7 a8 a9) := by
 intro a0 a1 a2 a3 a4 a5 a6 a7 a8 a9 k
 unfold spec_l15Same.f
 repeat' first | (with_reducible first | exact spec_l7Same.mono _ _ _ | exact LeO.refl _ | exact LeO.none _ | refine LeO.ite ?_ ?_ | refine LeO.bind ?_ (fun _ => ?_)) | exact spec_l7Same.mono _ _ _ | exact LeO.none _ | refine LeO.ite ?_ ?_ | refine LeO.bind ?_ (fun _ => ?_)
set_option maxHeartbeats 8000000 in
set_option maxRecDepth 100000 in
theorem spec_l15Same.calls (k : Nat) (a0_0 : Int) (A0_1 : Option Addr) (c0_1 : Nat) (l0_1 : List Int) (a0_2 : Int) (a0_3 : Int) (a0_4 : Int) (a1_0 : Int) (A1_1 : Option Addr) (c1_1 : Nat) (l1_1 : List Int) (a1_2 : Int) (a1_3 : Int) (a1_4 : Int) (r : Bool) (w : World) (hr0_1 : Kd.C (Kd.int .i64) w A0_1 l0_1.length l0_1) (hc0_1 : l0_1.length ≤ c0_1) (hr1_1 : Kd.C (Kd.int .i64) w A1_1 l1_1.length l1_1) (hc1_1 : l1_1.length ≤ c1_1) (h : spec_l15Same.f k a0_0 l0_1 a0_2 a0_3 a0_4 a1_0 l1_1 a1_2 a1_3 a1_4 = some r) :
  Calls Try.prog 49 #[.agg #[.int .i64 a0_0, .slice A0_1 l0_1.length c0_1, .int .i64 a0_2, .int .i64 a0_3, .int .i64 a0_4], .agg #[.int .i64 a1_0, .slice A1_1 l1_1.length c1_1, .int .i64 a1_2, .int .i64 a1_3, .int .i64 a1_4]] w fun e w' => e = .returned (.bool r) ∧ Below w.heap.size w w' := by
 have hu65 := Try.underlying65
 have HR0_1 := Aside0.mk hr0_1
 have HC0_1 := Aside0.mk hc0_1
 clear hr0_1 hc0_1
 have HR1_1 := Aside0.mk hr1_1
 have HC1_1 := Aside0.mk hc1_1
 clear hr1_1 hc1_1
 have HB := Aside0.mk (Below.refl w.heap.size w)
 have H : (if a0_0 = a1_0 then ((spec_l7Same.f k l0_1 l1_1).bind fun t629 => (if t629 = true then (if a0_2 = a1_2 then (if a0_3 = a1_3 then (some (a0_4 == a1_4)) else (some false)) else (some false)) else (some false))) else (some false)) = some r := h
 clear h
 by_cases c3 : a0_0 = a1_0
 ·rw [if_pos c3] at H
  have c3b0 : (a0_0 == a1_0) = true := beq_iff_eq.mpr c3
  have c3b1 : (a0_0 != a1_0) = false := bne_eq_false_iff_eq.mpr c3
  clear c3
  obtain ⟨t629, A4, H⟩ := bnd_ H
  by_cases c5 : t629 = true
  ·subst c5
   replace H := ift_ H
   by_cases c6 : a0_2 = a1_2
   ·rw [if_pos c6] at H
    have c6b0 : (a0_2 == a1_2) = true := beq_iff_eq.mpr c6
    have c6b1 : (a0_2 != a1_2) = false := bne_eq_false_iff_eq.mpr c6
    clear c6
    by_cases c7 : a0_3 = a1_3
    ·rw [if_pos c7] at H
     have c7b0 : (a0_3 == a1_3) = true := beq_iff_eq.mpr c7
     have c7b1 : (a0_3 != a1_3) = false := bne_eq_false_iff_eq.mpr c7
     clear c7
     obtain rfl := Option.some.inj H
     go_enter Try.func49, Try.ntmps49
     go_wp2_with (first | ((with_reducible refine gate_dst (N := 2) rfl ?_); refine box_event ?hg (N := 2) ?hd (cs := #[.int .i64 a0_0, .slice A0_1 l0_1.length c0_1, .int .i64 a0_2, .int .i64 a0_3, .int .i64 a0_4]) (t := 65) ?hr ?_; (case hd => rfl); (case hg => rfl); (case hr => exact z23_); intro gb627 hg w8 hbox hb; have BK627 := Aside0.mk (hbox); have GW627 := Aside0.mk ((by rw [hg]; exact (below_size z0_) : w.heap.size ≤ gb627)); have GE627 := Aside0.mk ((by rw [hg]; exact (below_size z0_) : w.heap.size ≤ gb627)); replace HB := Aside0.mk (below_step z0_ hb); clear hb hbox hg) | ((with_reducible refine gate_dst (N := 3) rfl ?_); refine box_event ?hg (N := 3) ?hd (cs := #[.int .i64 a1_0, .slice A1_1 l1_1.length c1_1, .int .i64 a1_2, .int .i64 a1_3, .int .i64 a1_4]) (t := 65) ?hr ?_; (case hd => rfl); (case hg => rfl); (case hr => exact z23_); intro gb628 hg w9 hbox hb; have BK628 := Aside0.mk (hbox); have GW628 := Aside0.mk ((by rw [hg]; exact (below_size z32_) : w.heap.size ≤ gb628)); have GE628 := Aside0.mk ((by rw [hg]; exact (below_size z32_) : w.heap.size ≤ gb628)); replace HB := Aside0.mk (below_step z32_ hb); have NB627_628 := Aside0.mk ((by rw [hg]; exact Nat.ne_of_lt (blk_lt (g := gb627) (o := .cells #[.int .i64 a0_0, .slice A0_1 l0_1.length c0_1, .int .i64 a0_2, .int .i64 a0_3, .int .i64 a0_4] 65 (0, 0)) z45_) : gb627 ≠ gb628)); have NB628_627 := Aside0.mk ((by rw [hg]; exact Nat.ne_of_gt (blk_lt (g := gb627) (o := .cells #[.int .i64 a0_0, .slice A0_1 l0_1.length c0_1, .int .i64 a0_2, .int .i64 a0_3, .int .i64 a0_4] 65 (0, 0)) z45_) : gb628 ≠ gb627)); replace BK627 := Aside0.mk (blk_below (g := gb627) (o := .cells #[.int .i64 a0_0, .slice A0_1 l0_1.length c0_1, .int .i64 a0_2, .int .i64 a0_3, .int .i64 a0_4] 65 (0, 0)) z45_ hb); clear hb hbox hg; have hnb10 := NB627_628.out; have hnc10 := NB628_627.out; have hcz11_0 : w9.cell? ⟨gb627, 0, none⟩ = some (.int .i64 a0_0) := (blk_cell BK627.out 0).trans rfl; have hcz11_1 : w9.cell? ⟨gb627, 1, none⟩ = some (.slice A0_1 l0_1.length c0_1) := (blk_cell BK627.out 1).trans rfl; have hcz11_2 : w9.cell? ⟨gb627, 2, none⟩ = some (.int .i64 a0_2) := (blk_cell BK627.out 2).trans rfl; have hcz11_3 : w9.cell? ⟨gb627, 3, none⟩ = some (.int .i64 a0_3) := (blk_cell BK627.out 3).trans rfl; have hcz11_4 : w9.cell? ⟨gb627, 4, none⟩ = some (.int .i64 a0_4) := (blk_cell BK627.out 4).trans rfl; have hfz11_0 := blk_frozen BK627.out 0; have hfz11_1 := blk_frozen BK627.out 1; have hfz11_2 := blk_frozen BK627.out 2; have hfz11_3 := blk_frozen BK627.out 3; have hfz11_4 := blk_frozen BK627.out 4; have hcz12_0 : w9.cell? ⟨gb628, 0, none⟩ = some (.int .i64 a1_0) := (blk_cell BK628.out 0).trans rfl; have hcz12_1 : w9.cell? ⟨gb628, 1, none⟩ = some (.slice A1_1 l1_1.length c1_1) := (blk_cell BK628.out 1).trans rfl; have hcz12_2 : w9.cell? ⟨gb628, 2, none⟩ = some (.int .i64 a1_2) := (blk_cell BK628.out 2).trans rfl; have hcz12_3 : w9.cell? ⟨gb628, 3, none⟩ = some (.int .i64 a1_3) := (blk_cell BK628.out 3).trans rfl; have hcz12_4 : w9.cell? ⟨gb628, 4, none⟩ = some (.int .i64 a1_4) := (blk_cell BK628.out 4).trans rfl; have hfz12_0 := blk_frozen BK628.out 0; have hfz12_1 := blk_frozen BK628.out 1; have hfz12_2 := blk_frozen BK628.out 2; have hfz12_3 := blk_frozen BK628.out 3; have hfz12_4 := blk_frozen BK628.out 4) | (go_at_call 90; (with_reducible refine (spec_l7Same.calls k _ _ l0_1 _ _ l1_1 true _ ?side1 ?side2 ?side3 ?side4 A4.out).mono ?_); (case side1 => exact z69_); (case side2 => exact HC0_1.out); (case side3 => exact z24_); (case side4 => exact HC1_1.out); rintro e w' ⟨rfl, ⟨nd, rfl⟩⟩))
     go_ret
     exact ⟨z6_, z64_⟩
    ·rw [if_neg c7] at H
     have c7b0 : (a0_3 == a1_3) = false := beq_eq_false_iff_ne.mpr c7
     have c7b1 : (a0_3 != a1_3) = true := bne_iff_ne.mpr c7
     obtain rfl := Option.some.inj H
     go_enter Try.func49, Try.ntmps49
     go_wp2_with (first | ((with_reducible refine gate_dst (N := 2) rfl ?_); refine box_event ?hg (N := 2) ?hd (cs := #[.int .i64 a0_0, .slice A0_1 l0_1.length c0_1, .int .i64 a0_2, .int .i64 a0_3, .int .i64 a0_4]) (t := 65) ?hr ?_; (case hd => rfl); (case hg => rfl); (case hr => exact z23_); intro gb627 hg w13 hbox hb; have BK627 := Aside0.mk (hbox); have GW627 := Aside0.mk ((by rw [hg]; exact (below_size z0_) : w.heap.size ≤ gb627)); have GE627 := Aside0.mk ((by rw [hg]; exact (below_size z0_) : w.heap.size ≤ gb627)); replace HB := Aside0.mk (below_step z0_ hb); clear hb hbox hg) | ((with_reducible refine gate_dst (N := 3) rfl ?_); refine box_event ?hg (N := 3) ?hd (cs := #[.int .i64 a1_0, .slice A1_1 l1_1.length c1_1, .int .i64 a1_2, .int .i64 a1_3, .int .i64 a1_4]) (t := 65) ?hr ?_; (case hd => rfl); (case hg => rfl); (case hr => exact z23_); intro gb628 hg w14 hbox hb; have BK628 := Aside0.mk (hbox); have GW628 := Aside0.mk ((by rw [hg]; exact (below_size z32_) : w.heap.size ≤ gb628)); have GE628 := Aside0.mk ((by rw [hg]; exact (below_size z32_) : w.heap.size ≤ gb628)); replace HB := Aside0.mk (below_step z32_ hb); have NB627_628 := Aside0.mk ((by rw [hg]; exact Nat.ne_of_lt (blk_lt (g := gb627) (o := .cells #[.int .i64 a0_0, .slice A0_1 l0_1.length c0_1, .int .i64 a0_2, .int .i64 a0_3, .int .i64 a0_4] 65 (0, 0)) z45_) : gb627 ≠ gb628)); have NB628_627 := Aside0.mk ((by rw [hg]; exact Nat.ne_of_gt (blk_lt (g := gb627) (o := .cells #[.int .i64 a0_0, .slice A0_1 l0_1.length c0_1, .int .i64 a0_2, .int .i64 a0_3, .int .i64 a0_4] 65 (0, 0)) z45_) : gb628 ≠ gb627)); replace BK627 := Aside0.mk (blk_below (g := gb627) (o := .cells #[.int .i64 a0_0, .slice A0_1 l0_1.length c0_1, .int .i64 a0_2, .int .i64 a0_3, .int .i64 a0_4] 65 (0, 0)) z45_ hb); clear hb hbox hg; have hnb15 := NB627_628.out; have hnc15 := NB628_627.out; have hcz16_0 : w14.cell? ⟨gb627, 0, none⟩ = some (.int .i64 a0_0) := (blk_cell BK627.out 0).trans rfl; have hcz16_1 : w14.cell? ⟨gb627, 1, none⟩ = some (.slice A0_1 l0_1.length c0_1) := (blk_cell BK627.out 1).trans rfl; have hcz16_2 : w14.cell? ⟨gb627, 2, none⟩ = some (.int .i64 a0_2) := (blk_cell BK627.out 2).trans rfl; have hcz16_3 : w14.cell? ⟨gb627, 3, none⟩ = some (.int .i64 a0_3) := (blk_cell BK627.out 3).trans rfl; have hcz16_4 : w14.cell? ⟨gb627, 4, none⟩ = some (.int .i64 a0_4) := (blk_cell BK627.out 4).trans rfl; have hfz16_0 := blk_frozen BK627.out 0; have hfz16_1 := blk_frozen BK627.out 1; have hfz16_2 := blk_frozen BK627.out 2; have hfz16_3 := blk_frozen BK627.out 3; have hfz16_4 := blk_frozen BK627.out 4; have hcz17_0 : w14.cell? ⟨gb628, 0, none⟩ = some (.int .i64 a1_0) := (blk_cell BK628.out 0).trans rfl; have hcz17_1 : w14.cell? ⟨gb628, 1, none⟩ = some (.slice A1_1 l1_1.length c1_1) := (blk_cell BK628.out 1).trans rfl; have hcz17_2 : w14.cell? ⟨gb628, 2, none⟩ = some (.int .i64 a1_2) := (blk_cell BK628.out 2).trans rfl; have hcz17_3 : w14.cell? ⟨gb628, 3, none⟩ = some (.int .i64 a1_3) := (blk_cell BK628.out 3).trans rfl; have hcz17_4 : w14.cell? ⟨gb628, 4, none⟩ = some (.int .i64 a1_4) := (blk_cell BK628.out 4).trans rfl; have hfz17_0 := blk_frozen BK628.out 0; have hfz17_1 := blk_frozen BK628.out 1; have hfz17_2 := blk_frozen BK628.out 2; have hfz17_3 := blk_frozen BK628.out 3; have hfz17_4 := blk_frozen BK628.out 4) | (go_at_call 90; (with_reducible refine (spec_l7Same.calls k _ _ l0_1 _ _ l1_1 true _ ?side1 ?side2 ?side3 ?side4 A4.out).mono ?_); (case side1 => exact z69_); (case side2 => exact HC0_1.out); (case side3 => exact z24_); (case side4 => exact HC1_1.out); rintro e w' ⟨rfl, ⟨nd, rfl⟩⟩))
     go_ret
     exact ⟨z6_, z64_⟩
   ·rw [if_neg c6] at H
    have c6b0 : (a0_2 == a1_2) = false := beq_eq_false_iff_ne.mpr c6
    have c6b1 : (a0_2 != a1_2) = true := bne_iff_ne.mpr c6
    obtain rfl := Option.some.inj H
    go_enter Try.func49, Try.ntmps49
    go_wp2_with (first | ((with_reducible refine gate_dst (N := 2) rfl ?_); refine box_event ?hg (N := 2) ?hd (cs := #[.int .i64 a0_0, .slice A0_1 l0_1.length c0_1, .int .i64 a0_2, .int .i64 a0_3, .int .i64 a0_4]) (t := 65) ?hr ?_; (case hd => rfl); (case hg => rfl); (case hr => exact z23_); intro gb627 hg w18 hbox hb; have BK627 := Aside0.mk (hbox); have GW627 := Aside0.mk ((by rw [hg]; exact (below_size z0_) : w.heap.size ≤ gb627)); have GE627 := Aside0.mk ((by rw [hg]; exact (below_size z0_) : w.heap.size ≤ gb627)); replace HB := Aside0.mk (below_step z0_ hb); clear hb hbox hg) | ((with_reducible refine gate_dst (N := 3) rfl ?_); refine box_event ?hg (N := 3) ?hd (cs := #[.int .i64 a1_0, .slice A1_1 l1_1.length c1_1, .int .i64 a1_2, .int .i64 a1_3, .int .i64 a1_4]) (t := 65) ?hr ?_; (case hd => rfl); (case hg => rfl); (case hr => exact z23_); intro gb628 hg w19 hbox hb; have BK628 := Aside0.mk (hbox); have GW628 := Aside0.mk ((by rw [hg]; exact (below_size z32_) : w.heap.size ≤ gb628)); have GE628 := Aside0.mk ((by rw [hg]; exact (below_size z32_) : w.heap.size ≤ gb628)); replace HB := Aside0.mk (below_step z32_ hb); have NB627_628 := Aside0.mk ((by rw [hg]; exact Nat.ne_of_lt (blk_lt (g := gb627) (o := .cells #[.int .i64 a0_0, .slice A0_1 l0_1.length c0_1, .int .i64 a0_2, .int .i64 a0_3, .int .i64 a0_4] 65 (0, 0)) z45_) : gb627 ≠ gb628)); have NB628_627 := Aside0.mk ((by rw [hg]; exact Nat.ne_of_gt (blk_lt (g := gb627) (o := .cells #[.int .i64 a0_0, .slice A0_1 l0_1.length c0_1, .int .i64 a0_2, .int .i64 a0_3, .int .i64 a0_4] 65 (0, 0)) z45_) : gb628 ≠ gb627)); replace BK627 := Aside0.mk (blk_below (g := gb627) (o := .cells #[.int .i64 a0_0, .slice A0_1 l0_1.length c0_1, .int .i64 a0_2, .int .i64 a0_3, .int .i64 a0_4] 65 (0, 0)) z45_ hb); clear hb hbox hg; have hnb20 := NB627_628.out; have hnc20 := NB628_627.out; have hcz21_0 : w19.cell? ⟨gb627, 0, none⟩ = some (.int .i64 a0_0) := (blk_cell BK627.out 0).trans rfl; have hcz21_1 : w19.cell? ⟨gb627, 1, none⟩ = some (.slice A0_1 l0_1.length c0_1) := (blk_cell BK627.out 1).trans rfl; have hcz21_2 : w19.cell? ⟨gb627, 2, none⟩ = some (.int .i64 a0_2) := (blk_cell BK627.out 2).trans rfl; have hcz21_3 : w19.cell? ⟨gb627, 3, none⟩ = some (.int .i64 a0_3) := (blk_cell BK627.out 3).trans rfl; have hcz21_4 : w19.cell? ⟨gb627, 4, none⟩ = some (.int .i64 a0_4) := (blk_cell BK627.out 4).trans rfl; have hfz21_0 := blk_frozen BK627.out 0; have hfz21_1 := blk_frozen BK627.out 1; have hfz21_2 := blk_frozen BK627.out 2; have hfz21_3 := blk_frozen BK627.out 3; have hfz21_4 := blk_frozen BK627.out 4; have hcz22_0 : w19.cell? ⟨gb628, 0, none⟩ = some (.int .i64 a1_0) := (blk_cell BK628.out 0).trans rfl; have hcz22_1 : w19.cell? ⟨gb628, 1, none⟩ = some (.slice A1_1 l1_1.length c1_1) := (blk_cell BK628.out 1).trans rfl; have hcz22_2 : w19.cell? ⟨gb628, 2, none⟩ = some (.int .i64 a1_2) := (blk_cell BK628.out 2).trans rfl; have hcz22_3 : w19.cell? ⟨gb628, 3, none⟩ = some (.int .i64 a1_3) := (blk_cell BK628.out 3).trans rfl; have hcz22_4 : w19.cell? ⟨gb628, 4, none⟩ = some (.int .i64 a1_4) := (blk_cell BK628.out 4).trans rfl; have hfz22_0 := blk_frozen BK628.out 0; have hfz22_1 := blk_frozen BK628.out 1; have hfz22_2 := blk_frozen BK628.out 2; have hfz22_3 := blk_frozen BK628.out 3; have hfz22_4 := blk_frozen BK628.out 4) | (go_at_call 90; (with_reducible refine (spec_l7Same.calls k _ _ l0_1 _ _ l1_1 true _ ?side1 ?side2 ?side3 ?side4 A4.out).mono ?_); (case side1 => exact z69_); (case side2 => exact HC0_1.out); (case side3 => exact z24_); (case side4 => exact HC1_1.out); rintro e w' ⟨rfl, ⟨nd, rfl⟩⟩))
    go_ret
    exact ⟨z6_, z64_⟩
  ·replace c5 := Bool.eq_false_iff.mpr c5
   subst c5
   replace H := iff_ H
   obtain rfl := Option.some.inj H
   go_enter Try.func49, Try.ntmps49
   go_wp2_with (first | ((with_reducible refine gate_dst (N := 2) rfl ?_); refine box_event ?hg (N := 2) ?hd (cs := #[.int .i64 a0_0, .slice A0_1 l0_1.length c0_1, .int .i64 a0_2, .int .i64 a0_3, .int .i64 a0_4]) (t := 65) ?hr ?_; (case hd => rfl); (case hg => rfl); (case hr => exact z23_); intro gb627 hg w23 hbox hb; have BK627 := Aside0.mk (hbox); have GW627 := Aside0.mk ((by rw [hg]; exact (below_size z0_) : w.heap.size ≤ gb627)); have GE627 := Aside0.mk ((by rw [hg]; exact (below_size z0_) : w.heap.size ≤ gb627)); replace HB := Aside0.mk (below_step z0_ hb); clear hb hbox hg) | ((with_reducible refine gate_dst (N := 3) rfl ?_); refine box_event ?hg (N := 3) ?hd (cs := #[.int .i64 a1_0, .slice A1_1 l1_1.length c1_1, .int .i64 a1_2, .int .i64 a1_3, .int .i64 a1_4]) (t := 65) ?hr ?_; (case hd => rfl); (case hg => rfl); (case hr => exact z23_); intro gb628 hg w24 hbox hb; have BK628 := Aside0.mk (hbox); have GW628 := Aside0.mk ((by rw [hg]; exact (below_size z32_) : w.heap.size ≤ gb628)); have GE628 := Aside0.mk ((by rw [hg]; exact (below_size z32_) : w.heap.size ≤ gb628)); replace HB := Aside0.mk (below_step z32_ hb); have NB627_628 := Aside0.mk ((by rw [hg]; exact Nat.ne_of_lt (blk_lt (g := gb627) (o := .cells #[.int .i64 a0_0, .slice A0_1 l0_1.length c0_1, .int .i64 a0_2, .int .i64 a0_3, .int .i64 a0_4] 65 (0, 0)) z45_) : gb627 ≠ gb628)); have NB628_627 := Aside0.mk ((by rw [hg]; exact Nat.ne_of_gt (blk_lt (g := gb627) (o := .cells #[.int .i64 a0_0, .slice A0_1 l0_1.length c0_1, .int .i64 a0_2, .int .i64 a0_3, .int .i64 a0_4] 65 (0, 0)) z45_) : gb628 ≠ gb627)); replace BK627 := Aside0.mk (blk_below (g := gb627) (o := .cells #[.int .i64 a0_0, .slice A0_1 l0_1.length c0_1, .int .i64 a0_2, .int .i64 a0_3, .int .i64 a0_4] 65 (0, 0)) z45_ hb); clear hb hbox hg; have hnb25 := NB627_628.out; have hnc25 := NB628_627.out; have hcz26_0 : w24.cell? ⟨gb627, 0, none⟩ = some (.int .i64 a0_0) := (blk_cell BK627.out 0).trans rfl; have hcz26_1 : w24.cell? ⟨gb627, 1, none⟩ = some (.slice A0_1 l0_1.length c0_1) := (blk_cell BK627.out 1).trans rfl; have hcz26_2 : w24.cell? ⟨gb627, 2, none⟩ = some (.int .i64 a0_2) := (blk_cell BK627.out 2).trans rfl; have hcz26_3 : w24.cell? ⟨gb627, 3, none⟩ = some (.int .i64 a0_3) := (blk_cell BK627.out 3).trans rfl; have hcz26_4 : w24.cell? ⟨gb627, 4, none⟩ = some (.int .i64 a0_4) := (blk_cell BK627.out 4).trans rfl; have hfz26_0 := blk_frozen BK627.out 0; have hfz26_1 := blk_frozen BK627.out 1; have hfz26_2 := blk_frozen BK627.out 2; have hfz26_3 := blk_frozen BK627.out 3; have hfz26_4 := blk_frozen BK627.out 4; have hcz27_0 : w24.cell? ⟨gb628, 0, none⟩ = some (.int .i64 a1_0) := (blk_cell BK628.out 0).trans rfl; have hcz27_1 : w24.cell? ⟨gb628, 1, none⟩ = some (.slice A1_1 l1_1.length c1_1) := (blk_cell BK628.out 1).trans rfl; have hcz27_2 : w24.cell? ⟨gb628, 2, none⟩ = some (.int .i64 a1_2) := (blk_cell BK628.out 2).trans rfl; have hcz27_3 : w24.cell? ⟨gb628, 3, none⟩ = some (.int .i64 a1_3) := (blk_cell BK628.out 3).trans rfl; have hcz27_4 : w24.cell? ⟨gb628, 4, none⟩ = some (.int .i64 a1_4) := (blk_cell BK628.out 4).trans rfl; have hfz27_0 := blk_frozen BK628.out 0; have hfz27_1 := blk_frozen BK628.out 1; have hfz27_2 := blk_frozen BK628.out 2; have hfz27_3 := blk_frozen BK628.out 3; have hfz27_4 := blk_frozen BK628.out 4) | (go_at_call 90; (with_reducible refine (spec_l7Same.calls k _ _ l0_1 _ _ l1_1 false _ ?side1 ?side2 ?side3 ?side4 A4.out).mono ?_); (case side1 => exact z69_); (case side2 => exact HC0_1.out); (case side3 => exact z24_); (case side4 => exact HC1_1.out); rintro e w' ⟨rfl, ⟨nd, rfl⟩⟩))
   go_ret
   exact ⟨z6_, z64_⟩
 ·rw [if_neg c3] at H
  have c3b0 : (a0_0 == a1_0) = false := beq_eq_false_iff_ne.mpr c3
  have c3b1 : (a0_0 != a1_0) = true := bne_iff_ne.mpr c3
  obtain rfl := Option.some.inj H
  go_enter Try.func49, Try.ntmps49
  go_wp2_with (first | ((with_reducible refine gate_dst (N := 2) rfl ?_); refine box_event ?hg (N := 2) ?hd (cs := #[.int .i64 a0_0, .slice A0_1 l0_1.length c0_1, .int .i64 a0_2, .int .i64 a0_3, .int .i64 a0_4]) (t := 65) ?hr ?_; (case hd => rfl); (case hg => rfl); (case hr => exact z23_); intro gb627 hg w28 hbox hb; have BK627 := Aside0.mk (hbox); have GW627 := Aside0.mk ((by rw [hg]; exact (below_size z0_) : w.heap.size ≤ gb627)); have GE627 := Aside0.mk ((by rw [hg]; exact (below_size z0_) : w.heap.size ≤ gb627)); replace HB := Aside0.mk (below_step z0_ hb); clear hb hbox hg) | ((with_reducible refine gate_dst (N := 3) rfl ?_); refine box_event ?hg (N := 3) ?hd (cs := #[.int .i64 a1_0, .slice A1_1 l1_1.length c1_1, .int .i64 a1_2, .int .i64 a1_3, .int .i64 a1_4]) (t := 65) ?hr ?_; (case hd => rfl); (case hg => rfl); (case hr => exact z23_); intro gb628 hg w29 hbox hb; have BK628 := Aside0.mk (hbox); have GW628 := Aside0.mk ((by rw [hg]; exact (below_size z32_) : w.heap.size ≤ gb628)); have GE628 := Aside0.mk ((by rw [hg]; exact (below_size z32_) : w.heap.size ≤ gb628)); replace HB := Aside0.mk (below_step z32_ hb); have NB627_628 := Aside0.mk ((by rw [hg]; exact Nat.ne_of_lt (blk_lt (g := gb627) (o := .cells #[.int .i64 a0_0, .slice A0_1 l0_1.length c0_1, .int .i64 a0_2, .int .i64 a0_3, .int .i64 a0_4] 65 (0, 0)) z45_) : gb627 ≠ gb628)); have NB628_627 := Aside0.mk ((by rw [hg]; exact Nat.ne_of_gt (blk_lt (g := gb627) (o := .cells #[.int .i64 a0_0, .slice A0_1 l0_1.length c0_1, .int .i64 a0_2, .int .i64 a0_3, .int .i64 a0_4] 65 (0, 0)) z45_) : gb628 ≠ gb627)); replace BK627 := Aside0.mk (blk_below (g := gb627) (o := .cells #[.int .i64 a0_0, .slice A0_1 l0_1.length c0_1, .int .i64 a0_2, .int .i64 a0_3, .int .i64 a0_4] 65 (0, 0)) z45_ hb); clear hb hbox hg; have hnb30 := NB627_628.out; have hnc30 := NB628_627.out; have hcz31_0 : w29.cell? ⟨gb627, 0, none⟩ = some (.int .i64 a0_0) := (blk_cell BK627.out 0).trans rfl; have hcz31_1 : w29.cell? ⟨gb627, 1, none⟩ = some (.slice A0_1 l0_1.length c0_1) := (blk_cell BK627.out 1).trans rfl; have hcz31_2 : w29.cell? ⟨gb627, 2, none⟩ = some (.int .i64 a0_2) := (blk_cell BK627.out 2).trans rfl; have hcz31_3 : w29.cell? ⟨gb627, 3, none⟩ = some (.int .i64 a0_3) := (blk_cell BK627.out 3).trans rfl; have hcz31_4 : w29.cell? ⟨gb627, 4, none⟩ = some (.int .i64 a0_4) := (blk_cell BK627.out 4).trans rfl; have hfz31_0 := blk_frozen BK627.out 0; have hfz31_1 := blk_frozen BK627.out 1; have hfz31_2 := blk_frozen BK627.out 2; have hfz31_3 := blk_frozen BK627.out 3; have hfz31_4 := blk_frozen BK627.out 4; have hcz32_0 : w29.cell? ⟨gb628, 0, none⟩ = some (.int .i64 a1_0) := (blk_cell BK628.out 0).trans rfl; have hcz32_1 : w29.cell? ⟨gb628, 1, none⟩ = some (.slice A1_1 l1_1.length c1_1) := (blk_cell BK628.out 1).trans rfl; have hcz32_2 : w29.cell? ⟨gb628, 2, none⟩ = some (.int .i64 a1_2) := (blk_cell BK628.out 2).trans rfl; have hcz32_3 : w29.cell? ⟨gb628, 3, none⟩ = some (.int .i64 a1_3) := (blk_cell BK628.out 3).trans rfl; have hcz32_4 : w29.cell? ⟨gb628, 4, none⟩ = some (.int .i64 a1_4) := (blk_cell BK628.out 4).trans rfl; have hfz32_0 := blk_frozen BK628.out 0; have hfz32_1 := blk_frozen BK628.out 1; have hfz32_2 := blk_frozen BK628.out 2; have hfz32_3 := blk_frozen BK628.out 3; have hfz32_4 := blk_frozen BK628.out 4))
  go_ret
  exact ⟨z6_, z64_⟩

/-! ### spec_SameOps: function 16 -/
def spec_SameOps.l0 : Nat → List (S65) → List (S65) → Int → Option (Bool)
 | 0, _, _, _ => none
 | k + 1, x0, x1, x5 => if x5 < (x0.length : Int) then (if 0 ≤ x5 then (if x5 < (x1.length : Int) then ((spec_l15Same.f k ((rd_T65 x0 x5).f0) ((rd_T65 x0 x5).f1) ((rd_T65 x0 x5).f2) ((rd_T65 x0 x5).f3) ((rd_T65 x0 x5).f4) ((rd_T65 x1 x5).f0) ((rd_T65 x1 x5).f1) ((rd_T65 x1 x5).f2) ((rd_T65 x1 x5).f3) ((rd_T65 x1 x5).f4)).bind fun t632 => (if t632 = true then (spec_SameOps.l0 k x0 x1 (wrap64 (x5 + 1))) else (some false))) else (none)) else (none)) else (some true)
def spec_SameOps.f (k : Nat) (l0 : List (S65)) (l1 : List (S65)) : Option (Bool) := if (l0.length : Int) = (l1.length : Int) then (spec_SameOps.l0 k l0 l1 0) else (some false)
theorem spec_SameOps.mono_l : ∀ k, (∀ y0 y1 y2, LeO (spec_SameOps.l0 k y0 y1 y2) (spec_SameOps.l0 (k + 1) y0 y1 y2))
 | 0 => fun _ _ _ r h => by simp [spec_SameOps.l0] at h
 | k + 1 => by
  have ih0 := spec_SameOps.mono_l k
  ·intro y0 y1 y2
   unfold spec_SameOps.l0
   repeat' first | (with_reducible first | exact ih0 _ _ _ | exact spec_l15Same.mono _ _ _ _ _ _ _ _ _ _ _ | exact LeO.refl _ | exact LeO.none _ | refine LeO.ite ?_ ?_ | refine LeO.bind ?_ (fun _ => ?_)) | exact ih0 _ _ _ | exact spec_l15Same.mono _ _ _ _ _ _ _ _ _ _ _ | exact LeO.none _ | refine LeO.ite ?_ ?_ | refine LeO.bind ?_ (fun _ => ?_)
theorem spec_SameOps.mono : ∀ a0 a1 k, LeO (spec_SameOps.f k a0 a1) (spec_SameOps.f (k + 1) a0 a1) := by
 intro a0 a1 k
 have ih0 := spec_SameOps.mono_l k
 unfold spec_SameOps.f
 repeat' first | (with_reducible first | exact ih0 _ _ _ | exact spec_l15Same.mono _ _ _ _ _ _ _ _ _ _ _ | exact LeO.refl _ | exact LeO.none _ | refine LeO.ite ?_ ?_ | refine LeO.bind ?_ (fun _ => ?_)) | exact ih0 _ _ _ | exact spec_l15Same.mono _ _ _ _ _ _ _ _ _ _ _ | exact LeO.none _ | refine LeO.ite ?_ ?_ | refine LeO.bind ?_ (fun _ => ?_)
def spec_SameOps.T6 : Bool × List (List Nat × List Nat) := (true, [([], []), ([], []), ([0, 1], [0, 1]), ([2], [2]), ([], []), ([], []), ([4, 5], [4, 5]), ([6], [6]), ([3, 7], [3, 7]), ([8], [8])])
def spec_SameOps.B6 : List Nat := [0, 0, 3, 7, 0, 0, 48, 112, 255, 511]
theorem spec_SameOps.tab6 : rtab .any (opsOf Try.f16 6) = spec_SameOps.T6 := by kernel_rfl
theorem spec_SameOps.bits6 : waitsOk spec_SameOps.T6.2 spec_SameOps.B6 = true := by kernel_rfl
set_option maxHeartbeats 8000000 in
set_option maxRecDepth 100000 in
theorem spec_SameOps.calls (k : Nat) (A0 : Option Addr) (c0 : Nat) (l0 : List (S65)) (A1 : Option Addr) (c1 : Nat) (l1 : List (S65)) (r : Bool) (w : World) (hr0 : Kd.C k65 w A0 l0.length l0) (hc0 : l0.length ≤ c0) (hr1 : Kd.C k65 w A1 l1.length l1) (hc1 : l1.length ≤ c1) (h : spec_SameOps.f k l0 l1 = some r) :
  Calls Try.prog 16 #[.slice A0 l0.length c0, .slice A1 l1.length c1] w fun e w' => e = .returned (.bool r) ∧ Below w.heap.size w w' := by
 have hu65 := Try.underlying65
 have HR0 := Aside0.mk hr0
 have HC0 := Aside0.mk hc0
 clear hr0 hc0
 have HR1 := Aside0.mk hr1
 have HC1 := Aside0.mk hc1
 clear hr1 hc1
 have HB := Aside0.mk (Below.refl w.heap.size w)
 have H : (if (l0.length : Int) = (l1.length : Int) then (spec_SameOps.l0 k l0 l1 0) else (some false)) = some r := h
 clear h
 by_cases c3 : (l0.length : Int) = (l1.length : Int)
 ·rw [if_pos c3] at H
  have c3b0 : ((l0.length : Int) == (l1.length : Int)) = true := beq_iff_eq.mpr c3
  have c3b1 : ((l0.length : Int) != (l1.length : Int)) = false := bne_eq_false_iff_eq.mpr c3
  have c3b2 : (l0.length == l1.length) = true := by first | simpa using c3 | (simp at c3 ⊢; omega)
  clear c3
  have H' := Aside0.mk H
  clear H
  go_enter Try.func16, Try.ntmps16
  go_wp2
  go_loopg [5] k (fun kq v5 w' => ∃ (x5_1 : Int), v5 = .int .i64 x5_1 ∧ Aside0 (spec_SameOps.l0 kq l0 l1 x5_1 = some r) ∧ Aside0 (kq ≤ k) ∧ Aside0 (Below w.heap.size w w'))
  case atStart => exact ⟨(0), z14_, H', ⟨Nat.le_refl _⟩, ⟨z0_⟩⟩
  case round =>
   clear H'
   try clear c1
   try clear p2
   try clear c3
   try clear c3b0
   try clear c3b1
   try clear c3b2
   obtain ⟨x5_1, rfl, HA, HK1, HB⟩ := hrel
   cases gk with
   | zero => exact absurd HA.out (by simp [spec_SameOps.l0])
   | succ k1 =>
    have H := HA.out
    clear HA
    simp only [spec_SameOps.l0] at H
    by_cases c4 : x5_1 < (l0.length : Int)
    ·rw [if_pos c4] at H
     have c4b0 : decide (x5_1 < (l0.length : Int)) = true := decide_eq_true c4
     clear c4
     obtain ⟨c5b0, H⟩ := ifd_ H
     obtain ⟨c6b0, H⟩ := ifd_ H
     obtain ⟨t632, A7, H⟩ := bnd_ H
     by_cases c8 : t632 = true
     ·subst c8
      replace H := ift_ H
      have H' := Aside0.mk H
      clear H
      try go_wp2
      have n0_ := Aside0.mk (below_drew1 HB.out)
      clear HB
      have HB := n0_
      clear n0_
      have p630 : 0 ≤ (x5_1 : Int) := odt_
      have q630 : x5_1 < (l0.length : Int) := odt_
      obtain ⟨ad630, A630_1, c630_1, e630, hx630_0, hx630_1, hx630_2, hx630_3, hx630_4, hl630_1, hi630_1⟩ := at_T65 HR0.out x5_1 p630 q630
      have hw630_4 := hx630_4
      have hw630_3 := hx630_3
      have hw630_2 := hx630_2
      have hw630_1 := hx630_1
      have hw630_0 := hx630_0
      cases e630
      replace hx630_0 := (HB.out.cell (World.block_lt_of_cell? w _ hx630_0)).trans hx630_0
      replace hx630_1 := (HB.out.cell (World.block_lt_of_cell? w _ hx630_1)).trans hx630_1
      replace hx630_2 := (HB.out.cell (World.block_lt_of_cell? w _ hx630_2)).trans hx630_2
      replace hx630_3 := (HB.out.cell (World.block_lt_of_cell? w _ hx630_3)).trans hx630_3
      replace hx630_4 := (HB.out.cell (World.block_lt_of_cell? w _ hx630_4)).trans hx630_4
      have HR630_1 := Aside0.mk hi630_1
      have HC630_1 := Aside0.mk hl630_1
      clear hi630_1 hl630_1
      replace p630 := eq_true p630
      replace q630 := eq_true q630
      have p631 : 0 ≤ (x5_1 : Int) := odt_
      have q631 : x5_1 < (l1.length : Int) := odt_
      obtain ⟨ad631, A631_1, c631_1, e631, hx631_0, hx631_1, hx631_2, hx631_3, hx631_4, hl631_1, hi631_1⟩ := at_T65 HR1.out x5_1 p631 q631
      have hw631_4 := hx631_4
      have hw631_3 := hx631_3
      have hw631_2 := hx631_2
      have hw631_1 := hx631_1
      have hw631_0 := hx631_0
      cases e631
      replace hx631_0 := (HB.out.cell (World.block_lt_of_cell? w _ hx631_0)).trans hx631_0
      replace hx631_1 := (HB.out.cell (World.block_lt_of_cell? w _ hx631_1)).trans hx631_1
      replace hx631_2 := (HB.out.cell (World.block_lt_of_cell? w _ hx631_2)).trans hx631_2
      replace hx631_3 := (HB.out.cell (World.block_lt_of_cell? w _ hx631_3)).trans hx631_3
      replace hx631_4 := (HB.out.cell (World.block_lt_of_cell? w _ hx631_4)).trans hx631_4
      have HR631_1 := Aside0.mk hi631_1
      have HC631_1 := Aside0.mk hl631_1
      clear hi631_1 hl631_1
      replace p631 := eq_true p631
      replace q631 := eq_true q631
      refine start_ (n := 10) (S := fun w' => w'.cell? (ad630.add ((x5_1).toNat * 5)) = some (.int .i64 ((rd_T65 l0 x5_1).f0)) ∧ w'.cell? ⟨(ad630.add ((x5_1).toNat * 5)).block, (ad630.add ((x5_1).toNat * 5)).off + 1, none⟩ = some (.slice A630_1 ((rd_T65 l0 x5_1).f1).length c630_1) ∧ w'.cell? ⟨(ad630.add ((x5_1).toNat * 5)).block, (ad630.add ((x5_1).toNat * 5)).off + 2, none⟩ = some (.int .i64 ((rd_T65 l0 x5_1).f2)) ∧ w'.cell? ⟨(ad630.add ((x5_1).toNat * 5)).block, (ad630.add ((x5_1).toNat * 5)).off + 3, none⟩ = some (.int .i64 ((rd_T65 l0 x5_1).f3)) ∧ w'.cell? ⟨(ad630.add ((x5_1).toNat * 5)).block, (ad630.add ((x5_1).toNat * 5)).off + 4, none⟩ = some (.int .i64 ((rd_T65 l0 x5_1).f4)) ∧ w'.cell? (ad631.add ((x5_1).toNat * 5)) = some (.int .i64 ((rd_T65 l1 x5_1).f0)) ∧ w'.cell? ⟨(ad631.add ((x5_1).toNat * 5)).block, (ad631.add ((x5_1).toNat * 5)).off + 1, none⟩ = some (.slice A631_1 ((rd_T65 l1 x5_1).f1).length c631_1) ∧ w'.cell? ⟨(ad631.add ((x5_1).toNat * 5)).block, (ad631.add ((x5_1).toNat * 5)).off + 2, none⟩ = some (.int .i64 ((rd_T65 l1 x5_1).f2)) ∧ w'.cell? ⟨(ad631.add ((x5_1).toNat * 5)).block, (ad631.add ((x5_1).toNat * 5)).off + 3, none⟩ = some (.int .i64 ((rd_T65 l1 x5_1).f3)) ∧ w'.cell? ⟨(ad631.add ((x5_1).toNat * 5)).block, (ad631.add ((x5_1).toNat * 5)).off + 4, none⟩ = some (.int .i64 ((rd_T65 l1 x5_1).f4))) (ds := []) (fl_ 10 0) (by kernel_rfl) rfl (fl_zero _) ⟨((HB.out.cell (World.block_lt_of_cell? w _ hw630_0)).trans hw630_0), ((HB.out.cell (World.block_lt_of_cell? w _ hw630_1)).trans hw630_1), ((HB.out.cell (World.block_lt_of_cell? w _ hw630_2)).trans hw630_2), ((HB.out.cell (World.block_lt_of_cell? w _ hw630_3)).trans hw630_3), ((HB.out.cell (World.block_lt_of_cell? w _ hw630_4)).trans hw630_4), ((HB.out.cell (World.block_lt_of_cell? w _ hw631_0)).trans hw631_0), ((HB.out.cell (World.block_lt_of_cell? w _ hw631_1)).trans hw631_1), ((HB.out.cell (World.block_lt_of_cell? w _ hw631_2)).trans hw631_2), ((HB.out.cell (World.block_lt_of_cell? w _ hw631_3)).trans hw631_3), ((HB.out.cell (World.block_lt_of_cell? w _ hw631_4)).trans hw631_4)⟩ (fun hHeld => ?_); refine with_tabW spec_SameOps.tab6 spec_SameOps.bits6 (fun HT_ HW_ => ?_)
      generalize wr.drew = w9 at HB HR630_1 HR631_1 hx630_0 hx630_1 hx630_2 hx630_3 hx630_4 hx631_0 hx631_1 hx631_2 hx631_3 hx631_4 hHeld ⊢
      iterate 3 refine zp_ HT_ rfl rfl (by kernel_rfl) (fun _ _ _ h => h) (by rfl) ?_
      refine zpg_ (i := 4) (ra_ [3, 1, 1, 5]) HT_ rfl rfl (by kernel_rfl) (fun _ _ _ h => h) (by rfl) ?_
      refine zpg_ (i := 5) (ra_ [3, 1, 2, 4]) HT_ rfl rfl (by kernel_rfl) (fun _ _ _ h => h) (by rfl) ?_
      refine zpg_ (i := 6) (ra_ [3, 1, 3, 3]) HT_ rfl rfl (by kernel_rfl) (fun _ _ _ h => h) (by rfl) ?_
      refine ztg_ (i := 3) (fl_ 10 7) HT_ HW_ rfl rfl (by kernel_rfl) (fun _ _ _ h => h) (by rfl) hHeld ?_ z129_
      refine zt_ HT_ HW_ rfl rfl (by kernel_rfl) (fun _ _ _ h => h) (by rfl) hHeld ?_ z129_
      refine one_ (i := 8) (N := some 25) (fl_ 10 9) rfl rfl (one_of HT_.out (by kernel_rfl)) (by decide) (fun K hK => ?_)
      refine goes_ Try.func49 (by kernel_rfl) rfl #[.agg #[.int .i64 ((rd_T65 l0 x5_1).f0), .slice A630_1 ((rd_T65 l0 x5_1).f1).length c630_1, .int .i64 ((rd_T65 l0 x5_1).f2), .int .i64 ((rd_T65 l0 x5_1).f3), .int .i64 ((rd_T65 l0 x5_1).f4)], .agg #[.int .i64 ((rd_T65 l1 x5_1).f0), .slice A631_1 ((rd_T65 l1 x5_1).f1).length c631_1, .int .i64 ((rd_T65 l1 x5_1).f2), .int .i64 ((rd_T65 l1 x5_1).f3), .int .i64 ((rd_T65 l1 x5_1).f4)]] (by rfl) rfl rfl z1_ ?_
      with_reducible refine (spec_l15Same.calls k1 ((rd_T65 l0 x5_1).f0) _ _ ((rd_T65 l0 x5_1).f1) ((rd_T65 l0 x5_1).f2) ((rd_T65 l0 x5_1).f3) ((rd_T65 l0 x5_1).f4) ((rd_T65 l1 x5_1).f0) _ _ ((rd_T65 l1 x5_1).f1) ((rd_T65 l1 x5_1).f2) ((rd_T65 l1 x5_1).f3) ((rd_T65 l1 x5_1).f4) true _ ?side1 ?side2 ?side3 ?side4 A7.out).mono ?_
      (case side1 => exact z120_)
      (case side2 => exact HC630_1.out)
      (case side3 => exact z121_)
      (case side4 => exact HC631_1.out)
      rintro e w10 ⟨rfl, hb⟩
      refine ⟨_, rfl, ?_⟩
      have n0_ := Aside0.mk (below_step z0_ hb)
      clear HB
      have HB := n0_
      clear n0_
      (try clear hb)
      (try clear hb2)
      (try clear hk)
      (try clear hi)
      refine hK.out _ _ ⟨((HB.out.cell (World.block_lt_of_cell? w _ hw630_0)).trans hw630_0), ((HB.out.cell (World.block_lt_of_cell? w _ hw630_1)).trans hw630_1), ((HB.out.cell (World.block_lt_of_cell? w _ hw630_2)).trans hw630_2), ((HB.out.cell (World.block_lt_of_cell? w _ hw630_3)).trans hw630_3), ((HB.out.cell (World.block_lt_of_cell? w _ hw630_4)).trans hw630_4), ((HB.out.cell (World.block_lt_of_cell? w _ hw631_0)).trans hw631_0), ((HB.out.cell (World.block_lt_of_cell? w _ hw631_1)).trans hw631_1), ((HB.out.cell (World.block_lt_of_cell? w _ hw631_2)).trans hw631_2), ((HB.out.cell (World.block_lt_of_cell? w _ hw631_3)).trans hw631_3), ((HB.out.cell (World.block_lt_of_cell? w _ hw631_4)).trans hw631_4)⟩ (fun hHeld => ?_)
      clear hK K
      refine zn_ rfl ?_
      refine zp_ HT_ rfl rfl (by kernel_rfl) (fun _ _ _ h => h) (by rfl) ?_
      refine done_ (done_of HT_.out (by kernel_rfl)) ?_
      try go_wp2
      go_roundg k1
      case measure => have := HK1.out; omega
      case rel => exact ⟨(wrap64 (x5_1 + 1)), z14_, H', ⟨z84_⟩, ⟨z0_⟩⟩
     ·replace c8 := Bool.eq_false_iff.mpr c8
      subst c8
      replace H := iff_ H
      obtain rfl := Option.some.inj H
      try go_wp2
      have n0_ := Aside0.mk (below_drew1 HB.out)
      clear HB
      have HB := n0_
      clear n0_
      have p630 : 0 ≤ (x5_1 : Int) := odt_
      have q630 : x5_1 < (l0.length : Int) := odt_
      obtain ⟨ad630, A630_1, c630_1, e630, hx630_0, hx630_1, hx630_2, hx630_3, hx630_4, hl630_1, hi630_1⟩ := at_T65 HR0.out x5_1 p630 q630
      have hw630_4 := hx630_4
      have hw630_3 := hx630_3
      have hw630_2 := hx630_2
      have hw630_1 := hx630_1
      have hw630_0 := hx630_0
      cases e630
      replace hx630_0 := (HB.out.cell (World.block_lt_of_cell? w _ hx630_0)).trans hx630_0
      replace hx630_1 := (HB.out.cell (World.block_lt_of_cell? w _ hx630_1)).trans hx630_1
      replace hx630_2 := (HB.out.cell (World.block_lt_of_cell? w _ hx630_2)).trans hx630_2
      replace hx630_3 := (HB.out.cell (World.block_lt_of_cell? w _ hx630_3)).trans hx630_3
      replace hx630_4 := (HB.out.cell (World.block_lt_of_cell? w _ hx630_4)).trans hx630_4
      have HR630_1 := Aside0.mk hi630_1
      have HC630_1 := Aside0.mk hl630_1
      clear hi630_1 hl630_1
      replace p630 := eq_true p630
      replace q630 := eq_true q630
      have p631 : 0 ≤ (x5_1 : Int) := odt_
      have q631 : x5_1 < (l1.length : Int) := odt_
      obtain ⟨ad631, A631_1, c631_1, e631, hx631_0, hx631_1, hx631_2, hx631_3, hx631_4, hl631_1, hi631_1⟩ := at_T65 HR1.out x5_1 p631 q631
      have hw631_4 := hx631_4
      have hw631_3 := hx631_3
      have hw631_2 := hx631_2
      have hw631_1 := hx631_1
      have hw631_0 := hx631_0
      cases e631
      replace hx631_0 := (HB.out.cell (World.block_lt_of_cell? w _ hx631_0)).trans hx631_0
      replace hx631_1 := (HB.out.cell (World.block_lt_of_cell? w _ hx631_1)).trans hx631_1
      replace hx631_2 := (HB.out.cell (World.block_lt_of_cell? w _ hx631_2)).trans hx631_2
      replace hx631_3 := (HB.out.cell (World.block_lt_of_cell? w _ hx631_3)).trans hx631_3
      replace hx631_4 := (HB.out.cell (World.block_lt_of_cell? w _ hx631_4)).trans hx631_4
      have HR631_1 := Aside0.mk hi631_1
      have HC631_1 := Aside0.mk hl631_1
      clear hi631_1 hl631_1
      replace p631 := eq_true p631
      replace q631 := eq_true q631
      refine start_ (n := 10) (S := fun w' => w'.cell? (ad630.add ((x5_1).toNat * 5)) = some (.int .i64 ((rd_T65 l0 x5_1).f0)) ∧ w'.cell? ⟨(ad630.add ((x5_1).toNat * 5)).block, (ad630.add ((x5_1).toNat * 5)).off + 1, none⟩ = some (.slice A630_1 ((rd_T65 l0 x5_1).f1).length c630_1) ∧ w'.cell? ⟨(ad630.add ((x5_1).toNat * 5)).block, (ad630.add ((x5_1).toNat * 5)).off + 2, none⟩ = some (.int .i64 ((rd_T65 l0 x5_1).f2)) ∧ w'.cell? ⟨(ad630.add ((x5_1).toNat * 5)).block, (ad630.add ((x5_1).toNat * 5)).off + 3, none⟩ = some (.int .i64 ((rd_T65 l0 x5_1).f3)) ∧ w'.cell? ⟨(ad630.add ((x5_1).toNat * 5)).block, (ad630.add ((x5_1).toNat * 5)).off + 4, none⟩ = some (.int .i64 ((rd_T65 l0 x5_1).f4)) ∧ w'.cell? (ad631.add ((x5_1).toNat * 5)) = some (.int .i64 ((rd_T65 l1 x5_1).f0)) ∧ w'.cell? ⟨(ad631.add ((x5_1).toNat * 5)).block, (ad631.add ((x5_1).toNat * 5)).off + 1, none⟩ = some (.slice A631_1 ((rd_T65 l1 x5_1).f1).length c631_1) ∧ w'.cell? ⟨(ad631.add ((x5_1).toNat * 5)).block, (ad631.add ((x5_1).toNat * 5)).off + 2, none⟩ = some (.int .i64 ((rd_T65 l1 x5_1).f2)) ∧ w'.cell? ⟨(ad631.add ((x5_1).toNat * 5)).block, (ad631.add ((x5_1).toNat * 5)).off + 3, none⟩ = some (.int .i64 ((rd_T65 l1 x5_1).f3)) ∧ w'.cell? ⟨(ad631.add ((x5_1).toNat * 5)).block, (ad631.add ((x5_1).toNat * 5)).off + 4, none⟩ = some (.int .i64 ((rd_T65 l1 x5_1).f4))) (ds := []) (fl_ 10 0) (by kernel_rfl) rfl (fl_zero _) ⟨((HB.out.cell (World.block_lt_of_cell? w _ hw630_0)).trans hw630_0), ((HB.out.cell (World.block_lt_of_cell? w _ hw630_1)).trans hw630_1), ((HB.out.cell (World.block_lt_of_cell? w _ hw630_2)).trans hw630_2), ((HB.out.cell (World.block_lt_of_cell? w _ hw630_3)).trans hw630_3), ((HB.out.cell (World.block_lt_of_cell? w _ hw630_4)).trans hw630_4), ((HB.out.cell (World.block_lt_of_cell? w _ hw631_0)).trans hw631_0), ((HB.out.cell (World.block_lt_of_cell? w _ hw631_1)).trans hw631_1), ((HB.out.cell (World.block_lt_of_cell? w _ hw631_2)).trans hw631_2), ((HB.out.cell (World.block_lt_of_cell? w _ hw631_3)).trans hw631_3), ((HB.out.cell (World.block_lt_of_cell? w _ hw631_4)).trans hw631_4)⟩ (fun hHeld => ?_); refine with_tabW spec_SameOps.tab6 spec_SameOps.bits6 (fun HT_ HW_ => ?_)
      generalize wr.drew = w11 at HB HR630_1 HR631_1 hx630_0 hx630_1 hx630_2 hx630_3 hx630_4 hx631_0 hx631_1 hx631_2 hx631_3 hx631_4 hHeld ⊢
      iterate 3 refine zp_ HT_ rfl rfl (by kernel_rfl) (fun _ _ _ h => h) (by rfl) ?_
      refine zpg_ (i := 4) (ra_ [3, 1, 1, 5]) HT_ rfl rfl (by kernel_rfl) (fun _ _ _ h => h) (by rfl) ?_
      refine zpg_ (i := 5) (ra_ [3, 1, 2, 4]) HT_ rfl rfl (by kernel_rfl) (fun _ _ _ h => h) (by rfl) ?_
      refine zpg_ (i := 6) (ra_ [3, 1, 3, 3]) HT_ rfl rfl (by kernel_rfl) (fun _ _ _ h => h) (by rfl) ?_
      refine ztg_ (i := 3) (fl_ 10 7) HT_ HW_ rfl rfl (by kernel_rfl) (fun _ _ _ h => h) (by rfl) hHeld ?_ z129_
      refine zt_ HT_ HW_ rfl rfl (by kernel_rfl) (fun _ _ _ h => h) (by rfl) hHeld ?_ z129_
      refine one_ (i := 8) (N := some 25) (fl_ 10 9) rfl rfl (one_of HT_.out (by kernel_rfl)) (by decide) (fun K hK => ?_)
      refine goes_ Try.func49 (by kernel_rfl) rfl #[.agg #[.int .i64 ((rd_T65 l0 x5_1).f0), .slice A630_1 ((rd_T65 l0 x5_1).f1).length c630_1, .int .i64 ((rd_T65 l0 x5_1).f2), .int .i64 ((rd_T65 l0 x5_1).f3), .int .i64 ((rd_T65 l0 x5_1).f4)], .agg #[.int .i64 ((rd_T65 l1 x5_1).f0), .slice A631_1 ((rd_T65 l1 x5_1).f1).length c631_1, .int .i64 ((rd_T65 l1 x5_1).f2), .int .i64 ((rd_T65 l1 x5_1).f3), .int .i64 ((rd_T65 l1 x5_1).f4)]] (by rfl) rfl rfl z1_ ?_
      with_reducible refine (spec_l15Same.calls k1 ((rd_T65 l0 x5_1).f0) _ _ ((rd_T65 l0 x5_1).f1) ((rd_T65 l0 x5_1).f2) ((rd_T65 l0 x5_1).f3) ((rd_T65 l0 x5_1).f4) ((rd_T65 l1 x5_1).f0) _ _ ((rd_T65 l1 x5_1).f1) ((rd_T65 l1 x5_1).f2) ((rd_T65 l1 x5_1).f3) ((rd_T65 l1 x5_1).f4) false _ ?side1 ?side2 ?side3 ?side4 A7.out).mono ?_
      (case side1 => exact z120_)
      (case side2 => exact HC630_1.out)
      (case side3 => exact z121_)
      (case side4 => exact HC631_1.out)
      rintro e w12 ⟨rfl, hb⟩
      refine ⟨_, rfl, ?_⟩
      have n0_ := Aside0.mk (below_step z0_ hb)
      clear HB
      have HB := n0_
      clear n0_
      (try clear hb)
      (try clear hb2)
      (try clear hk)
      (try clear hi)
      refine hK.out _ _ ⟨((HB.out.cell (World.block_lt_of_cell? w _ hw630_0)).trans hw630_0), ((HB.out.cell (World.block_lt_of_cell? w _ hw630_1)).trans hw630_1), ((HB.out.cell (World.block_lt_of_cell? w _ hw630_2)).trans hw630_2), ((HB.out.cell (World.block_lt_of_cell? w _ hw630_3)).trans hw630_3), ((HB.out.cell (World.block_lt_of_cell? w _ hw630_4)).trans hw630_4), ((HB.out.cell (World.block_lt_of_cell? w _ hw631_0)).trans hw631_0), ((HB.out.cell (World.block_lt_of_cell? w _ hw631_1)).trans hw631_1), ((HB.out.cell (World.block_lt_of_cell? w _ hw631_2)).trans hw631_2), ((HB.out.cell (World.block_lt_of_cell? w _ hw631_3)).trans hw631_3), ((HB.out.cell (World.block_lt_of_cell? w _ hw631_4)).trans hw631_4)⟩ (fun hHeld => ?_)
      clear hK K
      refine zn_ rfl ?_
      refine zp_ HT_ rfl rfl (by kernel_rfl) (fun _ _ _ h => h) (by rfl) ?_
      refine done_ (done_of HT_.out (by kernel_rfl)) ?_
      try go_wp2
      go_ret
      exact ⟨z6_, z0_⟩
    ·rw [if_neg c4] at H
     have c4b0 : decide (x5_1 < (l0.length : Int)) = false := decide_eq_false c4
     clear c4
     obtain rfl := Option.some.inj H
     go_wp2
     go_ret
     exact ⟨z6_, z0_⟩
 ·rw [if_neg c3] at H
  have c3b0 : ((l0.length : Int) == (l1.length : Int)) = false := beq_eq_false_iff_ne.mpr c3
  have c3b1 : ((l0.length : Int) != (l1.length : Int)) = true := bne_iff_ne.mpr c3
  have c3b2 : (l0.length == l1.length) = false := by first | simpa using c3 | (simp at c3 ⊢; omega)
  obtain rfl := Option.some.inj H
  go_enter Try.func16, Try.ntmps16
  go_wp2
  go_ret
  exact ⟨z6_, z0_⟩

end Go.Proofs.Ytmbhlfcpdbbogaa.PFnIdle
