/- Laid by a program of this session out of the kit's print for the law FnExactReadScript: what it says of the machine is proved here, function by function; each contract under the conditions that it names. -/
import Derived.Test.YtlfmlagdnebkiaaDoorMFnExactReadScriptx1
import Derived.Test.YtlfmlagdnebkiaaDoorMFnExactReadScriptx2
import Derived.Test.YtlfmlagdnebkiaaDoorMFnExactReadScriptx3
import Derived.Test.YtlfmlagdnebkiaaDoorMFnExactReadScriptx4
import Derived.Test.YtlfmlagdnebkiaaDoorMFnExactReadScriptx5
import Derived.Test.YtlfmlagdnebkiaaDoorMFnExactReadScriptx6
import Derived.Test.YtlfmlagdnebkiaaDoorMFnExactReadScriptx7
import Derived.Test.YtlfmlagdnebkiaaDoorMFnExactReadScriptx8
import Derived.Test.YtlfmlagdnebkiaaDoorMFnExactReadScriptx9
import Derived.Test.YtlfmlagdnebkiaaDoorMFnExactReadScriptx10
import Derived.Test.YtlfmlagdnebkiaaDoorMFnExactReadScriptx0
import Derived.Test.YtlfmlagdnebkiaaDoorMFnExactReadScriptx11
namespace Go.Proofs.YtlfmlagdnebkiaaDoor.PFnExactReadScript
open Go.RowKit Go.Proofs.YtlfmlagdnebkiaaDoorW.PrintWords Go.Proofs.YtlfmlagdnebkiaaDoorW.PrintLast Go.Proofs.YtlfmlagdnebkiaaDoorW.PrintMore
attribute [local go_sem] max2_int min2_int max_two min_two max_three min_three max_four min_four   -- for this text's walks alone
set_option linter.unusedVariables false
set_option linter.unusedSimpArgs false

/-! ### laws_heldOpS: function 14 -/
def laws_heldOpS.l0 : Nat → List (S24) → Int → Int → Option (Int)
  | 0, _, _, _ => none
  | k + 1, x0, x1, x5 => if x5 < (x0.length : Int) then (if 0 ≤ x5 then (if ((rd_T24 x0 x5).f0) = x1 then ((laws_heldIntS.f k ((rd_T24 x0 x5).f1) (wrap64 (x1 + 1))).bind fun t338 => (if t338 < 0 then (some (-1)) else (if ((rd_T24 x0 x5).f2) = t338 then (if ((rd_T24 x0 x5).f3) = (wrap64 (t338 + 1)) then (if ((rd_T24 x0 x5).f4) = (wrap64 ((wrap64 (t338 + 1)) + 1)) then (laws_heldOpS.l0 k x0 (wrap64 ((wrap64 ((wrap64 (t338 + 1)) + 1)) + 1)) (wrap64 (x5 + 1))) else (some (-1))) else (some (-1))) else (some (-1))))) else (some (-1))) else (none)) else (some x1)
def laws_heldOpS.f (k : Nat) (l0 : List (S24)) (a1 : Int) : Option (Int) := laws_heldOpS.l0 k l0 a1 0
set_option maxHeartbeats 8000000 in
set_option maxRecDepth 100000 in
theorem laws_heldOpS.calls (k : Nat) (A0 : Option Addr) (c0 : Nat) (l0 : List (S24)) (a1 : Int) (r : Int) (w : World) (hr0 : Kd.C k24 w A0 l0.length l0) (hc0 : l0.length ≤ c0) (h : laws_heldOpS.f k l0 a1 = some r) :
    Calls Tryd.prog 14 #[.slice A0 l0.length c0, .int .i64 a1] w fun e w' => e = .returned (.int .i64 r) ∧ Drawn0 w w' := by
  have HR0 := Aside0.mk hr0
  have HC0 := Aside0.mk hc0
  clear hr0 hc0
  have H : (laws_heldOpS.l0 k l0 a1 0) = some r := h
  clear h
  have H' := Aside0.mk H
  clear H
  go_enter Tryd.func14, Tryd.ntmps14
  go_wp2
  go_loopg [1, 5] k (fun kq v1 v5 w' => ∃ (x1_1 : Int) (x5_1 : Int), v1 = .int .i64 x1_1 ∧ v5 = .int .i64 x5_1 ∧ Aside0 (laws_heldOpS.l0 kq l0 x1_1 x5_1 = some r) ∧ Aside0 (kq ≤ k) ∧ Drawn0 w w')
  case atStart => exact ⟨(a1), (0), z4_, z4_, H', ⟨Nat.le_refl _⟩, z24_⟩
  case round =>
    clear H'
    try clear c1
    try clear p2
    obtain ⟨x1_1, x5_1, rfl, rfl, HA, HK1, ⟨m1, rfl⟩⟩ := hrel
    cases gk with
    | zero => exact absurd HA.out (by simp [laws_heldOpS.l0])
    | succ k1 =>
      have H := HA.out
      clear HA
      simp only [laws_heldOpS.l0] at H
      by_cases c3 : x5_1 < (l0.length : Int)
      · rw [if_pos c3] at H
        have c3b0 := decide_eq_true c3
        clear c3
        obtain ⟨c4b0, H⟩ := ifd_ H
        by_cases c5 : ((rd_T24 l0 x5_1).f0) = x1_1
        · rw [if_pos c5] at H
          have c5b0 : (((rd_T24 l0 x5_1).f0) == x1_1) = true := beq_iff_eq.mpr c5
          have c5b1 : (((rd_T24 l0 x5_1).f0) != x1_1) = false := bne_eq_false_iff_eq.mpr c5
          clear c5
          obtain ⟨t338, A6, H⟩ := bnd_ H
          by_cases c7 : t338 < 0
          · rw [if_pos c7] at H
            have c7b0 := decide_eq_true c7
            clear c7
            obtain rfl := Option.some.inj H
            have p336 : 0 ≤ (x5_1 : Int) := odt_
            have q336 : x5_1 < (l0.length : Int) := odt_
            obtain ⟨ad336, A336_1, c336_1, e336, hx336_0, hx336_1, hx336_2, hx336_3, hx336_4, hl336_1, hi336_1⟩ := at_T24 HR0.out x5_1 p336 q336
            cases e336
            have HR336_1 := Aside0.mk hi336_1
            have HC336_1 := Aside0.mk hl336_1
            clear hi336_1 hl336_1
            replace p336 := eq_true p336
            replace q336 := eq_true q336
            have p337 : 0 ≤ (x5_1 : Int) := odt_
            have q337 : x5_1 < (l0.length : Int) := odt_
            obtain ⟨ad337, A337_1, c337_1, e337, hx337_0, hx337_1, hx337_2, hx337_3, hx337_4, hl337_1, hi337_1⟩ := at_T24 HR0.out x5_1 p337 q337
            obtain rfl : ad336 = ad337 := (by injection e337)
            have HR337_1 := Aside0.mk hi337_1
            have HC337_1 := Aside0.mk hl337_1
            clear hi337_1 hl337_1
            replace p337 := eq_true p337
            replace q337 := eq_true q337
            have ea_ := Option.some.inj (hx336_1.symm.trans hx337_1)
            injection ea_ with ea_ en_ ec_
            subst ea_
            subst ec_
            clear en_
            go_wp2_with (first | ((with_reducible refine gate_callee (f := 25) rfl ?_); refine goesL_ (some 27) rfl rfl Tryd.func25 (by kernel_rfl) rfl #[.slice A336_1 ((rd_T24 l0 x5_1).f1).length c336_1, .int .i64 (wrap64 (x1_1 + 1))] rfl z1_ ?_; (with_reducible refine (laws_heldIntS.calls k1 _ _ ((rd_T24 l0 x5_1).f1) (wrap64 (x1_1 + 1)) t338 _ ?side1 ?side2 A6.out).mono ?_); (case side1 => exact z52_); (case side2 => exact HC337_1.out); rintro e w' ⟨rfl, ⟨nd, rfl⟩⟩; refine ⟨_, rfl, ?_⟩))
            go_ret
            exact ⟨z4_, z24_⟩
          · rw [if_neg c7] at H
            have c7b0 := decide_eq_false c7
            clear c7
            by_cases c8 : ((rd_T24 l0 x5_1).f2) = t338
            · rw [if_pos c8] at H
              have c8b0 : (((rd_T24 l0 x5_1).f2) == t338) = true := beq_iff_eq.mpr c8
              have c8b1 : (((rd_T24 l0 x5_1).f2) != t338) = false := bne_eq_false_iff_eq.mpr c8
              clear c8
              by_cases c9 : ((rd_T24 l0 x5_1).f3) = (wrap64 (t338 + 1))
              · rw [if_pos c9] at H
                have c9b0 : (((rd_T24 l0 x5_1).f3) == (wrap64 (t338 + 1))) = true := beq_iff_eq.mpr c9
                have c9b1 : (((rd_T24 l0 x5_1).f3) != (wrap64 (t338 + 1))) = false := bne_eq_false_iff_eq.mpr c9
                clear c9
                by_cases c10 : ((rd_T24 l0 x5_1).f4) = (wrap64 ((wrap64 (t338 + 1)) + 1))
                · rw [if_pos c10] at H
                  have c10b0 : (((rd_T24 l0 x5_1).f4) == (wrap64 ((wrap64 (t338 + 1)) + 1))) = true := beq_iff_eq.mpr c10
                  have c10b1 : (((rd_T24 l0 x5_1).f4) != (wrap64 ((wrap64 (t338 + 1)) + 1))) = false := bne_eq_false_iff_eq.mpr c10
                  clear c10
                  have H' := Aside0.mk H
                  clear H
                  have p336 : 0 ≤ (x5_1 : Int) := odt_
                  have q336 : x5_1 < (l0.length : Int) := odt_
                  obtain ⟨ad336, A336_1, c336_1, e336, hx336_0, hx336_1, hx336_2, hx336_3, hx336_4, hl336_1, hi336_1⟩ := at_T24 HR0.out x5_1 p336 q336
                  cases e336
                  have HR336_1 := Aside0.mk hi336_1
                  have HC336_1 := Aside0.mk hl336_1
                  clear hi336_1 hl336_1
                  replace p336 := eq_true p336
                  replace q336 := eq_true q336
                  have p337 : 0 ≤ (x5_1 : Int) := odt_
                  have q337 : x5_1 < (l0.length : Int) := odt_
                  obtain ⟨ad337, A337_1, c337_1, e337, hx337_0, hx337_1, hx337_2, hx337_3, hx337_4, hl337_1, hi337_1⟩ := at_T24 HR0.out x5_1 p337 q337
                  obtain rfl : ad336 = ad337 := (by injection e337)
                  have HR337_1 := Aside0.mk hi337_1
                  have HC337_1 := Aside0.mk hl337_1
                  clear hi337_1 hl337_1
                  replace p337 := eq_true p337
                  replace q337 := eq_true q337
                  have ea_ := Option.some.inj (hx336_1.symm.trans hx337_1)
                  injection ea_ with ea_ en_ ec_
                  subst ea_
                  subst ec_
                  clear en_
                  go_wp2_with (first | ((with_reducible refine gate_callee (f := 25) rfl ?_); refine goesL_ (some 27) rfl rfl Tryd.func25 (by kernel_rfl) rfl #[.slice A336_1 ((rd_T24 l0 x5_1).f1).length c336_1, .int .i64 (wrap64 (x1_1 + 1))] rfl z1_ ?_; (with_reducible refine (laws_heldIntS.calls k1 _ _ ((rd_T24 l0 x5_1).f1) (wrap64 (x1_1 + 1)) t338 _ ?side1 ?side2 A6.out).mono ?_); (case side1 => exact z52_); (case side2 => exact HC337_1.out); rintro e w' ⟨rfl, ⟨nd, rfl⟩⟩; refine ⟨_, rfl, ?_⟩; have p339 : 0 ≤ (x5_1 : Int) := odt_; have q339 : x5_1 < (l0.length : Int) := odt_; obtain ⟨ad339, A339_1, c339_1, e339, hx339_0, hx339_1, hx339_2, hx339_3, hx339_4, hl339_1, hi339_1⟩ := at_T24 HR0.out x5_1 p339 q339; obtain rfl : ad336 = ad339 := (by injection e339); have HR339_1 := Aside0.mk hi339_1; have HC339_1 := Aside0.mk hl339_1; clear hi339_1 hl339_1; replace p339 := eq_true p339; replace q339 := eq_true q339; have ea_ := Option.some.inj (hx336_1.symm.trans hx339_1); injection ea_ with ea_ en_ ec_; subst ea_; subst ec_; clear en_; have p340 : 0 ≤ (x5_1 : Int) := odt_; have q340 : x5_1 < (l0.length : Int) := odt_; obtain ⟨ad340, A340_1, c340_1, e340, hx340_0, hx340_1, hx340_2, hx340_3, hx340_4, hl340_1, hi340_1⟩ := at_T24 HR0.out x5_1 p340 q340; obtain rfl : ad336 = ad340 := (by injection e340); have HR340_1 := Aside0.mk hi340_1; have HC340_1 := Aside0.mk hl340_1; clear hi340_1 hl340_1; replace p340 := eq_true p340; replace q340 := eq_true q340; have ea_ := Option.some.inj (hx336_1.symm.trans hx340_1); injection ea_ with ea_ en_ ec_; subst ea_; subst ec_; clear en_; have p341 : 0 ≤ (x5_1 : Int) := odt_; have q341 : x5_1 < (l0.length : Int) := odt_; obtain ⟨ad341, A341_1, c341_1, e341, hx341_0, hx341_1, hx341_2, hx341_3, hx341_4, hl341_1, hi341_1⟩ := at_T24 HR0.out x5_1 p341 q341; obtain rfl : ad336 = ad341 := (by injection e341); have HR341_1 := Aside0.mk hi341_1; have HC341_1 := Aside0.mk hl341_1; clear hi341_1 hl341_1; replace p341 := eq_true p341; replace q341 := eq_true q341; have ea_ := Option.some.inj (hx336_1.symm.trans hx341_1); injection ea_ with ea_ en_ ec_; subst ea_; subst ec_; clear en_))
                  go_roundg k1
                  case measure => have := HK1.out; omega
                  case rel => exact ⟨(wrap64 ((wrap64 ((wrap64 (t338 + 1)) + 1)) + 1)), (wrap64 (x5_1 + 1)), z4_, z4_, H', ⟨z62_⟩, z24_⟩
                · rw [if_neg c10] at H
                  have c10b0 : (((rd_T24 l0 x5_1).f4) == (wrap64 ((wrap64 (t338 + 1)) + 1))) = false := beq_eq_false_iff_ne.mpr c10
                  have c10b1 : (((rd_T24 l0 x5_1).f4) != (wrap64 ((wrap64 (t338 + 1)) + 1))) = true := bne_iff_ne.mpr c10
                  obtain rfl := Option.some.inj H
                  have p336 : 0 ≤ (x5_1 : Int) := odt_
                  have q336 : x5_1 < (l0.length : Int) := odt_
                  obtain ⟨ad336, A336_1, c336_1, e336, hx336_0, hx336_1, hx336_2, hx336_3, hx336_4, hl336_1, hi336_1⟩ := at_T24 HR0.out x5_1 p336 q336
                  cases e336
                  have HR336_1 := Aside0.mk hi336_1
                  have HC336_1 := Aside0.mk hl336_1
                  clear hi336_1 hl336_1
                  replace p336 := eq_true p336
                  replace q336 := eq_true q336
                  have p337 : 0 ≤ (x5_1 : Int) := odt_
                  have q337 : x5_1 < (l0.length : Int) := odt_
                  obtain ⟨ad337, A337_1, c337_1, e337, hx337_0, hx337_1, hx337_2, hx337_3, hx337_4, hl337_1, hi337_1⟩ := at_T24 HR0.out x5_1 p337 q337
                  obtain rfl : ad336 = ad337 := (by injection e337)
                  have HR337_1 := Aside0.mk hi337_1
                  have HC337_1 := Aside0.mk hl337_1
                  clear hi337_1 hl337_1
                  replace p337 := eq_true p337
                  replace q337 := eq_true q337
                  have ea_ := Option.some.inj (hx336_1.symm.trans hx337_1)
                  injection ea_ with ea_ en_ ec_
                  subst ea_
                  subst ec_
                  clear en_
                  go_wp2_with (first | ((with_reducible refine gate_callee (f := 25) rfl ?_); refine goesL_ (some 27) rfl rfl Tryd.func25 (by kernel_rfl) rfl #[.slice A336_1 ((rd_T24 l0 x5_1).f1).length c336_1, .int .i64 (wrap64 (x1_1 + 1))] rfl z1_ ?_; (with_reducible refine (laws_heldIntS.calls k1 _ _ ((rd_T24 l0 x5_1).f1) (wrap64 (x1_1 + 1)) t338 _ ?side1 ?side2 A6.out).mono ?_); (case side1 => exact z52_); (case side2 => exact HC337_1.out); rintro e w' ⟨rfl, ⟨nd, rfl⟩⟩; refine ⟨_, rfl, ?_⟩; have p339 : 0 ≤ (x5_1 : Int) := odt_; have q339 : x5_1 < (l0.length : Int) := odt_; obtain ⟨ad339, A339_1, c339_1, e339, hx339_0, hx339_1, hx339_2, hx339_3, hx339_4, hl339_1, hi339_1⟩ := at_T24 HR0.out x5_1 p339 q339; obtain rfl : ad336 = ad339 := (by injection e339); have HR339_1 := Aside0.mk hi339_1; have HC339_1 := Aside0.mk hl339_1; clear hi339_1 hl339_1; replace p339 := eq_true p339; replace q339 := eq_true q339; have ea_ := Option.some.inj (hx336_1.symm.trans hx339_1); injection ea_ with ea_ en_ ec_; subst ea_; subst ec_; clear en_; have p340 : 0 ≤ (x5_1 : Int) := odt_; have q340 : x5_1 < (l0.length : Int) := odt_; obtain ⟨ad340, A340_1, c340_1, e340, hx340_0, hx340_1, hx340_2, hx340_3, hx340_4, hl340_1, hi340_1⟩ := at_T24 HR0.out x5_1 p340 q340; obtain rfl : ad336 = ad340 := (by injection e340); have HR340_1 := Aside0.mk hi340_1; have HC340_1 := Aside0.mk hl340_1; clear hi340_1 hl340_1; replace p340 := eq_true p340; replace q340 := eq_true q340; have ea_ := Option.some.inj (hx336_1.symm.trans hx340_1); injection ea_ with ea_ en_ ec_; subst ea_; subst ec_; clear en_; have p341 : 0 ≤ (x5_1 : Int) := odt_; have q341 : x5_1 < (l0.length : Int) := odt_; obtain ⟨ad341, A341_1, c341_1, e341, hx341_0, hx341_1, hx341_2, hx341_3, hx341_4, hl341_1, hi341_1⟩ := at_T24 HR0.out x5_1 p341 q341; obtain rfl : ad336 = ad341 := (by injection e341); have HR341_1 := Aside0.mk hi341_1; have HC341_1 := Aside0.mk hl341_1; clear hi341_1 hl341_1; replace p341 := eq_true p341; replace q341 := eq_true q341; have ea_ := Option.some.inj (hx336_1.symm.trans hx341_1); injection ea_ with ea_ en_ ec_; subst ea_; subst ec_; clear en_))
                  go_ret
                  exact ⟨z4_, z24_⟩
              · rw [if_neg c9] at H
                have c9b0 : (((rd_T24 l0 x5_1).f3) == (wrap64 (t338 + 1))) = false := beq_eq_false_iff_ne.mpr c9
                have c9b1 : (((rd_T24 l0 x5_1).f3) != (wrap64 (t338 + 1))) = true := bne_iff_ne.mpr c9
                obtain rfl := Option.some.inj H
                have p336 : 0 ≤ (x5_1 : Int) := odt_
                have q336 : x5_1 < (l0.length : Int) := odt_
                obtain ⟨ad336, A336_1, c336_1, e336, hx336_0, hx336_1, hx336_2, hx336_3, hx336_4, hl336_1, hi336_1⟩ := at_T24 HR0.out x5_1 p336 q336
                cases e336
                have HR336_1 := Aside0.mk hi336_1
                have HC336_1 := Aside0.mk hl336_1
                clear hi336_1 hl336_1
                replace p336 := eq_true p336
                replace q336 := eq_true q336
                have p337 : 0 ≤ (x5_1 : Int) := odt_
                have q337 : x5_1 < (l0.length : Int) := odt_
                obtain ⟨ad337, A337_1, c337_1, e337, hx337_0, hx337_1, hx337_2, hx337_3, hx337_4, hl337_1, hi337_1⟩ := at_T24 HR0.out x5_1 p337 q337
                obtain rfl : ad336 = ad337 := (by injection e337)
                have HR337_1 := Aside0.mk hi337_1
                have HC337_1 := Aside0.mk hl337_1
                clear hi337_1 hl337_1
                replace p337 := eq_true p337
                replace q337 := eq_true q337
                have ea_ := Option.some.inj (hx336_1.symm.trans hx337_1)
                injection ea_ with ea_ en_ ec_
                subst ea_
                subst ec_
                clear en_
                go_wp2_with (first | ((with_reducible refine gate_callee (f := 25) rfl ?_); refine goesL_ (some 27) rfl rfl Tryd.func25 (by kernel_rfl) rfl #[.slice A336_1 ((rd_T24 l0 x5_1).f1).length c336_1, .int .i64 (wrap64 (x1_1 + 1))] rfl z1_ ?_; (with_reducible refine (laws_heldIntS.calls k1 _ _ ((rd_T24 l0 x5_1).f1) (wrap64 (x1_1 + 1)) t338 _ ?side1 ?side2 A6.out).mono ?_); (case side1 => exact z52_); (case side2 => exact HC337_1.out); rintro e w' ⟨rfl, ⟨nd, rfl⟩⟩; refine ⟨_, rfl, ?_⟩; have p339 : 0 ≤ (x5_1 : Int) := odt_; have q339 : x5_1 < (l0.length : Int) := odt_; obtain ⟨ad339, A339_1, c339_1, e339, hx339_0, hx339_1, hx339_2, hx339_3, hx339_4, hl339_1, hi339_1⟩ := at_T24 HR0.out x5_1 p339 q339; obtain rfl : ad336 = ad339 := (by injection e339); have HR339_1 := Aside0.mk hi339_1; have HC339_1 := Aside0.mk hl339_1; clear hi339_1 hl339_1; replace p339 := eq_true p339; replace q339 := eq_true q339; have ea_ := Option.some.inj (hx336_1.symm.trans hx339_1); injection ea_ with ea_ en_ ec_; subst ea_; subst ec_; clear en_; have p340 : 0 ≤ (x5_1 : Int) := odt_; have q340 : x5_1 < (l0.length : Int) := odt_; obtain ⟨ad340, A340_1, c340_1, e340, hx340_0, hx340_1, hx340_2, hx340_3, hx340_4, hl340_1, hi340_1⟩ := at_T24 HR0.out x5_1 p340 q340; obtain rfl : ad336 = ad340 := (by injection e340); have HR340_1 := Aside0.mk hi340_1; have HC340_1 := Aside0.mk hl340_1; clear hi340_1 hl340_1; replace p340 := eq_true p340; replace q340 := eq_true q340; have ea_ := Option.some.inj (hx336_1.symm.trans hx340_1); injection ea_ with ea_ en_ ec_; subst ea_; subst ec_; clear en_))
                go_ret
                exact ⟨z4_, z24_⟩
            · rw [if_neg c8] at H
              have c8b0 : (((rd_T24 l0 x5_1).f2) == t338) = false := beq_eq_false_iff_ne.mpr c8
              have c8b1 : (((rd_T24 l0 x5_1).f2) != t338) = true := bne_iff_ne.mpr c8
              obtain rfl := Option.some.inj H
              have p336 : 0 ≤ (x5_1 : Int) := odt_
              have q336 : x5_1 < (l0.length : Int) := odt_
              obtain ⟨ad336, A336_1, c336_1, e336, hx336_0, hx336_1, hx336_2, hx336_3, hx336_4, hl336_1, hi336_1⟩ := at_T24 HR0.out x5_1 p336 q336
              cases e336
              have HR336_1 := Aside0.mk hi336_1
              have HC336_1 := Aside0.mk hl336_1
              clear hi336_1 hl336_1
              replace p336 := eq_true p336
              replace q336 := eq_true q336
              have p337 : 0 ≤ (x5_1 : Int) := odt_
              have q337 : x5_1 < (l0.length : Int) := odt_
              obtain ⟨ad337, A337_1, c337_1, e337, hx337_0, hx337_1, hx337_2, hx337_3, hx337_4, hl337_1, hi337_1⟩ := at_T24 HR0.out x5_1 p337 q337
              obtain rfl : ad336 = ad337 := (by injection e337)
              have HR337_1 := Aside0.mk hi337_1
              have HC337_1 := Aside0.mk hl337_1
              clear hi337_1 hl337_1
              replace p337 := eq_true p337
              replace q337 := eq_true q337
              have ea_ := Option.some.inj (hx336_1.symm.trans hx337_1)
              injection ea_ with ea_ en_ ec_
              subst ea_
              subst ec_
              clear en_
              go_wp2_with (first | ((with_reducible refine gate_callee (f := 25) rfl ?_); refine goesL_ (some 27) rfl rfl Tryd.func25 (by kernel_rfl) rfl #[.slice A336_1 ((rd_T24 l0 x5_1).f1).length c336_1, .int .i64 (wrap64 (x1_1 + 1))] rfl z1_ ?_; (with_reducible refine (laws_heldIntS.calls k1 _ _ ((rd_T24 l0 x5_1).f1) (wrap64 (x1_1 + 1)) t338 _ ?side1 ?side2 A6.out).mono ?_); (case side1 => exact z52_); (case side2 => exact HC337_1.out); rintro e w' ⟨rfl, ⟨nd, rfl⟩⟩; refine ⟨_, rfl, ?_⟩; have p339 : 0 ≤ (x5_1 : Int) := odt_; have q339 : x5_1 < (l0.length : Int) := odt_; obtain ⟨ad339, A339_1, c339_1, e339, hx339_0, hx339_1, hx339_2, hx339_3, hx339_4, hl339_1, hi339_1⟩ := at_T24 HR0.out x5_1 p339 q339; obtain rfl : ad336 = ad339 := (by injection e339); have HR339_1 := Aside0.mk hi339_1; have HC339_1 := Aside0.mk hl339_1; clear hi339_1 hl339_1; replace p339 := eq_true p339; replace q339 := eq_true q339; have ea_ := Option.some.inj (hx336_1.symm.trans hx339_1); injection ea_ with ea_ en_ ec_; subst ea_; subst ec_; clear en_))
              go_ret
              exact ⟨z4_, z24_⟩
        · rw [if_neg c5] at H
          have c5b0 : (((rd_T24 l0 x5_1).f0) == x1_1) = false := beq_eq_false_iff_ne.mpr c5
          have c5b1 : (((rd_T24 l0 x5_1).f0) != x1_1) = true := bne_iff_ne.mpr c5
          obtain rfl := Option.some.inj H
          have p336 : 0 ≤ (x5_1 : Int) := odt_
          have q336 : x5_1 < (l0.length : Int) := odt_
          obtain ⟨ad336, A336_1, c336_1, e336, hx336_0, hx336_1, hx336_2, hx336_3, hx336_4, hl336_1, hi336_1⟩ := at_T24 HR0.out x5_1 p336 q336
          cases e336
          have HR336_1 := Aside0.mk hi336_1
          have HC336_1 := Aside0.mk hl336_1
          clear hi336_1 hl336_1
          replace p336 := eq_true p336
          replace q336 := eq_true q336
          go_wp2
          go_ret
          exact ⟨z4_, z24_⟩
      · rw [if_neg c3] at H
        have c3b0 := decide_eq_false c3
        clear c3
        obtain rfl := Option.some.inj H
        go_wp2
        go_ret
        exact ⟨z4_, z24_⟩

/-! ### laws_FnExactReadScript: function 4 -/
theorem ivR {α : Type} {d : Kd α} {e base b hi0 : Nat} {ok : Nat → Prop} {w' : World} {v : Value} {l : List α} (h : d.R e w' b ok v l) (hbs : base ≤ b) (hz : hi0 ≤ b) (hs : b ≤ w'.heap.size) : ∃ hi, hi0 ≤ hi ∧ hi ≤ w'.heap.size ∧ d.R e w' base (fun k => hi0 ≤ k ∧ k < hi) v l :=
  ⟨w'.heap.size, Nat.le_trans hz hs, Nat.le_refl _, Kd.R_mono (Kd.R_lower (Kd.R_bound h) hbs) (fun k hk => ⟨Nat.le_trans hz hk.2.1, hk.2.2.1⟩)⟩
theorem ivS {α : Type} {d : Kd α} {e base b hi0 : Nat} {ok : Nat → Prop} {w' : World} {v : Value} {l : List α} (h : Kd.S d e w' b ok v l) (hbs : base ≤ b) (hz : hi0 ≤ b) (hs : b ≤ w'.heap.size) : ∃ hi, hi0 ≤ hi ∧ hi ≤ w'.heap.size ∧ Kd.S d e w' base (fun k => hi0 ≤ k ∧ k < hi) v l :=
  ⟨w'.heap.size, Nat.le_trans hz hs, Nat.le_refl _, Kd.S_mono (Kd.S_lower (Kd.S_bound h) hbs) (fun k hk => ⟨Nat.le_trans hz hk.2.1, hk.2.2.1⟩)⟩
theorem ivN {α : Type} {d : Kd α} {e base b hi0 : Nat} {ok : Nat → Prop} {w' : World} {v : Value} {l : List α} (h : Kd.N d e w' b ok v l) (hbs : base ≤ b) (hz : hi0 ≤ b) (hs : b ≤ w'.heap.size) (hok : ∀ k, ok k → b ≤ k) : ∃ hi, hi0 ≤ hi ∧ hi ≤ w'.heap.size ∧ Kd.N d e w' base (fun k => hi0 ≤ k ∧ k < hi) v l :=
  ⟨w'.heap.size, Nat.le_trans hz hs, Nat.le_refl _, Kd.N_mono (Kd.N_lower (Kd.N_bound h) hbs) (fun k hk => ⟨Nat.le_trans hz (hok k hk.1), hk.2⟩)⟩
theorem iv_apart {a b c d k : Nat} (h1 : a ≤ k ∧ k < b) (h2 : c ≤ k ∧ k < d) (h : b ≤ c ∨ d ≤ a) : False := by omega
def laws_FnExactReadScript.f (k : Nat) (a0 : ByteArray) : Option Bool := if (a0.size : Int) > 1048576 then some true else (spec_ReadScript.f k a0).bind fun bt1 => (impl_ReadScript.f k a0).bind fun bt8 => (laws_eqOpS.f k bt8.1 bt1.1).bind fun t15 => if t15 = true then if bt8.2 = bt1.2 then (laws_markOpS.f k bt8.1 1).bind fun bt17 => (laws_heldOpS.f k bt17.2 1).bind fun t21 => if t21 < 0 then none else if t21 = bt17.1 then (impl_ReadScript.f k a0).bind fun bt23 => (laws_eqOpS.f k bt23.1 bt1.1).bind fun t30 => if t30 = true then if bt23.2 = bt1.2 then (laws_heldOpS.f k bt17.2 1).bind fun t32 => if t32 < 0 then none else if t32 = bt17.1 then some true else none else none else none else none else none else none
set_option maxHeartbeats 8000000 in
set_option maxRecDepth 100000 in
theorem laws_FnExactReadScript.calls (k : Nat) (a0 : ByteArray) (r : Bool) (w : World)  (hL : Laid w) (h : laws_FnExactReadScript.f k a0 = some r) :
    Calls Tryd.prog 4 #[.string a0] w fun e w' => e = .returned (.bool r) ∧ Below w.heap.size w w' := by
  have HB := Aside0.mk (Below.refl w.heap.size w)
  obtain ⟨z0, hz0_⟩ : ∃ z0, z0 = w.heap.size := ⟨_, rfl⟩
  have HZ := Aside0.mk (show z0 ≤ w.heap.size from Nat.le_of_eq hz0_)
  clear hz0_
  unfold laws_FnExactReadScript.f at h
  have H := h
  clear h
  by_cases q1 : (a0.size : Int) > 1048576
  · rw [if_pos q1] at H
    obtain rfl := Option.some.inj H
    have qa1 := decide_eq_true q1
    have qb1 : decide (1048576 < a0.size) = true := decide_eq_true (by omega)
    clear q1
    go_enter Tryd.func4, Tryd.ntmps4
    go_wp2
    go_ret
    exact ⟨z2_, z0_⟩
  rw [if_neg q1] at H
  have qa1 := decide_eq_false q1
  have qb1 : decide (1048576 < a0.size) = false := decide_eq_false (by omega)
  clear q1
  replace H := Option.bind_eq_some_iff.mp H
  obtain ⟨⟨t1, t2⟩, F30_, H⟩ := H
  have F3 := Aside0.mk F30_
  clear F30_
  dsimp only at H
  replace H := Option.bind_eq_some_iff.mp H
  obtain ⟨⟨t8, t9⟩, F100_, H⟩ := H
  have F10 := Aside0.mk F100_
  clear F100_
  dsimp only at H
  replace H := Option.bind_eq_some_iff.mp H
  obtain ⟨t15, F160_, H⟩ := H
  have F16 := Aside0.mk F160_
  clear F160_
  by_cases q5 : t15 = true
  rotate_left
  · rw [if_neg q5] at H; cases H
  rw [if_pos q5] at H
  subst q5
  by_cases q6 : t9 = t2
  rotate_left
  · rw [if_neg q6] at H; cases H
  rw [if_pos q6] at H
  have qb6 : (t9 != t2) = false := bne_eq_false_iff_eq.mpr q6
  have qc6 : (t9 == t2) = true := beq_iff_eq.mpr q6
  clear q6
  replace H := Option.bind_eq_some_iff.mp H
  obtain ⟨⟨t17, t18⟩, F190_, H⟩ := H
  have F19 := Aside0.mk F190_
  clear F190_
  dsimp only at H
  replace H := Option.bind_eq_some_iff.mp H
  obtain ⟨t21, F220_, H⟩ := H
  have F22 := Aside0.mk F220_
  clear F220_
  by_cases q9 : t21 < 0
  · rw [if_pos q9] at H; cases H
  rw [if_neg q9] at H
  have qb9 : decide (t21 < 0) = false := decide_eq_false q9
  clear q9
  by_cases q10 : t21 = t17
  rotate_left
  · rw [if_neg q10] at H; cases H
  rw [if_pos q10] at H
  have qb10 : (t21 != t17) = false := bne_eq_false_iff_eq.mpr q10
  have qc10 : (t21 == t17) = true := beq_iff_eq.mpr q10
  clear q10
  replace H := Option.bind_eq_some_iff.mp H
  obtain ⟨⟨t23, t24⟩, F250_, H⟩ := H
  have F25 := Aside0.mk F250_
  clear F250_
  dsimp only at H
  replace H := Option.bind_eq_some_iff.mp H
  obtain ⟨t30, F310_, H⟩ := H
  have F31 := Aside0.mk F310_
  clear F310_
  by_cases q13 : t30 = true
  rotate_left
  · rw [if_neg q13] at H; cases H
  rw [if_pos q13] at H
  subst q13
  by_cases q14 : t24 = t2
  rotate_left
  · rw [if_neg q14] at H; cases H
  rw [if_pos q14] at H
  have qb14 : (t24 != t2) = false := bne_eq_false_iff_eq.mpr q14
  have qc14 : (t24 == t2) = true := beq_iff_eq.mpr q14
  clear q14
  replace H := Option.bind_eq_some_iff.mp H
  obtain ⟨t32, F330_, H⟩ := H
  have F33 := Aside0.mk F330_
  clear F330_
  by_cases q16 : t32 < 0
  · rw [if_pos q16] at H; cases H
  rw [if_neg q16] at H
  have qb16 : decide (t32 < 0) = false := decide_eq_false q16
  clear q16
  by_cases q17 : t32 = t17
  rotate_left
  · rw [if_neg q17] at H; cases H
  rw [if_pos q17] at H
  have qb17 : (t32 != t17) = false := bne_eq_false_iff_eq.mpr q17
  have qc17 : (t32 == t17) = true := beq_iff_eq.mpr q17
  clear q17
  obtain rfl := Option.some.inj H
  go_enter Tryd.func4, Tryd.ntmps4
  go_wp2_with (first | ((with_reducible refine gate_callee (f := 10) rfl ?_); refine goesL_ (some 16) rfl rfl Tryd.func10 (by kernel_rfl) rfl #[.string a0] rfl z1_ ?_; (refine (spec_ReadScript.calls k a0 t1 t2 _ F3.out).mono ?_); rintro e wx ⟨v4, rfl, ho0, hb⟩; refine ⟨_, rfl, ?_⟩; obtain ⟨z1, za1_, zb1_, hn0_⟩ := ivS ho0 (below_size z0_) HZ.out hb.size; have HZ1 := Aside0.mk za1_; replace HZ := Aside0.mk (zb1_); replace HB := Aside0.mk (below_step z0_ hb); have HO5 := Aside0.mk hn0_; obtain ⟨Ao6, co7, eo_⟩ := Kd.S_slice HO5.out; subst eo_; clear hn0_ ho0; clear hb; clear za1_ zb1_) | ((with_reducible refine gate_callee (f := 11) rfl ?_); refine goesL_ (some 21) rfl rfl Tryd.func11 (by kernel_rfl) rfl #[.string a0] rfl z1_ ?_; (refine (impl_ReadScript.calls k a0 t8 t9 _ (hL.below z0_) F10.out).mono ?_); rintro e wx ⟨v11, rfl, ho0, hb⟩; refine ⟨_, rfl, ?_⟩; obtain ⟨z2, za2_, zb2_, hn0_⟩ := ivS ho0 (below_size z0_) HZ.out hb.size; have HZ2 := Aside0.mk za2_; replace HO5 := Aside0.mk (Kd.S_below z61_ hb); replace HZ := Aside0.mk (zb2_); replace HB := Aside0.mk (below_step z0_ hb); have HO12 := Aside0.mk hn0_; obtain ⟨Ao13, co14, eo_⟩ := Kd.S_slice HO12.out; subst eo_; clear hn0_ ho0; clear hb; clear za2_ zb2_) | ((with_reducible refine gate_callee (f := 12) rfl ?_); refine goesL_ (some 26) rfl rfl Tryd.func12 (by kernel_rfl) rfl #[.slice Ao13 t8.length co14, .slice Ao6 t1.length co7] rfl z1_ ?_; (refine (laws_eqOpS.calls k _ _ t8 _ _ t1 true _ ?side1 ?side2 ?side3 ?side4 F16.out).mono ?_); (case side1 => repeat (first | exact (Kd.R_reads' (Kd.S_R HO12.out)).2.2 | (with_reducible refine Kd.C_alloc ?_ _) | (with_reducible refine Kd.C_drewN ?_ _) | (with_reducible refine Kd.C_drew ?_))); (case side2 => exact (Kd.R_reads' (Kd.S_R HO12.out)).2.1); (case side3 => exact z77_); (case side4 => exact (Kd.R_reads' (Kd.S_R HO5.out)).2.1); rintro e wx ⟨rfl, hb⟩; refine ⟨_, rfl, ?_⟩; replace HO5 := Aside0.mk (Kd.S_below z61_ hb); replace HO12 := Aside0.mk (Kd.S_below (by (with_reducible repeat (first | apply Kd.S_alloc | apply Kd.S_drewN | apply Kd.S_drew)); exact HO12.out) hb); replace HZ := Aside0.mk (Nat.le_trans HZ.out hb.size); replace HB := Aside0.mk (below_step z0_ hb); clear hb) | ((with_reducible refine gate_callee (f := 13) rfl ?_); refine goesL_ (some 35) rfl rfl Tryd.func13 (by kernel_rfl) rfl #[.slice Ao13 t8.length co14, .int .i64 1] rfl z1_ ?_; (refine (laws_markOpS.calls k (fun k_ => z1 ≤ k_ ∧ k_ < z2) (.slice Ao13 t8.length co14) t8 1 t17 t18 w _ ?side1 ?side2 F19.out).mono ?_); (case side1 => exact z72_); (case side2 => (with_reducible repeat (first | apply Kd.S_drewN | apply Kd.S_drew)); exact HO12.out); rintro e wx ⟨rfl, hy0, hb, hkp⟩; refine ⟨_, rfl, ?_⟩; replace HO5 := Aside0.mk (Kd.S_kept z61_ hkp (fun k_ h1_ h2_ => iv_apart h1_ h2_ (by have z1_ := HZ1.out; have z2_ := HZ2.out; omega))); replace HZ := Aside0.mk (Nat.le_trans HZ.out hkp.1); have HO20 := Aside0.mk hy0; clear HO12; clear HB; have HB := Aside0.mk hb; clear hy0 hb hkp) | ((with_reducible refine gate_callee (f := 14) rfl ?_); refine goesL_ (some 38) rfl rfl Tryd.func14 (by kernel_rfl) rfl #[.slice Ao13 t18.length co14, .int .i64 1] rfl z70_ ?_; (refine (laws_heldOpS.calls k _ _ t18 1 t21 _ ?side1 ?side2 F22.out).mono ?_); (case side1 => exact z75_); (case side2 => exact z102_); rintro e w' ⟨rfl, ⟨nd, rfl⟩⟩; refine ⟨_, rfl, ?_⟩) | ((with_reducible refine gate_callee (f := 11) rfl ?_); refine goesL_ (some 46) rfl rfl Tryd.func11 (by kernel_rfl) rfl #[.string a0] rfl z1_ ?_; (refine (impl_ReadScript.calls k a0 t23 t24 _ (hL.below z0_) F25.out).mono ?_); rintro e wx ⟨v26, rfl, ho0, hb⟩; refine ⟨_, rfl, ?_⟩; obtain ⟨z3, za3_, zb3_, hn0_⟩ := ivS ho0 (below_size z0_) HZ.out hb.size; have HZ3 := Aside0.mk za3_; replace HO5 := Aside0.mk (Kd.S_below z61_ hb); replace HO20 := Aside0.mk (Kd.S_below z112_ hb); replace HZ := Aside0.mk (zb3_); replace HB := Aside0.mk (below_step z0_ hb); have HO27 := Aside0.mk hn0_; obtain ⟨Ao28, co29, eo_⟩ := Kd.S_slice HO27.out; subst eo_; clear hn0_ ho0; clear hb; clear za3_ zb3_) | ((with_reducible refine gate_callee (f := 12) rfl ?_); refine goesL_ (some 51) rfl rfl Tryd.func12 (by kernel_rfl) rfl #[.slice Ao28 t23.length co29, .slice Ao6 t1.length co7] rfl z1_ ?_; (refine (laws_eqOpS.calls k _ _ t23 _ _ t1 true _ ?side1 ?side2 ?side3 ?side4 F31.out).mono ?_); (case side1 => repeat (first | exact (Kd.R_reads' (Kd.S_R HO27.out)).2.2 | (with_reducible refine Kd.C_alloc ?_ _) | (with_reducible refine Kd.C_drewN ?_ _) | (with_reducible refine Kd.C_drew ?_))); (case side2 => exact (Kd.R_reads' (Kd.S_R HO27.out)).2.1); (case side3 => exact z77_); (case side4 => exact (Kd.R_reads' (Kd.S_R HO5.out)).2.1); rintro e wx ⟨rfl, hb⟩; refine ⟨_, rfl, ?_⟩; replace HO5 := Aside0.mk (Kd.S_below z61_ hb); replace HO20 := Aside0.mk (Kd.S_below z112_ hb); replace HO27 := Aside0.mk (Kd.S_below (by (with_reducible repeat (first | apply Kd.S_alloc | apply Kd.S_drewN | apply Kd.S_drew)); exact HO27.out) hb); replace HZ := Aside0.mk (Nat.le_trans HZ.out hb.size); replace HB := Aside0.mk (below_step z0_ hb); clear hb; clear HO27) | ((with_reducible refine gate_callee (f := 14) rfl ?_); refine goesL_ (some 60) rfl rfl Tryd.func14 (by kernel_rfl) rfl #[.slice Ao13 t18.length co14, .int .i64 1] rfl z70_ ?_; (refine (laws_heldOpS.calls k _ _ t18 1 t32 _ ?side1 ?side2 F33.out).mono ?_); (case side1 => exact z75_); (case side2 => exact z102_); rintro e w' ⟨rfl, ⟨nd, rfl⟩⟩; refine ⟨_, rfl, ?_⟩))
  go_ret
  exact ⟨z2_, z0_⟩
/-- THE ONE PURE STATEMENT of laws_FnExactReadScript: yours. -/
def laws_FnExactReadScript.Pure : Prop := ∀ (a0 : ByteArray), a0.size ≤ 140737488351232 → ∃ k, laws_FnExactReadScript.f k a0 = some true
theorem laws_FnExactReadScript.walk (P : laws_FnExactReadScript.Pure) (a0 : ByteArray) (w : World) (hL : Laid w) (w0 : a0.size ≤ 140737488351232) :
  Calls Tryd.prog 4 #[.string a0] w fun e w' => e = .returned (.bool true) ∧ Below w.heap.size w w' := by
 obtain ⟨k, h⟩ := P a0 w0
 refine (laws_FnExactReadScript.calls k a0 true w hL h).mono ?_
 rintro e w' ⟨rfl, hd⟩
 exact ⟨rfl, hd⟩

end Go.Proofs.YtlfmlagdnebkiaaDoor.PFnExactReadScript
