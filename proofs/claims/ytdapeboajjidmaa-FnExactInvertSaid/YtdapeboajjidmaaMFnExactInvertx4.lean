/- Laid by a program of this session out of the kit's print for the law FnExactInvert: what it says of the machine is proved here, function by function; each contract under the conditions that it names. -/
import Derived.Test.YtdapeboajjidmaaMFnExactInvertx0
import Derived.Test.YtdapeboajjidmaaMFnExactInvertx3
namespace Go.Proofs.Ytdapeboajjidmaa.PFnExactInvert
open Go.RowKit Go.Proofs.YtdapeboajjidmaaW.PrintWords Go.Proofs.YtdapeboajjidmaaW.PrintLast Go.Proofs.YtdapeboajjidmaaW.PrintMore
attribute [local go_sem] max2_int min2_int max_two min_two max_three min_three max_four min_four   -- for this text's walks alone
set_option linter.unusedVariables false
set_option linter.unusedSimpArgs false

/-! ### laws_heldOpS: function 19 -/
def laws_heldOpS.l0 : Nat → List (S78) → Int → Int → Option (Int)
 | 0, _, _, _ => none
 | k + 1, x0, x1, x5 => if x5 < (x0.length : Int) then (if 0 ≤ x5 then (if ((rd_T78 x0 x5).f0) = x1 then ((laws_heldIntS.f k ((rd_T78 x0 x5).f1) (wrap64 (x1 + 1))).bind fun t157 => (if t157 < 0 then (some (-1)) else (if ((rd_T78 x0 x5).f2) = t157 then (if ((rd_T78 x0 x5).f3) = (wrap64 (t157 + 1)) then (if ((rd_T78 x0 x5).f4) = (wrap64 ((wrap64 (t157 + 1)) + 1)) then (laws_heldOpS.l0 k x0 (wrap64 ((wrap64 ((wrap64 (t157 + 1)) + 1)) + 1)) (wrap64 (x5 + 1))) else (some (-1))) else (some (-1))) else (some (-1))))) else (some (-1))) else (none)) else (some x1)
def laws_heldOpS.f (k : Nat) (l0 : List (S78)) (a1 : Int) : Option (Int) := laws_heldOpS.l0 k l0 a1 0
set_option maxHeartbeats 8000000 in
set_option maxRecDepth 100000 in
theorem laws_heldOpS.calls (k : Nat) (A0 : Option Addr) (c0 : Nat) (l0 : List (S78)) (a1 : Int) (r : Int) (w : World) (hr0 : Kd.C k78 w A0 l0.length l0) (hc0 : l0.length ≤ c0) (h : laws_heldOpS.f k l0 a1 = some r) :
  Calls Try.prog 19 #[.slice A0 l0.length c0, .int .i64 a1] w fun e w' => e = .returned (.int .i64 r) ∧ Drawn0 w w' := by
 have HR0 := Aside0.mk hr0
 have HC0 := Aside0.mk hc0
 clear hr0 hc0
 have H : (laws_heldOpS.l0 k l0 a1 0) = some r := h
 clear h
 have H' := Aside0.mk H
 clear H
 go_enter Try.func19, Try.ntmps19
 go_wp2
 go_loopg [1, 5] k (fun kq v1 v5 w' => ∃ (x1_1 : Int) (x5_1 : Int), v1 = .int .i64 x1_1 ∧ v5 = .int .i64 x5_1 ∧ Aside0 (laws_heldOpS.l0 kq l0 x1_1 x5_1 = some r) ∧ Aside0 (kq ≤ k) ∧ Drawn0 w w')
 case atStart => exact ⟨(a1), (0), z8_, z8_, H', ⟨Nat.le_refl _⟩, z34_⟩
 case round =>
  clear H'
  try clear c1
  try clear p2
  obtain ⟨x1_1, x5_1, rfl, rfl, HA, HK1, ⟨m1, rfl⟩⟩ := hrel
  cases gk with
  | zero => exact absurd HA.out (by simp [laws_heldOpS.l0])
  | succ k1 =>
   have H := HA.out
   clear HA
   simp only [laws_heldOpS.l0] at H
   by_cases c3 : x5_1 < (l0.length : Int)
   ·rw [if_pos c3] at H
    have c3b0 := decide_eq_true c3
    clear c3
    obtain ⟨c4b0, H⟩ := ifd_ H
    by_cases c5 : ((rd_T78 l0 x5_1).f0) = x1_1
    ·rw [if_pos c5] at H
     have c5b0 : (((rd_T78 l0 x5_1).f0) == x1_1) = true := beq_iff_eq.mpr c5
     have c5b1 : (((rd_T78 l0 x5_1).f0) != x1_1) = false := bne_eq_false_iff_eq.mpr c5
     clear c5
     obtain ⟨t157, A6, H⟩ := bnd_ H
     by_cases c7 : t157 < 0
     ·rw [if_pos c7] at H
      have c7b0 := decide_eq_true c7
      clear c7
      obtain rfl := Option.some.inj H
      have p155 : 0 ≤ (x5_1 : Int) := odt_
      have q155 : x5_1 < (l0.length : Int) := odt_
      obtain ⟨ad155, A155_1, c155_1, e155, hx155_0, hx155_1, hx155_2, hx155_3, hx155_4, hl155_1, hi155_1⟩ := at_T78 HR0.out x5_1 p155 q155
      cases e155
      have HR155_1 := Aside0.mk hi155_1
      have HC155_1 := Aside0.mk hl155_1
      clear hi155_1 hl155_1
      replace p155 := eq_true p155
      replace q155 := eq_true q155
      have p156 : 0 ≤ (x5_1 : Int) := odt_
      have q156 : x5_1 < (l0.length : Int) := odt_
      obtain ⟨ad156, A156_1, c156_1, e156, hx156_0, hx156_1, hx156_2, hx156_3, hx156_4, hl156_1, hi156_1⟩ := at_T78 HR0.out x5_1 p156 q156
      obtain rfl : ad155 = ad156 := (by injection e156)
      have HR156_1 := Aside0.mk hi156_1
      have HC156_1 := Aside0.mk hl156_1
      clear hi156_1 hl156_1
      replace p156 := eq_true p156
      replace q156 := eq_true q156
      have ea_ := Option.some.inj (hx155_1.symm.trans hx156_1)
      injection ea_ with ea_ en_ ec_
      subst ea_
      subst ec_
      clear en_
      go_wp2_with (first | ((with_reducible refine gate_callee (f := 57) rfl ?_); refine goesL_ (some 27) rfl rfl Try.func57 (by kernel_rfl) rfl #[.slice A155_1 ((rd_T78 l0 x5_1).f1).length c155_1, .int .i64 (wrap64 (x1_1 + 1))] rfl z1_ ?_; (with_reducible refine (laws_heldIntS.calls k1 _ _ ((rd_T78 l0 x5_1).f1) (wrap64 (x1_1 + 1)) t157 _ ?side1 ?side2 A6.out).mono ?_); (case side1 => exact z72_); (case side2 => exact HC156_1.out); rintro e w' ⟨rfl, ⟨nd, rfl⟩⟩; refine ⟨_, rfl, ?_⟩))
      go_ret
      exact ⟨z8_, z34_⟩
     ·rw [if_neg c7] at H
      have c7b0 := decide_eq_false c7
      clear c7
      by_cases c8 : ((rd_T78 l0 x5_1).f2) = t157
      ·rw [if_pos c8] at H
       have c8b0 : (((rd_T78 l0 x5_1).f2) == t157) = true := beq_iff_eq.mpr c8
       have c8b1 : (((rd_T78 l0 x5_1).f2) != t157) = false := bne_eq_false_iff_eq.mpr c8
       clear c8
       by_cases c9 : ((rd_T78 l0 x5_1).f3) = (wrap64 (t157 + 1))
       ·rw [if_pos c9] at H
        have c9b0 : (((rd_T78 l0 x5_1).f3) == (wrap64 (t157 + 1))) = true := beq_iff_eq.mpr c9
        have c9b1 : (((rd_T78 l0 x5_1).f3) != (wrap64 (t157 + 1))) = false := bne_eq_false_iff_eq.mpr c9
        clear c9
        by_cases c10 : ((rd_T78 l0 x5_1).f4) = (wrap64 ((wrap64 (t157 + 1)) + 1))
        ·rw [if_pos c10] at H
         have c10b0 : (((rd_T78 l0 x5_1).f4) == (wrap64 ((wrap64 (t157 + 1)) + 1))) = true := beq_iff_eq.mpr c10
         have c10b1 : (((rd_T78 l0 x5_1).f4) != (wrap64 ((wrap64 (t157 + 1)) + 1))) = false := bne_eq_false_iff_eq.mpr c10
         clear c10
         have H' := Aside0.mk H
         clear H
         have p155 : 0 ≤ (x5_1 : Int) := odt_
         have q155 : x5_1 < (l0.length : Int) := odt_
         obtain ⟨ad155, A155_1, c155_1, e155, hx155_0, hx155_1, hx155_2, hx155_3, hx155_4, hl155_1, hi155_1⟩ := at_T78 HR0.out x5_1 p155 q155
         cases e155
         have HR155_1 := Aside0.mk hi155_1
         have HC155_1 := Aside0.mk hl155_1
         clear hi155_1 hl155_1
         replace p155 := eq_true p155
         replace q155 := eq_true q155
         have p156 : 0 ≤ (x5_1 : Int) := odt_
         have q156 : x5_1 < (l0.length : Int) := odt_
         obtain ⟨ad156, A156_1, c156_1, e156, hx156_0, hx156_1, hx156_2, hx156_3, hx156_4, hl156_1, hi156_1⟩ := at_T78 HR0.out x5_1 p156 q156
         obtain rfl : ad155 = ad156 := (by injection e156)
         have HR156_1 := Aside0.mk hi156_1
         have HC156_1 := Aside0.mk hl156_1
         clear hi156_1 hl156_1
         replace p156 := eq_true p156
         replace q156 := eq_true q156
         have ea_ := Option.some.inj (hx155_1.symm.trans hx156_1)
         injection ea_ with ea_ en_ ec_
         subst ea_
         subst ec_
         clear en_
         go_wp2_with (first | ((with_reducible refine gate_callee (f := 57) rfl ?_); refine goesL_ (some 27) rfl rfl Try.func57 (by kernel_rfl) rfl #[.slice A155_1 ((rd_T78 l0 x5_1).f1).length c155_1, .int .i64 (wrap64 (x1_1 + 1))] rfl z1_ ?_; (with_reducible refine (laws_heldIntS.calls k1 _ _ ((rd_T78 l0 x5_1).f1) (wrap64 (x1_1 + 1)) t157 _ ?side1 ?side2 A6.out).mono ?_); (case side1 => exact z72_); (case side2 => exact HC156_1.out); rintro e w' ⟨rfl, ⟨nd, rfl⟩⟩; refine ⟨_, rfl, ?_⟩; have p158 : 0 ≤ (x5_1 : Int) := odt_; have q158 : x5_1 < (l0.length : Int) := odt_; obtain ⟨ad158, A158_1, c158_1, e158, hx158_0, hx158_1, hx158_2, hx158_3, hx158_4, hl158_1, hi158_1⟩ := at_T78 HR0.out x5_1 p158 q158; obtain rfl : ad155 = ad158 := (by injection e158); have HR158_1 := Aside0.mk hi158_1; have HC158_1 := Aside0.mk hl158_1; clear hi158_1 hl158_1; replace p158 := eq_true p158; replace q158 := eq_true q158; have ea_ := Option.some.inj (hx155_1.symm.trans hx158_1); injection ea_ with ea_ en_ ec_; subst ea_; subst ec_; clear en_; have p159 : 0 ≤ (x5_1 : Int) := odt_; have q159 : x5_1 < (l0.length : Int) := odt_; obtain ⟨ad159, A159_1, c159_1, e159, hx159_0, hx159_1, hx159_2, hx159_3, hx159_4, hl159_1, hi159_1⟩ := at_T78 HR0.out x5_1 p159 q159; obtain rfl : ad155 = ad159 := (by injection e159); have HR159_1 := Aside0.mk hi159_1; have HC159_1 := Aside0.mk hl159_1; clear hi159_1 hl159_1; replace p159 := eq_true p159; replace q159 := eq_true q159; have ea_ := Option.some.inj (hx155_1.symm.trans hx159_1); injection ea_ with ea_ en_ ec_; subst ea_; subst ec_; clear en_; have p160 : 0 ≤ (x5_1 : Int) := odt_; have q160 : x5_1 < (l0.length : Int) := odt_; obtain ⟨ad160, A160_1, c160_1, e160, hx160_0, hx160_1, hx160_2, hx160_3, hx160_4, hl160_1, hi160_1⟩ := at_T78 HR0.out x5_1 p160 q160; obtain rfl : ad155 = ad160 := (by injection e160); have HR160_1 := Aside0.mk hi160_1; have HC160_1 := Aside0.mk hl160_1; clear hi160_1 hl160_1; replace p160 := eq_true p160; replace q160 := eq_true q160; have ea_ := Option.some.inj (hx155_1.symm.trans hx160_1); injection ea_ with ea_ en_ ec_; subst ea_; subst ec_; clear en_))
         go_roundg k1
         case measure => have := HK1.out; omega
         case rel => exact ⟨(wrap64 ((wrap64 ((wrap64 (t157 + 1)) + 1)) + 1)), (wrap64 (x5_1 + 1)), z8_, z8_, H', ⟨z89_⟩, z34_⟩
        ·rw [if_neg c10] at H
         have c10b0 : (((rd_T78 l0 x5_1).f4) == (wrap64 ((wrap64 (t157 + 1)) + 1))) = false := beq_eq_false_iff_ne.mpr c10
         have c10b1 : (((rd_T78 l0 x5_1).f4) != (wrap64 ((wrap64 (t157 + 1)) + 1))) = true := bne_iff_ne.mpr c10
         obtain rfl := Option.some.inj H
         have p155 : 0 ≤ (x5_1 : Int) := odt_
         have q155 : x5_1 < (l0.length : Int) := odt_
         obtain ⟨ad155, A155_1, c155_1, e155, hx155_0, hx155_1, hx155_2, hx155_3, hx155_4, hl155_1, hi155_1⟩ := at_T78 HR0.out x5_1 p155 q155
         cases e155
         have HR155_1 := Aside0.mk hi155_1
         have HC155_1 := Aside0.mk hl155_1
         clear hi155_1 hl155_1
         replace p155 := eq_true p155
         replace q155 := eq_true q155
         have p156 : 0 ≤ (x5_1 : Int) := odt_
         have q156 : x5_1 < (l0.length : Int) := odt_
         obtain ⟨ad156, A156_1, c156_1, e156, hx156_0, hx156_1, hx156_2, hx156_3, hx156_4, hl156_1, hi156_1⟩ := at_T78 HR0.out x5_1 p156 q156
         obtain rfl : ad155 = ad156 := (by injection e156)
         have HR156_1 := Aside0.mk hi156_1
         have HC156_1 := Aside0.mk hl156_1
         clear hi156_1 hl156_1
         replace p156 := eq_true p156
         replace q156 := eq_true q156
         have ea_ := Option.some.inj (hx155_1.symm.trans hx156_1)
         injection ea_ with ea_ en_ ec_
         subst ea_
         subst ec_
         clear en_
         go_wp2_with (first | ((with_reducible refine gate_callee (f := 57) rfl ?_); refine goesL_ (some 27) rfl rfl Try.func57 (by kernel_rfl) rfl #[.slice A155_1 ((rd_T78 l0 x5_1).f1).length c155_1, .int .i64 (wrap64 (x1_1 + 1))] rfl z1_ ?_; (with_reducible refine (laws_heldIntS.calls k1 _ _ ((rd_T78 l0 x5_1).f1) (wrap64 (x1_1 + 1)) t157 _ ?side1 ?side2 A6.out).mono ?_); (case side1 => exact z72_); (case side2 => exact HC156_1.out); rintro e w' ⟨rfl, ⟨nd, rfl⟩⟩; refine ⟨_, rfl, ?_⟩; have p158 : 0 ≤ (x5_1 : Int) := odt_; have q158 : x5_1 < (l0.length : Int) := odt_; obtain ⟨ad158, A158_1, c158_1, e158, hx158_0, hx158_1, hx158_2, hx158_3, hx158_4, hl158_1, hi158_1⟩ := at_T78 HR0.out x5_1 p158 q158; obtain rfl : ad155 = ad158 := (by injection e158); have HR158_1 := Aside0.mk hi158_1; have HC158_1 := Aside0.mk hl158_1; clear hi158_1 hl158_1; replace p158 := eq_true p158; replace q158 := eq_true q158; have ea_ := Option.some.inj (hx155_1.symm.trans hx158_1); injection ea_ with ea_ en_ ec_; subst ea_; subst ec_; clear en_; have p159 : 0 ≤ (x5_1 : Int) := odt_; have q159 : x5_1 < (l0.length : Int) := odt_; obtain ⟨ad159, A159_1, c159_1, e159, hx159_0, hx159_1, hx159_2, hx159_3, hx159_4, hl159_1, hi159_1⟩ := at_T78 HR0.out x5_1 p159 q159; obtain rfl : ad155 = ad159 := (by injection e159); have HR159_1 := Aside0.mk hi159_1; have HC159_1 := Aside0.mk hl159_1; clear hi159_1 hl159_1; replace p159 := eq_true p159; replace q159 := eq_true q159; have ea_ := Option.some.inj (hx155_1.symm.trans hx159_1); injection ea_ with ea_ en_ ec_; subst ea_; subst ec_; clear en_; have p160 : 0 ≤ (x5_1 : Int) := odt_; have q160 : x5_1 < (l0.length : Int) := odt_; obtain ⟨ad160, A160_1, c160_1, e160, hx160_0, hx160_1, hx160_2, hx160_3, hx160_4, hl160_1, hi160_1⟩ := at_T78 HR0.out x5_1 p160 q160; obtain rfl : ad155 = ad160 := (by injection e160); have HR160_1 := Aside0.mk hi160_1; have HC160_1 := Aside0.mk hl160_1; clear hi160_1 hl160_1; replace p160 := eq_true p160; replace q160 := eq_true q160; have ea_ := Option.some.inj (hx155_1.symm.trans hx160_1); injection ea_ with ea_ en_ ec_; subst ea_; subst ec_; clear en_))
         go_ret
         exact ⟨z8_, z34_⟩
       ·rw [if_neg c9] at H
        have c9b0 : (((rd_T78 l0 x5_1).f3) == (wrap64 (t157 + 1))) = false := beq_eq_false_iff_ne.mpr c9
        have c9b1 : (((rd_T78 l0 x5_1).f3) != (wrap64 (t157 + 1))) = true := bne_iff_ne.mpr c9
        obtain rfl := Option.some.inj H
        have p155 : 0 ≤ (x5_1 : Int) := odt_
        have q155 : x5_1 < (l0.length : Int) := odt_
        obtain ⟨ad155, A155_1, c155_1, e155, hx155_0, hx155_1, hx155_2, hx155_3, hx155_4, hl155_1, hi155_1⟩ := at_T78 HR0.out x5_1 p155 q155
        cases e155
        have HR155_1 := Aside0.mk hi155_1
        have HC155_1 := Aside0.mk hl155_1
        clear hi155_1 hl155_1
        replace p155 := eq_true p155
        replace q155 := eq_true q155
        have p156 : 0 ≤ (x5_1 : Int) := odt_
        have q156 : x5_1 < (l0.length : Int) := odt_
        obtain ⟨ad156, A156_1, c156_1, e156, hx156_0, hx156_1, hx156_2, hx156_3, hx156_4, hl156_1, hi156_1⟩ := at_T78 HR0.out x5_1 p156 q156
        obtain rfl : ad155 = ad156 := (by injection e156)
        have HR156_1 := Aside0.mk hi156_1
        have HC156_1 := Aside0.mk hl156_1
        clear hi156_1 hl156_1
        replace p156 := eq_true p156
        replace q156 := eq_true q156
        have ea_ := Option.some.inj (hx155_1.symm.trans hx156_1)
        injection ea_ with ea_ en_ ec_
        subst ea_
        subst ec_
        clear en_
        go_wp2_with (first | ((with_reducible refine gate_callee (f := 57) rfl ?_); refine goesL_ (some 27) rfl rfl Try.func57 (by kernel_rfl) rfl #[.slice A155_1 ((rd_T78 l0 x5_1).f1).length c155_1, .int .i64 (wrap64 (x1_1 + 1))] rfl z1_ ?_; (with_reducible refine (laws_heldIntS.calls k1 _ _ ((rd_T78 l0 x5_1).f1) (wrap64 (x1_1 + 1)) t157 _ ?side1 ?side2 A6.out).mono ?_); (case side1 => exact z72_); (case side2 => exact HC156_1.out); rintro e w' ⟨rfl, ⟨nd, rfl⟩⟩; refine ⟨_, rfl, ?_⟩; have p158 : 0 ≤ (x5_1 : Int) := odt_; have q158 : x5_1 < (l0.length : Int) := odt_; obtain ⟨ad158, A158_1, c158_1, e158, hx158_0, hx158_1, hx158_2, hx158_3, hx158_4, hl158_1, hi158_1⟩ := at_T78 HR0.out x5_1 p158 q158; obtain rfl : ad155 = ad158 := (by injection e158); have HR158_1 := Aside0.mk hi158_1; have HC158_1 := Aside0.mk hl158_1; clear hi158_1 hl158_1; replace p158 := eq_true p158; replace q158 := eq_true q158; have ea_ := Option.some.inj (hx155_1.symm.trans hx158_1); injection ea_ with ea_ en_ ec_; subst ea_; subst ec_; clear en_; have p159 : 0 ≤ (x5_1 : Int) := odt_; have q159 : x5_1 < (l0.length : Int) := odt_; obtain ⟨ad159, A159_1, c159_1, e159, hx159_0, hx159_1, hx159_2, hx159_3, hx159_4, hl159_1, hi159_1⟩ := at_T78 HR0.out x5_1 p159 q159; obtain rfl : ad155 = ad159 := (by injection e159); have HR159_1 := Aside0.mk hi159_1; have HC159_1 := Aside0.mk hl159_1; clear hi159_1 hl159_1; replace p159 := eq_true p159; replace q159 := eq_true q159; have ea_ := Option.some.inj (hx155_1.symm.trans hx159_1); injection ea_ with ea_ en_ ec_; subst ea_; subst ec_; clear en_))
        go_ret
        exact ⟨z8_, z34_⟩
      ·rw [if_neg c8] at H
       have c8b0 : (((rd_T78 l0 x5_1).f2) == t157) = false := beq_eq_false_iff_ne.mpr c8
       have c8b1 : (((rd_T78 l0 x5_1).f2) != t157) = true := bne_iff_ne.mpr c8
       obtain rfl := Option.some.inj H
       have p155 : 0 ≤ (x5_1 : Int) := odt_
       have q155 : x5_1 < (l0.length : Int) := odt_
       obtain ⟨ad155, A155_1, c155_1, e155, hx155_0, hx155_1, hx155_2, hx155_3, hx155_4, hl155_1, hi155_1⟩ := at_T78 HR0.out x5_1 p155 q155
       cases e155
       have HR155_1 := Aside0.mk hi155_1
       have HC155_1 := Aside0.mk hl155_1
       clear hi155_1 hl155_1
       replace p155 := eq_true p155
       replace q155 := eq_true q155
       have p156 : 0 ≤ (x5_1 : Int) := odt_
       have q156 : x5_1 < (l0.length : Int) := odt_
       obtain ⟨ad156, A156_1, c156_1, e156, hx156_0, hx156_1, hx156_2, hx156_3, hx156_4, hl156_1, hi156_1⟩ := at_T78 HR0.out x5_1 p156 q156
       obtain rfl : ad155 = ad156 := (by injection e156)
       have HR156_1 := Aside0.mk hi156_1
       have HC156_1 := Aside0.mk hl156_1
       clear hi156_1 hl156_1
       replace p156 := eq_true p156
       replace q156 := eq_true q156
       have ea_ := Option.some.inj (hx155_1.symm.trans hx156_1)
       injection ea_ with ea_ en_ ec_
       subst ea_
       subst ec_
       clear en_
       go_wp2_with (first | ((with_reducible refine gate_callee (f := 57) rfl ?_); refine goesL_ (some 27) rfl rfl Try.func57 (by kernel_rfl) rfl #[.slice A155_1 ((rd_T78 l0 x5_1).f1).length c155_1, .int .i64 (wrap64 (x1_1 + 1))] rfl z1_ ?_; (with_reducible refine (laws_heldIntS.calls k1 _ _ ((rd_T78 l0 x5_1).f1) (wrap64 (x1_1 + 1)) t157 _ ?side1 ?side2 A6.out).mono ?_); (case side1 => exact z72_); (case side2 => exact HC156_1.out); rintro e w' ⟨rfl, ⟨nd, rfl⟩⟩; refine ⟨_, rfl, ?_⟩; have p158 : 0 ≤ (x5_1 : Int) := odt_; have q158 : x5_1 < (l0.length : Int) := odt_; obtain ⟨ad158, A158_1, c158_1, e158, hx158_0, hx158_1, hx158_2, hx158_3, hx158_4, hl158_1, hi158_1⟩ := at_T78 HR0.out x5_1 p158 q158; obtain rfl : ad155 = ad158 := (by injection e158); have HR158_1 := Aside0.mk hi158_1; have HC158_1 := Aside0.mk hl158_1; clear hi158_1 hl158_1; replace p158 := eq_true p158; replace q158 := eq_true q158; have ea_ := Option.some.inj (hx155_1.symm.trans hx158_1); injection ea_ with ea_ en_ ec_; subst ea_; subst ec_; clear en_))
       go_ret
       exact ⟨z8_, z34_⟩
    ·rw [if_neg c5] at H
     have c5b0 : (((rd_T78 l0 x5_1).f0) == x1_1) = false := beq_eq_false_iff_ne.mpr c5
     have c5b1 : (((rd_T78 l0 x5_1).f0) != x1_1) = true := bne_iff_ne.mpr c5
     obtain rfl := Option.some.inj H
     have p155 : 0 ≤ (x5_1 : Int) := odt_
     have q155 : x5_1 < (l0.length : Int) := odt_
     obtain ⟨ad155, A155_1, c155_1, e155, hx155_0, hx155_1, hx155_2, hx155_3, hx155_4, hl155_1, hi155_1⟩ := at_T78 HR0.out x5_1 p155 q155
     cases e155
     have HR155_1 := Aside0.mk hi155_1
     have HC155_1 := Aside0.mk hl155_1
     clear hi155_1 hl155_1
     replace p155 := eq_true p155
     replace q155 := eq_true q155
     go_wp2
     go_ret
     exact ⟨z8_, z34_⟩
   ·rw [if_neg c3] at H
    have c3b0 := decide_eq_false c3
    clear c3
    obtain rfl := Option.some.inj H
    go_wp2
    go_ret
    exact ⟨z8_, z34_⟩

/-! ### spec_l1In: function 60 -/
def spec_l1In.f (a0 : Int) (a1 : Int) (a2 : Int) : Option (Bool) := if a0 ≥ a1 then (some (decide (a0 ≤ a2))) else (some false)
set_option maxHeartbeats 8000000 in
set_option maxRecDepth 100000 in
theorem spec_l1In.calls (a0 : Int) (a1 : Int) (a2 : Int) (r : Bool) (w : World) (h : spec_l1In.f a0 a1 a2 = some r) :
  Calls Try.prog 60 #[.int .i64 a0, .int .i64 a1, .int .i64 a2] w fun e w' => e = .returned (.bool r) ∧ Drawn0 w w' := by
 have H : (if a0 ≥ a1 then (some (decide (a0 ≤ a2))) else (some false)) = some r := h
 clear h
 by_cases c4 : a0 ≥ a1
 ·rw [if_pos c4] at H
  have c4b0 := decide_eq_true c4
  clear c4
  obtain rfl := Option.some.inj H
  go_enter Try.func60, Try.ntmps60
  go_wp2
  go_ret
  exact ⟨z8_, z34_⟩
 ·rw [if_neg c4] at H
  have c4b0 := decide_eq_false c4
  clear c4
  obtain rfl := Option.some.inj H
  go_enter Try.func60, Try.ntmps60
  go_wp2
  go_ret
  exact ⟨z8_, z34_⟩

/-! ### spec_LabelOk: function 76 -/
def spec_LabelOk.f (a0 : Int) : Option (Bool) := (spec_l1In.f a0 0 5).bind fun t161 => (some t161)
set_option maxHeartbeats 8000000 in
set_option maxRecDepth 100000 in
theorem spec_LabelOk.calls (a0 : Int) (r : Bool) (w : World) (h : spec_LabelOk.f a0 = some r) :
  Calls Try.prog 76 #[.int .i64 a0] w fun e w' => e = .returned (.bool r) ∧ Drawn0 w w' := by
 have H : ((spec_l1In.f a0 0 5).bind fun t161 => (some t161)) = some r := h
 clear h
 obtain ⟨t161, A2, H⟩ := bnd_ H
 obtain rfl := Option.some.inj H
 go_enter Try.func76, Try.ntmps76
 go_wp2_with (first | ((with_reducible refine gate_callee (f := 60) rfl ?_); refine goesL_ (some 4) rfl rfl Try.func60 (by kernel_rfl) rfl #[.int .i64 a0, .int .i64 0, .int .i64 5] rfl z1_ ?_; (with_reducible refine (spec_l1In.calls a0 0 5 t161 _ A2.out).mono ?_); rintro e w' ⟨rfl, ⟨nd, rfl⟩⟩; refine ⟨_, rfl, ?_⟩))
 go_ret
 exact ⟨z8_, z34_⟩

end Go.Proofs.Ytdapeboajjidmaa.PFnExactInvert
