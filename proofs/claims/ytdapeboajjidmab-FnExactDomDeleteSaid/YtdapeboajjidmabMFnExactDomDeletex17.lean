/- Laid by a program of this session out of the kit's print for the law FnExactDomDelete: what it says of the machine is proved here, function by function; each contract under the conditions that it names. -/
import Derived.Test.YtdapeboajjidmabMFnExactDomDeletex0
namespace Go.Proofs.Ytdapeboajjidmab.PFnExactDomDelete
open Go.RowKit Go.Proofs.YtdapeboajjidmabW.PrintWords Go.Proofs.YtdapeboajjidmabW.PrintLast Go.Proofs.YtdapeboajjidmabW.PrintMore
attribute [local go_sem] max2_int min2_int max_two min_two max_three min_three max_four min_four   -- for this text's walks alone
set_option linter.unusedVariables false
set_option linter.unusedSimpArgs false

/-! ### laws_heldDomNodeS: function 78 -/
def laws_heldDomNodeS.l0 : Nat → List (S72) → Int → Int → Option (Int)
 | 0, _, _, _ => none
 | k + 1, x0, x1, x5 => if x5 < (x0.length : Int) then (if 0 ≤ x5 then (if (((rd_T72 x0 x5).f0) != ((Int.tmod x1 3) == 0)) = true then (some (-1)) else (if ((rd_T72 x0 x5).f1) = (wrap64 (x1 + 1)) then (if ((rd_T72 x0 x5).f2) = (wrap64 ((wrap64 (x1 + 1)) + 1)) then (if ((rd_T72 x0 x5).f3) = (wrap64 ((wrap64 ((wrap64 (x1 + 1)) + 1)) + 1)) then (if ((rd_T72 x0 x5).f4) = (wrap64 ((wrap64 ((wrap64 ((wrap64 (x1 + 1)) + 1)) + 1)) + 1)) then (if ((rd_T72 x0 x5).f5) = (wrap64 ((wrap64 ((wrap64 ((wrap64 ((wrap64 (x1 + 1)) + 1)) + 1)) + 1)) + 1)) then (if ((rd_T72 x0 x5).f6) = (wrap64 ((wrap64 ((wrap64 ((wrap64 ((wrap64 ((wrap64 (x1 + 1)) + 1)) + 1)) + 1)) + 1)) + 1)) then (laws_heldDomNodeS.l0 k x0 (wrap64 ((wrap64 ((wrap64 ((wrap64 ((wrap64 ((wrap64 ((wrap64 (x1 + 1)) + 1)) + 1)) + 1)) + 1)) + 1)) + 1)) (wrap64 (x5 + 1))) else (some (-1))) else (some (-1))) else (some (-1))) else (some (-1))) else (some (-1))) else (some (-1)))) else (none)) else (some x1)
def laws_heldDomNodeS.f (k : Nat) (l0 : List (S72)) (a1 : Int) : Option (Int) := laws_heldDomNodeS.l0 k l0 a1 0
set_option maxHeartbeats 8000000 in
set_option maxRecDepth 100000 in
theorem laws_heldDomNodeS.calls (k : Nat) (A0 : Option Addr) (c0 : Nat) (l0 : List (S72)) (a1 : Int) (r : Int) (w : World) (hr0 : Kd.C k72 w A0 l0.length l0) (hc0 : l0.length ≤ c0) (h : laws_heldDomNodeS.f k l0 a1 = some r) :
  Calls Try.prog 78 #[.slice A0 l0.length c0, .int .i64 a1] w fun e w' => e = .returned (.int .i64 r) ∧ Drawn0 w w' := by
 have HR0 := Aside0.mk hr0
 have HC0 := Aside0.mk hc0
 clear hr0 hc0
 have H : (laws_heldDomNodeS.l0 k l0 a1 0) = some r := h
 clear h
 have H' := Aside0.mk H
 clear H
 go_enter Try.func78, Try.ntmps78
 go_wp2
 go_loopg [1, 5] k (fun kq v1 v5 w' => ∃ (x1_1 : Int) (x5_1 : Int), v1 = .int .i64 x1_1 ∧ v5 = .int .i64 x5_1 ∧ Aside0 (laws_heldDomNodeS.l0 kq l0 x1_1 x5_1 = some r) ∧ Aside0 (kq ≤ k) ∧ Drawn0 w w')
 case atStart => exact ⟨(a1), (0), z12_, z12_, H', ⟨Nat.le_refl _⟩, z62_⟩
 case round =>
  clear H'
  try clear p2
  obtain ⟨x1_1, x5_1, rfl, rfl, HA, HK1, ⟨m1, rfl⟩⟩ := hrel
  cases gk with
  | zero => exact absurd HA.out (by simp [laws_heldDomNodeS.l0])
  | succ k1 =>
   have H := HA.out
   clear HA
   simp only [laws_heldDomNodeS.l0] at H
   by_cases c3 : x5_1 < (l0.length : Int)
   ·rw [if_pos c3] at H
    have c3b0 : decide (x5_1 < (l0.length : Int)) = true := decide_eq_true c3
    clear c3
    obtain ⟨c4b0, H⟩ := ifd_ H
    by_cases c5 : (((rd_T72 l0 x5_1).f0) != ((Int.tmod x1_1 3) == 0)) = true
    ·rw [if_pos c5] at H
     have c5b0 : (((rd_T72 l0 x5_1).f0) != ((Int.tmod x1_1 3) == 0)) = true := c5
     (try (have c5b1 : decide (((rd_T72 l0 x5_1).f0) = ((Int.tmod x1_1 3) == 0)) = false := by simpa using c5))
     (try (have c5b2 : (((rd_T72 l0 x5_1).f0) == ((Int.tmod x1_1 3) == 0)) = false := by simpa using c5))
     (try (have c5b3 : ¬ (((rd_T72 l0 x5_1).f0) = ((Int.tmod x1_1 3) == 0)) := by simpa using c5))
     clear c5
     obtain rfl := Option.some.inj H
     obtain ⟨p450, q450, ad450, e450, hx450_0, hx450_1, hx450_2, hx450_3, hx450_4, hx450_5, hx450_6⟩ := ato72_ HR0 x5_1
     cases e450
     go_wp2
     go_ret
     exact ⟨z12_, z62_⟩
    ·rw [if_neg c5] at H
     have c5b0 : (((rd_T72 l0 x5_1).f0) != ((Int.tmod x1_1 3) == 0)) = false := by simpa using c5
     (try (have c5b1 : decide (((rd_T72 l0 x5_1).f0) = ((Int.tmod x1_1 3) == 0)) = true := by simpa using c5))
     (try (have c5b2 : (((rd_T72 l0 x5_1).f0) == ((Int.tmod x1_1 3) == 0)) = true := by simpa using c5))
     clear c5
     by_cases c6 : ((rd_T72 l0 x5_1).f1) = (wrap64 (x1_1 + 1))
     ·rw [if_pos c6] at H
      have c6b0 : (((rd_T72 l0 x5_1).f1) == (wrap64 (x1_1 + 1))) = true := beq_iff_eq.mpr c6
      have c6b1 : (((rd_T72 l0 x5_1).f1) != (wrap64 (x1_1 + 1))) = false := bne_eq_false_iff_eq.mpr c6
      clear c6
      by_cases c7 : ((rd_T72 l0 x5_1).f2) = (wrap64 ((wrap64 (x1_1 + 1)) + 1))
      ·rw [if_pos c7] at H
       have c7b0 : (((rd_T72 l0 x5_1).f2) == (wrap64 ((wrap64 (x1_1 + 1)) + 1))) = true := beq_iff_eq.mpr c7
       have c7b1 : (((rd_T72 l0 x5_1).f2) != (wrap64 ((wrap64 (x1_1 + 1)) + 1))) = false := bne_eq_false_iff_eq.mpr c7
       clear c7
       by_cases c8 : ((rd_T72 l0 x5_1).f3) = (wrap64 ((wrap64 ((wrap64 (x1_1 + 1)) + 1)) + 1))
       ·rw [if_pos c8] at H
        have c8b0 : (((rd_T72 l0 x5_1).f3) == (wrap64 ((wrap64 ((wrap64 (x1_1 + 1)) + 1)) + 1))) = true := beq_iff_eq.mpr c8
        have c8b1 : (((rd_T72 l0 x5_1).f3) != (wrap64 ((wrap64 ((wrap64 (x1_1 + 1)) + 1)) + 1))) = false := bne_eq_false_iff_eq.mpr c8
        clear c8
        by_cases c9 : ((rd_T72 l0 x5_1).f4) = (wrap64 ((wrap64 ((wrap64 ((wrap64 (x1_1 + 1)) + 1)) + 1)) + 1))
        ·rw [if_pos c9] at H
         have c9b0 : (((rd_T72 l0 x5_1).f4) == (wrap64 ((wrap64 ((wrap64 ((wrap64 (x1_1 + 1)) + 1)) + 1)) + 1))) = true := beq_iff_eq.mpr c9
         have c9b1 : (((rd_T72 l0 x5_1).f4) != (wrap64 ((wrap64 ((wrap64 ((wrap64 (x1_1 + 1)) + 1)) + 1)) + 1))) = false := bne_eq_false_iff_eq.mpr c9
         clear c9
         by_cases c10 : ((rd_T72 l0 x5_1).f5) = (wrap64 ((wrap64 ((wrap64 ((wrap64 ((wrap64 (x1_1 + 1)) + 1)) + 1)) + 1)) + 1))
         ·rw [if_pos c10] at H
          have c10b0 : (((rd_T72 l0 x5_1).f5) == (wrap64 ((wrap64 ((wrap64 ((wrap64 ((wrap64 (x1_1 + 1)) + 1)) + 1)) + 1)) + 1))) = true := beq_iff_eq.mpr c10
          have c10b1 : (((rd_T72 l0 x5_1).f5) != (wrap64 ((wrap64 ((wrap64 ((wrap64 ((wrap64 (x1_1 + 1)) + 1)) + 1)) + 1)) + 1))) = false := bne_eq_false_iff_eq.mpr c10
          clear c10
          by_cases c11 : ((rd_T72 l0 x5_1).f6) = (wrap64 ((wrap64 ((wrap64 ((wrap64 ((wrap64 ((wrap64 (x1_1 + 1)) + 1)) + 1)) + 1)) + 1)) + 1))
          ·rw [if_pos c11] at H
           have c11b0 : (((rd_T72 l0 x5_1).f6) == (wrap64 ((wrap64 ((wrap64 ((wrap64 ((wrap64 ((wrap64 (x1_1 + 1)) + 1)) + 1)) + 1)) + 1)) + 1))) = true := beq_iff_eq.mpr c11
           have c11b1 : (((rd_T72 l0 x5_1).f6) != (wrap64 ((wrap64 ((wrap64 ((wrap64 ((wrap64 ((wrap64 (x1_1 + 1)) + 1)) + 1)) + 1)) + 1)) + 1))) = false := bne_eq_false_iff_eq.mpr c11
           clear c11
           have H' := Aside0.mk H
           clear H
           obtain ⟨p450, q450, ad450, e450, hx450_0, hx450_1, hx450_2, hx450_3, hx450_4, hx450_5, hx450_6⟩ := ato72_ HR0 x5_1
           cases e450
           obtain ⟨p451, q451, ad451, e451, hx451_0, hx451_1, hx451_2, hx451_3, hx451_4, hx451_5, hx451_6⟩ := ato72_ HR0 x5_1
           obtain rfl : ad450 = ad451 := (by injection e451)
           obtain ⟨p452, q452, ad452, e452, hx452_0, hx452_1, hx452_2, hx452_3, hx452_4, hx452_5, hx452_6⟩ := ato72_ HR0 x5_1
           obtain rfl : ad450 = ad452 := (by injection e452)
           obtain ⟨p453, q453, ad453, e453, hx453_0, hx453_1, hx453_2, hx453_3, hx453_4, hx453_5, hx453_6⟩ := ato72_ HR0 x5_1
           obtain rfl : ad450 = ad453 := (by injection e453)
           obtain ⟨p454, q454, ad454, e454, hx454_0, hx454_1, hx454_2, hx454_3, hx454_4, hx454_5, hx454_6⟩ := ato72_ HR0 x5_1
           obtain rfl : ad450 = ad454 := (by injection e454)
           obtain ⟨p455, q455, ad455, e455, hx455_0, hx455_1, hx455_2, hx455_3, hx455_4, hx455_5, hx455_6⟩ := ato72_ HR0 x5_1
           obtain rfl : ad450 = ad455 := (by injection e455)
           obtain ⟨p456, q456, ad456, e456, hx456_0, hx456_1, hx456_2, hx456_3, hx456_4, hx456_5, hx456_6⟩ := ato72_ HR0 x5_1
           obtain rfl : ad450 = ad456 := (by injection e456)
           go_wp2
           go_roundg k1
           case measure => have := HK1.out; omega
           case rel => exact ⟨(wrap64 ((wrap64 ((wrap64 ((wrap64 ((wrap64 ((wrap64 ((wrap64 (x1_1 + 1)) + 1)) + 1)) + 1)) + 1)) + 1)) + 1)), (wrap64 (x5_1 + 1)), z12_, z12_, H', ⟨z232_⟩, z62_⟩
          ·rw [if_neg c11] at H
           have c11b0 : (((rd_T72 l0 x5_1).f6) == (wrap64 ((wrap64 ((wrap64 ((wrap64 ((wrap64 ((wrap64 (x1_1 + 1)) + 1)) + 1)) + 1)) + 1)) + 1))) = false := beq_eq_false_iff_ne.mpr c11
           have c11b1 : (((rd_T72 l0 x5_1).f6) != (wrap64 ((wrap64 ((wrap64 ((wrap64 ((wrap64 ((wrap64 (x1_1 + 1)) + 1)) + 1)) + 1)) + 1)) + 1))) = true := bne_iff_ne.mpr c11
           obtain rfl := Option.some.inj H
           obtain ⟨p450, q450, ad450, e450, hx450_0, hx450_1, hx450_2, hx450_3, hx450_4, hx450_5, hx450_6⟩ := ato72_ HR0 x5_1
           cases e450
           obtain ⟨p451, q451, ad451, e451, hx451_0, hx451_1, hx451_2, hx451_3, hx451_4, hx451_5, hx451_6⟩ := ato72_ HR0 x5_1
           obtain rfl : ad450 = ad451 := (by injection e451)
           obtain ⟨p452, q452, ad452, e452, hx452_0, hx452_1, hx452_2, hx452_3, hx452_4, hx452_5, hx452_6⟩ := ato72_ HR0 x5_1
           obtain rfl : ad450 = ad452 := (by injection e452)
           obtain ⟨p453, q453, ad453, e453, hx453_0, hx453_1, hx453_2, hx453_3, hx453_4, hx453_5, hx453_6⟩ := ato72_ HR0 x5_1
           obtain rfl : ad450 = ad453 := (by injection e453)
           obtain ⟨p454, q454, ad454, e454, hx454_0, hx454_1, hx454_2, hx454_3, hx454_4, hx454_5, hx454_6⟩ := ato72_ HR0 x5_1
           obtain rfl : ad450 = ad454 := (by injection e454)
           obtain ⟨p455, q455, ad455, e455, hx455_0, hx455_1, hx455_2, hx455_3, hx455_4, hx455_5, hx455_6⟩ := ato72_ HR0 x5_1
           obtain rfl : ad450 = ad455 := (by injection e455)
           obtain ⟨p456, q456, ad456, e456, hx456_0, hx456_1, hx456_2, hx456_3, hx456_4, hx456_5, hx456_6⟩ := ato72_ HR0 x5_1
           obtain rfl : ad450 = ad456 := (by injection e456)
           go_wp2
           go_ret
           exact ⟨z12_, z62_⟩
         ·rw [if_neg c10] at H
          have c10b0 : (((rd_T72 l0 x5_1).f5) == (wrap64 ((wrap64 ((wrap64 ((wrap64 ((wrap64 (x1_1 + 1)) + 1)) + 1)) + 1)) + 1))) = false := beq_eq_false_iff_ne.mpr c10
          have c10b1 : (((rd_T72 l0 x5_1).f5) != (wrap64 ((wrap64 ((wrap64 ((wrap64 ((wrap64 (x1_1 + 1)) + 1)) + 1)) + 1)) + 1))) = true := bne_iff_ne.mpr c10
          obtain rfl := Option.some.inj H
          obtain ⟨p450, q450, ad450, e450, hx450_0, hx450_1, hx450_2, hx450_3, hx450_4, hx450_5, hx450_6⟩ := ato72_ HR0 x5_1
          cases e450
          obtain ⟨p451, q451, ad451, e451, hx451_0, hx451_1, hx451_2, hx451_3, hx451_4, hx451_5, hx451_6⟩ := ato72_ HR0 x5_1
          obtain rfl : ad450 = ad451 := (by injection e451)
          obtain ⟨p452, q452, ad452, e452, hx452_0, hx452_1, hx452_2, hx452_3, hx452_4, hx452_5, hx452_6⟩ := ato72_ HR0 x5_1
          obtain rfl : ad450 = ad452 := (by injection e452)
          obtain ⟨p453, q453, ad453, e453, hx453_0, hx453_1, hx453_2, hx453_3, hx453_4, hx453_5, hx453_6⟩ := ato72_ HR0 x5_1
          obtain rfl : ad450 = ad453 := (by injection e453)
          obtain ⟨p454, q454, ad454, e454, hx454_0, hx454_1, hx454_2, hx454_3, hx454_4, hx454_5, hx454_6⟩ := ato72_ HR0 x5_1
          obtain rfl : ad450 = ad454 := (by injection e454)
          obtain ⟨p455, q455, ad455, e455, hx455_0, hx455_1, hx455_2, hx455_3, hx455_4, hx455_5, hx455_6⟩ := ato72_ HR0 x5_1
          obtain rfl : ad450 = ad455 := (by injection e455)
          go_wp2
          go_ret
          exact ⟨z12_, z62_⟩
        ·rw [if_neg c9] at H
         have c9b0 : (((rd_T72 l0 x5_1).f4) == (wrap64 ((wrap64 ((wrap64 ((wrap64 (x1_1 + 1)) + 1)) + 1)) + 1))) = false := beq_eq_false_iff_ne.mpr c9
         have c9b1 : (((rd_T72 l0 x5_1).f4) != (wrap64 ((wrap64 ((wrap64 ((wrap64 (x1_1 + 1)) + 1)) + 1)) + 1))) = true := bne_iff_ne.mpr c9
         obtain rfl := Option.some.inj H
         obtain ⟨p450, q450, ad450, e450, hx450_0, hx450_1, hx450_2, hx450_3, hx450_4, hx450_5, hx450_6⟩ := ato72_ HR0 x5_1
         cases e450
         obtain ⟨p451, q451, ad451, e451, hx451_0, hx451_1, hx451_2, hx451_3, hx451_4, hx451_5, hx451_6⟩ := ato72_ HR0 x5_1
         obtain rfl : ad450 = ad451 := (by injection e451)
         obtain ⟨p452, q452, ad452, e452, hx452_0, hx452_1, hx452_2, hx452_3, hx452_4, hx452_5, hx452_6⟩ := ato72_ HR0 x5_1
         obtain rfl : ad450 = ad452 := (by injection e452)
         obtain ⟨p453, q453, ad453, e453, hx453_0, hx453_1, hx453_2, hx453_3, hx453_4, hx453_5, hx453_6⟩ := ato72_ HR0 x5_1
         obtain rfl : ad450 = ad453 := (by injection e453)
         obtain ⟨p454, q454, ad454, e454, hx454_0, hx454_1, hx454_2, hx454_3, hx454_4, hx454_5, hx454_6⟩ := ato72_ HR0 x5_1
         obtain rfl : ad450 = ad454 := (by injection e454)
         go_wp2
         go_ret
         exact ⟨z12_, z62_⟩
       ·rw [if_neg c8] at H
        have c8b0 : (((rd_T72 l0 x5_1).f3) == (wrap64 ((wrap64 ((wrap64 (x1_1 + 1)) + 1)) + 1))) = false := beq_eq_false_iff_ne.mpr c8
        have c8b1 : (((rd_T72 l0 x5_1).f3) != (wrap64 ((wrap64 ((wrap64 (x1_1 + 1)) + 1)) + 1))) = true := bne_iff_ne.mpr c8
        obtain rfl := Option.some.inj H
        obtain ⟨p450, q450, ad450, e450, hx450_0, hx450_1, hx450_2, hx450_3, hx450_4, hx450_5, hx450_6⟩ := ato72_ HR0 x5_1
        cases e450
        obtain ⟨p451, q451, ad451, e451, hx451_0, hx451_1, hx451_2, hx451_3, hx451_4, hx451_5, hx451_6⟩ := ato72_ HR0 x5_1
        obtain rfl : ad450 = ad451 := (by injection e451)
        obtain ⟨p452, q452, ad452, e452, hx452_0, hx452_1, hx452_2, hx452_3, hx452_4, hx452_5, hx452_6⟩ := ato72_ HR0 x5_1
        obtain rfl : ad450 = ad452 := (by injection e452)
        obtain ⟨p453, q453, ad453, e453, hx453_0, hx453_1, hx453_2, hx453_3, hx453_4, hx453_5, hx453_6⟩ := ato72_ HR0 x5_1
        obtain rfl : ad450 = ad453 := (by injection e453)
        go_wp2
        go_ret
        exact ⟨z12_, z62_⟩
      ·rw [if_neg c7] at H
       have c7b0 : (((rd_T72 l0 x5_1).f2) == (wrap64 ((wrap64 (x1_1 + 1)) + 1))) = false := beq_eq_false_iff_ne.mpr c7
       have c7b1 : (((rd_T72 l0 x5_1).f2) != (wrap64 ((wrap64 (x1_1 + 1)) + 1))) = true := bne_iff_ne.mpr c7
       obtain rfl := Option.some.inj H
       obtain ⟨p450, q450, ad450, e450, hx450_0, hx450_1, hx450_2, hx450_3, hx450_4, hx450_5, hx450_6⟩ := ato72_ HR0 x5_1
       cases e450
       obtain ⟨p451, q451, ad451, e451, hx451_0, hx451_1, hx451_2, hx451_3, hx451_4, hx451_5, hx451_6⟩ := ato72_ HR0 x5_1
       obtain rfl : ad450 = ad451 := (by injection e451)
       obtain ⟨p452, q452, ad452, e452, hx452_0, hx452_1, hx452_2, hx452_3, hx452_4, hx452_5, hx452_6⟩ := ato72_ HR0 x5_1
       obtain rfl : ad450 = ad452 := (by injection e452)
       go_wp2
       go_ret
       exact ⟨z12_, z62_⟩
     ·rw [if_neg c6] at H
      have c6b0 : (((rd_T72 l0 x5_1).f1) == (wrap64 (x1_1 + 1))) = false := beq_eq_false_iff_ne.mpr c6
      have c6b1 : (((rd_T72 l0 x5_1).f1) != (wrap64 (x1_1 + 1))) = true := bne_iff_ne.mpr c6
      obtain rfl := Option.some.inj H
      obtain ⟨p450, q450, ad450, e450, hx450_0, hx450_1, hx450_2, hx450_3, hx450_4, hx450_5, hx450_6⟩ := ato72_ HR0 x5_1
      cases e450
      obtain ⟨p451, q451, ad451, e451, hx451_0, hx451_1, hx451_2, hx451_3, hx451_4, hx451_5, hx451_6⟩ := ato72_ HR0 x5_1
      obtain rfl : ad450 = ad451 := (by injection e451)
      go_wp2
      go_ret
      exact ⟨z12_, z62_⟩
   ·rw [if_neg c3] at H
    have c3b0 : decide (x5_1 < (l0.length : Int)) = false := decide_eq_false c3
    clear c3
    obtain rfl := Option.some.inj H
    go_wp2
    go_ret
    exact ⟨z12_, z62_⟩

/-! ### laws_heldDom: function 27 -/
def laws_heldDom.f (k : Nat) (l0_0 : List (S72)) (a1 : Int) : Option (Int) := (laws_heldDomNodeS.f k l0_0 a1).bind fun t458 => (if t458 < 0 then (some (-1)) else (some t458))
set_option maxHeartbeats 8000000 in
set_option maxRecDepth 100000 in
theorem laws_heldDom.calls (k : Nat) (A0_0 : Option Addr) (c0_0 : Nat) (l0_0 : List (S72)) (a1 : Int) (r : Int) (w : World) (hr0_0 : Kd.C k72 w A0_0 l0_0.length l0_0) (hc0_0 : l0_0.length ≤ c0_0) (h : laws_heldDom.f k l0_0 a1 = some r) :
  Calls Try.prog 27 #[.agg #[.slice A0_0 l0_0.length c0_0], .int .i64 a1] w fun e w' => e = .returned (.int .i64 r) ∧ Below w.heap.size w w' := by
 have hu28 := Try.underlying28
 have HR0_0 := Aside0.mk hr0_0
 have HC0_0 := Aside0.mk hc0_0
 clear hr0_0 hc0_0
 have HB := Aside0.mk (Below.refl w.heap.size w)
 have H : ((laws_heldDomNodeS.f k l0_0 a1).bind fun t458 => (if t458 < 0 then (some (-1)) else (some t458))) = some r := h
 clear h
 obtain ⟨t458, A3, H⟩ := bnd_ H
 by_cases c4 : t458 < 0
 ·rw [if_pos c4] at H
  have c4b0 : decide (t458 < 0) = true := decide_eq_true c4
  clear c4
  obtain rfl := Option.some.inj H
  go_enter Try.func27, Try.ntmps27
  go_wp2_with (first | ((with_reducible refine gate_dst (N := 2) rfl ?_); refine box_event ?hg (N := 2) ?hd (cs := #[.slice A0_0 l0_0.length c0_0]) (t := 28) ?hr ?_; (case hd => rfl); (case hg => rfl); (case hr => exact z25_); intro gb457 hg w5 hbox hb; have BK457 := Aside0.mk (hbox); have GW457 := Aside0.mk ((by rw [hg]; exact (below_size z0_) : w.heap.size ≤ gb457)); have GE457 := Aside0.mk ((by rw [hg]; exact (below_size z0_) : w.heap.size ≤ gb457)); replace HB := Aside0.mk (below_step z0_ hb); clear hb hbox hg; have hcz6_0 : w5.cell? ⟨gb457, 0, none⟩ = some (.slice A0_0 l0_0.length c0_0) := (blk_cell BK457.out 0).trans rfl; have hfz6_0 := blk_frozen BK457.out 0) | ((with_reducible refine gate_callee (f := 78) rfl ?_); refine goesL_ (some 8) rfl rfl Try.func78 (by kernel_rfl) rfl #[.slice A0_0 l0_0.length c0_0, .int .i64 a1] rfl z1_ ?_; (with_reducible refine (laws_heldDomNodeS.calls k _ _ l0_0 a1 t458 _ ?side1 ?side2 A3.out).mono ?_); (case side1 => exact z10_); (case side2 => exact HC0_0.out); rintro e w' ⟨rfl, ⟨nd, rfl⟩⟩; refine ⟨_, rfl, ?_⟩))
  go_ret
  exact ⟨z4_, z206_⟩
 ·rw [if_neg c4] at H
  have c4b0 : decide (t458 < 0) = false := decide_eq_false c4
  clear c4
  obtain rfl := Option.some.inj H
  go_enter Try.func27, Try.ntmps27
  go_wp2_with (first | ((with_reducible refine gate_dst (N := 2) rfl ?_); refine box_event ?hg (N := 2) ?hd (cs := #[.slice A0_0 l0_0.length c0_0]) (t := 28) ?hr ?_; (case hd => rfl); (case hg => rfl); (case hr => exact z25_); intro gb457 hg w7 hbox hb; have BK457 := Aside0.mk (hbox); have GW457 := Aside0.mk ((by rw [hg]; exact (below_size z0_) : w.heap.size ≤ gb457)); have GE457 := Aside0.mk ((by rw [hg]; exact (below_size z0_) : w.heap.size ≤ gb457)); replace HB := Aside0.mk (below_step z0_ hb); clear hb hbox hg; have hcz8_0 : w7.cell? ⟨gb457, 0, none⟩ = some (.slice A0_0 l0_0.length c0_0) := (blk_cell BK457.out 0).trans rfl; have hfz8_0 := blk_frozen BK457.out 0) | ((with_reducible refine gate_callee (f := 78) rfl ?_); refine goesL_ (some 8) rfl rfl Try.func78 (by kernel_rfl) rfl #[.slice A0_0 l0_0.length c0_0, .int .i64 a1] rfl z1_ ?_; (with_reducible refine (laws_heldDomNodeS.calls k _ _ l0_0 a1 t458 _ ?side1 ?side2 A3.out).mono ?_); (case side1 => exact z10_); (case side2 => exact HC0_0.out); rintro e w' ⟨rfl, ⟨nd, rfl⟩⟩; refine ⟨_, rfl, ?_⟩))
  go_ret
  exact ⟨z4_, z206_⟩

end Go.Proofs.Ytdapeboajjidmab.PFnExactDomDelete
