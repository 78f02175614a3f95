/- Laid by a program of this session out of the kit's print for the law FnExactHistAt: what it says of the machine is proved here, function by function; each contract under the conditions that it names. -/
import Derived.Test.YtdapeboajjidmaaMFnExactHistAtx0
import Derived.Test.YtdapeboajjidmaaMFnExactHistAtx15
namespace Go.Proofs.Ytdapeboajjidmaa.PFnExactHistAt
open Go.RowKit Go.Proofs.YtdapeboajjidmaaW.PrintWords Go.Proofs.YtdapeboajjidmaaW.PrintLast Go.Proofs.YtdapeboajjidmaaW.PrintMore
attribute [local go_sem] max2_int min2_int max_two min_two max_three min_three max_four min_four   -- for this text's walks alone
set_option linter.unusedVariables false
set_option linter.unusedSimpArgs false

/-! ### laws_eqOp: function 54 -/
def laws_eqOp.f (k : Nat) (a0_0 : Int) (l0_1 : List Int) (a0_2 : Int) (a0_3 : Int) (a0_4 : Int) (a1_0 : Int) (l1_1 : List Int) (a1_2 : Int) (a1_3 : Int) (a1_4 : Int) : Option (Bool) := if a0_0 = a1_0 then ((laws_eqIntS.f k l0_1 l1_1).bind fun t488 => (if t488 = true then (if a0_2 = a1_2 then (if a0_3 = a1_3 then (if a0_4 = a1_4 then (some true) else (some false)) else (some false)) else (some false)) else (some false))) else (some false)
set_option maxHeartbeats 8000000 in
set_option maxRecDepth 100000 in
theorem laws_eqOp.calls (k : Nat) (a0_0 : Int) (A0_1 : Option Addr) (c0_1 : Nat) (l0_1 : List Int) (a0_2 : Int) (a0_3 : Int) (a0_4 : Int) (a1_0 : Int) (A1_1 : Option Addr) (c1_1 : Nat) (l1_1 : List Int) (a1_2 : Int) (a1_3 : Int) (a1_4 : Int) (r : Bool) (w : World) (hr0_1 : Kd.C (Kd.int .i64) w A0_1 l0_1.length l0_1) (hc0_1 : l0_1.length ≤ c0_1) (hr1_1 : Kd.C (Kd.int .i64) w A1_1 l1_1.length l1_1) (hc1_1 : l1_1.length ≤ c1_1) (h : laws_eqOp.f k a0_0 l0_1 a0_2 a0_3 a0_4 a1_0 l1_1 a1_2 a1_3 a1_4 = some r) :
  Calls Try.prog 54 #[.agg #[.int .i64 a0_0, .slice A0_1 l0_1.length c0_1, .int .i64 a0_2, .int .i64 a0_3, .int .i64 a0_4], .agg #[.int .i64 a1_0, .slice A1_1 l1_1.length c1_1, .int .i64 a1_2, .int .i64 a1_3, .int .i64 a1_4]] w fun e w' => e = .returned (.bool r) ∧ Below w.heap.size w w' := by
 have hu78 := Try.underlying78
 have HR0_1 := Aside0.mk hr0_1
 have HC0_1 := Aside0.mk hc0_1
 clear hr0_1 hc0_1
 have HR1_1 := Aside0.mk hr1_1
 have HC1_1 := Aside0.mk hc1_1
 clear hr1_1 hc1_1
 have HB := Aside0.mk (Below.refl w.heap.size w)
 have H : (if a0_0 = a1_0 then ((laws_eqIntS.f k l0_1 l1_1).bind fun t488 => (if t488 = true then (if a0_2 = a1_2 then (if a0_3 = a1_3 then (if a0_4 = a1_4 then (some true) else (some false)) else (some false)) else (some false)) else (some false))) else (some false)) = some r := h
 clear h
 by_cases c3 : a0_0 = a1_0
 ·rw [if_pos c3] at H
  have c3b0 : (a0_0 == a1_0) = true := beq_iff_eq.mpr c3
  have c3b1 : (a0_0 != a1_0) = false := bne_eq_false_iff_eq.mpr c3
  clear c3
  obtain ⟨t488, A4, H⟩ := bnd_ H
  by_cases c5 : t488 = true
  ·subst c5
   replace H := ift_ H
   by_cases c6 : a0_2 = a1_2
   ·rw [if_pos c6] at H
    have c6b0 : (a0_2 == a1_2) = true := beq_iff_eq.mpr c6
    have c6b1 : (a0_2 != a1_2) = false := bne_eq_false_iff_eq.mpr c6
    clear c6
    by_cases c7 : a0_3 = a1_3
    ·rw [if_pos c7] at H
     have c7b0 : (a0_3 == a1_3) = true := beq_iff_eq.mpr c7
     have c7b1 : (a0_3 != a1_3) = false := bne_eq_false_iff_eq.mpr c7
     clear c7
     by_cases c8 : a0_4 = a1_4
     ·rw [if_pos c8] at H
      have c8b0 : (a0_4 == a1_4) = true := beq_iff_eq.mpr c8
      have c8b1 : (a0_4 != a1_4) = false := bne_eq_false_iff_eq.mpr c8
      clear c8
      obtain rfl := Option.some.inj H
      go_enter Try.func54, Try.ntmps54
      go_wp2_with (first | ((with_reducible refine gate_dst (N := 2) rfl ?_); refine box_event ?hg (N := 2) ?hd (cs := #[.int .i64 a0_0, .slice A0_1 l0_1.length c0_1, .int .i64 a0_2, .int .i64 a0_3, .int .i64 a0_4]) (t := 78) ?hr ?_; (case hd => rfl); (case hg => rfl); (case hr => exact z9_); intro gb486 hg w9 hbox hb; have BK486 := Aside0.mk (hbox); have GW486 := Aside0.mk ((by rw [hg]; exact (below_size z0_) : w.heap.size ≤ gb486)); have GE486 := Aside0.mk ((by rw [hg]; exact (below_size z0_) : w.heap.size ≤ gb486)); replace HB := Aside0.mk (below_step z0_ hb); clear hb hbox hg) | ((with_reducible refine gate_dst (N := 3) rfl ?_); refine box_event ?hg (N := 3) ?hd (cs := #[.int .i64 a1_0, .slice A1_1 l1_1.length c1_1, .int .i64 a1_2, .int .i64 a1_3, .int .i64 a1_4]) (t := 78) ?hr ?_; (case hd => rfl); (case hg => rfl); (case hr => exact z9_); intro gb487 hg w10 hbox hb; have BK487 := Aside0.mk (hbox); have GW487 := Aside0.mk ((by rw [hg]; exact (below_size z20_) : w.heap.size ≤ gb487)); have GE487 := Aside0.mk ((by rw [hg]; exact (below_size z20_) : w.heap.size ≤ gb487)); replace HB := Aside0.mk (below_step z20_ hb); have NB486_487 := Aside0.mk ((by rw [hg]; exact Nat.ne_of_lt (blk_lt (g := gb486) (o := .cells #[.int .i64 a0_0, .slice A0_1 l0_1.length c0_1, .int .i64 a0_2, .int .i64 a0_3, .int .i64 a0_4] 78 (0, 0)) z27_) : gb486 ≠ gb487)); have NB487_486 := Aside0.mk ((by rw [hg]; exact Nat.ne_of_gt (blk_lt (g := gb486) (o := .cells #[.int .i64 a0_0, .slice A0_1 l0_1.length c0_1, .int .i64 a0_2, .int .i64 a0_3, .int .i64 a0_4] 78 (0, 0)) z27_) : gb487 ≠ gb486)); replace BK486 := Aside0.mk (blk_below (g := gb486) (o := .cells #[.int .i64 a0_0, .slice A0_1 l0_1.length c0_1, .int .i64 a0_2, .int .i64 a0_3, .int .i64 a0_4] 78 (0, 0)) z27_ hb); clear hb hbox hg; have hnb11 := NB486_487.out; have hnc11 := NB487_486.out; obtain ⟨hcz12_0, hcz12_1, hcz12_2, hcz12_3, hcz12_4, hfz12_0, hfz12_1, hfz12_2, hfz12_3, hfz12_4⟩ := bx5_ BK486.out; obtain ⟨hcz13_0, hcz13_1, hcz13_2, hcz13_3, hcz13_4, hfz13_0, hfz13_1, hfz13_2, hfz13_3, hfz13_4⟩ := bx5_ BK487.out) | ((with_reducible refine gate_callee (f := 102) rfl ?_); refine goesL_ (some 14) rfl rfl Try.func102 (by kernel_rfl) rfl #[.slice A0_1 l0_1.length c0_1, .slice A1_1 l1_1.length c1_1] rfl z1_ ?_; (with_reducible refine (laws_eqIntS.calls k _ _ l0_1 _ _ l1_1 true _ ?side1 ?side2 ?side3 ?side4 A4.out).mono ?_); (case side1 => exact z8_); (case side2 => exact HC0_1.out); (case side3 => exact z14_); (case side4 => exact HC1_1.out); rintro e w' ⟨rfl, ⟨nd, rfl⟩⟩; refine ⟨_, rfl, ?_⟩))
      go_ret
      exact ⟨z3_, z48_⟩
     ·rw [if_neg c8] at H
      have c8b0 : (a0_4 == a1_4) = false := beq_eq_false_iff_ne.mpr c8
      have c8b1 : (a0_4 != a1_4) = true := bne_iff_ne.mpr c8
      obtain rfl := Option.some.inj H
      go_enter Try.func54, Try.ntmps54
      go_wp2_with (first | ((with_reducible refine gate_dst (N := 2) rfl ?_); refine box_event ?hg (N := 2) ?hd (cs := #[.int .i64 a0_0, .slice A0_1 l0_1.length c0_1, .int .i64 a0_2, .int .i64 a0_3, .int .i64 a0_4]) (t := 78) ?hr ?_; (case hd => rfl); (case hg => rfl); (case hr => exact z9_); intro gb486 hg w14 hbox hb; have BK486 := Aside0.mk (hbox); have GW486 := Aside0.mk ((by rw [hg]; exact (below_size z0_) : w.heap.size ≤ gb486)); have GE486 := Aside0.mk ((by rw [hg]; exact (below_size z0_) : w.heap.size ≤ gb486)); replace HB := Aside0.mk (below_step z0_ hb); clear hb hbox hg) | ((with_reducible refine gate_dst (N := 3) rfl ?_); refine box_event ?hg (N := 3) ?hd (cs := #[.int .i64 a1_0, .slice A1_1 l1_1.length c1_1, .int .i64 a1_2, .int .i64 a1_3, .int .i64 a1_4]) (t := 78) ?hr ?_; (case hd => rfl); (case hg => rfl); (case hr => exact z9_); intro gb487 hg w15 hbox hb; have BK487 := Aside0.mk (hbox); have GW487 := Aside0.mk ((by rw [hg]; exact (below_size z20_) : w.heap.size ≤ gb487)); have GE487 := Aside0.mk ((by rw [hg]; exact (below_size z20_) : w.heap.size ≤ gb487)); replace HB := Aside0.mk (below_step z20_ hb); have NB486_487 := Aside0.mk ((by rw [hg]; exact Nat.ne_of_lt (blk_lt (g := gb486) (o := .cells #[.int .i64 a0_0, .slice A0_1 l0_1.length c0_1, .int .i64 a0_2, .int .i64 a0_3, .int .i64 a0_4] 78 (0, 0)) z27_) : gb486 ≠ gb487)); have NB487_486 := Aside0.mk ((by rw [hg]; exact Nat.ne_of_gt (blk_lt (g := gb486) (o := .cells #[.int .i64 a0_0, .slice A0_1 l0_1.length c0_1, .int .i64 a0_2, .int .i64 a0_3, .int .i64 a0_4] 78 (0, 0)) z27_) : gb487 ≠ gb486)); replace BK486 := Aside0.mk (blk_below (g := gb486) (o := .cells #[.int .i64 a0_0, .slice A0_1 l0_1.length c0_1, .int .i64 a0_2, .int .i64 a0_3, .int .i64 a0_4] 78 (0, 0)) z27_ hb); clear hb hbox hg; have hnb16 := NB486_487.out; have hnc16 := NB487_486.out; obtain ⟨hcz17_0, hcz17_1, hcz17_2, hcz17_3, hcz17_4, hfz17_0, hfz17_1, hfz17_2, hfz17_3, hfz17_4⟩ := bx5_ BK486.out; obtain ⟨hcz18_0, hcz18_1, hcz18_2, hcz18_3, hcz18_4, hfz18_0, hfz18_1, hfz18_2, hfz18_3, hfz18_4⟩ := bx5_ BK487.out) | ((with_reducible refine gate_callee (f := 102) rfl ?_); refine goesL_ (some 14) rfl rfl Try.func102 (by kernel_rfl) rfl #[.slice A0_1 l0_1.length c0_1, .slice A1_1 l1_1.length c1_1] rfl z1_ ?_; (with_reducible refine (laws_eqIntS.calls k _ _ l0_1 _ _ l1_1 true _ ?side1 ?side2 ?side3 ?side4 A4.out).mono ?_); (case side1 => exact z8_); (case side2 => exact HC0_1.out); (case side3 => exact z14_); (case side4 => exact HC1_1.out); rintro e w' ⟨rfl, ⟨nd, rfl⟩⟩; refine ⟨_, rfl, ?_⟩))
      go_ret
      exact ⟨z3_, z48_⟩
    ·rw [if_neg c7] at H
     have c7b0 : (a0_3 == a1_3) = false := beq_eq_false_iff_ne.mpr c7
     have c7b1 : (a0_3 != a1_3) = true := bne_iff_ne.mpr c7
     obtain rfl := Option.some.inj H
     go_enter Try.func54, Try.ntmps54
     go_wp2_with (first | ((with_reducible refine gate_dst (N := 2) rfl ?_); refine box_event ?hg (N := 2) ?hd (cs := #[.int .i64 a0_0, .slice A0_1 l0_1.length c0_1, .int .i64 a0_2, .int .i64 a0_3, .int .i64 a0_4]) (t := 78) ?hr ?_; (case hd => rfl); (case hg => rfl); (case hr => exact z9_); intro gb486 hg w19 hbox hb; have BK486 := Aside0.mk (hbox); have GW486 := Aside0.mk ((by rw [hg]; exact (below_size z0_) : w.heap.size ≤ gb486)); have GE486 := Aside0.mk ((by rw [hg]; exact (below_size z0_) : w.heap.size ≤ gb486)); replace HB := Aside0.mk (below_step z0_ hb); clear hb hbox hg) | ((with_reducible refine gate_dst (N := 3) rfl ?_); refine box_event ?hg (N := 3) ?hd (cs := #[.int .i64 a1_0, .slice A1_1 l1_1.length c1_1, .int .i64 a1_2, .int .i64 a1_3, .int .i64 a1_4]) (t := 78) ?hr ?_; (case hd => rfl); (case hg => rfl); (case hr => exact z9_); intro gb487 hg w20 hbox hb; have BK487 := Aside0.mk (hbox); have GW487 := Aside0.mk ((by rw [hg]; exact (below_size z20_) : w.heap.size ≤ gb487)); have GE487 := Aside0.mk ((by rw [hg]; exact (below_size z20_) : w.heap.size ≤ gb487)); replace HB := Aside0.mk (below_step z20_ hb); have NB486_487 := Aside0.mk ((by rw [hg]; exact Nat.ne_of_lt (blk_lt (g := gb486) (o := .cells #[.int .i64 a0_0, .slice A0_1 l0_1.length c0_1, .int .i64 a0_2, .int .i64 a0_3, .int .i64 a0_4] 78 (0, 0)) z27_) : gb486 ≠ gb487)); have NB487_486 := Aside0.mk ((by rw [hg]; exact Nat.ne_of_gt (blk_lt (g := gb486) (o := .cells #[.int .i64 a0_0, .slice A0_1 l0_1.length c0_1, .int .i64 a0_2, .int .i64 a0_3, .int .i64 a0_4] 78 (0, 0)) z27_) : gb487 ≠ gb486)); replace BK486 := Aside0.mk (blk_below (g := gb486) (o := .cells #[.int .i64 a0_0, .slice A0_1 l0_1.length c0_1, .int .i64 a0_2, .int .i64 a0_3, .int .i64 a0_4] 78 (0, 0)) z27_ hb); clear hb hbox hg; have hnb21 := NB486_487.out; have hnc21 := NB487_486.out; obtain ⟨hcz22_0, hcz22_1, hcz22_2, hcz22_3, hcz22_4, hfz22_0, hfz22_1, hfz22_2, hfz22_3, hfz22_4⟩ := bx5_ BK486.out; obtain ⟨hcz23_0, hcz23_1, hcz23_2, hcz23_3, hcz23_4, hfz23_0, hfz23_1, hfz23_2, hfz23_3, hfz23_4⟩ := bx5_ BK487.out) | ((with_reducible refine gate_callee (f := 102) rfl ?_); refine goesL_ (some 14) rfl rfl Try.func102 (by kernel_rfl) rfl #[.slice A0_1 l0_1.length c0_1, .slice A1_1 l1_1.length c1_1] rfl z1_ ?_; (with_reducible refine (laws_eqIntS.calls k _ _ l0_1 _ _ l1_1 true _ ?side1 ?side2 ?side3 ?side4 A4.out).mono ?_); (case side1 => exact z8_); (case side2 => exact HC0_1.out); (case side3 => exact z14_); (case side4 => exact HC1_1.out); rintro e w' ⟨rfl, ⟨nd, rfl⟩⟩; refine ⟨_, rfl, ?_⟩))
     go_ret
     exact ⟨z3_, z48_⟩
   ·rw [if_neg c6] at H
    have c6b0 : (a0_2 == a1_2) = false := beq_eq_false_iff_ne.mpr c6
    have c6b1 : (a0_2 != a1_2) = true := bne_iff_ne.mpr c6
    obtain rfl := Option.some.inj H
    go_enter Try.func54, Try.ntmps54
    go_wp2_with (first | ((with_reducible refine gate_dst (N := 2) rfl ?_); refine box_event ?hg (N := 2) ?hd (cs := #[.int .i64 a0_0, .slice A0_1 l0_1.length c0_1, .int .i64 a0_2, .int .i64 a0_3, .int .i64 a0_4]) (t := 78) ?hr ?_; (case hd => rfl); (case hg => rfl); (case hr => exact z9_); intro gb486 hg w24 hbox hb; have BK486 := Aside0.mk (hbox); have GW486 := Aside0.mk ((by rw [hg]; exact (below_size z0_) : w.heap.size ≤ gb486)); have GE486 := Aside0.mk ((by rw [hg]; exact (below_size z0_) : w.heap.size ≤ gb486)); replace HB := Aside0.mk (below_step z0_ hb); clear hb hbox hg) | ((with_reducible refine gate_dst (N := 3) rfl ?_); refine box_event ?hg (N := 3) ?hd (cs := #[.int .i64 a1_0, .slice A1_1 l1_1.length c1_1, .int .i64 a1_2, .int .i64 a1_3, .int .i64 a1_4]) (t := 78) ?hr ?_; (case hd => rfl); (case hg => rfl); (case hr => exact z9_); intro gb487 hg w25 hbox hb; have BK487 := Aside0.mk (hbox); have GW487 := Aside0.mk ((by rw [hg]; exact (below_size z20_) : w.heap.size ≤ gb487)); have GE487 := Aside0.mk ((by rw [hg]; exact (below_size z20_) : w.heap.size ≤ gb487)); replace HB := Aside0.mk (below_step z20_ hb); have NB486_487 := Aside0.mk ((by rw [hg]; exact Nat.ne_of_lt (blk_lt (g := gb486) (o := .cells #[.int .i64 a0_0, .slice A0_1 l0_1.length c0_1, .int .i64 a0_2, .int .i64 a0_3, .int .i64 a0_4] 78 (0, 0)) z27_) : gb486 ≠ gb487)); have NB487_486 := Aside0.mk ((by rw [hg]; exact Nat.ne_of_gt (blk_lt (g := gb486) (o := .cells #[.int .i64 a0_0, .slice A0_1 l0_1.length c0_1, .int .i64 a0_2, .int .i64 a0_3, .int .i64 a0_4] 78 (0, 0)) z27_) : gb487 ≠ gb486)); replace BK486 := Aside0.mk (blk_below (g := gb486) (o := .cells #[.int .i64 a0_0, .slice A0_1 l0_1.length c0_1, .int .i64 a0_2, .int .i64 a0_3, .int .i64 a0_4] 78 (0, 0)) z27_ hb); clear hb hbox hg; have hnb26 := NB486_487.out; have hnc26 := NB487_486.out; obtain ⟨hcz27_0, hcz27_1, hcz27_2, hcz27_3, hcz27_4, hfz27_0, hfz27_1, hfz27_2, hfz27_3, hfz27_4⟩ := bx5_ BK486.out; obtain ⟨hcz28_0, hcz28_1, hcz28_2, hcz28_3, hcz28_4, hfz28_0, hfz28_1, hfz28_2, hfz28_3, hfz28_4⟩ := bx5_ BK487.out) | ((with_reducible refine gate_callee (f := 102) rfl ?_); refine goesL_ (some 14) rfl rfl Try.func102 (by kernel_rfl) rfl #[.slice A0_1 l0_1.length c0_1, .slice A1_1 l1_1.length c1_1] rfl z1_ ?_; (with_reducible refine (laws_eqIntS.calls k _ _ l0_1 _ _ l1_1 true _ ?side1 ?side2 ?side3 ?side4 A4.out).mono ?_); (case side1 => exact z8_); (case side2 => exact HC0_1.out); (case side3 => exact z14_); (case side4 => exact HC1_1.out); rintro e w' ⟨rfl, ⟨nd, rfl⟩⟩; refine ⟨_, rfl, ?_⟩))
    go_ret
    exact ⟨z3_, z48_⟩
  ·replace c5 := Bool.eq_false_iff.mpr c5
   subst c5
   replace H := iff_ H
   obtain rfl := Option.some.inj H
   go_enter Try.func54, Try.ntmps54
   go_wp2_with (first | ((with_reducible refine gate_dst (N := 2) rfl ?_); refine box_event ?hg (N := 2) ?hd (cs := #[.int .i64 a0_0, .slice A0_1 l0_1.length c0_1, .int .i64 a0_2, .int .i64 a0_3, .int .i64 a0_4]) (t := 78) ?hr ?_; (case hd => rfl); (case hg => rfl); (case hr => exact z9_); intro gb486 hg w29 hbox hb; have BK486 := Aside0.mk (hbox); have GW486 := Aside0.mk ((by rw [hg]; exact (below_size z0_) : w.heap.size ≤ gb486)); have GE486 := Aside0.mk ((by rw [hg]; exact (below_size z0_) : w.heap.size ≤ gb486)); replace HB := Aside0.mk (below_step z0_ hb); clear hb hbox hg) | ((with_reducible refine gate_dst (N := 3) rfl ?_); refine box_event ?hg (N := 3) ?hd (cs := #[.int .i64 a1_0, .slice A1_1 l1_1.length c1_1, .int .i64 a1_2, .int .i64 a1_3, .int .i64 a1_4]) (t := 78) ?hr ?_; (case hd => rfl); (case hg => rfl); (case hr => exact z9_); intro gb487 hg w30 hbox hb; have BK487 := Aside0.mk (hbox); have GW487 := Aside0.mk ((by rw [hg]; exact (below_size z20_) : w.heap.size ≤ gb487)); have GE487 := Aside0.mk ((by rw [hg]; exact (below_size z20_) : w.heap.size ≤ gb487)); replace HB := Aside0.mk (below_step z20_ hb); have NB486_487 := Aside0.mk ((by rw [hg]; exact Nat.ne_of_lt (blk_lt (g := gb486) (o := .cells #[.int .i64 a0_0, .slice A0_1 l0_1.length c0_1, .int .i64 a0_2, .int .i64 a0_3, .int .i64 a0_4] 78 (0, 0)) z27_) : gb486 ≠ gb487)); have NB487_486 := Aside0.mk ((by rw [hg]; exact Nat.ne_of_gt (blk_lt (g := gb486) (o := .cells #[.int .i64 a0_0, .slice A0_1 l0_1.length c0_1, .int .i64 a0_2, .int .i64 a0_3, .int .i64 a0_4] 78 (0, 0)) z27_) : gb487 ≠ gb486)); replace BK486 := Aside0.mk (blk_below (g := gb486) (o := .cells #[.int .i64 a0_0, .slice A0_1 l0_1.length c0_1, .int .i64 a0_2, .int .i64 a0_3, .int .i64 a0_4] 78 (0, 0)) z27_ hb); clear hb hbox hg; have hnb31 := NB486_487.out; have hnc31 := NB487_486.out; obtain ⟨hcz32_0, hcz32_1, hcz32_2, hcz32_3, hcz32_4, hfz32_0, hfz32_1, hfz32_2, hfz32_3, hfz32_4⟩ := bx5_ BK486.out; obtain ⟨hcz33_0, hcz33_1, hcz33_2, hcz33_3, hcz33_4, hfz33_0, hfz33_1, hfz33_2, hfz33_3, hfz33_4⟩ := bx5_ BK487.out) | ((with_reducible refine gate_callee (f := 102) rfl ?_); refine goesL_ (some 14) rfl rfl Try.func102 (by kernel_rfl) rfl #[.slice A0_1 l0_1.length c0_1, .slice A1_1 l1_1.length c1_1] rfl z1_ ?_; (with_reducible refine (laws_eqIntS.calls k _ _ l0_1 _ _ l1_1 false _ ?side1 ?side2 ?side3 ?side4 A4.out).mono ?_); (case side1 => exact z8_); (case side2 => exact HC0_1.out); (case side3 => exact z14_); (case side4 => exact HC1_1.out); rintro e w' ⟨rfl, ⟨nd, rfl⟩⟩; refine ⟨_, rfl, ?_⟩))
   go_ret
   exact ⟨z3_, z48_⟩
 ·rw [if_neg c3] at H
  have c3b0 : (a0_0 == a1_0) = false := beq_eq_false_iff_ne.mpr c3
  have c3b1 : (a0_0 != a1_0) = true := bne_iff_ne.mpr c3
  obtain rfl := Option.some.inj H
  go_enter Try.func54, Try.ntmps54
  go_wp2_with (first | ((with_reducible refine gate_dst (N := 2) rfl ?_); refine box_event ?hg (N := 2) ?hd (cs := #[.int .i64 a0_0, .slice A0_1 l0_1.length c0_1, .int .i64 a0_2, .int .i64 a0_3, .int .i64 a0_4]) (t := 78) ?hr ?_; (case hd => rfl); (case hg => rfl); (case hr => exact z9_); intro gb486 hg w34 hbox hb; have BK486 := Aside0.mk (hbox); have GW486 := Aside0.mk ((by rw [hg]; exact (below_size z0_) : w.heap.size ≤ gb486)); have GE486 := Aside0.mk ((by rw [hg]; exact (below_size z0_) : w.heap.size ≤ gb486)); replace HB := Aside0.mk (below_step z0_ hb); clear hb hbox hg) | ((with_reducible refine gate_dst (N := 3) rfl ?_); refine box_event ?hg (N := 3) ?hd (cs := #[.int .i64 a1_0, .slice A1_1 l1_1.length c1_1, .int .i64 a1_2, .int .i64 a1_3, .int .i64 a1_4]) (t := 78) ?hr ?_; (case hd => rfl); (case hg => rfl); (case hr => exact z9_); intro gb487 hg w35 hbox hb; have BK487 := Aside0.mk (hbox); have GW487 := Aside0.mk ((by rw [hg]; exact (below_size z20_) : w.heap.size ≤ gb487)); have GE487 := Aside0.mk ((by rw [hg]; exact (below_size z20_) : w.heap.size ≤ gb487)); replace HB := Aside0.mk (below_step z20_ hb); have NB486_487 := Aside0.mk ((by rw [hg]; exact Nat.ne_of_lt (blk_lt (g := gb486) (o := .cells #[.int .i64 a0_0, .slice A0_1 l0_1.length c0_1, .int .i64 a0_2, .int .i64 a0_3, .int .i64 a0_4] 78 (0, 0)) z27_) : gb486 ≠ gb487)); have NB487_486 := Aside0.mk ((by rw [hg]; exact Nat.ne_of_gt (blk_lt (g := gb486) (o := .cells #[.int .i64 a0_0, .slice A0_1 l0_1.length c0_1, .int .i64 a0_2, .int .i64 a0_3, .int .i64 a0_4] 78 (0, 0)) z27_) : gb487 ≠ gb486)); replace BK486 := Aside0.mk (blk_below (g := gb486) (o := .cells #[.int .i64 a0_0, .slice A0_1 l0_1.length c0_1, .int .i64 a0_2, .int .i64 a0_3, .int .i64 a0_4] 78 (0, 0)) z27_ hb); clear hb hbox hg; have hnb36 := NB486_487.out; have hnc36 := NB487_486.out; obtain ⟨hcz37_0, hcz37_1, hcz37_2, hcz37_3, hcz37_4, hfz37_0, hfz37_1, hfz37_2, hfz37_3, hfz37_4⟩ := bx5_ BK486.out; obtain ⟨hcz38_0, hcz38_1, hcz38_2, hcz38_3, hcz38_4, hfz38_0, hfz38_1, hfz38_2, hfz38_3, hfz38_4⟩ := bx5_ BK487.out))
  go_ret
  exact ⟨z3_, z48_⟩

/-! ### laws_eqOpS: function 15 -/
def laws_eqOpS.l0 : Nat → List (S78) → List (S78) → Int → Option (Bool)
 | 0, _, _, _ => none
 | k + 1, x0, x1, x5 => if x5 < (x0.length : Int) then (if 0 ≤ x5 then (if x5 < (x1.length : Int) then ((laws_eqOp.f k ((rd_T78 x0 x5).f0) ((rd_T78 x0 x5).f1) ((rd_T78 x0 x5).f2) ((rd_T78 x0 x5).f3) ((rd_T78 x0 x5).f4) ((rd_T78 x1 x5).f0) ((rd_T78 x1 x5).f1) ((rd_T78 x1 x5).f2) ((rd_T78 x1 x5).f3) ((rd_T78 x1 x5).f4)).bind fun t491 => (if t491 = true then (laws_eqOpS.l0 k x0 x1 (wrap64 (x5 + 1))) else (some false))) else (none)) else (none)) else (some true)
def laws_eqOpS.f (k : Nat) (l0 : List (S78)) (l1 : List (S78)) : Option (Bool) := if (l0.length : Int) = (l1.length : Int) then (laws_eqOpS.l0 k l0 l1 0) else (some false)
def laws_eqOpS.T6 : Bool × List (List Nat × List Nat) := (true, [([], []), ([], []), ([0, 1], [0, 1]), ([2], [2]), ([], []), ([], []), ([4, 5], [4, 5]), ([6], [6]), ([3, 7], [3, 7]), ([8], [8])])
def laws_eqOpS.B6 : List Nat := [0, 0, 3, 7, 0, 0, 48, 112, 255, 511]
theorem laws_eqOpS.tab6 : rtab .any (opsOf Try.f15 6) = laws_eqOpS.T6 := by kernel_rfl
theorem laws_eqOpS.bits6 : waitsOk laws_eqOpS.T6.2 laws_eqOpS.B6 = true := by kernel_rfl
set_option maxHeartbeats 8000000 in
set_option maxRecDepth 100000 in
theorem laws_eqOpS.calls (k : Nat) (A0 : Option Addr) (c0 : Nat) (l0 : List (S78)) (A1 : Option Addr) (c1 : Nat) (l1 : List (S78)) (r : Bool) (w : World) (hr0 : Kd.C k78 w A0 l0.length l0) (hc0 : l0.length ≤ c0) (hr1 : Kd.C k78 w A1 l1.length l1) (hc1 : l1.length ≤ c1) (h : laws_eqOpS.f k l0 l1 = some r) :
  Calls Try.prog 15 #[.slice A0 l0.length c0, .slice A1 l1.length c1] w fun e w' => e = .returned (.bool r) ∧ Below w.heap.size w w' := by
 have hu78 := Try.underlying78
 have HR0 := Aside0.mk hr0
 have HC0 := Aside0.mk hc0
 clear hr0 hc0
 have HR1 := Aside0.mk hr1
 have HC1 := Aside0.mk hc1
 clear hr1 hc1
 have HB := Aside0.mk (Below.refl w.heap.size w)
 have H : (if (l0.length : Int) = (l1.length : Int) then (laws_eqOpS.l0 k l0 l1 0) else (some false)) = some r := h
 clear h
 by_cases c3 : (l0.length : Int) = (l1.length : Int)
 ·rw [if_pos c3] at H
  have c3b0 : ((l0.length : Int) == (l1.length : Int)) = true := beq_iff_eq.mpr c3
  have c3b1 : ((l0.length : Int) != (l1.length : Int)) = false := bne_eq_false_iff_eq.mpr c3
  have c3b2 : (l0.length == l1.length) = true := by first | simpa using c3 | (simp at c3 ⊢; omega)
  clear c3
  have H' := Aside0.mk H
  clear H
  go_enter Try.func15, Try.ntmps15
  go_wp2
  go_loopg [5] k (fun kq v5 w' => ∃ (x5_1 : Int), v5 = .int .i64 x5_1 ∧ Aside0 (laws_eqOpS.l0 kq l0 l1 x5_1 = some r) ∧ Aside0 (kq ≤ k) ∧ Aside0 (Below w.heap.size w w'))
  case atStart => exact ⟨(0), z5_, H', ⟨Nat.le_refl _⟩, ⟨z0_⟩⟩
  case round =>
   clear H'
   try clear c1
   try clear p2
   try clear c3
   try clear c3b0
   try clear c3b1
   try clear c3b2
   obtain ⟨x5_1, rfl, HA, HK1, HB⟩ := hrel
   cases gk with
   | zero => exact absurd HA.out (by simp [laws_eqOpS.l0])
   | succ k1 =>
    have H := HA.out
    clear HA
    simp only [laws_eqOpS.l0] at H
    by_cases c4 : x5_1 < (l0.length : Int)
    ·rw [if_pos c4] at H
     have c4b0 := decide_eq_true c4
     clear c4
     obtain ⟨c5b0, H⟩ := ifd_ H
     obtain ⟨c6b0, H⟩ := ifd_ H
     obtain ⟨t491, A7, H⟩ := bnd_ H
     by_cases c8 : t491 = true
     ·subst c8
      replace H := ift_ H
      have H' := Aside0.mk H
      clear H
      try go_wp2
      have n0_ := Aside0.mk (below_drew1 HB.out)
      clear HB
      have HB := n0_
      clear n0_
      have p489 : 0 ≤ (x5_1 : Int) := odt_
      have q489 : x5_1 < (l0.length : Int) := odt_
      obtain ⟨ad489, A489_1, c489_1, e489, hx489_0, hx489_1, hx489_2, hx489_3, hx489_4, hl489_1, hi489_1⟩ := at_T78 HR0.out x5_1 p489 q489
      have hw489_4 := hx489_4
      have hw489_3 := hx489_3
      have hw489_2 := hx489_2
      have hw489_1 := hx489_1
      have hw489_0 := hx489_0
      cases e489
      replace hx489_0 := (HB.out.cell (World.block_lt_of_cell? w _ hx489_0)).trans hx489_0
      replace hx489_1 := (HB.out.cell (World.block_lt_of_cell? w _ hx489_1)).trans hx489_1
      replace hx489_2 := (HB.out.cell (World.block_lt_of_cell? w _ hx489_2)).trans hx489_2
      replace hx489_3 := (HB.out.cell (World.block_lt_of_cell? w _ hx489_3)).trans hx489_3
      replace hx489_4 := (HB.out.cell (World.block_lt_of_cell? w _ hx489_4)).trans hx489_4
      have HR489_1 := Aside0.mk hi489_1
      have HC489_1 := Aside0.mk hl489_1
      clear hi489_1 hl489_1
      replace p489 := eq_true p489
      replace q489 := eq_true q489
      have p490 : 0 ≤ (x5_1 : Int) := odt_
      have q490 : x5_1 < (l1.length : Int) := odt_
      obtain ⟨ad490, A490_1, c490_1, e490, hx490_0, hx490_1, hx490_2, hx490_3, hx490_4, hl490_1, hi490_1⟩ := at_T78 HR1.out x5_1 p490 q490
      have hw490_4 := hx490_4
      have hw490_3 := hx490_3
      have hw490_2 := hx490_2
      have hw490_1 := hx490_1
      have hw490_0 := hx490_0
      cases e490
      replace hx490_0 := (HB.out.cell (World.block_lt_of_cell? w _ hx490_0)).trans hx490_0
      replace hx490_1 := (HB.out.cell (World.block_lt_of_cell? w _ hx490_1)).trans hx490_1
      replace hx490_2 := (HB.out.cell (World.block_lt_of_cell? w _ hx490_2)).trans hx490_2
      replace hx490_3 := (HB.out.cell (World.block_lt_of_cell? w _ hx490_3)).trans hx490_3
      replace hx490_4 := (HB.out.cell (World.block_lt_of_cell? w _ hx490_4)).trans hx490_4
      have HR490_1 := Aside0.mk hi490_1
      have HC490_1 := Aside0.mk hl490_1
      clear hi490_1 hl490_1
      replace p490 := eq_true p490
      replace q490 := eq_true q490
      refine start_ (n := 10) (S := fun w' => w'.cell? (ad489.add ((x5_1).toNat * 5)) = some (.int .i64 ((rd_T78 l0 x5_1).f0)) ∧ w'.cell? ⟨(ad489.add ((x5_1).toNat * 5)).block, (ad489.add ((x5_1).toNat * 5)).off + 1, none⟩ = some (.slice A489_1 ((rd_T78 l0 x5_1).f1).length c489_1) ∧ w'.cell? ⟨(ad489.add ((x5_1).toNat * 5)).block, (ad489.add ((x5_1).toNat * 5)).off + 2, none⟩ = some (.int .i64 ((rd_T78 l0 x5_1).f2)) ∧ w'.cell? ⟨(ad489.add ((x5_1).toNat * 5)).block, (ad489.add ((x5_1).toNat * 5)).off + 3, none⟩ = some (.int .i64 ((rd_T78 l0 x5_1).f3)) ∧ w'.cell? ⟨(ad489.add ((x5_1).toNat * 5)).block, (ad489.add ((x5_1).toNat * 5)).off + 4, none⟩ = some (.int .i64 ((rd_T78 l0 x5_1).f4)) ∧ w'.cell? (ad490.add ((x5_1).toNat * 5)) = some (.int .i64 ((rd_T78 l1 x5_1).f0)) ∧ w'.cell? ⟨(ad490.add ((x5_1).toNat * 5)).block, (ad490.add ((x5_1).toNat * 5)).off + 1, none⟩ = some (.slice A490_1 ((rd_T78 l1 x5_1).f1).length c490_1) ∧ w'.cell? ⟨(ad490.add ((x5_1).toNat * 5)).block, (ad490.add ((x5_1).toNat * 5)).off + 2, none⟩ = some (.int .i64 ((rd_T78 l1 x5_1).f2)) ∧ w'.cell? ⟨(ad490.add ((x5_1).toNat * 5)).block, (ad490.add ((x5_1).toNat * 5)).off + 3, none⟩ = some (.int .i64 ((rd_T78 l1 x5_1).f3)) ∧ w'.cell? ⟨(ad490.add ((x5_1).toNat * 5)).block, (ad490.add ((x5_1).toNat * 5)).off + 4, none⟩ = some (.int .i64 ((rd_T78 l1 x5_1).f4))) (ds := []) (fl_ 10 0) (by kernel_rfl) rfl (fl_zero _) ⟨((HB.out.cell (World.block_lt_of_cell? w _ hw489_0)).trans hw489_0), ((HB.out.cell (World.block_lt_of_cell? w _ hw489_1)).trans hw489_1), ((HB.out.cell (World.block_lt_of_cell? w _ hw489_2)).trans hw489_2), ((HB.out.cell (World.block_lt_of_cell? w _ hw489_3)).trans hw489_3), ((HB.out.cell (World.block_lt_of_cell? w _ hw489_4)).trans hw489_4), ((HB.out.cell (World.block_lt_of_cell? w _ hw490_0)).trans hw490_0), ((HB.out.cell (World.block_lt_of_cell? w _ hw490_1)).trans hw490_1), ((HB.out.cell (World.block_lt_of_cell? w _ hw490_2)).trans hw490_2), ((HB.out.cell (World.block_lt_of_cell? w _ hw490_3)).trans hw490_3), ((HB.out.cell (World.block_lt_of_cell? w _ hw490_4)).trans hw490_4)⟩ (fun hHeld => ?_); refine with_tabW laws_eqOpS.tab6 laws_eqOpS.bits6 (fun HT_ HW_ => ?_)
      generalize wr.drew = w9 at HB HR489_1 HR490_1 hx489_0 hx489_1 hx489_2 hx489_3 hx489_4 hx490_0 hx490_1 hx490_2 hx490_3 hx490_4 hHeld ⊢
      iterate 3 refine zp_ HT_ rfl rfl (by kernel_rfl) (fun _ _ _ h => h) (by rfl) ?_
      refine zpg_ (i := 4) (ra_ [3, 1, 1, 5]) HT_ rfl rfl (by kernel_rfl) (fun _ _ _ h => h) (by rfl) ?_
      refine zpg_ (i := 5) (ra_ [3, 1, 2, 4]) HT_ rfl rfl (by kernel_rfl) (fun _ _ _ h => h) (by rfl) ?_
      refine zpg_ (i := 6) (ra_ [3, 1, 3, 3]) HT_ rfl rfl (by kernel_rfl) (fun _ _ _ h => h) (by rfl) ?_
      refine ztg_ (i := 3) (fl_ 10 7) HT_ HW_ rfl rfl (by kernel_rfl) (fun _ _ _ h => h) (by rfl) hHeld ?_ z129_
      refine zt_ HT_ HW_ rfl rfl (by kernel_rfl) (fun _ _ _ h => h) (by rfl) hHeld ?_ z129_
      refine one_ (i := 8) (N := some 25) (fl_ 10 9) rfl rfl (one_of HT_.out (by kernel_rfl)) (by decide) (fun K hK => ?_)
      refine goes_ Try.func54 (by kernel_rfl) rfl #[.agg #[.int .i64 ((rd_T78 l0 x5_1).f0), .slice A489_1 ((rd_T78 l0 x5_1).f1).length c489_1, .int .i64 ((rd_T78 l0 x5_1).f2), .int .i64 ((rd_T78 l0 x5_1).f3), .int .i64 ((rd_T78 l0 x5_1).f4)], .agg #[.int .i64 ((rd_T78 l1 x5_1).f0), .slice A490_1 ((rd_T78 l1 x5_1).f1).length c490_1, .int .i64 ((rd_T78 l1 x5_1).f2), .int .i64 ((rd_T78 l1 x5_1).f3), .int .i64 ((rd_T78 l1 x5_1).f4)]] (by rfl) rfl rfl z1_ ?_
      with_reducible refine (laws_eqOp.calls k1 ((rd_T78 l0 x5_1).f0) _ _ ((rd_T78 l0 x5_1).f1) ((rd_T78 l0 x5_1).f2) ((rd_T78 l0 x5_1).f3) ((rd_T78 l0 x5_1).f4) ((rd_T78 l1 x5_1).f0) _ _ ((rd_T78 l1 x5_1).f1) ((rd_T78 l1 x5_1).f2) ((rd_T78 l1 x5_1).f3) ((rd_T78 l1 x5_1).f4) true _ ?side1 ?side2 ?side3 ?side4 A7.out).mono ?_
      (case side1 => exact z118_)
      (case side2 => exact HC489_1.out)
      (case side3 => exact z119_)
      (case side4 => exact HC490_1.out)
      rintro e w10 ⟨rfl, hb⟩
      refine ⟨_, rfl, ?_⟩
      have n0_ := Aside0.mk (below_step z0_ hb)
      clear HB
      have HB := n0_
      clear n0_
      (try clear hb)
      (try clear hb2)
      (try clear hk)
      (try clear hi)
      refine hK.out _ _ ⟨((HB.out.cell (World.block_lt_of_cell? w _ hw489_0)).trans hw489_0), ((HB.out.cell (World.block_lt_of_cell? w _ hw489_1)).trans hw489_1), ((HB.out.cell (World.block_lt_of_cell? w _ hw489_2)).trans hw489_2), ((HB.out.cell (World.block_lt_of_cell? w _ hw489_3)).trans hw489_3), ((HB.out.cell (World.block_lt_of_cell? w _ hw489_4)).trans hw489_4), ((HB.out.cell (World.block_lt_of_cell? w _ hw490_0)).trans hw490_0), ((HB.out.cell (World.block_lt_of_cell? w _ hw490_1)).trans hw490_1), ((HB.out.cell (World.block_lt_of_cell? w _ hw490_2)).trans hw490_2), ((HB.out.cell (World.block_lt_of_cell? w _ hw490_3)).trans hw490_3), ((HB.out.cell (World.block_lt_of_cell? w _ hw490_4)).trans hw490_4)⟩ (fun hHeld => ?_)
      clear hK K
      refine zn_ rfl ?_
      refine zp_ HT_ rfl rfl (by kernel_rfl) (fun _ _ _ h => h) (by rfl) ?_
      refine done_ (done_of HT_.out (by kernel_rfl)) ?_
      try go_wp2
      go_roundg k1
      case measure => have := HK1.out; omega
      case rel => exact ⟨(wrap64 (x5_1 + 1)), z5_, H', ⟨z66_⟩, ⟨z0_⟩⟩
     ·replace c8 := Bool.eq_false_iff.mpr c8
      subst c8
      replace H := iff_ H
      obtain rfl := Option.some.inj H
      try go_wp2
      have n0_ := Aside0.mk (below_drew1 HB.out)
      clear HB
      have HB := n0_
      clear n0_
      have p489 : 0 ≤ (x5_1 : Int) := odt_
      have q489 : x5_1 < (l0.length : Int) := odt_
      obtain ⟨ad489, A489_1, c489_1, e489, hx489_0, hx489_1, hx489_2, hx489_3, hx489_4, hl489_1, hi489_1⟩ := at_T78 HR0.out x5_1 p489 q489
      have hw489_4 := hx489_4
      have hw489_3 := hx489_3
      have hw489_2 := hx489_2
      have hw489_1 := hx489_1
      have hw489_0 := hx489_0
      cases e489
      replace hx489_0 := (HB.out.cell (World.block_lt_of_cell? w _ hx489_0)).trans hx489_0
      replace hx489_1 := (HB.out.cell (World.block_lt_of_cell? w _ hx489_1)).trans hx489_1
      replace hx489_2 := (HB.out.cell (World.block_lt_of_cell? w _ hx489_2)).trans hx489_2
      replace hx489_3 := (HB.out.cell (World.block_lt_of_cell? w _ hx489_3)).trans hx489_3
      replace hx489_4 := (HB.out.cell (World.block_lt_of_cell? w _ hx489_4)).trans hx489_4
      have HR489_1 := Aside0.mk hi489_1
      have HC489_1 := Aside0.mk hl489_1
      clear hi489_1 hl489_1
      replace p489 := eq_true p489
      replace q489 := eq_true q489
      have p490 : 0 ≤ (x5_1 : Int) := odt_
      have q490 : x5_1 < (l1.length : Int) := odt_
      obtain ⟨ad490, A490_1, c490_1, e490, hx490_0, hx490_1, hx490_2, hx490_3, hx490_4, hl490_1, hi490_1⟩ := at_T78 HR1.out x5_1 p490 q490
      have hw490_4 := hx490_4
      have hw490_3 := hx490_3
      have hw490_2 := hx490_2
      have hw490_1 := hx490_1
      have hw490_0 := hx490_0
      cases e490
      replace hx490_0 := (HB.out.cell (World.block_lt_of_cell? w _ hx490_0)).trans hx490_0
      replace hx490_1 := (HB.out.cell (World.block_lt_of_cell? w _ hx490_1)).trans hx490_1
      replace hx490_2 := (HB.out.cell (World.block_lt_of_cell? w _ hx490_2)).trans hx490_2
      replace hx490_3 := (HB.out.cell (World.block_lt_of_cell? w _ hx490_3)).trans hx490_3
      replace hx490_4 := (HB.out.cell (World.block_lt_of_cell? w _ hx490_4)).trans hx490_4
      have HR490_1 := Aside0.mk hi490_1
      have HC490_1 := Aside0.mk hl490_1
      clear hi490_1 hl490_1
      replace p490 := eq_true p490
      replace q490 := eq_true q490
      refine start_ (n := 10) (S := fun w' => w'.cell? (ad489.add ((x5_1).toNat * 5)) = some (.int .i64 ((rd_T78 l0 x5_1).f0)) ∧ w'.cell? ⟨(ad489.add ((x5_1).toNat * 5)).block, (ad489.add ((x5_1).toNat * 5)).off + 1, none⟩ = some (.slice A489_1 ((rd_T78 l0 x5_1).f1).length c489_1) ∧ w'.cell? ⟨(ad489.add ((x5_1).toNat * 5)).block, (ad489.add ((x5_1).toNat * 5)).off + 2, none⟩ = some (.int .i64 ((rd_T78 l0 x5_1).f2)) ∧ w'.cell? ⟨(ad489.add ((x5_1).toNat * 5)).block, (ad489.add ((x5_1).toNat * 5)).off + 3, none⟩ = some (.int .i64 ((rd_T78 l0 x5_1).f3)) ∧ w'.cell? ⟨(ad489.add ((x5_1).toNat * 5)).block, (ad489.add ((x5_1).toNat * 5)).off + 4, none⟩ = some (.int .i64 ((rd_T78 l0 x5_1).f4)) ∧ w'.cell? (ad490.add ((x5_1).toNat * 5)) = some (.int .i64 ((rd_T78 l1 x5_1).f0)) ∧ w'.cell? ⟨(ad490.add ((x5_1).toNat * 5)).block, (ad490.add ((x5_1).toNat * 5)).off + 1, none⟩ = some (.slice A490_1 ((rd_T78 l1 x5_1).f1).length c490_1) ∧ w'.cell? ⟨(ad490.add ((x5_1).toNat * 5)).block, (ad490.add ((x5_1).toNat * 5)).off + 2, none⟩ = some (.int .i64 ((rd_T78 l1 x5_1).f2)) ∧ w'.cell? ⟨(ad490.add ((x5_1).toNat * 5)).block, (ad490.add ((x5_1).toNat * 5)).off + 3, none⟩ = some (.int .i64 ((rd_T78 l1 x5_1).f3)) ∧ w'.cell? ⟨(ad490.add ((x5_1).toNat * 5)).block, (ad490.add ((x5_1).toNat * 5)).off + 4, none⟩ = some (.int .i64 ((rd_T78 l1 x5_1).f4))) (ds := []) (fl_ 10 0) (by kernel_rfl) rfl (fl_zero _) ⟨((HB.out.cell (World.block_lt_of_cell? w _ hw489_0)).trans hw489_0), ((HB.out.cell (World.block_lt_of_cell? w _ hw489_1)).trans hw489_1), ((HB.out.cell (World.block_lt_of_cell? w _ hw489_2)).trans hw489_2), ((HB.out.cell (World.block_lt_of_cell? w _ hw489_3)).trans hw489_3), ((HB.out.cell (World.block_lt_of_cell? w _ hw489_4)).trans hw489_4), ((HB.out.cell (World.block_lt_of_cell? w _ hw490_0)).trans hw490_0), ((HB.out.cell (World.block_lt_of_cell? w _ hw490_1)).trans hw490_1), ((HB.out.cell (World.block_lt_of_cell? w _ hw490_2)).trans hw490_2), ((HB.out.cell (World.block_lt_of_cell? w _ hw490_3)).trans hw490_3), ((HB.out.cell (World.block_lt_of_cell? w _ hw490_4)).trans hw490_4)⟩ (fun hHeld => ?_); refine with_tabW laws_eqOpS.tab6 laws_eqOpS.bits6 (fun HT_ HW_ => ?_)
      generalize wr.drew = w11 at HB HR489_1 HR490_1 hx489_0 hx489_1 hx489_2 hx489_3 hx489_4 hx490_0 hx490_1 hx490_2 hx490_3 hx490_4 hHeld ⊢
      iterate 3 refine zp_ HT_ rfl rfl (by kernel_rfl) (fun _ _ _ h => h) (by rfl) ?_
      refine zpg_ (i := 4) (ra_ [3, 1, 1, 5]) HT_ rfl rfl (by kernel_rfl) (fun _ _ _ h => h) (by rfl) ?_
      refine zpg_ (i := 5) (ra_ [3, 1, 2, 4]) HT_ rfl rfl (by kernel_rfl) (fun _ _ _ h => h) (by rfl) ?_
      refine zpg_ (i := 6) (ra_ [3, 1, 3, 3]) HT_ rfl rfl (by kernel_rfl) (fun _ _ _ h => h) (by rfl) ?_
      refine ztg_ (i := 3) (fl_ 10 7) HT_ HW_ rfl rfl (by kernel_rfl) (fun _ _ _ h => h) (by rfl) hHeld ?_ z129_
      refine zt_ HT_ HW_ rfl rfl (by kernel_rfl) (fun _ _ _ h => h) (by rfl) hHeld ?_ z129_
      refine one_ (i := 8) (N := some 25) (fl_ 10 9) rfl rfl (one_of HT_.out (by kernel_rfl)) (by decide) (fun K hK => ?_)
      refine goes_ Try.func54 (by kernel_rfl) rfl #[.agg #[.int .i64 ((rd_T78 l0 x5_1).f0), .slice A489_1 ((rd_T78 l0 x5_1).f1).length c489_1, .int .i64 ((rd_T78 l0 x5_1).f2), .int .i64 ((rd_T78 l0 x5_1).f3), .int .i64 ((rd_T78 l0 x5_1).f4)], .agg #[.int .i64 ((rd_T78 l1 x5_1).f0), .slice A490_1 ((rd_T78 l1 x5_1).f1).length c490_1, .int .i64 ((rd_T78 l1 x5_1).f2), .int .i64 ((rd_T78 l1 x5_1).f3), .int .i64 ((rd_T78 l1 x5_1).f4)]] (by rfl) rfl rfl z1_ ?_
      with_reducible refine (laws_eqOp.calls k1 ((rd_T78 l0 x5_1).f0) _ _ ((rd_T78 l0 x5_1).f1) ((rd_T78 l0 x5_1).f2) ((rd_T78 l0 x5_1).f3) ((rd_T78 l0 x5_1).f4) ((rd_T78 l1 x5_1).f0) _ _ ((rd_T78 l1 x5_1).f1) ((rd_T78 l1 x5_1).f2) ((rd_T78 l1 x5_1).f3) ((rd_T78 l1 x5_1).f4) false _ ?side1 ?side2 ?side3 ?side4 A7.out).mono ?_
      (case side1 => exact z118_)
      (case side2 => exact HC489_1.out)
      (case side3 => exact z119_)
      (case side4 => exact HC490_1.out)
      rintro e w12 ⟨rfl, hb⟩
      refine ⟨_, rfl, ?_⟩
      have n0_ := Aside0.mk (below_step z0_ hb)
      clear HB
      have HB := n0_
      clear n0_
      (try clear hb)
      (try clear hb2)
      (try clear hk)
      (try clear hi)
      refine hK.out _ _ ⟨((HB.out.cell (World.block_lt_of_cell? w _ hw489_0)).trans hw489_0), ((HB.out.cell (World.block_lt_of_cell? w _ hw489_1)).trans hw489_1), ((HB.out.cell (World.block_lt_of_cell? w _ hw489_2)).trans hw489_2), ((HB.out.cell (World.block_lt_of_cell? w _ hw489_3)).trans hw489_3), ((HB.out.cell (World.block_lt_of_cell? w _ hw489_4)).trans hw489_4), ((HB.out.cell (World.block_lt_of_cell? w _ hw490_0)).trans hw490_0), ((HB.out.cell (World.block_lt_of_cell? w _ hw490_1)).trans hw490_1), ((HB.out.cell (World.block_lt_of_cell? w _ hw490_2)).trans hw490_2), ((HB.out.cell (World.block_lt_of_cell? w _ hw490_3)).trans hw490_3), ((HB.out.cell (World.block_lt_of_cell? w _ hw490_4)).trans hw490_4)⟩ (fun hHeld => ?_)
      clear hK K
      refine zn_ rfl ?_
      refine zp_ HT_ rfl rfl (by kernel_rfl) (fun _ _ _ h => h) (by rfl) ?_
      refine done_ (done_of HT_.out (by kernel_rfl)) ?_
      try go_wp2
      go_ret
      exact ⟨z3_, z0_⟩
    ·rw [if_neg c4] at H
     have c4b0 := decide_eq_false c4
     clear c4
     obtain rfl := Option.some.inj H
     go_wp2
     go_ret
     exact ⟨z3_, z0_⟩
 ·rw [if_neg c3] at H
  have c3b0 : ((l0.length : Int) == (l1.length : Int)) = false := beq_eq_false_iff_ne.mpr c3
  have c3b1 : ((l0.length : Int) != (l1.length : Int)) = true := bne_iff_ne.mpr c3
  have c3b2 : (l0.length == l1.length) = false := by first | simpa using c3 | (simp at c3 ⊢; omega)
  obtain rfl := Option.some.inj H
  go_enter Try.func15, Try.ntmps15
  go_wp2
  go_ret
  exact ⟨z3_, z0_⟩

end Go.Proofs.Ytdapeboajjidmaa.PFnExactHistAt
