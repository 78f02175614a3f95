/- Laid by a program of this session out of the kit's print for the law FnMirrored: what it says of the machine is proved here, function by function; each contract under the conditions that it names. -/
import Derived.Test.YtbmkobanpakohaaMFnMirroredx0
import Derived.Test.YtbmkobanpakohaaMFnMirroredx2
import Derived.Test.YtbmkobanpakohaaShelf
import Derived.Sort.LotA
import Derived.Lib.SortBridge
import Derived.Shelf.SlSortCmp.Whole1
namespace Go.Proofs.Ytbmkobanpakohaa.PFnMirrored
open Go.RowKit Go.Proofs.YtbmkobanpakohaaW.PrintWords Go.Proofs.YtbmkobanpakohaaW.PrintLast Go.Proofs.YtbmkobanpakohaaW.PrintMore
attribute [local go_sem] max2_int min2_int max_two min_two max_three min_three max_four min_four   -- for this text's walks alone
set_option linter.unusedVariables false
set_option linter.unusedSimpArgs false

/-! ### impl_CostOk: function 69 -/
mutual
def impl_CostOk.j0 : Nat → Bool → List Int → List Int → List Int → Option (Bool)
 | 0, _, _, _, _ => none
 | k + 1, x19, x118000, x118001, x118002 => if x19 = true then (some false) else (impl_CostOk.l0 k 0 x118000 x118001 x118002)
def impl_CostOk.l0 : Nat → Int → List Int → List Int → List Int → Option (Bool)
 | 0, _, _, _, _ => none
 | k + 1, x20, x118000, x118001, x118002 => if x20 < 6 then (if 0 ≤ (wrap64 ((wrap64 (x20 * 6)) + x20)) then (if (wrap64 ((wrap64 (x20 * 6)) + x20)) < (x118002.length : Int) then (if (rd x118002 (wrap64 ((wrap64 (x20 * 6)) + x20))) = 0 then (impl_CostOk.l0 k (wrap64 (x20 + 1)) x118000 x118001 x118002) else (some false)) else (none)) else (none)) else (some true)
end
def impl_CostOk.f (k : Nat) (l0_0 : List Int) (l0_1 : List Int) (l0_2 : List Int) : Option (Bool) := (impl_pricesOk.f k l0_0 6).bind fun t118 => (if t118 = true then ((impl_pricesOk.f k l0_1 6).bind fun t119 => (if t119 = true then ((impl_pricesOk.f k l0_2 36).bind fun t120 => (impl_CostOk.j0 k (!t120) l0_0 l0_1 l0_2)) else (impl_CostOk.j0 k true l0_0 l0_1 l0_2))) else (impl_CostOk.j0 k true l0_0 l0_1 l0_2))
set_option maxHeartbeats 8000000 in
set_option maxRecDepth 100000 in
theorem impl_CostOk.calls (k : Nat) (A0_0 : Option Addr) (c0_0 : Nat) (l0_0 : List Int) (A0_1 : Option Addr) (c0_1 : Nat) (l0_1 : List Int) (A0_2 : Option Addr) (c0_2 : Nat) (l0_2 : List Int) (r : Bool) (w : World) (hr0_0 : Kd.C (Kd.int .i64) w A0_0 l0_0.length l0_0) (hc0_0 : l0_0.length ≤ c0_0) (hr0_1 : Kd.C (Kd.int .i64) w A0_1 l0_1.length l0_1) (hc0_1 : l0_1.length ≤ c0_1) (hr0_2 : Kd.C (Kd.int .i64) w A0_2 l0_2.length l0_2) (hc0_2 : l0_2.length ≤ c0_2) (h : impl_CostOk.f k l0_0 l0_1 l0_2 = some r) :
  Calls Try.prog 69 #[.agg #[.slice A0_0 l0_0.length c0_0, .slice A0_1 l0_1.length c0_1, .slice A0_2 l0_2.length c0_2]] w fun e w' => e = .returned (.bool r) ∧ Below w.heap.size w w' := by
 have hu38 := Try.underlying38
 have HR0_0 := Aside0.mk hr0_0
 have HC0_0 := Aside0.mk hc0_0
 clear hr0_0 hc0_0
 have HR0_1 := Aside0.mk hr0_1
 have HC0_1 := Aside0.mk hc0_1
 clear hr0_1 hc0_1
 have HR0_2 := Aside0.mk hr0_2
 have HC0_2 := Aside0.mk hc0_2
 clear hr0_2 hc0_2
 have HB := Aside0.mk (Below.refl w.heap.size w)
 have H : ((impl_pricesOk.f k l0_0 6).bind fun t118 => (if t118 = true then ((impl_pricesOk.f k l0_1 6).bind fun t119 => (if t119 = true then ((impl_pricesOk.f k l0_2 36).bind fun t120 => (impl_CostOk.j0 k (!t120) l0_0 l0_1 l0_2)) else (impl_CostOk.j0 k true l0_0 l0_1 l0_2))) else (impl_CostOk.j0 k true l0_0 l0_1 l0_2))) = some r := h
 clear h
 have HC2 := Aside0.mk H
 clear H
 go_enter Try.func69, Try.ntmps69
 go_upto_region 1 with (((with_reducible refine gate_dst (N := 1) rfl ?_); refine box_event ?hg (N := 1) ?hd (cs := #[.slice A0_0 l0_0.length c0_0, .slice A0_1 l0_1.length c0_1, .slice A0_2 l0_2.length c0_2]) (t := 38) ?hr ?_; (case hd => rfl); (case hg => rfl); (case hr => exact z19_); intro gb117 hg w3 hbox hb; have BK117 := Aside0.mk (hbox); have GW117 := Aside0.mk ((by rw [hg]; exact (below_size z0_) : w.heap.size ≤ gb117)); have GE117 := Aside0.mk ((by rw [hg]; exact (below_size z0_) : w.heap.size ≤ gb117)); replace HB := Aside0.mk (below_step z0_ hb); clear hb hbox hg))
 go_cut [19] (fun v19 wc => ∃ (kq : Nat) (x19_1 : Bool), v19 = .bool x19_1 ∧ Aside0 (impl_CostOk.j0 kq x19_1 l0_0 l0_1 l0_2 = some r) ∧ Aside0 (kq ≤ k) ∧ Aside0 (wc.heap[gb117]? = some (.cells #[(.slice A0_0 l0_0.length c0_0), (.slice A0_1 l0_1.length c0_1), (.slice A0_2 l0_2.length c0_2)] 38 (0, 0))) ∧ Aside0 (Below w.heap.size w wc))
 case first =>
  have H := HC2.out
  clear HC2
  obtain ⟨t118, A4, H⟩ := bnd_ H
  by_cases c5 : t118 = true
  ·subst c5
   replace H := ift_ H
   obtain ⟨t119, A6, H⟩ := bnd_ H
   by_cases c7 : t119 = true
   ·subst c7
    replace H := ift_ H
    obtain ⟨t120, A8, H⟩ := bnd_ H
    have H' := Aside0.mk H
    clear H
    obtain ⟨hcz9_0, hcz9_1, hcz9_2, hfz9_0, hfz9_1, hfz9_2⟩ := bx3_ BK117.out
    go_wp2_with (first | ((with_reducible refine gate_callee (f := 87) rfl ?_); refine goesL_ (some 6) rfl rfl Try.func87 (by kernel_rfl) rfl #[.slice A0_0 l0_0.length c0_0, .int .i64 6] rfl z1_ ?_; (with_reducible refine (impl_pricesOk.calls k _ _ l0_0 6 true _ ?side1 ?side2 A4.out).mono ?_); (case side1 => exact z77_); (case side2 => exact HC0_0.out); rintro e w' ⟨rfl, ⟨nd, rfl⟩⟩; refine ⟨_, rfl, ?_⟩) | (go_at_call 87; (with_reducible refine (impl_pricesOk.calls k _ _ l0_1 6 true _ ?side1 ?side2 A6.out).mono ?_); (case side1 => exact z131_); (case side2 => exact HC0_1.out); rintro e w' ⟨rfl, ⟨nd, rfl⟩⟩) | (go_at_call 87; (with_reducible refine (impl_pricesOk.calls k _ _ l0_2 36 t120 _ ?side1 ?side2 A8.out).mono ?_); (case side1 => repeat (exact (Kd.C_below HR0_2.out z53_))); (case side2 => exact HC0_2.out); rintro e w' ⟨rfl, ⟨nd, rfl⟩⟩))
    go_meet
    case rel => exact ⟨_, (!t120), z10_, H', ⟨z152_⟩, ⟨z144_⟩, ⟨z53_⟩⟩
   ·replace c7 := Bool.eq_false_iff.mpr c7
    subst c7
    replace H := iff_ H
    have H' := Aside0.mk H
    clear H
    obtain ⟨hcz10_0, hcz10_1, hcz10_2, hfz10_0, hfz10_1, hfz10_2⟩ := bx3_ BK117.out
    go_wp2_with (first | ((with_reducible refine gate_callee (f := 87) rfl ?_); refine goesL_ (some 6) rfl rfl Try.func87 (by kernel_rfl) rfl #[.slice A0_0 l0_0.length c0_0, .int .i64 6] rfl z1_ ?_; (with_reducible refine (impl_pricesOk.calls k _ _ l0_0 6 true _ ?side1 ?side2 A4.out).mono ?_); (case side1 => exact z77_); (case side2 => exact HC0_0.out); rintro e w' ⟨rfl, ⟨nd, rfl⟩⟩; refine ⟨_, rfl, ?_⟩) | (go_at_call 87; (with_reducible refine (impl_pricesOk.calls k _ _ l0_1 6 false _ ?side1 ?side2 A6.out).mono ?_); (case side1 => exact z131_); (case side2 => exact HC0_1.out); rintro e w' ⟨rfl, ⟨nd, rfl⟩⟩))
    go_meet
    case rel => exact ⟨_, (true), z10_, H', ⟨z152_⟩, ⟨z144_⟩, ⟨z53_⟩⟩
  ·replace c5 := Bool.eq_false_iff.mpr c5
   subst c5
   replace H := iff_ H
   have H' := Aside0.mk H
   clear H
   obtain ⟨hcz11_0, hcz11_1, hcz11_2, hfz11_0, hfz11_1, hfz11_2⟩ := bx3_ BK117.out
   go_wp2_with (((with_reducible refine gate_callee (f := 87) rfl ?_); refine goesL_ (some 6) rfl rfl Try.func87 (by kernel_rfl) rfl #[.slice A0_0 l0_0.length c0_0, .int .i64 6] rfl z1_ ?_; (with_reducible refine (impl_pricesOk.calls k _ _ l0_0 6 false _ ?side1 ?side2 A4.out).mono ?_); (case side1 => exact z77_); (case side2 => exact HC0_0.out); rintro e w' ⟨rfl, ⟨nd, rfl⟩⟩; refine ⟨_, rfl, ?_⟩))
   go_meet
   case rel => exact ⟨_, (true), z10_, H', ⟨z152_⟩, ⟨z144_⟩, ⟨z53_⟩⟩
 case rest =>
  clear HC2
  obtain ⟨kq, x19_1, rfl, HA, HJ1, BK117, HB⟩ := hcut
  cases kq with
  | zero => exact absurd HA.out (by simp [impl_CostOk.j0])
  | succ kj1 =>
   have H := HA.out
   clear HA
   simp only [impl_CostOk.j0] at H
   by_cases c12 : x19_1 = true
   ·subst c12
    replace H := ift_ H
    obtain rfl := Option.some.inj H
    go_wp2
    go_ret
    exact ⟨z6_, z53_⟩
   ·replace c12 := Bool.eq_false_iff.mpr c12
    subst c12
    replace H := iff_ H
    have H' := Aside0.mk H
    clear H
    go_wp2
    go_loopg [20] kj1 (fun kq v20 w' => ∃ (x20_2 : Int), v20 = .int .i64 x20_2 ∧ Aside0 (impl_CostOk.l0 kq x20_2 l0_0 l0_1 l0_2 = some r) ∧ Aside0 (kq ≤ kj1) ∧ Aside0 (w'.heap[gb117]? = some (.cells #[(.slice A0_0 l0_0.length c0_0), (.slice A0_1 l0_1.length c0_1), (.slice A0_2 l0_2.length c0_2)] 38 (0, 0))) ∧ Aside0 (Below w.heap.size w w'))
    case atStart => exact ⟨(0), z10_, H', ⟨Nat.le_refl _⟩, ⟨z144_⟩, ⟨z53_⟩⟩
    case round =>
     clear H'
     obtain ⟨x20_2, rfl, HA, HK2, BK117, HB⟩ := hrel
     cases gk with
     | zero => exact absurd HA.out (by simp [impl_CostOk.l0])
     | succ k2 =>
      have H := HA.out
      clear HA
      simp only [impl_CostOk.l0] at H
      by_cases c13 : x20_2 < 6
      ·rw [if_pos c13] at H
       have c13b0 := decide_eq_true c13
       clear c13
       obtain ⟨ji14, hji14⟩ : ∃ j_ : Int, (wrap64 ((wrap64 (x20_2 * 6)) + x20_2)) = j_ := ⟨_, rfl⟩
       rw [hji14] at H
       have hji14w : (IntKind.i64.wrap ((wrap64 (x20_2 * 6)) + x20_2)) = ji14 := (i64_w _).trans hji14
       obtain ⟨c15b0, H⟩ := ifd_ H
       obtain ⟨c16b0, H⟩ := ifd_ H
       by_cases c17 : (rd l0_2 (ji14)) = 0
       ·rw [if_pos c17] at H
        have c17b0 : ((rd l0_2 (ji14)) == 0) = true := beq_iff_eq.mpr c17
        have c17b1 : ((rd l0_2 (ji14)) != 0) = false := bne_eq_false_iff_eq.mpr c17
        clear c17
        have H' := Aside0.mk H
        clear H
        obtain ⟨hcz18_0, hcz18_1, hcz18_2, hfz18_0, hfz18_1, hfz18_2⟩ := bx3_ BK117.out
        have p121 : 0 ≤ ((ji14) : Int) := odt_
        have q121 : (ji14) < (l0_2.length : Int) := odt_
        obtain ⟨ad121, e121, hx121_0⟩ := Kd.at_int HR0_2.out (ji14) p121 q121
        cases e121
        replace hx121_0 := (HB.out.cell (World.block_lt_of_cell? w _ hx121_0)).trans hx121_0
        replace p121 := eq_true p121
        replace q121 := eq_true q121
        go_wp2
        go_roundg k2
        case measure => have := HJ1.out; have := HK2.out; omega
        case rel => exact ⟨(wrap64 (x20_2 + 1)), z10_, H', ⟨by have := HJ1.out; have := HK2.out; omega⟩, ⟨z144_⟩, ⟨z53_⟩⟩
       ·rw [if_neg c17] at H
        have c17b0 : ((rd l0_2 (ji14)) == 0) = false := beq_eq_false_iff_ne.mpr c17
        have c17b1 : ((rd l0_2 (ji14)) != 0) = true := bne_iff_ne.mpr c17
        obtain rfl := Option.some.inj H
        obtain ⟨hcz19_0, hcz19_1, hcz19_2, hfz19_0, hfz19_1, hfz19_2⟩ := bx3_ BK117.out
        have p121 : 0 ≤ ((ji14) : Int) := odt_
        have q121 : (ji14) < (l0_2.length : Int) := odt_
        obtain ⟨ad121, e121, hx121_0⟩ := Kd.at_int HR0_2.out (ji14) p121 q121
        cases e121
        replace hx121_0 := (HB.out.cell (World.block_lt_of_cell? w _ hx121_0)).trans hx121_0
        replace p121 := eq_true p121
        replace q121 := eq_true q121
        go_wp2
        go_ret
        exact ⟨by rfl, z53_⟩
      ·rw [if_neg c13] at H
       have c13b0 := decide_eq_false c13
       clear c13
       obtain rfl := Option.some.inj H
       go_wp2
       go_ret
       exact ⟨z6_, z53_⟩

/-! ### impl_endOf: function 59 -/
def impl_endOf.l0 : Nat → List (S61) → Int → Int → Option (Int)
 | 0, _, _, _ => none
 | k + 1, x0, x1, x5 => if x5 < (x0.length : Int) then (if 0 ≤ x5 then (if 0 ≤ x1 then (if x1 < (x0.length : Int) then (if ((rd_T61 x0 x5).f1) > ((rd_T61 x0 x1).f1) then (impl_endOf.l0 k x0 x1 (wrap64 (x5 + 1))) else (some x5)) else (none)) else (none)) else (none)) else (some x5)
def impl_endOf.f (k : Nat) (l0 : List (S61)) (a1 : Int) : Option (Int) := impl_endOf.l0 k l0 a1 (wrap64 (a1 + 1))
set_option maxHeartbeats 8000000 in
set_option maxRecDepth 100000 in
theorem impl_endOf.calls (k : Nat) (A0 : Option Addr) (c0 : Nat) (l0 : List (S61)) (a1 : Int) (r : Int) (w : World) (hr0 : Kd.C k61 w A0 l0.length l0) (hc0 : l0.length ≤ c0) (h : impl_endOf.f k l0 a1 = some r) :
  Calls Try.prog 59 #[.slice A0 l0.length c0, .int .i64 a1] w fun e w' => e = .returned (.int .i64 r) ∧ Drawn0 w w' := by
 have HR0 := Aside0.mk hr0
 have HC0 := Aside0.mk hc0
 clear hr0 hc0
 have H : (impl_endOf.l0 k l0 a1 (wrap64 (a1 + 1))) = some r := h
 clear h
 have H' := Aside0.mk H
 clear H
 go_enter Try.func59, Try.ntmps59
 go_wp2
 go_loopg [5] k (fun kq v5 w' => ∃ (x5_1 : Int), v5 = .int .i64 x5_1 ∧ Aside0 (impl_endOf.l0 kq l0 a1 x5_1 = some r) ∧ Aside0 (kq ≤ k) ∧ Drawn0 w w')
 case atStart => exact ⟨(wrap64 (a1 + 1)), z10_, H', ⟨Nat.le_refl _⟩, z51_⟩
 case round =>
  clear H'
  obtain ⟨x5_1, rfl, HA, HK1, ⟨m1, rfl⟩⟩ := hrel
  cases gk with
  | zero => exact absurd HA.out (by simp [impl_endOf.l0])
  | succ k1 =>
   have H := HA.out
   clear HA
   simp only [impl_endOf.l0] at H
   by_cases c3 : x5_1 < (l0.length : Int)
   ·rw [if_pos c3] at H
    have c3b0 := decide_eq_true c3
    clear c3
    obtain ⟨c4b0, H⟩ := ifd_ H
    obtain ⟨c5b0, H⟩ := ifd_ H
    obtain ⟨c6b0, H⟩ := ifd_ H
    by_cases c7 : ((rd_T61 l0 x5_1).f1) > ((rd_T61 l0 a1).f1)
    ·rw [if_pos c7] at H
     have c7b0 := decide_eq_true c7
     clear c7
     have H' := Aside0.mk H
     clear H
     obtain ⟨p122, q122, ad122, e122, hx122_0, hx122_1⟩ := ato61_ HR0 x5_1
     cases e122
     obtain ⟨p123, q123, ad123, e123, hx123_0, hx123_1⟩ := ato61_ HR0 a1
     obtain rfl : ad122 = ad123 := (by injection e123)
     go_wp2
     repeat (go_quiet (fail); try go_wp2)
     go_roundg k1
     case measure => have := HK1.out; omega
     case rel => exact ⟨(wrap64 (x5_1 + 1)), z10_, H', ⟨z143_⟩, z51_⟩
    ·rw [if_neg c7] at H
     have c7b0 := decide_eq_false c7
     clear c7
     obtain rfl := Option.some.inj H
     obtain ⟨p122, q122, ad122, e122, hx122_0, hx122_1⟩ := ato61_ HR0 x5_1
     cases e122
     obtain ⟨p123, q123, ad123, e123, hx123_0, hx123_1⟩ := ato61_ HR0 a1
     obtain rfl : ad122 = ad123 := (by injection e123)
     go_wp2
     repeat (go_quiet (fail); try go_wp2)
     go_ret
     exact ⟨z10_, z51_⟩
   ·rw [if_neg c3] at H
    have c3b0 := decide_eq_false c3
    clear c3
    obtain rfl := Option.some.inj H
    go_wp2
    repeat (go_quiet (fail); try go_wp2)
    go_ret
    exact ⟨z10_, z51_⟩

/-! ### impl_PostOrder_lit1: function 93 -/
def impl_PostOrder_lit1.j0 : Nat → Int → Int → Bool → Option (Int)
 | 0, _, _, _ => none
 | k + 1, x0, x1, x27 => if x27 = true then (some 1) else (if x0 = x1 then (some 0) else (some (-1)))
def impl_PostOrder_lit1.f (k : Nat) (a0 : Int) (a1 : Int) (l2 : List (S61)) : Option (Int) := if a0 < a1 then ((impl_endOf.f k l2 a0).bind fun t124 => (if a1 < t124 then (impl_PostOrder_lit1.j0 k a0 a1 true) else (if a1 < a0 then ((impl_endOf.f k l2 a1).bind fun t125 => (impl_PostOrder_lit1.j0 k a0 a1 (decide (a0 ≥ t125)))) else (impl_PostOrder_lit1.j0 k a0 a1 false)))) else (if a1 < a0 then ((impl_endOf.f k l2 a1).bind fun t126 => (impl_PostOrder_lit1.j0 k a0 a1 (decide (a0 ≥ t126)))) else (impl_PostOrder_lit1.j0 k a0 a1 false))
set_option maxHeartbeats 8000000 in
set_option maxRecDepth 100000 in
theorem impl_PostOrder_lit1.calls (k : Nat) (a0 : Int) (a1 : Int) (A2 : Option Addr) (c2 : Nat) (l2 : List (S61)) (gi : Nat) (r : Int) (w : World) (hr2 : Kd.C k61 w A2 l2.length l2) (hc2 : l2.length ≤ c2) (hci : w.cell? ⟨gi, 0, none⟩ = some (.slice A2 l2.length c2)) (h : impl_PostOrder_lit1.f k a0 a1 l2 = some r) :
  Calls Try.prog 93 #[.int .i64 a0, .int .i64 a1, .pointer (some ⟨gi, 0, none⟩)] w fun e w' => e = .returned (.int .i64 r) ∧ Drawn0 w w' := by
 have HR2 := Aside0.mk hr2
 have HC2 := Aside0.mk hc2
 clear hr2 hc2
 have H : (if a0 < a1 then ((impl_endOf.f k l2 a0).bind fun t124 => (if a1 < t124 then (impl_PostOrder_lit1.j0 k a0 a1 true) else (if a1 < a0 then ((impl_endOf.f k l2 a1).bind fun t125 => (impl_PostOrder_lit1.j0 k a0 a1 (decide (a0 ≥ t125)))) else (impl_PostOrder_lit1.j0 k a0 a1 false)))) else (if a1 < a0 then ((impl_endOf.f k l2 a1).bind fun t126 => (impl_PostOrder_lit1.j0 k a0 a1 (decide (a0 ≥ t126)))) else (impl_PostOrder_lit1.j0 k a0 a1 false))) = some r := h
 clear h
 have HC4 := Aside0.mk H
 clear H
 go_enter Try.func93, Try.ntmps93
 go_upto_region 1 with (fail)
 go_cut [27] (fun v27 wc => ∃ (kq : Nat) (x27_3 : Bool), v27 = .bool x27_3 ∧ Aside0 (impl_PostOrder_lit1.j0 kq a0 a1 x27_3 = some r) ∧ Aside0 (kq ≤ k) ∧ Drawn0 w wc)
 case first =>
  have H := HC4.out
  clear HC4
  by_cases c5 : a0 < a1
  ·rw [if_pos c5] at H
   have c5b0 := decide_eq_true c5
   clear c5
   obtain ⟨t124, A6, H⟩ := bnd_ H
   by_cases c7 : a1 < t124
   ·rw [if_pos c7] at H
    have c7b0 := decide_eq_true c7
    clear c7
    have H' := Aside0.mk H
    clear H
    go_wp2_with ((go_at_call 59; (with_reducible refine (impl_endOf.calls k _ _ l2 a0 t124 _ ?side1 ?side2 A6.out).mono ?_); (case side1 => exact z107_); (case side2 => exact HC2.out); rintro e w' ⟨rfl, ⟨nd, rfl⟩⟩))
    go_meet
    case rel => exact ⟨_, (true), z10_, H', ⟨z152_⟩, z51_⟩
   ·rw [if_neg c7] at H
    have c7b0 := decide_eq_false c7
    clear c7
    by_cases c8 : a1 < a0
    ·rw [if_pos c8] at H
     have c8b0 := decide_eq_true c8
     clear c8
     obtain ⟨t125, A9, H⟩ := bnd_ H
     have H' := Aside0.mk H
     clear H
     go_wp2_with (first | (go_at_call 59; (with_reducible refine (impl_endOf.calls k _ _ l2 a0 t124 _ ?side1 ?side2 A6.out).mono ?_); (case side1 => exact z107_); (case side2 => exact HC2.out); rintro e w' ⟨rfl, ⟨nd, rfl⟩⟩) | (go_at_call 59; (with_reducible refine (impl_endOf.calls k _ _ l2 a1 t125 _ ?side1 ?side2 A9.out).mono ?_); (case side1 => exact z107_); (case side2 => exact HC2.out); rintro e w' ⟨rfl, ⟨nd, rfl⟩⟩))
     go_meet
     case rel => exact ⟨_, (decide (a0 ≥ t125)), z10_, H', ⟨z152_⟩, z51_⟩
    ·rw [if_neg c8] at H
     have c8b0 := decide_eq_false c8
     clear c8
     have H' := Aside0.mk H
     clear H
     go_wp2_with ((go_at_call 59; (with_reducible refine (impl_endOf.calls k _ _ l2 a0 t124 _ ?side1 ?side2 A6.out).mono ?_); (case side1 => exact z107_); (case side2 => exact HC2.out); rintro e w' ⟨rfl, ⟨nd, rfl⟩⟩))
     go_meet
     case rel => exact ⟨_, (false), z10_, H', ⟨z152_⟩, z51_⟩
  ·rw [if_neg c5] at H
   have c5b0 := decide_eq_false c5
   clear c5
   by_cases c10 : a1 < a0
   ·rw [if_pos c10] at H
    have c10b0 := decide_eq_true c10
    clear c10
    obtain ⟨t126, A11, H⟩ := bnd_ H
    have H' := Aside0.mk H
    clear H
    go_wp2_with ((go_at_call 59; (with_reducible refine (impl_endOf.calls k _ _ l2 a1 t126 _ ?side1 ?side2 A11.out).mono ?_); (case side1 => exact z107_); (case side2 => exact HC2.out); rintro e w' ⟨rfl, ⟨nd, rfl⟩⟩))
    go_meet
    case rel => exact ⟨_, (decide (a0 ≥ t126)), z10_, H', ⟨z152_⟩, z51_⟩
   ·rw [if_neg c10] at H
    have c10b0 := decide_eq_false c10
    clear c10
    have H' := Aside0.mk H
    clear H
    go_wp2
    go_meet
    case rel => exact ⟨_, (false), z10_, H', ⟨z152_⟩, z51_⟩
 case rest =>
  clear HC4
  obtain ⟨kq, x27_3, rfl, HA, HJ3, ⟨mc3, rfl⟩⟩ := hcut
  cases kq with
  | zero => exact absurd HA.out (by simp [impl_PostOrder_lit1.j0])
  | succ kj3 =>
   have H := HA.out
   clear HA
   simp only [impl_PostOrder_lit1.j0] at H
   by_cases c12 : x27_3 = true
   ·subst c12
    replace H := ift_ H
    obtain rfl := Option.some.inj H
    go_wp2
    go_ret
    exact ⟨z10_, z51_⟩
   ·replace c12 := Bool.eq_false_iff.mpr c12
    subst c12
    replace H := iff_ H
    by_cases c13 : a0 = a1
    ·rw [if_pos c13] at H
     have c13b0 : (a0 == a1) = true := beq_iff_eq.mpr c13
     have c13b1 : (a0 != a1) = false := bne_eq_false_iff_eq.mpr c13
     clear c13
     obtain rfl := Option.some.inj H
     go_wp2
     go_ret
     exact ⟨z10_, z51_⟩
    ·rw [if_neg c13] at H
     have c13b0 : (a0 == a1) = false := beq_eq_false_iff_ne.mpr c13
     have c13b1 : (a0 != a1) = true := bne_iff_ne.mpr c13
     obtain rfl := Option.some.inj H
     go_wp2
     go_ret
     exact ⟨z10_, z51_⟩

/-! ### impl_PostOrder: function 85 -/
/-- the order that the function value tells, as a number -/
def impl_PostOrder.cf (k : Nat) (l : List S61) (x y : Fin l.length) : Int := (impl_PostOrder_lit1.f k (x.val : Int) (y.val : Int) l).getD 0
def impl_PostOrder.lt (k : Nat) (l : List S61) (x y : Fin l.length) : Bool := decide (impl_PostOrder.cf k l x y < 0)
/-- it tells one order of all nodes -/
def impl_PostOrder.Good (k : Nat) (l : List S61) : Prop := (∀ x y : Fin l.length, (impl_PostOrder_lit1.f k (x.val : Int) (y.val : Int) l).isSome = true) ∧ (∀ x : Fin l.length, impl_PostOrder.lt k l x x = false) ∧
 (∀ x y z : Fin l.length, impl_PostOrder.lt k l x y = true → impl_PostOrder.lt k l y z = true → impl_PostOrder.lt k l x z = true) ∧ (∀ x y z : Fin l.length, impl_PostOrder.lt k l x y = false → impl_PostOrder.lt k l y z = false → impl_PostOrder.lt k l x z = false) ∧
 (∀ x y : Fin l.length, impl_PostOrder.lt k l x y = false → impl_PostOrder.lt k l y x = false → x = y)
instance impl_PostOrder.goodDec (k : Nat) (l : List S61) : Decidable (impl_PostOrder.Good k l) := by unfold impl_PostOrder.Good; infer_instance
def impl_PostOrder.sort (k : Nat) (l : List S61) (x : List Int) : Option (List Int) :=
 if (x = (List.finRange l.length).map (fun i => (i.val : Int)) ∧ 0 < l.length ∧ l.length < 4611686018427387904) ∧ impl_PostOrder.Good k l then some (((List.finRange l.length).mergeSort (fun a b => !impl_PostOrder.lt k l b a)).map (fun i => (i.val : Int))) else none
theorem below_grow {B : Nat} {w : World} (os : Array Obj) (hB : B ≤ w.heap.size) : Below B w (Sort.grow w os) := ⟨rfl, rfl, rfl, by rw [Sort.size_grow]; omega, fun k hk => Sort.heap_grow_old w os (by omega)⟩
theorem below_setCells {B g : Nat} (hg : B ≤ g) : ∀ (vs : List Value) (o : Nat) (w0 w : World), Below B w0 w → Below B w0 (w.setCells g o vs)
 | [], _, _, _, h => h
 | v :: vs, o, w0, w, h => below_setCells hg vs (o + 1) w0 (w.setCell ⟨g, o, none⟩ v) (h.setCell hg _)
theorem blk_setCells {g b : Nat} {ob : Obj} (hne : g ≠ b) : ∀ (vs : List Value) (o : Nat) (w : World), w.heap[g]? = some ob → (w.setCells b o vs).heap[g]? = some ob
 | [], _, _, h => h
 | v :: vs, o, w, h => blk_setCells hne vs (o + 1) (w.setCell ⟨b, o, none⟩ v) ((Below.heap_setCell w ⟨b, o, none⟩ v g hne).trans h)
theorem row_setCells {base g cap : Nat} {ok : Nat → Prop} : ∀ (ys pre xs : List Int) (w : World), xs.length = ys.length → Kd.R (Kd.int .i64) 3 w base ok (.slice (some ⟨g, 0, none⟩) (pre ++ xs).length cap) (pre ++ xs) →
  Kd.R (Kd.int .i64) 3 (w.setCells g pre.length (ys.map (Value.int .i64))) base ok (.slice (some ⟨g, 0, none⟩) (pre ++ ys).length cap) (pre ++ ys)
 | [], pre, xs, w, he, h => by
  obtain rfl := List.eq_nil_of_length_eq_zero he
  exact h
 | y :: ys, pre, [], w, he, h => by cases he
 | y :: ys, pre, x :: xs, w, he, h => by
  have h1 := (Kd.R_put h (pre.length : Int) y).1
  rw [Int.toNat_natCast, show (pre ++ x :: xs).set pre.length y = (pre ++ [y]) ++ xs by simp, show (pre ++ x :: xs).length = ((pre ++ [y]) ++ xs).length by simp] at h1
  have h2 := row_setCells ys (pre ++ [y]) xs _ (by simpa using he) h1
  rw [show (pre ++ [y]).length = pre.length + 1 by simp, show (pre ++ [y]) ++ ys = pre ++ y :: ys by simp] at h2
  exact h2
open Go.Sort (SWO Holds) in
theorem impl_PostOrder.sorts (k : Nat) (l : List S61) (A0 : Option Addr) (c0 : Nat) (x r : List Int) (v : Value) (gi : Nat) (w0 w : World) (hr0 : Kd.C k61 w0 A0 l.length l) (hc0 : l.length ≤ c0) (hB : Below w0.heap.size w0 w)
  (hbk : w.heap[gi]? = some (.cells #[.slice A0 l.length c0] 25 (0, 0))) (hO : Kd.R (Kd.int .i64) 3 w w0.heap.size (fun _ => True) v x) (h : impl_PostOrder.sort k l x = some r) :
  Calls Try.prog 92 #[v, .func (.func 93) #[] #[.pointer (some ⟨gi, 0, none⟩)]] w fun e w' => e = .returned (.tuple #[]) ∧ Kd.R (Kd.int .i64) 3 w' w0.heap.size (fun _ => True) v r ∧ Below w0.heap.size w0 w' := by
 unfold impl_PostOrder.sort at h
 split at h
 ·rename_i hc
  obtain ⟨⟨hx, hn, hlt⟩, hg1, hg2, hg3, hg4, hg5⟩ := hc
  obtain rfl := Option.some.inj h
  have hxl : x.length = l.length := by rw [hx, List.length_map, List.length_finRange]
  obtain ⟨g, cap, rfl, hbg, hgl, cs, hcs⟩ := Kd.R_form hO (by omega)
  have hne : gi ≠ g := by
   rintro rfl
   rw [hcs] at hbk
   injection hbk with e
   injection e with e1 e2
   exact absurd e2 (by decide)
  haveI : Inhabited (Fin l.length) := ⟨⟨0, hn⟩⟩
  have hds : (List.finRange l.length).toArray.size = l.length := by simp
  have hen : ∀ ys : List (Fin l.length), ys.map (fun i => Value.int .i64 (i.val : Int)) = (ys.map (fun i => (i.val : Int))).map (Value.int .i64) := fun ys => by rw [List.map_map]; rfl
  have hH : Holds (fun i : Fin l.length => Value.int .i64 (i.val : Int)) w g 0 (List.finRange l.length).toArray := by
   intro j hj
   rw [hds] at hj
   have h1 := Kd.R_cell (0 : Int) hO (j : Int) (by omega) (by omega)
   rw [Int.toNat_natCast] at h1
   rw [Nat.zero_add]
   refine ⟨h1.1.trans ?_, h1.2⟩
   have e : rdOf (0 : Int) x (j : Int) = (j : Int) := by
    show x.getD (j : Int).toNat 0 = _
    rw [Int.toNat_natCast, hx, List.getD_eq_getElem?_getD, List.getElem?_map, List.getElem?_eq_getElem (by simpa using hj)]
    simp
   rw [e]
   have e2 : (List.finRange l.length).toArray[j]! = ⟨j, hj⟩ := by
    rw [getElem!_pos _ _ (by simpa using hj)]
    simp
   rw [e2]
  have hcmp : CmpReads Try.prog 93 #[.pointer (some ⟨gi, 0, none⟩)] (fun i : Fin l.length => Value.int .i64 (i.val : Int)) (impl_PostOrder.cf k l) g 0 (List.finRange l.length).toArray.size w := by
   intro m os dk hs a b
   have hw : sortWorld (fun i : Fin l.length => Value.int .i64 (i.val : Int)) w g 0 m dk os = Sort.grow ((w.drewN m).setCells g 0 (dk.toList.map (fun i => Value.int .i64 (i.val : Int)))) os := by
    have := Lib.sorted_world (fun i : Fin l.length => Value.int .i64 (i.val : Int)) w g 0 m _ dk.toList os hH (by simpa using hs)
    simpa [sortWorld] using this
   have hB1 : Below w0.heap.size w0 ((w.drewN m).setCells g 0 (dk.toList.map (fun i => Value.int .i64 (i.val : Int)))) := below_setCells hbg _ _ _ _ ⟨hB.os, hB.tape, hB.output, hB.size, hB.block⟩
   have hB2 := hB1.trans (below_grow os (below_size hB1))
   have hb2 : (Sort.grow ((w.drewN m).setCells g 0 (dk.toList.map (fun i => Value.int .i64 (i.val : Int)))) os).heap[gi]? = some (.cells #[.slice A0 l.length c0] 25 (0, 0)) := by
    have h1 := blk_setCells hne (dk.toList.map (fun i => Value.int .i64 (i.val : Int))) 0 (w.drewN m) hbk
    exact (Sort.heap_grow_old _ os (blk_lt h1)).trans h1
   obtain ⟨u, hu⟩ := Option.isSome_iff_exists.1 (hg1 a b)
   rw [hw]
   have h3 := impl_PostOrder_lit1.calls k (a.val : Int) (b.val : Int) A0 c0 l gi u _ (Kd.C_below hr0 hB2) hc0 ((blk_cell hb2 0).trans rfl) hu
   refine h3.mono ?_
   rintro e w' ⟨rfl, q, rfl⟩
   refine ⟨?_, q, rfl⟩
   show _ = Ending.returned (.int .i64 ((impl_PostOrder_lit1.f k (a.val : Int) (b.val : Int) l).getD 0))
   rw [hu]
   rfl
  have hO2 : SWO (ltOf (impl_PostOrder.cf k l)) := ⟨hg2, hg3, hg4⟩
  have con := Try.slices_SortFunc (fun i : Fin l.length => Value.int .i64 (i.val : Int)) (fun _ => rfl) (impl_PostOrder.cf k l) hO2 93 #[.pointer (some ⟨gi, 0, none⟩)] g 0 cap (List.finRange l.length).toArray w (enters_of Try.func93 (by kernel_rfl) rfl) hcmp.lays hH hgl (by rw [hds]; exact hlt)
  rw [hds] at con
  rw [hxl]
  refine con.mono ?_
  rintro e w' ⟨rfl, d', n, os, hp, hs, rfl⟩
  have hu := Sort.sorted_unique_holds hO2 hg5 (List.finRange l.length).toArray d' (by rw [hds]; exact hp) (by rw [hds]; exact hs)
  have hd : d'.size = l.length := by have := hp.1; rw [hds] at this; exact this
  have hw : sortWorld (fun i : Fin l.length => Value.int .i64 (i.val : Int)) w g 0 n d' os = Sort.grow ((w.drewN n).setCells g 0 ((d'.toList.map (fun i => (i.val : Int))).map (Value.int .i64))) os := by
   have := Lib.sorted_world (fun i : Fin l.length => Value.int .i64 (i.val : Int)) w g 0 n _ d'.toList os hH (by rw [hds]; simpa using hd)
   rw [hen] at this
   simpa [sortWorld] using this
  rw [hw]
  have hB1 : Below w0.heap.size w0 ((w.drewN n).setCells g 0 ((d'.toList.map (fun i => (i.val : Int))).map (Value.int .i64))) := below_setCells hbg _ _ _ _ ⟨hB.os, hB.tape, hB.output, hB.size, hB.block⟩
  have hR := row_setCells (d'.toList.map (fun i => (i.val : Int))) [] x (w.drewN n) (by simp [hxl, hd]) (Kd.R_drewN hO n)
  rw [List.nil_append, List.length_map, show d'.toList.length = l.length by rw [Array.length_toList]; exact hd, List.length_nil] at hR
  refine ⟨rfl, ?_, hB1.trans (below_grow os (below_size hB1))⟩
  have hR2 := Kd.R_below hR (below_grow os (Nat.le_refl _))
  have hu2 : (List.finRange l.length).mergeSort (fun a b => !impl_PostOrder.lt k l b a) = d'.toList := hu.symm
  rw [hu2]
  exact hR2
 ·cases h
def impl_PostOrder.l0 : Nat → List (S61) → List Int → Int → Int → Option (List Int)
 | 0, _, _, _, _ => none
 | k + 1, x1, x3, x11, x12 => if x12 < x11 then (if x3.length < 17592186044416 then (impl_PostOrder.l0 k x1 (x3 ++ [x12]) x11 (wrap64 (x12 + 1))) else (none)) else (impl_PostOrder.sort k x1 x3)
def impl_PostOrder.f (k : Nat) (l0 : List (S61)) : Option (List Int) := (some (([] : List Int) : List Int)).bind fun y127 => ((impl_TreeOk.f k l0).bind fun t130 => (if t130 = true then (impl_PostOrder.l0 k l0 y127 (l0.length : Int) 0) else (some y127)))
set_option maxHeartbeats 8000000 in
set_option maxRecDepth 100000 in
theorem impl_PostOrder.calls (k : Nat) (A0 : Option Addr) (c0 : Nat) (l0 : List (S61)) (r : List Int) (w : World) (hr0 : Kd.C k61 w A0 l0.length l0) (hc0 : l0.length ≤ c0) (h : impl_PostOrder.f k l0 = some r) :
  Calls Try.prog 85 #[.slice A0 l0.length c0] w fun e w' => ∃ v0_ : Value, e = .returned (v0_) ∧ Kd.R (Kd.int .i64) 3 w' w.heap.size (fun _ => True) v0_ r ∧ Below w.heap.size w w' := by
 have hu25 := Try.underlying25
 have hmf : ∀ (fn : Fn) (first cap : Array Value) (w : World), (Instr.makeFunc fn first cap).run Try.prog w = .ok (.func fn first cap) w := fun _ _ _ _ => rfl
 have HR0 := Aside0.mk hr0
 have HC0 := Aside0.mk hc0
 clear hr0 hc0
 have HB := Aside0.mk (Below.refl w.heap.size w)
 have H : ((some (([] : List Int) : List Int)).bind fun y127 => ((impl_TreeOk.f k l0).bind fun t130 => (if t130 = true then (impl_PostOrder.l0 k l0 y127 (l0.length : Int) 0) else (some y127)))) = some r := h
 clear h
 ((with_reducible have hz_ := gy_ H); obtain ⟨y127, Ny127, H⟩ := hz_)
 obtain ⟨t130, A2, H⟩ := bnd_ H
 by_cases c3 : t130 = true
 ·subst c3
  replace H := ift_ H
  have H' := Aside0.mk H
  clear H
  go_enter Try.func85, Try.ntmps85
  go_wp2_with (first | ((with_reducible refine gate_dst (N := 1) rfl ?_); refine box_event ?hg (N := 1) ?hd (cs := #[.slice A0 l0.length c0]) (t := 25) ?hr ?_; (case hd => rfl); (case hg => rfl); (case hr => exact z19_); intro gi hg w1 hbox hb; have n1_ := Aside0.mk (below_step z0_ hb); have BKi := Aside0.mk hbox; clear HB; have HB := n1_; clear n1_; clear hb hbox hg) | ((with_reducible refine gate_dst (N := 5) rfl ?_); refine Kd.R_lit (Kd.int .i64) _ 3 ?hg (N := 5) ?hd (xs := ([] : List Int)) (inner := []) (ok := fun _ => True) (okp := fun _ => True) ?hr ?hp (fun _ hk => hk) trivial (Below.refl _ _) (Nat.le_refl _) (by simp) ?_; (case hd => rfl); (case hg => rfl); (case hr => exact z19_); (case hp => exact z212_); intro v128 w4 ho5 hb hg_ hnew_; clear hg_ hnew_; have n9_ := Aside0.mk (blk_below (g := gi) (o := .cells #[.slice A0 l0.length c0] 25 (0, 0)) z130_ hb); clear BKi; have BKi := n9_; clear n9_; have hci_w4 : w4.cell? ⟨gi, 0, none⟩ = some (.slice A0 l0.length c0) := (blk_cell BKi.out 0).trans rfl; have hfi_w4 := blk_frozen BKi.out 0; (rw [← Ny127.out] at ho5); have HO129 := Aside0.mk (Kd.R_lower ho5 (below_size z0_)); replace HB := Aside0.mk (below_step z0_ hb); clear hb ho5) | ((with_reducible refine gate_callee (f := 57) rfl ?_); refine goesL_ (some 7) rfl rfl Try.func57 (by kernel_rfl) rfl #[.slice A0 l0.length c0] rfl z1_ ?_; (with_reducible refine (impl_TreeOk.calls k _ _ l0 true _ ?side1 ?side2 A2.out).mono ?_); (case side1 => exact z7_); (case side2 => exact HC0.out); rintro e w6 ⟨rfl, hb⟩; refine ⟨_, rfl, ?_⟩; have n9_ := Aside0.mk (blk_below (g := gi) (o := .cells #[.slice A0 l0.length c0] 25 (0, 0)) z130_ hb); clear BKi; have BKi := n9_; clear n9_; have hci_w6 : w6.cell? ⟨gi, 0, none⟩ = some (.slice A0 l0.length c0) := (blk_cell BKi.out 0).trans rfl; have hfi_w6 := blk_frozen BKi.out 0; replace HO129 := Aside0.mk (Kd.R_below z178_ hb); replace HB := Aside0.mk (below_step z0_ hb); (try clear hb)))
  go_loopg [3, 12] k (fun kq v3 v12 w' => ∃ (x3_1 : List Int) (x12_1 : Int), v12 = .int .i64 x12_1 ∧ Aside0 (impl_PostOrder.l0 kq l0 x3_1 (l0.length : Int) x12_1 = some r) ∧ Aside0 (kq ≤ k) ∧ Aside0 (Kd.R (Kd.int .i64) 3 w' w.heap.size (fun _ => True) v3 x3_1) ∧ Aside0 (w'.heap[gi]? = some (.cells #[.slice A0 l0.length c0] 25 (0, 0))) ∧ Aside0 (Below w.heap.size w w'))
  case atStart => exact ⟨(y127), (0), z10_, H', ⟨Nat.le_refl _⟩, ⟨z178_⟩, ⟨z130_⟩, ⟨z0_⟩⟩
  case round =>
   clear H'
   obtain ⟨x3_1, x12_1, rfl, HA, HK1, HO_3, BKi, HB⟩ := hrel
   cases gk with
   | zero => exact absurd HA.out (by simp [impl_PostOrder.l0])
   | succ k1 =>
    have H := HA.out
    clear HA
    simp only [impl_PostOrder.l0] at H
    by_cases c7 : x12_1 < (l0.length : Int)
    ·rw [if_pos c7] at H
     have c7b0 := decide_eq_true c7
     clear c7
     obtain ⟨c8, H⟩ := ifs_ H
     have LMc8 := Aside0.mk c8
     clear c8
     (generalize hy_ : ((x3_1 ++ [x12_1]) : List Int) = y131 at H; have Ny131 := Aside0.mk hy_.symm; clear hy_)
     have H' := Aside0.mk H
     clear H
     go_wp2_with (((with_reducible refine gate_builtin (b := .append) (xs := #[.tmp 15, .tmp 17]) rfl ?_); at_builtin; refine Kd.R_append (Kd.int .i64) (w0 := w) w.heap.size rfl (.tmp 15) (.tmp 17) 30 3 (.int .i64 0) 8 rfl Try.underlying30 info3 rfl (by decide) (by omega) u3 x3_1 x12_1 [.int .i64 x12_1] (fun _ => True) (fun _ => False) rfl rfl ?aP (fun _ hk => hk.elim) ?aF ?aO ?aB ?aS ?aL ?_; (case aP => exact rfl); (case aB => exact z84_); (case aF => exact z206_); (case aO => exact z218_); (case aS => exact z78_); (case aL => have := LMc8.out; omega); intro v132 w9 ho hb hg hat; have n9_ := Aside0.mk (blk_grown BKi.out hg (Kd.R_ne HO_3.out BKi.out (by decide))); clear BKi; have BKi := n9_; clear n9_; rw [← Ny131.out] at ho; replace HB := Aside0.mk (hb); have HO133 := Aside0.mk (ho); clear HO_3; clear ho hb hg hat))
     go_roundg k1
     case measure => have := HK1.out; omega
     case rel => exact ⟨(y131), (wrap64 (x12_1 + 1)), z10_, H', ⟨z143_⟩, ⟨by exact HO133.out⟩, ⟨z130_⟩, ⟨z0_⟩⟩
    ·rw [if_neg c7] at H
     have c7b0 := decide_eq_false c7
     clear c7
     have HS := Aside0.mk H
     clear H
     go_wp2_with (go_at_call 92; refine (impl_PostOrder.sorts k1 l0 A0 c0 x3_1 r _ gi w _ HR0.out HC0.out HB.out BKi.out HO_3.out HS.out).mono ?_; rintro e w8 ⟨rfl, hr8, hb8⟩)
     go_ret
     exact ⟨_, rfl, hr8, hb8⟩
 ·replace c3 := Bool.eq_false_iff.mpr c3
  subst c3
  replace H := iff_ H
  obtain rfl := Option.some.inj H
  go_enter Try.func85, Try.ntmps85
  go_wp2_with (first | ((with_reducible refine gate_dst (N := 1) rfl ?_); refine box_event ?hg (N := 1) ?hd (cs := #[.slice A0 l0.length c0]) (t := 25) ?hr ?_; (case hd => rfl); (case hg => rfl); (case hr => exact z19_); intro gi hg w1 hbox hb; have n1_ := Aside0.mk (below_step z0_ hb); have BKi := Aside0.mk hbox; clear HB; have HB := n1_; clear n1_; clear hb hbox hg) | ((with_reducible refine gate_dst (N := 5) rfl ?_); refine Kd.R_lit (Kd.int .i64) _ 3 ?hg (N := 5) ?hd (xs := ([] : List Int)) (inner := []) (ok := fun _ => True) (okp := fun _ => True) ?hr ?hp (fun _ hk => hk) trivial (Below.refl _ _) (Nat.le_refl _) (by simp) ?_; (case hd => rfl); (case hg => rfl); (case hr => exact z19_); (case hp => exact z212_); intro v128 w11 ho12 hb hg_ hnew_; clear hg_ hnew_; have n9_ := Aside0.mk (blk_below (g := gi) (o := .cells #[.slice A0 l0.length c0] 25 (0, 0)) z130_ hb); clear BKi; have BKi := n9_; clear n9_; have hci_w11 : w11.cell? ⟨gi, 0, none⟩ = some (.slice A0 l0.length c0) := (blk_cell BKi.out 0).trans rfl; have hfi_w11 := blk_frozen BKi.out 0; (rw [← Ny127.out] at ho12); have HO129 := Aside0.mk (Kd.R_lower ho12 (below_size z0_)); replace HB := Aside0.mk (below_step z0_ hb); clear hb ho12) | ((with_reducible refine gate_callee (f := 57) rfl ?_); refine goesL_ (some 7) rfl rfl Try.func57 (by kernel_rfl) rfl #[.slice A0 l0.length c0] rfl z1_ ?_; (with_reducible refine (impl_TreeOk.calls k _ _ l0 false _ ?side1 ?side2 A2.out).mono ?_); (case side1 => exact z7_); (case side2 => exact HC0.out); rintro e w13 ⟨rfl, hb⟩; refine ⟨_, rfl, ?_⟩; have n9_ := Aside0.mk (blk_below (g := gi) (o := .cells #[.slice A0 l0.length c0] 25 (0, 0)) z130_ hb); clear BKi; have BKi := n9_; clear n9_; have hci_w13 : w13.cell? ⟨gi, 0, none⟩ = some (.slice A0 l0.length c0) := (blk_cell BKi.out 0).trans rfl; have hfi_w13 := blk_frozen BKi.out 0; replace HO129 := Aside0.mk (Kd.R_below z178_ hb); replace HB := Aside0.mk (below_step z0_ hb); (try clear hb)))
  go_ret
  exact ⟨_, z6_, z178_, z0_⟩

end Go.Proofs.Ytbmkobanpakohaa.PFnMirrored
