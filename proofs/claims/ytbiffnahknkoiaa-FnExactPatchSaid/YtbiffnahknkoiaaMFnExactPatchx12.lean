/- Laid by a program of this session out of the kit's print for the law FnExactPatch: what it says of the machine is proved here, function by function; each contract under the conditions that it names. -/
import Derived.Test.YtbiffnahknkoiaaMFnExactPatchx0
import Derived.Test.YtbiffnahknkoiaaMFnExactPatchx9
import Derived.Test.YtbiffnahknkoiaaMFnExactPatchx10
import Derived.Deep.RegionLaw
import Derived.Lib.Overlaps
import Derived.Laws.Externs
import Derived.Lib.AppendZeros
import Derived.Lib.AppendZerosOnto
import Derived.Laws.NewBlocks
import Derived.Lib.SliceRun
import Derived.Test.YtbiffnahknkoiaaSliceOps
namespace Go.Proofs.Ytbiffnahknkoiaa.PFnExactPatch
open Go.RowKit Go.Proofs.YtbiffnahknkoiaaW.PrintWords Go.Proofs.YtbiffnahknkoiaaW.PrintLast Go.Proofs.YtbiffnahknkoiaaW.PrintMore Go.Proofs.Ytbiffnahknkoiaa.SliceOps
attribute [local go_sem] max2_int min2_int max_two min_two max_three min_three max_four min_four   -- for this text's walks alone
set_option linter.unusedVariables false
set_option linter.unusedSimpArgs false

/-! ### impl_TreeOk: function 40 -/
def impl_TreeOk.l0 : Nat → List (S45) → List (S45) → Int → Int → Option (Bool)
 | 0, _, _, _, _ => none
 | k + 1, x0, x9, x10, x11 => if x11 < x10 then (if 0 ≤ x11 then (if x11 < (x9.length : Int) then ((impl_LabelOk.f ((rd_T45 x9 x11).f0)).bind fun t448 => (if t448 = true then ((impl_within.f ((rd_T45 x9 x11).f1) 0 12).bind fun t449 => (if t449 = true then ((impl_depthOk.f x0 x11).bind fun t450 => (if t450 = true then (impl_TreeOk.l0 k x0 x9 x10 (wrap64 (x11 + 1))) else (some false))) else (some false))) else (some false))) else (none)) else (none)) else (some true)
def impl_TreeOk.f (k : Nat) (l0 : List (S45)) : Option (Bool) := (impl_within.f (l0.length : Int) 1 24).bind fun t445 => (if t445 = true then (impl_TreeOk.l0 k l0 l0 (l0.length : Int) 0) else (some false))
set_option maxHeartbeats 8000000 in
set_option maxRecDepth 100000 in
theorem impl_TreeOk.calls (k : Nat) (A0 : Option Addr) (c0 : Nat) (l0 : List (S45)) (r : Bool) (w : World) (hr0 : Kd.C k45 w A0 l0.length l0) (hc0 : l0.length ≤ c0) (h : impl_TreeOk.f k l0 = some r) :
  Calls Try.prog 40 #[.slice A0 l0.length c0] w fun e w' => e = .returned (.bool r) ∧ Below w.heap.size w w' := by
 have hu45 := Try.underlying45
 have HR0 := Aside0.mk hr0
 have HC0 := Aside0.mk hc0
 clear hr0 hc0
 have HB := Aside0.mk (Below.refl w.heap.size w)
 have H : ((impl_within.f (l0.length : Int) 1 24).bind fun t445 => (if t445 = true then (impl_TreeOk.l0 k l0 l0 (l0.length : Int) 0) else (some false))) = some r := h
 clear h
 obtain ⟨t445, A2, H⟩ := bnd_ H
 by_cases c3 : t445 = true
 ·subst c3
  replace H := ift_ H
  have H' := Aside0.mk H
  clear H
  go_enter Try.func40, Try.ntmps40
  go_wp2_with (first | ((with_reducible refine gate_callee (f := 67) rfl ?_); refine goesL_ (some 7) rfl rfl Try.func67 (by kernel_rfl) rfl #[.int .i64 (l0.length : Int), .int .i64 1, .int .i64 24] rfl z1_ ?_; (with_reducible refine (impl_within.calls (l0.length : Int) 1 24 true _ A2.out).mono ?_); rintro e w' ⟨rfl, ⟨nd, rfl⟩⟩; refine ⟨_, rfl, ?_⟩))
  go_loopg [11] k (fun kq v11 w' => ∃ (x11_1 : Int), v11 = .int .i64 x11_1 ∧ Aside0 (impl_TreeOk.l0 kq l0 l0 (l0.length : Int) x11_1 = some r) ∧ Aside0 (kq ≤ k) ∧ Aside0 (Below w.heap.size w w'))
  case atStart => exact ⟨(0), z8_, H', ⟨Nat.le_refl _⟩, ⟨z0_⟩⟩
  case round =>
   clear H'
   try clear p2
   try clear c3
   obtain ⟨x11_1, rfl, HA, HK1, HB⟩ := hrel
   cases gk with
   | zero => exact absurd HA.out (by simp [impl_TreeOk.l0])
   | succ k1 =>
    have H := HA.out
    clear HA
    simp only [impl_TreeOk.l0] at H
    by_cases c4 : x11_1 < (l0.length : Int)
    ·rw [if_pos c4] at H
     have c4b0 := decide_eq_true c4
     clear c4
     obtain ⟨c5b0, H⟩ := ifd_ H
     obtain ⟨c6b0, H⟩ := ifd_ H
     obtain ⟨t448, A7, H⟩ := bnd_ H
     by_cases c8 : t448 = true
     ·subst c8
      replace H := ift_ H
      obtain ⟨t449, A9, H⟩ := bnd_ H
      by_cases c10 : t449 = true
      ·subst c10
       replace H := ift_ H
       obtain ⟨t450, A11, H⟩ := bnd_ H
       by_cases c12 : t450 = true
       ·subst c12
        replace H := ift_ H
        have H' := Aside0.mk H
        clear H
        obtain ⟨p446, q446, ad446, e446, hx446_0, hx446_1⟩ := atb45_ HR0 HB x11_1
        cases e446
        go_wp2_with (first | ((with_reducible refine gate_dst (N := 4) rfl ?_); refine box_event ?hg (N := 4) ?hd (cs := #[.int .i64 0, .int .i64 0]) (t := 45) ?hr ?_; (case hd => rfl); (case hg => rfl); (case hr => exact z10_); intro gb447 hg w13 hbox hb; have BK447 := Aside0.mk (hbox); have GW447 := Aside0.mk ((by rw [hg]; exact (below_size z0_) : w.heap.size ≤ gb447)); have GE447 := Aside0.mk ((by rw [hg]; exact (below_size z0_) : w.heap.size ≤ gb447)); replace HB := Aside0.mk (below_step z0_ hb); clear hb hbox hg; obtain ⟨hcz14_0, hcz14_1, hfz14_0, hfz14_1⟩ := bx2_ BK447.out) | ((with_reducible refine gate_callee (f := 77) rfl ?_); refine goesL_ (some 18) rfl rfl Try.func77 (by kernel_rfl) rfl #[.int .i64 ((rd_T45 l0 x11_1).f0)] rfl z1_ ?_; (with_reducible refine (impl_LabelOk.calls ((rd_T45 l0 x11_1).f0) true _ A7.out).mono ?_); rintro e w' ⟨rfl, ⟨nd, rfl⟩⟩; refine ⟨_, rfl, ?_⟩) | (go_at_call 67; (with_reducible refine (impl_within.calls ((rd_T45 l0 x11_1).f1) 0 12 true _ A9.out).mono ?_); rintro e w' ⟨rfl, ⟨nd, rfl⟩⟩) | (go_at_call 78; (with_reducible refine (impl_depthOk.calls _ _ l0 x11_1 true _ ?side1 ?side2 A11.out).mono ?_); (case side1 => exact z109_); (case side2 => exact HC0.out); rintro e w' ⟨rfl, ⟨nd, rfl⟩⟩))
        go_roundg k1
        case measure => have := HK1.out; omega
        case rel => exact ⟨(wrap64 (x11_1 + 1)), z8_, H', ⟨z93_⟩, ⟨z64_⟩⟩
       ·replace c12 := Bool.eq_false_iff.mpr c12
        subst c12
        replace H := iff_ H
        obtain rfl := Option.some.inj H
        obtain ⟨p446, q446, ad446, e446, hx446_0, hx446_1⟩ := atb45_ HR0 HB x11_1
        cases e446
        go_wp2_with (first | ((with_reducible refine gate_dst (N := 4) rfl ?_); refine box_event ?hg (N := 4) ?hd (cs := #[.int .i64 0, .int .i64 0]) (t := 45) ?hr ?_; (case hd => rfl); (case hg => rfl); (case hr => exact z10_); intro gb447 hg w15 hbox hb; have BK447 := Aside0.mk (hbox); have GW447 := Aside0.mk ((by rw [hg]; exact (below_size z0_) : w.heap.size ≤ gb447)); have GE447 := Aside0.mk ((by rw [hg]; exact (below_size z0_) : w.heap.size ≤ gb447)); replace HB := Aside0.mk (below_step z0_ hb); clear hb hbox hg; obtain ⟨hcz16_0, hcz16_1, hfz16_0, hfz16_1⟩ := bx2_ BK447.out) | ((with_reducible refine gate_callee (f := 77) rfl ?_); refine goesL_ (some 18) rfl rfl Try.func77 (by kernel_rfl) rfl #[.int .i64 ((rd_T45 l0 x11_1).f0)] rfl z1_ ?_; (with_reducible refine (impl_LabelOk.calls ((rd_T45 l0 x11_1).f0) true _ A7.out).mono ?_); rintro e w' ⟨rfl, ⟨nd, rfl⟩⟩; refine ⟨_, rfl, ?_⟩) | (go_at_call 67; (with_reducible refine (impl_within.calls ((rd_T45 l0 x11_1).f1) 0 12 true _ A9.out).mono ?_); rintro e w' ⟨rfl, ⟨nd, rfl⟩⟩) | (go_at_call 78; (with_reducible refine (impl_depthOk.calls _ _ l0 x11_1 false _ ?side1 ?side2 A11.out).mono ?_); (case side1 => exact z109_); (case side2 => exact HC0.out); rintro e w' ⟨rfl, ⟨nd, rfl⟩⟩))
        go_ret
        exact ⟨z3_, z64_⟩
      ·replace c10 := Bool.eq_false_iff.mpr c10
       subst c10
       replace H := iff_ H
       obtain rfl := Option.some.inj H
       obtain ⟨p446, q446, ad446, e446, hx446_0, hx446_1⟩ := atb45_ HR0 HB x11_1
       cases e446
       go_wp2_with (first | ((with_reducible refine gate_dst (N := 4) rfl ?_); refine box_event ?hg (N := 4) ?hd (cs := #[.int .i64 0, .int .i64 0]) (t := 45) ?hr ?_; (case hd => rfl); (case hg => rfl); (case hr => exact z10_); intro gb447 hg w17 hbox hb; have BK447 := Aside0.mk (hbox); have GW447 := Aside0.mk ((by rw [hg]; exact (below_size z0_) : w.heap.size ≤ gb447)); have GE447 := Aside0.mk ((by rw [hg]; exact (below_size z0_) : w.heap.size ≤ gb447)); replace HB := Aside0.mk (below_step z0_ hb); clear hb hbox hg; obtain ⟨hcz18_0, hcz18_1, hfz18_0, hfz18_1⟩ := bx2_ BK447.out) | ((with_reducible refine gate_callee (f := 77) rfl ?_); refine goesL_ (some 18) rfl rfl Try.func77 (by kernel_rfl) rfl #[.int .i64 ((rd_T45 l0 x11_1).f0)] rfl z1_ ?_; (with_reducible refine (impl_LabelOk.calls ((rd_T45 l0 x11_1).f0) true _ A7.out).mono ?_); rintro e w' ⟨rfl, ⟨nd, rfl⟩⟩; refine ⟨_, rfl, ?_⟩) | (go_at_call 67; (with_reducible refine (impl_within.calls ((rd_T45 l0 x11_1).f1) 0 12 false _ A9.out).mono ?_); rintro e w' ⟨rfl, ⟨nd, rfl⟩⟩))
       go_ret
       exact ⟨z3_, z64_⟩
     ·replace c8 := Bool.eq_false_iff.mpr c8
      subst c8
      replace H := iff_ H
      obtain rfl := Option.some.inj H
      obtain ⟨p446, q446, ad446, e446, hx446_0, hx446_1⟩ := atb45_ HR0 HB x11_1
      cases e446
      go_wp2_with (first | ((with_reducible refine gate_dst (N := 4) rfl ?_); refine box_event ?hg (N := 4) ?hd (cs := #[.int .i64 0, .int .i64 0]) (t := 45) ?hr ?_; (case hd => rfl); (case hg => rfl); (case hr => exact z10_); intro gb447 hg w19 hbox hb; have BK447 := Aside0.mk (hbox); have GW447 := Aside0.mk ((by rw [hg]; exact (below_size z0_) : w.heap.size ≤ gb447)); have GE447 := Aside0.mk ((by rw [hg]; exact (below_size z0_) : w.heap.size ≤ gb447)); replace HB := Aside0.mk (below_step z0_ hb); clear hb hbox hg; obtain ⟨hcz20_0, hcz20_1, hfz20_0, hfz20_1⟩ := bx2_ BK447.out) | ((with_reducible refine gate_callee (f := 77) rfl ?_); refine goesL_ (some 18) rfl rfl Try.func77 (by kernel_rfl) rfl #[.int .i64 ((rd_T45 l0 x11_1).f0)] rfl z1_ ?_; (with_reducible refine (impl_LabelOk.calls ((rd_T45 l0 x11_1).f0) false _ A7.out).mono ?_); rintro e w' ⟨rfl, ⟨nd, rfl⟩⟩; refine ⟨_, rfl, ?_⟩))
      go_ret
      exact ⟨z3_, z64_⟩
    ·rw [if_neg c4] at H
     have c4b0 := decide_eq_false c4
     clear c4
     obtain rfl := Option.some.inj H
     go_wp2
     go_ret
     exact ⟨z3_, z0_⟩
 ·replace c3 := Bool.eq_false_iff.mpr c3
  subst c3
  replace H := iff_ H
  obtain rfl := Option.some.inj H
  go_enter Try.func40, Try.ntmps40
  go_wp2_with (first | ((with_reducible refine gate_callee (f := 67) rfl ?_); refine goesL_ (some 7) rfl rfl Try.func67 (by kernel_rfl) rfl #[.int .i64 (l0.length : Int), .int .i64 1, .int .i64 24] rfl z1_ ?_; (with_reducible refine (impl_within.calls (l0.length : Int) 1 24 false _ A2.out).mono ?_); rintro e w' ⟨rfl, ⟨nd, rfl⟩⟩; refine ⟨_, rfl, ?_⟩))
  go_ret
  exact ⟨z3_, z0_⟩

/-! ### slices_Clone_Node: function 70 -/
def slices_Clone_Node.f (l0 : List (S45)) : Option ((List (S45))) := (some (([] : List (S45)) : List (S45))).bind fun y451 => (if y451.length + l0.length < 8796093022208 then (some (y451 ++ l0)) else (none))
set_option maxHeartbeats 8000000 in
set_option maxRecDepth 100000 in
theorem slices_Clone_Node.calls (A0 : Option Addr) (c0 : Nat) (l0 : List (S45)) (r : List (S45)) (w : World) (hr0 : Kd.C k45 w A0 l0.length l0) (hc0 : l0.length ≤ c0) (h : slices_Clone_Node.f l0 = some r) :
  Calls Try.prog 70 #[.slice A0 l0.length c0] w fun e w' => ∃ v0_ : Value, e = .returned (v0_) ∧ Kd.R k45 45 w' w.heap.size (fun _ => True) v0_ r ∧ Below w.heap.size w w' := by
 have q_nil : ∀ (w : World) (a : Option Addr) (n c n' c' : Nat), (binOp .eql 30 (.slice a n c) (.slice none n' c')).run Try.prog w = .ok (.bool a.isNone) w := fun w a n c n' c' => Lib.run_eql_slice_nil w _ _ a n c n' c' Try.underlying30
 rcases A0 with _ | ad0
 ·have h0_ : l0 = [] := by
   rcases Nat.eq_zero_or_pos l0.length with h0 | h0
   ·exact List.eq_nil_of_length_eq_zero h0
   ·obtain ⟨ad, h, _⟩ := hr0.2.2 h0
    cases h
  subst h0_
  have hr_ : r = [] := by simpa [slices_Clone_Node.f] using h.symm
  subst hr_
  clear hr0 h
  go_enter Try.func70, Try.ntmps70
  go_wp2
  go_ret
  exact ⟨_, rfl, Kd.R_nil _ _ _ _ _, Below.refl _ _⟩
 have HR0 := Aside0.mk hr0
 have HC0 := Aside0.mk hc0
 clear hr0 hc0
 have HB := Aside0.mk (Below.refl w.heap.size w)
 have H : ((some (([] : List (S45)) : List (S45))).bind fun y451 => (if y451.length + l0.length < 8796093022208 then (some (y451 ++ l0)) else (none))) = some r := h
 clear h
 first | ((with_reducible have hz_ := gy_ H); obtain ⟨y451, Ny451, H⟩ := hz_) | (generalize hy_ : ((([] : List (S45))) : List (S45)) = y451 at H; have Ny451 := Aside0.mk hy_.symm; clear hy_)
 obtain ⟨c2, H⟩ := ifs_ H
 have LMc2 := Aside0.mk c2
 clear c2
 first | ((with_reducible have hz_ := gy_ H); obtain ⟨y454, Ny454, H⟩ := hz_) | (generalize hy_ : ((y451 ++ l0) : List (S45)) = y454 at H; have Ny454 := Aside0.mk hy_.symm; clear hy_)
 obtain rfl := Option.some.inj H
 go_enter Try.func70, Try.ntmps70
 go_wp2_with (first | ((with_reducible refine gate_dst (N := 5) rfl ?_); refine Kd.R_lit k45 _ 45 ?hg (N := 5) ?hd (xs := ([] : List (S45))) (inner := []) (ok := fun _ => True) (okp := fun _ => True) ?hr ?hp (fun _ hk => hk) trivial (Below.refl _ _) (Nat.le_refl _) (by simp) ?_; (case hd => rfl); (case hg => rfl); (case hr => exact z10_); (case hp => exact z75_); intro v452 w3 ho4 hb hg_ hnew_; clear hg_ hnew_; (first | rw [← Ny451.out] at ho4 | (simp only [Int.reduceToNat] at ho4; rw [← Ny451.out] at ho4)); have HO453 := Aside0.mk (Kd.R_lower ho4 (below_size z0_)); replace HB := Aside0.mk (below_step z0_ hb); clear hb ho4) | ((with_reducible refine gate_builtin (b := .append) (xs := #[.tmp 5, .tmp 6]) rfl ?_); at_builtin; refine Kd.R_append_rows k45 (w0 := w) w.heap.size rfl (.tmp 5) (.tmp 6) 30 45 (.agg #[(.int .i64 0), (.int .i64 0)]) 16 rfl Try.underlying30 info45 rfl (by decide) (by omega) v452 y451 l0 _ _ _ (fun _ => True) (fun _ => False) rfl rfl ?aO ?aR (fun _ _ h => h) (fun _ h => h.elim) ?aF ?aB ?aS ?aL ?_; (case aR => exact z2_); (case aB => exact z16_); (case aF => exact z87_); (case aO => exact (by (with_reducible repeat (first | apply Kd.R_alloc | apply Kd.R_drewN | apply Kd.R_drew)); exact HO453.out)); (case aS => exact z11_); (case aL => have := LMc2.out; omega); intro v455 w5 ho hb hg hat; rw [← Ny454.out] at ho; replace HB := Aside0.mk (hb); have HO456 := Aside0.mk (ho); clear HO453; clear ho hb hg hat))
 go_ret
 exact ⟨_, z3_, by (with_reducible repeat (first | apply Kd.R_alloc | apply Kd.R_drewN | apply Kd.R_drew)); exact HO456.out, z0_⟩

/-! ### impl_endOf: function 80 -/
def impl_endOf.l0 : Nat → List (S45) → Int → Int → Option (Int)
 | 0, _, _, _ => none
 | k + 1, x0, x1, x5 => if x5 < (x0.length : Int) then (if 0 ≤ x5 then (if 0 ≤ x1 then (if x1 < (x0.length : Int) then (if ((rd_T45 x0 x5).f1) > ((rd_T45 x0 x1).f1) then (impl_endOf.l0 k x0 x1 (wrap64 (x5 + 1))) else (some x5)) else (none)) else (none)) else (none)) else (some x5)
def impl_endOf.f (k : Nat) (l0 : List (S45)) (a1 : Int) : Option (Int) := impl_endOf.l0 k l0 a1 (wrap64 (a1 + 1))
set_option maxHeartbeats 8000000 in
set_option maxRecDepth 100000 in
theorem impl_endOf.calls (k : Nat) (A0 : Option Addr) (c0 : Nat) (l0 : List (S45)) (a1 : Int) (r : Int) (w : World) (hr0 : Kd.C k45 w A0 l0.length l0) (hc0 : l0.length ≤ c0) (h : impl_endOf.f k l0 a1 = some r) :
  Calls Try.prog 80 #[.slice A0 l0.length c0, .int .i64 a1] w fun e w' => e = .returned (.int .i64 r) ∧ Drawn0 w w' := by
 have HR0 := Aside0.mk hr0
 have HC0 := Aside0.mk hc0
 clear hr0 hc0
 have H : (impl_endOf.l0 k l0 a1 (wrap64 (a1 + 1))) = some r := h
 clear h
 have H' := Aside0.mk H
 clear H
 go_enter Try.func80, Try.ntmps80
 go_wp2
 repeat (go_quiet (fail); try go_wp2)
 go_loopg [5] k (fun kq v5 w' => ∃ (x5_1 : Int), v5 = .int .i64 x5_1 ∧ Aside0 (impl_endOf.l0 kq l0 a1 x5_1 = some r) ∧ Aside0 (kq ≤ k) ∧ Drawn0 w w')
 case atStart => exact ⟨(wrap64 (a1 + 1)), z8_, H', ⟨Nat.le_refl _⟩, z83_⟩
 case round =>
  clear H'
  try clear p2
  obtain ⟨x5_1, rfl, HA, HK1, ⟨m1, rfl⟩⟩ := hrel
  cases gk with
  | zero => exact absurd HA.out (by simp [impl_endOf.l0])
  | succ k1 =>
   have H := HA.out
   clear HA
   simp only [impl_endOf.l0] at H
   by_cases c3 : x5_1 < (l0.length : Int)
   ·rw [if_pos c3] at H
    have c3b0 := decide_eq_true c3
    clear c3
    obtain ⟨c4b0, H⟩ := ifd_ H
    obtain ⟨c5b0, H⟩ := ifd_ H
    obtain ⟨c6b0, H⟩ := ifd_ H
    by_cases c7 : ((rd_T45 l0 x5_1).f1) > ((rd_T45 l0 a1).f1)
    ·rw [if_pos c7] at H
     have c7b0 := decide_eq_true c7
     clear c7
     have H' := Aside0.mk H
     clear H
     obtain ⟨p457, q457, ad457, e457, hx457_0, hx457_1⟩ := ato45_ HR0 x5_1
     cases e457
     obtain ⟨p458, q458, ad458, e458, hx458_0, hx458_1⟩ := ato45_ HR0 a1
     obtain rfl : ad457 = ad458 := (by injection e458)
     go_wp2
     repeat (go_quiet (fail); try go_wp2)
     go_roundg k1
     case measure => have := HK1.out; omega
     case rel => exact ⟨(wrap64 (x5_1 + 1)), z8_, H', ⟨z93_⟩, z83_⟩
    ·rw [if_neg c7] at H
     have c7b0 := decide_eq_false c7
     clear c7
     obtain rfl := Option.some.inj H
     obtain ⟨p457, q457, ad457, e457, hx457_0, hx457_1⟩ := ato45_ HR0 x5_1
     cases e457
     obtain ⟨p458, q458, ad458, e458, hx458_0, hx458_1⟩ := ato45_ HR0 a1
     obtain rfl : ad457 = ad458 := (by injection e458)
     go_wp2
     repeat (go_quiet (fail); try go_wp2)
     go_ret
     exact ⟨z8_, z83_⟩
   ·rw [if_neg c3] at H
    have c3b0 := decide_eq_false c3
    clear c3
    obtain rfl := Option.some.inj H
    go_wp2
    repeat (go_quiet (fail); try go_wp2)
    go_ret
    exact ⟨z8_, z83_⟩

/-! ### impl_hasNode: function 79 -/
def impl_hasNode.f (k : Nat) (l0 : List (S45)) (a1 : Int) : Option (Bool) := (impl_TreeOk.f k l0).bind fun t459 => (if t459 = true then ((impl_within.f a1 0 (wrap64 ((l0.length : Int) - 1))).bind fun t460 => (some t460)) else (some false))
set_option maxHeartbeats 8000000 in
set_option maxRecDepth 100000 in
theorem impl_hasNode.calls (k : Nat) (A0 : Option Addr) (c0 : Nat) (l0 : List (S45)) (a1 : Int) (r : Bool) (w : World) (hr0 : Kd.C k45 w A0 l0.length l0) (hc0 : l0.length ≤ c0) (h : impl_hasNode.f k l0 a1 = some r) :
  Calls Try.prog 79 #[.slice A0 l0.length c0, .int .i64 a1] w fun e w' => e = .returned (.bool r) ∧ Below w.heap.size w w' := by
 have HR0 := Aside0.mk hr0
 have HC0 := Aside0.mk hc0
 clear hr0 hc0
 have HB := Aside0.mk (Below.refl w.heap.size w)
 have H : ((impl_TreeOk.f k l0).bind fun t459 => (if t459 = true then ((impl_within.f a1 0 (wrap64 ((l0.length : Int) - 1))).bind fun t460 => (some t460)) else (some false))) = some r := h
 clear h
 obtain ⟨t459, A3, H⟩ := bnd_ H
 by_cases c4 : t459 = true
 ·subst c4
  replace H := ift_ H
  obtain ⟨t460, A5, H⟩ := bnd_ H
  obtain rfl := Option.some.inj H
  go_enter Try.func79, Try.ntmps79
  go_wp2_with (first | ((with_reducible refine gate_callee (f := 40) rfl ?_); refine goesL_ (some 6) rfl rfl Try.func40 (by kernel_rfl) rfl #[.slice A0 l0.length c0] rfl z1_ ?_; (with_reducible refine (impl_TreeOk.calls k _ _ l0 true _ ?side1 ?side2 A3.out).mono ?_); (case side1 => exact z24_); (case side2 => exact HC0.out); rintro e w6 ⟨rfl, hb⟩; refine ⟨_, rfl, ?_⟩; replace HB := Aside0.mk (below_step z0_ hb); (try clear hb)) | (go_at_call 67; (with_reducible refine (impl_within.calls a1 0 (wrap64 ((l0.length : Int) - 1)) t460 _ A5.out).mono ?_); rintro e w' ⟨rfl, ⟨nd, rfl⟩⟩))
  go_ret
  exact ⟨z3_, z0_⟩
 ·replace c4 := Bool.eq_false_iff.mpr c4
  subst c4
  replace H := iff_ H
  obtain rfl := Option.some.inj H
  go_enter Try.func79, Try.ntmps79
  go_wp2_with (first | ((with_reducible refine gate_callee (f := 40) rfl ?_); refine goesL_ (some 6) rfl rfl Try.func40 (by kernel_rfl) rfl #[.slice A0 l0.length c0] rfl z1_ ?_; (with_reducible refine (impl_TreeOk.calls k _ _ l0 false _ ?side1 ?side2 A3.out).mono ?_); (case side1 => exact z24_); (case side2 => exact HC0.out); rintro e w7 ⟨rfl, hb⟩; refine ⟨_, rfl, ?_⟩; replace HB := Aside0.mk (below_step z0_ hb); (try clear hb)))
  go_ret
  exact ⟨z3_, z0_⟩

/-! ### impl_KidsOf: function 53 -/
def impl_KidsOf.l0 : Nat → List (S45) → Int → List Int → Int → Option (List Int)
 | 0, _, _, _, _ => none
 | k + 1, x0, x1, x5, x6 => (impl_endOf.f k x0 x1).bind fun t465 => (if x6 < t465 then (if 0 ≤ x6 then (if x6 < (x0.length : Int) then (if 0 ≤ x1 then (if x1 < (x0.length : Int) then (if ((rd_T45 x0 x6).f1) = (wrap64 (((rd_T45 x0 x1).f1) + 1)) then (if x5.length < 17592186044416 then (impl_KidsOf.l0 k x0 x1 (x5 ++ [x6]) (wrap64 (x6 + 1))) else (none)) else (impl_KidsOf.l0 k x0 x1 x5 (wrap64 (x6 + 1)))) else (none)) else (none)) else (none)) else (none)) else (some x5))
def impl_KidsOf.f (k : Nat) (l0 : List (S45)) (a1 : Int) : Option (List Int) := (some (([] : List Int) : List Int)).bind fun y461 => ((impl_hasNode.f k l0 a1).bind fun t464 => (if t464 = true then (impl_KidsOf.l0 k l0 a1 y461 (wrap64 (a1 + 1))) else (some y461)))
set_option maxHeartbeats 8000000 in
set_option maxRecDepth 100000 in
theorem impl_KidsOf.calls (k : Nat) (A0 : Option Addr) (c0 : Nat) (l0 : List (S45)) (a1 : Int) (r : List Int) (w : World) (hr0 : Kd.C k45 w A0 l0.length l0) (hc0 : l0.length ≤ c0) (h : impl_KidsOf.f k l0 a1 = some r) :
  Calls Try.prog 53 #[.slice A0 l0.length c0, .int .i64 a1] w fun e w' => ∃ v0_ : Value, e = .returned (v0_) ∧ Kd.R (Kd.int .i64) 3 w' w.heap.size (fun _ => True) v0_ r ∧ Below w.heap.size w w' := by
 have HR0 := Aside0.mk hr0
 have HC0 := Aside0.mk hc0
 clear hr0 hc0
 have HB := Aside0.mk (Below.refl w.heap.size w)
 have H : ((some (([] : List Int) : List Int)).bind fun y461 => ((impl_hasNode.f k l0 a1).bind fun t464 => (if t464 = true then (impl_KidsOf.l0 k l0 a1 y461 (wrap64 (a1 + 1))) else (some y461)))) = some r := h
 clear h
 first | ((with_reducible have hz_ := gy_ H); obtain ⟨y461, Ny461, H⟩ := hz_) | (generalize hy_ : ((([] : List Int)) : List Int) = y461 at H; have Ny461 := Aside0.mk hy_.symm; clear hy_)
 obtain ⟨t464, A3, H⟩ := bnd_ H
 by_cases c4 : t464 = true
 ·subst c4
  replace H := ift_ H
  have H' := Aside0.mk H
  clear H
  go_enter Try.func53, Try.ntmps53
  go_wp2_with (first | ((with_reducible refine gate_dst (N := 7) rfl ?_); refine Kd.R_lit (Kd.int .i64) _ 3 ?hg (N := 7) ?hd (xs := ([] : List Int)) (inner := []) (ok := fun _ => True) (okp := fun _ => True) ?hr ?hp (fun _ hk => hk) trivial (Below.refl _ _) (Nat.le_refl _) (by simp) ?_; (case hd => rfl); (case hg => rfl); (case hr => exact z10_); (case hp => exact z75_); intro v462 w5 ho6 hb hg_ hnew_; clear hg_ hnew_; (first | rw [← Ny461.out] at ho6 | (simp only [Int.reduceToNat] at ho6; rw [← Ny461.out] at ho6)); have HO463 := Aside0.mk (Kd.R_lower ho6 (below_size z0_)); replace HB := Aside0.mk (below_step z0_ hb); clear hb ho6) | (go_at_call 79; (with_reducible refine (impl_hasNode.calls k _ _ l0 a1 true _ ?side1 ?side2 A3.out).mono ?_); (case side1 => exact z2_); (case side2 => exact HC0.out); rintro e w7 ⟨rfl, hb⟩; replace HO463 := Aside0.mk (Kd.R_below z73_ hb); replace HB := Aside0.mk (below_step z0_ hb); (try clear hb)))
  repeat (go_quiet (first | ((with_reducible refine gate_dst (N := 7) rfl ?_); refine Kd.R_lit (Kd.int .i64) _ 3 ?hg (N := 7) ?hd (xs := ([] : List Int)) (inner := []) (ok := fun _ => True) (okp := fun _ => True) ?hr ?hp (fun _ hk => hk) trivial (Below.refl _ _) (Nat.le_refl _) (by simp) ?_; (case hd => rfl); (case hg => rfl); (case hr => exact z10_); (case hp => exact z75_); intro v462 w5 ho6 hb hg_ hnew_; clear hg_ hnew_; (first | rw [← Ny461.out] at ho6 | (simp only [Int.reduceToNat] at ho6; rw [← Ny461.out] at ho6)); have HO463 := Aside0.mk (Kd.R_lower ho6 (below_size z0_)); replace HB := Aside0.mk (below_step z0_ hb); clear hb ho6) | (go_at_call 79; (with_reducible refine (impl_hasNode.calls k _ _ l0 a1 true _ ?side1 ?side2 A3.out).mono ?_); (case side1 => exact z2_); (case side2 => exact HC0.out); rintro e w7 ⟨rfl, hb⟩; replace HO463 := Aside0.mk (Kd.R_below z73_ hb); replace HB := Aside0.mk (below_step z0_ hb); (try clear hb))); try go_wp2_with (first | ((with_reducible refine gate_dst (N := 7) rfl ?_); refine Kd.R_lit (Kd.int .i64) _ 3 ?hg (N := 7) ?hd (xs := ([] : List Int)) (inner := []) (ok := fun _ => True) (okp := fun _ => True) ?hr ?hp (fun _ hk => hk) trivial (Below.refl _ _) (Nat.le_refl _) (by simp) ?_; (case hd => rfl); (case hg => rfl); (case hr => exact z10_); (case hp => exact z75_); intro v462 w5 ho6 hb hg_ hnew_; clear hg_ hnew_; (first | rw [← Ny461.out] at ho6 | (simp only [Int.reduceToNat] at ho6; rw [← Ny461.out] at ho6)); have HO463 := Aside0.mk (Kd.R_lower ho6 (below_size z0_)); replace HB := Aside0.mk (below_step z0_ hb); clear hb ho6) | (go_at_call 79; (with_reducible refine (impl_hasNode.calls k _ _ l0 a1 true _ ?side1 ?side2 A3.out).mono ?_); (case side1 => exact z2_); (case side2 => exact HC0.out); rintro e w7 ⟨rfl, hb⟩; replace HO463 := Aside0.mk (Kd.R_below z73_ hb); replace HB := Aside0.mk (below_step z0_ hb); (try clear hb))))
  go_loopg [5, 6] k (fun kq v5 v6 w' => ∃ (x5_1 : List Int) (x6_1 : Int), v6 = .int .i64 x6_1 ∧ Aside0 (impl_KidsOf.l0 kq l0 a1 x5_1 x6_1 = some r) ∧ Aside0 (kq ≤ k) ∧ Aside0 (Kd.R (Kd.int .i64) 3 w' w.heap.size (fun _ => True) v5 x5_1) ∧ Aside0 (Below w.heap.size w w'))
  case atStart => exact ⟨(y461), (wrap64 (a1 + 1)), z8_, H', ⟨Nat.le_refl _⟩, ⟨z73_⟩, ⟨z0_⟩⟩
  case round =>
   clear H'
   try clear p2
   try clear c4
   try clear c5
   try clear p6
   obtain ⟨x5_1, x6_1, rfl, HA, HK1, HO_5, HB⟩ := hrel
   cases gk with
   | zero => exact absurd HA.out (by simp [impl_KidsOf.l0])
   | succ k1 =>
    have H := HA.out
    clear HA
    simp only [impl_KidsOf.l0] at H
    obtain ⟨t465, A8, H⟩ := bnd_ H
    by_cases c9 : x6_1 < t465
    ·rw [if_pos c9] at H
     have c9b0 := decide_eq_true c9
     clear c9
     obtain ⟨c10b0, H⟩ := ifd_ H
     obtain ⟨c11b0, H⟩ := ifd_ H
     obtain ⟨c12b0, H⟩ := ifd_ H
     obtain ⟨c13b0, H⟩ := ifd_ H
     by_cases c14 : ((rd_T45 l0 x6_1).f1) = (wrap64 (((rd_T45 l0 a1).f1) + 1))
     ·rw [if_pos c14] at H
      have c14b0 : (((rd_T45 l0 x6_1).f1) == (wrap64 (((rd_T45 l0 a1).f1) + 1))) = true := beq_iff_eq.mpr c14
      have c14b1 : (((rd_T45 l0 x6_1).f1) != (wrap64 (((rd_T45 l0 a1).f1) + 1))) = false := bne_eq_false_iff_eq.mpr c14
      clear c14
      obtain ⟨c15, H⟩ := ifs_ H
      have LMc15 := Aside0.mk c15
      clear c15
      first | ((with_reducible have hz_ := gy_ H); obtain ⟨y468, Ny468, H⟩ := hz_) | (generalize hy_ : ((x5_1 ++ [x6_1]) : List Int) = y468 at H; have Ny468 := Aside0.mk hy_.symm; clear hy_)
      have H' := Aside0.mk H
      clear H
      go_wp2_with (first | (go_at_call 80; (with_reducible refine (impl_endOf.calls k1 _ _ l0 a1 t465 _ ?side1 ?side2 A8.out).mono ?_); (case side1 => exact z2_); (case side2 => exact HC0.out); rintro e w' ⟨rfl, ⟨nd, rfl⟩⟩; (try first | exact ⟨rfl, _, World.drewN_drewN _ _ _⟩ | exact ⟨rfl, _, Eq.trans (World.drewN_drewN _ _ _) (congrArg (World.drewN _) (Nat.add_assoc _ _ _))⟩); have p466 : 0 ≤ (x6_1 : Int) := odt_; have q466 : x6_1 < (l0.length : Int) := odt_; obtain ⟨ad466, e466, hx466_0, hx466_1⟩ := at_T45 HR0.out x6_1 p466 q466; cases e466; replace hx466_0 := (HB.out.cell (World.block_lt_of_cell? w _ hx466_0)).trans hx466_0; replace hx466_1 := (HB.out.cell (World.block_lt_of_cell? w _ hx466_1)).trans hx466_1; replace p466 := eq_true p466; replace q466 := eq_true q466; have p467 : 0 ≤ (a1 : Int) := odt_; have q467 : a1 < (l0.length : Int) := odt_; obtain ⟨ad467, e467, hx467_0, hx467_1⟩ := at_T45 HR0.out a1 p467 q467; obtain rfl : ad466 = ad467 := (by injection e467); replace hx467_0 := (HB.out.cell (World.block_lt_of_cell? w _ hx467_0)).trans hx467_0; replace hx467_1 := (HB.out.cell (World.block_lt_of_cell? w _ hx467_1)).trans hx467_1; replace p467 := eq_true p467; replace q467 := eq_true q467) | ((with_reducible refine gate_builtin (b := .append) (xs := #[.tmp 34, .tmp 36]) rfl ?_); at_builtin; refine Kd.R_append (Kd.int .i64) (w0 := w) w.heap.size rfl (.tmp 34) (.tmp 36) 31 3 (.int .i64 0) 8 rfl Try.underlying31 info3 rfl (by decide) (by omega) u5 x5_1 x6_1 [.int .i64 x6_1] (fun _ => True) (fun _ => False) rfl rfl ?aP (fun _ hk => hk.elim) ?aF ?aO ?aB ?aS ?aL ?_; (case aP => exact rfl); (case aB => exact z16_); (case aF => exact z87_); (case aO => exact z81_); (case aS => exact z11_); (case aL => have := LMc15.out; omega); intro v469 w16 ho hb hg hat; rw [← Ny468.out] at ho; replace HB := Aside0.mk (hb); have HO470 := Aside0.mk (ho); clear HO_5; clear ho hb hg hat))
      repeat (go_quiet (first | (go_at_call 80; (with_reducible refine (impl_endOf.calls k1 _ _ l0 a1 t465 _ ?side1 ?side2 A8.out).mono ?_); (case side1 => exact z2_); (case side2 => exact HC0.out); rintro e w' ⟨rfl, ⟨nd, rfl⟩⟩; (try first | exact ⟨rfl, _, World.drewN_drewN _ _ _⟩ | exact ⟨rfl, _, Eq.trans (World.drewN_drewN _ _ _) (congrArg (World.drewN _) (Nat.add_assoc _ _ _))⟩); have p466 : 0 ≤ (x6_1 : Int) := odt_; have q466 : x6_1 < (l0.length : Int) := odt_; obtain ⟨ad466, e466, hx466_0, hx466_1⟩ := at_T45 HR0.out x6_1 p466 q466; cases e466; replace hx466_0 := (HB.out.cell (World.block_lt_of_cell? w _ hx466_0)).trans hx466_0; replace hx466_1 := (HB.out.cell (World.block_lt_of_cell? w _ hx466_1)).trans hx466_1; replace p466 := eq_true p466; replace q466 := eq_true q466; have p467 : 0 ≤ (a1 : Int) := odt_; have q467 : a1 < (l0.length : Int) := odt_; obtain ⟨ad467, e467, hx467_0, hx467_1⟩ := at_T45 HR0.out a1 p467 q467; obtain rfl : ad466 = ad467 := (by injection e467); replace hx467_0 := (HB.out.cell (World.block_lt_of_cell? w _ hx467_0)).trans hx467_0; replace hx467_1 := (HB.out.cell (World.block_lt_of_cell? w _ hx467_1)).trans hx467_1; replace p467 := eq_true p467; replace q467 := eq_true q467) | ((with_reducible refine gate_builtin (b := .append) (xs := #[.tmp 34, .tmp 36]) rfl ?_); at_builtin; refine Kd.R_append (Kd.int .i64) (w0 := w) w.heap.size rfl (.tmp 34) (.tmp 36) 31 3 (.int .i64 0) 8 rfl Try.underlying31 info3 rfl (by decide) (by omega) u5 x5_1 x6_1 [.int .i64 x6_1] (fun _ => True) (fun _ => False) rfl rfl ?aP (fun _ hk => hk.elim) ?aF ?aO ?aB ?aS ?aL ?_; (case aP => exact rfl); (case aB => exact z16_); (case aF => exact z87_); (case aO => exact z81_); (case aS => exact z11_); (case aL => have := LMc15.out; omega); intro v469 w16 ho hb hg hat; rw [← Ny468.out] at ho; replace HB := Aside0.mk (hb); have HO470 := Aside0.mk (ho); clear HO_5; clear ho hb hg hat)); try go_wp2_with (first | (go_at_call 80; (with_reducible refine (impl_endOf.calls k1 _ _ l0 a1 t465 _ ?side1 ?side2 A8.out).mono ?_); (case side1 => exact z2_); (case side2 => exact HC0.out); rintro e w' ⟨rfl, ⟨nd, rfl⟩⟩; (try first | exact ⟨rfl, _, World.drewN_drewN _ _ _⟩ | exact ⟨rfl, _, Eq.trans (World.drewN_drewN _ _ _) (congrArg (World.drewN _) (Nat.add_assoc _ _ _))⟩); have p466 : 0 ≤ (x6_1 : Int) := odt_; have q466 : x6_1 < (l0.length : Int) := odt_; obtain ⟨ad466, e466, hx466_0, hx466_1⟩ := at_T45 HR0.out x6_1 p466 q466; cases e466; replace hx466_0 := (HB.out.cell (World.block_lt_of_cell? w _ hx466_0)).trans hx466_0; replace hx466_1 := (HB.out.cell (World.block_lt_of_cell? w _ hx466_1)).trans hx466_1; replace p466 := eq_true p466; replace q466 := eq_true q466; have p467 : 0 ≤ (a1 : Int) := odt_; have q467 : a1 < (l0.length : Int) := odt_; obtain ⟨ad467, e467, hx467_0, hx467_1⟩ := at_T45 HR0.out a1 p467 q467; obtain rfl : ad466 = ad467 := (by injection e467); replace hx467_0 := (HB.out.cell (World.block_lt_of_cell? w _ hx467_0)).trans hx467_0; replace hx467_1 := (HB.out.cell (World.block_lt_of_cell? w _ hx467_1)).trans hx467_1; replace p467 := eq_true p467; replace q467 := eq_true q467) | ((with_reducible refine gate_builtin (b := .append) (xs := #[.tmp 34, .tmp 36]) rfl ?_); at_builtin; refine Kd.R_append (Kd.int .i64) (w0 := w) w.heap.size rfl (.tmp 34) (.tmp 36) 31 3 (.int .i64 0) 8 rfl Try.underlying31 info3 rfl (by decide) (by omega) u5 x5_1 x6_1 [.int .i64 x6_1] (fun _ => True) (fun _ => False) rfl rfl ?aP (fun _ hk => hk.elim) ?aF ?aO ?aB ?aS ?aL ?_; (case aP => exact rfl); (case aB => exact z16_); (case aF => exact z87_); (case aO => exact z81_); (case aS => exact z11_); (case aL => have := LMc15.out; omega); intro v469 w16 ho hb hg hat; rw [← Ny468.out] at ho; replace HB := Aside0.mk (hb); have HO470 := Aside0.mk (ho); clear HO_5; clear ho hb hg hat)))
      go_roundg k1
      case measure => have := HK1.out; omega
      case rel => exact ⟨(y468), (wrap64 (x6_1 + 1)), z8_, H', ⟨z93_⟩, ⟨by (with_reducible repeat (first | apply Kd.R_alloc | apply Kd.R_drewN | apply Kd.R_drew)); exact HO470.out⟩, ⟨z0_⟩⟩
     ·rw [if_neg c14] at H
      have c14b0 : (((rd_T45 l0 x6_1).f1) == (wrap64 (((rd_T45 l0 a1).f1) + 1))) = false := beq_eq_false_iff_ne.mpr c14
      have c14b1 : (((rd_T45 l0 x6_1).f1) != (wrap64 (((rd_T45 l0 a1).f1) + 1))) = true := bne_iff_ne.mpr c14
      have H' := Aside0.mk H
      clear H
      go_wp2_with (first | (go_at_call 80; (with_reducible refine (impl_endOf.calls k1 _ _ l0 a1 t465 _ ?side1 ?side2 A8.out).mono ?_); (case side1 => exact z2_); (case side2 => exact HC0.out); rintro e w' ⟨rfl, ⟨nd, rfl⟩⟩; (try first | exact ⟨rfl, _, World.drewN_drewN _ _ _⟩ | exact ⟨rfl, _, Eq.trans (World.drewN_drewN _ _ _) (congrArg (World.drewN _) (Nat.add_assoc _ _ _))⟩); have p466 : 0 ≤ (x6_1 : Int) := odt_; have q466 : x6_1 < (l0.length : Int) := odt_; obtain ⟨ad466, e466, hx466_0, hx466_1⟩ := at_T45 HR0.out x6_1 p466 q466; cases e466; replace hx466_0 := (HB.out.cell (World.block_lt_of_cell? w _ hx466_0)).trans hx466_0; replace hx466_1 := (HB.out.cell (World.block_lt_of_cell? w _ hx466_1)).trans hx466_1; replace p466 := eq_true p466; replace q466 := eq_true q466; have p467 : 0 ≤ (a1 : Int) := odt_; have q467 : a1 < (l0.length : Int) := odt_; obtain ⟨ad467, e467, hx467_0, hx467_1⟩ := at_T45 HR0.out a1 p467 q467; obtain rfl : ad466 = ad467 := (by injection e467); replace hx467_0 := (HB.out.cell (World.block_lt_of_cell? w _ hx467_0)).trans hx467_0; replace hx467_1 := (HB.out.cell (World.block_lt_of_cell? w _ hx467_1)).trans hx467_1; replace p467 := eq_true p467; replace q467 := eq_true q467))
      repeat (go_quiet (first | (go_at_call 80; (with_reducible refine (impl_endOf.calls k1 _ _ l0 a1 t465 _ ?side1 ?side2 A8.out).mono ?_); (case side1 => exact z2_); (case side2 => exact HC0.out); rintro e w' ⟨rfl, ⟨nd, rfl⟩⟩; (try first | exact ⟨rfl, _, World.drewN_drewN _ _ _⟩ | exact ⟨rfl, _, Eq.trans (World.drewN_drewN _ _ _) (congrArg (World.drewN _) (Nat.add_assoc _ _ _))⟩); have p466 : 0 ≤ (x6_1 : Int) := odt_; have q466 : x6_1 < (l0.length : Int) := odt_; obtain ⟨ad466, e466, hx466_0, hx466_1⟩ := at_T45 HR0.out x6_1 p466 q466; cases e466; replace hx466_0 := (HB.out.cell (World.block_lt_of_cell? w _ hx466_0)).trans hx466_0; replace hx466_1 := (HB.out.cell (World.block_lt_of_cell? w _ hx466_1)).trans hx466_1; replace p466 := eq_true p466; replace q466 := eq_true q466; have p467 : 0 ≤ (a1 : Int) := odt_; have q467 : a1 < (l0.length : Int) := odt_; obtain ⟨ad467, e467, hx467_0, hx467_1⟩ := at_T45 HR0.out a1 p467 q467; obtain rfl : ad466 = ad467 := (by injection e467); replace hx467_0 := (HB.out.cell (World.block_lt_of_cell? w _ hx467_0)).trans hx467_0; replace hx467_1 := (HB.out.cell (World.block_lt_of_cell? w _ hx467_1)).trans hx467_1; replace p467 := eq_true p467; replace q467 := eq_true q467)); try go_wp2_with (first | (go_at_call 80; (with_reducible refine (impl_endOf.calls k1 _ _ l0 a1 t465 _ ?side1 ?side2 A8.out).mono ?_); (case side1 => exact z2_); (case side2 => exact HC0.out); rintro e w' ⟨rfl, ⟨nd, rfl⟩⟩; (try first | exact ⟨rfl, _, World.drewN_drewN _ _ _⟩ | exact ⟨rfl, _, Eq.trans (World.drewN_drewN _ _ _) (congrArg (World.drewN _) (Nat.add_assoc _ _ _))⟩); have p466 : 0 ≤ (x6_1 : Int) := odt_; have q466 : x6_1 < (l0.length : Int) := odt_; obtain ⟨ad466, e466, hx466_0, hx466_1⟩ := at_T45 HR0.out x6_1 p466 q466; cases e466; replace hx466_0 := (HB.out.cell (World.block_lt_of_cell? w _ hx466_0)).trans hx466_0; replace hx466_1 := (HB.out.cell (World.block_lt_of_cell? w _ hx466_1)).trans hx466_1; replace p466 := eq_true p466; replace q466 := eq_true q466; have p467 : 0 ≤ (a1 : Int) := odt_; have q467 : a1 < (l0.length : Int) := odt_; obtain ⟨ad467, e467, hx467_0, hx467_1⟩ := at_T45 HR0.out a1 p467 q467; obtain rfl : ad466 = ad467 := (by injection e467); replace hx467_0 := (HB.out.cell (World.block_lt_of_cell? w _ hx467_0)).trans hx467_0; replace hx467_1 := (HB.out.cell (World.block_lt_of_cell? w _ hx467_1)).trans hx467_1; replace p467 := eq_true p467; replace q467 := eq_true q467)))
      go_roundg k1
      case measure => have := HK1.out; omega
      case rel => exact ⟨(x5_1), (wrap64 (x6_1 + 1)), z8_, H', ⟨z93_⟩, ⟨z36_⟩, ⟨z0_⟩⟩
    ·rw [if_neg c9] at H
     have c9b0 := decide_eq_false c9
     clear c9
     obtain rfl := Option.some.inj H
     go_wp2_with (first | (go_at_call 80; (with_reducible refine (impl_endOf.calls k1 _ _ l0 a1 t465 _ ?side1 ?side2 A8.out).mono ?_); (case side1 => exact z2_); (case side2 => exact HC0.out); rintro e w' ⟨rfl, ⟨nd, rfl⟩⟩; (try first | exact ⟨rfl, _, World.drewN_drewN _ _ _⟩ | exact ⟨rfl, _, Eq.trans (World.drewN_drewN _ _ _) (congrArg (World.drewN _) (Nat.add_assoc _ _ _))⟩)))
     repeat (go_quiet (first | (go_at_call 80; (with_reducible refine (impl_endOf.calls k1 _ _ l0 a1 t465 _ ?side1 ?side2 A8.out).mono ?_); (case side1 => exact z2_); (case side2 => exact HC0.out); rintro e w' ⟨rfl, ⟨nd, rfl⟩⟩; (try first | exact ⟨rfl, _, World.drewN_drewN _ _ _⟩ | exact ⟨rfl, _, Eq.trans (World.drewN_drewN _ _ _) (congrArg (World.drewN _) (Nat.add_assoc _ _ _))⟩))); try go_wp2_with (first | (go_at_call 80; (with_reducible refine (impl_endOf.calls k1 _ _ l0 a1 t465 _ ?side1 ?side2 A8.out).mono ?_); (case side1 => exact z2_); (case side2 => exact HC0.out); rintro e w' ⟨rfl, ⟨nd, rfl⟩⟩; (try first | exact ⟨rfl, _, World.drewN_drewN _ _ _⟩ | exact ⟨rfl, _, Eq.trans (World.drewN_drewN _ _ _) (congrArg (World.drewN _) (Nat.add_assoc _ _ _))⟩))))
     go_ret
     exact ⟨_, z3_, z36_, z0_⟩
 ·replace c4 := Bool.eq_false_iff.mpr c4
  subst c4
  replace H := iff_ H
  obtain rfl := Option.some.inj H
  go_enter Try.func53, Try.ntmps53
  go_wp2_with (first | ((with_reducible refine gate_dst (N := 7) rfl ?_); refine Kd.R_lit (Kd.int .i64) _ 3 ?hg (N := 7) ?hd (xs := ([] : List Int)) (inner := []) (ok := fun _ => True) (okp := fun _ => True) ?hr ?hp (fun _ hk => hk) trivial (Below.refl _ _) (Nat.le_refl _) (by simp) ?_; (case hd => rfl); (case hg => rfl); (case hr => exact z10_); (case hp => exact z75_); intro v462 w17 ho18 hb hg_ hnew_; clear hg_ hnew_; (first | rw [← Ny461.out] at ho18 | (simp only [Int.reduceToNat] at ho18; rw [← Ny461.out] at ho18)); have HO463 := Aside0.mk (Kd.R_lower ho18 (below_size z0_)); replace HB := Aside0.mk (below_step z0_ hb); clear hb ho18) | (go_at_call 79; (with_reducible refine (impl_hasNode.calls k _ _ l0 a1 false _ ?side1 ?side2 A3.out).mono ?_); (case side1 => exact z2_); (case side2 => exact HC0.out); rintro e w19 ⟨rfl, hb⟩; replace HO463 := Aside0.mk (Kd.R_below z73_ hb); replace HB := Aside0.mk (below_step z0_ hb); (try clear hb)))
  repeat (go_quiet (first | ((with_reducible refine gate_dst (N := 7) rfl ?_); refine Kd.R_lit (Kd.int .i64) _ 3 ?hg (N := 7) ?hd (xs := ([] : List Int)) (inner := []) (ok := fun _ => True) (okp := fun _ => True) ?hr ?hp (fun _ hk => hk) trivial (Below.refl _ _) (Nat.le_refl _) (by simp) ?_; (case hd => rfl); (case hg => rfl); (case hr => exact z10_); (case hp => exact z75_); intro v462 w17 ho18 hb hg_ hnew_; clear hg_ hnew_; (first | rw [← Ny461.out] at ho18 | (simp only [Int.reduceToNat] at ho18; rw [← Ny461.out] at ho18)); have HO463 := Aside0.mk (Kd.R_lower ho18 (below_size z0_)); replace HB := Aside0.mk (below_step z0_ hb); clear hb ho18) | (go_at_call 79; (with_reducible refine (impl_hasNode.calls k _ _ l0 a1 false _ ?side1 ?side2 A3.out).mono ?_); (case side1 => exact z2_); (case side2 => exact HC0.out); rintro e w19 ⟨rfl, hb⟩; replace HO463 := Aside0.mk (Kd.R_below z73_ hb); replace HB := Aside0.mk (below_step z0_ hb); (try clear hb))); try go_wp2_with (first | ((with_reducible refine gate_dst (N := 7) rfl ?_); refine Kd.R_lit (Kd.int .i64) _ 3 ?hg (N := 7) ?hd (xs := ([] : List Int)) (inner := []) (ok := fun _ => True) (okp := fun _ => True) ?hr ?hp (fun _ hk => hk) trivial (Below.refl _ _) (Nat.le_refl _) (by simp) ?_; (case hd => rfl); (case hg => rfl); (case hr => exact z10_); (case hp => exact z75_); intro v462 w17 ho18 hb hg_ hnew_; clear hg_ hnew_; (first | rw [← Ny461.out] at ho18 | (simp only [Int.reduceToNat] at ho18; rw [← Ny461.out] at ho18)); have HO463 := Aside0.mk (Kd.R_lower ho18 (below_size z0_)); replace HB := Aside0.mk (below_step z0_ hb); clear hb ho18) | (go_at_call 79; (with_reducible refine (impl_hasNode.calls k _ _ l0 a1 false _ ?side1 ?side2 A3.out).mono ?_); (case side1 => exact z2_); (case side2 => exact HC0.out); rintro e w19 ⟨rfl, hb⟩; replace HO463 := Aside0.mk (Kd.R_below z73_ hb); replace HB := Aside0.mk (below_step z0_ hb); (try clear hb))))
  go_ret
  exact ⟨_, z3_, z73_, z0_⟩

/-! ### impl_NodeAt: function 93 -/
def impl_NodeAt.l0 : Nat → List (S45) → Int → List Int → Int → Int → Option (Int)
 | 0, _, _, _, _, _ => none
 | k + 1, x0, x5, x12, x13, x14 => if x14 < x13 then (if 0 ≤ x14 then (if x14 < (x12.length : Int) then ((impl_KidsOf.f k x0 x5).bind fun t473 => ((impl_within.f (rd x12 x14) 0 (wrap64 ((t473.length : Int) - 1))).bind fun t476 => (if t476 = true then (if 0 ≤ (rd x12 x14) then (if (rd x12 x14) < (t473.length : Int) then (impl_NodeAt.l0 k x0 (rd t473 (rd x12 x14)) x12 x13 (wrap64 (x14 + 1))) else (none)) else (none)) else (some (-1))))) else (none)) else (none)) else (some x5)
def impl_NodeAt.f (k : Nat) (l0 : List (S45)) (l1 : List Int) : Option (Int) := (impl_TreeOk.f k l0).bind fun t471 => (if t471 = true then (impl_NodeAt.l0 k l0 0 l1 (l1.length : Int) 0) else (some (-1)))
set_option maxHeartbeats 8000000 in
set_option maxRecDepth 100000 in
theorem impl_NodeAt.calls (k : Nat) (A0 : Option Addr) (c0 : Nat) (l0 : List (S45)) (A1 : Option Addr) (c1 : Nat) (l1 : List Int) (r : Int) (w : World) (hr0 : Kd.C k45 w A0 l0.length l0) (hc0 : l0.length ≤ c0) (hr1 : Kd.C (Kd.int .i64) w A1 l1.length l1) (hc1 : l1.length ≤ c1) (h : impl_NodeAt.f k l0 l1 = some r) :
  Calls Try.prog 93 #[.slice A0 l0.length c0, .slice A1 l1.length c1] w fun e w' => e = .returned (.int .i64 r) ∧ Below w.heap.size w w' := by
 have HR0 := Aside0.mk hr0
 have HC0 := Aside0.mk hc0
 clear hr0 hc0
 have HR1 := Aside0.mk hr1
 have HC1 := Aside0.mk hc1
 clear hr1 hc1
 have HB := Aside0.mk (Below.refl w.heap.size w)
 have H : ((impl_TreeOk.f k l0).bind fun t471 => (if t471 = true then (impl_NodeAt.l0 k l0 0 l1 (l1.length : Int) 0) else (some (-1)))) = some r := h
 clear h
 obtain ⟨t471, A3, H⟩ := bnd_ H
 by_cases c4 : t471 = true
 ·subst c4
  replace H := ift_ H
  have H' := Aside0.mk H
  clear H
  go_enter Try.func93, Try.ntmps93
  go_wp2_with (first | ((with_reducible refine gate_callee (f := 40) rfl ?_); refine goesL_ (some 10) rfl rfl Try.func40 (by kernel_rfl) rfl #[.slice A0 l0.length c0] rfl z1_ ?_; (with_reducible refine (impl_TreeOk.calls k _ _ l0 true _ ?side1 ?side2 A3.out).mono ?_); (case side1 => exact z24_); (case side2 => exact HC0.out); rintro e w5 ⟨rfl, hb⟩; refine ⟨_, rfl, ?_⟩; replace HB := Aside0.mk (below_step z0_ hb); (try clear hb)))
  go_loopg [5, 14] k (fun kq v5 v14 w' => ∃ (x5_1 : Int) (x14_1 : Int), v5 = .int .i64 x5_1 ∧ v14 = .int .i64 x14_1 ∧ Aside0 (impl_NodeAt.l0 kq l0 x5_1 l1 (l1.length : Int) x14_1 = some r) ∧ Aside0 (kq ≤ k) ∧ Aside0 (Below w.heap.size w w'))
  case atStart => exact ⟨(0), (0), z8_, z8_, H', ⟨Nat.le_refl _⟩, ⟨z0_⟩⟩
  case round =>
   clear H'
   try clear c1
   try clear p2
   try clear c4
   obtain ⟨x5_1, x14_1, rfl, rfl, HA, HK1, HB⟩ := hrel
   cases gk with
   | zero => exact absurd HA.out (by simp [impl_NodeAt.l0])
   | succ k1 =>
    have H := HA.out
    clear HA
    simp only [impl_NodeAt.l0] at H
    by_cases c6 : x14_1 < (l1.length : Int)
    ·rw [if_pos c6] at H
     have c6b0 := decide_eq_true c6
     clear c6
     obtain ⟨c7b0, H⟩ := ifd_ H
     obtain ⟨c8b0, H⟩ := ifd_ H
     obtain ⟨t473, A9, H⟩ := bnd_ H
     obtain ⟨t476, A10, H⟩ := bnd_ H
     by_cases c11 : t476 = true
     ·subst c11
      replace H := ift_ H
      obtain ⟨c12b0, H⟩ := ifd_ H
      obtain ⟨c13b0, H⟩ := ifd_ H
      have H' := Aside0.mk H
      clear H
      have p472 : 0 ≤ (x14_1 : Int) := odt_
      have q472 : x14_1 < (l1.length : Int) := odt_
      obtain ⟨ad472, e472, hx472_0⟩ := Kd.at_int HR1.out x14_1 p472 q472
      cases e472
      replace hx472_0 := (HB.out.cell (World.block_lt_of_cell? w _ hx472_0)).trans hx472_0
      replace p472 := eq_true p472
      replace q472 := eq_true q472
      go_wp2_with (first | ((with_reducible refine gate_callee (f := 53) rfl ?_); refine goesL_ (some 20) rfl rfl Try.func53 (by kernel_rfl) rfl #[.slice A0 l0.length c0, .int .i64 x5_1] rfl z1_ ?_; (with_reducible refine (impl_KidsOf.calls k1 _ _ l0 x5_1 t473 _ ?side1 ?side2 A9.out).mono ?_); (case side1 => exact z2_); (case side2 => exact HC0.out); rintro e w14 ⟨v474, rfl, ho0, hb⟩; refine ⟨_, rfl, ?_⟩; have HO475 := Aside0.mk (Kd.R_lower ho0 (below_size z0_)); replace HB := Aside0.mk (below_step z0_ hb); (try clear hb ho0); obtain ⟨Ao15, co15, eo15⟩ := Kd.R_slice HO475.out; subst eo15) | ((with_reducible refine gate_callee (f := 67) rfl ?_); refine goesL_ (some 25) rfl rfl Try.func67 (by kernel_rfl) rfl #[.int .i64 (rd l1 x14_1), .int .i64 0, .int .i64 (wrap64 ((t473.length : Int) - 1))] rfl z1_ ?_; (with_reducible refine (impl_within.calls (rd l1 x14_1) 0 (wrap64 ((t473.length : Int) - 1)) true _ A10.out).mono ?_); rintro e w' ⟨rfl, ⟨nd, rfl⟩⟩; refine ⟨_, rfl, ?_⟩; have p477 : 0 ≤ ((rd l1 x14_1) : Int) := odt_; have q477 : (rd l1 x14_1) < (t473.length : Int) := odt_; obtain ⟨ad477, e477, hx477_0⟩ := Kd.at_int (Kd.R_reads' HO475.out).2.2 (rd l1 x14_1) p477 q477; cases e477; replace p477 := eq_true p477; replace q477 := eq_true q477))
      go_roundg k1
      case measure => have := HK1.out; omega
      case rel => exact ⟨(rd t473 (rd l1 x14_1)), (wrap64 (x14_1 + 1)), z8_, z8_, H', ⟨z93_⟩, ⟨z0_⟩⟩
     ·replace c11 := Bool.eq_false_iff.mpr c11
      subst c11
      replace H := iff_ H
      obtain rfl := Option.some.inj H
      have p472 : 0 ≤ (x14_1 : Int) := odt_
      have q472 : x14_1 < (l1.length : Int) := odt_
      obtain ⟨ad472, e472, hx472_0⟩ := Kd.at_int HR1.out x14_1 p472 q472
      cases e472
      replace hx472_0 := (HB.out.cell (World.block_lt_of_cell? w _ hx472_0)).trans hx472_0
      replace p472 := eq_true p472
      replace q472 := eq_true q472
      go_wp2_with (first | ((with_reducible refine gate_callee (f := 53) rfl ?_); refine goesL_ (some 20) rfl rfl Try.func53 (by kernel_rfl) rfl #[.slice A0 l0.length c0, .int .i64 x5_1] rfl z1_ ?_; (with_reducible refine (impl_KidsOf.calls k1 _ _ l0 x5_1 t473 _ ?side1 ?side2 A9.out).mono ?_); (case side1 => exact z2_); (case side2 => exact HC0.out); rintro e w16 ⟨v474, rfl, ho0, hb⟩; refine ⟨_, rfl, ?_⟩; have HO475 := Aside0.mk (Kd.R_lower ho0 (below_size z0_)); replace HB := Aside0.mk (below_step z0_ hb); (try clear hb ho0); obtain ⟨Ao17, co17, eo17⟩ := Kd.R_slice HO475.out; subst eo17) | ((with_reducible refine gate_callee (f := 67) rfl ?_); refine goesL_ (some 25) rfl rfl Try.func67 (by kernel_rfl) rfl #[.int .i64 (rd l1 x14_1), .int .i64 0, .int .i64 (wrap64 ((t473.length : Int) - 1))] rfl z1_ ?_; (with_reducible refine (impl_within.calls (rd l1 x14_1) 0 (wrap64 ((t473.length : Int) - 1)) false _ A10.out).mono ?_); rintro e w' ⟨rfl, ⟨nd, rfl⟩⟩; refine ⟨_, rfl, ?_⟩))
      go_ret
      exact ⟨z3_, z0_⟩
    ·rw [if_neg c6] at H
     have c6b0 := decide_eq_false c6
     clear c6
     obtain rfl := Option.some.inj H
     go_wp2
     go_ret
     exact ⟨z3_, z0_⟩
 ·replace c4 := Bool.eq_false_iff.mpr c4
  subst c4
  replace H := iff_ H
  obtain rfl := Option.some.inj H
  go_enter Try.func93, Try.ntmps93
  go_wp2_with (first | ((with_reducible refine gate_callee (f := 40) rfl ?_); refine goesL_ (some 10) rfl rfl Try.func40 (by kernel_rfl) rfl #[.slice A0 l0.length c0] rfl z1_ ?_; (with_reducible refine (impl_TreeOk.calls k _ _ l0 false _ ?side1 ?side2 A3.out).mono ?_); (case side1 => exact z24_); (case side2 => exact HC0.out); rintro e w18 ⟨rfl, hb⟩; refine ⟨_, rfl, ?_⟩; replace HB := Aside0.mk (below_step z0_ hb); (try clear hb)))
  go_ret
  exact ⟨z3_, z0_⟩

end Go.Proofs.Ytbiffnahknkoiaa.PFnExactPatch
