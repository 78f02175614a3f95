/- Laid by a program of this session out of the kit's print for the law FnIdle: what it says of the machine is proved here, function by function; each contract under the conditions that it names. -/
import Derived.Test.YtmbhlfcpdbbogaaMFnIdlex0
import Derived.Test.YtmbhlfcpdbbogaaMFnIdlex1
import Derived.Test.YtmbhlfcpdbbogaaMFnIdlex3
import Derived.Test.YtmbhlfcpdbbogaaMFnIdlex4
import Derived.Test.YtmbhlfcpdbbogaaMFnIdlex7
import Derived.Test.YtmbhlfcpdbbogaaMFnIdlex10
import Derived.Test.YtmbhlfcpdbbogaaMFnIdlex14
import Derived.Deep.RegionLaw
import Derived.Lib.Overlaps
import Derived.Laws.Externs
import Derived.Lib.AppendZeros
import Derived.Lib.AppendZerosOnto
import Derived.Laws.NewBlocks
import Derived.Lib.SliceRun
import Derived.Test.YtmbhlfcpdbbogaaSliceOps
namespace Go.Proofs.Ytmbhlfcpdbbogaa.PFnIdle
open Go.RowKit Go.Proofs.YtmbhlfcpdbbogaaW.PrintWords Go.Proofs.YtmbhlfcpdbbogaaW.PrintLast Go.Proofs.YtmbhlfcpdbbogaaW.PrintMore Go.Proofs.Ytmbhlfcpdbbogaa.SliceOps
attribute [local go_sem] max2_int min2_int max_two min_two max_three min_three max_four min_four   -- for this text's walks alone
set_option linter.unusedVariables false
set_option linter.unusedSimpArgs false

attribute [local go_sem high] eqA63
/-! ### impl_Node: function 84 -/
def impl_Node.l0 : Nat → List (S63) → List (S63) → Int → Int → Option (Bool)
 | 0, _, _, _, _ => none
 | k + 1, x0, x1, x12, x13 => if x13 < x12 then (if 0 ≤ x13 then (if x13 < (x0.length : Int) then (if x13 < (x1.length : Int) then (if (!(((rd_T63 x0 x13).f0) == ((rd_T63 x1 x13).f0)) || (!(((rd_T63 x0 x13).f1) == ((rd_T63 x1 x13).f1)))) = true then (some false) else (impl_Node.l0 k x0 x1 x12 (wrap64 (x13 + 1)))) else (none)) else (none)) else (none)) else (some true)
def impl_Node.f (k : Nat) (l0 : List (S63)) (l1 : List (S63)) : Option (Bool) := if (l0.length : Int) = (l1.length : Int) then (impl_Node.l0 k l0 l1 (l0.length : Int) 0) else (some false)
theorem impl_Node.mono_l : ∀ k, (∀ y0 y1 y2 y3, LeO (impl_Node.l0 k y0 y1 y2 y3) (impl_Node.l0 (k + 1) y0 y1 y2 y3))
 | 0 => fun _ _ _ _ r h => by simp [impl_Node.l0] at h
 | k + 1 => by
  have ih0 := impl_Node.mono_l k
  ·intro y0 y1 y2 y3
   unfold impl_Node.l0
   repeat' first | (with_reducible first | exact ih0 _ _ _ _ | exact LeO.refl _ | exact LeO.none _ | refine LeO.ite ?_ ?_ | refine LeO.bind ?_ (fun _ => ?_)) | exact ih0 _ _ _ _ | exact LeO.none _ | refine LeO.ite ?_ ?_ | refine LeO.bind ?_ (fun _ => ?_)
theorem impl_Node.mono : ∀ a0 a1 k, LeO (impl_Node.f k a0 a1) (impl_Node.f (k + 1) a0 a1) := by
 intro a0 a1 k
 have ih0 := impl_Node.mono_l k
 unfold impl_Node.f
 repeat' first | (with_reducible first | exact ih0 _ _ _ _ | exact LeO.refl _ | exact LeO.none _ | refine LeO.ite ?_ ?_ | refine LeO.bind ?_ (fun _ => ?_)) | exact ih0 _ _ _ _ | exact LeO.none _ | refine LeO.ite ?_ ?_ | refine LeO.bind ?_ (fun _ => ?_)
set_option maxHeartbeats 8000000 in
set_option maxRecDepth 100000 in
theorem impl_Node.calls (k : Nat) (A0 : Option Addr) (c0 : Nat) (l0 : List (S63)) (A1 : Option Addr) (c1 : Nat) (l1 : List (S63)) (r : Bool) (w : World) (hr0 : Kd.C k63 w A0 l0.length l0) (hc0 : l0.length ≤ c0) (hr1 : Kd.C k63 w A1 l1.length l1) (hc1 : l1.length ≤ c1) (h : impl_Node.f k l0 l1 = some r) :
  Calls Try.prog 84 #[.slice A0 l0.length c0, .slice A1 l1.length c1] w fun e w' => e = .returned (.bool r) ∧ Drawn0 w w' := by
 have hu63 := Try.underlying63
 have HR0 := Aside0.mk hr0
 have HC0 := Aside0.mk hc0
 clear hr0 hc0
 have HR1 := Aside0.mk hr1
 have HC1 := Aside0.mk hc1
 clear hr1 hc1
 have H : (if (l0.length : Int) = (l1.length : Int) then (impl_Node.l0 k l0 l1 (l0.length : Int) 0) else (some false)) = some r := h
 clear h
 by_cases c3 : (l0.length : Int) = (l1.length : Int)
 ·rw [if_pos c3] at H
  have c3b0 : ((l0.length : Int) == (l1.length : Int)) = true := beq_iff_eq.mpr c3
  have c3b1 : ((l0.length : Int) != (l1.length : Int)) = false := bne_eq_false_iff_eq.mpr c3
  have c3b2 : (l0.length == l1.length) = true := by first | simpa using c3 | (simp at c3 ⊢; omega)
  clear c3
  have H' := Aside0.mk H
  clear H
  go_enter Try.func84, Try.ntmps84
  go_wp2
  repeat (go_quiet (fail); try go_wp2)
  go_loopg [13] k (fun kq v13 w' => ∃ (x13_1 : Int), v13 = .int .i64 x13_1 ∧ Aside0 (impl_Node.l0 kq l0 l1 (l0.length : Int) x13_1 = some r) ∧ Aside0 (kq ≤ k) ∧ Drawn0 w w')
  case atStart => exact ⟨(0), z14_, H', ⟨Nat.le_refl _⟩, z47_⟩
  case round =>
   clear H'
   try clear c1
   try clear p2
   try clear c3
   try clear c3b0
   try clear c3b1
   try clear c3b2
   obtain ⟨x13_1, rfl, HA, HK1, ⟨m1, rfl⟩⟩ := hrel
   cases gk with
   | zero => exact absurd HA.out (by simp [impl_Node.l0])
   | succ k1 =>
    have H := HA.out
    clear HA
    simp only [impl_Node.l0] at H
    by_cases c4 : x13_1 < (l0.length : Int)
    ·rw [if_pos c4] at H
     have c4b0 : decide (x13_1 < (l0.length : Int)) = true := decide_eq_true c4
     clear c4
     obtain ⟨c5b0, H⟩ := ifd_ H
     obtain ⟨c6b0, H⟩ := ifd_ H
     obtain ⟨c7b0, H⟩ := ifd_ H
     by_cases c8 : (!(((rd_T63 l0 x13_1).f0) == ((rd_T63 l1 x13_1).f0)) || (!(((rd_T63 l0 x13_1).f1) == ((rd_T63 l1 x13_1).f1)))) = true
     ·rw [if_pos c8] at H
      have c8b0 : (!(((rd_T63 l0 x13_1).f0) == ((rd_T63 l1 x13_1).f0)) || (!(((rd_T63 l0 x13_1).f1) == ((rd_T63 l1 x13_1).f1)))) = true := c8
      clear c8
      obtain rfl := Option.some.inj H
      obtain ⟨p560, q560, ad560, e560, hx560_0, hx560_1⟩ := ato63_ HR0 x13_1
      cases e560
      obtain ⟨p561, q561, ad561, e561, hx561_0, hx561_1⟩ := ato63_ HR1 x13_1
      cases e561
      go_wp2
      repeat (go_quiet (fail); try go_wp2)
      go_ret
      exact ⟨z14_, z47_⟩
     ·rw [if_neg c8] at H
      have c8b0 : (!(((rd_T63 l0 x13_1).f0) == ((rd_T63 l1 x13_1).f0)) || (!(((rd_T63 l0 x13_1).f1) == ((rd_T63 l1 x13_1).f1)))) = false := by simpa using c8
      clear c8
      have H' := Aside0.mk H
      clear H
      obtain ⟨p560, q560, ad560, e560, hx560_0, hx560_1⟩ := ato63_ HR0 x13_1
      cases e560
      obtain ⟨p561, q561, ad561, e561, hx561_0, hx561_1⟩ := ato63_ HR1 x13_1
      cases e561
      go_wp2
      repeat (go_quiet (fail); try go_wp2)
      go_roundg k1
      case measure => have := HK1.out; omega
      case rel => exact ⟨(wrap64 (x13_1 + 1)), z14_, H', ⟨z84_⟩, z47_⟩
    ·rw [if_neg c4] at H
     have c4b0 : decide (x13_1 < (l0.length : Int)) = false := decide_eq_false c4
     clear c4
     obtain rfl := Option.some.inj H
     go_wp2
     repeat (go_quiet (fail); try go_wp2)
     go_ret
     exact ⟨z14_, z47_⟩
 ·rw [if_neg c3] at H
  have c3b0 : ((l0.length : Int) == (l1.length : Int)) = false := beq_eq_false_iff_ne.mpr c3
  have c3b1 : ((l0.length : Int) != (l1.length : Int)) = true := bne_iff_ne.mpr c3
  have c3b2 : (l0.length == l1.length) = false := by first | simpa using c3 | (simp at c3 ⊢; omega)
  obtain rfl := Option.some.inj H
  go_enter Try.func84, Try.ntmps84
  go_wp2
  repeat (go_quiet (fail); try go_wp2)
  go_ret
  exact ⟨z14_, z47_⟩

/-! ### impl_SameTree: function 42 -/
def impl_SameTree.f (k : Nat) (l0 : List (S63)) (l1 : List (S63)) : Option (Bool) := (impl_Node.f k l0 l1).bind fun t562 => (some t562)
theorem impl_SameTree.mono : ∀ a0 a1 k, LeO (impl_SameTree.f k a0 a1) (impl_SameTree.f (k + 1) a0 a1) := by
 intro a0 a1 k
 unfold impl_SameTree.f
 repeat' first | (with_reducible first | exact impl_Node.mono _ _ _ | exact LeO.refl _ | exact LeO.none _ | refine LeO.ite ?_ ?_ | refine LeO.bind ?_ (fun _ => ?_)) | exact impl_Node.mono _ _ _ | exact LeO.none _ | refine LeO.ite ?_ ?_ | refine LeO.bind ?_ (fun _ => ?_)
set_option maxHeartbeats 8000000 in
set_option maxRecDepth 100000 in
theorem impl_SameTree.calls (k : Nat) (A0 : Option Addr) (c0 : Nat) (l0 : List (S63)) (A1 : Option Addr) (c1 : Nat) (l1 : List (S63)) (r : Bool) (w : World) (hr0 : Kd.C k63 w A0 l0.length l0) (hc0 : l0.length ≤ c0) (hr1 : Kd.C k63 w A1 l1.length l1) (hc1 : l1.length ≤ c1) (h : impl_SameTree.f k l0 l1 = some r) :
  Calls Try.prog 42 #[.slice A0 l0.length c0, .slice A1 l1.length c1] w fun e w' => e = .returned (.bool r) ∧ Drawn0 w w' := by
 have HR0 := Aside0.mk hr0
 have HC0 := Aside0.mk hc0
 clear hr0 hc0
 have HR1 := Aside0.mk hr1
 have HC1 := Aside0.mk hc1
 clear hr1 hc1
 have H : ((impl_Node.f k l0 l1).bind fun t562 => (some t562)) = some r := h
 clear h
 obtain ⟨t562, A3, H⟩ := bnd_ H
 obtain rfl := Option.some.inj H
 go_enter Try.func42, Try.ntmps42
 go_wp2_with (first | ((with_reducible refine gate_callee (f := 84) rfl ?_); refine goesL_ (some 7) rfl rfl Try.func84 (by kernel_rfl) rfl #[.slice A0 l0.length c0, .slice A1 l1.length c1] rfl z1_ ?_; (with_reducible refine (impl_Node.calls k _ _ l0 _ _ l1 t562 _ ?side1 ?side2 ?side3 ?side4 A3.out).mono ?_); (case side1 => exact z15_); (case side2 => exact HC0.out); (case side3 => repeat (first | exact HR1.out | (with_reducible refine Kd.C_alloc ?_ _) | (with_reducible refine Kd.C_drewN ?_ _) | (with_reducible refine Kd.C_drew ?_))); (case side4 => exact HC1.out); rintro e w' ⟨rfl, ⟨nd, rfl⟩⟩; refine ⟨_, rfl, ?_⟩))
 go_ret
 exact ⟨z14_, z47_⟩

/-! ### slices_Clone_int: function 85 -/
def slices_Clone_int.f (l0 : List Int) : Option (List Int) := (some (([] : List Int) : List Int)).bind fun y563 => (if y563.length + l0.length < 17592186044416 then (some (y563 ++ l0)) else (none))
set_option maxHeartbeats 8000000 in
set_option maxRecDepth 100000 in
theorem slices_Clone_int.calls (A0 : Option Addr) (c0 : Nat) (l0 : List Int) (r : List Int) (w : World) (hr0 : Kd.C (Kd.int .i64) w A0 l0.length l0) (hc0 : l0.length ≤ c0) (h : slices_Clone_int.f l0 = some r) :
  Calls Try.prog 85 #[.slice A0 l0.length c0] w fun e w' => ∃ v0_ : Value, e = .returned (v0_) ∧ Kd.R (Kd.int .i64) 3 w' w.heap.size (fun _ => True) v0_ r ∧ Below w.heap.size w w' := by
 have q_nil : ∀ (w : World) (a : Option Addr) (n c n' c' : Nat), (binOp .eql 55 (.slice a n c) (.slice none n' c')).run Try.prog w = .ok (.bool a.isNone) w := fun w a n c n' c' => Lib.run_eql_slice_nil w _ _ a n c n' c' Try.underlying55
 rcases A0 with _ | ad0
 ·have h0_ : l0 = [] := by
   rcases Nat.eq_zero_or_pos l0.length with h0 | h0
   ·exact List.eq_nil_of_length_eq_zero h0
   ·obtain ⟨ad, h, _⟩ := hr0.2.2 h0
    cases h
  subst h0_
  have hr_ : r = [] := by simpa [slices_Clone_int.f] using h.symm
  subst hr_
  clear hr0 h
  go_enter Try.func85, Try.ntmps85
  go_wp2
  go_ret
  exact ⟨_, rfl, Kd.R_nil _ _ _ _ _, Below.refl _ _⟩
 have HR0 := Aside0.mk hr0
 have HC0 := Aside0.mk hc0
 clear hr0 hc0
 have HB := Aside0.mk (Below.refl w.heap.size w)
 have H : ((some (([] : List Int) : List Int)).bind fun y563 => (if y563.length + l0.length < 17592186044416 then (some (y563 ++ l0)) else (none))) = some r := h
 clear h
 obtain ⟨y563, hy563⟩ : ∃ y_ : List Int, y_ = (([] : List Int)) := ⟨_, rfl⟩
 replace H : (if y563.length + l0.length < 17592186044416 then (some (y563 ++ l0)) else (none)) = some r := by first | (rw [hy563]; with_reducible exact H) | (have H2_ := (Option.bind_some _ _).symm.trans H; rw [hy563]; with_reducible exact H2_) | (have H2_ := (Option.bind_some _ _).symm.trans H; with_reducible exact H2_) | with_reducible exact H | (rw [hy563]; exact H) | exact H
 have Ny563 := Aside0.mk hy563
 clear hy563
 obtain ⟨c2, H⟩ := ifs_ H
 have LMc2 := Aside0.mk c2
 clear c2
 obtain ⟨y566, hy566⟩ : ∃ y_ : List Int, y_ = (y563 ++ l0) := ⟨_, rfl⟩
 replace H : (some y566) = some r := by first | (rw [hy566]; with_reducible exact H) | (have H2_ := (Option.bind_some _ _).symm.trans H; rw [hy566]; with_reducible exact H2_) | (have H2_ := (Option.bind_some _ _).symm.trans H; with_reducible exact H2_) | with_reducible exact H | (rw [hy566]; exact H) | exact H
 have Ny566 := Aside0.mk hy566
 clear hy566
 obtain rfl := Option.some.inj H
 go_enter Try.func85, Try.ntmps85
 go_wp2_with (first | ((with_reducible refine gate_dst (N := 5) rfl ?_); refine Kd.R_lit (Kd.int .i64) _ 3 ?hg (N := 5) ?hd (xs := ([] : List Int)) (inner := []) (ok := fun _ => True) (okp := fun _ => True) ?hr ?hp (fun _ hk => hk) trivial (Below.refl _ _) (Nat.le_refl _) (by simp) ?_; (case hd => rfl); (case hg => rfl); (case hr => exact z23_); (case hp => exact z110_); intro v564 w3 ho4 hb hg_ hnew_; clear hg_ hnew_; (first | rw [← Ny563.out] at ho4 | (simp only [Int.reduceToNat] at ho4; rw [← Ny563.out] at ho4)); have HO565 := Aside0.mk (Kd.R_lower ho4 (below_size z0_)); replace HB := Aside0.mk (below_step z0_ hb); clear hb ho4) | ((with_reducible refine gate_builtin (b := .append) (xs := #[.tmp 5, .tmp 6]) rfl ?_); at_builtin; refine Kd.R_append_rows (Kd.int .i64) (w0 := w) w.heap.size rfl (.tmp 5) (.tmp 6) 55 3 (.int .i64 0) 8 rfl Try.underlying55 info3 rfl (by decide) (by omega) v564 y563 l0 _ _ _ (fun _ => True) (fun _ => False) rfl rfl ?aO ?aR (fun _ _ h => h) (fun _ h => h.elim) ?aF ?aB ?aS ?aL ?_; (case aR => exact z3_); (case aB => exact z50_); (case aF => exact z92_); (case aO => exact (by (with_reducible repeat (first | apply Kd.R_alloc | apply Kd.R_drewN | apply Kd.R_drew)); exact HO565.out)); (case aS => exact z46_); (case aL => have := LMc2.out; omega); intro v567 w5 ho hb hg hat; rw [← Ny566.out] at ho; replace HB := Aside0.mk (hb); have HO568 := Aside0.mk (ho); clear HO565; clear ho hb hg hat))
 go_ret
 exact ⟨_, z6_, by (with_reducible repeat (first | apply Kd.R_alloc | apply Kd.R_drewN | apply Kd.R_drew)); exact HO568.out, z0_⟩

/-! ### impl_opCopy: function 43 -/
def impl_opCopy.f (a0_0 : Int) (l0_1 : List Int) (a0_2 : Int) (a0_3 : Int) (a0_4 : Int) : Option (Int × List Int × Int × Int × Int) := (slices_Clone_int.f l0_1).bind fun t571 => (some (a0_0, t571, a0_2, a0_3, a0_4))
set_option maxHeartbeats 8000000 in
set_option maxRecDepth 100000 in
theorem impl_opCopy.calls (a0_0 : Int) (A0_1 : Option Addr) (c0_1 : Nat) (l0_1 : List Int) (a0_2 : Int) (a0_3 : Int) (a0_4 : Int) (r1 : Int) (r2 : List Int) (r3 : Int) (r4 : Int) (r5 : Int) (w : World) (hr0_1 : Kd.C (Kd.int .i64) w A0_1 l0_1.length l0_1) (hc0_1 : l0_1.length ≤ c0_1) (h : impl_opCopy.f a0_0 l0_1 a0_2 a0_3 a0_4 = some (r1, r2, r3, r4, r5)) :
  Calls Try.prog 43 #[.agg #[.int .i64 a0_0, .slice A0_1 l0_1.length c0_1, .int .i64 a0_2, .int .i64 a0_3, .int .i64 a0_4]] w fun e w' => ∃ v1_ : Value, e = .returned (.agg #[.int .i64 r1, v1_, .int .i64 r3, .int .i64 r4, .int .i64 r5]) ∧ Kd.R (Kd.int .i64) 3 w' w.heap.size (fun _ => True) v1_ r2 ∧ Below w.heap.size w w' := by
 have hu65 := Try.underlying65
 have HR0_1 := Aside0.mk hr0_1
 have HC0_1 := Aside0.mk hc0_1
 clear hr0_1 hc0_1
 have HB := Aside0.mk (Below.refl w.heap.size w)
 have H : ((slices_Clone_int.f l0_1).bind fun t571 => (some (a0_0, t571, a0_2, a0_3, a0_4))) = some (r1, r2, r3, r4, r5) := h
 clear h
 obtain ⟨t571, A2, H⟩ := bnd_ H
 simp only [Option.some.injEq, Prod.mk.injEq] at H
 obtain ⟨rfl, rfl, rfl, rfl, rfl⟩ := H
 go_enter Try.func43, Try.ntmps43
 go_wp2_with (first | ((with_reducible refine gate_dst (N := 1) rfl ?_); refine box_event ?hg (N := 1) ?hd (cs := #[.int .i64 a0_0, .slice A0_1 l0_1.length c0_1, .int .i64 a0_2, .int .i64 a0_3, .int .i64 a0_4]) (t := 65) ?hr ?_; (case hd => rfl); (case hg => rfl); (case hr => exact z23_); intro gb569 hg w3 hbox hb; have BK569 := Aside0.mk (hbox); have GW569 := Aside0.mk ((by rw [hg]; exact (below_size z0_) : w.heap.size ≤ gb569)); have GE569 := Aside0.mk ((by rw [hg]; exact (below_size z0_) : w.heap.size ≤ gb569)); replace HB := Aside0.mk (below_step z0_ hb); clear hb hbox hg) | ((with_reducible refine gate_dst (N := 2) rfl ?_); refine box_event ?hg (N := 2) ?hd (cs := #[.int .i64 0, .slice none 0 0, .int .i64 0, .int .i64 0, .int .i64 0]) (t := 65) ?hr ?_; (case hd => rfl); (case hg => rfl); (case hr => exact z23_); intro gb570 hg w4 hbox hb; have BK570 := Aside0.mk (hbox); have GW570 := Aside0.mk ((by rw [hg]; exact (below_size z105_) : w.heap.size ≤ gb570)); have GE570 := Aside0.mk ((by rw [hg]; exact (below_size z105_) : w.heap.size ≤ gb570)); replace HB := Aside0.mk (below_step z105_ hb); have NB569_570 := Aside0.mk ((by rw [hg]; exact Nat.ne_of_lt (blk_lt (g := gb569) (o := .cells #[.int .i64 a0_0, .slice A0_1 l0_1.length c0_1, .int .i64 a0_2, .int .i64 a0_3, .int .i64 a0_4] 65 (0, 0)) z109_) : gb569 ≠ gb570)); have NB570_569 := Aside0.mk ((by rw [hg]; exact Nat.ne_of_gt (blk_lt (g := gb569) (o := .cells #[.int .i64 a0_0, .slice A0_1 l0_1.length c0_1, .int .i64 a0_2, .int .i64 a0_3, .int .i64 a0_4] 65 (0, 0)) z109_) : gb570 ≠ gb569)); replace BK569 := Aside0.mk (blk_below (g := gb569) (o := .cells #[.int .i64 a0_0, .slice A0_1 l0_1.length c0_1, .int .i64 a0_2, .int .i64 a0_3, .int .i64 a0_4] 65 (0, 0)) z109_ hb); clear hb hbox hg; have hnb5 := NB569_570.out; have hnc5 := NB570_569.out; have hcz6_0 : w4.cell? ⟨gb569, 0, none⟩ = some (.int .i64 a0_0) := (blk_cell BK569.out 0).trans rfl; have hcz6_1 : w4.cell? ⟨gb569, 1, none⟩ = some (.slice A0_1 l0_1.length c0_1) := (blk_cell BK569.out 1).trans rfl; have hcz6_2 : w4.cell? ⟨gb569, 2, none⟩ = some (.int .i64 a0_2) := (blk_cell BK569.out 2).trans rfl; have hcz6_3 : w4.cell? ⟨gb569, 3, none⟩ = some (.int .i64 a0_3) := (blk_cell BK569.out 3).trans rfl; have hcz6_4 : w4.cell? ⟨gb569, 4, none⟩ = some (.int .i64 a0_4) := (blk_cell BK569.out 4).trans rfl; have hfz6_0 := blk_frozen BK569.out 0; have hfz6_1 := blk_frozen BK569.out 1; have hfz6_2 := blk_frozen BK569.out 2; have hfz6_3 := blk_frozen BK569.out 3; have hfz6_4 := blk_frozen BK569.out 4) | ((with_reducible refine gate_callee (f := 85) rfl ?_); refine goesL_ (some 5) rfl rfl Try.func85 (by kernel_rfl) rfl #[.slice A0_1 l0_1.length c0_1] rfl z1_ ?_; (with_reducible refine (slices_Clone_int.calls _ _ l0_1 t571 _ ?side1 ?side2 A2.out).mono ?_); (case side1 => exact z69_); (case side2 => exact HC0_1.out); rintro e w7 ⟨v572, rfl, ho0, hb⟩; refine ⟨_, rfl, ?_⟩; have HO573 := Aside0.mk (Kd.R_lower ho0 (below_size z89_)); replace BK569 := Aside0.mk (blk_below (g := gb569) (o := .cells #[.int .i64 a0_0, .slice A0_1 l0_1.length c0_1, .int .i64 a0_2, .int .i64 a0_3, .int .i64 a0_4] 65 (0, 0)) z109_ hb); replace BK570 := Aside0.mk (blk_below (g := gb570) (o := .cells #[.int .i64 0, .slice none 0 0, .int .i64 0, .int .i64 0, .int .i64 0] 65 (0, 0)) (by (with_reducible repeat (first | refine blk_drewN ?_ _ | refine blk_drew ?_ | refine blk_alloc ?_ _)); exact BK570.out) hb); replace HB := Aside0.mk (below_step z89_ hb); (try clear hb ho0); obtain ⟨Ao8, co8, eo8⟩ := Kd.R_slice HO573.out; subst eo8; have hcz9_0 : w7.cell? ⟨gb569, 0, none⟩ = some (.int .i64 a0_0) := (blk_cell BK569.out 0).trans rfl; have hcz9_1 : w7.cell? ⟨gb569, 1, none⟩ = some (.slice A0_1 l0_1.length c0_1) := (blk_cell BK569.out 1).trans rfl; have hcz9_2 : w7.cell? ⟨gb569, 2, none⟩ = some (.int .i64 a0_2) := (blk_cell BK569.out 2).trans rfl; have hcz9_3 : w7.cell? ⟨gb569, 3, none⟩ = some (.int .i64 a0_3) := (blk_cell BK569.out 3).trans rfl; have hcz9_4 : w7.cell? ⟨gb569, 4, none⟩ = some (.int .i64 a0_4) := (blk_cell BK569.out 4).trans rfl; have hfz9_0 := blk_frozen BK569.out 0; have hfz9_1 := blk_frozen BK569.out 1; have hfz9_2 := blk_frozen BK569.out 2; have hfz9_3 := blk_frozen BK569.out 3; have hfz9_4 := blk_frozen BK569.out 4; have hcz10_0 : w7.cell? ⟨gb570, 0, none⟩ = some (.int .i64 0) := (blk_cell BK570.out 0).trans rfl; have hcz10_1 : w7.cell? ⟨gb570, 1, none⟩ = some (.slice none 0 0) := (blk_cell BK570.out 1).trans rfl; have hcz10_2 : w7.cell? ⟨gb570, 2, none⟩ = some (.int .i64 0) := (blk_cell BK570.out 2).trans rfl; have hcz10_3 : w7.cell? ⟨gb570, 3, none⟩ = some (.int .i64 0) := (blk_cell BK570.out 3).trans rfl; have hcz10_4 : w7.cell? ⟨gb570, 4, none⟩ = some (.int .i64 0) := (blk_cell BK570.out 4).trans rfl; have hfz10_0 := blk_frozen BK570.out 0; have hfz10_1 := blk_frozen BK570.out 1; have hfz10_2 := blk_frozen BK570.out 2; have hfz10_3 := blk_frozen BK570.out 3; have hfz10_4 := blk_frozen BK570.out 4))
 refine bodyPost_ret (results_cell_row rfl _ _ gb570 65 #[.int .i64 a0_0, .slice Ao8 t571.length co8, .int .i64 a0_2, .int .i64 a0_3, .int .i64 a0_4] (0, 0) _ rfl (by (with_reducible repeat (first | refine blk_drewN ?_ _ | refine blk_drew ?_ | refine blk_alloc ?_ _)); refine blk_put (cs := #[.int .i64 a0_0, .slice Ao8 t571.length co8, .int .i64 a0_2, .int .i64 a0_3, .int .i64 0]) ?_ 4 _ rfl; (with_reducible repeat (first | refine blk_drewN ?_ _ | refine blk_drew ?_ | refine blk_alloc ?_ _)); refine blk_put (cs := #[.int .i64 a0_0, .slice Ao8 t571.length co8, .int .i64 a0_2, .int .i64 0, .int .i64 0]) ?_ 3 _ rfl; (with_reducible repeat (first | refine blk_drewN ?_ _ | refine blk_drew ?_ | refine blk_alloc ?_ _)); refine blk_put (cs := #[.int .i64 a0_0, .slice Ao8 t571.length co8, .int .i64 0, .int .i64 0, .int .i64 0]) ?_ 2 _ rfl; (with_reducible repeat (first | refine blk_drewN ?_ _ | refine blk_drew ?_ | refine blk_alloc ?_ _)); refine blk_put (cs := #[.int .i64 a0_0, .slice none 0 0, .int .i64 0, .int .i64 0, .int .i64 0]) ?_ 1 _ rfl; (with_reducible repeat (first | refine blk_drewN ?_ _ | refine blk_drew ?_ | refine blk_alloc ?_ _)); refine blk_put (cs := #[.int .i64 0, .slice none 0 0, .int .i64 0, .int .i64 0, .int .i64 0]) ?_ 0 _ rfl; (with_reducible repeat (first | refine blk_drewN ?_ _ | refine blk_drew ?_ | refine blk_alloc ?_ _)); refine blk_far ?_ NB570_569.out _; (with_reducible repeat (first | refine blk_drewN ?_ _ | refine blk_drew ?_ | refine blk_alloc ?_ _)); exact BK570.out) Try.underlying65 rfl (by kernel_rfl)) rfl ?_
 exact ⟨_, z6_, by (with_reducible repeat (first | apply Kd.R_alloc | apply Kd.R_drewN | apply Kd.R_drew)); exact Kd.R_mono (Kd.R_far (p := ⟨gb570, 4, none⟩) (Kd.R_far (p := ⟨gb570, 3, none⟩) (Kd.R_far (p := ⟨gb570, 2, none⟩) (Kd.R_far (p := ⟨gb570, 1, none⟩) (Kd.R_far (p := ⟨gb570, 0, none⟩) (Kd.R_far (p := ⟨gb569, 1, none⟩) (Kd.R_types (Kd.R_types HO573.out BK569.out (by decide)) BK570.out (by decide)) (fun _ hk => hk.1.2) (.slice Ao8 t571.length co8)) (fun _ hk => hk.2) (.int .i64 a0_0)) (fun _ hk => hk.2) (.slice Ao8 t571.length co8)) (fun _ hk => hk.2) (.int .i64 a0_2)) (fun _ hk => hk.2) (.int .i64 a0_3)) (fun _ hk => hk.2) (.int .i64 a0_4)) (fun _ hk => trivial), z89_⟩

/-! ### impl_DropIdle: function 11 -/
def impl_DropIdle.l0 : Nat → List (S65) → List (S63) → List (S65) → Int → Int → Option ((List (S65)) × Bool)
 | 0, _, _, _, _, _ => none
 | k + 1, x6, x7, x18, x19, x20 => if x20 < x19 then (if 0 ≤ x20 then (if x20 < (x18.length : Int) then ((impl_ApplyOp.f k x7 ((rd_T65 x18 x20).f0) ((rd_T65 x18 x20).f1) ((rd_T65 x18 x20).f2) ((rd_T65 x18 x20).f3) ((rd_T65 x18 x20).f4)).bind fun bt580 => (if bt580.2 = 0 then ((impl_SameTree.f k x7 bt580.1).bind fun t587 => (if t587 = true then (impl_DropIdle.l0 k x6 bt580.1 x18 x19 (wrap64 (x20 + 1))) else ((impl_opCopy.f ((rd_T65 x18 x20).f0) ((rd_T65 x18 x20).f1) ((rd_T65 x18 x20).f2) ((rd_T65 x18 x20).f3) ((rd_T65 x18 x20).f4)).bind fun bt588 => (if x6.length < 2513169434916 then (impl_DropIdle.l0 k (x6 ++ [(⟨bt588.1, bt588.2.1, bt588.2.2.1, bt588.2.2.2.1, bt588.2.2.2.2⟩ : S65)]) bt580.1 x18 x19 (wrap64 (x20 + 1))) else (none))))) else (some ((([] : List (S65))), false)))) else (none)) else (none)) else (some (x6, true))
def impl_DropIdle.f (k : Nat) (l0 : List (S63)) (l1 : List (S65)) : Option ((List (S65)) × Bool) := (some (([] : List (S65)) : List (S65))).bind fun y574 => ((impl_TreeOk.f k l0).bind fun t577 => (if t577 = true then (impl_DropIdle.l0 k y574 l0 l1 (l1.length : Int) 0) else (some (y574, false))))
theorem impl_DropIdle.mono_l : ∀ k, (∀ y0 y1 y2 y3 y4, LeO (impl_DropIdle.l0 k y0 y1 y2 y3 y4) (impl_DropIdle.l0 (k + 1) y0 y1 y2 y3 y4))
 | 0 => fun _ _ _ _ _ r h => by simp [impl_DropIdle.l0] at h
 | k + 1 => by
  have ih0 := impl_DropIdle.mono_l k
  ·intro y0 y1 y2 y3 y4
   unfold impl_DropIdle.l0
   repeat' first | (with_reducible first | exact ih0 _ _ _ _ _ | exact impl_ApplyOp.mono _ _ _ _ _ _ _ | exact impl_SameTree.mono _ _ _ | exact impl_TreeOk.mono _ _ | exact LeO.refl _ | exact LeO.none _ | refine LeO.ite ?_ ?_ | refine LeO.bind ?_ (fun _ => ?_)) | exact ih0 _ _ _ _ _ | exact impl_ApplyOp.mono _ _ _ _ _ _ _ | exact impl_SameTree.mono _ _ _ | exact impl_TreeOk.mono _ _ | exact LeO.none _ | refine LeO.ite ?_ ?_ | refine LeO.bind ?_ (fun _ => ?_)
theorem impl_DropIdle.mono : ∀ a0 a1 k, LeO (impl_DropIdle.f k a0 a1) (impl_DropIdle.f (k + 1) a0 a1) := by
 intro a0 a1 k
 have ih0 := impl_DropIdle.mono_l k
 unfold impl_DropIdle.f
 repeat' first | (with_reducible first | exact ih0 _ _ _ _ _ | exact impl_ApplyOp.mono _ _ _ _ _ _ _ | exact impl_SameTree.mono _ _ _ | exact impl_TreeOk.mono _ _ | exact LeO.refl _ | exact LeO.none _ | refine LeO.ite ?_ ?_ | refine LeO.bind ?_ (fun _ => ?_)) | exact ih0 _ _ _ _ _ | exact impl_ApplyOp.mono _ _ _ _ _ _ _ | exact impl_SameTree.mono _ _ _ | exact impl_TreeOk.mono _ _ | exact LeO.none _ | refine LeO.ite ?_ ?_ | refine LeO.bind ?_ (fun _ => ?_)
set_option maxHeartbeats 8000000 in
set_option maxRecDepth 100000 in
theorem impl_DropIdle.calls (k : Nat) (P0_ : Nat → Prop) (A0 : Option Addr) (c0 : Nat) (l0 : List (S63)) (A1 : Option Addr) (c1 : Nat) (l1 : List (S65)) (r1 : List (S65)) (r2 : Bool) (w : World) (hs0 : Kd.V k63 63 w w.heap.size (fun k_ => P0_ k_) (.slice A0 l0.length c0) l0) (hr1 : Kd.C k65 w A1 l1.length l1) (hc1 : l1.length ≤ c1) (h : impl_DropIdle.f k l0 l1 = some (r1, r2)) :
  Calls Try.prog 11 #[.slice A0 l0.length c0, .slice A1 l1.length c1] w fun e w' => ∃ v0_ : Value, e = .returned (.tuple #[v0_, .bool r2]) ∧ Kd.S k65 65 w' w.heap.size (fun k_ => (w.heap.size ≤ k_)) v0_ r1 ∧ Below w.heap.size w w' := by
 have hu65 := Try.underlying65
 have HO0 := Aside0.mk (show Kd.V k63 63 w w.heap.size (fun k_ => (P0_ k_ ∨ w.heap.size ≤ k_)) (.slice A0 l0.length c0) l0 from Kd.V_mono hs0 (fun k_ hk => .inl hk))
 have HR1 := Aside0.mk hr1
 have HC1 := Aside0.mk hc1
 clear hr1 hc1
 have HB := Aside0.mk (Below.refl w.heap.size w)
 have H : ((some (([] : List (S65)) : List (S65))).bind fun y574 => ((impl_TreeOk.f k l0).bind fun t577 => (if t577 = true then (impl_DropIdle.l0 k y574 l0 l1 (l1.length : Int) 0) else (some (y574, false))))) = some (r1, r2) := h
 clear h
 obtain ⟨y574, hy574⟩ : ∃ y_ : List (S65), y_ = (([] : List (S65))) := ⟨_, rfl⟩
 replace H : ((impl_TreeOk.f k l0).bind fun t577 => (if t577 = true then (impl_DropIdle.l0 k y574 l0 l1 (l1.length : Int) 0) else (some (y574, false)))) = some (r1, r2) := by first | (rw [hy574]; with_reducible exact H) | (have H2_ := (Option.bind_some _ _).symm.trans H; rw [hy574]; with_reducible exact H2_) | (have H2_ := (Option.bind_some _ _).symm.trans H; with_reducible exact H2_) | with_reducible exact H | (rw [hy574]; exact H) | exact H
 have Ny574 := Aside0.mk hy574
 clear hy574
 obtain ⟨t577, A3, H⟩ := bnd_ H
 by_cases c4 : t577 = true
 ·subst c4
  replace H := ift_ H
  have H' := Aside0.mk H
  clear H
  go_enter Try.func11, Try.ntmps11
  go_wp2_with (first | ((with_reducible refine gate_dst (N := 12) rfl ?_); refine Kd.S_lit k65 _ 65 ?hg (N := 12) ?hd (xs := ([] : List (S65))) (inner := []) (ok := fun _ => True) (okp := fun _ => True) ?hr ?hp (fun _ hk => hk) trivial (Below.refl _ _) (Nat.le_refl _) (by simp) ?_; (case hd => rfl); (case hg => rfl); (case hr => exact z23_); (case hp => exact z110_); intro v575 w5 ho6 hb hg_ hnew_; clear hg_ hnew_; (first | rw [← Ny574.out] at ho6 | (simp only [Int.reduceToNat] at ho6; rw [← Ny574.out] at ho6)); replace HO0 := Aside0.mk (Kd.V_elder' z104_ (Kd.S_base ho6) hb); have HO576 := Aside0.mk (Kd.S_lower (Kd.S_newM (M := fun k_ => (w.heap.size ≤ k_)) ho6 (below_size z0_) (fun k_ h_ => h_)) (below_size z0_)); replace HB := Aside0.mk (below_step z0_ hb); clear hb ho6) | ((with_reducible refine gate_callee (f := 40) rfl ?_); refine goesL_ (some 15) rfl rfl Try.func40 (by kernel_rfl) rfl #[.slice A0 l0.length c0] rfl z1_ ?_; (with_reducible refine (impl_TreeOk.calls k _ _ l0 true _ ?side1 ?side2 A3.out).mono ?_); (case side1 => exact z127_); (case side2 => exact (Kd.V_reads' HO0.out).2.1); rintro e w7 ⟨rfl, hb⟩; refine ⟨_, rfl, ?_⟩; replace HO0 := Aside0.mk (Kd.V_below z104_ hb); replace HO576 := Aside0.mk (Kd.S_below z169_ hb); replace HB := Aside0.mk (below_step z0_ hb); (try clear hb)))
  go_loopg [6, 7, 20] k (fun kq v6 v7 v20 w' => ∃ (x6_1 : List (S65)) (x7_1 : List (S63)) (x20_1 : Int), v20 = .int .i64 x20_1 ∧ Aside0 (impl_DropIdle.l0 kq x6_1 x7_1 l1 (l1.length : Int) x20_1 = some (r1, r2)) ∧ Aside0 (kq ≤ k) ∧ Aside0 (Kd.S k65 65 w' w.heap.size (fun k_ => (w.heap.size ≤ k_)) v6 x6_1) ∧ Aside0 (Kd.V k63 63 w' w.heap.size (fun k_ => (P0_ k_ ∨ w.heap.size ≤ k_) ∧ some k_ ≠ (v6 : Value).ownBlock) v7 x7_1) ∧ Aside0 (Below w.heap.size w w'))
  case atStart => exact ⟨(y574), (l0), (0), z14_, H', ⟨Nat.le_refl _⟩, ⟨z152_⟩, ⟨z104_⟩, ⟨z0_⟩⟩
  case round =>
   clear H'
   try clear c1
   try clear p2
   try clear c4
   obtain ⟨x6_1, x7_1, x20_1, rfl, HA, HK1, HO_6, HO_7, HB⟩ := hrel
   cases gk with
   | zero => exact absurd HA.out (by simp [impl_DropIdle.l0])
   | succ k1 =>
    have H := HA.out
    clear HA
    simp only [impl_DropIdle.l0] at H
    by_cases c8 : x20_1 < (l1.length : Int)
    ·rw [if_pos c8] at H
     have c8b0 : decide (x20_1 < (l1.length : Int)) = true := decide_eq_true c8
     clear c8
     obtain ⟨c9b0, H⟩ := ifd_ H
     obtain ⟨c10b0, H⟩ := ifd_ H
     replace H := Option.bind_eq_some_iff.mp H
     obtain ⟨⟨t580, t583⟩, A110, H⟩ := H
     replace H : (if t583 = 0 then ((impl_SameTree.f k1 x7_1 t580).bind fun t587 => (if t587 = true then (impl_DropIdle.l0 k1 x6_1 t580 l1 (l1.length : Int) (wrap64 (x20_1 + 1))) else ((impl_opCopy.f ((rd_T65 l1 x20_1).f0) ((rd_T65 l1 x20_1).f1) ((rd_T65 l1 x20_1).f2) ((rd_T65 l1 x20_1).f3) ((rd_T65 l1 x20_1).f4)).bind fun bt588 => (if x6_1.length < 2513169434916 then (impl_DropIdle.l0 k1 (x6_1 ++ [(⟨bt588.1, bt588.2.1, bt588.2.2.1, bt588.2.2.2.1, bt588.2.2.2.2⟩ : S65)]) t580 l1 (l1.length : Int) (wrap64 (x20_1 + 1))) else (none))))) else (some ((([] : List (S65))), false))) = some (r1, r2) := H
     have A11 := Aside0.mk A110
     clear A110
     by_cases c12 : t583 = 0
     ·rw [if_pos c12] at H
      have c12b0 : (t583 == 0) = true := beq_iff_eq.mpr c12
      have c12b1 : (t583 != 0) = false := bne_eq_false_iff_eq.mpr c12
      clear c12
      obtain ⟨t587, A13, H⟩ := bnd_ H
      by_cases c14 : t587 = true
      ·subst c14
       replace H := ift_ H
       have H' := Aside0.mk H
       clear H
       have p578 : 0 ≤ (x20_1 : Int) := odt_
       have q578 : x20_1 < (l1.length : Int) := odt_
       obtain ⟨ad578, A578_1, c578_1, e578, hx578_0, hx578_1, hx578_2, hx578_3, hx578_4, hl578_1, hi578_1⟩ := at_T65 HR1.out x20_1 p578 q578
       cases e578
       replace hx578_0 := (HB.out.cell (World.block_lt_of_cell? w _ hx578_0)).trans hx578_0
       replace hx578_1 := (HB.out.cell (World.block_lt_of_cell? w _ hx578_1)).trans hx578_1
       replace hx578_2 := (HB.out.cell (World.block_lt_of_cell? w _ hx578_2)).trans hx578_2
       replace hx578_3 := (HB.out.cell (World.block_lt_of_cell? w _ hx578_3)).trans hx578_3
       replace hx578_4 := (HB.out.cell (World.block_lt_of_cell? w _ hx578_4)).trans hx578_4
       have HR578_1 := Aside0.mk hi578_1
       have HC578_1 := Aside0.mk hl578_1
       clear hi578_1 hl578_1
       replace p578 := eq_true p578
       replace q578 := eq_true q578
       go_wp2_with (first | ((with_reducible refine gate_dst (N := 9) rfl ?_); refine box_event ?hg (N := 9) ?hd (cs := #[.int .i64 0, .slice none 0 0, .int .i64 0, .int .i64 0, .int .i64 0]) (t := 65) ?hr ?_; (case hd => rfl); (case hg => rfl); (case hr => exact z23_); intro gb579 hg w15 hbox hb; replace HO_6 := Aside0.mk (Kd.S_below (Kd.S_elderB z75_ gb579 (Nat.le_of_eq hg.symm)) hb); replace HO_7 := Aside0.mk (Kd.V_below (Kd.V_elderB z103_ gb579 (Nat.le_of_eq hg.symm)) hb); have BK579 := Aside0.mk (hbox); have GW579 := Aside0.mk ((by rw [hg]; exact (below_size z0_) : w.heap.size ≤ gb579)); have GE579 := Aside0.mk ((by rw [hg]; exact (below_size z0_) : w.heap.size ≤ gb579)); replace HB := Aside0.mk (below_step z0_ hb); clear hb hbox hg; have hcz16_0 : w15.cell? ⟨gb579, 0, none⟩ = some (.int .i64 0) := (blk_cell BK579.out 0).trans rfl; have hcz16_1 : w15.cell? ⟨gb579, 1, none⟩ = some (.slice none 0 0) := (blk_cell BK579.out 1).trans rfl; have hcz16_2 : w15.cell? ⟨gb579, 2, none⟩ = some (.int .i64 0) := (blk_cell BK579.out 2).trans rfl; have hcz16_3 : w15.cell? ⟨gb579, 3, none⟩ = some (.int .i64 0) := (blk_cell BK579.out 3).trans rfl; have hcz16_4 : w15.cell? ⟨gb579, 4, none⟩ = some (.int .i64 0) := (blk_cell BK579.out 4).trans rfl; have hfz16_0 := blk_frozen BK579.out 0; have hfz16_1 := blk_frozen BK579.out 1; have hfz16_2 := blk_frozen BK579.out 2; have hfz16_3 := blk_frozen BK579.out 3; have hfz16_4 := blk_frozen BK579.out 4; obtain ⟨Ao17, co17, eo17⟩ := Kd.V_slice HO_7.out; subst eo17) | ((with_reducible refine gate_callee (f := 41) rfl ?_); refine goesL_ (some 27) rfl rfl Try.func41 (by kernel_rfl) rfl #[.slice Ao17 x7_1.length co17, .agg #[.int .i64 ((rd_T65 l1 x20_1).f0), .slice A578_1 ((rd_T65 l1 x20_1).f1).length c578_1, .int .i64 ((rd_T65 l1 x20_1).f2), .int .i64 ((rd_T65 l1 x20_1).f3), .int .i64 ((rd_T65 l1 x20_1).f4)]] rfl z1_ ?_; (with_reducible refine (impl_ApplyOp.calls k1 _ _ x7_1 ((rd_T65 l1 x20_1).f0) _ _ ((rd_T65 l1 x20_1).f1) ((rd_T65 l1 x20_1).f2) ((rd_T65 l1 x20_1).f3) ((rd_T65 l1 x20_1).f4) t580 t583 _ ?side1 ?side2 ?side3 ?side4 A11.out).mono ?_); (case side1 => refine (Kd.V_reads' (e := 63) (base := w.heap.size) (ok := fun k_ => (((P0_ k_ ∨ w.heap.size ≤ k_) ∧ some k_ ≠ (u6 : Value).ownBlock) ∧ k_ ≠ gb579)) (n := x7_1.length) (c := co17) ?_).2.2; exact z21_); (case side2 => exact z175_); (case side3 => exact z88_); (case side4 => exact HC578_1.out); rintro e w18 ⟨v581, rfl, ho0, hb⟩; refine ⟨_, rfl, ?_⟩; replace HO_6 := Aside0.mk (Kd.S_below z40_ hb); replace HO_7 := Aside0.mk (Kd.V_elder' z21_ (Kd.R_base ho0) hb); have HO582 := Aside0.mk (Kd.R_lower (Kd.R_newM (M := fun k_ => (w.heap.size ≤ k_)) ho0 (below_size z20_) (fun k_ h_ => h_)) (below_size z20_)); replace BK579 := Aside0.mk (blk_below (g := gb579) (o := .cells #[.int .i64 ((rd_T65 l1 x20_1).f0), .slice A578_1 ((rd_T65 l1 x20_1).f1).length c578_1, .int .i64 ((rd_T65 l1 x20_1).f2), .int .i64 ((rd_T65 l1 x20_1).f3), .int .i64 ((rd_T65 l1 x20_1).f4)] 65 (0, 0)) z17_ hb); replace HB := Aside0.mk (below_step z20_ hb); (try clear hb ho0); obtain ⟨Ao19, co19, eo19⟩ := Kd.R_slice HO582.out; subst eo19) | ((with_reducible refine gate_callee (f := 42) rfl ?_); refine goesL_ (some 35) rfl rfl Try.func42 (by kernel_rfl) rfl #[.slice Ao17 x7_1.length co17, .slice Ao19 t580.length co19] rfl z1_ ?_; (with_reducible refine (impl_SameTree.calls k1 _ _ x7_1 _ _ t580 true _ ?side1 ?side2 ?side3 ?side4 A13.out).mono ?_); (case side1 => exact z126_); (case side2 => exact z175_); (case side3 => exact z124_); (case side4 => exact (Kd.R_reads' HO582.out).2.1); rintro e w' ⟨rfl, ⟨nd, rfl⟩⟩; refine ⟨_, rfl, ?_⟩))
       go_roundg k1
       case measure => have := HK1.out; omega
       case rel => exact ⟨(x6_1), (t580), (wrap64 (x20_1 + 1)), z14_, H', ⟨z84_⟩, ⟨by (with_reducible repeat (first | apply Kd.S_alloc | apply Kd.S_drewN | apply Kd.S_drew)); exact Kd.S_mono HO_6.out (fun _ hk => hk.1)⟩, ⟨Kd.V_mono (Kd.R_V (by (with_reducible repeat (first | apply Kd.R_alloc | apply Kd.R_drewN | apply Kd.R_drew)); exact Kd.R_mono (Kd.R_apart' HO582.out (Kd.S_typed HO_6.out) (by decide)) (fun _ hk => And.intro hk.1.1 hk.2))) (fun k_ hk => by first | exact ⟨(.inr (hk.1)), hk.2⟩ | exact (.inr (hk)))⟩, ⟨z20_⟩⟩
      ·replace c14 := Bool.eq_false_iff.mpr c14
       subst c14
       replace H := iff_ H
       replace H := Option.bind_eq_some_iff.mp H
       obtain ⟨⟨t588, t589, t592, t593, t594⟩, A200, H⟩ := H
       replace H : (if x6_1.length < 2513169434916 then (impl_DropIdle.l0 k1 (x6_1 ++ [(⟨t588, t589, t592, t593, t594⟩ : S65)]) t580 l1 (l1.length : Int) (wrap64 (x20_1 + 1))) else (none)) = some (r1, r2) := H
       have A20 := Aside0.mk A200
       clear A200
       obtain ⟨c21, H⟩ := ifs_ H
       have LMc21 := Aside0.mk c21
       clear c21
       obtain ⟨y595, hy595⟩ : ∃ y_ : List (S65), y_ = (x6_1 ++ [(⟨t588, t589, t592, t593, t594⟩ : S65)]) := ⟨_, rfl⟩
       replace H : (impl_DropIdle.l0 k1 y595 t580 l1 (l1.length : Int) (wrap64 (x20_1 + 1))) = some (r1, r2) := by first | (rw [hy595]; with_reducible exact H) | (have H2_ := (Option.bind_some _ _).symm.trans H; rw [hy595]; with_reducible exact H2_) | (have H2_ := (Option.bind_some _ _).symm.trans H; with_reducible exact H2_) | with_reducible exact H | (rw [hy595]; exact H) | exact H
       have Ny595 := Aside0.mk hy595
       clear hy595
       have H' := Aside0.mk H
       clear H
       have p578 : 0 ≤ (x20_1 : Int) := odt_
       have q578 : x20_1 < (l1.length : Int) := odt_
       obtain ⟨ad578, A578_1, c578_1, e578, hx578_0, hx578_1, hx578_2, hx578_3, hx578_4, hl578_1, hi578_1⟩ := at_T65 HR1.out x20_1 p578 q578
       cases e578
       replace hx578_0 := (HB.out.cell (World.block_lt_of_cell? w _ hx578_0)).trans hx578_0
       replace hx578_1 := (HB.out.cell (World.block_lt_of_cell? w _ hx578_1)).trans hx578_1
       replace hx578_2 := (HB.out.cell (World.block_lt_of_cell? w _ hx578_2)).trans hx578_2
       replace hx578_3 := (HB.out.cell (World.block_lt_of_cell? w _ hx578_3)).trans hx578_3
       replace hx578_4 := (HB.out.cell (World.block_lt_of_cell? w _ hx578_4)).trans hx578_4
       have HR578_1 := Aside0.mk hi578_1
       have HC578_1 := Aside0.mk hl578_1
       clear hi578_1 hl578_1
       replace p578 := eq_true p578
       replace q578 := eq_true q578
       go_wp2_with (first | ((with_reducible refine gate_dst (N := 9) rfl ?_); refine box_event ?hg (N := 9) ?hd (cs := #[.int .i64 0, .slice none 0 0, .int .i64 0, .int .i64 0, .int .i64 0]) (t := 65) ?hr ?_; (case hd => rfl); (case hg => rfl); (case hr => exact z23_); intro gb579 hg w22 hbox hb; replace HO_6 := Aside0.mk (Kd.S_below (Kd.S_elderB z75_ gb579 (Nat.le_of_eq hg.symm)) hb); replace HO_7 := Aside0.mk (Kd.V_below (Kd.V_elderB z103_ gb579 (Nat.le_of_eq hg.symm)) hb); have BK579 := Aside0.mk (hbox); have GW579 := Aside0.mk ((by rw [hg]; exact (below_size z0_) : w.heap.size ≤ gb579)); have GE579 := Aside0.mk ((by rw [hg]; exact (below_size z0_) : w.heap.size ≤ gb579)); replace HB := Aside0.mk (below_step z0_ hb); clear hb hbox hg; have hcz23_0 : w22.cell? ⟨gb579, 0, none⟩ = some (.int .i64 0) := (blk_cell BK579.out 0).trans rfl; have hcz23_1 : w22.cell? ⟨gb579, 1, none⟩ = some (.slice none 0 0) := (blk_cell BK579.out 1).trans rfl; have hcz23_2 : w22.cell? ⟨gb579, 2, none⟩ = some (.int .i64 0) := (blk_cell BK579.out 2).trans rfl; have hcz23_3 : w22.cell? ⟨gb579, 3, none⟩ = some (.int .i64 0) := (blk_cell BK579.out 3).trans rfl; have hcz23_4 : w22.cell? ⟨gb579, 4, none⟩ = some (.int .i64 0) := (blk_cell BK579.out 4).trans rfl; have hfz23_0 := blk_frozen BK579.out 0; have hfz23_1 := blk_frozen BK579.out 1; have hfz23_2 := blk_frozen BK579.out 2; have hfz23_3 := blk_frozen BK579.out 3; have hfz23_4 := blk_frozen BK579.out 4; obtain ⟨Ao24, co24, eo24⟩ := Kd.V_slice HO_7.out; subst eo24) | ((with_reducible refine gate_callee (f := 41) rfl ?_); refine goesL_ (some 27) rfl rfl Try.func41 (by kernel_rfl) rfl #[.slice Ao24 x7_1.length co24, .agg #[.int .i64 ((rd_T65 l1 x20_1).f0), .slice A578_1 ((rd_T65 l1 x20_1).f1).length c578_1, .int .i64 ((rd_T65 l1 x20_1).f2), .int .i64 ((rd_T65 l1 x20_1).f3), .int .i64 ((rd_T65 l1 x20_1).f4)]] rfl z1_ ?_; (with_reducible refine (impl_ApplyOp.calls k1 _ _ x7_1 ((rd_T65 l1 x20_1).f0) _ _ ((rd_T65 l1 x20_1).f1) ((rd_T65 l1 x20_1).f2) ((rd_T65 l1 x20_1).f3) ((rd_T65 l1 x20_1).f4) t580 t583 _ ?side1 ?side2 ?side3 ?side4 A11.out).mono ?_); (case side1 => refine (Kd.V_reads' (e := 63) (base := w.heap.size) (ok := fun k_ => (((P0_ k_ ∨ w.heap.size ≤ k_) ∧ some k_ ≠ (u6 : Value).ownBlock) ∧ k_ ≠ gb579)) (n := x7_1.length) (c := co24) ?_).2.2; exact z21_); (case side2 => exact z175_); (case side3 => exact z88_); (case side4 => exact HC578_1.out); rintro e w25 ⟨v581, rfl, ho0, hb⟩; refine ⟨_, rfl, ?_⟩; replace HO_6 := Aside0.mk (Kd.S_below z40_ hb); replace HO_7 := Aside0.mk (Kd.V_elder' z21_ (Kd.R_base ho0) hb); have HO582 := Aside0.mk (Kd.R_lower (Kd.R_newM (M := fun k_ => (w.heap.size ≤ k_)) ho0 (below_size z20_) (fun k_ h_ => h_)) (below_size z20_)); replace BK579 := Aside0.mk (blk_below (g := gb579) (o := .cells #[.int .i64 ((rd_T65 l1 x20_1).f0), .slice A578_1 ((rd_T65 l1 x20_1).f1).length c578_1, .int .i64 ((rd_T65 l1 x20_1).f2), .int .i64 ((rd_T65 l1 x20_1).f3), .int .i64 ((rd_T65 l1 x20_1).f4)] 65 (0, 0)) z17_ hb); replace HB := Aside0.mk (below_step z20_ hb); (try clear hb ho0); obtain ⟨Ao26, co26, eo26⟩ := Kd.R_slice HO582.out; subst eo26) | ((with_reducible refine gate_callee (f := 42) rfl ?_); refine goesL_ (some 35) rfl rfl Try.func42 (by kernel_rfl) rfl #[.slice Ao24 x7_1.length co24, .slice Ao26 t580.length co26] rfl z1_ ?_; (with_reducible refine (impl_SameTree.calls k1 _ _ x7_1 _ _ t580 false _ ?side1 ?side2 ?side3 ?side4 A13.out).mono ?_); (case side1 => exact z126_); (case side2 => exact z175_); (case side3 => exact z124_); (case side4 => exact (Kd.R_reads' HO582.out).2.1); rintro e w' ⟨rfl, ⟨nd, rfl⟩⟩; refine ⟨_, rfl, ?_⟩; have hcz27_0 : w25.cell? ⟨gb579, 0, none⟩ = some (.int .i64 ((rd_T65 l1 x20_1).f0)) := (blk_cell BK579.out 0).trans rfl; have hcz27_1 : w25.cell? ⟨gb579, 1, none⟩ = some (.slice A578_1 ((rd_T65 l1 x20_1).f1).length c578_1) := (blk_cell BK579.out 1).trans rfl; have hcz27_2 : w25.cell? ⟨gb579, 2, none⟩ = some (.int .i64 ((rd_T65 l1 x20_1).f2)) := (blk_cell BK579.out 2).trans rfl; have hcz27_3 : w25.cell? ⟨gb579, 3, none⟩ = some (.int .i64 ((rd_T65 l1 x20_1).f3)) := (blk_cell BK579.out 3).trans rfl; have hcz27_4 : w25.cell? ⟨gb579, 4, none⟩ = some (.int .i64 ((rd_T65 l1 x20_1).f4)) := (blk_cell BK579.out 4).trans rfl; have hfz27_0 := blk_frozen BK579.out 0; have hfz27_1 := blk_frozen BK579.out 1; have hfz27_2 := blk_frozen BK579.out 2; have hfz27_3 := blk_frozen BK579.out 3; have hfz27_4 := blk_frozen BK579.out 4) | ((with_reducible refine gate_callee (f := 43) rfl ?_); refine goesL_ (some 39) rfl rfl Try.func43 (by kernel_rfl) rfl #[.agg #[.int .i64 ((rd_T65 l1 x20_1).f0), .slice A578_1 ((rd_T65 l1 x20_1).f1).length c578_1, .int .i64 ((rd_T65 l1 x20_1).f2), .int .i64 ((rd_T65 l1 x20_1).f3), .int .i64 ((rd_T65 l1 x20_1).f4)]] rfl z1_ ?_; (with_reducible refine (impl_opCopy.calls ((rd_T65 l1 x20_1).f0) _ _ ((rd_T65 l1 x20_1).f1) ((rd_T65 l1 x20_1).f2) ((rd_T65 l1 x20_1).f3) ((rd_T65 l1 x20_1).f4) t588 t589 t592 t593 t594 _ ?side1 ?side2 A20.out).mono ?_); (case side1 => repeat (first | exact (Kd.C_below HR578_1.out z20_) | (with_reducible refine Kd.C_alloc ?_ _) | (with_reducible refine Kd.C_drewN ?_ _) | (with_reducible refine Kd.C_drew ?_))); (case side2 => exact HC578_1.out); rintro e w28 ⟨v590, rfl, ho0, hb⟩; refine ⟨_, rfl, ?_⟩; replace HO_6 := Aside0.mk (Kd.S_elder' z75_ (Kd.R_base ho0) hb); replace HO_7 := Aside0.mk (Kd.V_elder' z103_ (Kd.R_base ho0) hb); replace HO582 := Aside0.mk (Kd.R_below z133_ hb); have HO591 := Aside0.mk (Kd.R_lower (Kd.R_newM (M := fun k_ => (w.heap.size ≤ k_)) ho0 (below_size z20_) (fun k_ h_ => h_)) (below_size z20_)); replace BK579 := Aside0.mk (blk_below (g := gb579) (o := .cells #[.int .i64 ((rd_T65 l1 x20_1).f0), .slice A578_1 ((rd_T65 l1 x20_1).f1).length c578_1, .int .i64 ((rd_T65 l1 x20_1).f2), .int .i64 ((rd_T65 l1 x20_1).f3), .int .i64 ((rd_T65 l1 x20_1).f4)] 65 (0, 0)) z90_ hb); replace HB := Aside0.mk (below_step z20_ hb); (try clear hb ho0); obtain ⟨Ao30, co30, eo30⟩ := Kd.R_slice HO591.out; subst eo30) | ((with_reducible refine gate_builtin (b := .append) (xs := #[.tmp 37, .tmp 40]) rfl ?_); at_builtin; refine Kd.S_append k65 (w0 := w) w.heap.size rfl (.tmp 37) (.tmp 40) 25 65 (.agg #[(.int .i64 0), (.slice none 0 0), (.int .i64 0), (.int .i64 0), (.int .i64 0)]) 56 rfl Try.underlying25 info65 rfl (by decide) (by omega) u6 x6_1 (⟨t588, t589, t592, t593, t594⟩ : S65) [.int .i64 t588, .slice Ao30 t589.length co30, .int .i64 t592, .int .i64 t593, .int .i64 t594] (fun k_ => (w.heap.size ≤ k_) ∧ k_ ≠ gb579) (fun k_ => some k_ = (.slice Ao30 t589.length co30 : Value).ownBlock) rfl rfl ?aP (fun k_ hk_ => ((Kd.R_mono (ok' := fun k_ => ((fun k_ => (w.heap.size ≤ k_) ∧ k_ ≠ gb579)) k_ ∧ some k_ ≠ (u6 : Value).ownBlock) (Kd.R_types (Kd.R_apart' (HO591.out) (Kd.S_typed HO_6.out) (by decide)) BK579.out (by decide)) (fun k_ hk => ⟨⟨hk.1.1.1, hk.2⟩, hk.1.2⟩))).1 k_ hk_.symm) ?aF ?aO ?aB ?aS ?aL ?_; (case aP => exact k65_mkM _ _ _ (⟨t588, t589, t592, t593, t594⟩ : S65) (Kd.R_mono (Kd.R_tight rfl (Kd.R_mono (ok' := fun k_ => ((fun k_ => (w.heap.size ≤ k_) ∧ k_ ≠ gb579)) k_ ∧ some k_ ≠ (u6 : Value).ownBlock) (Kd.R_types (Kd.R_apart' (HO591.out) (Kd.S_typed HO_6.out) (by decide)) BK579.out (by decide)) (fun k_ hk => ⟨⟨hk.1.1.1, hk.2⟩, hk.1.2⟩))) (fun _ h_ => h_))); (case aB => exact z20_); (case aF => exact (fun k_ hk => ⟨(Nat.le_trans (below_size z20_) hk), Kd.freshB (g := gb579) (o := .cells #[.int .i64 ((rd_T65 l1 x20_1).f0), .slice A578_1 ((rd_T65 l1 x20_1).f1).length c578_1, .int .i64 ((rd_T65 l1 x20_1).f2), .int .i64 ((rd_T65 l1 x20_1).f3), .int .i64 ((rd_T65 l1 x20_1).f4)] 65 (0, 0)) z90_ k_ hk⟩)); (case aO => exact (by (with_reducible repeat (first | apply Kd.S_alloc | apply Kd.S_drewN | apply Kd.S_drew)); exact Kd.S_mono HO_6.out (fun k_ hk => ⟨⟨hk.1.1, hk.1.2⟩, fun e_ => hk.2 e_⟩))); (case aS => exact (below_size z20_)); (case aL => have := LMc21.out; omega); intro v596 w29 ho hb hg hat; rw [← Ny595.out] at ho; replace HO_7 := Aside0.mk (Kd.V_afterv (ok := (fun k_ => (P0_ k_ ∨ w.heap.size ≤ k_) ∧ some k_ ≠ (.slice Ao26 t580.length co26 : Value).ownBlock ∧ some k_ ≠ (.slice Ao30 t589.length co30 : Value).ownBlock ∧ k_ ≠ gb579)) (by (with_reducible repeat (first | apply Kd.V_alloc | apply Kd.V_drewN | apply Kd.V_drew)); exact Kd.V_mono HO_7.out (fun _ hk => ⟨⟨hk.1.1.1.1, ⟨hk.1.2, ⟨hk.2, hk.1.1.2⟩⟩⟩, hk.1.1.1.2⟩)) hg hat); replace BK579 := Aside0.mk (blk_grown (g := gb579) (o := .cells #[.int .i64 ((rd_T65 l1 x20_1).f0), .slice A578_1 ((rd_T65 l1 x20_1).f1).length c578_1, .int .i64 ((rd_T65 l1 x20_1).f2), .int .i64 ((rd_T65 l1 x20_1).f3), .int .i64 ((rd_T65 l1 x20_1).f4)] 65 (0, 0)) z90_ hg (Kd.S_away HO_6.out (fun _ hk => hk.1.2))); replace HO582 := Aside0.mk (Kd.R_over' z133_ (Kd.S_typed z75_) (by decide) hg); replace HB := Aside0.mk (hb); have HO597 := Aside0.mk (ho); clear HO_6 HO591; clear ho hb hg hat))
       go_roundg k1
       case measure => have := HK1.out; omega
       case rel => exact ⟨(y595), (t580), (wrap64 (x20_1 + 1)), z14_, H', ⟨z84_⟩, ⟨by (with_reducible repeat (first | apply Kd.S_alloc | apply Kd.S_drewN | apply Kd.S_drew)); exact Kd.S_mono HO597.out (fun _ hk => hk.1)⟩, ⟨Kd.V_mono (Kd.R_V (by (with_reducible repeat (first | apply Kd.R_alloc | apply Kd.R_drewN | apply Kd.R_drew)); exact Kd.R_mono (Kd.R_apart' HO582.out (Kd.S_typed HO597.out) (by decide)) (fun _ hk => And.intro hk.1.1 hk.2))) (fun k_ hk => by first | exact ⟨(.inr (hk.1)), hk.2⟩ | exact (.inr (hk)))⟩, ⟨z20_⟩⟩
     ·rw [if_neg c12] at H
      have c12b0 : (t583 == 0) = false := beq_eq_false_iff_ne.mpr c12
      have c12b1 : (t583 != 0) = true := bne_iff_ne.mpr c12
      obtain ⟨y584, hy584⟩ : ∃ y_ : List (S65), y_ = (([] : List (S65))) := ⟨_, rfl⟩
      replace H : (some (y584, false)) = some (r1, r2) := by first | (rw [hy584]; with_reducible exact H) | (have H2_ := (Option.bind_some _ _).symm.trans H; rw [hy584]; with_reducible exact H2_) | (have H2_ := (Option.bind_some _ _).symm.trans H; with_reducible exact H2_) | with_reducible exact H | (rw [hy584]; exact H) | exact H
      have Ny584 := Aside0.mk hy584
      clear hy584
      simp only [Option.some.injEq, Prod.mk.injEq] at H
      obtain ⟨rfl, rfl⟩ := H
      have p578 : 0 ≤ (x20_1 : Int) := odt_
      have q578 : x20_1 < (l1.length : Int) := odt_
      obtain ⟨ad578, A578_1, c578_1, e578, hx578_0, hx578_1, hx578_2, hx578_3, hx578_4, hl578_1, hi578_1⟩ := at_T65 HR1.out x20_1 p578 q578
      cases e578
      replace hx578_0 := (HB.out.cell (World.block_lt_of_cell? w _ hx578_0)).trans hx578_0
      replace hx578_1 := (HB.out.cell (World.block_lt_of_cell? w _ hx578_1)).trans hx578_1
      replace hx578_2 := (HB.out.cell (World.block_lt_of_cell? w _ hx578_2)).trans hx578_2
      replace hx578_3 := (HB.out.cell (World.block_lt_of_cell? w _ hx578_3)).trans hx578_3
      replace hx578_4 := (HB.out.cell (World.block_lt_of_cell? w _ hx578_4)).trans hx578_4
      have HR578_1 := Aside0.mk hi578_1
      have HC578_1 := Aside0.mk hl578_1
      clear hi578_1 hl578_1
      replace p578 := eq_true p578
      replace q578 := eq_true q578
      go_wp2_with (first | ((with_reducible refine gate_dst (N := 9) rfl ?_); refine box_event ?hg (N := 9) ?hd (cs := #[.int .i64 0, .slice none 0 0, .int .i64 0, .int .i64 0, .int .i64 0]) (t := 65) ?hr ?_; (case hd => rfl); (case hg => rfl); (case hr => exact z23_); intro gb579 hg w31 hbox hb; replace HO_6 := Aside0.mk (Kd.S_below (Kd.S_elderB z75_ gb579 (Nat.le_of_eq hg.symm)) hb); replace HO_7 := Aside0.mk (Kd.V_below (Kd.V_elderB z103_ gb579 (Nat.le_of_eq hg.symm)) hb); have BK579 := Aside0.mk (hbox); have GW579 := Aside0.mk ((by rw [hg]; exact (below_size z0_) : w.heap.size ≤ gb579)); have GE579 := Aside0.mk ((by rw [hg]; exact (below_size z0_) : w.heap.size ≤ gb579)); replace HB := Aside0.mk (below_step z0_ hb); clear hb hbox hg; have hcz32_0 : w31.cell? ⟨gb579, 0, none⟩ = some (.int .i64 0) := (blk_cell BK579.out 0).trans rfl; have hcz32_1 : w31.cell? ⟨gb579, 1, none⟩ = some (.slice none 0 0) := (blk_cell BK579.out 1).trans rfl; have hcz32_2 : w31.cell? ⟨gb579, 2, none⟩ = some (.int .i64 0) := (blk_cell BK579.out 2).trans rfl; have hcz32_3 : w31.cell? ⟨gb579, 3, none⟩ = some (.int .i64 0) := (blk_cell BK579.out 3).trans rfl; have hcz32_4 : w31.cell? ⟨gb579, 4, none⟩ = some (.int .i64 0) := (blk_cell BK579.out 4).trans rfl; have hfz32_0 := blk_frozen BK579.out 0; have hfz32_1 := blk_frozen BK579.out 1; have hfz32_2 := blk_frozen BK579.out 2; have hfz32_3 := blk_frozen BK579.out 3; have hfz32_4 := blk_frozen BK579.out 4; obtain ⟨Ao33, co33, eo33⟩ := Kd.V_slice HO_7.out; subst eo33) | ((with_reducible refine gate_callee (f := 41) rfl ?_); refine goesL_ (some 27) rfl rfl Try.func41 (by kernel_rfl) rfl #[.slice Ao33 x7_1.length co33, .agg #[.int .i64 ((rd_T65 l1 x20_1).f0), .slice A578_1 ((rd_T65 l1 x20_1).f1).length c578_1, .int .i64 ((rd_T65 l1 x20_1).f2), .int .i64 ((rd_T65 l1 x20_1).f3), .int .i64 ((rd_T65 l1 x20_1).f4)]] rfl z1_ ?_; (with_reducible refine (impl_ApplyOp.calls k1 _ _ x7_1 ((rd_T65 l1 x20_1).f0) _ _ ((rd_T65 l1 x20_1).f1) ((rd_T65 l1 x20_1).f2) ((rd_T65 l1 x20_1).f3) ((rd_T65 l1 x20_1).f4) t580 t583 _ ?side1 ?side2 ?side3 ?side4 A11.out).mono ?_); (case side1 => refine (Kd.V_reads' (e := 63) (base := w.heap.size) (ok := fun k_ => (((P0_ k_ ∨ w.heap.size ≤ k_) ∧ some k_ ≠ (u6 : Value).ownBlock) ∧ k_ ≠ gb579)) (n := x7_1.length) (c := co33) ?_).2.2; exact z21_); (case side2 => exact z175_); (case side3 => exact z88_); (case side4 => exact HC578_1.out); rintro e w34 ⟨v581, rfl, ho0, hb⟩; refine ⟨_, rfl, ?_⟩; replace HO_6 := Aside0.mk (Kd.S_below z40_ hb); replace HO_7 := Aside0.mk (Kd.V_elder' z21_ (Kd.R_base ho0) hb); have HO582 := Aside0.mk (Kd.R_lower (Kd.R_newM (M := fun k_ => (w.heap.size ≤ k_)) ho0 (below_size z20_) (fun k_ h_ => h_)) (below_size z20_)); replace BK579 := Aside0.mk (blk_below (g := gb579) (o := .cells #[.int .i64 ((rd_T65 l1 x20_1).f0), .slice A578_1 ((rd_T65 l1 x20_1).f1).length c578_1, .int .i64 ((rd_T65 l1 x20_1).f2), .int .i64 ((rd_T65 l1 x20_1).f3), .int .i64 ((rd_T65 l1 x20_1).f4)] 65 (0, 0)) z17_ hb); replace HB := Aside0.mk (below_step z20_ hb); (try clear hb ho0)) | ((with_reducible refine gate_dst (N := 32) rfl ?_); refine Kd.S_lit k65 _ 65 ?hg (N := 32) ?hd (xs := ([] : List (S65))) (inner := []) (ok := fun _ => True) (okp := fun _ => True) ?hr ?hp (fun _ hk => hk) trivial (Below.refl _ _) (Nat.le_refl _) (by simp) ?_; (case hd => rfl); (case hg => rfl); (case hr => exact z23_); (case hp => exact z110_); intro v585 w35 ho36 hb hg_ hnew_; clear hg_ hnew_; (first | rw [← Ny584.out] at ho36 | (simp only [Int.reduceToNat] at ho36; rw [← Ny584.out] at ho36)); replace HO_7 := Aside0.mk (Kd.V_elder' z103_ (Kd.S_base ho36) hb); replace HO582 := Aside0.mk (Kd.R_below z133_ hb); have HO586 := Aside0.mk (Kd.S_lower (Kd.S_newB (Kd.S_new' (Kd.S_newM (M := fun k_ => (w.heap.size ≤ k_)) ho36 (below_size z20_) (fun k_ h_ => h_)) (Kd.S_lt z75_)) (g := gb579) (o := .cells #[.int .i64 ((rd_T65 l1 x20_1).f0), .slice A578_1 ((rd_T65 l1 x20_1).f1).length c578_1, .int .i64 ((rd_T65 l1 x20_1).f2), .int .i64 ((rd_T65 l1 x20_1).f3), .int .i64 ((rd_T65 l1 x20_1).f4)] 65 (0, 0)) z90_) (below_size z20_)); replace HO_6 := Aside0.mk (Kd.S_elder' z75_ (Kd.S_base ho36) hb); replace BK579 := Aside0.mk (blk_below (g := gb579) (o := .cells #[.int .i64 ((rd_T65 l1 x20_1).f0), .slice A578_1 ((rd_T65 l1 x20_1).f1).length c578_1, .int .i64 ((rd_T65 l1 x20_1).f2), .int .i64 ((rd_T65 l1 x20_1).f3), .int .i64 ((rd_T65 l1 x20_1).f4)] 65 (0, 0)) z90_ hb); replace HB := Aside0.mk (below_step z20_ hb); clear hb ho36))
      go_ret2
      exact ⟨_, z6_, by (with_reducible repeat (first | apply Kd.S_alloc | apply Kd.S_drewN | apply Kd.S_drew)); exact Kd.S_mono HO586.out (fun _ hk => hk.1.1.1), z20_⟩
    ·rw [if_neg c8] at H
     have c8b0 : decide (x20_1 < (l1.length : Int)) = false := decide_eq_false c8
     clear c8
     simp only [Option.some.injEq, Prod.mk.injEq] at H
     obtain ⟨rfl, rfl⟩ := H
     go_wp2
     go_ret2
     exact ⟨_, z6_, z75_, z0_⟩
 ·replace c4 := Bool.eq_false_iff.mpr c4
  subst c4
  replace H := iff_ H
  simp only [Option.some.injEq, Prod.mk.injEq] at H
  obtain ⟨rfl, rfl⟩ := H
  go_enter Try.func11, Try.ntmps11
  go_wp2_with (first | ((with_reducible refine gate_dst (N := 12) rfl ?_); refine Kd.S_lit k65 _ 65 ?hg (N := 12) ?hd (xs := ([] : List (S65))) (inner := []) (ok := fun _ => True) (okp := fun _ => True) ?hr ?hp (fun _ hk => hk) trivial (Below.refl _ _) (Nat.le_refl _) (by simp) ?_; (case hd => rfl); (case hg => rfl); (case hr => exact z23_); (case hp => exact z110_); intro v575 w37 ho38 hb hg_ hnew_; clear hg_ hnew_; (first | rw [← Ny574.out] at ho38 | (simp only [Int.reduceToNat] at ho38; rw [← Ny574.out] at ho38)); replace HO0 := Aside0.mk (Kd.V_elder' z104_ (Kd.S_base ho38) hb); have HO576 := Aside0.mk (Kd.S_lower (Kd.S_newM (M := fun k_ => (w.heap.size ≤ k_)) ho38 (below_size z0_) (fun k_ h_ => h_)) (below_size z0_)); replace HB := Aside0.mk (below_step z0_ hb); clear hb ho38) | ((with_reducible refine gate_callee (f := 40) rfl ?_); refine goesL_ (some 15) rfl rfl Try.func40 (by kernel_rfl) rfl #[.slice A0 l0.length c0] rfl z1_ ?_; (with_reducible refine (impl_TreeOk.calls k _ _ l0 false _ ?side1 ?side2 A3.out).mono ?_); (case side1 => exact z127_); (case side2 => exact (Kd.V_reads' HO0.out).2.1); rintro e w39 ⟨rfl, hb⟩; refine ⟨_, rfl, ?_⟩; replace HO0 := Aside0.mk (Kd.V_below z104_ hb); replace HO576 := Aside0.mk (Kd.S_below z169_ hb); replace HB := Aside0.mk (below_step z0_ hb); (try clear hb)))
  go_ret2
  exact ⟨_, z6_, z152_, z0_⟩

/-! ### spec_ApplyAll: function 12 -/
def spec_ApplyAll.l0 : Nat → List (S65) → List (S63) → Int → Option ((List (S63)) × Int × Int)
 | 0, _, _, _ => none
 | k + 1, x1, x7, x8 => if x8 < (x1.length : Int) then (if 0 ≤ x8 then ((spec_ApplyOp.f k x7 ((rd_T65 x1 x8).f0) ((rd_T65 x1 x8).f1) ((rd_T65 x1 x8).f2) ((rd_T65 x1 x8).f3) ((rd_T65 x1 x8).f4)).bind fun bt606 => (if bt606.2 = 0 then (spec_ApplyAll.l0 k x1 bt606.1 (wrap64 (x8 + 1))) else (some (x7, x8, bt606.2)))) else (none)) else (some (x7, (x1.length : Int), 0))
def spec_ApplyAll.f (k : Nat) (l0 : List (S63)) (l1 : List (S65)) : Option ((List (S63)) × Int × Int) := (spec_TreeOk.f k l0).bind fun t598 => (if t598 = true then ((spec_l3Copy.f l0).bind fun t602 => (spec_ApplyAll.l0 k l1 t602 0)) else (some ((([] : List (S63))), 0, 2)))
theorem spec_ApplyAll.mono_l : ∀ k, (∀ y0 y1 y2, LeO (spec_ApplyAll.l0 k y0 y1 y2) (spec_ApplyAll.l0 (k + 1) y0 y1 y2))
 | 0 => fun _ _ _ r h => by simp [spec_ApplyAll.l0] at h
 | k + 1 => by
  have ih0 := spec_ApplyAll.mono_l k
  ·intro y0 y1 y2
   unfold spec_ApplyAll.l0
   repeat' first | (with_reducible first | exact ih0 _ _ _ | exact spec_ApplyOp.mono _ _ _ _ _ _ _ | exact spec_TreeOk.mono _ _ | exact LeO.refl _ | exact LeO.none _ | refine LeO.ite ?_ ?_ | refine LeO.bind ?_ (fun _ => ?_)) | exact ih0 _ _ _ | exact spec_ApplyOp.mono _ _ _ _ _ _ _ | exact spec_TreeOk.mono _ _ | exact LeO.none _ | refine LeO.ite ?_ ?_ | refine LeO.bind ?_ (fun _ => ?_)
theorem spec_ApplyAll.mono : ∀ a0 a1 k, LeO (spec_ApplyAll.f k a0 a1) (spec_ApplyAll.f (k + 1) a0 a1) := by
 intro a0 a1 k
 have ih0 := spec_ApplyAll.mono_l k
 unfold spec_ApplyAll.f
 repeat' first | (with_reducible first | exact ih0 _ _ _ | exact spec_ApplyOp.mono _ _ _ _ _ _ _ | exact spec_TreeOk.mono _ _ | exact LeO.refl _ | exact LeO.none _ | refine LeO.ite ?_ ?_ | refine LeO.bind ?_ (fun _ => ?_)) | exact ih0 _ _ _ | exact spec_ApplyOp.mono _ _ _ _ _ _ _ | exact spec_TreeOk.mono _ _ | exact LeO.none _ | refine LeO.ite ?_ ?_ | refine LeO.bind ?_ (fun _ => ?_)
set_option maxHeartbeats 8000000 in
set_option maxRecDepth 100000 in
theorem spec_ApplyAll.calls (k : Nat) (A0 : Option Addr) (c0 : Nat) (l0 : List (S63)) (A1 : Option Addr) (c1 : Nat) (l1 : List (S65)) (r1 : List (S63)) (r2 : Int) (r3 : Int) (w : World) (hr0 : Kd.C k63 w A0 l0.length l0) (hc0 : l0.length ≤ c0) (hr1 : Kd.C k65 w A1 l1.length l1) (hc1 : l1.length ≤ c1) (h : spec_ApplyAll.f k l0 l1 = some (r1, r2, r3)) :
  Calls Try.prog 12 #[.slice A0 l0.length c0, .slice A1 l1.length c1] w fun e w' => ∃ v0_ : Value, e = .returned (.tuple #[v0_, .int .i64 r2, .int .i64 r3]) ∧ Kd.R k63 63 w' w.heap.size (fun _ => True) v0_ r1 ∧ Below w.heap.size w w' := by
 have hu65 := Try.underlying65
 have HR0 := Aside0.mk hr0
 have HC0 := Aside0.mk hc0
 clear hr0 hc0
 have HR1 := Aside0.mk hr1
 have HC1 := Aside0.mk hc1
 clear hr1 hc1
 have HB := Aside0.mk (Below.refl w.heap.size w)
 have H : ((spec_TreeOk.f k l0).bind fun t598 => (if t598 = true then ((spec_l3Copy.f l0).bind fun t602 => (spec_ApplyAll.l0 k l1 t602 0)) else (some ((([] : List (S63))), 0, 2)))) = some (r1, r2, r3) := h
 clear h
 obtain ⟨t598, A3, H⟩ := bnd_ H
 by_cases c4 : t598 = true
 ·subst c4
  replace H := ift_ H
  obtain ⟨t602, A5, H⟩ := bnd_ H
  have H' := Aside0.mk H
  clear H
  go_enter Try.func12, Try.ntmps12
  go_wp2_with (first | ((with_reducible refine gate_callee (f := 13) rfl ?_); refine goesL_ (some 12) rfl rfl Try.func13 (by kernel_rfl) rfl #[.slice A0 l0.length c0] rfl z1_ ?_; (with_reducible refine (spec_TreeOk.calls k _ _ l0 true _ ?side1 ?side2 A3.out).mono ?_); (case side1 => exact z15_); (case side2 => exact HC0.out); rintro e w6 ⟨rfl, hb⟩; refine ⟨_, rfl, ?_⟩; replace HB := Aside0.mk (below_step z0_ hb); (try clear hb)) | ((with_reducible refine gate_callee (f := 44) rfl ?_); refine goesL_ (some 16) rfl rfl Try.func44 (by kernel_rfl) rfl #[.slice A0 l0.length c0] rfl z1_ ?_; (with_reducible refine (spec_l3Copy.calls _ _ l0 t602 _ ?side1 ?side2 A5.out).mono ?_); (case side1 => exact z3_); (case side2 => exact HC0.out); rintro e w7 ⟨v603, rfl, ho0, hb⟩; refine ⟨_, rfl, ?_⟩; have HO604 := Aside0.mk (Kd.R_lower ho0 (below_size z0_)); replace HB := Aside0.mk (below_step z0_ hb); (try clear hb ho0)))
  go_loopg [7, 8] k (fun kq v7 v8 w' => ∃ (x7_1 : List (S63)) (x8_1 : Int), v8 = .int .i64 x8_1 ∧ Aside0 (spec_ApplyAll.l0 kq l1 x7_1 x8_1 = some (r1, r2, r3)) ∧ Aside0 (kq ≤ k) ∧ Aside0 (Kd.R k63 63 w' w.heap.size (fun _ => True) v7 x7_1) ∧ Aside0 (Below w.heap.size w w'))
  case atStart => exact ⟨(t602), (0), z14_, H', ⟨Nat.le_refl _⟩, ⟨by (with_reducible repeat (first | apply Kd.R_alloc | apply Kd.R_drewN | apply Kd.R_drew)); exact HO604.out⟩, ⟨z0_⟩⟩
  case round =>
   clear H'
   try clear c1
   try clear p2
   try clear c4
   obtain ⟨x7_1, x8_1, rfl, HA, HK1, HO_7, HB⟩ := hrel
   cases gk with
   | zero => exact absurd HA.out (by simp [spec_ApplyAll.l0])
   | succ k1 =>
    have H := HA.out
    clear HA
    simp only [spec_ApplyAll.l0] at H
    by_cases c8 : x8_1 < (l1.length : Int)
    ·rw [if_pos c8] at H
     have c8b0 : decide (x8_1 < (l1.length : Int)) = true := decide_eq_true c8
     clear c8
     obtain ⟨c9b0, H⟩ := ifd_ H
     replace H := Option.bind_eq_some_iff.mp H
     obtain ⟨⟨t606, t609⟩, A100, H⟩ := H
     replace H : (if t609 = 0 then (spec_ApplyAll.l0 k1 l1 t606 (wrap64 (x8_1 + 1))) else (some (x7_1, x8_1, t609))) = some (r1, r2, r3) := H
     have A10 := Aside0.mk A100
     clear A100
     by_cases c11 : t609 = 0
     ·rw [if_pos c11] at H
      have c11b0 : (t609 == 0) = true := beq_iff_eq.mpr c11
      have c11b1 : (t609 != 0) = false := bne_eq_false_iff_eq.mpr c11
      clear c11
      have H' := Aside0.mk H
      clear H
      have p605 : 0 ≤ (x8_1 : Int) := odt_
      have q605 : x8_1 < (l1.length : Int) := odt_
      obtain ⟨ad605, A605_1, c605_1, e605, hx605_0, hx605_1, hx605_2, hx605_3, hx605_4, hl605_1, hi605_1⟩ := at_T65 HR1.out x8_1 p605 q605
      cases e605
      replace hx605_0 := (HB.out.cell (World.block_lt_of_cell? w _ hx605_0)).trans hx605_0
      replace hx605_1 := (HB.out.cell (World.block_lt_of_cell? w _ hx605_1)).trans hx605_1
      replace hx605_2 := (HB.out.cell (World.block_lt_of_cell? w _ hx605_2)).trans hx605_2
      replace hx605_3 := (HB.out.cell (World.block_lt_of_cell? w _ hx605_3)).trans hx605_3
      replace hx605_4 := (HB.out.cell (World.block_lt_of_cell? w _ hx605_4)).trans hx605_4
      have HR605_1 := Aside0.mk hi605_1
      have HC605_1 := Aside0.mk hl605_1
      clear hi605_1 hl605_1
      replace p605 := eq_true p605
      replace q605 := eq_true q605
      obtain ⟨Ao12, co12, eo12⟩ := Kd.R_slice HO_7.out
      subst eo12
      go_wp2_with (first | ((with_reducible refine gate_callee (f := 45) rfl ?_); refine goesL_ (some 29) rfl rfl Try.func45 (by kernel_rfl) rfl #[.slice Ao12 x7_1.length co12, .agg #[.int .i64 ((rd_T65 l1 x8_1).f0), .slice A605_1 ((rd_T65 l1 x8_1).f1).length c605_1, .int .i64 ((rd_T65 l1 x8_1).f2), .int .i64 ((rd_T65 l1 x8_1).f3), .int .i64 ((rd_T65 l1 x8_1).f4)]] rfl z1_ ?_; (with_reducible refine (spec_ApplyOp.calls k1 _ _ x7_1 ((rd_T65 l1 x8_1).f0) _ _ ((rd_T65 l1 x8_1).f1) ((rd_T65 l1 x8_1).f2) ((rd_T65 l1 x8_1).f3) ((rd_T65 l1 x8_1).f4) t606 t609 _ ?side1 ?side2 ?side3 ?side4 A10.out).mono ?_); (case side1 => exact z70_); (case side2 => exact z156_); (case side3 => exact z119_); (case side4 => exact HC605_1.out); rintro e w13 ⟨v607, rfl, ho0, hb⟩; refine ⟨_, rfl, ?_⟩; have HO608 := Aside0.mk (Kd.R_lower (Kd.R_new' ho0 (Kd.R_lt z25_)) (below_size z0_)); replace HO_7 := Aside0.mk (Kd.R_elder' z25_ (Kd.R_base ho0) hb); replace HB := Aside0.mk (below_step z0_ hb); (try clear hb ho0)))
      go_roundg k1
      case measure => have := HK1.out; omega
      case rel => exact ⟨(t606), (wrap64 (x8_1 + 1)), z14_, H', ⟨z84_⟩, ⟨by (with_reducible repeat (first | apply Kd.R_alloc | apply Kd.R_drewN | apply Kd.R_drew)); exact Kd.R_mono HO608.out (fun _ hk => trivial)⟩, ⟨z0_⟩⟩
     ·rw [if_neg c11] at H
      have c11b0 : (t609 == 0) = false := beq_eq_false_iff_ne.mpr c11
      have c11b1 : (t609 != 0) = true := bne_iff_ne.mpr c11
      simp only [Option.some.injEq, Prod.mk.injEq] at H
      obtain ⟨rfl, rfl, rfl⟩ := H
      have p605 : 0 ≤ (x8_1 : Int) := odt_
      have q605 : x8_1 < (l1.length : Int) := odt_
      obtain ⟨ad605, A605_1, c605_1, e605, hx605_0, hx605_1, hx605_2, hx605_3, hx605_4, hl605_1, hi605_1⟩ := at_T65 HR1.out x8_1 p605 q605
      cases e605
      replace hx605_0 := (HB.out.cell (World.block_lt_of_cell? w _ hx605_0)).trans hx605_0
      replace hx605_1 := (HB.out.cell (World.block_lt_of_cell? w _ hx605_1)).trans hx605_1
      replace hx605_2 := (HB.out.cell (World.block_lt_of_cell? w _ hx605_2)).trans hx605_2
      replace hx605_3 := (HB.out.cell (World.block_lt_of_cell? w _ hx605_3)).trans hx605_3
      replace hx605_4 := (HB.out.cell (World.block_lt_of_cell? w _ hx605_4)).trans hx605_4
      have HR605_1 := Aside0.mk hi605_1
      have HC605_1 := Aside0.mk hl605_1
      clear hi605_1 hl605_1
      replace p605 := eq_true p605
      replace q605 := eq_true q605
      obtain ⟨Ao14, co14, eo14⟩ := Kd.R_slice HO_7.out
      subst eo14
      go_wp2_with (first | ((with_reducible refine gate_callee (f := 45) rfl ?_); refine goesL_ (some 29) rfl rfl Try.func45 (by kernel_rfl) rfl #[.slice Ao14 x7_1.length co14, .agg #[.int .i64 ((rd_T65 l1 x8_1).f0), .slice A605_1 ((rd_T65 l1 x8_1).f1).length c605_1, .int .i64 ((rd_T65 l1 x8_1).f2), .int .i64 ((rd_T65 l1 x8_1).f3), .int .i64 ((rd_T65 l1 x8_1).f4)]] rfl z1_ ?_; (with_reducible refine (spec_ApplyOp.calls k1 _ _ x7_1 ((rd_T65 l1 x8_1).f0) _ _ ((rd_T65 l1 x8_1).f1) ((rd_T65 l1 x8_1).f2) ((rd_T65 l1 x8_1).f3) ((rd_T65 l1 x8_1).f4) t606 t609 _ ?side1 ?side2 ?side3 ?side4 A10.out).mono ?_); (case side1 => exact z70_); (case side2 => exact z156_); (case side3 => exact z119_); (case side4 => exact HC605_1.out); rintro e w15 ⟨v607, rfl, ho0, hb⟩; refine ⟨_, rfl, ?_⟩; have HO608 := Aside0.mk (Kd.R_lower (Kd.R_new' ho0 (Kd.R_lt z25_)) (below_size z0_)); replace HO_7 := Aside0.mk (Kd.R_elder' z25_ (Kd.R_base ho0) hb); replace HB := Aside0.mk (below_step z0_ hb); (try clear hb ho0)))
      go_ret3
      exact ⟨_, z6_, z149_, z0_⟩
    ·rw [if_neg c8] at H
     have c8b0 : decide (x8_1 < (l1.length : Int)) = false := decide_eq_false c8
     clear c8
     simp only [Option.some.injEq, Prod.mk.injEq] at H
     obtain ⟨rfl, rfl, rfl⟩ := H
     go_wp2
     go_ret3
     exact ⟨_, z6_, z25_, z0_⟩
 ·replace c4 := Bool.eq_false_iff.mpr c4
  subst c4
  replace H := iff_ H
  obtain ⟨y599, hy599⟩ : ∃ y_ : List (S63), y_ = (([] : List (S63))) := ⟨_, rfl⟩
  replace H : (some (y599, 0, 2)) = some (r1, r2, r3) := by first | (rw [hy599]; with_reducible exact H) | (have H2_ := (Option.bind_some _ _).symm.trans H; rw [hy599]; with_reducible exact H2_) | (have H2_ := (Option.bind_some _ _).symm.trans H; with_reducible exact H2_) | with_reducible exact H | (rw [hy599]; exact H) | exact H
  have Ny599 := Aside0.mk hy599
  clear hy599
  simp only [Option.some.injEq, Prod.mk.injEq] at H
  obtain ⟨rfl, rfl, rfl⟩ := H
  go_enter Try.func12, Try.ntmps12
  go_wp2_with (first | ((with_reducible refine gate_callee (f := 13) rfl ?_); refine goesL_ (some 12) rfl rfl Try.func13 (by kernel_rfl) rfl #[.slice A0 l0.length c0] rfl z1_ ?_; (with_reducible refine (spec_TreeOk.calls k _ _ l0 false _ ?side1 ?side2 A3.out).mono ?_); (case side1 => exact z15_); (case side2 => exact HC0.out); rintro e w16 ⟨rfl, hb⟩; refine ⟨_, rfl, ?_⟩; replace HB := Aside0.mk (below_step z0_ hb); (try clear hb)) | ((with_reducible refine gate_dst (N := 14) rfl ?_); refine Kd.R_lit k63 _ 63 ?hg (N := 14) ?hd (xs := ([] : List (S63))) (inner := []) (ok := fun _ => True) (okp := fun _ => True) ?hr ?hp (fun _ hk => hk) trivial (Below.refl _ _) (Nat.le_refl _) (by simp) ?_; (case hd => rfl); (case hg => rfl); (case hr => exact z23_); (case hp => exact z110_); intro v600 w17 ho18 hb hg_ hnew_; clear hg_ hnew_; (first | rw [← Ny599.out] at ho18 | (simp only [Int.reduceToNat] at ho18; rw [← Ny599.out] at ho18)); have HO601 := Aside0.mk (Kd.R_lower ho18 (below_size z0_)); replace HB := Aside0.mk (below_step z0_ hb); clear hb ho18))
  go_ret3
  exact ⟨_, z6_, by (with_reducible repeat (first | apply Kd.R_alloc | apply Kd.R_drewN | apply Kd.R_drew)); exact HO601.out, z0_⟩

/-! ### impl_ApplyAll: function 14 -/
def impl_ApplyAll.l0 : Nat → List (S65) → List (S63) → List (S65) → Int → Int → Option ((List (S63)) × Int × Int)
 | 0, _, _, _, _, _ => none
 | k + 1, x1, x7, x18, x19, x20 => if x20 < x19 then (if 0 ≤ x20 then (if x20 < (x18.length : Int) then ((impl_ApplyOp.f k x7 ((rd_T65 x18 x20).f0) ((rd_T65 x18 x20).f1) ((rd_T65 x18 x20).f2) ((rd_T65 x18 x20).f3) ((rd_T65 x18 x20).f4)).bind fun bt619 => (if bt619.2 = 0 then (impl_ApplyAll.l0 k x1 bt619.1 x18 x19 (wrap64 (x20 + 1))) else (some (x7, x20, bt619.2)))) else (none)) else (none)) else (some (x7, (x1.length : Int), 0))
def impl_ApplyAll.f (k : Nat) (l0 : List (S63)) (l1 : List (S65)) : Option ((List (S63)) × Int × Int) := (impl_TreeOk.f k l0).bind fun t610 => (if t610 = true then ((slices_Clone_Node.f l0).bind fun t614 => (impl_ApplyAll.l0 k l1 t614 l1 (l1.length : Int) 0)) else (some ((([] : List (S63))), 0, 2)))
theorem impl_ApplyAll.mono_l : ∀ k, (∀ y0 y1 y2 y3 y4, LeO (impl_ApplyAll.l0 k y0 y1 y2 y3 y4) (impl_ApplyAll.l0 (k + 1) y0 y1 y2 y3 y4))
 | 0 => fun _ _ _ _ _ r h => by simp [impl_ApplyAll.l0] at h
 | k + 1 => by
  have ih0 := impl_ApplyAll.mono_l k
  ·intro y0 y1 y2 y3 y4
   unfold impl_ApplyAll.l0
   repeat' first | (with_reducible first | exact ih0 _ _ _ _ _ | exact impl_ApplyOp.mono _ _ _ _ _ _ _ | exact impl_TreeOk.mono _ _ | exact LeO.refl _ | exact LeO.none _ | refine LeO.ite ?_ ?_ | refine LeO.bind ?_ (fun _ => ?_)) | exact ih0 _ _ _ _ _ | exact impl_ApplyOp.mono _ _ _ _ _ _ _ | exact impl_TreeOk.mono _ _ | exact LeO.none _ | refine LeO.ite ?_ ?_ | refine LeO.bind ?_ (fun _ => ?_)
theorem impl_ApplyAll.mono : ∀ a0 a1 k, LeO (impl_ApplyAll.f k a0 a1) (impl_ApplyAll.f (k + 1) a0 a1) := by
 intro a0 a1 k
 have ih0 := impl_ApplyAll.mono_l k
 unfold impl_ApplyAll.f
 repeat' first | (with_reducible first | exact ih0 _ _ _ _ _ | exact impl_ApplyOp.mono _ _ _ _ _ _ _ | exact impl_TreeOk.mono _ _ | exact LeO.refl _ | exact LeO.none _ | refine LeO.ite ?_ ?_ | refine LeO.bind ?_ (fun _ => ?_)) | exact ih0 _ _ _ _ _ | exact impl_ApplyOp.mono _ _ _ _ _ _ _ | exact impl_TreeOk.mono _ _ | exact LeO.none _ | refine LeO.ite ?_ ?_ | refine LeO.bind ?_ (fun _ => ?_)
set_option maxHeartbeats 8000000 in
set_option maxRecDepth 100000 in
theorem impl_ApplyAll.calls (k : Nat) (A0 : Option Addr) (c0 : Nat) (l0 : List (S63)) (A1 : Option Addr) (c1 : Nat) (l1 : List (S65)) (r1 : List (S63)) (r2 : Int) (r3 : Int) (w : World) (hr0 : Kd.C k63 w A0 l0.length l0) (hc0 : l0.length ≤ c0) (hr1 : Kd.C k65 w A1 l1.length l1) (hc1 : l1.length ≤ c1) (h : impl_ApplyAll.f k l0 l1 = some (r1, r2, r3)) :
  Calls Try.prog 14 #[.slice A0 l0.length c0, .slice A1 l1.length c1] w fun e w' => ∃ v0_ : Value, e = .returned (.tuple #[v0_, .int .i64 r2, .int .i64 r3]) ∧ Kd.R k63 63 w' w.heap.size (fun _ => True) v0_ r1 ∧ Below w.heap.size w w' := by
 have hu65 := Try.underlying65
 have HR0 := Aside0.mk hr0
 have HC0 := Aside0.mk hc0
 clear hr0 hc0
 have HR1 := Aside0.mk hr1
 have HC1 := Aside0.mk hc1
 clear hr1 hc1
 have HB := Aside0.mk (Below.refl w.heap.size w)
 have H : ((impl_TreeOk.f k l0).bind fun t610 => (if t610 = true then ((slices_Clone_Node.f l0).bind fun t614 => (impl_ApplyAll.l0 k l1 t614 l1 (l1.length : Int) 0)) else (some ((([] : List (S63))), 0, 2)))) = some (r1, r2, r3) := h
 clear h
 obtain ⟨t610, A3, H⟩ := bnd_ H
 by_cases c4 : t610 = true
 ·subst c4
  replace H := ift_ H
  obtain ⟨t614, A5, H⟩ := bnd_ H
  have H' := Aside0.mk H
  clear H
  go_enter Try.func14, Try.ntmps14
  go_wp2_with (first | ((with_reducible refine gate_callee (f := 40) rfl ?_); refine goesL_ (some 13) rfl rfl Try.func40 (by kernel_rfl) rfl #[.slice A0 l0.length c0] rfl z1_ ?_; (with_reducible refine (impl_TreeOk.calls k _ _ l0 true _ ?side1 ?side2 A3.out).mono ?_); (case side1 => exact z15_); (case side2 => exact HC0.out); rintro e w6 ⟨rfl, hb⟩; refine ⟨_, rfl, ?_⟩; replace HB := Aside0.mk (below_step z0_ hb); (try clear hb)) | ((with_reducible refine gate_callee (f := 48) rfl ?_); refine goesL_ (some 17) rfl rfl Try.func48 (by kernel_rfl) rfl #[.slice A0 l0.length c0] rfl z1_ ?_; (with_reducible refine (slices_Clone_Node.calls _ _ l0 t614 _ ?side1 ?side2 A5.out).mono ?_); (case side1 => exact z3_); (case side2 => exact HC0.out); rintro e w7 ⟨v615, rfl, ho0, hb⟩; refine ⟨_, rfl, ?_⟩; have HO616 := Aside0.mk (Kd.R_lower ho0 (below_size z0_)); replace HB := Aside0.mk (below_step z0_ hb); (try clear hb ho0)))
  go_loopg [7, 20] k (fun kq v7 v20 w' => ∃ (x7_1 : List (S63)) (x20_1 : Int), v20 = .int .i64 x20_1 ∧ Aside0 (impl_ApplyAll.l0 kq l1 x7_1 l1 (l1.length : Int) x20_1 = some (r1, r2, r3)) ∧ Aside0 (kq ≤ k) ∧ Aside0 (Kd.R k63 63 w' w.heap.size (fun _ => True) v7 x7_1) ∧ Aside0 (Below w.heap.size w w'))
  case atStart => exact ⟨(t614), (0), z14_, H', ⟨Nat.le_refl _⟩, ⟨by (with_reducible repeat (first | apply Kd.R_alloc | apply Kd.R_drewN | apply Kd.R_drew)); exact HO616.out⟩, ⟨z0_⟩⟩
  case round =>
   clear H'
   try clear c1
   try clear p2
   try clear c4
   obtain ⟨x7_1, x20_1, rfl, HA, HK1, HO_7, HB⟩ := hrel
   cases gk with
   | zero => exact absurd HA.out (by simp [impl_ApplyAll.l0])
   | succ k1 =>
    have H := HA.out
    clear HA
    simp only [impl_ApplyAll.l0] at H
    by_cases c8 : x20_1 < (l1.length : Int)
    ·rw [if_pos c8] at H
     have c8b0 : decide (x20_1 < (l1.length : Int)) = true := decide_eq_true c8
     clear c8
     obtain ⟨c9b0, H⟩ := ifd_ H
     obtain ⟨c10b0, H⟩ := ifd_ H
     replace H := Option.bind_eq_some_iff.mp H
     obtain ⟨⟨t619, t622⟩, A110, H⟩ := H
     replace H : (if t622 = 0 then (impl_ApplyAll.l0 k1 l1 t619 l1 (l1.length : Int) (wrap64 (x20_1 + 1))) else (some (x7_1, x20_1, t622))) = some (r1, r2, r3) := H
     have A11 := Aside0.mk A110
     clear A110
     by_cases c12 : t622 = 0
     ·rw [if_pos c12] at H
      have c12b0 : (t622 == 0) = true := beq_iff_eq.mpr c12
      have c12b1 : (t622 != 0) = false := bne_eq_false_iff_eq.mpr c12
      clear c12
      have H' := Aside0.mk H
      clear H
      have p617 : 0 ≤ (x20_1 : Int) := odt_
      have q617 : x20_1 < (l1.length : Int) := odt_
      obtain ⟨ad617, A617_1, c617_1, e617, hx617_0, hx617_1, hx617_2, hx617_3, hx617_4, hl617_1, hi617_1⟩ := at_T65 HR1.out x20_1 p617 q617
      cases e617
      replace hx617_0 := (HB.out.cell (World.block_lt_of_cell? w _ hx617_0)).trans hx617_0
      replace hx617_1 := (HB.out.cell (World.block_lt_of_cell? w _ hx617_1)).trans hx617_1
      replace hx617_2 := (HB.out.cell (World.block_lt_of_cell? w _ hx617_2)).trans hx617_2
      replace hx617_3 := (HB.out.cell (World.block_lt_of_cell? w _ hx617_3)).trans hx617_3
      replace hx617_4 := (HB.out.cell (World.block_lt_of_cell? w _ hx617_4)).trans hx617_4
      have HR617_1 := Aside0.mk hi617_1
      have HC617_1 := Aside0.mk hl617_1
      clear hi617_1 hl617_1
      replace p617 := eq_true p617
      replace q617 := eq_true q617
      go_wp2_with (first | ((with_reducible refine gate_dst (N := 9) rfl ?_); refine box_event ?hg (N := 9) ?hd (cs := #[.int .i64 0, .slice none 0 0, .int .i64 0, .int .i64 0, .int .i64 0]) (t := 65) ?hr ?_; (case hd => rfl); (case hg => rfl); (case hr => exact z23_); intro gb618 hg w13 hbox hb; replace HO_7 := Aside0.mk (Kd.R_below z25_ hb); have BK618 := Aside0.mk (hbox); have GW618 := Aside0.mk ((by rw [hg]; exact (below_size z0_) : w.heap.size ≤ gb618)); have GE618 := Aside0.mk ((by rw [hg]; exact (below_size z0_) : w.heap.size ≤ gb618)); replace HB := Aside0.mk (below_step z0_ hb); clear hb hbox hg; have hcz14_0 : w13.cell? ⟨gb618, 0, none⟩ = some (.int .i64 0) := (blk_cell BK618.out 0).trans rfl; have hcz14_1 : w13.cell? ⟨gb618, 1, none⟩ = some (.slice none 0 0) := (blk_cell BK618.out 1).trans rfl; have hcz14_2 : w13.cell? ⟨gb618, 2, none⟩ = some (.int .i64 0) := (blk_cell BK618.out 2).trans rfl; have hcz14_3 : w13.cell? ⟨gb618, 3, none⟩ = some (.int .i64 0) := (blk_cell BK618.out 3).trans rfl; have hcz14_4 : w13.cell? ⟨gb618, 4, none⟩ = some (.int .i64 0) := (blk_cell BK618.out 4).trans rfl; have hfz14_0 := blk_frozen BK618.out 0; have hfz14_1 := blk_frozen BK618.out 1; have hfz14_2 := blk_frozen BK618.out 2; have hfz14_3 := blk_frozen BK618.out 3; have hfz14_4 := blk_frozen BK618.out 4; obtain ⟨Ao15, co15, eo15⟩ := Kd.R_slice HO_7.out; subst eo15) | ((with_reducible refine gate_callee (f := 41) rfl ?_); refine goesL_ (some 28) rfl rfl Try.func41 (by kernel_rfl) rfl #[.slice Ao15 x7_1.length co15, .agg #[.int .i64 ((rd_T65 l1 x20_1).f0), .slice A617_1 ((rd_T65 l1 x20_1).f1).length c617_1, .int .i64 ((rd_T65 l1 x20_1).f2), .int .i64 ((rd_T65 l1 x20_1).f3), .int .i64 ((rd_T65 l1 x20_1).f4)]] rfl z1_ ?_; (with_reducible refine (impl_ApplyOp.calls k1 _ _ x7_1 ((rd_T65 l1 x20_1).f0) _ _ ((rd_T65 l1 x20_1).f1) ((rd_T65 l1 x20_1).f2) ((rd_T65 l1 x20_1).f3) ((rd_T65 l1 x20_1).f4) t619 t622 _ ?side1 ?side2 ?side3 ?side4 A11.out).mono ?_); (case side1 => refine (Kd.R_reads' (e := 63) (base := w.heap.size) (ok := fun k_ => True) (n := x7_1.length) (c := co15) ?_).2.2; exact z22_); (case side2 => exact z156_); (case side3 => exact z116_); (case side4 => exact HC617_1.out); rintro e w16 ⟨v620, rfl, ho0, hb⟩; refine ⟨_, rfl, ?_⟩; have HO621 := Aside0.mk (Kd.R_lower (Kd.R_new' ho0 (Kd.R_lt z22_)) (below_size z56_)); replace HO_7 := Aside0.mk (Kd.R_elder' z22_ (Kd.R_base ho0) hb); replace BK618 := Aside0.mk (blk_below (g := gb618) (o := .cells #[.int .i64 ((rd_T65 l1 x20_1).f0), .slice A617_1 ((rd_T65 l1 x20_1).f1).length c617_1, .int .i64 ((rd_T65 l1 x20_1).f2), .int .i64 ((rd_T65 l1 x20_1).f3), .int .i64 ((rd_T65 l1 x20_1).f4)] 65 (0, 0)) z28_ hb); replace HB := Aside0.mk (below_step z56_ hb); (try clear hb ho0)))
      go_roundg k1
      case measure => have := HK1.out; omega
      case rel => exact ⟨(t619), (wrap64 (x20_1 + 1)), z14_, H', ⟨z84_⟩, ⟨by (with_reducible repeat (first | apply Kd.R_alloc | apply Kd.R_drewN | apply Kd.R_drew)); exact Kd.R_mono HO621.out (fun _ hk => trivial)⟩, ⟨z56_⟩⟩
     ·rw [if_neg c12] at H
      have c12b0 : (t622 == 0) = false := beq_eq_false_iff_ne.mpr c12
      have c12b1 : (t622 != 0) = true := bne_iff_ne.mpr c12
      simp only [Option.some.injEq, Prod.mk.injEq] at H
      obtain ⟨rfl, rfl, rfl⟩ := H
      have p617 : 0 ≤ (x20_1 : Int) := odt_
      have q617 : x20_1 < (l1.length : Int) := odt_
      obtain ⟨ad617, A617_1, c617_1, e617, hx617_0, hx617_1, hx617_2, hx617_3, hx617_4, hl617_1, hi617_1⟩ := at_T65 HR1.out x20_1 p617 q617
      cases e617
      replace hx617_0 := (HB.out.cell (World.block_lt_of_cell? w _ hx617_0)).trans hx617_0
      replace hx617_1 := (HB.out.cell (World.block_lt_of_cell? w _ hx617_1)).trans hx617_1
      replace hx617_2 := (HB.out.cell (World.block_lt_of_cell? w _ hx617_2)).trans hx617_2
      replace hx617_3 := (HB.out.cell (World.block_lt_of_cell? w _ hx617_3)).trans hx617_3
      replace hx617_4 := (HB.out.cell (World.block_lt_of_cell? w _ hx617_4)).trans hx617_4
      have HR617_1 := Aside0.mk hi617_1
      have HC617_1 := Aside0.mk hl617_1
      clear hi617_1 hl617_1
      replace p617 := eq_true p617
      replace q617 := eq_true q617
      go_wp2_with (first | ((with_reducible refine gate_dst (N := 9) rfl ?_); refine box_event ?hg (N := 9) ?hd (cs := #[.int .i64 0, .slice none 0 0, .int .i64 0, .int .i64 0, .int .i64 0]) (t := 65) ?hr ?_; (case hd => rfl); (case hg => rfl); (case hr => exact z23_); intro gb618 hg w17 hbox hb; replace HO_7 := Aside0.mk (Kd.R_below z25_ hb); have BK618 := Aside0.mk (hbox); have GW618 := Aside0.mk ((by rw [hg]; exact (below_size z0_) : w.heap.size ≤ gb618)); have GE618 := Aside0.mk ((by rw [hg]; exact (below_size z0_) : w.heap.size ≤ gb618)); replace HB := Aside0.mk (below_step z0_ hb); clear hb hbox hg; have hcz18_0 : w17.cell? ⟨gb618, 0, none⟩ = some (.int .i64 0) := (blk_cell BK618.out 0).trans rfl; have hcz18_1 : w17.cell? ⟨gb618, 1, none⟩ = some (.slice none 0 0) := (blk_cell BK618.out 1).trans rfl; have hcz18_2 : w17.cell? ⟨gb618, 2, none⟩ = some (.int .i64 0) := (blk_cell BK618.out 2).trans rfl; have hcz18_3 : w17.cell? ⟨gb618, 3, none⟩ = some (.int .i64 0) := (blk_cell BK618.out 3).trans rfl; have hcz18_4 : w17.cell? ⟨gb618, 4, none⟩ = some (.int .i64 0) := (blk_cell BK618.out 4).trans rfl; have hfz18_0 := blk_frozen BK618.out 0; have hfz18_1 := blk_frozen BK618.out 1; have hfz18_2 := blk_frozen BK618.out 2; have hfz18_3 := blk_frozen BK618.out 3; have hfz18_4 := blk_frozen BK618.out 4; obtain ⟨Ao19, co19, eo19⟩ := Kd.R_slice HO_7.out; subst eo19) | ((with_reducible refine gate_callee (f := 41) rfl ?_); refine goesL_ (some 28) rfl rfl Try.func41 (by kernel_rfl) rfl #[.slice Ao19 x7_1.length co19, .agg #[.int .i64 ((rd_T65 l1 x20_1).f0), .slice A617_1 ((rd_T65 l1 x20_1).f1).length c617_1, .int .i64 ((rd_T65 l1 x20_1).f2), .int .i64 ((rd_T65 l1 x20_1).f3), .int .i64 ((rd_T65 l1 x20_1).f4)]] rfl z1_ ?_; (with_reducible refine (impl_ApplyOp.calls k1 _ _ x7_1 ((rd_T65 l1 x20_1).f0) _ _ ((rd_T65 l1 x20_1).f1) ((rd_T65 l1 x20_1).f2) ((rd_T65 l1 x20_1).f3) ((rd_T65 l1 x20_1).f4) t619 t622 _ ?side1 ?side2 ?side3 ?side4 A11.out).mono ?_); (case side1 => refine (Kd.R_reads' (e := 63) (base := w.heap.size) (ok := fun k_ => True) (n := x7_1.length) (c := co19) ?_).2.2; exact z22_); (case side2 => exact z156_); (case side3 => exact z116_); (case side4 => exact HC617_1.out); rintro e w20 ⟨v620, rfl, ho0, hb⟩; refine ⟨_, rfl, ?_⟩; have HO621 := Aside0.mk (Kd.R_lower (Kd.R_new' ho0 (Kd.R_lt z22_)) (below_size z56_)); replace HO_7 := Aside0.mk (Kd.R_elder' z22_ (Kd.R_base ho0) hb); replace BK618 := Aside0.mk (blk_below (g := gb618) (o := .cells #[.int .i64 ((rd_T65 l1 x20_1).f0), .slice A617_1 ((rd_T65 l1 x20_1).f1).length c617_1, .int .i64 ((rd_T65 l1 x20_1).f2), .int .i64 ((rd_T65 l1 x20_1).f3), .int .i64 ((rd_T65 l1 x20_1).f4)] 65 (0, 0)) z28_ hb); replace HB := Aside0.mk (below_step z56_ hb); (try clear hb ho0)))
      go_ret3
      exact ⟨_, z6_, z149_, z56_⟩
    ·rw [if_neg c8] at H
     have c8b0 : decide (x20_1 < (l1.length : Int)) = false := decide_eq_false c8
     clear c8
     simp only [Option.some.injEq, Prod.mk.injEq] at H
     obtain ⟨rfl, rfl, rfl⟩ := H
     go_wp2
     go_ret3
     exact ⟨_, z6_, z25_, z0_⟩
 ·replace c4 := Bool.eq_false_iff.mpr c4
  subst c4
  replace H := iff_ H
  obtain ⟨y611, hy611⟩ : ∃ y_ : List (S63), y_ = (([] : List (S63))) := ⟨_, rfl⟩
  replace H : (some (y611, 0, 2)) = some (r1, r2, r3) := by first | (rw [hy611]; with_reducible exact H) | (have H2_ := (Option.bind_some _ _).symm.trans H; rw [hy611]; with_reducible exact H2_) | (have H2_ := (Option.bind_some _ _).symm.trans H; with_reducible exact H2_) | with_reducible exact H | (rw [hy611]; exact H) | exact H
  have Ny611 := Aside0.mk hy611
  clear hy611
  simp only [Option.some.injEq, Prod.mk.injEq] at H
  obtain ⟨rfl, rfl, rfl⟩ := H
  go_enter Try.func14, Try.ntmps14
  go_wp2_with (first | ((with_reducible refine gate_callee (f := 40) rfl ?_); refine goesL_ (some 13) rfl rfl Try.func40 (by kernel_rfl) rfl #[.slice A0 l0.length c0] rfl z1_ ?_; (with_reducible refine (impl_TreeOk.calls k _ _ l0 false _ ?side1 ?side2 A3.out).mono ?_); (case side1 => exact z15_); (case side2 => exact HC0.out); rintro e w21 ⟨rfl, hb⟩; refine ⟨_, rfl, ?_⟩; replace HB := Aside0.mk (below_step z0_ hb); (try clear hb)) | ((with_reducible refine gate_dst (N := 15) rfl ?_); refine Kd.R_lit k63 _ 63 ?hg (N := 15) ?hd (xs := ([] : List (S63))) (inner := []) (ok := fun _ => True) (okp := fun _ => True) ?hr ?hp (fun _ hk => hk) trivial (Below.refl _ _) (Nat.le_refl _) (by simp) ?_; (case hd => rfl); (case hg => rfl); (case hr => exact z23_); (case hp => exact z110_); intro v612 w22 ho23 hb hg_ hnew_; clear hg_ hnew_; (first | rw [← Ny611.out] at ho23 | (simp only [Int.reduceToNat] at ho23; rw [← Ny611.out] at ho23)); have HO613 := Aside0.mk (Kd.R_lower ho23 (below_size z0_)); replace HB := Aside0.mk (below_step z0_ hb); clear hb ho23))
  go_ret3
  exact ⟨_, z6_, by (with_reducible repeat (first | apply Kd.R_alloc | apply Kd.R_drewN | apply Kd.R_drew)); exact HO613.out, z0_⟩

end Go.Proofs.Ytmbhlfcpdbbogaa.PFnIdle
