/- Laid by a program of this session out of the kit's print for the law FnIdle: what it says of the machine is proved here, function by function; each contract under the conditions that it names. -/
import Derived.Test.YtmbhlfcpdbbogaaMFnIdlex0
import Derived.Test.YtmbhlfcpdbbogaaMFnIdlex2
import Derived.Test.YtmbhlfcpdbbogaaMFnIdlex4
import Derived.Test.YtmbhlfcpdbbogaaMFnIdlex10
import Derived.Test.YtmbhlfcpdbbogaaMFnIdlex15
import Derived.Test.YtmbhlfcpdbbogaaMFnIdlex16
namespace Go.Proofs.Ytmbhlfcpdbbogaa.PFnIdle
open Go.RowKit Go.Proofs.YtmbhlfcpdbbogaaW.PrintWords Go.Proofs.YtmbhlfcpdbbogaaW.PrintLast Go.Proofs.YtmbhlfcpdbbogaaW.PrintMore
attribute [local go_sem] max2_int min2_int max_two min_two max_three min_three max_four min_four   -- for this text's walks alone
set_option linter.unusedVariables false
set_option linter.unusedSimpArgs false

/-! ### laws_FnIdle: function 3 -/
def laws_FnIdle.j0 : Nat → List (S63) → List (S65) → List (S65) → Bool → List (S63) → Bool → Option (Bool)
 | 0, _, _, _, _, _, _ => none
 | k + 1, x3, x4, x5, x6, x7, x41 => if x41 = true then (if x6 = true then (some false) else (some ((x5.length : Int) == 0))) else ((impl_ApplyAll.f k x3 x5).bind fun bt650 => ((impl_DropIdle.f k x3 x5).bind fun bt655 => (if x6 = true then (if bt655.2 = true then (if bt650.2.2 = 0 then ((spec_SameTree.f k x7 bt650.1).bind fun t659 => (if t659 = true then (if (x5.length : Int) ≤ (x4.length : Int) then ((spec_SameOps.f k bt655.1 x5).bind fun t660 => (some t660)) else (some false)) else (some false))) else (some false)) else (some false)) else (some false))))
def laws_FnIdle.f (k : Nat) (l0 : List Int) : Option (Bool) := (laws_big.f l0).bind fun t633 => (if t633 = true then (some true) else ((spec_DrawDropIdle.f k l0).bind fun bt634 => ((impl_DropIdle.f k bt634.1 bt634.2).bind fun bt640 => ((spec_ApplyAll.f k bt634.1 bt634.2).bind fun bt644 => ((spec_TreeOk.f k bt634.1).bind fun t649 => (if t649 = true then (laws_FnIdle.j0 k bt634.1 bt634.2 bt640.1 bt640.2 bt644.1 (bt644.2.2 != 0)) else (laws_FnIdle.j0 k bt634.1 bt634.2 bt640.1 bt640.2 bt644.1 true)))))))
theorem laws_FnIdle.mono_l : ∀ k, (∀ y0 y1 y2 y3 y4 y5, LeO (laws_FnIdle.j0 k y0 y1 y2 y3 y4 y5) (laws_FnIdle.j0 (k + 1) y0 y1 y2 y3 y4 y5))
 | 0 => fun _ _ _ _ _ _ r h => by simp [laws_FnIdle.j0] at h
 | k + 1 => by
  have ih0 := laws_FnIdle.mono_l k
  ·intro y0 y1 y2 y3 y4 y5
   unfold laws_FnIdle.j0
   repeat' first | (with_reducible first | exact ih0 _ _ _ _ _ _ | exact impl_ApplyAll.mono _ _ _ | exact impl_DropIdle.mono _ _ _ | exact spec_ApplyAll.mono _ _ _ | exact spec_DrawDropIdle.mono _ _ | exact spec_SameOps.mono _ _ _ | exact spec_SameTree.mono _ _ _ | exact spec_TreeOk.mono _ _ | exact LeO.refl _ | exact LeO.none _ | refine LeO.ite ?_ ?_ | refine LeO.bind ?_ (fun _ => ?_)) | exact ih0 _ _ _ _ _ _ | exact impl_ApplyAll.mono _ _ _ | exact impl_DropIdle.mono _ _ _ | exact spec_ApplyAll.mono _ _ _ | exact spec_DrawDropIdle.mono _ _ | exact spec_SameOps.mono _ _ _ | exact spec_SameTree.mono _ _ _ | exact spec_TreeOk.mono _ _ | exact LeO.none _ | refine LeO.ite ?_ ?_ | refine LeO.bind ?_ (fun _ => ?_)
theorem laws_FnIdle.mono : ∀ a0 k, LeO (laws_FnIdle.f k a0) (laws_FnIdle.f (k + 1) a0) := by
 intro a0 k
 have ih0 := laws_FnIdle.mono_l k
 unfold laws_FnIdle.f
 repeat' first | (with_reducible first | exact ih0 _ _ _ _ _ _ | exact impl_ApplyAll.mono _ _ _ | exact impl_DropIdle.mono _ _ _ | exact spec_ApplyAll.mono _ _ _ | exact spec_DrawDropIdle.mono _ _ | exact spec_SameOps.mono _ _ _ | exact spec_SameTree.mono _ _ _ | exact spec_TreeOk.mono _ _ | exact LeO.refl _ | exact LeO.none _ | refine LeO.ite ?_ ?_ | refine LeO.bind ?_ (fun _ => ?_)) | exact ih0 _ _ _ _ _ _ | exact impl_ApplyAll.mono _ _ _ | exact impl_DropIdle.mono _ _ _ | exact spec_ApplyAll.mono _ _ _ | exact spec_DrawDropIdle.mono _ _ | exact spec_SameOps.mono _ _ _ | exact spec_SameTree.mono _ _ _ | exact spec_TreeOk.mono _ _ | exact LeO.none _ | refine LeO.ite ?_ ?_ | refine LeO.bind ?_ (fun _ => ?_)
set_option maxHeartbeats 8000000 in
set_option maxRecDepth 100000 in
theorem laws_FnIdle.calls (k : Nat) (A0 : Option Addr) (c0 : Nat) (l0 : List Int) (r : Bool) (w : World) (hr0 : Kd.C (Kd.int .u8) w A0 l0.length l0) (hc0 : l0.length ≤ c0) (h : laws_FnIdle.f k l0 = some r) :
  Calls Try.prog 3 #[.slice A0 l0.length c0] w fun e w' => e = .returned (.bool r) ∧ Below w.heap.size w w' := by
 have HR0 := Aside0.mk hr0
 have HC0 := Aside0.mk hc0
 clear hr0 hc0
 have HB := Aside0.mk (Below.refl w.heap.size w)
 have H : ((laws_big.f l0).bind fun t633 => (if t633 = true then (some true) else ((spec_DrawDropIdle.f k l0).bind fun bt634 => ((impl_DropIdle.f k bt634.1 bt634.2).bind fun bt640 => ((spec_ApplyAll.f k bt634.1 bt634.2).bind fun bt644 => ((spec_TreeOk.f k bt634.1).bind fun t649 => (if t649 = true then (laws_FnIdle.j0 k bt634.1 bt634.2 bt640.1 bt640.2 bt644.1 (bt644.2.2 != 0)) else (laws_FnIdle.j0 k bt634.1 bt634.2 bt640.1 bt640.2 bt644.1 true)))))))) = some r := h
 clear h
 obtain ⟨t633, A2, H⟩ := bnd_ H
 by_cases c3 : t633 = true
 ·subst c3
  replace H := ift_ H
  obtain rfl := Option.some.inj H
  go_enter Try.func3, Try.ntmps3
  go_wp2_with (first | ((with_reducible refine gate_callee (f := 9) rfl ?_); refine goesL_ (some 16) rfl rfl Try.func9 (by kernel_rfl) rfl #[.slice A0 l0.length c0] rfl z1_ ?_; (with_reducible refine (laws_big.calls _ _ l0 true _ ?side1 ?side2 A2.out).mono ?_); (case side1 => exact z15_); (case side2 => exact HC0.out); rintro e w' ⟨rfl, ⟨nd, rfl⟩⟩; refine ⟨_, rfl, ?_⟩))
  go_ret
  exact ⟨z6_, z0_⟩
 ·replace c3 := Bool.eq_false_iff.mpr c3
  subst c3
  replace H := iff_ H
  replace H := Option.bind_eq_some_iff.mp H
  obtain ⟨⟨t634, t637⟩, A40, H⟩ := H
  replace H : ((impl_DropIdle.f k t634 t637).bind fun bt640 => ((spec_ApplyAll.f k t634 t637).bind fun bt644 => ((spec_TreeOk.f k t634).bind fun t649 => (if t649 = true then (laws_FnIdle.j0 k t634 t637 bt640.1 bt640.2 bt644.1 (bt644.2.2 != 0)) else (laws_FnIdle.j0 k t634 t637 bt640.1 bt640.2 bt644.1 true))))) = some r := H
  have A4 := Aside0.mk A40
  clear A40
  replace H := Option.bind_eq_some_iff.mp H
  obtain ⟨⟨t640, t643⟩, A50, H⟩ := H
  replace H : ((spec_ApplyAll.f k t634 t637).bind fun bt644 => ((spec_TreeOk.f k t634).bind fun t649 => (if t649 = true then (laws_FnIdle.j0 k t634 t637 t640 t643 bt644.1 (bt644.2.2 != 0)) else (laws_FnIdle.j0 k t634 t637 t640 t643 bt644.1 true)))) = some r := H
  have A5 := Aside0.mk A50
  clear A50
  replace H := Option.bind_eq_some_iff.mp H
  obtain ⟨⟨t644, t645, t646⟩, A60, H⟩ := H
  replace H : ((spec_TreeOk.f k t634).bind fun t649 => (if t649 = true then (laws_FnIdle.j0 k t634 t637 t640 t643 t644 (t646 != 0)) else (laws_FnIdle.j0 k t634 t637 t640 t643 t644 true))) = some r := H
  have A6 := Aside0.mk A60
  clear A60
  have HC7 := Aside0.mk H
  clear H
  go_enter Try.func3, Try.ntmps3
  go_upto_region 6 with (first | ((with_reducible refine gate_callee (f := 9) rfl ?_); refine goesL_ (some 16) rfl rfl Try.func9 (by kernel_rfl) rfl #[.slice A0 l0.length c0] rfl z1_ ?_; (with_reducible refine (laws_big.calls _ _ l0 false _ ?side1 ?side2 A2.out).mono ?_); (case side1 => exact z15_); (case side2 => exact HC0.out); rintro e w' ⟨rfl, ⟨nd, rfl⟩⟩; refine ⟨_, rfl, ?_⟩) | ((with_reducible refine gate_callee (f := 10) rfl ?_); refine goesL_ (some 19) rfl rfl Try.func10 (by kernel_rfl) rfl #[.slice A0 l0.length c0] rfl z1_ ?_; (with_reducible refine (spec_DrawDropIdle.calls k _ _ l0 t634 t637 _ ?side1 ?side2 A4.out).mono ?_); (case side1 => exact z15_); (case side2 => exact HC0.out); rintro e w8 ⟨v635, v638, rfl, ho0, ho1, hb⟩; refine ⟨_, rfl, ?_⟩; have HO636 := Aside0.mk (Kd.Q_lower (Kd.Q_mono (ok' := fun k_ => True) ho0 (fun _ hk_ => trivial)) (below_size z0_)); have HO639 := Aside0.mk (Kd.N_lower (Kd.N_mono (ok' := fun k_ => some k_ ≠ (v635 : Value).ownBlock) ho1 (fun k_ hk_ => hk_.2)) (below_size z0_)); replace HB := Aside0.mk (below_step z0_ hb); (try clear hb ho0 ho1); obtain ⟨Ao9, co9, eo9, _⟩ := Kd.Q_slice HO636.out; subst eo9; obtain ⟨Ao10, co10, eo10⟩ := Kd.N_slice HO639.out; subst eo10) | ((with_reducible refine gate_callee (f := 11) rfl ?_); refine goesL_ (some 25) rfl rfl Try.func11 (by kernel_rfl) rfl #[.slice Ao9 t634.length co9, .slice Ao10 t637.length co10] rfl z1_ ?_; (with_reducible refine (impl_DropIdle.calls k (fun k_ => some k_ = (.slice Ao9 t634.length co9 : Value).ownBlock) _ _ t634 _ _ t637 t640 t643 _ ?side1 ?side2 ?side3 A5.out).mono ?_); (case side1 => exact Kd.Q_V (Kd.Q_tight rfl (Kd.Q_apart' (HO636.out) (Kd.N_typed HO639.out) (by decide)))); (case side2 => exact z125_); (case side3 => exact (Kd.N_reads' HO639.out).2.1); rintro e w11 ⟨v641, rfl, ho0, hb⟩; refine ⟨_, rfl, ?_⟩; have ho0N_ := Kd.N_mono (Kd.S_N ho0) (fun (k_ : Nat) (h_ : _ ≤ k_) => (Or.inr h_ : some k_ = (.slice Ao9 t634.length co9 : Value).ownBlock ∨ _ ≤ k_)); clear ho0; have ho0 := ho0N_; clear ho0N_; have HO642 := Aside0.mk (Kd.N_lower (Kd.N_mono (ok' := fun k_ => some k_ ≠ (.slice Ao10 t637.length co10 : Value).ownBlock) ho0 (fun k_ hk_ => Or.elim hk_ (fun hs_ => ((Kd.Q_apart' (HO636.out) (Kd.N_typed HO639.out) (by decide)).1 k_ hs_.symm).2) (fun hn_ => (Kd.fresh' (Kd.N_lt z97_) k_ hn_)))) (below_size z0_)); replace HO636 := Aside0.mk (Kd.Q_below z98_ hb); replace HO639 := Aside0.mk (Kd.N_elder' z97_ (Kd.N_base ho0) hb); replace HB := Aside0.mk (below_step z0_ hb); (try clear hb ho0)) | ((with_reducible refine gate_callee (f := 12) rfl ?_); refine goesL_ (some 31) rfl rfl Try.func12 (by kernel_rfl) rfl #[.slice Ao9 t634.length co9, .slice Ao10 t637.length co10] rfl z1_ ?_; (with_reducible refine (spec_ApplyAll.calls k _ _ t634 _ _ t637 t644 t645 t646 _ ?side1 ?side2 ?side3 ?side4 A6.out).mono ?_); (case side1 => exact z100_); (case side2 => exact (Kd.Q_reads' HO636.out).2.1); (case side3 => exact z125_); (case side4 => exact (Kd.N_reads' HO639.out).2.1); rintro e w12 ⟨v647, rfl, ho0, hb⟩; refine ⟨_, rfl, ?_⟩; replace HO639 := Aside0.mk (Kd.N_elder' z97_ (Kd.R_base ho0) hb); replace HO642 := Aside0.mk (Kd.N_elder' z99_ (Kd.R_base ho0) hb); have HO648 := Aside0.mk (Kd.R_lower (Kd.R_new' ho0 (Kd.Q_lt z98_)) (below_size z0_)); replace HO636 := Aside0.mk (Kd.Q_elder' z98_ (Kd.R_base ho0) hb); replace HB := Aside0.mk (below_step z0_ hb); (try clear hb ho0)))
  (try simp only [Act.put, List.setIfInBounds_toArray, List.set_cons_zero, List.set_cons_succ])
  go_cut [41] (fun v41 wc => ∃ (kq : Nat) (x41_6 : Bool), v41 = .bool x41_6 ∧ Aside0 (laws_FnIdle.j0 kq t634 t637 t640 t643 t644 x41_6 = some r) ∧ Aside0 (kq ≤ k) ∧ Aside0 (Kd.Q k63 63 wc w.heap.size (fun k_ => some k_ ≠ (v647 : Value).ownBlock) (.slice Ao9 t634.length co9) t634) ∧ Aside0 (Kd.N k65 65 wc w.heap.size (fun k_ => some k_ ≠ ((.slice Ao9 t634.length co9) : Value).ownBlock ∧ some k_ ≠ (v641 : Value).ownBlock ∧ some k_ ≠ (v647 : Value).ownBlock) (.slice Ao10 t637.length co10) t637) ∧ Aside0 (Kd.N k65 65 wc w.heap.size (fun k_ => some k_ ≠ ((.slice Ao10 t637.length co10) : Value).ownBlock ∧ some k_ ≠ (v647 : Value).ownBlock) v641 t640) ∧ Aside0 (Kd.R k63 63 wc w.heap.size (fun k_ => some k_ ≠ ((.slice Ao9 t634.length co9) : Value).ownBlock) v647 t644) ∧ Aside0 (Below w.heap.size w wc))
  case first =>
   have H := HC7.out
   clear HC7
   obtain ⟨t649, A13, H⟩ := bnd_ H
   by_cases c14 : t649 = true
   ·subst c14
    replace H := ift_ H
    have H' := Aside0.mk H
    clear H
    go_wp2_with (first | ((with_reducible refine gate_callee (f := 13) rfl ?_); refine goesL_ (some 36) rfl rfl Try.func13 (by kernel_rfl) rfl #[.slice Ao9 t634.length co9] rfl z1_ ?_; (with_reducible refine (spec_TreeOk.calls k _ _ t634 true _ ?side1 ?side2 A13.out).mono ?_); (case side1 => exact z100_); (case side2 => exact (Kd.Q_reads' HO636.out).2.1); rintro e w15 ⟨rfl, hb⟩; refine ⟨_, rfl, ?_⟩; replace HO636 := Aside0.mk (Kd.Q_below z98_ hb); replace HO639 := Aside0.mk (Kd.N_below z97_ hb); replace HO642 := Aside0.mk (Kd.N_below z99_ hb); replace HO648 := Aside0.mk (Kd.R_below z170_ hb); replace HB := Aside0.mk (below_step z0_ hb); (try clear hb)))
    go_meet
    case rel => exact ⟨_, ((t646 != 0)), z14_, H', ⟨z143_⟩, ⟨z153_⟩, ⟨z136_⟩, ⟨z99_⟩, ⟨z154_⟩, ⟨z0_⟩⟩
   ·replace c14 := Bool.eq_false_iff.mpr c14
    subst c14
    replace H := iff_ H
    have H' := Aside0.mk H
    clear H
    go_wp2_with (first | ((with_reducible refine gate_callee (f := 13) rfl ?_); refine goesL_ (some 36) rfl rfl Try.func13 (by kernel_rfl) rfl #[.slice Ao9 t634.length co9] rfl z1_ ?_; (with_reducible refine (spec_TreeOk.calls k _ _ t634 false _ ?side1 ?side2 A13.out).mono ?_); (case side1 => exact z100_); (case side2 => exact (Kd.Q_reads' HO636.out).2.1); rintro e w16 ⟨rfl, hb⟩; refine ⟨_, rfl, ?_⟩; replace HO636 := Aside0.mk (Kd.Q_below z98_ hb); replace HO639 := Aside0.mk (Kd.N_below z97_ hb); replace HO642 := Aside0.mk (Kd.N_below z99_ hb); replace HO648 := Aside0.mk (Kd.R_below z170_ hb); replace HB := Aside0.mk (below_step z0_ hb); (try clear hb)))
    go_meet
    case rel => exact ⟨_, (true), z14_, H', ⟨z143_⟩, ⟨z153_⟩, ⟨z136_⟩, ⟨z99_⟩, ⟨z154_⟩, ⟨z0_⟩⟩
  case rest =>
   clear HC7
   try clear c1
   try clear p2
   try clear c3
   try clear c9
   try clear c10
   try clear c11
   try clear c12
   try clear c13
   try clear c14
   obtain ⟨kq, x41_6, rfl, HA, HJ6, HO_3, HO_4, HO_5, HO_7, HB⟩ := hcut
   cases kq with
   | zero => exact absurd HA.out (by simp [laws_FnIdle.j0])
   | succ kj6 =>
    have H := HA.out
    clear HA
    simp only [laws_FnIdle.j0] at H
    by_cases c17 : x41_6 = true
    ·subst c17
     replace H := ift_ H
     by_cases c18 : t643 = true
     ·subst c18
      replace H := ift_ H
      obtain rfl := Option.some.inj H
      go_wp2
      go_ret
      exact ⟨z6_, z0_⟩
     ·replace c18 := Bool.eq_false_iff.mpr c18
      subst c18
      replace H := iff_ H
      obtain rfl := Option.some.inj H
      obtain ⟨Ao19, co19, eo19⟩ := Kd.N_slice HO_5.out
      subst eo19
      go_wp2
      go_ret
      exact ⟨z6_, z0_⟩
    ·replace c17 := Bool.eq_false_iff.mpr c17
     subst c17
     replace H := iff_ H
     replace H := Option.bind_eq_some_iff.mp H
     obtain ⟨⟨t650, t651, t652⟩, A200, H⟩ := H
     replace H : ((impl_DropIdle.f kj6 t634 t640).bind fun bt655 => (if t643 = true then (if bt655.2 = true then (if t652 = 0 then ((spec_SameTree.f kj6 t644 t650).bind fun t659 => (if t659 = true then (if (t640.length : Int) ≤ (t637.length : Int) then ((spec_SameOps.f kj6 bt655.1 t640).bind fun t660 => (some t660)) else (some false)) else (some false))) else (some false)) else (some false)) else (some false))) = some r := H
     have A20 := Aside0.mk A200
     clear A200
     replace H := Option.bind_eq_some_iff.mp H
     obtain ⟨⟨t655, t658⟩, A210, H⟩ := H
     replace H : (if t643 = true then (if t658 = true then (if t652 = 0 then ((spec_SameTree.f kj6 t644 t650).bind fun t659 => (if t659 = true then (if (t640.length : Int) ≤ (t637.length : Int) then ((spec_SameOps.f kj6 t655 t640).bind fun t660 => (some t660)) else (some false)) else (some false))) else (some false)) else (some false)) else (some false)) = some r := H
     have A21 := Aside0.mk A210
     clear A210
     by_cases c22 : t643 = true
     ·subst c22
      replace H := ift_ H
      by_cases c23 : t658 = true
      ·subst c23
       replace H := ift_ H
       by_cases c24 : t652 = 0
       ·rw [if_pos c24] at H
        have c24b0 : (t652 == 0) = true := beq_iff_eq.mpr c24
        have c24b1 : (t652 != 0) = false := bne_eq_false_iff_eq.mpr c24
        clear c24
        obtain ⟨t659, A25, H⟩ := bnd_ H
        by_cases c26 : t659 = true
        ·subst c26
         replace H := ift_ H
         by_cases c27 : (t640.length : Int) ≤ (t637.length : Int)
         ·rw [if_pos c27] at H
          have c27b0 : decide ((t640.length : Int) ≤ (t637.length : Int)) = true := decide_eq_true c27
          have c27b1 : decide (t640.length ≤ t637.length) = true := decide_eq_true (Int.ofNat_le.mp c27)
          clear c27
          obtain ⟨t660, A28, H⟩ := bnd_ H
          obtain rfl := Option.some.inj H
          obtain ⟨Ao29, co29, eo29⟩ := Kd.N_slice HO_5.out
          subst eo29
          go_wp2_with (first | ((with_reducible refine gate_callee (f := 14) rfl ?_); refine goesL_ (some 52) rfl rfl Try.func14 (by kernel_rfl) rfl #[.slice Ao9 t634.length co9, .slice Ao29 t640.length co29] rfl z1_ ?_; (with_reducible refine (impl_ApplyAll.calls kj6 _ _ t634 _ _ t640 t650 t651 t652 _ ?side1 ?side2 ?side3 ?side4 A20.out).mono ?_); (case side1 => exact z60_); (case side2 => exact z171_); (case side3 => exact z36_); (case side4 => exact z114_); rintro e w30 ⟨v653, rfl, ho0, hb⟩; refine ⟨_, rfl, ?_⟩; replace HO_4 := Aside0.mk (Kd.N_elder' z41_ (Kd.R_base ho0) hb); replace HO_5 := Aside0.mk (Kd.N_elder' z42_ (Kd.R_base ho0) hb); have HO654 := Aside0.mk (Kd.R_lower (Kd.R_new' (Kd.R_new' ho0 (Kd.Q_lt z43_)) (Kd.R_lt z25_)) (below_size z0_)); replace HO_3 := Aside0.mk (Kd.Q_elder' z43_ (Kd.R_base ho0) hb); replace HO_7 := Aside0.mk (Kd.R_elder' z25_ (Kd.R_base ho0) hb); replace HB := Aside0.mk (below_step z0_ hb); (try clear hb ho0)) | ((with_reducible refine gate_callee (f := 11) rfl ?_); refine goesL_ (some 59) rfl rfl Try.func11 (by kernel_rfl) rfl #[.slice Ao9 t634.length co9, .slice Ao29 t640.length co29] rfl z1_ ?_; (with_reducible refine (impl_DropIdle.calls kj6 (fun k_ => some k_ = (.slice Ao9 t634.length co9 : Value).ownBlock) _ _ t634 _ _ t640 t655 true _ ?side1 ?side2 ?side3 A21.out).mono ?_); (case side1 => exact z78_); (case side2 => exact z36_); (case side3 => exact z114_); rintro e w31 ⟨v656, rfl, ho0, hb⟩; refine ⟨_, rfl, ?_⟩; have ho0N_ := Kd.N_mono (Kd.S_N ho0) (fun (k_ : Nat) (h_ : _ ≤ k_) => (Or.inr h_ : some k_ = (.slice Ao9 t634.length co9 : Value).ownBlock ∨ _ ≤ k_)); clear ho0; have ho0 := ho0N_; clear ho0N_; have HO657 := Aside0.mk (Kd.N_lower (Kd.N_mono (ok' := fun k_ => some k_ ≠ (.slice Ao10 t637.length co10 : Value).ownBlock ∧ some k_ ≠ (.slice Ao29 t640.length co29 : Value).ownBlock ∧ some k_ ≠ (v647 : Value).ownBlock ∧ some k_ ≠ (v653 : Value).ownBlock) ho0 (fun k_ hk_ => ⟨Or.elim hk_ (fun hs_ => ((Kd.Q_apart' (Kd.Q_apart' (HO_3.out) (Kd.N_typed HO_4.out) (by decide)) (Kd.N_typed HO_5.out) (by decide)).1 k_ hs_.symm).1.2) (fun hn_ => (Kd.fresh' (Kd.N_lt z41_) k_ hn_)), Or.elim hk_ (fun hs_ => ((Kd.Q_apart' (Kd.Q_apart' (HO_3.out) (Kd.N_typed HO_4.out) (by decide)) (Kd.N_typed HO_5.out) (by decide)).1 k_ hs_.symm).2) (fun hn_ => (Kd.fresh' (Kd.N_lt z42_) k_ hn_)), Or.elim hk_ (fun hs_ => ((Kd.Q_apart' (Kd.Q_apart' (HO_3.out) (Kd.N_typed HO_4.out) (by decide)) (Kd.N_typed HO_5.out) (by decide)).1 k_ hs_.symm).1.1.1) (fun hn_ => (Kd.fresh' (Kd.R_lt z25_) k_ hn_)), Or.elim hk_ (fun hs_ => ((Kd.Q_apart' (Kd.Q_apart' (HO_3.out) (Kd.N_typed HO_4.out) (by decide)) (Kd.N_typed HO_5.out) (by decide)).1 k_ hs_.symm).1.1.2) (fun hn_ => (Kd.fresh' (Kd.R_lt z55_) k_ hn_))⟩)) (below_size z0_)); replace HO_3 := Aside0.mk (Kd.Q_below z43_ hb); replace HO_4 := Aside0.mk (Kd.N_elder' z41_ (Kd.N_base ho0) hb); replace HO_5 := Aside0.mk (Kd.N_elder' z42_ (Kd.N_base ho0) hb); replace HO_7 := Aside0.mk (Kd.R_below z25_ hb); replace HO654 := Aside0.mk (Kd.R_below z55_ hb); replace HB := Aside0.mk (below_step z0_ hb); (try clear hb ho0); obtain ⟨Ao32, co32, eo32⟩ := Kd.R_slice HO_7.out; subst eo32; obtain ⟨Ao33, co33, eo33⟩ := Kd.R_slice HO654.out; subst eo33) | (go_at_call 15; (with_reducible refine (spec_SameTree.calls kj6 _ _ t644 _ _ t650 true _ ?side1 ?side2 ?side3 ?side4 A25.out).mono ?_); (case side1 => exact z70_); (case side2 => exact z156_); (case side3 => exact z101_); (case side4 => exact (Kd.R_reads' HO654.out).2.1); rintro e w' ⟨rfl, ⟨nd, rfl⟩⟩; obtain ⟨Ao34, co34, eo34⟩ := Kd.N_slice HO657.out; subst eo34) | (go_at_call 16; (with_reducible refine (spec_SameOps.calls kj6 _ _ t655 _ _ t640 t660 _ ?side1 ?side2 ?side3 ?side4 A28.out).mono ?_); (case side1 => repeat (first | exact (Kd.N_reads' HO657.out).2.2 | (with_reducible refine Kd.C_alloc ?_ _) | (with_reducible refine Kd.C_drewN ?_ _) | (with_reducible refine Kd.C_drew ?_))); (case side2 => exact (Kd.N_reads' HO657.out).2.1); (case side3 => exact z36_); (case side4 => exact z114_); rintro e w35 ⟨rfl, hb⟩; replace HO_3 := Aside0.mk (Kd.Q_below z43_ hb); replace HO_4 := Aside0.mk (Kd.N_below z41_ hb); replace HO_5 := Aside0.mk (Kd.N_below z42_ hb); replace HO_7 := Aside0.mk (Kd.R_below z25_ hb); replace HO654 := Aside0.mk (Kd.R_below z55_ hb); replace HO657 := Aside0.mk (Kd.N_below (by (with_reducible repeat (first | apply Kd.N_alloc | apply Kd.N_drewN | apply Kd.N_drew)); exact HO657.out) hb); replace HB := Aside0.mk (below_step z0_ hb); (try clear hb)))
          go_ret
          exact ⟨z6_, z0_⟩
         ·rw [if_neg c27] at H
          have c27b0 : decide ((t640.length : Int) ≤ (t637.length : Int)) = false := decide_eq_false c27
          have c27b1 : decide (t640.length ≤ t637.length) = false := decide_eq_false (fun h => c27 (Int.ofNat_le.mpr h))
          clear c27
          obtain rfl := Option.some.inj H
          obtain ⟨Ao36, co36, eo36⟩ := Kd.N_slice HO_5.out
          subst eo36
          go_wp2_with (first | ((with_reducible refine gate_callee (f := 14) rfl ?_); refine goesL_ (some 52) rfl rfl Try.func14 (by kernel_rfl) rfl #[.slice Ao9 t634.length co9, .slice Ao36 t640.length co36] rfl z1_ ?_; (with_reducible refine (impl_ApplyAll.calls kj6 _ _ t634 _ _ t640 t650 t651 t652 _ ?side1 ?side2 ?side3 ?side4 A20.out).mono ?_); (case side1 => exact z60_); (case side2 => exact z171_); (case side3 => exact z36_); (case side4 => exact z114_); rintro e w37 ⟨v653, rfl, ho0, hb⟩; refine ⟨_, rfl, ?_⟩; replace HO_4 := Aside0.mk (Kd.N_elder' z41_ (Kd.R_base ho0) hb); replace HO_5 := Aside0.mk (Kd.N_elder' z42_ (Kd.R_base ho0) hb); have HO654 := Aside0.mk (Kd.R_lower (Kd.R_new' (Kd.R_new' ho0 (Kd.Q_lt z43_)) (Kd.R_lt z25_)) (below_size z0_)); replace HO_3 := Aside0.mk (Kd.Q_elder' z43_ (Kd.R_base ho0) hb); replace HO_7 := Aside0.mk (Kd.R_elder' z25_ (Kd.R_base ho0) hb); replace HB := Aside0.mk (below_step z0_ hb); (try clear hb ho0)) | ((with_reducible refine gate_callee (f := 11) rfl ?_); refine goesL_ (some 59) rfl rfl Try.func11 (by kernel_rfl) rfl #[.slice Ao9 t634.length co9, .slice Ao36 t640.length co36] rfl z1_ ?_; (with_reducible refine (impl_DropIdle.calls kj6 (fun k_ => some k_ = (.slice Ao9 t634.length co9 : Value).ownBlock) _ _ t634 _ _ t640 t655 true _ ?side1 ?side2 ?side3 A21.out).mono ?_); (case side1 => exact z78_); (case side2 => exact z36_); (case side3 => exact z114_); rintro e w38 ⟨v656, rfl, ho0, hb⟩; refine ⟨_, rfl, ?_⟩; have ho0N_ := Kd.N_mono (Kd.S_N ho0) (fun (k_ : Nat) (h_ : _ ≤ k_) => (Or.inr h_ : some k_ = (.slice Ao9 t634.length co9 : Value).ownBlock ∨ _ ≤ k_)); clear ho0; have ho0 := ho0N_; clear ho0N_; have HO657 := Aside0.mk (Kd.N_lower (Kd.N_mono (ok' := fun k_ => some k_ ≠ (.slice Ao10 t637.length co10 : Value).ownBlock ∧ some k_ ≠ (.slice Ao36 t640.length co36 : Value).ownBlock ∧ some k_ ≠ (v647 : Value).ownBlock ∧ some k_ ≠ (v653 : Value).ownBlock) ho0 (fun k_ hk_ => ⟨Or.elim hk_ (fun hs_ => ((Kd.Q_apart' (Kd.Q_apart' (HO_3.out) (Kd.N_typed HO_4.out) (by decide)) (Kd.N_typed HO_5.out) (by decide)).1 k_ hs_.symm).1.2) (fun hn_ => (Kd.fresh' (Kd.N_lt z41_) k_ hn_)), Or.elim hk_ (fun hs_ => ((Kd.Q_apart' (Kd.Q_apart' (HO_3.out) (Kd.N_typed HO_4.out) (by decide)) (Kd.N_typed HO_5.out) (by decide)).1 k_ hs_.symm).2) (fun hn_ => (Kd.fresh' (Kd.N_lt z42_) k_ hn_)), Or.elim hk_ (fun hs_ => ((Kd.Q_apart' (Kd.Q_apart' (HO_3.out) (Kd.N_typed HO_4.out) (by decide)) (Kd.N_typed HO_5.out) (by decide)).1 k_ hs_.symm).1.1.1) (fun hn_ => (Kd.fresh' (Kd.R_lt z25_) k_ hn_)), Or.elim hk_ (fun hs_ => ((Kd.Q_apart' (Kd.Q_apart' (HO_3.out) (Kd.N_typed HO_4.out) (by decide)) (Kd.N_typed HO_5.out) (by decide)).1 k_ hs_.symm).1.1.2) (fun hn_ => (Kd.fresh' (Kd.R_lt z55_) k_ hn_))⟩)) (below_size z0_)); replace HO_3 := Aside0.mk (Kd.Q_below z43_ hb); replace HO_4 := Aside0.mk (Kd.N_elder' z41_ (Kd.N_base ho0) hb); replace HO_5 := Aside0.mk (Kd.N_elder' z42_ (Kd.N_base ho0) hb); replace HO_7 := Aside0.mk (Kd.R_below z25_ hb); replace HO654 := Aside0.mk (Kd.R_below z55_ hb); replace HB := Aside0.mk (below_step z0_ hb); (try clear hb ho0); obtain ⟨Ao39, co39, eo39⟩ := Kd.R_slice HO_7.out; subst eo39; obtain ⟨Ao40, co40, eo40⟩ := Kd.R_slice HO654.out; subst eo40) | (go_at_call 15; (with_reducible refine (spec_SameTree.calls kj6 _ _ t644 _ _ t650 true _ ?side1 ?side2 ?side3 ?side4 A25.out).mono ?_); (case side1 => exact z70_); (case side2 => exact z156_); (case side3 => exact z101_); (case side4 => exact (Kd.R_reads' HO654.out).2.1); rintro e w' ⟨rfl, ⟨nd, rfl⟩⟩))
          go_ret
          exact ⟨z6_, z0_⟩
        ·replace c26 := Bool.eq_false_iff.mpr c26
         subst c26
         replace H := iff_ H
         obtain rfl := Option.some.inj H
         obtain ⟨Ao41, co41, eo41⟩ := Kd.N_slice HO_5.out
         subst eo41
         go_wp2_with (first | ((with_reducible refine gate_callee (f := 14) rfl ?_); refine goesL_ (some 52) rfl rfl Try.func14 (by kernel_rfl) rfl #[.slice Ao9 t634.length co9, .slice Ao41 t640.length co41] rfl z1_ ?_; (with_reducible refine (impl_ApplyAll.calls kj6 _ _ t634 _ _ t640 t650 t651 t652 _ ?side1 ?side2 ?side3 ?side4 A20.out).mono ?_); (case side1 => exact z60_); (case side2 => exact z171_); (case side3 => exact z36_); (case side4 => exact z114_); rintro e w42 ⟨v653, rfl, ho0, hb⟩; refine ⟨_, rfl, ?_⟩; replace HO_4 := Aside0.mk (Kd.N_elder' z41_ (Kd.R_base ho0) hb); replace HO_5 := Aside0.mk (Kd.N_elder' z42_ (Kd.R_base ho0) hb); have HO654 := Aside0.mk (Kd.R_lower (Kd.R_new' (Kd.R_new' ho0 (Kd.Q_lt z43_)) (Kd.R_lt z25_)) (below_size z0_)); replace HO_3 := Aside0.mk (Kd.Q_elder' z43_ (Kd.R_base ho0) hb); replace HO_7 := Aside0.mk (Kd.R_elder' z25_ (Kd.R_base ho0) hb); replace HB := Aside0.mk (below_step z0_ hb); (try clear hb ho0)) | ((with_reducible refine gate_callee (f := 11) rfl ?_); refine goesL_ (some 59) rfl rfl Try.func11 (by kernel_rfl) rfl #[.slice Ao9 t634.length co9, .slice Ao41 t640.length co41] rfl z1_ ?_; (with_reducible refine (impl_DropIdle.calls kj6 (fun k_ => some k_ = (.slice Ao9 t634.length co9 : Value).ownBlock) _ _ t634 _ _ t640 t655 true _ ?side1 ?side2 ?side3 A21.out).mono ?_); (case side1 => exact z78_); (case side2 => exact z36_); (case side3 => exact z114_); rintro e w43 ⟨v656, rfl, ho0, hb⟩; refine ⟨_, rfl, ?_⟩; have ho0N_ := Kd.N_mono (Kd.S_N ho0) (fun (k_ : Nat) (h_ : _ ≤ k_) => (Or.inr h_ : some k_ = (.slice Ao9 t634.length co9 : Value).ownBlock ∨ _ ≤ k_)); clear ho0; have ho0 := ho0N_; clear ho0N_; have HO657 := Aside0.mk (Kd.N_lower (Kd.N_mono (ok' := fun k_ => some k_ ≠ (.slice Ao10 t637.length co10 : Value).ownBlock ∧ some k_ ≠ (.slice Ao41 t640.length co41 : Value).ownBlock ∧ some k_ ≠ (v647 : Value).ownBlock ∧ some k_ ≠ (v653 : Value).ownBlock) ho0 (fun k_ hk_ => ⟨Or.elim hk_ (fun hs_ => ((Kd.Q_apart' (Kd.Q_apart' (HO_3.out) (Kd.N_typed HO_4.out) (by decide)) (Kd.N_typed HO_5.out) (by decide)).1 k_ hs_.symm).1.2) (fun hn_ => (Kd.fresh' (Kd.N_lt z41_) k_ hn_)), Or.elim hk_ (fun hs_ => ((Kd.Q_apart' (Kd.Q_apart' (HO_3.out) (Kd.N_typed HO_4.out) (by decide)) (Kd.N_typed HO_5.out) (by decide)).1 k_ hs_.symm).2) (fun hn_ => (Kd.fresh' (Kd.N_lt z42_) k_ hn_)), Or.elim hk_ (fun hs_ => ((Kd.Q_apart' (Kd.Q_apart' (HO_3.out) (Kd.N_typed HO_4.out) (by decide)) (Kd.N_typed HO_5.out) (by decide)).1 k_ hs_.symm).1.1.1) (fun hn_ => (Kd.fresh' (Kd.R_lt z25_) k_ hn_)), Or.elim hk_ (fun hs_ => ((Kd.Q_apart' (Kd.Q_apart' (HO_3.out) (Kd.N_typed HO_4.out) (by decide)) (Kd.N_typed HO_5.out) (by decide)).1 k_ hs_.symm).1.1.2) (fun hn_ => (Kd.fresh' (Kd.R_lt z55_) k_ hn_))⟩)) (below_size z0_)); replace HO_3 := Aside0.mk (Kd.Q_below z43_ hb); replace HO_4 := Aside0.mk (Kd.N_elder' z41_ (Kd.N_base ho0) hb); replace HO_5 := Aside0.mk (Kd.N_elder' z42_ (Kd.N_base ho0) hb); replace HO_7 := Aside0.mk (Kd.R_below z25_ hb); replace HO654 := Aside0.mk (Kd.R_below z55_ hb); replace HB := Aside0.mk (below_step z0_ hb); (try clear hb ho0); obtain ⟨Ao44, co44, eo44⟩ := Kd.R_slice HO_7.out; subst eo44; obtain ⟨Ao45, co45, eo45⟩ := Kd.R_slice HO654.out; subst eo45) | (go_at_call 15; (with_reducible refine (spec_SameTree.calls kj6 _ _ t644 _ _ t650 false _ ?side1 ?side2 ?side3 ?side4 A25.out).mono ?_); (case side1 => exact z70_); (case side2 => exact z156_); (case side3 => exact z101_); (case side4 => exact (Kd.R_reads' HO654.out).2.1); rintro e w' ⟨rfl, ⟨nd, rfl⟩⟩))
         go_ret
         exact ⟨z6_, z0_⟩
       ·rw [if_neg c24] at H
        have c24b0 : (t652 == 0) = false := beq_eq_false_iff_ne.mpr c24
        have c24b1 : (t652 != 0) = true := bne_iff_ne.mpr c24
        obtain rfl := Option.some.inj H
        obtain ⟨Ao46, co46, eo46⟩ := Kd.N_slice HO_5.out
        subst eo46
        go_wp2_with (first | ((with_reducible refine gate_callee (f := 14) rfl ?_); refine goesL_ (some 52) rfl rfl Try.func14 (by kernel_rfl) rfl #[.slice Ao9 t634.length co9, .slice Ao46 t640.length co46] rfl z1_ ?_; (with_reducible refine (impl_ApplyAll.calls kj6 _ _ t634 _ _ t640 t650 t651 t652 _ ?side1 ?side2 ?side3 ?side4 A20.out).mono ?_); (case side1 => exact z60_); (case side2 => exact z171_); (case side3 => exact z36_); (case side4 => exact z114_); rintro e w47 ⟨v653, rfl, ho0, hb⟩; refine ⟨_, rfl, ?_⟩; replace HO_4 := Aside0.mk (Kd.N_elder' z41_ (Kd.R_base ho0) hb); replace HO_5 := Aside0.mk (Kd.N_elder' z42_ (Kd.R_base ho0) hb); have HO654 := Aside0.mk (Kd.R_lower (Kd.R_new' (Kd.R_new' ho0 (Kd.Q_lt z43_)) (Kd.R_lt z25_)) (below_size z0_)); replace HO_3 := Aside0.mk (Kd.Q_elder' z43_ (Kd.R_base ho0) hb); replace HO_7 := Aside0.mk (Kd.R_elder' z25_ (Kd.R_base ho0) hb); replace HB := Aside0.mk (below_step z0_ hb); (try clear hb ho0)) | ((with_reducible refine gate_callee (f := 11) rfl ?_); refine goesL_ (some 59) rfl rfl Try.func11 (by kernel_rfl) rfl #[.slice Ao9 t634.length co9, .slice Ao46 t640.length co46] rfl z1_ ?_; (with_reducible refine (impl_DropIdle.calls kj6 (fun k_ => some k_ = (.slice Ao9 t634.length co9 : Value).ownBlock) _ _ t634 _ _ t640 t655 true _ ?side1 ?side2 ?side3 A21.out).mono ?_); (case side1 => exact z78_); (case side2 => exact z36_); (case side3 => exact z114_); rintro e w48 ⟨v656, rfl, ho0, hb⟩; refine ⟨_, rfl, ?_⟩; have ho0N_ := Kd.N_mono (Kd.S_N ho0) (fun (k_ : Nat) (h_ : _ ≤ k_) => (Or.inr h_ : some k_ = (.slice Ao9 t634.length co9 : Value).ownBlock ∨ _ ≤ k_)); clear ho0; have ho0 := ho0N_; clear ho0N_; have HO657 := Aside0.mk (Kd.N_lower (Kd.N_mono (ok' := fun k_ => some k_ ≠ (.slice Ao10 t637.length co10 : Value).ownBlock ∧ some k_ ≠ (.slice Ao46 t640.length co46 : Value).ownBlock ∧ some k_ ≠ (v647 : Value).ownBlock ∧ some k_ ≠ (v653 : Value).ownBlock) ho0 (fun k_ hk_ => ⟨Or.elim hk_ (fun hs_ => ((Kd.Q_apart' (Kd.Q_apart' (HO_3.out) (Kd.N_typed HO_4.out) (by decide)) (Kd.N_typed HO_5.out) (by decide)).1 k_ hs_.symm).1.2) (fun hn_ => (Kd.fresh' (Kd.N_lt z41_) k_ hn_)), Or.elim hk_ (fun hs_ => ((Kd.Q_apart' (Kd.Q_apart' (HO_3.out) (Kd.N_typed HO_4.out) (by decide)) (Kd.N_typed HO_5.out) (by decide)).1 k_ hs_.symm).2) (fun hn_ => (Kd.fresh' (Kd.N_lt z42_) k_ hn_)), Or.elim hk_ (fun hs_ => ((Kd.Q_apart' (Kd.Q_apart' (HO_3.out) (Kd.N_typed HO_4.out) (by decide)) (Kd.N_typed HO_5.out) (by decide)).1 k_ hs_.symm).1.1.1) (fun hn_ => (Kd.fresh' (Kd.R_lt z25_) k_ hn_)), Or.elim hk_ (fun hs_ => ((Kd.Q_apart' (Kd.Q_apart' (HO_3.out) (Kd.N_typed HO_4.out) (by decide)) (Kd.N_typed HO_5.out) (by decide)).1 k_ hs_.symm).1.1.2) (fun hn_ => (Kd.fresh' (Kd.R_lt z55_) k_ hn_))⟩)) (below_size z0_)); replace HO_3 := Aside0.mk (Kd.Q_below z43_ hb); replace HO_4 := Aside0.mk (Kd.N_elder' z41_ (Kd.N_base ho0) hb); replace HO_5 := Aside0.mk (Kd.N_elder' z42_ (Kd.N_base ho0) hb); replace HO_7 := Aside0.mk (Kd.R_below z25_ hb); replace HO654 := Aside0.mk (Kd.R_below z55_ hb); replace HB := Aside0.mk (below_step z0_ hb); (try clear hb ho0)))
        go_ret
        exact ⟨z6_, z0_⟩
      ·replace c23 := Bool.eq_false_iff.mpr c23
       subst c23
       replace H := iff_ H
       obtain rfl := Option.some.inj H
       obtain ⟨Ao49, co49, eo49⟩ := Kd.N_slice HO_5.out
       subst eo49
       go_wp2_with (first | ((with_reducible refine gate_callee (f := 14) rfl ?_); refine goesL_ (some 52) rfl rfl Try.func14 (by kernel_rfl) rfl #[.slice Ao9 t634.length co9, .slice Ao49 t640.length co49] rfl z1_ ?_; (with_reducible refine (impl_ApplyAll.calls kj6 _ _ t634 _ _ t640 t650 t651 t652 _ ?side1 ?side2 ?side3 ?side4 A20.out).mono ?_); (case side1 => exact z60_); (case side2 => exact z171_); (case side3 => exact z36_); (case side4 => exact z114_); rintro e w50 ⟨v653, rfl, ho0, hb⟩; refine ⟨_, rfl, ?_⟩; replace HO_4 := Aside0.mk (Kd.N_elder' z41_ (Kd.R_base ho0) hb); replace HO_5 := Aside0.mk (Kd.N_elder' z42_ (Kd.R_base ho0) hb); have HO654 := Aside0.mk (Kd.R_lower (Kd.R_new' (Kd.R_new' ho0 (Kd.Q_lt z43_)) (Kd.R_lt z25_)) (below_size z0_)); replace HO_3 := Aside0.mk (Kd.Q_elder' z43_ (Kd.R_base ho0) hb); replace HO_7 := Aside0.mk (Kd.R_elder' z25_ (Kd.R_base ho0) hb); replace HB := Aside0.mk (below_step z0_ hb); (try clear hb ho0)) | ((with_reducible refine gate_callee (f := 11) rfl ?_); refine goesL_ (some 59) rfl rfl Try.func11 (by kernel_rfl) rfl #[.slice Ao9 t634.length co9, .slice Ao49 t640.length co49] rfl z1_ ?_; (with_reducible refine (impl_DropIdle.calls kj6 (fun k_ => some k_ = (.slice Ao9 t634.length co9 : Value).ownBlock) _ _ t634 _ _ t640 t655 false _ ?side1 ?side2 ?side3 A21.out).mono ?_); (case side1 => exact z78_); (case side2 => exact z36_); (case side3 => exact z114_); rintro e w51 ⟨v656, rfl, ho0, hb⟩; refine ⟨_, rfl, ?_⟩; have ho0N_ := Kd.N_mono (Kd.S_N ho0) (fun (k_ : Nat) (h_ : _ ≤ k_) => (Or.inr h_ : some k_ = (.slice Ao9 t634.length co9 : Value).ownBlock ∨ _ ≤ k_)); clear ho0; have ho0 := ho0N_; clear ho0N_; have HO657 := Aside0.mk (Kd.N_lower (Kd.N_mono (ok' := fun k_ => some k_ ≠ (.slice Ao10 t637.length co10 : Value).ownBlock ∧ some k_ ≠ (.slice Ao49 t640.length co49 : Value).ownBlock ∧ some k_ ≠ (v647 : Value).ownBlock ∧ some k_ ≠ (v653 : Value).ownBlock) ho0 (fun k_ hk_ => ⟨Or.elim hk_ (fun hs_ => ((Kd.Q_apart' (Kd.Q_apart' (HO_3.out) (Kd.N_typed HO_4.out) (by decide)) (Kd.N_typed HO_5.out) (by decide)).1 k_ hs_.symm).1.2) (fun hn_ => (Kd.fresh' (Kd.N_lt z41_) k_ hn_)), Or.elim hk_ (fun hs_ => ((Kd.Q_apart' (Kd.Q_apart' (HO_3.out) (Kd.N_typed HO_4.out) (by decide)) (Kd.N_typed HO_5.out) (by decide)).1 k_ hs_.symm).2) (fun hn_ => (Kd.fresh' (Kd.N_lt z42_) k_ hn_)), Or.elim hk_ (fun hs_ => ((Kd.Q_apart' (Kd.Q_apart' (HO_3.out) (Kd.N_typed HO_4.out) (by decide)) (Kd.N_typed HO_5.out) (by decide)).1 k_ hs_.symm).1.1.1) (fun hn_ => (Kd.fresh' (Kd.R_lt z25_) k_ hn_)), Or.elim hk_ (fun hs_ => ((Kd.Q_apart' (Kd.Q_apart' (HO_3.out) (Kd.N_typed HO_4.out) (by decide)) (Kd.N_typed HO_5.out) (by decide)).1 k_ hs_.symm).1.1.2) (fun hn_ => (Kd.fresh' (Kd.R_lt z55_) k_ hn_))⟩)) (below_size z0_)); replace HO_3 := Aside0.mk (Kd.Q_below z43_ hb); replace HO_4 := Aside0.mk (Kd.N_elder' z41_ (Kd.N_base ho0) hb); replace HO_5 := Aside0.mk (Kd.N_elder' z42_ (Kd.N_base ho0) hb); replace HO_7 := Aside0.mk (Kd.R_below z25_ hb); replace HO654 := Aside0.mk (Kd.R_below z55_ hb); replace HB := Aside0.mk (below_step z0_ hb); (try clear hb ho0)))
       go_ret
       exact ⟨z6_, z0_⟩
     ·replace c22 := Bool.eq_false_iff.mpr c22
      subst c22
      replace H := iff_ H
      obtain rfl := Option.some.inj H
      obtain ⟨Ao52, co52, eo52⟩ := Kd.N_slice HO_5.out
      subst eo52
      go_wp2_with (first | ((with_reducible refine gate_callee (f := 14) rfl ?_); refine goesL_ (some 52) rfl rfl Try.func14 (by kernel_rfl) rfl #[.slice Ao9 t634.length co9, .slice Ao52 t640.length co52] rfl z1_ ?_; (with_reducible refine (impl_ApplyAll.calls kj6 _ _ t634 _ _ t640 t650 t651 t652 _ ?side1 ?side2 ?side3 ?side4 A20.out).mono ?_); (case side1 => exact z60_); (case side2 => exact z171_); (case side3 => exact z36_); (case side4 => exact z114_); rintro e w53 ⟨v653, rfl, ho0, hb⟩; refine ⟨_, rfl, ?_⟩; replace HO_4 := Aside0.mk (Kd.N_elder' z41_ (Kd.R_base ho0) hb); replace HO_5 := Aside0.mk (Kd.N_elder' z42_ (Kd.R_base ho0) hb); have HO654 := Aside0.mk (Kd.R_lower (Kd.R_new' (Kd.R_new' ho0 (Kd.Q_lt z43_)) (Kd.R_lt z25_)) (below_size z0_)); replace HO_3 := Aside0.mk (Kd.Q_elder' z43_ (Kd.R_base ho0) hb); replace HO_7 := Aside0.mk (Kd.R_elder' z25_ (Kd.R_base ho0) hb); replace HB := Aside0.mk (below_step z0_ hb); (try clear hb ho0)) | ((with_reducible refine gate_callee (f := 11) rfl ?_); refine goesL_ (some 59) rfl rfl Try.func11 (by kernel_rfl) rfl #[.slice Ao9 t634.length co9, .slice Ao52 t640.length co52] rfl z1_ ?_; (with_reducible refine (impl_DropIdle.calls kj6 (fun k_ => some k_ = (.slice Ao9 t634.length co9 : Value).ownBlock) _ _ t634 _ _ t640 t655 t658 _ ?side1 ?side2 ?side3 A21.out).mono ?_); (case side1 => exact z78_); (case side2 => exact z36_); (case side3 => exact z114_); rintro e w54 ⟨v656, rfl, ho0, hb⟩; refine ⟨_, rfl, ?_⟩; have ho0N_ := Kd.N_mono (Kd.S_N ho0) (fun (k_ : Nat) (h_ : _ ≤ k_) => (Or.inr h_ : some k_ = (.slice Ao9 t634.length co9 : Value).ownBlock ∨ _ ≤ k_)); clear ho0; have ho0 := ho0N_; clear ho0N_; have HO657 := Aside0.mk (Kd.N_lower (Kd.N_mono (ok' := fun k_ => some k_ ≠ (.slice Ao10 t637.length co10 : Value).ownBlock ∧ some k_ ≠ (.slice Ao52 t640.length co52 : Value).ownBlock ∧ some k_ ≠ (v647 : Value).ownBlock ∧ some k_ ≠ (v653 : Value).ownBlock) ho0 (fun k_ hk_ => ⟨Or.elim hk_ (fun hs_ => ((Kd.Q_apart' (Kd.Q_apart' (HO_3.out) (Kd.N_typed HO_4.out) (by decide)) (Kd.N_typed HO_5.out) (by decide)).1 k_ hs_.symm).1.2) (fun hn_ => (Kd.fresh' (Kd.N_lt z41_) k_ hn_)), Or.elim hk_ (fun hs_ => ((Kd.Q_apart' (Kd.Q_apart' (HO_3.out) (Kd.N_typed HO_4.out) (by decide)) (Kd.N_typed HO_5.out) (by decide)).1 k_ hs_.symm).2) (fun hn_ => (Kd.fresh' (Kd.N_lt z42_) k_ hn_)), Or.elim hk_ (fun hs_ => ((Kd.Q_apart' (Kd.Q_apart' (HO_3.out) (Kd.N_typed HO_4.out) (by decide)) (Kd.N_typed HO_5.out) (by decide)).1 k_ hs_.symm).1.1.1) (fun hn_ => (Kd.fresh' (Kd.R_lt z25_) k_ hn_)), Or.elim hk_ (fun hs_ => ((Kd.Q_apart' (Kd.Q_apart' (HO_3.out) (Kd.N_typed HO_4.out) (by decide)) (Kd.N_typed HO_5.out) (by decide)).1 k_ hs_.symm).1.1.2) (fun hn_ => (Kd.fresh' (Kd.R_lt z55_) k_ hn_))⟩)) (below_size z0_)); replace HO_3 := Aside0.mk (Kd.Q_below z43_ hb); replace HO_4 := Aside0.mk (Kd.N_elder' z41_ (Kd.N_base ho0) hb); replace HO_5 := Aside0.mk (Kd.N_elder' z42_ (Kd.N_base ho0) hb); replace HO_7 := Aside0.mk (Kd.R_below z25_ hb); replace HO654 := Aside0.mk (Kd.R_below z55_ hb); replace HB := Aside0.mk (below_step z0_ hb); (try clear hb ho0)))
      go_ret
      exact ⟨z6_, z0_⟩

/-- THE ONE PURE STATEMENT of laws_FnIdle: yours. -/
def laws_FnIdle.Pure : Prop := ∀ (l0 : List Int), l0.length ≤ maxLen → l0.length * 1 ≤ 140737488351232 → (∀ x ∈ l0, (Lit.int .u8 x).wf = true) → ∃ k, laws_FnIdle.f k l0 = some true
theorem laws_FnIdle.walk (P : laws_FnIdle.Pure) (a0 : Option Addr) (len0 cap0 : Nat) (z0 : List Int) (w : World) (w0 : (a0 = none ∧ len0 = 0 ∧ cap0 = 0 ∧ z0 = []) ∨ ∃ x, a0 = some x ∧ len0 ≤ cap0 ∧ cap0 ≤ maxLen ∧ z0.length = cap0 ∧ (∀ i, i < z0.length → w.cell? (x.add i) = some (.int .u8 (z0.getD i 0))) ∧ ∀ n ∈ z0, (Lit.int .u8 n).wf = true) (y0 : len0 * 1 ≤ 140737488351232) :
  Calls Try.prog 3 #[.slice a0 len0 cap0] w fun e w' => e = .returned (.bool true) ∧ Below w.heap.size w w' := by
 obtain ⟨l0, rfl, hr0, hm0, hw0, hc0⟩ := ReadsInt.ofRowC w0
 obtain ⟨k, h⟩ := P l0 hm0 y0 hw0
 refine (laws_FnIdle.calls k _ _ l0 true w (Kd.C_of_reads (d := (0 : Int)) (h1 := fun _ => rfl) hr0) hc0 h).mono ?_
 rintro e w' ⟨rfl, hd⟩
 exact ⟨rfl, hd⟩

end Go.Proofs.Ytmbhlfcpdbbogaa.PFnIdle
