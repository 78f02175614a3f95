/- Laid by a program of this session out of the kit's print for the law FnInverted: what it says of the machine is proved here, function by function; each contract under the conditions that it names. -/
import Derived.Test.YtdapeboajjidmabMFnInvertedx0
import Derived.Test.YtdapeboajjidmabMFnInvertedx2
import Derived.Test.YtdapeboajjidmabMFnInvertedx3
import Derived.Test.YtdapeboajjidmabMFnInvertedx4
import Derived.Test.YtdapeboajjidmabMFnInvertedx11
import Derived.Test.YtdapeboajjidmabMFnInvertedx17
import Derived.Test.YtdapeboajjidmabMFnInvertedx19
namespace Go.Proofs.Ytdapeboajjidmab.PFnInverted
open Go.RowKit Go.Proofs.YtdapeboajjidmabW.PrintWords Go.Proofs.YtdapeboajjidmabW.PrintLast Go.Proofs.YtdapeboajjidmabW.PrintMore
attribute [local go_sem] max2_int min2_int max_two min_two max_three min_three max_four min_four   -- for this text's walks alone
set_option linter.unusedVariables false
set_option linter.unusedSimpArgs false

/-! ### laws_FnInverted: function 8 -/
def laws_FnInverted.j0 : Nat → List (S62) → List (S121) → List (S121) → Bool → List (S62) → Bool → Option (Bool)
 | 0, _, _, _, _, _, _ => none
 | k + 1, x3, x4, x5, x6, x7, x45 => if x45 = true then (if x6 = true then (none) else (some ((x5.length : Int) == 0))) else ((impl_ApplyAll.f k x7 x5).bind fun bt699 => ((impl_Invert.f k x7 x5).bind fun bt704 => ((impl_ApplyAll.f k bt699.1 bt704.1).bind fun bt708 => ((spec_UnitCost.f k).bind fun bt713 => (if x6 = true then (if bt704.2 = true then (if (x5.length : Int) = (x4.length : Int) then (if bt699.2.2 = 0 then (if bt699.2.1 = (x5.length : Int) then ((spec_SameTree.f k bt699.1 x3).bind fun t723 => (if t723 = true then (if bt708.2.2 = 0 then ((spec_SameTree.f k bt708.1 x7).bind fun t724 => (if t724 = true then ((impl_ScriptCost.f k x3 x4 bt713.1 bt713.2.1 bt713.2.2).bind fun t725 => ((impl_ScriptCost.f k x7 x5 bt713.1 bt713.2.1 bt713.2.2).bind fun t726 => (some (t725 == t726)))) else (none))) else (none)) else (none))) else (none)) else (none)) else (none)) else (none)) else (none))))))
def laws_FnInverted.f (k : Nat) (l0 : List Int) : Option (Bool) := (laws_big.f l0).bind fun t682 => (if t682 = true then (some true) else ((spec_DrawInvert.f k l0).bind fun bt683 => ((impl_Invert.f k bt683.1 bt683.2).bind fun bt689 => ((spec_ApplyAll.f k bt683.1 bt683.2).bind fun bt693 => ((spec_TreeOk.f k bt683.1).bind fun t698 => (if t698 = true then (laws_FnInverted.j0 k bt683.1 bt683.2 bt689.1 bt689.2 bt693.1 (bt693.2.2 != 0)) else (laws_FnInverted.j0 k bt683.1 bt683.2 bt689.1 bt689.2 bt693.1 true)))))))
def laws_FnInverted.T12 : Bool × List (List Nat × List Nat) := (true, [([], []), ([0], [0]), ([1], [1]), ([1, 2], [1, 2]), ([3, 1], [3]), ([4], [4]), ([5, 4], [4, 5]), ([4], [4]), ([7, 4], [4, 7]), ([6, 8, 4], [4, 6, 8]), ([4, 9], [4, 9]), ([10, 4], [10]), ([11], [11]), ([12, 11], [11, 12]), ([11, 13], [11, 13]), ([14, 11], [14]), ([15], [15]), ([15], [15]), ([17, 15], [15, 17]), ([16, 18, 15], [15, 16, 18]), ([15, 19], [15, 19]), ([20, 15], [20]), ([21], [21]), ([21], [21]), ([22, 23, 21, 21], [21, 22, 23]), ([21, 24], [21, 24]), ([25, 24], [25]), ([26], [26]), ([27, 26], [26, 27]), ([26, 28], [26, 28]), ([29, 26], [29]), ([30], [30]), ([30], [30]), ([31, 32, 30, 30], [30, 31, 32]), ([30, 33], [30, 33]), ([34, 33], [34]), ([35], [35]), ([35], [35]), ([35], [35]), ([36, 37, 38, 35, 35], [35, 36, 37, 38]), ([35], [35]), ([35], [35]), ([35], [35]), ([40, 41, 42, 39, 35], [35, 40, 41, 42]), ([39, 43, 35], [35, 39, 43]), ([35, 44], [35, 44]), ([45, 43, 0, 1, 2, 3, 4, 5, 6, 7, 8, 9, 10, 11, 12, 13, 14, 15, 16, 17, 18, 19, 20, 21, 22, 23, 24, 25, 26, 27, 28, 29, 30, 31, 32, 33, 34, 35, 36, 37, 38, 39, 40, 41, 42, 43, 44, 45], [45])])
def laws_FnInverted.B12 : List Nat := [0, 1, 3, 7, 15, 31, 63, 31, 159, 511, 1023, 2047, 4095, 8191, 16383, 32767, 65535, 65535, 196607, 524287, 1048575, 2097151, 4194303, 4194303, 16777215, 33554431, 67108863, 134217727, 268435455, 536870911, 1073741823, 2147483647, 2147483647, 8589934591, 17179869183, 34359738367, 68719476735, 68719476735, 68719476735, 549755813887, 68719476735, 68719476735, 68719476735, 8796093022207, 17592186044415, 35184372088831, 70368744177663]
theorem laws_FnInverted.tab12 : rtab .any (opsOf Try.f8 12) = laws_FnInverted.T12 := by kernel_rfl
theorem laws_FnInverted.bits12 : waitsOk laws_FnInverted.T12.2 laws_FnInverted.B12 = true := by kernel_rfl
set_option maxHeartbeats 8000000 in
set_option maxRecDepth 100000 in
theorem laws_FnInverted.calls (k : Nat) (A0 : Option Addr) (c0 : Nat) (l0 : List Int) (r : Bool) (w : World) (hr0 : Kd.C (Kd.int .u8) w A0 l0.length l0) (hc0 : l0.length ≤ c0) (h : laws_FnInverted.f k l0 = some r) :
  Calls Try.prog 8 #[.slice A0 l0.length c0] w fun e w' => e = .returned (.bool r) ∧ Below w.heap.size w w' := by
 have hu51 := Try.underlying51
 have HR0 := Aside0.mk hr0
 have HC0 := Aside0.mk hc0
 clear hr0 hc0
 have HB := Aside0.mk (Below.refl w.heap.size w)
 have H : ((laws_big.f l0).bind fun t682 => (if t682 = true then (some true) else ((spec_DrawInvert.f k l0).bind fun bt683 => ((impl_Invert.f k bt683.1 bt683.2).bind fun bt689 => ((spec_ApplyAll.f k bt683.1 bt683.2).bind fun bt693 => ((spec_TreeOk.f k bt683.1).bind fun t698 => (if t698 = true then (laws_FnInverted.j0 k bt683.1 bt683.2 bt689.1 bt689.2 bt693.1 (bt693.2.2 != 0)) else (laws_FnInverted.j0 k bt683.1 bt683.2 bt689.1 bt689.2 bt693.1 true)))))))) = some r := h
 clear h
 obtain ⟨t682, A2, H⟩ := bnd_ H
 by_cases c3 : t682 = true
 ·subst c3
  replace H := ift_ H
  obtain rfl := Option.some.inj H
  go_enter Try.func8, Try.ntmps8
  go_wp2_with (first | ((with_reducible refine gate_callee (f := 9) rfl ?_); refine goesL_ (some 20) rfl rfl Try.func9 (by kernel_rfl) rfl #[.slice A0 l0.length c0] rfl z1_ ?_; (with_reducible refine (laws_big.calls _ _ l0 true _ ?side1 ?side2 A2.out).mono ?_); (case side1 => exact z17_); (case side2 => exact HC0.out); rintro e w' ⟨rfl, ⟨nd, rfl⟩⟩; refine ⟨_, rfl, ?_⟩))
  go_ret
  exact ⟨z6_, z0_⟩
 ·replace c3 := Bool.eq_false_iff.mpr c3
  subst c3
  replace H := iff_ H
  replace H := Option.bind_eq_some_iff.mp H
  obtain ⟨⟨t683, t684⟩, A40, H⟩ := H
  try dsimp only at H
  have A4 := Aside0.mk A40
  clear A40
  replace H := Option.bind_eq_some_iff.mp H
  obtain ⟨⟨t689, t692⟩, A50, H⟩ := H
  try dsimp only at H
  have A5 := Aside0.mk A50
  clear A50
  replace H := Option.bind_eq_some_iff.mp H
  obtain ⟨⟨t693, t694, t695⟩, A60, H⟩ := H
  try dsimp only at H
  have A6 := Aside0.mk A60
  clear A60
  have HC7 := Aside0.mk H
  clear H
  go_enter Try.func8, Try.ntmps8
  go_upto_region 6 with (first | ((with_reducible refine gate_callee (f := 9) rfl ?_); refine goesL_ (some 20) rfl rfl Try.func9 (by kernel_rfl) rfl #[.slice A0 l0.length c0] rfl z1_ ?_; (with_reducible refine (laws_big.calls _ _ l0 false _ ?side1 ?side2 A2.out).mono ?_); (case side1 => exact z17_); (case side2 => exact HC0.out); rintro e w' ⟨rfl, ⟨nd, rfl⟩⟩; refine ⟨_, rfl, ?_⟩) | ((with_reducible refine gate_callee (f := 44) rfl ?_); refine goesL_ (some 23) rfl rfl Try.func44 (by kernel_rfl) rfl #[.slice A0 l0.length c0] rfl z1_ ?_; (with_reducible refine (spec_DrawInvert.calls k _ _ l0 t683 t684 _ ?side1 ?side2 A4.out).mono ?_); (case side1 => exact z17_); (case side2 => exact HC0.out); rintro e w8 ⟨v685, v687, rfl, ho0, ho1, hb⟩; refine ⟨_, rfl, ?_⟩; have HO686 := Aside0.mk (Kd.Q_lower ho0 (below_size z0_)); have HO688 := Aside0.mk (Kd.S_lower ho1 (below_size z0_)); replace HB := Aside0.mk (below_step z0_ hb); (try clear hb ho0 ho1); obtain ⟨Ao9, co9, eo9, _⟩ := Kd.Q_slice HO686.out; subst eo9; obtain ⟨Ao10, co10, eo10⟩ := Kd.S_slice HO688.out; subst eo10) | ((with_reducible refine gate_callee (f := 45) rfl ?_); refine goesL_ (some 29) rfl rfl Try.func45 (by kernel_rfl) rfl #[.slice Ao9 t683.length co9, .slice Ao10 t684.length co10] rfl z1_ ?_; (with_reducible refine (impl_Invert.calls k (fun k_ => some k_ = (.slice Ao9 t683.length co9 : Value).ownBlock) _ _ t683 _ _ t684 t689 t692 _ ?side1 ?side2 ?side3 A5.out).mono ?_); (case side1 => exact Kd.Q_V (Kd.Q_tight rfl (Kd.Q_apart' (HO686.out) (Kd.S_typed HO688.out) (by decide)))); (case side2 => exact z165_); (case side3 => exact (Kd.S_reads' HO688.out).2.1); rintro e w11 ⟨v690, rfl, ho0, hb⟩; refine ⟨_, rfl, ?_⟩; replace HO686 := Aside0.mk (Kd.Q_below z131_ hb); have HO691 := Aside0.mk (Kd.S_lower (Kd.S_new' (Kd.S_mono (ok' := fun k_ => True) ho0 (fun _ hk_ => trivial)) (Kd.S_lt z132_)) (below_size z0_)); replace HO688 := Aside0.mk (Kd.S_elder' z132_ (Kd.S_base ho0) hb); replace HB := Aside0.mk (below_step z0_ hb); (try clear hb ho0)) | ((with_reducible refine gate_callee (f := 46) rfl ?_); refine goesL_ (some 35) rfl rfl Try.func46 (by kernel_rfl) rfl #[.slice Ao9 t683.length co9, .slice Ao10 t684.length co10] rfl z1_ ?_; (with_reducible refine (spec_ApplyAll.calls k _ _ t683 _ _ t684 t693 t694 t695 _ ?side1 ?side2 ?side3 ?side4 A6.out).mono ?_); (case side1 => exact z134_); (case side2 => exact (Kd.Q_reads' HO686.out).2.1); (case side3 => exact z165_); (case side4 => exact (Kd.S_reads' HO688.out).2.1); rintro e w12 ⟨v696, rfl, ho0, hb⟩; refine ⟨_, rfl, ?_⟩; replace HO688 := Aside0.mk (Kd.S_below z132_ hb); replace HO691 := Aside0.mk (Kd.S_below z181_ hb); have HO697 := Aside0.mk (Kd.R_lower (Kd.R_new' ho0 (Kd.Q_lt z131_)) (below_size z0_)); replace HO686 := Aside0.mk (Kd.Q_elder' z131_ (Kd.R_base ho0) hb); replace HB := Aside0.mk (below_step z0_ hb); (try clear hb ho0)))
  (try simp only [Act.put, List.setIfInBounds_toArray, List.set_cons_zero, List.set_cons_succ])
  go_cut [45] (fun v45 wc => ∃ (kq : Nat) (x45_6 : Bool), v45 = .bool x45_6 ∧ Aside0 (laws_FnInverted.j0 kq t683 t684 t689 t692 t693 x45_6 = some r) ∧ Aside0 (kq ≤ k) ∧ Aside0 (Kd.Q k62 62 wc w.heap.size (fun k_ => some k_ ≠ (v696 : Value).ownBlock) (.slice Ao9 t683.length co9) t683) ∧ Aside0 (Kd.S k121 121 wc w.heap.size (fun k_ => some k_ ≠ (v690 : Value).ownBlock) (.slice Ao10 t684.length co10) t684) ∧ Aside0 (Kd.S k121 121 wc w.heap.size (fun k_ => some k_ ≠ ((.slice Ao10 t684.length co10) : Value).ownBlock) v690 t689) ∧ Aside0 (Kd.R k62 62 wc w.heap.size (fun k_ => some k_ ≠ ((.slice Ao9 t683.length co9) : Value).ownBlock) v696 t693) ∧ Aside0 (Below w.heap.size w wc))
  case first =>
   have H := HC7.out
   clear HC7
   obtain ⟨t698, A13, H⟩ := bnd_ H
   by_cases c14 : t698 = true
   ·subst c14
    replace H := ift_ H
    have H' := Aside0.mk H
    clear H
    go_wp2_with (first | ((with_reducible refine gate_callee (f := 12) rfl ?_); refine goesL_ (some 40) rfl rfl Try.func12 (by kernel_rfl) rfl #[.slice Ao9 t683.length co9] rfl z1_ ?_; (with_reducible refine (spec_TreeOk.calls k _ _ t683 true _ ?side1 ?side2 A13.out).mono ?_); (case side1 => exact z134_); (case side2 => exact (Kd.Q_reads' HO686.out).2.1); rintro e w15 ⟨rfl, hb⟩; refine ⟨_, rfl, ?_⟩; replace HO686 := Aside0.mk (Kd.Q_below z131_ hb); replace HO688 := Aside0.mk (Kd.S_below z132_ hb); replace HO691 := Aside0.mk (Kd.S_below z181_ hb); replace HO697 := Aside0.mk (Kd.R_below z225_ hb); replace HB := Aside0.mk (below_step z0_ hb); (try clear hb)))
    go_meet
    case rel => exact ⟨_, ((t695 != 0)), z15_, H', ⟨z145_⟩, ⟨z202_⟩, ⟨z203_⟩, ⟨z204_⟩, ⟨z205_⟩, ⟨z0_⟩⟩
   ·replace c14 := Bool.eq_false_iff.mpr c14
    subst c14
    replace H := iff_ H
    have H' := Aside0.mk H
    clear H
    go_wp2_with (first | ((with_reducible refine gate_callee (f := 12) rfl ?_); refine goesL_ (some 40) rfl rfl Try.func12 (by kernel_rfl) rfl #[.slice Ao9 t683.length co9] rfl z1_ ?_; (with_reducible refine (spec_TreeOk.calls k _ _ t683 false _ ?side1 ?side2 A13.out).mono ?_); (case side1 => exact z134_); (case side2 => exact (Kd.Q_reads' HO686.out).2.1); rintro e w16 ⟨rfl, hb⟩; refine ⟨_, rfl, ?_⟩; replace HO686 := Aside0.mk (Kd.Q_below z131_ hb); replace HO688 := Aside0.mk (Kd.S_below z132_ hb); replace HO691 := Aside0.mk (Kd.S_below z181_ hb); replace HO697 := Aside0.mk (Kd.R_below z225_ hb); replace HB := Aside0.mk (below_step z0_ hb); (try clear hb)))
    go_meet
    case rel => exact ⟨_, (true), z15_, H', ⟨z145_⟩, ⟨z202_⟩, ⟨z203_⟩, ⟨z204_⟩, ⟨z205_⟩, ⟨z0_⟩⟩
  case rest =>
   clear HC7
   try clear c1
   try clear p2
   try clear c3
   try clear c4
   try clear c8
   try clear c9
   try clear c12
   try clear c14
   obtain ⟨kq, x45_6, rfl, HA, HJ6, HO_3, HO_4, HO_5, HO_7, HB⟩ := hcut
   cases kq with
   | zero => exact absurd HA.out (by simp [laws_FnInverted.j0])
   | succ kj6 =>
    have H := HA.out
    clear HA
    simp only [laws_FnInverted.j0] at H
    by_cases c17 : x45_6 = true
    ·subst c17
     replace H := ift_ H
     by_cases c18 : t692 = true
     ·subst c18
      rw [if_pos rfl] at H
      exact absurd H (by simp)
     ·replace c18 := Bool.eq_false_iff.mpr c18
      subst c18
      replace H := iff_ H
      obtain rfl := Option.some.inj H
      obtain ⟨Ao19, co19, eo19⟩ := Kd.S_slice HO_5.out
      subst eo19
      go_wp2
      go_ret
      exact ⟨z6_, z0_⟩
    ·replace c17 := Bool.eq_false_iff.mpr c17
     subst c17
     replace H := iff_ H
     replace H := Option.bind_eq_some_iff.mp H
     obtain ⟨⟨t699, t700, t701⟩, A200, H⟩ := H
     try dsimp only at H
     have A20 := Aside0.mk A200
     clear A200
     replace H := Option.bind_eq_some_iff.mp H
     obtain ⟨⟨t704, t707⟩, A210, H⟩ := H
     try dsimp only at H
     have A21 := Aside0.mk A210
     clear A210
     replace H := Option.bind_eq_some_iff.mp H
     obtain ⟨⟨t708, t709, t710⟩, A220, H⟩ := H
     try dsimp only at H
     have A22 := Aside0.mk A220
     clear A220
     replace H := Option.bind_eq_some_iff.mp H
     obtain ⟨⟨t713, t716, t719⟩, A230, H⟩ := H
     try dsimp only at H
     have A23 := Aside0.mk A230
     clear A230
     by_cases c24 : t692 = true
     ·subst c24
      replace H := ift_ H
      by_cases c25 : t707 = true
      ·subst c25
       replace H := ift_ H
       obtain ⟨c26, H⟩ := ifs_ H
       have c26b0 : ((t689.length : Int) == (t684.length : Int)) = true := beq_iff_eq.mpr c26
       have c26b1 : ((t689.length : Int) != (t684.length : Int)) = false := bne_eq_false_iff_eq.mpr c26
       have c26b2 : (t689.length == t684.length) = true := by first | simpa using c26 | (simp at c26 ⊢; omega)
       clear c26
       obtain ⟨c27, H⟩ := ifs_ H
       have c27b0 : (t701 == 0) = true := beq_iff_eq.mpr c27
       have c27b1 : (t701 != 0) = false := bne_eq_false_iff_eq.mpr c27
       clear c27
       obtain ⟨c28, H⟩ := ifs_ H
       have c28b0 : (t700 == (t689.length : Int)) = true := beq_iff_eq.mpr c28
       have c28b1 : (t700 != (t689.length : Int)) = false := bne_eq_false_iff_eq.mpr c28
       clear c28
       obtain ⟨t723, A29, H⟩ := bnd_ H
       by_cases c30 : t723 = true
       ·subst c30
        replace H := ift_ H
        obtain ⟨c31, H⟩ := ifs_ H
        have c31b0 : (t710 == 0) = true := beq_iff_eq.mpr c31
        have c31b1 : (t710 != 0) = false := bne_eq_false_iff_eq.mpr c31
        clear c31
        obtain ⟨t724, A32, H⟩ := bnd_ H
        by_cases c33 : t724 = true
        ·subst c33
         replace H := ift_ H
         obtain ⟨t725, A34, H⟩ := bnd_ H
         obtain ⟨t726, A35, H⟩ := bnd_ H
         obtain rfl := Option.some.inj H
         obtain ⟨Ao36, co36, eo36⟩ := Kd.R_slice HO_7.out
         subst eo36
         obtain ⟨Ao37, co37, eo37⟩ := Kd.S_slice HO_5.out
         subst eo37
         try go_wp2_with (first | ((with_reducible refine gate_callee (f := 47) rfl ?_); refine goesL_ (some 56) rfl rfl Try.func47 (by kernel_rfl) rfl #[.slice Ao36 t693.length co36, .slice Ao37 t689.length co37] rfl z1_ ?_; (with_reducible refine (impl_ApplyAll.calls kj6 _ _ t693 _ _ t689 t699 t700 t701 _ ?side1 ?side2 ?side3 ?side4 A20.out).mono ?_); (case side1 => exact z91_); (case side2 => exact z210_); (case side3 => exact z136_); (case side4 => exact (Kd.S_reads' HO_5.out).2.1); rintro e w38 ⟨v702, rfl, ho0, hb⟩; refine ⟨_, rfl, ?_⟩; replace HO_4 := Aside0.mk (Kd.S_below z99_ hb); replace HO_5 := Aside0.mk (Kd.S_below z100_ hb); have HO703 := Aside0.mk (Kd.R_lower (Kd.R_new' (Kd.R_new' ho0 (Kd.Q_lt z86_)) (Kd.R_lt z58_)) (below_size z0_)); replace HO_3 := Aside0.mk (Kd.Q_elder' z86_ (Kd.R_base ho0) hb); replace HO_7 := Aside0.mk (Kd.R_elder' z58_ (Kd.R_base ho0) hb); replace HB := Aside0.mk (below_step z0_ hb); (try clear hb ho0)) | ((with_reducible refine gate_callee (f := 45) rfl ?_); refine goesL_ (some 63) rfl rfl Try.func45 (by kernel_rfl) rfl #[.slice Ao36 t693.length co36, .slice Ao37 t689.length co37] rfl z1_ ?_; (with_reducible refine (impl_Invert.calls kj6 (fun k_ => some k_ = (.slice Ao36 t693.length co36 : Value).ownBlock) _ _ t693 _ _ t689 t704 true _ ?side1 ?side2 ?side3 A21.out).mono ?_); (case side1 => exact Kd.R_V (Kd.R_tight rfl (Kd.R_apart' (Kd.R_apart' (HO_7.out) (Kd.S_typed HO_4.out) (by decide)) (Kd.S_typed HO_5.out) (by decide)))); (case side2 => exact z136_); (case side3 => exact (Kd.S_reads' HO_5.out).2.1); rintro e w39 ⟨v705, rfl, ho0, hb⟩; refine ⟨_, rfl, ?_⟩; replace HO_3 := Aside0.mk (Kd.Q_below z86_ hb); replace HO_7 := Aside0.mk (Kd.R_below z58_ hb); replace HO703 := Aside0.mk (Kd.R_below z106_ hb); have HO706 := Aside0.mk (Kd.S_lower (Kd.S_new' (Kd.S_new' (Kd.S_mono (ok' := fun k_ => True) ho0 (fun _ hk_ => trivial)) (Kd.S_lt z99_)) (Kd.S_lt z100_)) (below_size z0_)); replace HO_4 := Aside0.mk (Kd.S_elder' z99_ (Kd.S_base ho0) hb); replace HO_5 := Aside0.mk (Kd.S_elder' z100_ (Kd.S_base ho0) hb); replace HB := Aside0.mk (below_step z0_ hb); (try clear hb ho0); obtain ⟨Ao40, co40, eo40⟩ := Kd.R_slice HO703.out; subst eo40; obtain ⟨Ao41, co41, eo41⟩ := Kd.S_slice HO706.out; subst eo41) | ((with_reducible refine gate_callee (f := 47) rfl ?_); refine goesL_ (some 69) rfl rfl Try.func47 (by kernel_rfl) rfl #[.slice Ao40 t699.length co40, .slice Ao41 t704.length co41] rfl z1_ ?_; (with_reducible refine (impl_ApplyAll.calls kj6 _ _ t699 _ _ t704 t708 t709 t710 _ ?side1 ?side2 ?side3 ?side4 A22.out).mono ?_); (case side1 => exact z166_); (case side2 => exact (Kd.R_reads' HO703.out).2.1); (case side3 => repeat (first | exact (Kd.S_reads' HO706.out).2.2 | (with_reducible refine Kd.C_alloc ?_ _) | (with_reducible refine Kd.C_drewN ?_ _) | (with_reducible refine Kd.C_drew ?_))); (case side4 => exact (Kd.S_reads' HO706.out).2.1); rintro e w42 ⟨v711, rfl, ho0, hb⟩; refine ⟨_, rfl, ?_⟩; replace HO_4 := Aside0.mk (Kd.S_below z99_ hb); replace HO_5 := Aside0.mk (Kd.S_below z100_ hb); replace HO706 := Aside0.mk (Kd.S_below z133_ hb); have HO712 := Aside0.mk (Kd.R_lower (Kd.R_new' (Kd.R_new' (Kd.R_new' ho0 (Kd.Q_lt z86_)) (Kd.R_lt z58_)) (Kd.R_lt z106_)) (below_size z0_)); replace HO_3 := Aside0.mk (Kd.Q_elder' z86_ (Kd.R_base ho0) hb); replace HO_7 := Aside0.mk (Kd.R_elder' z58_ (Kd.R_base ho0) hb); replace HO703 := Aside0.mk (Kd.R_elder' z106_ (Kd.R_base ho0) hb); replace HB := Aside0.mk (below_step z0_ hb); (try clear hb ho0)) | ((with_reducible refine gate_callee (f := 48) rfl ?_); refine goesL_ (some 73) rfl rfl Try.func48 (by kernel_rfl) rfl #[] rfl z1_ ?_; (with_reducible refine (spec_UnitCost.calls kj6  t713 t716 t719 _ A23.out).mono ?_); rintro e w43 ⟨v714, v717, v720, rfl, ho0, ho1, ho2, hb⟩; refine ⟨_, rfl, ?_⟩; replace HO_3 := Aside0.mk (Kd.Q_below z86_ hb); replace HO_4 := Aside0.mk (Kd.S_mono (Kd.S_told (Kd.S_told (Kd.S_told (Kd.S_old z99_ hb) (Kd.R_base ho0)) (Kd.R_base ho1)) (Kd.R_base ho2)) (fun _ h_ => h_.1)); replace HO_5 := Aside0.mk (Kd.S_mono (Kd.S_told (Kd.S_told (Kd.S_told (Kd.S_old z100_ hb) (Kd.R_base ho0)) (Kd.R_base ho1)) (Kd.R_base ho2)) (fun _ h_ => h_.1)); replace HO_7 := Aside0.mk (Kd.R_below z58_ hb); replace HO703 := Aside0.mk (Kd.R_below z106_ hb); replace HO706 := Aside0.mk (Kd.S_mono (Kd.S_told (Kd.S_told (Kd.S_told (Kd.S_old z133_ hb) (Kd.R_base ho0)) (Kd.R_base ho1)) (Kd.R_base ho2)) (fun _ h_ => h_.1)); replace HO712 := Aside0.mk (Kd.R_below z151_ hb); have HO715 := Aside0.mk (Kd.R_lower ho0 (below_size z0_)); have HO718 := Aside0.mk (Kd.R_lower ho1 (below_size z0_)); have HO721 := Aside0.mk (Kd.R_lower ho2 (below_size z0_)); replace HB := Aside0.mk (below_step z0_ hb); (try clear hb ho0 ho1 ho2)) | ((with_reducible refine gate_dst (N := 18) rfl ?_); (try (refine gate_guard (by rfl) ?_; dsimp only)); refine box_event ?hg (N := 18) ?hd (cs := #[.slice none 0 0, .slice none 0 0, .slice none 0 0]) (t := 51) ?hr ?_; (case hd => rfl); (case hg => rfl); (case hr => exact z21_); intro gb722 hg w44 hbox hb; replace HO_3 := Aside0.mk (Kd.Q_below z86_ hb); replace HO_4 := Aside0.mk (Kd.S_below z99_ hb); replace HO_5 := Aside0.mk (Kd.S_below z100_ hb); replace HO_7 := Aside0.mk (Kd.R_below z58_ hb); replace HO703 := Aside0.mk (Kd.R_below z106_ hb); replace HO706 := Aside0.mk (Kd.S_below z133_ hb); replace HO712 := Aside0.mk (Kd.R_below z151_ hb); replace HO715 := Aside0.mk (Kd.R_below z182_ hb); replace HO718 := Aside0.mk (Kd.R_below z183_ hb); replace HO721 := Aside0.mk (Kd.R_below z184_ hb); have BK722 := Aside0.mk (hbox); have GW722 := Aside0.mk ((by rw [hg]; exact (below_size z0_) : w.heap.size ≤ gb722)); have GE722 := Aside0.mk ((by rw [hg]; exact (below_size z0_) : w.heap.size ≤ gb722)); replace HB := Aside0.mk (below_step z0_ hb); clear hb hbox hg; obtain ⟨Ao45, co45, eo45⟩ := Kd.R_slice HO715.out; subst eo45; obtain ⟨hcz46_0, hcz46_1, hcz46_2, hfz46_0, hfz46_1, hfz46_2⟩ := bx3_ BK722.out; obtain ⟨Ao47, co47, eo47⟩ := Kd.R_slice HO718.out; subst eo47; obtain ⟨Ao48, co48, eo48⟩ := Kd.R_slice HO721.out; subst eo48))
         have n0_ : Aside0 (Kd.Q k62 62 (((w44.setCell ⟨gb722, 0, none⟩ (.slice Ao45 t713.length co45)).setCell ⟨gb722, 1, none⟩ (.slice Ao47 t716.length co47)).setCell ⟨gb722, 2, none⟩ (.slice Ao48 t719.length co48)) w.heap.size (fun k_ => some k_ ≠ (.slice Ao36 t693.length co36 : Value).ownBlock ∧ some k_ ≠ (.slice Ao40 t699.length co40 : Value).ownBlock ∧ some k_ ≠ (v711 : Value).ownBlock) (.slice Ao9 t683.length co9) t683) := ⟨by (with_reducible repeat (first | apply Kd.Q_alloc | apply Kd.Q_drewN | apply Kd.Q_drew)); exact Kd.Q_mono (Kd.Q_far (p := ⟨gb722, 2, none⟩) (Kd.Q_far (p := ⟨gb722, 1, none⟩) (Kd.Q_far (p := ⟨gb722, 0, none⟩) (Kd.Q_types HO_3.out BK722.out (by decide)) (fun _ hk => hk.2) (.slice Ao45 t713.length co45)) (fun _ hk => hk.2) (.slice Ao47 t716.length co47)) (fun _ hk => hk.2) (.slice Ao48 t719.length co48)) (fun _ hk => ⟨hk.1.1.1, ⟨hk.1.1.2, hk.1.2⟩⟩)⟩
         have n1_ : Aside0 (Kd.S k121 121 (((w44.setCell ⟨gb722, 0, none⟩ (.slice Ao45 t713.length co45)).setCell ⟨gb722, 1, none⟩ (.slice Ao47 t716.length co47)).setCell ⟨gb722, 2, none⟩ (.slice Ao48 t719.length co48)) w.heap.size (fun k_ => some k_ ≠ (.slice Ao37 t689.length co37 : Value).ownBlock ∧ some k_ ≠ (.slice Ao41 t704.length co41 : Value).ownBlock ∧ some k_ ≠ (.slice Ao45 t713.length co45 : Value).ownBlock ∧ some k_ ≠ (.slice Ao47 t716.length co47 : Value).ownBlock ∧ some k_ ≠ (.slice Ao48 t719.length co48 : Value).ownBlock) (.slice Ao10 t684.length co10) t684) := ⟨by (with_reducible repeat (first | apply Kd.S_alloc | apply Kd.S_drewN | apply Kd.S_drew)); exact Kd.S_mono (Kd.S_far (p := ⟨gb722, 2, none⟩) (Kd.S_far (p := ⟨gb722, 1, none⟩) (Kd.S_far (p := ⟨gb722, 0, none⟩) (Kd.S_types HO_4.out BK722.out (by decide)) (fun _ hk => hk.2) (.slice Ao45 t713.length co45)) (fun _ hk => hk.2) (.slice Ao47 t716.length co47)) (fun _ hk => hk.2) (.slice Ao48 t719.length co48)) (fun _ hk => ⟨hk.1.1.1.1.1, ⟨hk.1.1.1.1.2, ⟨hk.1.1.1.2, ⟨hk.1.1.2, hk.1.2⟩⟩⟩⟩)⟩
         have n2_ : Aside0 (Kd.S k121 121 (((w44.setCell ⟨gb722, 0, none⟩ (.slice Ao45 t713.length co45)).setCell ⟨gb722, 1, none⟩ (.slice Ao47 t716.length co47)).setCell ⟨gb722, 2, none⟩ (.slice Ao48 t719.length co48)) w.heap.size (fun k_ => some k_ ≠ (.slice Ao10 t684.length co10 : Value).ownBlock ∧ some k_ ≠ (.slice Ao41 t704.length co41 : Value).ownBlock ∧ some k_ ≠ (.slice Ao45 t713.length co45 : Value).ownBlock ∧ some k_ ≠ (.slice Ao47 t716.length co47 : Value).ownBlock ∧ some k_ ≠ (.slice Ao48 t719.length co48 : Value).ownBlock) (.slice Ao37 t689.length co37) t689) := ⟨by (with_reducible repeat (first | apply Kd.S_alloc | apply Kd.S_drewN | apply Kd.S_drew)); exact Kd.S_mono (Kd.S_far (p := ⟨gb722, 2, none⟩) (Kd.S_far (p := ⟨gb722, 1, none⟩) (Kd.S_far (p := ⟨gb722, 0, none⟩) (Kd.S_types HO_5.out BK722.out (by decide)) (fun _ hk => hk.2) (.slice Ao45 t713.length co45)) (fun _ hk => hk.2) (.slice Ao47 t716.length co47)) (fun _ hk => hk.2) (.slice Ao48 t719.length co48)) (fun _ hk => ⟨hk.1.1.1.1.1, ⟨hk.1.1.1.1.2, ⟨hk.1.1.1.2, ⟨hk.1.1.2, hk.1.2⟩⟩⟩⟩)⟩
         have n3_ : Aside0 (Kd.R k62 62 (((w44.setCell ⟨gb722, 0, none⟩ (.slice Ao45 t713.length co45)).setCell ⟨gb722, 1, none⟩ (.slice Ao47 t716.length co47)).setCell ⟨gb722, 2, none⟩ (.slice Ao48 t719.length co48)) w.heap.size (fun k_ => some k_ ≠ (.slice Ao9 t683.length co9 : Value).ownBlock ∧ some k_ ≠ (.slice Ao40 t699.length co40 : Value).ownBlock ∧ some k_ ≠ (v711 : Value).ownBlock) (.slice Ao36 t693.length co36) t693) := ⟨by (with_reducible repeat (first | apply Kd.R_alloc | apply Kd.R_drewN | apply Kd.R_drew)); exact Kd.R_mono (Kd.R_far (p := ⟨gb722, 2, none⟩) (Kd.R_far (p := ⟨gb722, 1, none⟩) (Kd.R_far (p := ⟨gb722, 0, none⟩) (Kd.R_types HO_7.out BK722.out (by decide)) (fun _ hk => hk.2) (.slice Ao45 t713.length co45)) (fun _ hk => hk.2) (.slice Ao47 t716.length co47)) (fun _ hk => hk.2) (.slice Ao48 t719.length co48)) (fun _ hk => ⟨hk.1.1.1, ⟨hk.1.1.2, hk.1.2⟩⟩)⟩
         have n4_ : Aside0 (Kd.R k62 62 (((w44.setCell ⟨gb722, 0, none⟩ (.slice Ao45 t713.length co45)).setCell ⟨gb722, 1, none⟩ (.slice Ao47 t716.length co47)).setCell ⟨gb722, 2, none⟩ (.slice Ao48 t719.length co48)) w.heap.size (fun k_ => some k_ ≠ (.slice Ao9 t683.length co9 : Value).ownBlock ∧ some k_ ≠ (.slice Ao36 t693.length co36 : Value).ownBlock ∧ some k_ ≠ (v711 : Value).ownBlock) (.slice Ao40 t699.length co40) t699) := ⟨by (with_reducible repeat (first | apply Kd.R_alloc | apply Kd.R_drewN | apply Kd.R_drew)); exact Kd.R_mono (Kd.R_far (p := ⟨gb722, 2, none⟩) (Kd.R_far (p := ⟨gb722, 1, none⟩) (Kd.R_far (p := ⟨gb722, 0, none⟩) (Kd.R_types HO703.out BK722.out (by decide)) (fun _ hk => hk.2) (.slice Ao45 t713.length co45)) (fun _ hk => hk.2) (.slice Ao47 t716.length co47)) (fun _ hk => hk.2) (.slice Ao48 t719.length co48)) (fun _ hk => ⟨hk.1.1.1.2, ⟨hk.1.1.2, hk.1.2⟩⟩)⟩
         have n5_ : Aside0 (Kd.S k121 121 (((w44.setCell ⟨gb722, 0, none⟩ (.slice Ao45 t713.length co45)).setCell ⟨gb722, 1, none⟩ (.slice Ao47 t716.length co47)).setCell ⟨gb722, 2, none⟩ (.slice Ao48 t719.length co48)) w.heap.size (fun k_ => some k_ ≠ (.slice Ao10 t684.length co10 : Value).ownBlock ∧ some k_ ≠ (.slice Ao37 t689.length co37 : Value).ownBlock ∧ some k_ ≠ (.slice Ao45 t713.length co45 : Value).ownBlock ∧ some k_ ≠ (.slice Ao47 t716.length co47 : Value).ownBlock ∧ some k_ ≠ (.slice Ao48 t719.length co48 : Value).ownBlock) (.slice Ao41 t704.length co41) t704) := ⟨by (with_reducible repeat (first | apply Kd.S_alloc | apply Kd.S_drewN | apply Kd.S_drew)); exact Kd.S_mono (Kd.S_far (p := ⟨gb722, 2, none⟩) (Kd.S_far (p := ⟨gb722, 1, none⟩) (Kd.S_far (p := ⟨gb722, 0, none⟩) (Kd.S_types HO706.out BK722.out (by decide)) (fun _ hk => hk.2) (.slice Ao45 t713.length co45)) (fun _ hk => hk.2) (.slice Ao47 t716.length co47)) (fun _ hk => hk.2) (.slice Ao48 t719.length co48)) (fun _ hk => ⟨hk.1.1.1.1.1.2, ⟨hk.1.1.1.1.2, ⟨hk.1.1.1.2, ⟨hk.1.1.2, hk.1.2⟩⟩⟩⟩)⟩
         have n6_ : Aside0 (Kd.R k62 62 (((w44.setCell ⟨gb722, 0, none⟩ (.slice Ao45 t713.length co45)).setCell ⟨gb722, 1, none⟩ (.slice Ao47 t716.length co47)).setCell ⟨gb722, 2, none⟩ (.slice Ao48 t719.length co48)) w.heap.size (fun k_ => some k_ ≠ (.slice Ao9 t683.length co9 : Value).ownBlock ∧ some k_ ≠ (.slice Ao36 t693.length co36 : Value).ownBlock ∧ some k_ ≠ (.slice Ao40 t699.length co40 : Value).ownBlock) v711 t708) := ⟨by (with_reducible repeat (first | apply Kd.R_alloc | apply Kd.R_drewN | apply Kd.R_drew)); exact Kd.R_mono (Kd.R_far (p := ⟨gb722, 2, none⟩) (Kd.R_far (p := ⟨gb722, 1, none⟩) (Kd.R_far (p := ⟨gb722, 0, none⟩) (Kd.R_types HO712.out BK722.out (by decide)) (fun _ hk => hk.2) (.slice Ao45 t713.length co45)) (fun _ hk => hk.2) (.slice Ao47 t716.length co47)) (fun _ hk => hk.2) (.slice Ao48 t719.length co48)) (fun _ hk => ⟨hk.1.1.1.2, ⟨hk.1.1.2, hk.1.2⟩⟩)⟩
         have n7_ : Aside0 (Kd.R (Kd.int .i64) 3 (((w44.setCell ⟨gb722, 0, none⟩ (.slice Ao45 t713.length co45)).setCell ⟨gb722, 1, none⟩ (.slice Ao47 t716.length co47)).setCell ⟨gb722, 2, none⟩ (.slice Ao48 t719.length co48)) w.heap.size (fun k_ => some k_ ≠ (.slice Ao47 t716.length co47 : Value).ownBlock ∧ some k_ ≠ (.slice Ao48 t719.length co48 : Value).ownBlock) (.slice Ao45 t713.length co45) t713) := ⟨by (with_reducible repeat (first | apply Kd.R_alloc | apply Kd.R_drewN | apply Kd.R_drew)); exact Kd.R_mono (Kd.R_far (p := ⟨gb722, 2, none⟩) (Kd.R_far (p := ⟨gb722, 1, none⟩) (Kd.R_far (p := ⟨gb722, 0, none⟩) (Kd.R_types HO715.out BK722.out (by decide)) (fun _ hk => hk.2) (.slice Ao45 t713.length co45)) (fun _ hk => hk.2) (.slice Ao47 t716.length co47)) (fun _ hk => hk.2) (.slice Ao48 t719.length co48)) (fun _ hk => ⟨hk.1.1, hk.1.2⟩)⟩
         have n8_ : Aside0 (Kd.R (Kd.int .i64) 3 (((w44.setCell ⟨gb722, 0, none⟩ (.slice Ao45 t713.length co45)).setCell ⟨gb722, 1, none⟩ (.slice Ao47 t716.length co47)).setCell ⟨gb722, 2, none⟩ (.slice Ao48 t719.length co48)) w.heap.size (fun k_ => some k_ ≠ (.slice Ao45 t713.length co45 : Value).ownBlock ∧ some k_ ≠ (.slice Ao48 t719.length co48 : Value).ownBlock) (.slice Ao47 t716.length co47) t716) := ⟨by (with_reducible repeat (first | apply Kd.R_alloc | apply Kd.R_drewN | apply Kd.R_drew)); exact Kd.R_mono (Kd.R_far (p := ⟨gb722, 2, none⟩) (Kd.R_far (p := ⟨gb722, 1, none⟩) (Kd.R_far (p := ⟨gb722, 0, none⟩) (Kd.R_types HO718.out BK722.out (by decide)) (fun _ hk => hk.2) (.slice Ao45 t713.length co45)) (fun _ hk => hk.2) (.slice Ao47 t716.length co47)) (fun _ hk => hk.2) (.slice Ao48 t719.length co48)) (fun _ hk => ⟨hk.1.1, hk.1.2⟩)⟩
         have n9_ : Aside0 (Kd.R (Kd.int .i64) 3 (((w44.setCell ⟨gb722, 0, none⟩ (.slice Ao45 t713.length co45)).setCell ⟨gb722, 1, none⟩ (.slice Ao47 t716.length co47)).setCell ⟨gb722, 2, none⟩ (.slice Ao48 t719.length co48)) w.heap.size (fun k_ => some k_ ≠ (.slice Ao45 t713.length co45 : Value).ownBlock ∧ some k_ ≠ (.slice Ao47 t716.length co47 : Value).ownBlock) (.slice Ao48 t719.length co48) t719) := ⟨by (with_reducible repeat (first | apply Kd.R_alloc | apply Kd.R_drewN | apply Kd.R_drew)); exact Kd.R_mono (Kd.R_far (p := ⟨gb722, 2, none⟩) (Kd.R_far (p := ⟨gb722, 1, none⟩) (Kd.R_far (p := ⟨gb722, 0, none⟩) (Kd.R_types HO721.out BK722.out (by decide)) (fun _ hk => hk.2) (.slice Ao45 t713.length co45)) (fun _ hk => hk.2) (.slice Ao47 t716.length co47)) (fun _ hk => hk.2) (.slice Ao48 t719.length co48)) (fun _ hk => ⟨hk.1.1, hk.1.2⟩)⟩
         have n10_ : Aside0 ((((w44.setCell ⟨gb722, 0, none⟩ (.slice Ao45 t713.length co45)).setCell ⟨gb722, 1, none⟩ (.slice Ao47 t716.length co47)).setCell ⟨gb722, 2, none⟩ (.slice Ao48 t719.length co48)).heap[gb722]? = some (.cells #[.slice Ao45 t713.length co45, .slice Ao47 t716.length co47, .slice Ao48 t719.length co48] 51 (0, 0))) := ⟨by (with_reducible repeat (first | refine blk_drewN ?_ _ | refine blk_drew ?_ | refine blk_alloc ?_ _)); refine blk_put (cs := #[.slice Ao45 t713.length co45, .slice Ao47 t716.length co47, .slice none 0 0]) ?_ 2 _ rfl; (with_reducible repeat (first | refine blk_drewN ?_ _ | refine blk_drew ?_ | refine blk_alloc ?_ _)); refine blk_put (cs := #[.slice Ao45 t713.length co45, .slice none 0 0, .slice none 0 0]) ?_ 1 _ rfl; (with_reducible repeat (first | refine blk_drewN ?_ _ | refine blk_drew ?_ | refine blk_alloc ?_ _)); refine blk_put (cs := #[.slice none 0 0, .slice none 0 0, .slice none 0 0]) ?_ 0 _ rfl; (with_reducible repeat (first | refine blk_drewN ?_ _ | refine blk_drew ?_ | refine blk_alloc ?_ _)); exact BK722.out⟩
         have n11_ : Aside0 (Below w.heap.size w (((w44.setCell ⟨gb722, 0, none⟩ (.slice Ao45 t713.length co45)).setCell ⟨gb722, 1, none⟩ (.slice Ao47 t716.length co47)).setCell ⟨gb722, 2, none⟩ (.slice Ao48 t719.length co48))) := ⟨z117_⟩
         (try clear HO_3)
         (try clear HO_4)
         (try clear HO_5)
         (try clear HO_7)
         (try clear HO703)
         (try clear HO706)
         (try clear HO712)
         (try clear HO715)
         (try clear HO718)
         (try clear HO721)
         (try clear BK722)
         (try clear HB)
         generalize (((w44.setCell ⟨gb722, 0, none⟩ (.slice Ao45 t713.length co45)).setCell ⟨gb722, 1, none⟩ (.slice Ao47 t716.length co47)).setCell ⟨gb722, 2, none⟩ (.slice Ao48 t719.length co48)) = w49 at n0_ n1_ n2_ n3_ n4_ n5_ n6_ n7_ n8_ n9_ n10_ n11_ ⊢
         have HO_3 := n0_
         have HO_4 := n1_
         have HO_5 := n2_
         have HO_7 := n3_
         have HO703 := n4_
         have HO706 := n5_
         have HO712 := n6_
         have HO715 := n7_
         have HO718 := n8_
         have HO721 := n9_
         have BK722 := n10_
         have HB := n11_
         clear n0_ n1_ n2_ n3_ n4_ n5_ n6_ n7_ n8_ n9_ n10_ n11_
         have n0_ := Aside0.mk (Kd.Q_drew HO_3.out)
         have n1_ := Aside0.mk (Kd.S_drew HO_4.out)
         have n2_ := Aside0.mk (Kd.S_drew HO_5.out)
         have n3_ := Aside0.mk (Kd.R_drew HO_7.out)
         have n4_ := Aside0.mk (Kd.R_drew HO703.out)
         have n5_ := Aside0.mk (Kd.S_drew HO706.out)
         have n6_ := Aside0.mk (Kd.R_drew HO712.out)
         have n7_ := Aside0.mk (Kd.R_drew HO715.out)
         have n8_ := Aside0.mk (Kd.R_drew HO718.out)
         have n9_ := Aside0.mk (Kd.R_drew HO721.out)
         have n10_ := Aside0.mk (blk_drew BK722.out)
         have n11_ := Aside0.mk (below_drew1 HB.out)
         clear HO_3
         clear HO_4
         clear HO_5
         clear HO_7
         clear HO703
         clear HO706
         clear HO712
         clear HO715
         clear HO718
         clear HO721
         clear BK722
         clear HB
         have HO_3 := n0_
         have HO_4 := n1_
         have HO_5 := n2_
         have HO_7 := n3_
         have HO703 := n4_
         have HO706 := n5_
         have HO712 := n6_
         have HO715 := n7_
         have HO718 := n8_
         have HO721 := n9_
         have BK722 := n10_
         have HB := n11_
         clear n0_ n1_ n2_ n3_ n4_ n5_ n6_ n7_ n8_ n9_ n10_ n11_
         refine start_ (n := 47) (S := fun w' => w'.cell? ⟨gb722, 0, none⟩ = some (.slice Ao45 t713.length co45) ∧ w'.cell? ⟨gb722, 1, none⟩ = some (.slice Ao47 t716.length co47) ∧ w'.cell? ⟨gb722, 2, none⟩ = some (.slice Ao48 t719.length co48)) (ds := []) (fl_ 47 0) (by kernel_rfl) rfl (fl_zero _) ⟨(blk_cell BK722.out 0).trans rfl, (blk_cell BK722.out 1).trans rfl, (blk_cell BK722.out 2).trans rfl⟩ (fun hHeld => ?_); refine with_tabW laws_FnInverted.tab12 laws_FnInverted.bits12 (fun HT_ HW_ => ?_)
         generalize w49.drew = w50 at HO_3 HO_4 HO_5 HO_7 HO703 HO706 HO712 HO715 HO718 HO721 BK722 HB hHeld ⊢
         iterate 24 refine zp_ HT_ rfl rfl (by kernel_rfl) (fun _ _ _ h => h) (by rfl) ?_
         refine one_ (i := 24) (N := some 98) (fl_ 47 25) rfl rfl (one_of HT_.out (by kernel_rfl)) (by decide) (fun K hK => ?_)
         refine goes_ Try.func16 (by kernel_rfl) rfl #[.slice Ao40 t699.length co40, .slice Ao9 t683.length co9] (by rfl) rfl rfl z1_ ?_
         with_reducible refine (spec_SameTree.calls kj6 _ _ t699 _ _ t683 true _ ?side1 ?side2 ?side3 ?side4 A29.out).mono ?_
         (case side1 => exact z166_)
         (case side2 => exact (Kd.R_reads' HO703.out).2.1)
         (case side3 => exact z170_)
         (case side4 => exact (Kd.Q_reads' HO_3.out).2.1)
         rintro e w' ⟨rfl, ⟨nd, rfl⟩⟩
         refine ⟨_, rfl, ?_⟩
         obtain ⟨Ao51, co51, eo51⟩ := Kd.R_slice HO712.out
         (first | subst eo51 | (injection eo51 with f1_ f2_ f3_; have f4_ := f1_.symm; have f5_ := f3_.symm; clear f1_ f2_ f3_; subst f4_; subst f5_))
         refine hK.out _ _ ⟨(blk_cell BK722.out 0).trans rfl, (blk_cell BK722.out 1).trans rfl, (blk_cell BK722.out 2).trans rfl⟩ (fun hHeld => ?_)
         clear hK K
         refine zn_ rfl ?_
         iterate 8 refine zp_ HT_ rfl rfl (by kernel_rfl) (fun _ _ _ h => h) (by rfl) ?_
         refine one_ (i := 33) (N := some 107) (fl_ 47 34) rfl rfl (one_of HT_.out (by kernel_rfl)) (by decide) (fun K hK => ?_)
         refine goes_ Try.func16 (by kernel_rfl) rfl #[.slice Ao51 t708.length co51, .slice Ao36 t693.length co36] (by rfl) rfl rfl z1_ ?_
         with_reducible refine (spec_SameTree.calls kj6 _ _ t708 _ _ t693 true _ ?side1 ?side2 ?side3 ?side4 A32.out).mono ?_
         (case side1 => repeat (first | exact (Kd.R_reads' HO712.out).2.2 | (with_reducible refine Kd.C_alloc ?_ _) | (with_reducible refine Kd.C_drewN ?_ _) | (with_reducible refine Kd.C_drew ?_)))
         (case side2 => exact (Kd.R_reads' HO712.out).2.1)
         (case side3 => exact z91_)
         (case side4 => exact z210_)
         rintro e w' ⟨rfl, ⟨nd, rfl⟩⟩
         refine ⟨_, rfl, ?_⟩
         refine hK.out _ _ ⟨(blk_cell BK722.out 0).trans rfl, (blk_cell BK722.out 1).trans rfl, (blk_cell BK722.out 2).trans rfl⟩ (fun hHeld => ?_)
         clear hK K
         refine zn_ rfl ?_
         iterate 4 refine zp_ HT_ rfl rfl (by kernel_rfl) (fun _ _ _ h => h) (by rfl) ?_
         refine zpg_ (i := 40) (ra_ [38, 2, 1, 6]) HT_ rfl rfl (by kernel_rfl) (fun _ _ _ h => h) (by rfl) ?_
         refine zpg_ (i := 41) (ra_ [38, 2, 2, 5]) HT_ rfl rfl (by kernel_rfl) (fun _ _ _ h => h) (by rfl) ?_
         refine ztg_ (i := 38) (ra_ [39, 1, 2, 5]) HT_ HW_ rfl rfl (by kernel_rfl) (fun _ _ _ h => h) (by rfl) hHeld ?_ (by rintro w' ⟨s0, s1, s2⟩; go_simp; with_reducible rfl)
         refine ztg_ (i := 42) (ra_ [39, 1, 3, 4]) HT_ HW_ rfl rfl (by kernel_rfl) (fun _ _ _ h => h) (by rfl) hHeld ?_ (by rintro w' ⟨s0, s1, s2⟩; go_simp; with_reducible rfl)
         refine one_ (i := 39) (N := some 113) (fl_ 47 43) rfl rfl (one_of HT_.out (by kernel_rfl)) (by decide) (fun K hK => ?_)
         refine goes_ Try.func49 (by kernel_rfl) rfl #[.slice Ao9 t683.length co9, .slice Ao10 t684.length co10, .agg #[.slice Ao45 t713.length co45, .slice Ao47 t716.length co47, .slice Ao48 t719.length co48]] (by rfl) rfl rfl z1_ ?_
         with_reducible refine (impl_ScriptCost.calls kj6 _ _ t683 _ _ t684 _ _ t713 _ _ t716 _ _ t719 t725 _ ?side1 ?side2 ?side3 ?side4 ?side5 ?side6 ?side7 ?side8 ?side9 ?side10 A34.out).mono ?_
         (case side1 => exact z170_)
         (case side2 => exact (Kd.Q_reads' HO_3.out).2.1)
         (case side3 => repeat (first | exact (Kd.S_reads' HO_4.out).2.2 | (with_reducible refine Kd.C_alloc ?_ _) | (with_reducible refine Kd.C_drewN ?_ _) | (with_reducible refine Kd.C_drew ?_)))
         (case side4 => exact (Kd.S_reads' HO_4.out).2.1)
         (case side5 => exact z167_)
         (case side6 => exact (Kd.R_reads' HO715.out).2.1)
         (case side7 => exact z168_)
         (case side8 => exact (Kd.R_reads' HO718.out).2.1)
         (case side9 => exact z169_)
         (case side10 => exact (Kd.R_reads' HO721.out).2.1)
         rintro e w52 ⟨rfl, hb⟩
         refine ⟨_, rfl, ?_⟩
         have n0_ := Aside0.mk (Kd.Q_below z86_ hb)
         have n1_ := Aside0.mk (Kd.S_below z99_ hb)
         have n2_ := Aside0.mk (Kd.S_below z100_ hb)
         have n3_ := Aside0.mk (Kd.R_below z58_ hb)
         have n4_ := Aside0.mk (Kd.R_below z106_ hb)
         have n5_ := Aside0.mk (Kd.S_below z133_ hb)
         have n6_ := Aside0.mk (Kd.R_below z151_ hb)
         have n7_ := Aside0.mk (Kd.R_below z182_ hb)
         have n8_ := Aside0.mk (Kd.R_below z183_ hb)
         have n9_ := Aside0.mk (Kd.R_below z184_ hb)
         have n10_ := Aside0.mk (blk_below (g := gb722) (o := .cells #[.slice Ao45 t713.length co45, .slice Ao47 t716.length co47, .slice Ao48 t719.length co48] 51 (0, 0)) z209_ hb)
         have n11_ := Aside0.mk (below_step z117_ hb)
         clear HO_3
         clear HO_4
         clear HO_5
         clear HO_7
         clear HO703
         clear HO706
         clear HO712
         clear HO715
         clear HO718
         clear HO721
         clear BK722
         clear HB
         have HO_3 := n0_
         have HO_4 := n1_
         have HO_5 := n2_
         have HO_7 := n3_
         have HO703 := n4_
         have HO706 := n5_
         have HO712 := n6_
         have HO715 := n7_
         have HO718 := n8_
         have HO721 := n9_
         have BK722 := n10_
         have HB := n11_
         clear n0_ n1_ n2_ n3_ n4_ n5_ n6_ n7_ n8_ n9_ n10_ n11_
         (try clear hb)
         (try clear hb2)
         (try clear hk)
         (try clear hi)
         refine hK.out _ _ ⟨(blk_cell BK722.out 0).trans rfl, (blk_cell BK722.out 1).trans rfl, (blk_cell BK722.out 2).trans rfl⟩ (fun hHeld => ?_)
         clear hK K
         refine zn_ rfl ?_
         refine one_ (i := 43) (N := some 117) (fl_ 47 44) rfl rfl (one_of HT_.out (by kernel_rfl)) (by decide) (fun K hK => ?_)
         refine goes_ Try.func49 (by kernel_rfl) rfl #[.slice Ao36 t693.length co36, .slice Ao37 t689.length co37, .agg #[.slice Ao45 t713.length co45, .slice Ao47 t716.length co47, .slice Ao48 t719.length co48]] (by rfl) rfl rfl z1_ ?_
         with_reducible refine (impl_ScriptCost.calls kj6 _ _ t693 _ _ t689 _ _ t713 _ _ t716 _ _ t719 t726 _ ?side1 ?side2 ?side3 ?side4 ?side5 ?side6 ?side7 ?side8 ?side9 ?side10 A35.out).mono ?_
         (case side1 => exact z91_)
         (case side2 => exact z210_)
         (case side3 => exact z136_)
         (case side4 => exact (Kd.S_reads' HO_5.out).2.1)
         (case side5 => exact z167_)
         (case side6 => exact (Kd.R_reads' HO715.out).2.1)
         (case side7 => exact z168_)
         (case side8 => exact (Kd.R_reads' HO718.out).2.1)
         (case side9 => exact z169_)
         (case side10 => exact (Kd.R_reads' HO721.out).2.1)
         rintro e w53 ⟨rfl, hb⟩
         refine ⟨_, rfl, ?_⟩
         have n0_ := Aside0.mk (Kd.Q_below z86_ hb)
         have n1_ := Aside0.mk (Kd.S_below z99_ hb)
         have n2_ := Aside0.mk (Kd.S_below z100_ hb)
         have n3_ := Aside0.mk (Kd.R_below z58_ hb)
         have n4_ := Aside0.mk (Kd.R_below z106_ hb)
         have n5_ := Aside0.mk (Kd.S_below z133_ hb)
         have n6_ := Aside0.mk (Kd.R_below z151_ hb)
         have n7_ := Aside0.mk (Kd.R_below z182_ hb)
         have n8_ := Aside0.mk (Kd.R_below z183_ hb)
         have n9_ := Aside0.mk (Kd.R_below z184_ hb)
         have n10_ := Aside0.mk (blk_below (g := gb722) (o := .cells #[.slice Ao45 t713.length co45, .slice Ao47 t716.length co47, .slice Ao48 t719.length co48] 51 (0, 0)) z209_ hb)
         have n11_ := Aside0.mk (below_step z117_ hb)
         clear HO_3
         clear HO_4
         clear HO_5
         clear HO_7
         clear HO703
         clear HO706
         clear HO712
         clear HO715
         clear HO718
         clear HO721
         clear BK722
         clear HB
         have HO_3 := n0_
         have HO_4 := n1_
         have HO_5 := n2_
         have HO_7 := n3_
         have HO703 := n4_
         have HO706 := n5_
         have HO712 := n6_
         have HO715 := n7_
         have HO718 := n8_
         have HO721 := n9_
         have BK722 := n10_
         have HB := n11_
         clear n0_ n1_ n2_ n3_ n4_ n5_ n6_ n7_ n8_ n9_ n10_ n11_
         (try clear hb)
         (try clear hb2)
         (try clear hk)
         (try clear hi)
         refine hK.out _ _ ⟨(blk_cell BK722.out 0).trans rfl, (blk_cell BK722.out 1).trans rfl, (blk_cell BK722.out 2).trans rfl⟩ (fun hHeld => ?_)
         clear hK K
         refine zn_ rfl ?_
         iterate 3 refine zp_ HT_ rfl rfl (by kernel_rfl) (fun _ _ _ h => h) (by rfl) ?_
         refine done_ (done_of HT_.out (by kernel_rfl)) ?_
         try go_wp2
         go_ret
         exact ⟨z6_, z117_⟩
        ·replace c33 := Bool.eq_false_iff.mpr c33
         subst c33
         rw [if_neg (show ¬ (false = true) by decide)] at H
         exact absurd H (by simp)
       ·replace c30 := Bool.eq_false_iff.mpr c30
        subst c30
        rw [if_neg (show ¬ (false = true) by decide)] at H
        exact absurd H (by simp)
      ·replace c25 := Bool.eq_false_iff.mpr c25
       subst c25
       rw [if_neg (show ¬ (false = true) by decide)] at H
       exact absurd H (by simp)
     ·replace c24 := Bool.eq_false_iff.mpr c24
      subst c24
      rw [if_neg (show ¬ (false = true) by decide)] at H
      exact absurd H (by simp)
/-- THE ONE PURE STATEMENT of laws_FnInverted: yours. -/
def laws_FnInverted.Pure : Prop := ∀ (l0 : List Int), l0.length ≤ maxLen → l0.length * 1 ≤ 140737488351232 → (∀ x ∈ l0, (Lit.int .u8 x).wf = true) → ∃ k, laws_FnInverted.f k l0 = some true
theorem laws_FnInverted.walk (P : laws_FnInverted.Pure) (a0 : Option Addr) (len0 cap0 : Nat) (z0 : List Int) (w : World) (w0 : (a0 = none ∧ len0 = 0 ∧ cap0 = 0 ∧ z0 = []) ∨ ∃ x, a0 = some x ∧ len0 ≤ cap0 ∧ cap0 ≤ maxLen ∧ z0.length = cap0 ∧ (∀ i, i < z0.length → w.cell? (x.add i) = some (.int .u8 (z0.getD i 0))) ∧ ∀ n ∈ z0, (Lit.int .u8 n).wf = true) (y0 : len0 * 1 ≤ 140737488351232) :
  Calls Try.prog 8 #[.slice a0 len0 cap0] w fun e w' => e = .returned (.bool true) ∧ Below w.heap.size w w' := by
 obtain ⟨l0, rfl, hr0, hm0, hw0, hc0⟩ := ReadsInt.ofRowC w0
 obtain ⟨k, h⟩ := P l0 hm0 y0 hw0
 refine (laws_FnInverted.calls k _ _ l0 true w (Kd.C_of_reads (d := (0 : Int)) (h1 := fun _ => rfl) hr0) hc0 h).mono ?_
 rintro e w' ⟨rfl, hd⟩
 exact ⟨rfl, hd⟩

end Go.Proofs.Ytdapeboajjidmab.PFnInverted
