/- Laid by a program of this session out of the kit's print for the law FnMirrored: what it says of the machine is proved here, function by function; each contract under the conditions that it names. -/
import Derived.Test.YtbmkobanpakohaaMFnMirroredx0
import Derived.Test.YtbmkobanpakohaaMFnMirroredx8
import Derived.Test.YtbmkobanpakohaaMFnMirroredx10
namespace Go.Proofs.Ytbmkobanpakohaa.PFnMirrored
open Go.RowKit Go.Proofs.YtbmkobanpakohaaW.PrintWords Go.Proofs.YtbmkobanpakohaaW.PrintLast Go.Proofs.YtbmkobanpakohaaW.PrintMore
attribute [local go_sem] max2_int min2_int max_two min_two max_three min_three max_four min_four   -- for this text's walks alone
set_option linter.unusedVariables false
set_option linter.unusedSimpArgs false

/-! ### spec_l3Tree: function 53 -/
def spec_l3Tree.l0 : Nat → List (S61) → Int → List Int → Int → Int → Option ((List (S61)) × Int × Int)
 | 0, _, _, _, _, _ => none
 | k + 1, x5, x6, x1000, x1001, x1002 => if x6 > 0 then (if 0 ≤ (wrap64 ((x5.length : Int) - 1)) then (if (wrap64 ((x5.length : Int) - 1)) < (x5.length : Int) then ((spec_l1Below.f x1000 x1001 x1002 (wrap64 (((rd_T61 x5 (wrap64 ((x5.length : Int) - 1))).f1) + 1))).bind fun bt363 => ((spec_l1Once.f x1000 bt363.2.1 bt363.2.2 2).bind fun bt366 => (if bt366.1 = true then (if (wrap64 (((rd_T61 x5 (wrap64 ((x5.length : Int) - 1))).f1) + 1)) > 12 then ((spec_l2Label.f x1000 bt366.2.1 bt366.2.2).bind fun bt369 => (if x5.length < 8796093022208 then (spec_l3Tree.l0 k (x5 ++ [(⟨bt369.1, 1⟩ : S61)]) (wrap64 (x6 - 1)) x1000 bt369.2.1 bt369.2.2) else (none))) else ((spec_l2Label.f x1000 bt366.2.1 bt366.2.2).bind fun bt375 => (if x5.length < 8796093022208 then (spec_l3Tree.l0 k (x5 ++ [(⟨bt375.1, wrap64 (((rd_T61 x5 (wrap64 ((x5.length : Int) - 1))).f1) + 1)⟩ : S61)]) (wrap64 (x6 - 1)) x1000 bt375.2.1 bt375.2.2) else (none)))) else (if (wrap64 (1 + bt363.1)) > 12 then ((spec_l2Label.f x1000 bt366.2.1 bt366.2.2).bind fun bt381 => (if x5.length < 8796093022208 then (spec_l3Tree.l0 k (x5 ++ [(⟨bt381.1, 1⟩ : S61)]) (wrap64 (x6 - 1)) x1000 bt381.2.1 bt381.2.2) else (none))) else ((spec_l2Label.f x1000 bt366.2.1 bt366.2.2).bind fun bt387 => (if x5.length < 8796093022208 then (spec_l3Tree.l0 k (x5 ++ [(⟨bt387.1, wrap64 (1 + bt363.1)⟩ : S61)]) (wrap64 (x6 - 1)) x1000 bt387.2.1 bt387.2.2) else (none))))))) else (none)) else (none)) else (some (x5, x1001, x1002))
def spec_l3Tree.f (k : Nat) (s0_0 : List Int) (s0_1 : Int) (s0_2 : Int) (a1 : Int) : Option ((List (S61)) × Int × Int) := (spec_l2Label.f s0_0 s0_1 s0_2).bind fun bt353 => ((spec_l1Below.f s0_0 bt353.2.1 bt353.2.2 a1).bind fun bt359 => (spec_l3Tree.l0 k (([(⟨bt353.1, 0⟩ : S61)] : List (S61))) bt359.1 s0_0 bt359.2.1 bt359.2.2))
set_option maxHeartbeats 8000000 in
set_option maxRecDepth 100000 in
theorem spec_l3Tree.calls (k : Nat) (g : Nat) (s0_0 : List Int) (s0_1 : Int) (s0_2 : Int) (a1 : Int) (r1 : List (S61)) (r2 : Int) (r3 : Int) (w0 w : World) (hI : IsS86 w0 w g s0_0 s0_1 s0_2) (hB : Below w0.heap.size w0 w) (h : spec_l3Tree.f k s0_0 s0_1 s0_2 a1 = some (r1, r2, r3)) :
  Calls Try.prog 53 #[.pointer (some ⟨g, 0, none⟩), .int .i64 a1] w fun e w' => ∃ v0_ : Value, e = .returned (v0_) ∧ Kd.R k61 61 w' w.heap.size (fun _ => True) v0_ r1 ∧ IsS86 w0 w' g s0_0 r2 r3 ∧ Below w0.heap.size w0 w' ∧ KeepBut w w' g none := by
 have hu61 := Try.underlying61
 have HI0 := Aside0.mk hI
 have HK := Aside0.mk (KeepBut.refl w g none)
 have HL := Aside0.mk hB.size
 clear hI
 have HW0 := Aside0.mk hB.size
 have HB := Aside0.mk hB
 clear hB
 have H : ((spec_l2Label.f s0_0 s0_1 s0_2).bind fun bt353 => ((spec_l1Below.f s0_0 bt353.2.1 bt353.2.2 a1).bind fun bt359 => (spec_l3Tree.l0 k (([(⟨bt353.1, 0⟩ : S61)] : List (S61))) bt359.1 s0_0 bt359.2.1 bt359.2.2))) = some (r1, r2, r3) := h
 clear h
 replace H := Option.bind_eq_some_iff.mp H
 obtain ⟨⟨t353, t354, t355⟩, A30, H⟩ := H
 try dsimp only at H
 have A3 := Aside0.mk A30
 clear A30
 (generalize hy_ : ((([(⟨t353, 0⟩ : S61)] : List (S61))) : List (S61)) = y356 at H; have Ny356 := Aside0.mk hy_.symm; clear hy_)
 replace H := Option.bind_eq_some_iff.mp H
 obtain ⟨⟨t359, t360, t361⟩, A40, H⟩ := H
 try dsimp only at H
 have A4 := Aside0.mk A40
 clear A40
 have H' := Aside0.mk H
 clear H
 go_enter Try.func53, Try.ntmps53
 go_wp2_with (first | ((with_reducible refine gate_callee (f := 73) rfl ?_); refine goesL_ (some 10) rfl rfl Try.func73 (by kernel_rfl) rfl #[.pointer (some ⟨g, 0, none⟩)] rfl z1_ ?_; (with_reducible refine (spec_l2Label.calls g s0_0 s0_1 s0_2 t353 t354 t355 w0 _ ?side1 ?side2 A3.out).mono ?_); (case side1 => exact z3_); (case side2 => exact z4_); rintro e w5 ⟨rfl, hi, hb, hk⟩; refine ⟨_, rfl, ?_⟩; replace HK := Aside0.mk (KeepBut.trans z2_ hk (.inl rfl)); replace HB := Aside0.mk (hb); replace HI0 := Aside0.mk (hi); (try clear hb hk hi)) | ((with_reducible refine gate_dst (N := 12) rfl ?_); refine Kd.R_lit k61 _ 61 ?hg (N := 12) ?hd (xs := ([(⟨t353, 0⟩ : S61)] : List (S61))) (inner := [.int .i64 t353, .int .i64 0]) (ok := fun _ => True) (okp := fun _ => True) ?hr ?hp (fun _ hk => hk) trivial (Below.refl _ _) (Nat.le_refl _) (by simp) ?_; (case hd => rfl); (case hg => rfl); (case hr => exact z19_); (case hp => exact (Reps.c2 (show Kd.M k61 _ _ _ (⟨t353, 0⟩ : S61) [.int .i64 t353, .int .i64 0] from (k61_mkM _ _ _ (⟨t353, 0⟩ : S61) )) (Reps.none _ _))); intro v357 w6 ho7 hb hg_ hnew_; clear hg_ hnew_; (rw [← Ny356.out] at ho7); have HO358 := Aside0.mk (Kd.R_lower ho7 (keep_size (w := w) (g := g) (row := none) z2_)); replace HK := Aside0.mk (KeepBut.trans z2_ (KeepBut.of_below hb g none) (.inl rfl)); replace HB := Aside0.mk (below_step z4_ hb); replace HI0 := Aside0.mk (IsS86.below z3_ hb); clear hb ho7) | ((with_reducible refine gate_callee (f := 64) rfl ?_); refine goesL_ (some 15) rfl rfl Try.func64 (by kernel_rfl) rfl #[.pointer (some ⟨g, 0, none⟩), .int .i64 a1] rfl z1_ ?_; (with_reducible refine (spec_l1Below.calls g s0_0 t354 t355 a1 t359 t360 t361 w0 _ ?side1 ?side2 A4.out).mono ?_); (case side1 => exact z3_); (case side2 => exact z4_); rintro e w8 ⟨rfl, hi, hb, hk⟩; refine ⟨_, rfl, ?_⟩; replace HO358 := Aside0.mk (Kd.R_mono (Kd.R_keep (IsS86.apart (show IsS86 w0 _ g s0_0 t354 t355 from by repeat ((with_reducible exact HI0.out))) z224_ (by decide)) hk (fun _ h => h.2)) (fun _ h => h.1)); replace HK := Aside0.mk (KeepBut.trans z2_ hk (.inl rfl)); replace HB := Aside0.mk (hb); replace HI0 := Aside0.mk (hi); (try clear hb hk hi)))
 go_loopg [5, 6] k (fun kq v5 v6 w' => ∃ (x5_1 : List (S61)) (x6_1 : Int) (x1001_1 : Int) (x1002_1 : Int), v6 = .int .i64 x6_1 ∧ Aside0 (spec_l3Tree.l0 kq x5_1 x6_1 s0_0 x1001_1 x1002_1 = some (r1, r2, r3)) ∧ Aside0 (kq ≤ k) ∧ Aside0 (Kd.R k61 61 w' w.heap.size (fun _ => True) v5 x5_1) ∧ Aside0 (IsS86 w0 w' g s0_0 x1001_1 x1002_1) ∧ Aside0 (KeepBut w w' g none) ∧ Aside0 (Below w0.heap.size w0 w'))
 case atStart => exact ⟨(y356), (t359), (t360), (t361), z10_, H', ⟨Nat.le_refl _⟩, ⟨z224_⟩, ⟨z3_⟩, ⟨z2_⟩, ⟨z4_⟩⟩
 case round =>
  clear H'
  obtain ⟨x5_1, x6_1, x1001_1, x1002_1, rfl, HA, HK1, HO_5, HI0, HK, HB⟩ := hrel
  cases gk with
  | zero => exact absurd HA.out (by simp [spec_l3Tree.l0])
  | succ k1 =>
   have H := HA.out
   clear HA
   simp only [spec_l3Tree.l0] at H
   by_cases c9 : x6_1 > 0
   ·rw [if_pos c9] at H
    have c9b0 := decide_eq_true c9
    clear c9
    obtain ⟨ji10, hji10⟩ : ∃ j_ : Int, (wrap64 ((x5_1.length : Int) - 1)) = j_ := ⟨_, rfl⟩
    rw [hji10] at H
    have hji10w : (IntKind.i64.wrap ((x5_1.length : Int) - 1)) = ji10 := (i64_w _).trans hji10
    obtain ⟨c11b0, H⟩ := ifd_ H
    obtain ⟨c12b0, H⟩ := ifd_ H
    replace H := Option.bind_eq_some_iff.mp H
    obtain ⟨⟨t363, t364, t365⟩, A130, H⟩ := H
    try dsimp only at H
    have A13 := Aside0.mk A130
    clear A130
    replace H := Option.bind_eq_some_iff.mp H
    obtain ⟨⟨t366, t367, t368⟩, A140, H⟩ := H
    try dsimp only at H
    have A14 := Aside0.mk A140
    clear A140
    by_cases c15 : t366 = true
    ·subst c15
     replace H := ift_ H
     by_cases c16 : (wrap64 (((rd_T61 x5_1 (ji10)).f1) + 1)) > 12
     ·rw [if_pos c16] at H
      have c16b0 := decide_eq_true c16
      clear c16
      replace H := Option.bind_eq_some_iff.mp H
      obtain ⟨⟨t369, t370, t371⟩, A170, H⟩ := H
      try dsimp only at H
      have A17 := Aside0.mk A170
      clear A170
      obtain ⟨c18, H⟩ := ifs_ H
      have LMc18 := Aside0.mk c18
      clear c18
      (generalize hy_ : ((x5_1 ++ [(⟨t369, 1⟩ : S61)]) : List (S61)) = y372 at H; have Ny372 := Aside0.mk hy_.symm; clear hy_)
      have H' := Aside0.mk H
      clear H
      obtain ⟨Ao19, co19, eo19⟩ := Kd.R_slice HO_5.out
      subst eo19
      have p362 : 0 ≤ ((ji10) : Int) := odt_
      have q362 : (ji10) < (x5_1.length : Int) := odt_
      obtain ⟨ad362, e362, hx362_0, hx362_1⟩ := at_T61 (Kd.R_reads' HO_5.out).2.2 (ji10) p362 q362
      cases e362
      replace p362 := eq_true p362
      replace q362 := eq_true q362
      go_wp2_with (first | ((with_reducible refine gate_callee (f := 64) rfl ?_); refine goesL_ (some 30) rfl rfl Try.func64 (by kernel_rfl) rfl #[.pointer (some ⟨g, 0, none⟩), .int .i64 (wrap64 (((rd_T61 x5_1 (ji10)).f1) + 1))] rfl z134_ ?_; (with_reducible refine (spec_l1Below.calls g s0_0 x1001_1 x1002_1 (wrap64 (((rd_T61 x5_1 (ji10)).f1) + 1)) t363 t364 t365 w0 _ ?side1 ?side2 A13.out).mono ?_); (case side1 => exact z3_); (case side2 => exact z4_); rintro e w20 ⟨rfl, hi, hb, hk⟩; refine ⟨_, rfl, ?_⟩; replace HO_5 := Aside0.mk (Kd.R_mono (Kd.R_keep (IsS86.apart (show IsS86 w0 _ g s0_0 x1001_1 x1002_1 from by repeat ((with_reducible exact HI0.out))) z8_ (by decide)) hk (fun _ h => h.2)) (fun _ h => h.1)); replace HK := Aside0.mk (KeepBut.trans z2_ hk (.inl rfl)); replace HB := Aside0.mk (hb); replace HI0 := Aside0.mk (hi); (try clear hb hk hi)) | ((with_reducible refine gate_callee (f := 51) rfl ?_); refine goesL_ (some 33) rfl rfl Try.func51 (by kernel_rfl) rfl #[.pointer (some ⟨g, 0, none⟩), .int .i64 2] rfl z1_ ?_; (with_reducible refine (spec_l1Once.calls g s0_0 t364 t365 2 true t367 t368 w0 _ ?side1 ?side2 A14.out).mono ?_); (case side1 => exact z3_); (case side2 => exact z4_); rintro e w21 ⟨rfl, hi, hb, hk⟩; refine ⟨_, rfl, ?_⟩; replace HO_5 := Aside0.mk (Kd.R_mono (Kd.R_keep (IsS86.apart (show IsS86 w0 _ g s0_0 t364 t365 from by repeat ((with_reducible exact HI0.out))) z8_ (by decide)) hk (fun _ h => h.2)) (fun _ h => h.1)); replace HK := Aside0.mk (KeepBut.trans z2_ hk (.inl rfl)); replace HB := Aside0.mk (hb); replace HI0 := Aside0.mk (hi); (try clear hb hk hi)) | ((with_reducible refine gate_callee (f := 73) rfl ?_); refine goesL_ (some 40) rfl rfl Try.func73 (by kernel_rfl) rfl #[.pointer (some ⟨g, 0, none⟩)] rfl z1_ ?_; (with_reducible refine (spec_l2Label.calls g s0_0 t367 t368 t369 t370 t371 w0 _ ?side1 ?side2 A17.out).mono ?_); (case side1 => exact z3_); (case side2 => exact z4_); rintro e w22 ⟨rfl, hi, hb, hk⟩; refine ⟨_, rfl, ?_⟩; replace HO_5 := Aside0.mk (Kd.R_mono (Kd.R_keep (IsS86.apart (show IsS86 w0 _ g s0_0 t367 t368 from by repeat ((with_reducible exact HI0.out))) z8_ (by decide)) hk (fun _ h => h.2)) (fun _ h => h.1)); replace HK := Aside0.mk (KeepBut.trans z2_ hk (.inl rfl)); replace HB := Aside0.mk (hb); replace HI0 := Aside0.mk (hi); (try clear hb hk hi)) | ((with_reducible refine gate_builtin (b := .append) (xs := #[.tmp 38, .tmp 43]) rfl ?_); at_builtin; refine Kd.R_append k61 w.heap.size rfl (.tmp 38) (.tmp 43) 25 61 (.agg #[(.int .i64 0), (.int .i64 0)]) 16 rfl Try.underlying25 info61 rfl (by decide) (by omega) (.slice (some ad362) x5_1.length co19) x5_1 (⟨t369, 1⟩ : S61) [.int .i64 t369, .int .i64 1] (fun _ => True) (fun _ => False) rfl rfl ?aP (fun _ hk => hk.elim) ?aF ?aO (Below.refl _ _) ?aS ?aL ?_; (case aP => exact k61_mkM _ _ _ (⟨t369, 1⟩ : S61)); (case aF => exact z206_); (case aO => exact z81_); (case aS => exact z59_); (case aL => have := LMc18.out; omega); intro v373 w23 ho hb hg hat; rw [← Ny372.out] at ho; replace HB := Aside0.mk (below_weaken z4_ HL.out hb); replace HI0 := Aside0.mk (IsS86.grown z3_ hg (IsS86.own_ne HI0.out HO_5.out (by decide))); replace HK := Aside0.mk (KeepBut.trans z2_ (KeepBut.of_grown hg g) (Kd.R_base2 HO_5.out)); have HO374 := Aside0.mk (ho); clear HO_5; clear ho hb hg hat))
      go_roundg k1
      case measure => have := HK1.out; omega
      case rel => exact ⟨(y372), (wrap64 (x6_1 - 1)), (t370), (t371), z10_, H', ⟨z143_⟩, ⟨by exact HO374.out⟩, ⟨z3_⟩, ⟨z2_⟩, ⟨z4_⟩⟩
     ·rw [if_neg c16] at H
      have c16b0 := decide_eq_false c16
      clear c16
      replace H := Option.bind_eq_some_iff.mp H
      obtain ⟨⟨t375, t376, t377⟩, A240, H⟩ := H
      try dsimp only at H
      have A24 := Aside0.mk A240
      clear A240
      obtain ⟨c25, H⟩ := ifs_ H
      have LMc25 := Aside0.mk c25
      clear c25
      (generalize hy_ : ((x5_1 ++ [(⟨t375, wrap64 (((rd_T61 x5_1 (ji10)).f1) + 1)⟩ : S61)]) : List (S61)) = y378 at H; have Ny378 := Aside0.mk hy_.symm; clear hy_)
      have H' := Aside0.mk H
      clear H
      obtain ⟨Ao26, co26, eo26⟩ := Kd.R_slice HO_5.out
      subst eo26
      have p362 : 0 ≤ ((ji10) : Int) := odt_
      have q362 : (ji10) < (x5_1.length : Int) := odt_
      obtain ⟨ad362, e362, hx362_0, hx362_1⟩ := at_T61 (Kd.R_reads' HO_5.out).2.2 (ji10) p362 q362
      cases e362
      replace p362 := eq_true p362
      replace q362 := eq_true q362
      go_wp2_with (first | ((with_reducible refine gate_callee (f := 64) rfl ?_); refine goesL_ (some 30) rfl rfl Try.func64 (by kernel_rfl) rfl #[.pointer (some ⟨g, 0, none⟩), .int .i64 (wrap64 (((rd_T61 x5_1 (ji10)).f1) + 1))] rfl z134_ ?_; (with_reducible refine (spec_l1Below.calls g s0_0 x1001_1 x1002_1 (wrap64 (((rd_T61 x5_1 (ji10)).f1) + 1)) t363 t364 t365 w0 _ ?side1 ?side2 A13.out).mono ?_); (case side1 => exact z3_); (case side2 => exact z4_); rintro e w27 ⟨rfl, hi, hb, hk⟩; refine ⟨_, rfl, ?_⟩; replace HO_5 := Aside0.mk (Kd.R_mono (Kd.R_keep (IsS86.apart (show IsS86 w0 _ g s0_0 x1001_1 x1002_1 from by repeat ((with_reducible exact HI0.out))) z8_ (by decide)) hk (fun _ h => h.2)) (fun _ h => h.1)); replace HK := Aside0.mk (KeepBut.trans z2_ hk (.inl rfl)); replace HB := Aside0.mk (hb); replace HI0 := Aside0.mk (hi); (try clear hb hk hi)) | ((with_reducible refine gate_callee (f := 51) rfl ?_); refine goesL_ (some 33) rfl rfl Try.func51 (by kernel_rfl) rfl #[.pointer (some ⟨g, 0, none⟩), .int .i64 2] rfl z1_ ?_; (with_reducible refine (spec_l1Once.calls g s0_0 t364 t365 2 true t367 t368 w0 _ ?side1 ?side2 A14.out).mono ?_); (case side1 => exact z3_); (case side2 => exact z4_); rintro e w28 ⟨rfl, hi, hb, hk⟩; refine ⟨_, rfl, ?_⟩; replace HO_5 := Aside0.mk (Kd.R_mono (Kd.R_keep (IsS86.apart (show IsS86 w0 _ g s0_0 t364 t365 from by repeat ((with_reducible exact HI0.out))) z8_ (by decide)) hk (fun _ h => h.2)) (fun _ h => h.1)); replace HK := Aside0.mk (KeepBut.trans z2_ hk (.inl rfl)); replace HB := Aside0.mk (hb); replace HI0 := Aside0.mk (hi); (try clear hb hk hi)) | ((with_reducible refine gate_callee (f := 73) rfl ?_); refine goesL_ (some 40) rfl rfl Try.func73 (by kernel_rfl) rfl #[.pointer (some ⟨g, 0, none⟩)] rfl z1_ ?_; (with_reducible refine (spec_l2Label.calls g s0_0 t367 t368 t375 t376 t377 w0 _ ?side1 ?side2 A24.out).mono ?_); (case side1 => exact z3_); (case side2 => exact z4_); rintro e w29 ⟨rfl, hi, hb, hk⟩; refine ⟨_, rfl, ?_⟩; replace HO_5 := Aside0.mk (Kd.R_mono (Kd.R_keep (IsS86.apart (show IsS86 w0 _ g s0_0 t367 t368 from by repeat ((with_reducible exact HI0.out))) z8_ (by decide)) hk (fun _ h => h.2)) (fun _ h => h.1)); replace HK := Aside0.mk (KeepBut.trans z2_ hk (.inl rfl)); replace HB := Aside0.mk (hb); replace HI0 := Aside0.mk (hi); (try clear hb hk hi)) | ((with_reducible refine gate_builtin (b := .append) (xs := #[.tmp 38, .tmp 43]) rfl ?_); at_builtin; refine Kd.R_append k61 w.heap.size rfl (.tmp 38) (.tmp 43) 25 61 (.agg #[(.int .i64 0), (.int .i64 0)]) 16 rfl Try.underlying25 info61 rfl (by decide) (by omega) (.slice (some ad362) x5_1.length co26) x5_1 (⟨t375, wrap64 (((rd_T61 x5_1 (ji10)).f1) + 1)⟩ : S61) [.int .i64 t375, .int .i64 (wrap64 (((rd_T61 x5_1 (ji10)).f1) + 1))] (fun _ => True) (fun _ => False) rfl rfl ?aP (fun _ hk => hk.elim) ?aF ?aO (Below.refl _ _) ?aS ?aL ?_; (case aP => exact k61_mkM _ _ _ (⟨t375, wrap64 (((rd_T61 x5_1 (ji10)).f1) + 1)⟩ : S61)); (case aF => exact z206_); (case aO => exact z81_); (case aS => exact z59_); (case aL => have := LMc25.out; omega); intro v379 w30 ho hb hg hat; rw [← Ny378.out] at ho; replace HB := Aside0.mk (below_weaken z4_ HL.out hb); replace HI0 := Aside0.mk (IsS86.grown z3_ hg (IsS86.own_ne HI0.out HO_5.out (by decide))); replace HK := Aside0.mk (KeepBut.trans z2_ (KeepBut.of_grown hg g) (Kd.R_base2 HO_5.out)); have HO380 := Aside0.mk (ho); clear HO_5; clear ho hb hg hat))
      go_roundg k1
      case measure => have := HK1.out; omega
      case rel => exact ⟨(y378), (wrap64 (x6_1 - 1)), (t376), (t377), z10_, H', ⟨z143_⟩, ⟨by exact HO380.out⟩, ⟨z3_⟩, ⟨z2_⟩, ⟨z4_⟩⟩
    ·replace c15 := Bool.eq_false_iff.mpr c15
     subst c15
     replace H := iff_ H
     by_cases c31 : (wrap64 (1 + t363)) > 12
     ·rw [if_pos c31] at H
      have c31b0 := decide_eq_true c31
      clear c31
      replace H := Option.bind_eq_some_iff.mp H
      obtain ⟨⟨t381, t382, t383⟩, A320, H⟩ := H
      try dsimp only at H
      have A32 := Aside0.mk A320
      clear A320
      obtain ⟨c33, H⟩ := ifs_ H
      have LMc33 := Aside0.mk c33
      clear c33
      (generalize hy_ : ((x5_1 ++ [(⟨t381, 1⟩ : S61)]) : List (S61)) = y384 at H; have Ny384 := Aside0.mk hy_.symm; clear hy_)
      have H' := Aside0.mk H
      clear H
      obtain ⟨Ao34, co34, eo34⟩ := Kd.R_slice HO_5.out
      subst eo34
      have p362 : 0 ≤ ((ji10) : Int) := odt_
      have q362 : (ji10) < (x5_1.length : Int) := odt_
      obtain ⟨ad362, e362, hx362_0, hx362_1⟩ := at_T61 (Kd.R_reads' HO_5.out).2.2 (ji10) p362 q362
      cases e362
      replace p362 := eq_true p362
      replace q362 := eq_true q362
      go_wp2_with (first | ((with_reducible refine gate_callee (f := 64) rfl ?_); refine goesL_ (some 30) rfl rfl Try.func64 (by kernel_rfl) rfl #[.pointer (some ⟨g, 0, none⟩), .int .i64 (wrap64 (((rd_T61 x5_1 (ji10)).f1) + 1))] rfl z134_ ?_; (with_reducible refine (spec_l1Below.calls g s0_0 x1001_1 x1002_1 (wrap64 (((rd_T61 x5_1 (ji10)).f1) + 1)) t363 t364 t365 w0 _ ?side1 ?side2 A13.out).mono ?_); (case side1 => exact z3_); (case side2 => exact z4_); rintro e w35 ⟨rfl, hi, hb, hk⟩; refine ⟨_, rfl, ?_⟩; replace HO_5 := Aside0.mk (Kd.R_mono (Kd.R_keep (IsS86.apart (show IsS86 w0 _ g s0_0 x1001_1 x1002_1 from by repeat ((with_reducible exact HI0.out))) z8_ (by decide)) hk (fun _ h => h.2)) (fun _ h => h.1)); replace HK := Aside0.mk (KeepBut.trans z2_ hk (.inl rfl)); replace HB := Aside0.mk (hb); replace HI0 := Aside0.mk (hi); (try clear hb hk hi)) | ((with_reducible refine gate_callee (f := 51) rfl ?_); refine goesL_ (some 33) rfl rfl Try.func51 (by kernel_rfl) rfl #[.pointer (some ⟨g, 0, none⟩), .int .i64 2] rfl z1_ ?_; (with_reducible refine (spec_l1Once.calls g s0_0 t364 t365 2 false t367 t368 w0 _ ?side1 ?side2 A14.out).mono ?_); (case side1 => exact z3_); (case side2 => exact z4_); rintro e w36 ⟨rfl, hi, hb, hk⟩; refine ⟨_, rfl, ?_⟩; replace HO_5 := Aside0.mk (Kd.R_mono (Kd.R_keep (IsS86.apart (show IsS86 w0 _ g s0_0 t364 t365 from by repeat ((with_reducible exact HI0.out))) z8_ (by decide)) hk (fun _ h => h.2)) (fun _ h => h.1)); replace HK := Aside0.mk (KeepBut.trans z2_ hk (.inl rfl)); replace HB := Aside0.mk (hb); replace HI0 := Aside0.mk (hi); (try clear hb hk hi)) | ((with_reducible refine gate_callee (f := 73) rfl ?_); refine goesL_ (some 40) rfl rfl Try.func73 (by kernel_rfl) rfl #[.pointer (some ⟨g, 0, none⟩)] rfl z1_ ?_; (with_reducible refine (spec_l2Label.calls g s0_0 t367 t368 t381 t382 t383 w0 _ ?side1 ?side2 A32.out).mono ?_); (case side1 => exact z3_); (case side2 => exact z4_); rintro e w37 ⟨rfl, hi, hb, hk⟩; refine ⟨_, rfl, ?_⟩; replace HO_5 := Aside0.mk (Kd.R_mono (Kd.R_keep (IsS86.apart (show IsS86 w0 _ g s0_0 t367 t368 from by repeat ((with_reducible exact HI0.out))) z8_ (by decide)) hk (fun _ h => h.2)) (fun _ h => h.1)); replace HK := Aside0.mk (KeepBut.trans z2_ hk (.inl rfl)); replace HB := Aside0.mk (hb); replace HI0 := Aside0.mk (hi); (try clear hb hk hi)) | ((with_reducible refine gate_builtin (b := .append) (xs := #[.tmp 38, .tmp 43]) rfl ?_); at_builtin; refine Kd.R_append k61 w.heap.size rfl (.tmp 38) (.tmp 43) 25 61 (.agg #[(.int .i64 0), (.int .i64 0)]) 16 rfl Try.underlying25 info61 rfl (by decide) (by omega) (.slice (some ad362) x5_1.length co34) x5_1 (⟨t381, 1⟩ : S61) [.int .i64 t381, .int .i64 1] (fun _ => True) (fun _ => False) rfl rfl ?aP (fun _ hk => hk.elim) ?aF ?aO (Below.refl _ _) ?aS ?aL ?_; (case aP => exact k61_mkM _ _ _ (⟨t381, 1⟩ : S61)); (case aF => exact z206_); (case aO => exact z81_); (case aS => exact z59_); (case aL => have := LMc33.out; omega); intro v385 w38 ho hb hg hat; rw [← Ny384.out] at ho; replace HB := Aside0.mk (below_weaken z4_ HL.out hb); replace HI0 := Aside0.mk (IsS86.grown z3_ hg (IsS86.own_ne HI0.out HO_5.out (by decide))); replace HK := Aside0.mk (KeepBut.trans z2_ (KeepBut.of_grown hg g) (Kd.R_base2 HO_5.out)); have HO386 := Aside0.mk (ho); clear HO_5; clear ho hb hg hat))
      go_roundg k1
      case measure => have := HK1.out; omega
      case rel => exact ⟨(y384), (wrap64 (x6_1 - 1)), (t382), (t383), z10_, H', ⟨z143_⟩, ⟨by exact HO386.out⟩, ⟨z3_⟩, ⟨z2_⟩, ⟨z4_⟩⟩
     ·rw [if_neg c31] at H
      have c31b0 := decide_eq_false c31
      clear c31
      replace H := Option.bind_eq_some_iff.mp H
      obtain ⟨⟨t387, t388, t389⟩, A390, H⟩ := H
      try dsimp only at H
      have A39 := Aside0.mk A390
      clear A390
      obtain ⟨c40, H⟩ := ifs_ H
      have LMc40 := Aside0.mk c40
      clear c40
      (generalize hy_ : ((x5_1 ++ [(⟨t387, wrap64 (1 + t363)⟩ : S61)]) : List (S61)) = y390 at H; have Ny390 := Aside0.mk hy_.symm; clear hy_)
      have H' := Aside0.mk H
      clear H
      obtain ⟨Ao41, co41, eo41⟩ := Kd.R_slice HO_5.out
      subst eo41
      have p362 : 0 ≤ ((ji10) : Int) := odt_
      have q362 : (ji10) < (x5_1.length : Int) := odt_
      obtain ⟨ad362, e362, hx362_0, hx362_1⟩ := at_T61 (Kd.R_reads' HO_5.out).2.2 (ji10) p362 q362
      cases e362
      replace p362 := eq_true p362
      replace q362 := eq_true q362
      go_wp2_with (first | ((with_reducible refine gate_callee (f := 64) rfl ?_); refine goesL_ (some 30) rfl rfl Try.func64 (by kernel_rfl) rfl #[.pointer (some ⟨g, 0, none⟩), .int .i64 (wrap64 (((rd_T61 x5_1 (ji10)).f1) + 1))] rfl z134_ ?_; (with_reducible refine (spec_l1Below.calls g s0_0 x1001_1 x1002_1 (wrap64 (((rd_T61 x5_1 (ji10)).f1) + 1)) t363 t364 t365 w0 _ ?side1 ?side2 A13.out).mono ?_); (case side1 => exact z3_); (case side2 => exact z4_); rintro e w42 ⟨rfl, hi, hb, hk⟩; refine ⟨_, rfl, ?_⟩; replace HO_5 := Aside0.mk (Kd.R_mono (Kd.R_keep (IsS86.apart (show IsS86 w0 _ g s0_0 x1001_1 x1002_1 from by repeat ((with_reducible exact HI0.out))) z8_ (by decide)) hk (fun _ h => h.2)) (fun _ h => h.1)); replace HK := Aside0.mk (KeepBut.trans z2_ hk (.inl rfl)); replace HB := Aside0.mk (hb); replace HI0 := Aside0.mk (hi); (try clear hb hk hi)) | ((with_reducible refine gate_callee (f := 51) rfl ?_); refine goesL_ (some 33) rfl rfl Try.func51 (by kernel_rfl) rfl #[.pointer (some ⟨g, 0, none⟩), .int .i64 2] rfl z1_ ?_; (with_reducible refine (spec_l1Once.calls g s0_0 t364 t365 2 false t367 t368 w0 _ ?side1 ?side2 A14.out).mono ?_); (case side1 => exact z3_); (case side2 => exact z4_); rintro e w43 ⟨rfl, hi, hb, hk⟩; refine ⟨_, rfl, ?_⟩; replace HO_5 := Aside0.mk (Kd.R_mono (Kd.R_keep (IsS86.apart (show IsS86 w0 _ g s0_0 t364 t365 from by repeat ((with_reducible exact HI0.out))) z8_ (by decide)) hk (fun _ h => h.2)) (fun _ h => h.1)); replace HK := Aside0.mk (KeepBut.trans z2_ hk (.inl rfl)); replace HB := Aside0.mk (hb); replace HI0 := Aside0.mk (hi); (try clear hb hk hi)) | ((with_reducible refine gate_callee (f := 73) rfl ?_); refine goesL_ (some 40) rfl rfl Try.func73 (by kernel_rfl) rfl #[.pointer (some ⟨g, 0, none⟩)] rfl z1_ ?_; (with_reducible refine (spec_l2Label.calls g s0_0 t367 t368 t387 t388 t389 w0 _ ?side1 ?side2 A39.out).mono ?_); (case side1 => exact z3_); (case side2 => exact z4_); rintro e w44 ⟨rfl, hi, hb, hk⟩; refine ⟨_, rfl, ?_⟩; replace HO_5 := Aside0.mk (Kd.R_mono (Kd.R_keep (IsS86.apart (show IsS86 w0 _ g s0_0 t367 t368 from by repeat ((with_reducible exact HI0.out))) z8_ (by decide)) hk (fun _ h => h.2)) (fun _ h => h.1)); replace HK := Aside0.mk (KeepBut.trans z2_ hk (.inl rfl)); replace HB := Aside0.mk (hb); replace HI0 := Aside0.mk (hi); (try clear hb hk hi)) | ((with_reducible refine gate_builtin (b := .append) (xs := #[.tmp 38, .tmp 43]) rfl ?_); at_builtin; refine Kd.R_append k61 w.heap.size rfl (.tmp 38) (.tmp 43) 25 61 (.agg #[(.int .i64 0), (.int .i64 0)]) 16 rfl Try.underlying25 info61 rfl (by decide) (by omega) (.slice (some ad362) x5_1.length co41) x5_1 (⟨t387, wrap64 (1 + t363)⟩ : S61) [.int .i64 t387, .int .i64 (wrap64 (1 + t363))] (fun _ => True) (fun _ => False) rfl rfl ?aP (fun _ hk => hk.elim) ?aF ?aO (Below.refl _ _) ?aS ?aL ?_; (case aP => exact k61_mkM _ _ _ (⟨t387, wrap64 (1 + t363)⟩ : S61)); (case aF => exact z206_); (case aO => exact z81_); (case aS => exact z59_); (case aL => have := LMc40.out; omega); intro v391 w45 ho hb hg hat; rw [← Ny390.out] at ho; replace HB := Aside0.mk (below_weaken z4_ HL.out hb); replace HI0 := Aside0.mk (IsS86.grown z3_ hg (IsS86.own_ne HI0.out HO_5.out (by decide))); replace HK := Aside0.mk (KeepBut.trans z2_ (KeepBut.of_grown hg g) (Kd.R_base2 HO_5.out)); have HO392 := Aside0.mk (ho); clear HO_5; clear ho hb hg hat))
      go_roundg k1
      case measure => have := HK1.out; omega
      case rel => exact ⟨(y390), (wrap64 (x6_1 - 1)), (t388), (t389), z10_, H', ⟨z143_⟩, ⟨by exact HO392.out⟩, ⟨z3_⟩, ⟨z2_⟩, ⟨z4_⟩⟩
   ·rw [if_neg c9] at H
    have c9b0 := decide_eq_false c9
    clear c9
    simp only [Option.some.injEq, Prod.mk.injEq] at H
    obtain ⟨rfl, rfl, rfl⟩ := H
    go_wp2
    go_ret
    exact ⟨_, z6_, z8_, z3_, z4_, z2_⟩

/-! ### spec_l2Any: function 71 -/
def spec_l2Any.f (s0_0 : List Int) (s0_1 : Int) (s0_2 : Int) : Option (Int × Int × Int) := (spec_l1PickInt.f s0_0 s0_1 s0_2 (([0, 1, 2, 3, 5, 6, (-1)] : List Int))).bind fun bt396 => (some (bt396.1, bt396.2.1, bt396.2.2))
set_option maxHeartbeats 8000000 in
set_option maxRecDepth 100000 in
theorem spec_l2Any.calls (g : Nat) (s0_0 : List Int) (s0_1 : Int) (s0_2 : Int) (r1 : Int) (r2 : Int) (r3 : Int) (w0 w : World) (hI : IsS86 w0 w g s0_0 s0_1 s0_2) (hB : Below w0.heap.size w0 w) (h : spec_l2Any.f s0_0 s0_1 s0_2 = some (r1, r2, r3)) :
  Calls Try.prog 71 #[.pointer (some ⟨g, 0, none⟩)] w fun e w' => e = .returned (.int .i64 r1) ∧ IsS86 w0 w' g s0_0 r2 r3 ∧ Below w0.heap.size w0 w' ∧ KeepBut w w' g none := by
 have HI0 := Aside0.mk hI
 have HK := Aside0.mk (KeepBut.refl w g none)
 have HL := Aside0.mk hB.size
 clear hI
 have HW0 := Aside0.mk hB.size
 have HB := Aside0.mk hB
 clear hB
 have H : ((spec_l1PickInt.f s0_0 s0_1 s0_2 (([0, 1, 2, 3, 5, 6, (-1)] : List Int))).bind fun bt396 => (some (bt396.1, bt396.2.1, bt396.2.2))) = some (r1, r2, r3) := h
 clear h
 (generalize hy_ : ((([0, 1, 2, 3, 5, 6, (-1)] : List Int)) : List Int) = y393 at H; have Ny393 := Aside0.mk hy_.symm; clear hy_)
 replace H := Option.bind_eq_some_iff.mp H
 obtain ⟨⟨t396, t397, t398⟩, A20, H⟩ := H
 try dsimp only at H
 have A2 := Aside0.mk A20
 clear A20
 simp only [Option.some.injEq, Prod.mk.injEq] at H
 obtain ⟨rfl, rfl, rfl⟩ := H
 go_enter Try.func71, Try.ntmps71
 go_wp2_with (first | ((with_reducible refine gate_dst (N := 4) rfl ?_); refine Kd.R_lit (Kd.int .i64) _ 3 ?hg (N := 4) ?hd (xs := ([0, 1, 2, 3, 5, 6, (-1)] : List Int)) (inner := [.int .i64 0, .int .i64 1, .int .i64 2, .int .i64 3, .int .i64 5, .int .i64 6, .int .i64 (-1)]) (ok := fun _ => True) (okp := fun _ => True) ?hr ?hp (fun _ hk => hk) trivial (Below.refl _ _) (Nat.le_refl _) (by simp) ?_; (case hd => rfl); (case hg => rfl); (case hr => exact z19_); (case hp => exact (Reps.one (show Kd.M (Kd.int .i64) _ _ _ 0 [.int .i64 0] from rfl) (Reps.one (show Kd.M (Kd.int .i64) _ _ _ 1 [.int .i64 1] from rfl) (Reps.one (show Kd.M (Kd.int .i64) _ _ _ 2 [.int .i64 2] from rfl) (Reps.one (show Kd.M (Kd.int .i64) _ _ _ 3 [.int .i64 3] from rfl) (Reps.one (show Kd.M (Kd.int .i64) _ _ _ 5 [.int .i64 5] from rfl) (Reps.one (show Kd.M (Kd.int .i64) _ _ _ 6 [.int .i64 6] from rfl) (Reps.one (show Kd.M (Kd.int .i64) _ _ _ (-1) [.int .i64 (-1)] from rfl) (Reps.none _ _))))))))); intro v394 w3 ho4 hb hg_ hnew_; clear hg_ hnew_; (rw [← Ny393.out] at ho4); have HO395 := Aside0.mk (Kd.R_lower ho4 (keep_size (w := w) (g := g) (row := none) z2_)); replace HK := Aside0.mk (KeepBut.trans z2_ (KeepBut.of_below hb g none) (.inl rfl)); replace HB := Aside0.mk (below_step z4_ hb); replace HI0 := Aside0.mk (IsS86.below z3_ hb); clear hb ho4; obtain ⟨Ao5, co5, eo5⟩ := Kd.R_slice HO395.out; subst eo5) | ((with_reducible refine gate_callee (f := 66) rfl ?_); refine goesL_ (some 5) rfl rfl Try.func66 (by kernel_rfl) rfl #[.pointer (some ⟨g, 0, none⟩), .slice Ao5 y393.length co5] rfl z1_ ?_; (with_reducible refine (spec_l1PickInt.calls g s0_0 s0_1 s0_2 _ _ y393 t396 t397 t398 w0 _ ?side1 ?side2 ?side3 ?side4 ?side5 A2.out).mono ?_); (case side1 => exact z3_); (case side2 => exact z4_); (case side3 => repeat (exact (Kd.R_reads' HO395.out).2.2)); (case side4 => exact (Kd.R_reads' HO395.out).2.1); (case side5 => exact far_slice (IsS86.own_ne HI0.out HO395.out (by decide))); rintro e w6 ⟨rfl, hi, hb, hk⟩; refine ⟨_, rfl, ?_⟩; replace HO395 := Aside0.mk (Kd.R_mono (Kd.R_keep (IsS86.apart (show IsS86 w0 _ g s0_0 s0_1 s0_2 from by repeat ((with_reducible exact HI0.out))) (by exact HO395.out) (by decide)) hk (fun _ h => h.2)) (fun _ h => h.1)); replace HK := Aside0.mk (KeepBut.trans z2_ hk (.inl rfl)); replace HB := Aside0.mk (hb); replace HI0 := Aside0.mk (hi); (try clear hb hk hi)))
 go_ret
 exact ⟨z6_, z3_, z4_, z2_⟩

/-! ### spec_l3Any: function 50 -/
mutual
def spec_l3Any.l0 : Nat → List (S61) → List Int → Int → Int → Option ((List (S61)) × Int × Int)
 | 0, _, _, _, _ => none
 | k + 1, x5, x1000, x1001, x1002 => (spec_l1Below.f x1000 x1001 x1002 2).bind fun bt425 => (if (x5.length : Int) < (wrap64 (24 + bt425.1)) then (if x5.length < 8796093022208 then (spec_l3Any.l0 k (x5 ++ [(⟨1, 1⟩ : S61)]) x1000 bt425.2.1 bt425.2.2) else (none)) else (some (x5, bt425.2.1, bt425.2.2)))
def spec_l3Any.l1 : Nat → List (S61) → List Int → Int → Int → Option ((List (S61)) × Int × Int)
 | 0, _, _, _, _ => none
 | k + 1, x5, x1000, x1001, x1002 => (spec_l1Below.f x1000 x1001 x1002 2).bind fun bt434 => (if (x5.length : Int) < (wrap64 (13 + bt434.1)) then (if x5.length < 8796093022208 then (spec_l3Any.l1 k (x5 ++ [(⟨0, (x5.length : Int)⟩ : S61)]) x1000 bt434.2.1 bt434.2.2) else (none)) else (some (x5, bt434.2.1, bt434.2.2)))
end
def spec_l3Any.f (k : Nat) (s0_0 : List Int) (s0_1 : Int) (s0_2 : Int) (a1 : Int) : Option ((List (S61)) × Int × Int) := (spec_l3Tree.f k s0_0 s0_1 s0_2 a1).bind fun bt399 => ((spec_l1Below.f s0_0 bt399.2.1 bt399.2.2 (bt399.1.length : Int)).bind fun bt404 => ((spec_l1Below.f s0_0 bt404.2.1 bt404.2.2 18).bind fun bt407 => (if bt407.1 = 0 then ((spec_l2Any.f s0_0 bt407.2.1 bt407.2.2).bind fun bt410 => (if 0 ≤ bt404.1 then (if bt404.1 < (bt399.1.length : Int) then (some ((bt399.1.set (bt404.1 : Int).toNat (⟨bt410.1, (rd_T61 bt399.1 bt404.1).f1⟩ : S61)), bt410.2.1, bt410.2.2)) else (none)) else (none))) else (if bt407.1 = 1 then (if 0 ≤ bt404.1 then (if bt404.1 < (bt399.1.length : Int) then ((spec_l1PickInt.f s0_0 bt407.2.1 bt407.2.2 (([(-1), 0, 1, 13, wrap64 (((rd_T61 bt399.1 bt404.1).f1) + 1)] : List Int))).bind fun bt418 => (some ((bt399.1.set (bt404.1 : Int).toNat (⟨(rd_T61 bt399.1 bt404.1).f0, bt418.1⟩ : S61)), bt418.2.1, bt418.2.2))) else (none)) else (none)) else (if bt407.1 = 2 then (if 1 ≤ (bt399.1.length : Int) then (some ((bt399.1.drop (1 : Int).toNat), bt407.2.1, bt407.2.2)) else (none)) else (if bt407.1 = 3 then (spec_l3Any.l0 k bt399.1 s0_0 bt407.2.1 bt407.2.2) else (if bt407.1 = 4 then (spec_l3Any.l1 k (([(⟨0, 0⟩ : S61)] : List (S61))) s0_0 bt407.2.1 bt407.2.2) else (some (bt399.1, bt407.2.1, bt407.2.2)))))))))
set_option maxHeartbeats 8000000 in
set_option maxRecDepth 100000 in
theorem spec_l3Any.calls (k : Nat) (g : Nat) (s0_0 : List Int) (s0_1 : Int) (s0_2 : Int) (a1 : Int) (r1 : List (S61)) (r2 : Int) (r3 : Int) (w0 w : World) (hI : IsS86 w0 w g s0_0 s0_1 s0_2) (hB : Below w0.heap.size w0 w) (h : spec_l3Any.f k s0_0 s0_1 s0_2 a1 = some (r1, r2, r3)) :
  Calls Try.prog 50 #[.pointer (some ⟨g, 0, none⟩), .int .i64 a1] w fun e w' => ∃ v0_ : Value, e = .returned (v0_) ∧ Kd.Q k61 61 w' w.heap.size (fun _ => True) v0_ r1 ∧ IsS86 w0 w' g s0_0 r2 r3 ∧ Below w0.heap.size w0 w' ∧ KeepBut w w' g none := by
 have hu61 := Try.underlying61
 have HI0 := Aside0.mk hI
 have HK := Aside0.mk (KeepBut.refl w g none)
 have HL := Aside0.mk hB.size
 clear hI
 have HW0 := Aside0.mk hB.size
 have HB := Aside0.mk hB
 clear hB
 have H : ((spec_l3Tree.f k s0_0 s0_1 s0_2 a1).bind fun bt399 => ((spec_l1Below.f s0_0 bt399.2.1 bt399.2.2 (bt399.1.length : Int)).bind fun bt404 => ((spec_l1Below.f s0_0 bt404.2.1 bt404.2.2 18).bind fun bt407 => (if bt407.1 = 0 then ((spec_l2Any.f s0_0 bt407.2.1 bt407.2.2).bind fun bt410 => (if 0 ≤ bt404.1 then (if bt404.1 < (bt399.1.length : Int) then (some ((bt399.1.set (bt404.1 : Int).toNat (⟨bt410.1, (rd_T61 bt399.1 bt404.1).f1⟩ : S61)), bt410.2.1, bt410.2.2)) else (none)) else (none))) else (if bt407.1 = 1 then (if 0 ≤ bt404.1 then (if bt404.1 < (bt399.1.length : Int) then ((spec_l1PickInt.f s0_0 bt407.2.1 bt407.2.2 (([(-1), 0, 1, 13, wrap64 (((rd_T61 bt399.1 bt404.1).f1) + 1)] : List Int))).bind fun bt418 => (some ((bt399.1.set (bt404.1 : Int).toNat (⟨(rd_T61 bt399.1 bt404.1).f0, bt418.1⟩ : S61)), bt418.2.1, bt418.2.2))) else (none)) else (none)) else (if bt407.1 = 2 then (if 1 ≤ (bt399.1.length : Int) then (some ((bt399.1.drop (1 : Int).toNat), bt407.2.1, bt407.2.2)) else (none)) else (if bt407.1 = 3 then (spec_l3Any.l0 k bt399.1 s0_0 bt407.2.1 bt407.2.2) else (if bt407.1 = 4 then (spec_l3Any.l1 k (([(⟨0, 0⟩ : S61)] : List (S61))) s0_0 bt407.2.1 bt407.2.2) else (some (bt399.1, bt407.2.1, bt407.2.2)))))))))) = some (r1, r2, r3) := h
 clear h
 replace H := Option.bind_eq_some_iff.mp H
 obtain ⟨⟨t399, t402, t403⟩, A30, H⟩ := H
 try dsimp only at H
 have A3 := Aside0.mk A30
 clear A30
 replace H := Option.bind_eq_some_iff.mp H
 obtain ⟨⟨t404, t405, t406⟩, A40, H⟩ := H
 try dsimp only at H
 have A4 := Aside0.mk A40
 clear A40
 replace H := Option.bind_eq_some_iff.mp H
 obtain ⟨⟨t407, t408, t409⟩, A50, H⟩ := H
 try dsimp only at H
 have A5 := Aside0.mk A50
 clear A50
 by_cases c6 : t407 = 0
 ·rw [if_pos c6] at H
  have c6b0 : (t407 == 0) = true := beq_iff_eq.mpr c6
  have c6b1 : (t407 != 0) = false := bne_eq_false_iff_eq.mpr c6
  clear c6
  replace H := Option.bind_eq_some_iff.mp H
  obtain ⟨⟨t410, t411, t412⟩, A70, H⟩ := H
  try dsimp only at H
  have A7 := Aside0.mk A70
  clear A70
  obtain ⟨c8b0, H⟩ := ifd_ H
  obtain ⟨c9b0, H⟩ := ifd_ H
  (generalize hy_ : ((t399.set (t404 : Int).toNat (⟨t410, (rd_T61 t399 t404).f1⟩ : S61)) : List (S61)) = y413 at H; have Ny413 := Aside0.mk hy_.symm; clear hy_)
  simp only [Option.some.injEq, Prod.mk.injEq] at H
  obtain ⟨rfl, rfl, rfl⟩ := H
  go_enter Try.func50, Try.ntmps50
  go_wp2_with (first | ((with_reducible refine gate_callee (f := 53) rfl ?_); refine goesL_ (some 9) rfl rfl Try.func53 (by kernel_rfl) rfl #[.pointer (some ⟨g, 0, none⟩), .int .i64 a1] rfl z1_ ?_; (with_reducible refine (spec_l3Tree.calls k g s0_0 s0_1 s0_2 a1 t399 t402 t403 w0 _ ?side1 ?side2 A3.out).mono ?_); (case side1 => exact z3_); (case side2 => exact z4_); rintro e w11 ⟨v400, rfl, ho0, hi, hb, hk⟩; refine ⟨_, rfl, ?_⟩; have HO401 := Aside0.mk (Kd.R_lower ho0 (keep_size (w := w) (g := g) (row := none) z2_)); replace HK := Aside0.mk (KeepBut.trans z2_ hk (.inl rfl)); replace HB := Aside0.mk (hb); replace HI0 := Aside0.mk (hi); (try clear hb hk hi ho0); obtain ⟨Ao12, co12, eo12⟩ := Kd.R_slice HO401.out; subst eo12) | ((with_reducible refine gate_callee (f := 64) rfl ?_); refine goesL_ (some 13) rfl rfl Try.func64 (by kernel_rfl) rfl #[.pointer (some ⟨g, 0, none⟩), .int .i64 (t399.length : Int)] rfl z1_ ?_; (with_reducible refine (spec_l1Below.calls g s0_0 t402 t403 (t399.length : Int) t404 t405 t406 w0 _ ?side1 ?side2 A4.out).mono ?_); (case side1 => exact z3_); (case side2 => exact z4_); rintro e w13 ⟨rfl, hi, hb, hk⟩; refine ⟨_, rfl, ?_⟩; replace HO401 := Aside0.mk (Kd.R_mono (Kd.R_keep (IsS86.apart (show IsS86 w0 _ g s0_0 t402 t403 from by repeat ((with_reducible exact HI0.out))) z41_ (by decide)) hk (fun _ h => h.2)) (fun _ h => h.1)); replace HK := Aside0.mk (KeepBut.trans z2_ hk (.inl rfl)); replace HB := Aside0.mk (hb); replace HI0 := Aside0.mk (hi); (try clear hb hk hi)) | ((with_reducible refine gate_callee (f := 64) rfl ?_); refine goesL_ (some 15) rfl rfl Try.func64 (by kernel_rfl) rfl #[.pointer (some ⟨g, 0, none⟩), .int .i64 18] rfl z1_ ?_; (with_reducible refine (spec_l1Below.calls g s0_0 t405 t406 18 t407 t408 t409 w0 _ ?side1 ?side2 A5.out).mono ?_); (case side1 => exact z3_); (case side2 => exact z4_); rintro e w14 ⟨rfl, hi, hb, hk⟩; refine ⟨_, rfl, ?_⟩; replace HO401 := Aside0.mk (Kd.R_mono (Kd.R_keep (IsS86.apart (show IsS86 w0 _ g s0_0 t405 t406 from by repeat ((with_reducible exact HI0.out))) z41_ (by decide)) hk (fun _ h => h.2)) (fun _ h => h.1)); replace HK := Aside0.mk (KeepBut.trans z2_ hk (.inl rfl)); replace HB := Aside0.mk (hb); replace HI0 := Aside0.mk (hi); (try clear hb hk hi)) | ((with_reducible refine gate_callee (f := 71) rfl ?_); refine goesL_ (some 21) rfl rfl Try.func71 (by kernel_rfl) rfl #[.pointer (some ⟨g, 0, none⟩)] rfl z1_ ?_; (with_reducible refine (spec_l2Any.calls g s0_0 t408 t409 t410 t411 t412 w0 _ ?side1 ?side2 A7.out).mono ?_); (case side1 => exact z3_); (case side2 => exact z4_); rintro e w15 ⟨rfl, hi, hb, hk⟩; refine ⟨_, rfl, ?_⟩; replace HO401 := Aside0.mk (Kd.R_mono (Kd.R_keep (IsS86.apart (show IsS86 w0 _ g s0_0 t408 t409 from by repeat ((with_reducible exact HI0.out))) z41_ (by decide)) hk (fun _ h => h.2)) (fun _ h => h.1)); replace HK := Aside0.mk (KeepBut.trans z2_ hk (.inl rfl)); replace HB := Aside0.mk (hb); replace HI0 := Aside0.mk (hi); (try clear hb hk hi); have p10 : 0 ≤ (t404 : Int) := odt_; have q10 : (t404 : Int) < ((t399.length : Int) : Int) := odt_; obtain ⟨go10, co10, eo10, gb10, gl10, cl10, HG10⟩ := Kd.R_form HO401.out (by omega); (cases eo10); have GB10 := Aside0.mk gb10; have GG10 := Aside0.mk HG10; clear gb10 gl10 HG10; obtain ⟨ce10, hcl10, hM10, hcc10, hfr10⟩ := Kd.R_elem HO401.out z61 (t404 : Int) p10 q10; obtain rfl := k61_openM hM10; have hx10_0 : w15.cell? ⟨go10, (t404 : Int).toNat * 2, none⟩ = some (.int .i64 ((rd_T61 t399 t404).f0)) := hcc10 0 _ rfl; have hx10_1 : w15.cell? ⟨go10, (t404 : Int).toNat * 2 + 1, none⟩ = some (.int .i64 ((rd_T61 t399 t404).f1)) := hcc10 1 _ rfl; have hf10_0 : w15.frozen? ⟨go10, (t404 : Int).toNat * 2, none⟩ = false := hfr10 0; have hf10_1 : w15.frozen? ⟨go10, (t404 : Int).toNat * 2 + 1, none⟩ = false := hfr10 1; clear hcl10 hcc10 hfr10 hM10; replace p10 := eq_true p10; replace q10 := eq_true q10; have HX16 := Aside0.mk (show Kd.R k61 61 w15 w.heap.size (fun _ => True) (.slice (some ⟨go10, 0, none⟩) t399.length co12) t399 from z41_); obtain ⟨ce16, hcl16, hM16, hcc16, hfr16⟩ := Kd.R_elem HX16.out z61 (t404 : Int) (odt_) (by have h_ : (t404 : Int) < ((t399.length : Int) : Int) := odt_; exact h_); obtain rfl := k61_openM hM16; have HP16 := Kd.R_seg HX16.out (t404 : Int) (odt_) (by have h_ : (t404 : Int) < ((t399.length : Int) : Int) := odt_; exact h_) (seg := [.int .i64 t410]) (j := 0) hcl16 hcc16 (show 1 ≤ 2 from by decide) (x' := (⟨t410, (rd_T61 t399 t404).f1⟩ : S61)) (k61_mkM _ _ _ (⟨t410, (rd_T61 t399 t404).f1⟩ : S61) ) (fun _ hk => hk); have hx16_0 := hcc16 0 _ rfl; (try simp only [show (k61).sz = 2 from rfl, Nat.mul_one, Nat.add_zero] at hx16_0); have hf16_0 := hfr16 0; (try simp only [show (k61).sz = 2 from rfl, Nat.mul_one, Nat.add_zero] at hf16_0); clear hcl16 hcc16 hfr16 hM16) | ((with_reducible refine gate_store (t := 3) (p := 23) rfl ?_); refine store_event (t := 3) (p := 23) (v := ?vo_w17) (w1 := (w15.setCell ⟨go10, (t404 : Int).toNat * 2, none⟩ (.int .i64 t410))) ?hg ?ho ?hn ?hr ?_; (case ho => rfl); (case hg => rfl); (case hn => rfl); (case hr => exact z19_); intro w17 hw; have hg : w15.grownBy w17 (some go10) := (by rw [hw]; exact HP16.2); have hp_ : Kd.R k61 61 w17 w.heap.size (fun _ => True) (.slice (some ⟨go10, 0, none⟩) t399.length co12) y413 := (by rw [hw, Ny413.out]; exact HP16.1); clear HP16; replace HI0 := Aside0.mk (IsS86.grown z3_ hg (IsS86.own_ne HI0.out HO401.out (by decide))); replace HB := Aside0.mk ((by rw [hw]; exact below_set (HB.out) (Nat.le_trans HL.out GB10.out) : Below w0.heap.size w0 w17)); replace HK := Aside0.mk (KeepBut.trans z2_ (KeepBut.of_grown hg g) (Kd.R_base2 HO401.out)); replace HO401 := Aside0.mk (hp_); clear hg hw hp_))
  go_ret
  exact ⟨_, z6_, Kd.Q_of_R z41_, z3_, z4_, z2_⟩
 ·rw [if_neg c6] at H
  have c6b0 : (t407 == 0) = false := beq_eq_false_iff_ne.mpr c6
  have c6b1 : (t407 != 0) = true := bne_iff_ne.mpr c6
  by_cases c18 : t407 = 1
  ·rw [if_pos c18] at H
   have c18b0 : (t407 == 1) = true := beq_iff_eq.mpr c18
   have c18b1 : (t407 != 1) = false := bne_eq_false_iff_eq.mpr c18
   clear c18
   obtain ⟨c19b0, H⟩ := ifd_ H
   obtain ⟨c20b0, H⟩ := ifd_ H
   (generalize hy_ : ((([(-1), 0, 1, 13, wrap64 (((rd_T61 t399 t404).f1) + 1)] : List Int)) : List Int) = y415 at H; have Ny415 := Aside0.mk hy_.symm; clear hy_)
   replace H := Option.bind_eq_some_iff.mp H
   obtain ⟨⟨t418, t419, t420⟩, A210, H⟩ := H
   try dsimp only at H
   have A21 := Aside0.mk A210
   clear A210
   (generalize hy_ : ((t399.set (t404 : Int).toNat (⟨(rd_T61 t399 t404).f0, t418⟩ : S61)) : List (S61)) = y421 at H; have Ny421 := Aside0.mk hy_.symm; clear hy_)
   simp only [Option.some.injEq, Prod.mk.injEq] at H
   obtain ⟨rfl, rfl, rfl⟩ := H
   go_enter Try.func50, Try.ntmps50
   go_wp2_with (first | ((with_reducible refine gate_callee (f := 53) rfl ?_); refine goesL_ (some 9) rfl rfl Try.func53 (by kernel_rfl) rfl #[.pointer (some ⟨g, 0, none⟩), .int .i64 a1] rfl z1_ ?_; (with_reducible refine (spec_l3Tree.calls k g s0_0 s0_1 s0_2 a1 t399 t402 t403 w0 _ ?side1 ?side2 A3.out).mono ?_); (case side1 => exact z3_); (case side2 => exact z4_); rintro e w23 ⟨v400, rfl, ho0, hi, hb, hk⟩; refine ⟨_, rfl, ?_⟩; have HO401 := Aside0.mk (Kd.R_lower ho0 (keep_size (w := w) (g := g) (row := none) z2_)); replace HK := Aside0.mk (KeepBut.trans z2_ hk (.inl rfl)); replace HB := Aside0.mk (hb); replace HI0 := Aside0.mk (hi); (try clear hb hk hi ho0); obtain ⟨Ao24, co24, eo24⟩ := Kd.R_slice HO401.out; subst eo24) | ((with_reducible refine gate_callee (f := 64) rfl ?_); refine goesL_ (some 13) rfl rfl Try.func64 (by kernel_rfl) rfl #[.pointer (some ⟨g, 0, none⟩), .int .i64 (t399.length : Int)] rfl z1_ ?_; (with_reducible refine (spec_l1Below.calls g s0_0 t402 t403 (t399.length : Int) t404 t405 t406 w0 _ ?side1 ?side2 A4.out).mono ?_); (case side1 => exact z3_); (case side2 => exact z4_); rintro e w25 ⟨rfl, hi, hb, hk⟩; refine ⟨_, rfl, ?_⟩; replace HO401 := Aside0.mk (Kd.R_mono (Kd.R_keep (IsS86.apart (show IsS86 w0 _ g s0_0 t402 t403 from by repeat ((with_reducible exact HI0.out))) z41_ (by decide)) hk (fun _ h => h.2)) (fun _ h => h.1)); replace HK := Aside0.mk (KeepBut.trans z2_ hk (.inl rfl)); replace HB := Aside0.mk (hb); replace HI0 := Aside0.mk (hi); (try clear hb hk hi)) | ((with_reducible refine gate_callee (f := 64) rfl ?_); refine goesL_ (some 15) rfl rfl Try.func64 (by kernel_rfl) rfl #[.pointer (some ⟨g, 0, none⟩), .int .i64 18] rfl z1_ ?_; (with_reducible refine (spec_l1Below.calls g s0_0 t405 t406 18 t407 t408 t409 w0 _ ?side1 ?side2 A5.out).mono ?_); (case side1 => exact z3_); (case side2 => exact z4_); rintro e w26 ⟨rfl, hi, hb, hk⟩; refine ⟨_, rfl, ?_⟩; replace HO401 := Aside0.mk (Kd.R_mono (Kd.R_keep (IsS86.apart (show IsS86 w0 _ g s0_0 t405 t406 from by repeat ((with_reducible exact HI0.out))) z41_ (by decide)) hk (fun _ h => h.2)) (fun _ h => h.1)); replace HK := Aside0.mk (KeepBut.trans z2_ hk (.inl rfl)); replace HB := Aside0.mk (hb); replace HI0 := Aside0.mk (hi); (try clear hb hk hi); have p414 : 0 ≤ (t404 : Int) := odt_; have q414 : t404 < (t399.length : Int) := odt_; obtain ⟨ad414, e414, hx414_0, hx414_1⟩ := at_T61 (Kd.R_reads' HO401.out).2.2 t404 p414 q414; cases e414; replace p414 := eq_true p414; replace q414 := eq_true q414) | ((with_reducible refine gate_dst (N := 35) rfl ?_); refine Kd.R_lit (Kd.int .i64) _ 3 ?hg (N := 35) ?hd (xs := ([(-1), 0, 1, 13, wrap64 (((rd_T61 t399 t404).f1) + 1)] : List Int)) (inner := [.int .i64 (-1), .int .i64 0, .int .i64 1, .int .i64 13, .int .i64 (wrap64 (((rd_T61 t399 t404).f1) + 1))]) (ok := fun _ => True) (okp := fun _ => True) ?hr ?hp (fun _ hk => hk) trivial (Below.refl _ _) (Nat.le_refl _) (by simp) ?_; (case hd => rfl); (case hg => rfl); (case hr => exact z19_); (case hp => exact (Reps.one (show Kd.M (Kd.int .i64) _ _ _ (-1) [.int .i64 (-1)] from rfl) (Reps.one (show Kd.M (Kd.int .i64) _ _ _ 0 [.int .i64 0] from rfl) (Reps.one (show Kd.M (Kd.int .i64) _ _ _ 1 [.int .i64 1] from rfl) (Reps.one (show Kd.M (Kd.int .i64) _ _ _ 13 [.int .i64 13] from rfl) (Reps.one (show Kd.M (Kd.int .i64) _ _ _ (wrap64 (((rd_T61 t399 t404).f1) + 1)) [.int .i64 (wrap64 (((rd_T61 t399 t404).f1) + 1))] from rfl) (Reps.none _ _))))))); intro v416 w27 ho28 hb hg_ hnew_; clear hg_ hnew_; (rw [← Ny415.out] at ho28); replace HO401 := Aside0.mk (Kd.R_below z41_ hb); have HO417 := Aside0.mk (Kd.R_lower ho28 (keep_size (w := w) (g := g) (row := none) z2_)); replace HK := Aside0.mk (KeepBut.trans z2_ (KeepBut.of_below hb g none) (.inl rfl)); replace HB := Aside0.mk (below_step z4_ hb); replace HI0 := Aside0.mk (IsS86.below z3_ hb); clear hb ho28; obtain ⟨Ao29, co29, eo29⟩ := Kd.R_slice HO417.out; subst eo29) | ((with_reducible refine gate_callee (f := 66) rfl ?_); refine goesL_ (some 36) rfl rfl Try.func66 (by kernel_rfl) rfl #[.pointer (some ⟨g, 0, none⟩), .slice Ao29 y415.length co29] rfl z1_ ?_; (with_reducible refine (spec_l1PickInt.calls g s0_0 t408 t409 _ _ y415 t418 t419 t420 w0 _ ?side1 ?side2 ?side3 ?side4 ?side5 A21.out).mono ?_); (case side1 => exact z3_); (case side2 => exact z4_); (case side3 => repeat (exact (Kd.R_reads' HO417.out).2.2)); (case side4 => exact (Kd.R_reads' HO417.out).2.1); (case side5 => exact far_slice (IsS86.own_ne HI0.out HO417.out (by decide))); rintro e w30 ⟨rfl, hi, hb, hk⟩; refine ⟨_, rfl, ?_⟩; replace HO401 := Aside0.mk (Kd.R_mono (Kd.R_keep (IsS86.apart (show IsS86 w0 _ g s0_0 t408 t409 from by repeat ((with_reducible exact HI0.out))) z41_ (by decide)) hk (fun _ h => h.2)) (fun _ h => h.1)); replace HO417 := Aside0.mk (Kd.R_mono (Kd.R_keep (IsS86.apart (show IsS86 w0 _ g s0_0 t408 t409 from by repeat ((with_reducible exact HI0.out))) z225_ (by decide)) hk (fun _ h => h.2)) (fun _ h => h.1)); replace HK := Aside0.mk (KeepBut.trans z2_ hk (.inl rfl)); replace HB := Aside0.mk (hb); replace HI0 := Aside0.mk (hi); (try clear hb hk hi); have p22 : 0 ≤ (t404 : Int) := odt_; have q22 : (t404 : Int) < ((t399.length : Int) : Int) := odt_; obtain ⟨go22, co22, eo22, gb22, gl22, cl22, HG22⟩ := Kd.R_form HO401.out (by omega); (cases eo22); have GB22 := Aside0.mk gb22; have GG22 := Aside0.mk HG22; clear gb22 gl22 HG22; (simp only [add_plain] at hx414_0); (simp only [add_plain] at hx414_1); obtain ⟨ce22, hcl22, hM22, hcc22, hfr22⟩ := Kd.R_elem HO401.out z61 (t404 : Int) p22 q22; obtain rfl := k61_openM hM22; have hx22_0 : w30.cell? ⟨go22, (t404 : Int).toNat * 2, none⟩ = some (.int .i64 ((rd_T61 t399 t404).f0)) := hcc22 0 _ rfl; have hx22_1 : w30.cell? ⟨go22, (t404 : Int).toNat * 2 + 1, none⟩ = some (.int .i64 ((rd_T61 t399 t404).f1)) := hcc22 1 _ rfl; have hf22_0 : w30.frozen? ⟨go22, (t404 : Int).toNat * 2, none⟩ = false := hfr22 0; have hf22_1 : w30.frozen? ⟨go22, (t404 : Int).toNat * 2 + 1, none⟩ = false := hfr22 1; clear hcl22 hcc22 hfr22 hM22; replace p22 := eq_true p22; replace q22 := eq_true q22; have HX31 := Aside0.mk (show Kd.R k61 61 w30 w.heap.size (fun _ => True) (.slice (some ⟨go22, 0, none⟩) t399.length co24) t399 from z41_); obtain ⟨ce31, hcl31, hM31, hcc31, hfr31⟩ := Kd.R_elem HX31.out z61 (t404 : Int) (odt_) (by have h_ : (t404 : Int) < ((t399.length : Int) : Int) := odt_; exact h_); obtain rfl := k61_openM hM31; have HP31 := Kd.R_seg HX31.out (t404 : Int) (odt_) (by have h_ : (t404 : Int) < ((t399.length : Int) : Int) := odt_; exact h_) (seg := [.int .i64 t418]) (j := 1) hcl31 hcc31 (show 2 ≤ 2 from by decide) (x' := (⟨(rd_T61 t399 t404).f0, t418⟩ : S61)) (k61_mkM _ _ _ (⟨(rd_T61 t399 t404).f0, t418⟩ : S61) ) (fun _ hk => hk); have hx31_1 := hcc31 1 _ rfl; (try simp only [show (k61).sz = 2 from rfl, Nat.mul_one, Nat.add_zero] at hx31_1); have hf31_1 := hfr31 1; (try simp only [show (k61).sz = 2 from rfl, Nat.mul_one, Nat.add_zero] at hf31_1); clear hcl31 hcc31 hfr31 hM31) | ((with_reducible refine gate_store (t := 3) (p := 38) rfl ?_); refine store_event (t := 3) (p := 38) (v := ?vo_w32) (w1 := (w30.setCell ⟨go22, (t404 : Int).toNat * 2 + 1, none⟩ (.int .i64 t418))) ?hg ?ho ?hn ?hr ?_; (case ho => rfl); (case hg => rfl); (case hn => rfl); (case hr => exact z19_); intro w32 hw; have hg : w30.grownBy w32 (some go22) := (by rw [hw]; exact HP31.2); have hp_ : Kd.R k61 61 w32 w.heap.size (fun _ => True) (.slice (some ⟨go22, 0, none⟩) t399.length co24) y421 := (by rw [hw, Ny421.out]; exact HP31.1); clear HP31; replace HI0 := Aside0.mk (IsS86.grown z3_ hg (IsS86.own_ne HI0.out HO401.out (by decide))); replace HO417 := Aside0.mk (Kd.R_over' (v := (.slice (some ⟨go22, 0, none⟩) t399.length co24)) z225_ (Kd.R_typed HO401.out) (by decide) hg); replace HB := Aside0.mk ((by rw [hw]; exact below_set (HB.out) (Nat.le_trans HL.out GB22.out) : Below w0.heap.size w0 w32)); replace HK := Aside0.mk (KeepBut.trans z2_ (KeepBut.of_grown hg g) (Kd.R_base2 HO401.out)); replace HO401 := Aside0.mk (hp_); clear hg hw hp_))
   go_ret
   exact ⟨_, z6_, Kd.Q_of_R z41_, z3_, z4_, z2_⟩
  ·rw [if_neg c18] at H
   have c18b0 : (t407 == 1) = false := beq_eq_false_iff_ne.mpr c18
   have c18b1 : (t407 != 1) = true := bne_iff_ne.mpr c18
   by_cases c33 : t407 = 2
   ·rw [if_pos c33] at H
    have c33b0 : (t407 == 2) = true := beq_iff_eq.mpr c33
    have c33b1 : (t407 != 2) = false := bne_eq_false_iff_eq.mpr c33
    clear c33
    obtain ⟨c34b0, c34b1, H⟩ := ife_ H
    (generalize hy_ : ((t399.drop (1 : Int).toNat) : List (S61)) = y422 at H; have Ny422 := Aside0.mk hy_.symm; clear hy_)
    simp only [Option.some.injEq, Prod.mk.injEq] at H
    obtain ⟨rfl, rfl, rfl⟩ := H
    go_enter Try.func50, Try.ntmps50
    go_wp2_with (first | ((with_reducible refine gate_callee (f := 53) rfl ?_); refine goesL_ (some 9) rfl rfl Try.func53 (by kernel_rfl) rfl #[.pointer (some ⟨g, 0, none⟩), .int .i64 a1] rfl z1_ ?_; (with_reducible refine (spec_l3Tree.calls k g s0_0 s0_1 s0_2 a1 t399 t402 t403 w0 _ ?side1 ?side2 A3.out).mono ?_); (case side1 => exact z3_); (case side2 => exact z4_); rintro e w35 ⟨v400, rfl, ho0, hi, hb, hk⟩; refine ⟨_, rfl, ?_⟩; have HO401 := Aside0.mk (Kd.R_lower ho0 (keep_size (w := w) (g := g) (row := none) z2_)); replace HK := Aside0.mk (KeepBut.trans z2_ hk (.inl rfl)); replace HB := Aside0.mk (hb); replace HI0 := Aside0.mk (hi); (try clear hb hk hi ho0); obtain ⟨Ao36, co36, eo36⟩ := Kd.R_slice HO401.out; subst eo36) | ((with_reducible refine gate_callee (f := 64) rfl ?_); refine goesL_ (some 13) rfl rfl Try.func64 (by kernel_rfl) rfl #[.pointer (some ⟨g, 0, none⟩), .int .i64 (t399.length : Int)] rfl z1_ ?_; (with_reducible refine (spec_l1Below.calls g s0_0 t402 t403 (t399.length : Int) t404 t405 t406 w0 _ ?side1 ?side2 A4.out).mono ?_); (case side1 => exact z3_); (case side2 => exact z4_); rintro e w37 ⟨rfl, hi, hb, hk⟩; refine ⟨_, rfl, ?_⟩; replace HO401 := Aside0.mk (Kd.R_mono (Kd.R_keep (IsS86.apart (show IsS86 w0 _ g s0_0 t402 t403 from by repeat ((with_reducible exact HI0.out))) z41_ (by decide)) hk (fun _ h => h.2)) (fun _ h => h.1)); replace HK := Aside0.mk (KeepBut.trans z2_ hk (.inl rfl)); replace HB := Aside0.mk (hb); replace HI0 := Aside0.mk (hi); (try clear hb hk hi)) | ((with_reducible refine gate_callee (f := 64) rfl ?_); refine goesL_ (some 15) rfl rfl Try.func64 (by kernel_rfl) rfl #[.pointer (some ⟨g, 0, none⟩), .int .i64 18] rfl z1_ ?_; (with_reducible refine (spec_l1Below.calls g s0_0 t405 t406 18 t407 t408 t409 w0 _ ?side1 ?side2 A5.out).mono ?_); (case side1 => exact z3_); (case side2 => exact z4_); rintro e w38 ⟨rfl, hi, hb, hk⟩; refine ⟨_, rfl, ?_⟩; replace HO401 := Aside0.mk (Kd.R_mono (Kd.R_keep (IsS86.apart (show IsS86 w0 _ g s0_0 t405 t406 from by repeat ((with_reducible exact HI0.out))) z41_ (by decide)) hk (fun _ h => h.2)) (fun _ h => h.1)); replace HK := Aside0.mk (KeepBut.trans z2_ hk (.inl rfl)); replace HB := Aside0.mk (hb); replace HI0 := Aside0.mk (hi); (try clear hb hk hi); have q39 : (1 : Int) ≤ ((t399.length : Int) : Int) := odt_; obtain ⟨i039, hi039, _, hsz39, _⟩ := info_parts info61; have hcut39 := cut_from (P := Try.prog) 25 61 .i64 Try.underlying25 hi039 2 hsz39 Ao36 t399.length co36 1 (by omega) q39; have hr39 := Kd.Q_drop (k := (1 : Int).toNat) (Kd.Q_of_R HO401.out) (by omega); obtain ⟨A39, hA39⟩ : ∃ A1, A1 = (if co36 = (1 : Int).toNat then Ao36 else (Ao36 : Option Addr).map (·.add ((1 : Int).toNat * 2))) := ⟨_, rfl⟩; obtain ⟨c39, hc39⟩ : ∃ c1, c1 = co36 - (1 : Int).toNat := ⟨_, rfl⟩; have hy39 : y422.length = t399.length - (1 : Int).toNat := (by rw [Ny422.out, List.length_drop]); rw [← Ny422.out] at hr39; rw [← hy39, ← hA39, ← hc39] at hcut39; replace hr39 : Kd.Q k61 61 w38 w.heap.size (fun _ => True) (.slice A39 y422.length c39) y422 := (by rw [hA39, hc39, hy39]; exact hr39); have HE39 : Aside0 ((Value.slice A39 y422.length c39).ownBlock = (.slice Ao36 t399.length co36 : Value).ownBlock) := ⟨by rw [hA39]; split <;> (cases (Ao36 : Option Addr) <;> rfl)⟩; clear hy39 hi039 hsz39 HO401 hA39 hc39; have HO424 := Aside0.mk hr39; clear hr39; replace q39 := eq_true q39))
    go_ret
    exact ⟨_, z6_, by exact HO424.out, z3_, z4_, z2_⟩
   ·rw [if_neg c33] at H
    have c33b0 : (t407 == 2) = false := beq_eq_false_iff_ne.mpr c33
    have c33b1 : (t407 != 2) = true := bne_iff_ne.mpr c33
    by_cases c40 : t407 = 3
    ·rw [if_pos c40] at H
     have c40b0 : (t407 == 3) = true := beq_iff_eq.mpr c40
     have c40b1 : (t407 != 3) = false := bne_eq_false_iff_eq.mpr c40
     clear c40
     have H' := Aside0.mk H
     clear H
     go_enter Try.func50, Try.ntmps50
     go_wp2_with (first | ((with_reducible refine gate_callee (f := 53) rfl ?_); refine goesL_ (some 9) rfl rfl Try.func53 (by kernel_rfl) rfl #[.pointer (some ⟨g, 0, none⟩), .int .i64 a1] rfl z1_ ?_; (with_reducible refine (spec_l3Tree.calls k g s0_0 s0_1 s0_2 a1 t399 t402 t403 w0 _ ?side1 ?side2 A3.out).mono ?_); (case side1 => exact z3_); (case side2 => exact z4_); rintro e w41 ⟨v400, rfl, ho0, hi, hb, hk⟩; refine ⟨_, rfl, ?_⟩; have HO401 := Aside0.mk (Kd.R_lower ho0 (keep_size (w := w) (g := g) (row := none) z2_)); replace HK := Aside0.mk (KeepBut.trans z2_ hk (.inl rfl)); replace HB := Aside0.mk (hb); replace HI0 := Aside0.mk (hi); (try clear hb hk hi ho0); obtain ⟨Ao42, co42, eo42⟩ := Kd.R_slice HO401.out; subst eo42) | ((with_reducible refine gate_callee (f := 64) rfl ?_); refine goesL_ (some 13) rfl rfl Try.func64 (by kernel_rfl) rfl #[.pointer (some ⟨g, 0, none⟩), .int .i64 (t399.length : Int)] rfl z1_ ?_; (with_reducible refine (spec_l1Below.calls g s0_0 t402 t403 (t399.length : Int) t404 t405 t406 w0 _ ?side1 ?side2 A4.out).mono ?_); (case side1 => exact z3_); (case side2 => exact z4_); rintro e w43 ⟨rfl, hi, hb, hk⟩; refine ⟨_, rfl, ?_⟩; replace HO401 := Aside0.mk (Kd.R_mono (Kd.R_keep (IsS86.apart (show IsS86 w0 _ g s0_0 t402 t403 from by repeat ((with_reducible exact HI0.out))) z41_ (by decide)) hk (fun _ h => h.2)) (fun _ h => h.1)); replace HK := Aside0.mk (KeepBut.trans z2_ hk (.inl rfl)); replace HB := Aside0.mk (hb); replace HI0 := Aside0.mk (hi); (try clear hb hk hi)) | ((with_reducible refine gate_callee (f := 64) rfl ?_); refine goesL_ (some 15) rfl rfl Try.func64 (by kernel_rfl) rfl #[.pointer (some ⟨g, 0, none⟩), .int .i64 18] rfl z1_ ?_; (with_reducible refine (spec_l1Below.calls g s0_0 t405 t406 18 t407 t408 t409 w0 _ ?side1 ?side2 A5.out).mono ?_); (case side1 => exact z3_); (case side2 => exact z4_); rintro e w44 ⟨rfl, hi, hb, hk⟩; refine ⟨_, rfl, ?_⟩; replace HO401 := Aside0.mk (Kd.R_mono (Kd.R_keep (IsS86.apart (show IsS86 w0 _ g s0_0 t405 t406 from by repeat ((with_reducible exact HI0.out))) z41_ (by decide)) hk (fun _ h => h.2)) (fun _ h => h.1)); replace HK := Aside0.mk (KeepBut.trans z2_ hk (.inl rfl)); replace HB := Aside0.mk (hb); replace HI0 := Aside0.mk (hi); (try clear hb hk hi)))
     go_loopg [5] k (fun kq v5 w' => ∃ (x5_1 : List (S61)) (x1001_1 : Int) (x1002_1 : Int), Aside0 (spec_l3Any.l0 kq x5_1 s0_0 x1001_1 x1002_1 = some (r1, r2, r3)) ∧ Aside0 (kq ≤ k) ∧ Aside0 (Kd.R k61 61 w' w.heap.size (fun _ => True) v5 x5_1) ∧ Aside0 (IsS86 w0 w' g s0_0 x1001_1 x1002_1) ∧ Aside0 (KeepBut w w' g none) ∧ Aside0 (Below w0.heap.size w0 w'))
     case atStart => exact ⟨(t399), (t408), (t409), H', ⟨Nat.le_refl _⟩, ⟨z41_⟩, ⟨z3_⟩, ⟨z2_⟩, ⟨z4_⟩⟩
     case round =>
      clear H'
      obtain ⟨x5_1, x1001_1, x1002_1, HA, HK1, HO_5, HI0, HK, HB⟩ := hrel
      cases gk with
      | zero => exact absurd HA.out (by simp [spec_l3Any.l0])
      | succ k1 =>
       have H := HA.out
       clear HA
       simp only [spec_l3Any.l0] at H
       replace H := Option.bind_eq_some_iff.mp H
       obtain ⟨⟨t425, t426, t427⟩, A450, H⟩ := H
       try dsimp only at H
       have A45 := Aside0.mk A450
       clear A450
       by_cases c46 : (x5_1.length : Int) < (wrap64 (24 + t425))
       ·rw [if_pos c46] at H
        have c46b0 := decide_eq_true c46
        clear c46
        obtain ⟨c47, H⟩ := ifs_ H
        have LMc47 := Aside0.mk c47
        clear c47
        (generalize hy_ : ((x5_1 ++ [(⟨1, 1⟩ : S61)]) : List (S61)) = y428 at H; have Ny428 := Aside0.mk hy_.symm; clear hy_)
        have H' := Aside0.mk H
        clear H
        obtain ⟨Ao48, co48, eo48⟩ := Kd.R_slice HO_5.out
        subst eo48
        go_wp2_with (first | ((with_reducible refine gate_callee (f := 64) rfl ?_); refine goesL_ (some 48) rfl rfl Try.func64 (by kernel_rfl) rfl #[.pointer (some ⟨g, 0, none⟩), .int .i64 2] rfl z1_ ?_; (with_reducible refine (spec_l1Below.calls g s0_0 x1001_1 x1002_1 2 t425 t426 t427 w0 _ ?side1 ?side2 A45.out).mono ?_); (case side1 => exact z3_); (case side2 => exact z4_); rintro e w49 ⟨rfl, hi, hb, hk⟩; refine ⟨_, rfl, ?_⟩; replace HO_5 := Aside0.mk (Kd.R_mono (Kd.R_keep (IsS86.apart (show IsS86 w0 _ g s0_0 x1001_1 x1002_1 from by repeat ((with_reducible exact HI0.out))) z8_ (by decide)) hk (fun _ h => h.2)) (fun _ h => h.1)); replace HK := Aside0.mk (KeepBut.trans z2_ hk (.inl rfl)); replace HB := Aside0.mk (hb); replace HI0 := Aside0.mk (hi); (try clear hb hk hi)) | ((with_reducible refine gate_builtin (b := .append) (xs := #[.tmp 51, .tmp 53]) rfl ?_); at_builtin; refine Kd.R_append k61 w.heap.size rfl (.tmp 51) (.tmp 53) 25 61 (.agg #[(.int .i64 0), (.int .i64 0)]) 16 rfl Try.underlying25 info61 rfl (by decide) (by omega) (.slice Ao48 x5_1.length co48) x5_1 (⟨1, 1⟩ : S61) [.int .i64 1, .int .i64 1] (fun _ => True) (fun _ => False) rfl rfl ?aP (fun _ hk => hk.elim) ?aF ?aO (Below.refl _ _) ?aS ?aL ?_; (case aP => exact k61_mkM _ _ _ (⟨1, 1⟩ : S61)); (case aF => exact z206_); (case aO => exact z81_); (case aS => exact z59_); (case aL => have := LMc47.out; omega); intro v429 w50 ho hb hg hat; rw [← Ny428.out] at ho; replace HB := Aside0.mk (below_weaken z4_ HL.out hb); replace HI0 := Aside0.mk (IsS86.grown z3_ hg (IsS86.own_ne HI0.out HO_5.out (by decide))); replace HK := Aside0.mk (KeepBut.trans z2_ (KeepBut.of_grown hg g) (Kd.R_base2 HO_5.out)); have HO430 := Aside0.mk (ho); clear HO_5; clear ho hb hg hat))
        go_roundg k1
        case measure => have := HK1.out; omega
        case rel => exact ⟨(y428), (t426), (t427), H', ⟨z143_⟩, ⟨by exact HO430.out⟩, ⟨z3_⟩, ⟨z2_⟩, ⟨z4_⟩⟩
       ·rw [if_neg c46] at H
        have c46b0 := decide_eq_false c46
        clear c46
        simp only [Option.some.injEq, Prod.mk.injEq] at H
        obtain ⟨rfl, rfl, rfl⟩ := H
        obtain ⟨Ao51, co51, eo51⟩ := Kd.R_slice HO_5.out
        subst eo51
        go_wp2_with (((with_reducible refine gate_callee (f := 64) rfl ?_); refine goesL_ (some 48) rfl rfl Try.func64 (by kernel_rfl) rfl #[.pointer (some ⟨g, 0, none⟩), .int .i64 2] rfl z1_ ?_; (with_reducible refine (spec_l1Below.calls g s0_0 x1001_1 x1002_1 2 t425 t426 t427 w0 _ ?side1 ?side2 A45.out).mono ?_); (case side1 => exact z3_); (case side2 => exact z4_); rintro e w52 ⟨rfl, hi, hb, hk⟩; refine ⟨_, rfl, ?_⟩; replace HO_5 := Aside0.mk (Kd.R_mono (Kd.R_keep (IsS86.apart (show IsS86 w0 _ g s0_0 x1001_1 x1002_1 from by repeat ((with_reducible exact HI0.out))) z8_ (by decide)) hk (fun _ h => h.2)) (fun _ h => h.1)); replace HK := Aside0.mk (KeepBut.trans z2_ hk (.inl rfl)); replace HB := Aside0.mk (hb); replace HI0 := Aside0.mk (hi); (try clear hb hk hi)))
        go_ret
        exact ⟨_, z6_, Kd.Q_of_R z8_, z3_, z4_, z2_⟩
    ·rw [if_neg c40] at H
     have c40b0 : (t407 == 3) = false := beq_eq_false_iff_ne.mpr c40
     have c40b1 : (t407 != 3) = true := bne_iff_ne.mpr c40
     by_cases c53 : t407 = 4
     ·rw [if_pos c53] at H
      have c53b0 : (t407 == 4) = true := beq_iff_eq.mpr c53
      have c53b1 : (t407 != 4) = false := bne_eq_false_iff_eq.mpr c53
      clear c53
      (generalize hy_ : ((([(⟨0, 0⟩ : S61)] : List (S61))) : List (S61)) = y431 at H; have Ny431 := Aside0.mk hy_.symm; clear hy_)
      have H' := Aside0.mk H
      clear H
      go_enter Try.func50, Try.ntmps50
      go_wp2_with (first | ((with_reducible refine gate_callee (f := 53) rfl ?_); refine goesL_ (some 9) rfl rfl Try.func53 (by kernel_rfl) rfl #[.pointer (some ⟨g, 0, none⟩), .int .i64 a1] rfl z1_ ?_; (with_reducible refine (spec_l3Tree.calls k g s0_0 s0_1 s0_2 a1 t399 t402 t403 w0 _ ?side1 ?side2 A3.out).mono ?_); (case side1 => exact z3_); (case side2 => exact z4_); rintro e w54 ⟨v400, rfl, ho0, hi, hb, hk⟩; refine ⟨_, rfl, ?_⟩; have HO401 := Aside0.mk (Kd.R_lower ho0 (keep_size (w := w) (g := g) (row := none) z2_)); replace HK := Aside0.mk (KeepBut.trans z2_ hk (.inl rfl)); replace HB := Aside0.mk (hb); replace HI0 := Aside0.mk (hi); (try clear hb hk hi ho0); obtain ⟨Ao55, co55, eo55⟩ := Kd.R_slice HO401.out; subst eo55) | ((with_reducible refine gate_callee (f := 64) rfl ?_); refine goesL_ (some 13) rfl rfl Try.func64 (by kernel_rfl) rfl #[.pointer (some ⟨g, 0, none⟩), .int .i64 (t399.length : Int)] rfl z1_ ?_; (with_reducible refine (spec_l1Below.calls g s0_0 t402 t403 (t399.length : Int) t404 t405 t406 w0 _ ?side1 ?side2 A4.out).mono ?_); (case side1 => exact z3_); (case side2 => exact z4_); rintro e w56 ⟨rfl, hi, hb, hk⟩; refine ⟨_, rfl, ?_⟩; replace HO401 := Aside0.mk (Kd.R_mono (Kd.R_keep (IsS86.apart (show IsS86 w0 _ g s0_0 t402 t403 from by repeat ((with_reducible exact HI0.out))) z41_ (by decide)) hk (fun _ h => h.2)) (fun _ h => h.1)); replace HK := Aside0.mk (KeepBut.trans z2_ hk (.inl rfl)); replace HB := Aside0.mk (hb); replace HI0 := Aside0.mk (hi); (try clear hb hk hi)) | ((with_reducible refine gate_callee (f := 64) rfl ?_); refine goesL_ (some 15) rfl rfl Try.func64 (by kernel_rfl) rfl #[.pointer (some ⟨g, 0, none⟩), .int .i64 18] rfl z1_ ?_; (with_reducible refine (spec_l1Below.calls g s0_0 t405 t406 18 t407 t408 t409 w0 _ ?side1 ?side2 A5.out).mono ?_); (case side1 => exact z3_); (case side2 => exact z4_); rintro e w57 ⟨rfl, hi, hb, hk⟩; refine ⟨_, rfl, ?_⟩; replace HO401 := Aside0.mk (Kd.R_mono (Kd.R_keep (IsS86.apart (show IsS86 w0 _ g s0_0 t405 t406 from by repeat ((with_reducible exact HI0.out))) z41_ (by decide)) hk (fun _ h => h.2)) (fun _ h => h.1)); replace HK := Aside0.mk (KeepBut.trans z2_ hk (.inl rfl)); replace HB := Aside0.mk (hb); replace HI0 := Aside0.mk (hi); (try clear hb hk hi)) | ((with_reducible refine gate_dst (N := 58) rfl ?_); refine Kd.R_lit k61 _ 61 ?hg (N := 58) ?hd (xs := ([(⟨0, 0⟩ : S61)] : List (S61))) (inner := [.int .i64 0, .int .i64 0]) (ok := fun _ => True) (okp := fun _ => True) ?hr ?hp (fun _ hk => hk) trivial (Below.refl _ _) (Nat.le_refl _) (by simp) ?_; (case hd => rfl); (case hg => rfl); (case hr => exact z19_); (case hp => exact (Reps.c2 (show Kd.M k61 _ _ _ (⟨0, 0⟩ : S61) [.int .i64 0, .int .i64 0] from (k61_mkM _ _ _ (⟨0, 0⟩ : S61) )) (Reps.none _ _))); intro v432 w58 ho59 hb hg_ hnew_; clear hg_ hnew_; (rw [← Ny431.out] at ho59); have HO433 := Aside0.mk (Kd.R_lower (Kd.R_new' ho59 (Kd.R_lt z41_)) (keep_size (w := w) (g := g) (row := none) z2_)); replace HO401 := Aside0.mk (Kd.R_elder' z41_ (Kd.R_base ho59) hb); replace HK := Aside0.mk (KeepBut.trans z2_ (KeepBut.of_below hb g none) (.inl rfl)); replace HB := Aside0.mk (below_step z4_ hb); replace HI0 := Aside0.mk (IsS86.below z3_ hb); clear hb ho59))
      go_loopg [5] k (fun kq v5 w' => ∃ (x5_1 : List (S61)) (x1001_1 : Int) (x1002_1 : Int), Aside0 (spec_l3Any.l1 kq x5_1 s0_0 x1001_1 x1002_1 = some (r1, r2, r3)) ∧ Aside0 (kq ≤ k) ∧ Aside0 (Kd.R k61 61 w' w.heap.size (fun _ => True) v5 x5_1) ∧ Aside0 (IsS86 w0 w' g s0_0 x1001_1 x1002_1) ∧ Aside0 (KeepBut w w' g none) ∧ Aside0 (Below w0.heap.size w0 w'))
      case atStart => exact ⟨(y431), (t408), (t409), H', ⟨Nat.le_refl _⟩, ⟨by exact Kd.R_mono HO433.out (fun _ hk => trivial)⟩, ⟨z3_⟩, ⟨z2_⟩, ⟨z4_⟩⟩
      case round =>
       clear H'
       obtain ⟨x5_1, x1001_1, x1002_1, HA, HK1, HO_5, HI0, HK, HB⟩ := hrel
       cases gk with
       | zero => exact absurd HA.out (by simp [spec_l3Any.l1])
       | succ k1 =>
        have H := HA.out
        clear HA
        simp only [spec_l3Any.l1] at H
        replace H := Option.bind_eq_some_iff.mp H
        obtain ⟨⟨t434, t435, t436⟩, A600, H⟩ := H
        try dsimp only at H
        have A60 := Aside0.mk A600
        clear A600
        by_cases c61 : (x5_1.length : Int) < (wrap64 (13 + t434))
        ·rw [if_pos c61] at H
         have c61b0 := decide_eq_true c61
         clear c61
         obtain ⟨c62, H⟩ := ifs_ H
         have LMc62 := Aside0.mk c62
         clear c62
         (generalize hy_ : ((x5_1 ++ [(⟨0, (x5_1.length : Int)⟩ : S61)]) : List (S61)) = y437 at H; have Ny437 := Aside0.mk hy_.symm; clear hy_)
         have H' := Aside0.mk H
         clear H
         obtain ⟨Ao63, co63, eo63⟩ := Kd.R_slice HO_5.out
         subst eo63
         go_wp2_with (first | ((with_reducible refine gate_callee (f := 64) rfl ?_); refine goesL_ (some 62) rfl rfl Try.func64 (by kernel_rfl) rfl #[.pointer (some ⟨g, 0, none⟩), .int .i64 2] rfl z1_ ?_; (with_reducible refine (spec_l1Below.calls g s0_0 x1001_1 x1002_1 2 t434 t435 t436 w0 _ ?side1 ?side2 A60.out).mono ?_); (case side1 => exact z3_); (case side2 => exact z4_); rintro e w64 ⟨rfl, hi, hb, hk⟩; refine ⟨_, rfl, ?_⟩; replace HO_5 := Aside0.mk (Kd.R_mono (Kd.R_keep (IsS86.apart (show IsS86 w0 _ g s0_0 x1001_1 x1002_1 from by repeat ((with_reducible exact HI0.out))) z8_ (by decide)) hk (fun _ h => h.2)) (fun _ h => h.1)); replace HK := Aside0.mk (KeepBut.trans z2_ hk (.inl rfl)); replace HB := Aside0.mk (hb); replace HI0 := Aside0.mk (hi); (try clear hb hk hi)) | ((with_reducible refine gate_builtin (b := .append) (xs := #[.tmp 65, .tmp 69]) rfl ?_); at_builtin; refine Kd.R_append k61 w.heap.size rfl (.tmp 65) (.tmp 69) 25 61 (.agg #[(.int .i64 0), (.int .i64 0)]) 16 rfl Try.underlying25 info61 rfl (by decide) (by omega) (.slice Ao63 x5_1.length co63) x5_1 (⟨0, (x5_1.length : Int)⟩ : S61) [.int .i64 0, .int .i64 (x5_1.length : Int)] (fun _ => True) (fun _ => False) rfl rfl ?aP (fun _ hk => hk.elim) ?aF ?aO (Below.refl _ _) ?aS ?aL ?_; (case aP => exact k61_mkM _ _ _ (⟨0, (x5_1.length : Int)⟩ : S61)); (case aF => exact z206_); (case aO => exact z81_); (case aS => exact z59_); (case aL => have := LMc62.out; omega); intro v438 w65 ho hb hg hat; rw [← Ny437.out] at ho; replace HB := Aside0.mk (below_weaken z4_ HL.out hb); replace HI0 := Aside0.mk (IsS86.grown z3_ hg (IsS86.own_ne HI0.out HO_5.out (by decide))); replace HK := Aside0.mk (KeepBut.trans z2_ (KeepBut.of_grown hg g) (Kd.R_base2 HO_5.out)); have HO439 := Aside0.mk (ho); clear HO_5; clear ho hb hg hat))
         go_roundg k1
         case measure => have := HK1.out; omega
         case rel => exact ⟨(y437), (t435), (t436), H', ⟨z143_⟩, ⟨by exact HO439.out⟩, ⟨z3_⟩, ⟨z2_⟩, ⟨z4_⟩⟩
        ·rw [if_neg c61] at H
         have c61b0 := decide_eq_false c61
         clear c61
         simp only [Option.some.injEq, Prod.mk.injEq] at H
         obtain ⟨rfl, rfl, rfl⟩ := H
         obtain ⟨Ao66, co66, eo66⟩ := Kd.R_slice HO_5.out
         subst eo66
         go_wp2_with (((with_reducible refine gate_callee (f := 64) rfl ?_); refine goesL_ (some 62) rfl rfl Try.func64 (by kernel_rfl) rfl #[.pointer (some ⟨g, 0, none⟩), .int .i64 2] rfl z1_ ?_; (with_reducible refine (spec_l1Below.calls g s0_0 x1001_1 x1002_1 2 t434 t435 t436 w0 _ ?side1 ?side2 A60.out).mono ?_); (case side1 => exact z3_); (case side2 => exact z4_); rintro e w67 ⟨rfl, hi, hb, hk⟩; refine ⟨_, rfl, ?_⟩; replace HO_5 := Aside0.mk (Kd.R_mono (Kd.R_keep (IsS86.apart (show IsS86 w0 _ g s0_0 x1001_1 x1002_1 from by repeat ((with_reducible exact HI0.out))) z8_ (by decide)) hk (fun _ h => h.2)) (fun _ h => h.1)); replace HK := Aside0.mk (KeepBut.trans z2_ hk (.inl rfl)); replace HB := Aside0.mk (hb); replace HI0 := Aside0.mk (hi); (try clear hb hk hi)))
         go_ret
         exact ⟨_, z6_, Kd.Q_of_R z8_, z3_, z4_, z2_⟩
     ·rw [if_neg c53] at H
      have c53b0 : (t407 == 4) = false := beq_eq_false_iff_ne.mpr c53
      have c53b1 : (t407 != 4) = true := bne_iff_ne.mpr c53
      simp only [Option.some.injEq, Prod.mk.injEq] at H
      obtain ⟨rfl, rfl, rfl⟩ := H
      go_enter Try.func50, Try.ntmps50
      go_wp2_with (first | ((with_reducible refine gate_callee (f := 53) rfl ?_); refine goesL_ (some 9) rfl rfl Try.func53 (by kernel_rfl) rfl #[.pointer (some ⟨g, 0, none⟩), .int .i64 a1] rfl z1_ ?_; (with_reducible refine (spec_l3Tree.calls k g s0_0 s0_1 s0_2 a1 t399 t402 t403 w0 _ ?side1 ?side2 A3.out).mono ?_); (case side1 => exact z3_); (case side2 => exact z4_); rintro e w68 ⟨v400, rfl, ho0, hi, hb, hk⟩; refine ⟨_, rfl, ?_⟩; have HO401 := Aside0.mk (Kd.R_lower ho0 (keep_size (w := w) (g := g) (row := none) z2_)); replace HK := Aside0.mk (KeepBut.trans z2_ hk (.inl rfl)); replace HB := Aside0.mk (hb); replace HI0 := Aside0.mk (hi); (try clear hb hk hi ho0); obtain ⟨Ao69, co69, eo69⟩ := Kd.R_slice HO401.out; subst eo69) | ((with_reducible refine gate_callee (f := 64) rfl ?_); refine goesL_ (some 13) rfl rfl Try.func64 (by kernel_rfl) rfl #[.pointer (some ⟨g, 0, none⟩), .int .i64 (t399.length : Int)] rfl z1_ ?_; (with_reducible refine (spec_l1Below.calls g s0_0 t402 t403 (t399.length : Int) t404 t405 t406 w0 _ ?side1 ?side2 A4.out).mono ?_); (case side1 => exact z3_); (case side2 => exact z4_); rintro e w70 ⟨rfl, hi, hb, hk⟩; refine ⟨_, rfl, ?_⟩; replace HO401 := Aside0.mk (Kd.R_mono (Kd.R_keep (IsS86.apart (show IsS86 w0 _ g s0_0 t402 t403 from by repeat ((with_reducible exact HI0.out))) z41_ (by decide)) hk (fun _ h => h.2)) (fun _ h => h.1)); replace HK := Aside0.mk (KeepBut.trans z2_ hk (.inl rfl)); replace HB := Aside0.mk (hb); replace HI0 := Aside0.mk (hi); (try clear hb hk hi)) | ((with_reducible refine gate_callee (f := 64) rfl ?_); refine goesL_ (some 15) rfl rfl Try.func64 (by kernel_rfl) rfl #[.pointer (some ⟨g, 0, none⟩), .int .i64 18] rfl z1_ ?_; (with_reducible refine (spec_l1Below.calls g s0_0 t405 t406 18 t407 t408 t409 w0 _ ?side1 ?side2 A5.out).mono ?_); (case side1 => exact z3_); (case side2 => exact z4_); rintro e w71 ⟨rfl, hi, hb, hk⟩; refine ⟨_, rfl, ?_⟩; replace HO401 := Aside0.mk (Kd.R_mono (Kd.R_keep (IsS86.apart (show IsS86 w0 _ g s0_0 t405 t406 from by repeat ((with_reducible exact HI0.out))) z41_ (by decide)) hk (fun _ h => h.2)) (fun _ h => h.1)); replace HK := Aside0.mk (KeepBut.trans z2_ hk (.inl rfl)); replace HB := Aside0.mk (hb); replace HI0 := Aside0.mk (hi); (try clear hb hk hi)))
      go_ret
      exact ⟨_, z6_, Kd.Q_of_R z41_, z3_, z4_, z2_⟩

/-! ### spec_l3Copy: function 72 -/
def spec_l3Copy.f (l0 : List (S61)) : Option ((List (S61))) := (some (([] : List (S61)) : List (S61))).bind fun y440 => (if y440.length + l0.length < 8796093022208 then (some (y440 ++ l0)) else (none))
set_option maxHeartbeats 8000000 in
set_option maxRecDepth 100000 in
theorem spec_l3Copy.calls (A0 : Option Addr) (c0 : Nat) (l0 : List (S61)) (r : List (S61)) (w : World) (hr0 : Kd.C k61 w A0 l0.length l0) (hc0 : l0.length ≤ c0) (h : spec_l3Copy.f l0 = some r) :
  Calls Try.prog 72 #[.slice A0 l0.length c0] w fun e w' => ∃ v0_ : Value, e = .returned (v0_) ∧ Kd.R k61 61 w' w.heap.size (fun _ => True) v0_ r ∧ Below w.heap.size w w' := by
 have HR0 := Aside0.mk hr0
 have HC0 := Aside0.mk hc0
 clear hr0 hc0
 have HB := Aside0.mk (Below.refl w.heap.size w)
 have H : ((some (([] : List (S61)) : List (S61))).bind fun y440 => (if y440.length + l0.length < 8796093022208 then (some (y440 ++ l0)) else (none))) = some r := h
 clear h
 ((with_reducible have hz_ := gy_ H); obtain ⟨y440, Ny440, H⟩ := hz_)
 obtain ⟨c2, H⟩ := ifs_ H
 have LMc2 := Aside0.mk c2
 clear c2
 (generalize hy_ : ((y440 ++ l0) : List (S61)) = y443 at H; have Ny443 := Aside0.mk hy_.symm; clear hy_)
 obtain rfl := Option.some.inj H
 go_enter Try.func72, Try.ntmps72
 go_wp2_with (first | ((with_reducible refine gate_dst (N := 3) rfl ?_); refine Kd.R_lit k61 _ 61 ?hg (N := 3) ?hd (xs := ([] : List (S61))) (inner := []) (ok := fun _ => True) (okp := fun _ => True) ?hr ?hp (fun _ hk => hk) trivial (Below.refl _ _) (Nat.le_refl _) (by simp) ?_; (case hd => rfl); (case hg => rfl); (case hr => exact z19_); (case hp => exact z212_); intro v441 w3 ho4 hb hg_ hnew_; clear hg_ hnew_; (rw [← Ny440.out] at ho4); have HO442 := Aside0.mk (Kd.R_lower ho4 (below_size z0_)); replace HB := Aside0.mk (below_step z0_ hb); clear hb ho4) | ((with_reducible refine gate_builtin (b := .append) (xs := #[.tmp 3, .tmp 4]) rfl ?_); at_builtin; refine Kd.R_append_rows k61 (w0 := w) w.heap.size rfl (.tmp 3) (.tmp 4) 25 61 (.agg #[(.int .i64 0), (.int .i64 0)]) 16 rfl Try.underlying25 info61 rfl (by decide) (by omega) v441 y440 l0 _ _ _ (fun _ => True) (fun _ => False) rfl rfl ?aO ?aR (fun _ _ h => h) (fun _ h => h.elim) ?aF ?aB ?aS ?aL ?_; (case aR => exact z7_); (case aB => exact z84_); (case aF => exact z206_); (case aO => exact (by exact HO442.out)); (case aS => exact z78_); (case aL => have := LMc2.out; omega); intro v444 w5 ho hb hg hat; rw [← Ny443.out] at ho; replace HB := Aside0.mk (hb); have HO445 := Aside0.mk (ho); clear HO442; clear ho hb hg hat))
 go_ret
 exact ⟨_, z6_, by exact HO445.out, z0_⟩

end Go.Proofs.Ytbmkobanpakohaa.PFnMirrored
