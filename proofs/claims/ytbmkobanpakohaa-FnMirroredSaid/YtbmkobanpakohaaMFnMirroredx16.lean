/- Laid by a program of this session out of the kit's print for the law FnMirrored: what it says of the machine is proved here, function by function; each contract under the conditions that it names. -/
import Derived.Test.YtbmkobanpakohaaMFnMirroredx0
import Derived.Test.YtbmkobanpakohaaMFnMirroredx2
import Derived.Test.YtbmkobanpakohaaMFnMirroredx6
import Derived.Test.YtbmkobanpakohaaMFnMirroredx7
import Derived.Test.YtbmkobanpakohaaMFnMirroredx8
import Derived.Test.YtbmkobanpakohaaMFnMirroredx13
import Derived.Test.YtbmkobanpakohaaMFnMirroredx14
import Derived.Test.YtbmkobanpakohaaMFnMirroredx15
namespace Go.Proofs.Ytbmkobanpakohaa.PFnMirrored
open Go.RowKit Go.Proofs.YtbmkobanpakohaaW.PrintWords Go.Proofs.YtbmkobanpakohaaW.PrintLast Go.Proofs.YtbmkobanpakohaaW.PrintMore
attribute [local go_sem] max2_int min2_int max_two min_two max_three min_three max_four min_four   -- for this text's walks alone
set_option linter.unusedVariables false
set_option linter.unusedSimpArgs false

/-! ### laws_FnMirrored: function 8 -/
def laws_FnMirrored.j0 : Nat → List (S61) → List (S61) → List (S61) → List (S61) → Bool → List Int → List Int → List Int → Option (Bool)
 | 0, _, _, _, _, _, _, _, _ => none
 | k + 1, x3, x4, x6, x7, x27, x637000, x637001, x637002 => if x27 = true then (if (x6.length : Int) = 0 then (some true) else (some ((x7.length : Int) == 0))) else ((impl_RootDist.f k x6 x7 x637000 x637001 x637002).bind fun t645 => ((impl_RootDist.f k x3 x4 x637000 x637001 x637002).bind fun t646 => (if t645 = t646 then ((impl_Mirror.f k x6).bind fun t647 => ((spec_SameTree.f k t647 x3).bind fun t650 => (if t650 = true then ((spec_TreeOk.f k x6).bind fun t651 => (if t651 = true then ((impl_LeavesOf.f k x6).bind fun t652 => ((spec_LeavesOf.f k x3).bind fun t653 => (if t652 = t653 then ((impl_HeightOf.f k x6).bind fun t654 => ((spec_HeightOf.f k x3).bind fun t655 => (some (t654 == t655)))) else (some false)))) else (some false))) else (some false)))) else (some false))))
def laws_FnMirrored.f (k : Nat) (l0 : List Int) : Option (Bool) := (laws_big.f l0).bind fun t620 => (if t620 = true then (some true) else ((spec_DrawRootDist.f k l0).bind fun bt621 => ((impl_Mirror.f k bt621.1).bind fun t637 => ((impl_Mirror.f k bt621.2.1).bind fun t640 => ((spec_TreeOk.f k bt621.1).bind fun t643 => (if t643 = true then ((spec_TreeOk.f k bt621.2.1).bind fun t644 => (laws_FnMirrored.j0 k bt621.1 bt621.2.1 t637 t640 (!t644) bt621.2.2.1 bt621.2.2.2.1 bt621.2.2.2.2)) else (laws_FnMirrored.j0 k bt621.1 bt621.2.1 t637 t640 true bt621.2.2.1 bt621.2.2.2.1 bt621.2.2.2.2)))))))
def laws_FnMirrored.T8 : Bool × List (List Nat × List Nat) := (true, [([], []), ([], []), ([], []), ([0, 1, 2], [0, 1, 2]), ([], []), ([], []), ([], []), ([4, 5, 6, 3], [4, 5, 6]), ([3, 7], [3, 7]), ([8, 7], [8]), ([9], [9]), ([10, 9, 9], [9, 10]), ([9], [9]), ([11, 12, 11, 9], [9, 11, 12]), ([9, 13], [9, 13]), ([14, 13], [14]), ([15], [15]), ([16, 15, 15], [15, 16]), ([15, 17], [15, 17]), ([18, 17], [18]), ([19], [19]), ([20, 19, 19], [19, 20]), ([19], [19]), ([22, 21, 19], [19, 22]), ([21, 23, 19], [19, 21, 23]), ([19, 24], [19, 24]), ([25, 23], [25]), ([26], [26]), ([27, 26, 26], [26, 27]), ([26], [26]), ([29, 28, 26], [26, 29]), ([28, 30, 26], [26, 28, 30]), ([26, 31], [26, 31]), ([32, 30, 0, 1, 2, 3, 4, 5, 6, 7, 8, 9, 10, 11, 12, 13, 14, 15, 16, 17, 18, 19, 20, 21, 22, 23, 24, 25, 26, 27, 28, 29, 30, 31, 32], [32])])
def laws_FnMirrored.B8 : List Nat := [0, 0, 0, 7, 0, 0, 0, 127, 255, 511, 1023, 2047, 1023, 8191, 16383, 32767, 65535, 131071, 262143, 524287, 1048575, 2097151, 1048575, 8388607, 16777215, 33554431, 67108863, 134217727, 268435455, 134217727, 1073741823, 2147483647, 4294967295, 8589934591]
theorem laws_FnMirrored.tab8 : rtab .any (opsOf Try.f8 8) = laws_FnMirrored.T8 := by kernel_rfl
theorem laws_FnMirrored.bits8 : waitsOk laws_FnMirrored.T8.2 laws_FnMirrored.B8 = true := by kernel_rfl
set_option maxHeartbeats 8000000 in
set_option maxRecDepth 100000 in
theorem laws_FnMirrored.calls (k : Nat) (A0 : Option Addr) (c0 : Nat) (l0 : List Int) (r : Bool) (w : World) (hr0 : Kd.C (Kd.int .u8) w A0 l0.length l0) (hc0 : l0.length ≤ c0) (h : laws_FnMirrored.f k l0 = some r) :
  Calls Try.prog 8 #[.slice A0 l0.length c0] w fun e w' => e = .returned (.bool r) ∧ Below w.heap.size w w' := by
 have hu38 := Try.underlying38
 have HR0 := Aside0.mk hr0
 have HC0 := Aside0.mk hc0
 clear hr0 hc0
 have HB := Aside0.mk (Below.refl w.heap.size w)
 have H : ((laws_big.f l0).bind fun t620 => (if t620 = true then (some true) else ((spec_DrawRootDist.f k l0).bind fun bt621 => ((impl_Mirror.f k bt621.1).bind fun t637 => ((impl_Mirror.f k bt621.2.1).bind fun t640 => ((spec_TreeOk.f k bt621.1).bind fun t643 => (if t643 = true then ((spec_TreeOk.f k bt621.2.1).bind fun t644 => (laws_FnMirrored.j0 k bt621.1 bt621.2.1 t637 t640 (!t644) bt621.2.2.1 bt621.2.2.2.1 bt621.2.2.2.2)) else (laws_FnMirrored.j0 k bt621.1 bt621.2.1 t637 t640 true bt621.2.2.1 bt621.2.2.2.1 bt621.2.2.2.2)))))))) = some r := h
 clear h
 obtain ⟨t620, A2, H⟩ := bnd_ H
 by_cases c3 : t620 = true
 ·subst c3
  replace H := ift_ H
  obtain rfl := Option.some.inj H
  go_enter Try.func8, Try.ntmps8
  go_wp2_with (((with_reducible refine gate_callee (f := 24) rfl ?_); refine goesL_ (some 9) rfl rfl Try.func24 (by kernel_rfl) rfl #[.slice A0 l0.length c0] rfl z1_ ?_; (with_reducible refine (laws_big.calls _ _ l0 true _ ?side1 ?side2 A2.out).mono ?_); (case side1 => exact z22_); (case side2 => exact HC0.out); rintro e w' ⟨rfl, ⟨nd, rfl⟩⟩; refine ⟨_, rfl, ?_⟩))
  go_ret
  exact ⟨z6_, z0_⟩
 ·replace c3 := Bool.eq_false_iff.mpr c3
  subst c3
  replace H := iff_ H
  replace H := Option.bind_eq_some_iff.mp H
  obtain ⟨⟨t621, t624, t627, t630, t633⟩, A40, H⟩ := H
  try dsimp only at H
  have A4 := Aside0.mk A40
  clear A40
  obtain ⟨t637, A5, H⟩ := bnd_ H
  obtain ⟨t640, A6, H⟩ := bnd_ H
  have HC7 := Aside0.mk H
  clear H
  go_enter Try.func8, Try.ntmps8
  go_upto_region 6 with (first | ((with_reducible refine gate_callee (f := 24) rfl ?_); refine goesL_ (some 9) rfl rfl Try.func24 (by kernel_rfl) rfl #[.slice A0 l0.length c0] rfl z1_ ?_; (with_reducible refine (laws_big.calls _ _ l0 false _ ?side1 ?side2 A2.out).mono ?_); (case side1 => exact z22_); (case side2 => exact HC0.out); rintro e w' ⟨rfl, ⟨nd, rfl⟩⟩; refine ⟨_, rfl, ?_⟩) | ((with_reducible refine gate_callee (f := 31) rfl ?_); refine goesL_ (some 12) rfl rfl Try.func31 (by kernel_rfl) rfl #[.slice A0 l0.length c0] rfl z1_ ?_; (with_reducible refine (spec_DrawRootDist.calls k _ _ l0 t621 t624 t627 t630 t633 _ ?side1 ?side2 A4.out).mono ?_); (case side1 => exact z22_); (case side2 => exact HC0.out); rintro e w8 ⟨v622, v625, v628, v631, v634, rfl, ho0, ho1, ho2, ho3, ho4, hb⟩; refine ⟨_, rfl, ?_⟩; have HO623 := Aside0.mk (Kd.Q_lower ho0 (below_size z0_)); have HO626 := Aside0.mk (Kd.R_lower ho1 (below_size z0_)); have HO629 := Aside0.mk (Kd.R_lower ho2 (below_size z0_)); have HO632 := Aside0.mk (Kd.Q_lower ho3 (below_size z0_)); have HO635 := Aside0.mk (Kd.R_lower ho4 (below_size z0_)); replace HB := Aside0.mk (below_step z0_ hb); (try clear hb ho0 ho1 ho2 ho3 ho4)) | ((with_reducible refine gate_dst (N := 5) rfl ?_); (try (refine gate_guard (by rfl) ?_; dsimp only)); refine box_event ?hg (N := 5) ?hd (cs := #[.slice none 0 0, .slice none 0 0, .slice none 0 0]) (t := 38) ?hr ?_; (case hd => rfl); (case hg => rfl); (case hr => exact z19_); intro gb636 hg w9 hbox hb; replace HO623 := Aside0.mk (Kd.Q_below z139_ hb); replace HO626 := Aside0.mk (Kd.R_below z140_ hb); replace HO629 := Aside0.mk (Kd.R_below z121_ hb); replace HO632 := Aside0.mk (Kd.Q_below z122_ hb); replace HO635 := Aside0.mk (Kd.R_below z123_ hb); have BK636 := Aside0.mk (hbox); have GW636 := Aside0.mk ((by rw [hg]; exact (below_size z0_) : w.heap.size ≤ gb636)); have GE636 := Aside0.mk ((by rw [hg]; exact (below_size z0_) : w.heap.size ≤ gb636)); replace HB := Aside0.mk (below_step z0_ hb); clear hb hbox hg; obtain ⟨Ao10, co10, eo10⟩ := Kd.R_slice HO629.out; subst eo10; obtain ⟨hcz11_0, hcz11_1, hcz11_2, hfz11_0, hfz11_1, hfz11_2⟩ := bx3_ BK636.out; obtain ⟨Ao12, co12, eo12, _⟩ := Kd.Q_slice HO632.out; subst eo12; obtain ⟨Ao13, co13, eo13⟩ := Kd.R_slice HO635.out; subst eo13; obtain ⟨Ao14, co14, eo14, _⟩ := Kd.Q_slice HO623.out; subst eo14) | ((with_reducible refine gate_callee (f := 32) rfl ?_); refine goesL_ (some 17) rfl rfl Try.func32 (by kernel_rfl) rfl #[.slice Ao14 t621.length co14] rfl z1_ ?_; (with_reducible refine (impl_Mirror.calls k _ _ t621 t637 _ ?side1 ?side2 A5.out).mono ?_); (case side1 => refine (Kd.Q_reads' (e := 61) (base := w.heap.size) (ok := fun k_ => some k_ ≠ (v625 : Value).ownBlock) (n := t621.length) (c := co14) ?_).2.2; exact z71_); (case side2 => exact (Kd.Q_reads' HO623.out).2.1); rintro e w15 ⟨v638, rfl, ho0, hb⟩; refine ⟨_, rfl, ?_⟩; replace HO629 := Aside0.mk (Kd.R_below (by exact (Kd.R_mono (Kd.R_far (p := ⟨gb636, 2, none⟩) (Kd.R_far (p := ⟨gb636, 1, none⟩) (Kd.R_far (p := ⟨gb636, 0, none⟩) (Kd.R_types HO629.out BK636.out (by decide)) (fun _ hk => hk.2) (.slice Ao10 t627.length co10)) (fun _ hk => hk.2) (.slice Ao12 t630.length co12)) (fun _ hk => hk.2) (.slice Ao13 t633.length co13)) (fun _ h_ => h_.1))) hb); replace HO632 := Aside0.mk (Kd.Q_below (by exact (Kd.Q_mono (Kd.Q_far (p := ⟨gb636, 2, none⟩) (Kd.Q_far (p := ⟨gb636, 1, none⟩) (Kd.Q_far (p := ⟨gb636, 0, none⟩) (Kd.Q_types HO632.out BK636.out (by decide)) (fun _ hk => hk.2) (.slice Ao10 t627.length co10)) (fun _ hk => hk.2) (.slice Ao12 t630.length co12)) (fun _ hk => hk.2) (.slice Ao13 t633.length co13)) (fun _ h_ => h_.1))) hb); replace HO635 := Aside0.mk (Kd.R_below (by exact (Kd.R_mono (Kd.R_far (p := ⟨gb636, 2, none⟩) (Kd.R_far (p := ⟨gb636, 1, none⟩) (Kd.R_far (p := ⟨gb636, 0, none⟩) (Kd.R_types HO635.out BK636.out (by decide)) (fun _ hk => hk.2) (.slice Ao10 t627.length co10)) (fun _ hk => hk.2) (.slice Ao12 t630.length co12)) (fun _ hk => hk.2) (.slice Ao13 t633.length co13)) (fun _ h_ => h_.1))) hb); have HO639 := Aside0.mk (Kd.R_lower (Kd.R_new' (Kd.R_new' ho0 (Kd.Q_lt z71_)) (Kd.R_lt z96_)) (below_size z9_)); replace HO623 := Aside0.mk (Kd.Q_elder' z71_ (Kd.R_base ho0) hb); replace HO626 := Aside0.mk (Kd.R_elder' z96_ (Kd.R_base ho0) hb); replace BK636 := Aside0.mk (blk_below (g := gb636) (o := .cells #[.slice Ao10 t627.length co10, .slice Ao12 t630.length co12, .slice Ao13 t633.length co13] 38 (0, 0)) (by refine blk_put (cs := #[.slice Ao10 t627.length co10, .slice Ao12 t630.length co12, .slice none 0 0]) ?_ 2 _ rfl; refine blk_put (cs := #[.slice Ao10 t627.length co10, .slice none 0 0, .slice none 0 0]) ?_ 1 _ rfl; refine blk_put (cs := #[.slice none 0 0, .slice none 0 0, .slice none 0 0]) ?_ 0 _ rfl; exact BK636.out) hb); replace HB := Aside0.mk (below_step z9_ hb); (try clear hb ho0); obtain ⟨Ao16, co16, eo16⟩ := Kd.R_slice HO626.out; subst eo16) | ((with_reducible refine gate_callee (f := 32) rfl ?_); refine goesL_ (some 19) rfl rfl Try.func32 (by kernel_rfl) rfl #[.slice Ao16 t624.length co16] rfl z1_ ?_; (with_reducible refine (impl_Mirror.calls k _ _ t624 t640 _ ?side1 ?side2 A6.out).mono ?_); (case side1 => exact z191_); (case side2 => exact (Kd.R_reads' HO626.out).2.1); rintro e w17 ⟨v641, rfl, ho0, hb⟩; refine ⟨_, rfl, ?_⟩; replace HO629 := Aside0.mk (Kd.R_below z121_ hb); replace HO632 := Aside0.mk (Kd.Q_below z122_ hb); replace HO635 := Aside0.mk (Kd.R_below z123_ hb); have HO642 := Aside0.mk (Kd.R_lower (Kd.R_new' (Kd.R_new' (Kd.R_new' ho0 (Kd.Q_lt z139_)) (Kd.R_lt z140_)) (Kd.R_lt z157_)) (below_size z9_)); replace HO623 := Aside0.mk (Kd.Q_elder' z139_ (Kd.R_base ho0) hb); replace HO626 := Aside0.mk (Kd.R_elder' z140_ (Kd.R_base ho0) hb); replace HO639 := Aside0.mk (Kd.R_elder' z157_ (Kd.R_base ho0) hb); replace BK636 := Aside0.mk (blk_below z20_ hb); replace HB := Aside0.mk (below_step z9_ hb); (try clear hb ho0)))
  go_cut [27] (fun v27 wc => ∃ (kq : Nat) (x27_6 : Bool), v27 = .bool x27_6 ∧ Aside0 (laws_FnMirrored.j0 kq t621 t624 t637 t640 x27_6 t627 t630 t633 = some r) ∧ Aside0 (kq ≤ k) ∧ Aside0 (Kd.Q k61 61 wc w.heap.size (fun k_ => some k_ ≠ ((.slice Ao16 t624.length co16) : Value).ownBlock ∧ some k_ ≠ (v638 : Value).ownBlock ∧ some k_ ≠ (v641 : Value).ownBlock) (.slice Ao14 t621.length co14) t621) ∧ Aside0 (Kd.R k61 61 wc w.heap.size (fun k_ => some k_ ≠ ((.slice Ao14 t621.length co14) : Value).ownBlock ∧ some k_ ≠ (v638 : Value).ownBlock ∧ some k_ ≠ (v641 : Value).ownBlock) (.slice Ao16 t624.length co16) t624) ∧ Aside0 (Kd.R k61 61 wc w.heap.size (fun k_ => some k_ ≠ ((.slice Ao14 t621.length co14) : Value).ownBlock ∧ some k_ ≠ ((.slice Ao16 t624.length co16) : Value).ownBlock ∧ some k_ ≠ (v641 : Value).ownBlock) v638 t637) ∧ Aside0 (Kd.R k61 61 wc w.heap.size (fun k_ => some k_ ≠ ((.slice Ao14 t621.length co14) : Value).ownBlock ∧ some k_ ≠ ((.slice Ao16 t624.length co16) : Value).ownBlock ∧ some k_ ≠ (v638 : Value).ownBlock) v641 t640) ∧ Aside0 (Kd.R (Kd.int .i64) 3 wc w.heap.size (fun k_ => some k_ ≠ ((.slice Ao12 t630.length co12) : Value).ownBlock ∧ some k_ ≠ ((.slice Ao13 t633.length co13) : Value).ownBlock) (.slice Ao10 t627.length co10) t627) ∧ Aside0 (Kd.Q (Kd.int .i64) 3 wc w.heap.size (fun k_ => some k_ ≠ ((.slice Ao10 t627.length co10) : Value).ownBlock ∧ some k_ ≠ ((.slice Ao13 t633.length co13) : Value).ownBlock) (.slice Ao12 t630.length co12) t630) ∧ Aside0 (Kd.R (Kd.int .i64) 3 wc w.heap.size (fun k_ => some k_ ≠ ((.slice Ao10 t627.length co10) : Value).ownBlock ∧ some k_ ≠ ((.slice Ao12 t630.length co12) : Value).ownBlock) (.slice Ao13 t633.length co13) t633) ∧ Aside0 (wc.heap[gb636]? = some (.cells #[(.slice Ao10 t627.length co10), (.slice Ao12 t630.length co12), (.slice Ao13 t633.length co13)] 38 (0, 0))) ∧ Aside0 (Below w.heap.size w wc))
  case first =>
   have H := HC7.out
   clear HC7
   obtain ⟨t643, A18, H⟩ := bnd_ H
   by_cases c19 : t643 = true
   ·subst c19
    replace H := ift_ H
    obtain ⟨t644, A20, H⟩ := bnd_ H
    have H' := Aside0.mk H
    clear H
    go_wp2_with (first | ((with_reducible refine gate_callee (f := 28) rfl ?_); refine goesL_ (some 21) rfl rfl Try.func28 (by kernel_rfl) rfl #[.slice Ao14 t621.length co14] rfl z1_ ?_; (with_reducible refine (spec_TreeOk.calls k _ _ t621 true _ ?side1 ?side2 A18.out).mono ?_); (case side1 => exact z192_); (case side2 => exact (Kd.Q_reads' HO623.out).2.1); rintro e w21 ⟨rfl, hb⟩; refine ⟨_, rfl, ?_⟩; replace HO623 := Aside0.mk (Kd.Q_below z139_ hb); replace HO626 := Aside0.mk (Kd.R_below z140_ hb); replace HO629 := Aside0.mk (Kd.R_below z121_ hb); replace HO632 := Aside0.mk (Kd.Q_below z122_ hb); replace HO635 := Aside0.mk (Kd.R_below z123_ hb); replace HO639 := Aside0.mk (Kd.R_below z157_ hb); replace HO642 := Aside0.mk (Kd.R_below z196_ hb); replace BK636 := Aside0.mk (blk_below z20_ hb); replace HB := Aside0.mk (below_step z9_ hb); (try clear hb)) | (go_at_call 28; (with_reducible refine (spec_TreeOk.calls k _ _ t624 t644 _ ?side1 ?side2 A20.out).mono ?_); (case side1 => exact z191_); (case side2 => exact (Kd.R_reads' HO626.out).2.1); rintro e w22 ⟨rfl, hb⟩; replace HO623 := Aside0.mk (Kd.Q_below z139_ hb); replace HO626 := Aside0.mk (Kd.R_below z140_ hb); replace HO629 := Aside0.mk (Kd.R_below z121_ hb); replace HO632 := Aside0.mk (Kd.Q_below z122_ hb); replace HO635 := Aside0.mk (Kd.R_below z123_ hb); replace HO639 := Aside0.mk (Kd.R_below z157_ hb); replace HO642 := Aside0.mk (Kd.R_below z196_ hb); replace BK636 := Aside0.mk (blk_below z20_ hb); replace HB := Aside0.mk (below_step z9_ hb); (try clear hb)))
    go_meet
    case rel => exact ⟨_, (!t644), z10_, H', ⟨z152_⟩, ⟨z204_⟩, ⟨z205_⟩, ⟨z199_⟩, ⟨z200_⟩, ⟨z121_⟩, ⟨z122_⟩, ⟨z123_⟩, ⟨z20_⟩, ⟨z9_⟩⟩
   ·replace c19 := Bool.eq_false_iff.mpr c19
    subst c19
    replace H := iff_ H
    have H' := Aside0.mk H
    clear H
    go_wp2_with (((with_reducible refine gate_callee (f := 28) rfl ?_); refine goesL_ (some 21) rfl rfl Try.func28 (by kernel_rfl) rfl #[.slice Ao14 t621.length co14] rfl z1_ ?_; (with_reducible refine (spec_TreeOk.calls k _ _ t621 false _ ?side1 ?side2 A18.out).mono ?_); (case side1 => exact z192_); (case side2 => exact (Kd.Q_reads' HO623.out).2.1); rintro e w23 ⟨rfl, hb⟩; refine ⟨_, rfl, ?_⟩; replace HO623 := Aside0.mk (Kd.Q_below z139_ hb); replace HO626 := Aside0.mk (Kd.R_below z140_ hb); replace HO629 := Aside0.mk (Kd.R_below z121_ hb); replace HO632 := Aside0.mk (Kd.Q_below z122_ hb); replace HO635 := Aside0.mk (Kd.R_below z123_ hb); replace HO639 := Aside0.mk (Kd.R_below z157_ hb); replace HO642 := Aside0.mk (Kd.R_below z196_ hb); replace BK636 := Aside0.mk (blk_below z20_ hb); replace HB := Aside0.mk (below_step z9_ hb); (try clear hb)))
    go_meet
    case rel => exact ⟨_, (true), z10_, H', ⟨z152_⟩, ⟨z204_⟩, ⟨z205_⟩, ⟨z199_⟩, ⟨z200_⟩, ⟨z121_⟩, ⟨z122_⟩, ⟨z123_⟩, ⟨z20_⟩, ⟨z9_⟩⟩
  case rest =>
   clear HC7
   obtain ⟨kq, x27_6, rfl, HA, HJ6, HO_3, HO_4, HO_6, HO_7, HO_637000, HO_637001, HO_637002, BK636, HB⟩ := hcut
   cases kq with
   | zero => exact absurd HA.out (by simp [laws_FnMirrored.j0])
   | succ kj6 =>
    have H := HA.out
    clear HA
    simp only [laws_FnMirrored.j0] at H
    by_cases c24 : x27_6 = true
    ·subst c24
     replace H := ift_ H
     by_cases c25 : (t637.length : Int) = 0
     ·rw [if_pos c25] at H
      have c25b0 : ((t637.length : Int) == 0) = true := beq_iff_eq.mpr c25
      have c25b1 : ((t637.length : Int) != 0) = false := bne_eq_false_iff_eq.mpr c25
      clear c25
      obtain rfl := Option.some.inj H
      obtain ⟨Ao26, co26, eo26⟩ := Kd.R_slice HO_6.out
      subst eo26
      go_wp2
      go_ret
      exact ⟨z6_, z9_⟩
     ·rw [if_neg c25] at H
      have c25b0 : ((t637.length : Int) == 0) = false := beq_eq_false_iff_ne.mpr c25
      have c25b1 : ((t637.length : Int) != 0) = true := bne_iff_ne.mpr c25
      have c25b2 : ¬ (t637 = []) := fun h_ => c25 (by rw [h_]; rfl)
      obtain rfl := Option.some.inj H
      obtain ⟨Ao27, co27, eo27⟩ := Kd.R_slice HO_6.out
      subst eo27
      obtain ⟨Ao28, co28, eo28⟩ := Kd.R_slice HO_7.out
      subst eo28
      go_wp2
      go_ret
      exact ⟨z6_, z9_⟩
    ·replace c24 := Bool.eq_false_iff.mpr c24
     subst c24
     replace H := iff_ H
     obtain ⟨t645, A29, H⟩ := bnd_ H
     obtain ⟨t646, A30, H⟩ := bnd_ H
     by_cases c31 : t645 = t646
     ·rw [if_pos c31] at H
      have c31b0 : (t645 == t646) = true := beq_iff_eq.mpr c31
      have c31b1 : (t645 != t646) = false := bne_eq_false_iff_eq.mpr c31
      clear c31
      obtain ⟨t647, A32, H⟩ := bnd_ H
      obtain ⟨t650, A33, H⟩ := bnd_ H
      by_cases c34 : t650 = true
      ·subst c34
       replace H := ift_ H
       obtain ⟨t651, A35, H⟩ := bnd_ H
       by_cases c36 : t651 = true
       ·subst c36
        replace H := ift_ H
        obtain ⟨t652, A37, H⟩ := bnd_ H
        obtain ⟨t653, A38, H⟩ := bnd_ H
        by_cases c39 : t652 = t653
        ·rw [if_pos c39] at H
         have c39b0 : (t652 == t653) = true := beq_iff_eq.mpr c39
         have c39b1 : (t652 != t653) = false := bne_eq_false_iff_eq.mpr c39
         clear c39
         obtain ⟨t654, A40, H⟩ := bnd_ H
         obtain ⟨t655, A41, H⟩ := bnd_ H
         obtain rfl := Option.some.inj H
         try go_wp2
         have n0_ := Aside0.mk (Kd.Q_drew HO_3.out)
         have n1_ := Aside0.mk (Kd.R_drew HO_4.out)
         have n2_ := Aside0.mk (Kd.R_drew HO_6.out)
         have n3_ := Aside0.mk (Kd.R_drew HO_7.out)
         have n4_ := Aside0.mk (Kd.R_drew HO_637000.out)
         have n5_ := Aside0.mk (Kd.Q_drew HO_637001.out)
         have n6_ := Aside0.mk (Kd.R_drew HO_637002.out)
         have n7_ := Aside0.mk (blk_drew BK636.out)
         have n8_ := Aside0.mk (below_drew1 HB.out)
         clear HO_3
         clear HO_4
         clear HO_6
         clear HO_7
         clear HO_637000
         clear HO_637001
         clear HO_637002
         clear BK636
         clear HB
         have HO_3 := n0_
         have HO_4 := n1_
         have HO_6 := n2_
         have HO_7 := n3_
         have HO_637000 := n4_
         have HO_637001 := n5_
         have HO_637002 := n6_
         have BK636 := n7_
         have HB := n8_
         clear n0_ n1_ n2_ n3_ n4_ n5_ n6_ n7_ n8_
         obtain ⟨Ao43, co43, eo43⟩ := Kd.R_slice HO_6.out
         (subst eo43)
         obtain ⟨Ao44, co44, eo44⟩ := Kd.R_slice HO_7.out
         (subst eo44)
         refine start_ (n := 34) (S := fun w' => w'.cell? ⟨gb636, 0, none⟩ = some (.slice Ao10 t627.length co10) ∧ w'.cell? ⟨gb636, 1, none⟩ = some (.slice Ao12 t630.length co12) ∧ w'.cell? ⟨gb636, 2, none⟩ = some (.slice Ao13 t633.length co13)) (ds := []) (fl_ 34 0) (by kernel_rfl) rfl (fl_zero _) ⟨(blk_cell BK636.out 0).trans rfl, (blk_cell BK636.out 1).trans rfl, (blk_cell BK636.out 2).trans rfl⟩ (fun hHeld => ?_); refine with_tabW laws_FnMirrored.tab8 laws_FnMirrored.bits8 (fun HT_ HW_ => ?_)
         generalize wc.drew = w42 at HO_3 HO_4 HO_6 HO_7 HO_637000 HO_637001 HO_637002 BK636 HB hHeld ⊢
         iterate 2 refine zp_ HT_ rfl rfl (by kernel_rfl) (fun _ _ _ h => h) (by rfl) ?_
         refine zpg_ (i := 4) (ra_ [2, 2, 1, 29]) HT_ rfl rfl (by kernel_rfl) (fun _ _ _ h => h) (by rfl) ?_
         refine zpg_ (i := 5) (ra_ [2, 2, 2, 28]) HT_ rfl rfl (by kernel_rfl) (fun _ _ _ h => h) (by rfl) ?_
         refine ztg_ (i := 2) (ra_ [3, 1, 2, 28]) HT_ HW_ rfl rfl (by kernel_rfl) (fun _ _ _ h => h) (by rfl) hHeld ?_ z141_
         refine ztg_ (i := 6) (ra_ [3, 1, 3, 27]) HT_ HW_ rfl rfl (by kernel_rfl) (fun _ _ _ h => h) (by rfl) hHeld ?_ z141_
         refine one_ (i := 3) (N := some 39) (fl_ 34 7) rfl rfl (one_of HT_.out (by kernel_rfl)) (by decide) (fun K hK => ?_)
         refine goes_ Try.func26 (by kernel_rfl) rfl #[.slice Ao43 t637.length co43, .slice Ao44 t640.length co44, .agg #[.slice Ao10 t627.length co10, .slice Ao12 t630.length co12, .slice Ao13 t633.length co13]] (by rfl) rfl rfl z1_ ?_
         with_reducible refine (impl_RootDist.calls kj6 _ _ t637 _ _ t640 _ _ t627 _ _ t630 _ _ t633 t645 _ ?side1 ?side2 ?side3 ?side4 ?side5 ?side6 ?side7 ?side8 ?side9 ?side10 A29.out).mono ?_
         (case side1 => exact z35_)
         (case side2 => exact z169_)
         (case side3 => exact z94_)
         (case side4 => exact z242_)
         (case side5 => exact z54_)
         (case side6 => exact z187_)
         (case side7 => exact z55_)
         (case side8 => exact z188_)
         (case side9 => exact z56_)
         (case side10 => exact z189_)
         rintro e w45 ⟨rfl, hb⟩
         refine ⟨_, rfl, ?_⟩
         have n0_ := Aside0.mk (Kd.Q_below z29_ hb)
         have n1_ := Aside0.mk (Kd.R_below z27_ hb)
         have n2_ := Aside0.mk (Kd.R_below z30_ hb)
         have n3_ := Aside0.mk (Kd.R_below z31_ hb)
         have n4_ := Aside0.mk (Kd.R_below z36_ hb)
         have n5_ := Aside0.mk (Kd.Q_below z37_ hb)
         have n6_ := Aside0.mk (Kd.R_below z38_ hb)
         have n7_ := Aside0.mk (blk_below z20_ hb)
         have n8_ := Aside0.mk (below_step z9_ hb)
         clear HO_3
         clear HO_4
         clear HO_6
         clear HO_7
         clear HO_637000
         clear HO_637001
         clear HO_637002
         clear BK636
         clear HB
         have HO_3 := n0_
         have HO_4 := n1_
         have HO_6 := n2_
         have HO_7 := n3_
         have HO_637000 := n4_
         have HO_637001 := n5_
         have HO_637002 := n6_
         have BK636 := n7_
         have HB := n8_
         clear n0_ n1_ n2_ n3_ n4_ n5_ n6_ n7_ n8_
         (try clear hb)
         refine hK.out _ _ ⟨(blk_cell BK636.out 0).trans rfl, (blk_cell BK636.out 1).trans rfl, (blk_cell BK636.out 2).trans rfl⟩ (fun hHeld => ?_)
         clear hK K
         refine zn_ rfl ?_
         refine one_ (i := 7) (N := some 43) (fl_ 34 8) rfl rfl (one_of HT_.out (by kernel_rfl)) (by decide) (fun K hK => ?_)
         refine goes_ Try.func26 (by kernel_rfl) rfl #[.slice Ao14 t621.length co14, .slice Ao16 t624.length co16, .agg #[.slice Ao10 t627.length co10, .slice Ao12 t630.length co12, .slice Ao13 t633.length co13]] (by rfl) rfl rfl z1_ ?_
         with_reducible refine (impl_RootDist.calls kj6 _ _ t621 _ _ t624 _ _ t627 _ _ t630 _ _ t633 t646 _ ?side1 ?side2 ?side3 ?side4 ?side5 ?side6 ?side7 ?side8 ?side9 ?side10 A30.out).mono ?_
         (case side1 => exact z49_)
         (case side2 => exact z182_)
         (case side3 => exact z95_)
         (case side4 => exact z243_)
         (case side5 => exact z54_)
         (case side6 => exact z187_)
         (case side7 => exact z55_)
         (case side8 => exact z188_)
         (case side9 => exact z56_)
         (case side10 => exact z189_)
         rintro e w46 ⟨rfl, hb⟩
         refine ⟨_, rfl, ?_⟩
         have n0_ := Aside0.mk (Kd.Q_below z29_ hb)
         have n1_ := Aside0.mk (Kd.R_below z27_ hb)
         have n2_ := Aside0.mk (Kd.R_below z30_ hb)
         have n3_ := Aside0.mk (Kd.R_below z31_ hb)
         have n4_ := Aside0.mk (Kd.R_below z36_ hb)
         have n5_ := Aside0.mk (Kd.Q_below z37_ hb)
         have n6_ := Aside0.mk (Kd.R_below z38_ hb)
         have n7_ := Aside0.mk (blk_below z20_ hb)
         have n8_ := Aside0.mk (below_step z9_ hb)
         clear HO_3
         clear HO_4
         clear HO_6
         clear HO_7
         clear HO_637000
         clear HO_637001
         clear HO_637002
         clear BK636
         clear HB
         have HO_3 := n0_
         have HO_4 := n1_
         have HO_6 := n2_
         have HO_7 := n3_
         have HO_637000 := n4_
         have HO_637001 := n5_
         have HO_637002 := n6_
         have BK636 := n7_
         have HB := n8_
         clear n0_ n1_ n2_ n3_ n4_ n5_ n6_ n7_ n8_
         (try clear hb)
         refine hK.out _ _ ⟨(blk_cell BK636.out 0).trans rfl, (blk_cell BK636.out 1).trans rfl, (blk_cell BK636.out 2).trans rfl⟩ (fun hHeld => ?_)
         clear hK K
         refine zn_ rfl ?_
         iterate 3 refine zp_ HT_ rfl rfl (by kernel_rfl) (fun _ _ _ h => h) (by rfl) ?_
         refine zpg_ (i := 12) (ra_ [11, 1, 1, 21]) HT_ rfl rfl (by kernel_rfl) (fun _ _ _ h => h) (by rfl) ?_
         refine one_ (i := 11) (N := some 47) (fl_ 34 13) rfl rfl (one_of HT_.out (by kernel_rfl)) (by decide) (fun K hK => ?_)
         refine goes_ Try.func32 (by kernel_rfl) rfl #[.slice Ao43 t637.length co43] (by rfl) rfl rfl z1_ ?_
         with_reducible refine (impl_Mirror.calls kj6 _ _ t637 t647 _ ?side1 ?side2 A32.out).mono ?_
         (case side1 => exact z35_)
         (case side2 => exact z169_)
         rintro e w47 ⟨v648, rfl, ho0, hb⟩
         refine ⟨_, rfl, ?_⟩
         have n0_ := Aside0.mk (Kd.Q_elder' z29_ (Kd.R_base ho0) hb)
         have n1_ := Aside0.mk (Kd.R_elder' z27_ (Kd.R_base ho0) hb)
         have n2_ := Aside0.mk (Kd.R_elder' z30_ (Kd.R_base ho0) hb)
         have n3_ := Aside0.mk (Kd.R_elder' z31_ (Kd.R_base ho0) hb)
         have n4_ := Aside0.mk (Kd.R_below z36_ hb)
         have n5_ := Aside0.mk (Kd.Q_below z37_ hb)
         have n6_ := Aside0.mk (Kd.R_below z38_ hb)
         have n7_ := Aside0.mk (Kd.R_lower (Kd.R_new' (Kd.R_new' (Kd.R_new' (Kd.R_new' ho0 (Kd.Q_lt z29_)) (Kd.R_lt z27_)) (Kd.R_lt z30_)) (Kd.R_lt z31_)) (below_size z9_))
         have n8_ := Aside0.mk (blk_below z20_ hb)
         have n9_ := Aside0.mk (below_step z9_ hb)
         clear HO_3
         clear HO_4
         clear HO_6
         clear HO_7
         clear HO_637000
         clear HO_637001
         clear HO_637002
         clear BK636
         clear HB
         have HO_3 := n0_
         have HO_4 := n1_
         have HO_6 := n2_
         have HO_7 := n3_
         have HO_637000 := n4_
         have HO_637001 := n5_
         have HO_637002 := n6_
         have HO649 := n7_
         have BK636 := n8_
         have HB := n9_
         clear n0_ n1_ n2_ n3_ n4_ n5_ n6_ n7_ n8_ n9_
         (try clear hb)
         (try clear ho0)
         obtain ⟨Ao48, co48, eo48⟩ := Kd.R_slice HO649.out
         (subst eo48)
         refine hK.out _ _ ⟨(blk_cell BK636.out 0).trans rfl, (blk_cell BK636.out 1).trans rfl, (blk_cell BK636.out 2).trans rfl⟩ (fun hHeld => ?_)
         clear hK K
         refine zn_ rfl ?_
         refine one_ (i := 13) (N := some 49) (fl_ 34 14) rfl rfl (one_of HT_.out (by kernel_rfl)) (by decide) (fun K hK => ?_)
         refine goes_ Try.func29 (by kernel_rfl) rfl #[.slice Ao48 t647.length co48, .slice Ao14 t621.length co14] (by rfl) rfl rfl z1_ ?_
         with_reducible refine (spec_SameTree.calls kj6 _ _ t647 _ _ t621 true _ ?side1 ?side2 ?side3 ?side4 A33.out).mono ?_
         (case side1 => exact z129_)
         (case side2 => exact z244_)
         (case side3 => exact z49_)
         (case side4 => exact z182_)
         rintro e w' ⟨rfl, ⟨nd, rfl⟩⟩
         refine ⟨_, rfl, ?_⟩
         refine hK.out _ _ ⟨(blk_cell BK636.out 0).trans rfl, (blk_cell BK636.out 1).trans rfl, (blk_cell BK636.out 2).trans rfl⟩ (fun hHeld => ?_)
         clear hK K
         refine zn_ rfl ?_
         iterate 3 refine zp_ HT_ rfl rfl (by kernel_rfl) (fun _ _ _ h => h) (by rfl) ?_
         refine one_ (i := 17) (N := some 53) (fl_ 34 18) rfl rfl (one_of HT_.out (by kernel_rfl)) (by decide) (fun K hK => ?_)
         refine goes_ Try.func28 (by kernel_rfl) rfl #[.slice Ao43 t637.length co43] (by rfl) rfl rfl z1_ ?_
         with_reducible refine (spec_TreeOk.calls kj6 _ _ t637 true _ ?side1 ?side2 A35.out).mono ?_
         (case side1 => exact z35_)
         (case side2 => exact z169_)
         rintro e w49 ⟨rfl, hb⟩
         refine ⟨_, rfl, ?_⟩
         have n0_ := Aside0.mk (Kd.Q_below z29_ hb)
         have n1_ := Aside0.mk (Kd.R_below z27_ hb)
         have n2_ := Aside0.mk (Kd.R_below z30_ hb)
         have n3_ := Aside0.mk (Kd.R_below z31_ hb)
         have n4_ := Aside0.mk (Kd.R_below z36_ hb)
         have n5_ := Aside0.mk (Kd.Q_below z37_ hb)
         have n6_ := Aside0.mk (Kd.R_below z38_ hb)
         have n7_ := Aside0.mk (Kd.R_below z89_ hb)
         have n8_ := Aside0.mk (blk_below z20_ hb)
         have n9_ := Aside0.mk (below_step z9_ hb)
         clear HO_3
         clear HO_4
         clear HO_6
         clear HO_7
         clear HO_637000
         clear HO_637001
         clear HO_637002
         clear HO649
         clear BK636
         clear HB
         have HO_3 := n0_
         have HO_4 := n1_
         have HO_6 := n2_
         have HO_7 := n3_
         have HO_637000 := n4_
         have HO_637001 := n5_
         have HO_637002 := n6_
         have HO649 := n7_
         have BK636 := n8_
         have HB := n9_
         clear n0_ n1_ n2_ n3_ n4_ n5_ n6_ n7_ n8_ n9_
         (try clear hb)
         refine hK.out _ _ ⟨(blk_cell BK636.out 0).trans rfl, (blk_cell BK636.out 1).trans rfl, (blk_cell BK636.out 2).trans rfl⟩ (fun hHeld => ?_)
         clear hK K
         refine zn_ rfl ?_
         iterate 3 refine zp_ HT_ rfl rfl (by kernel_rfl) (fun _ _ _ h => h) (by rfl) ?_
         refine zpg_ (i := 22) (ra_ [21, 1, 1, 11]) HT_ rfl rfl (by kernel_rfl) (fun _ _ _ h => h) (by rfl) ?_
         refine one_ (i := 21) (N := some 57) (fl_ 34 23) rfl rfl (one_of HT_.out (by kernel_rfl)) (by decide) (fun K hK => ?_)
         refine goes_ Try.func33 (by kernel_rfl) rfl #[.slice Ao43 t637.length co43] (by rfl) rfl rfl z1_ ?_
         with_reducible refine (impl_LeavesOf.calls kj6 _ _ t637 t652 _ ?side1 ?side2 A37.out).mono ?_
         (case side1 => exact z35_)
         (case side2 => exact z169_)
         rintro e w50 ⟨rfl, hb⟩
         refine ⟨_, rfl, ?_⟩
         have n0_ := Aside0.mk (Kd.Q_below z29_ hb)
         have n1_ := Aside0.mk (Kd.R_below z27_ hb)
         have n2_ := Aside0.mk (Kd.R_below z30_ hb)
         have n3_ := Aside0.mk (Kd.R_below z31_ hb)
         have n4_ := Aside0.mk (Kd.R_below z36_ hb)
         have n5_ := Aside0.mk (Kd.Q_below z37_ hb)
         have n6_ := Aside0.mk (Kd.R_below z38_ hb)
         have n7_ := Aside0.mk (Kd.R_below z89_ hb)
         have n8_ := Aside0.mk (blk_below z20_ hb)
         have n9_ := Aside0.mk (below_step z9_ hb)
         clear HO_3
         clear HO_4
         clear HO_6
         clear HO_7
         clear HO_637000
         clear HO_637001
         clear HO_637002
         clear HO649
         clear BK636
         clear HB
         have HO_3 := n0_
         have HO_4 := n1_
         have HO_6 := n2_
         have HO_7 := n3_
         have HO_637000 := n4_
         have HO_637001 := n5_
         have HO_637002 := n6_
         have HO649 := n7_
         have BK636 := n8_
         have HB := n9_
         clear n0_ n1_ n2_ n3_ n4_ n5_ n6_ n7_ n8_ n9_
         (try clear hb)
         refine hK.out _ _ ⟨(blk_cell BK636.out 0).trans rfl, (blk_cell BK636.out 1).trans rfl, (blk_cell BK636.out 2).trans rfl⟩ (fun hHeld => ?_)
         clear hK K
         refine zn_ rfl ?_
         refine one_ (i := 23) (N := some 59) (fl_ 34 24) rfl rfl (one_of HT_.out (by kernel_rfl)) (by decide) (fun K hK => ?_)
         refine goes_ Try.func34 (by kernel_rfl) rfl #[.slice Ao14 t621.length co14] (by rfl) rfl rfl z1_ ?_
         with_reducible refine (spec_LeavesOf.calls kj6 _ _ t621 t653 _ ?side1 ?side2 A38.out).mono ?_
         (case side1 => exact z49_)
         (case side2 => exact z182_)
         rintro e w51 ⟨rfl, hb⟩
         refine ⟨_, rfl, ?_⟩
         have n0_ := Aside0.mk (Kd.Q_below z29_ hb)
         have n1_ := Aside0.mk (Kd.R_below z27_ hb)
         have n2_ := Aside0.mk (Kd.R_below z30_ hb)
         have n3_ := Aside0.mk (Kd.R_below z31_ hb)
         have n4_ := Aside0.mk (Kd.R_below z36_ hb)
         have n5_ := Aside0.mk (Kd.Q_below z37_ hb)
         have n6_ := Aside0.mk (Kd.R_below z38_ hb)
         have n7_ := Aside0.mk (Kd.R_below z89_ hb)
         have n8_ := Aside0.mk (blk_below z20_ hb)
         have n9_ := Aside0.mk (below_step z9_ hb)
         clear HO_3
         clear HO_4
         clear HO_6
         clear HO_7
         clear HO_637000
         clear HO_637001
         clear HO_637002
         clear HO649
         clear BK636
         clear HB
         have HO_3 := n0_
         have HO_4 := n1_
         have HO_6 := n2_
         have HO_7 := n3_
         have HO_637000 := n4_
         have HO_637001 := n5_
         have HO_637002 := n6_
         have HO649 := n7_
         have BK636 := n8_
         have HB := n9_
         clear n0_ n1_ n2_ n3_ n4_ n5_ n6_ n7_ n8_ n9_
         (try clear hb)
         refine hK.out _ _ ⟨(blk_cell BK636.out 0).trans rfl, (blk_cell BK636.out 1).trans rfl, (blk_cell BK636.out 2).trans rfl⟩ (fun hHeld => ?_)
         clear hK K
         refine zn_ rfl ?_
         iterate 4 refine zp_ HT_ rfl rfl (by kernel_rfl) (fun _ _ _ h => h) (by rfl) ?_
         refine zpg_ (i := 29) (ra_ [28, 1, 1, 4]) HT_ rfl rfl (by kernel_rfl) (fun _ _ _ h => h) (by rfl) ?_
         refine one_ (i := 28) (N := some 64) (fl_ 34 30) rfl rfl (one_of HT_.out (by kernel_rfl)) (by decide) (fun K hK => ?_)
         refine goes_ Try.func35 (by kernel_rfl) rfl #[.slice Ao43 t637.length co43] (by rfl) rfl rfl z1_ ?_
         with_reducible refine (impl_HeightOf.calls kj6 _ _ t637 t654 _ ?side1 ?side2 A40.out).mono ?_
         (case side1 => exact z35_)
         (case side2 => exact z169_)
         rintro e w52 ⟨rfl, hb⟩
         refine ⟨_, rfl, ?_⟩
         have n0_ := Aside0.mk (Kd.Q_below z29_ hb)
         have n1_ := Aside0.mk (Kd.R_below z27_ hb)
         have n2_ := Aside0.mk (Kd.R_below z30_ hb)
         have n3_ := Aside0.mk (Kd.R_below z31_ hb)
         have n4_ := Aside0.mk (Kd.R_below z36_ hb)
         have n5_ := Aside0.mk (Kd.Q_below z37_ hb)
         have n6_ := Aside0.mk (Kd.R_below z38_ hb)
         have n7_ := Aside0.mk (Kd.R_below z89_ hb)
         have n8_ := Aside0.mk (blk_below z20_ hb)
         have n9_ := Aside0.mk (below_step z9_ hb)
         clear HO_3
         clear HO_4
         clear HO_6
         clear HO_7
         clear HO_637000
         clear HO_637001
         clear HO_637002
         clear HO649
         clear BK636
         clear HB
         have HO_3 := n0_
         have HO_4 := n1_
         have HO_6 := n2_
         have HO_7 := n3_
         have HO_637000 := n4_
         have HO_637001 := n5_
         have HO_637002 := n6_
         have HO649 := n7_
         have BK636 := n8_
         have HB := n9_
         clear n0_ n1_ n2_ n3_ n4_ n5_ n6_ n7_ n8_ n9_
         (try clear hb)
         refine hK.out _ _ ⟨(blk_cell BK636.out 0).trans rfl, (blk_cell BK636.out 1).trans rfl, (blk_cell BK636.out 2).trans rfl⟩ (fun hHeld => ?_)
         clear hK K
         refine zn_ rfl ?_
         refine one_ (i := 30) (N := some 66) (fl_ 34 31) rfl rfl (one_of HT_.out (by kernel_rfl)) (by decide) (fun K hK => ?_)
         refine goes_ Try.func36 (by kernel_rfl) rfl #[.slice Ao14 t621.length co14] (by rfl) rfl rfl z1_ ?_
         with_reducible refine (spec_HeightOf.calls kj6 _ _ t621 t655 _ ?side1 ?side2 A41.out).mono ?_
         (case side1 => exact z49_)
         (case side2 => exact z182_)
         rintro e w53 ⟨rfl, hb⟩
         refine ⟨_, rfl, ?_⟩
         have n0_ := Aside0.mk (Kd.Q_below z29_ hb)
         have n1_ := Aside0.mk (Kd.R_below z27_ hb)
         have n2_ := Aside0.mk (Kd.R_below z30_ hb)
         have n3_ := Aside0.mk (Kd.R_below z31_ hb)
         have n4_ := Aside0.mk (Kd.R_below z36_ hb)
         have n5_ := Aside0.mk (Kd.Q_below z37_ hb)
         have n6_ := Aside0.mk (Kd.R_below z38_ hb)
         have n7_ := Aside0.mk (Kd.R_below z89_ hb)
         have n8_ := Aside0.mk (blk_below z20_ hb)
         have n9_ := Aside0.mk (below_step z9_ hb)
         clear HO_3
         clear HO_4
         clear HO_6
         clear HO_7
         clear HO_637000
         clear HO_637001
         clear HO_637002
         clear HO649
         clear BK636
         clear HB
         have HO_3 := n0_
         have HO_4 := n1_
         have HO_6 := n2_
         have HO_7 := n3_
         have HO_637000 := n4_
         have HO_637001 := n5_
         have HO_637002 := n6_
         have HO649 := n7_
         have BK636 := n8_
         have HB := n9_
         clear n0_ n1_ n2_ n3_ n4_ n5_ n6_ n7_ n8_ n9_
         (try clear hb)
         refine hK.out _ _ ⟨(blk_cell BK636.out 0).trans rfl, (blk_cell BK636.out 1).trans rfl, (blk_cell BK636.out 2).trans rfl⟩ (fun hHeld => ?_)
         clear hK K
         refine zn_ rfl ?_
         iterate 3 refine zp_ HT_ rfl rfl (by kernel_rfl) (fun _ _ _ h => h) (by rfl) ?_
         refine done_ (done_of HT_.out (by kernel_rfl)) ?_
         try go_wp2
         go_ret
         exact ⟨z6_, z9_⟩
        ·rw [if_neg c39] at H
         have c39b0 : (t652 == t653) = false := beq_eq_false_iff_ne.mpr c39
         have c39b1 : (t652 != t653) = true := bne_iff_ne.mpr c39
         obtain rfl := Option.some.inj H
         try go_wp2
         have n0_ := Aside0.mk (Kd.Q_drew HO_3.out)
         have n1_ := Aside0.mk (Kd.R_drew HO_4.out)
         have n2_ := Aside0.mk (Kd.R_drew HO_6.out)
         have n3_ := Aside0.mk (Kd.R_drew HO_7.out)
         have n4_ := Aside0.mk (Kd.R_drew HO_637000.out)
         have n5_ := Aside0.mk (Kd.Q_drew HO_637001.out)
         have n6_ := Aside0.mk (Kd.R_drew HO_637002.out)
         have n7_ := Aside0.mk (blk_drew BK636.out)
         have n8_ := Aside0.mk (below_drew1 HB.out)
         clear HO_3
         clear HO_4
         clear HO_6
         clear HO_7
         clear HO_637000
         clear HO_637001
         clear HO_637002
         clear BK636
         clear HB
         have HO_3 := n0_
         have HO_4 := n1_
         have HO_6 := n2_
         have HO_7 := n3_
         have HO_637000 := n4_
         have HO_637001 := n5_
         have HO_637002 := n6_
         have BK636 := n7_
         have HB := n8_
         clear n0_ n1_ n2_ n3_ n4_ n5_ n6_ n7_ n8_
         obtain ⟨Ao55, co55, eo55⟩ := Kd.R_slice HO_6.out
         (subst eo55)
         obtain ⟨Ao56, co56, eo56⟩ := Kd.R_slice HO_7.out
         (subst eo56)
         refine start_ (n := 34) (S := fun w' => w'.cell? ⟨gb636, 0, none⟩ = some (.slice Ao10 t627.length co10) ∧ w'.cell? ⟨gb636, 1, none⟩ = some (.slice Ao12 t630.length co12) ∧ w'.cell? ⟨gb636, 2, none⟩ = some (.slice Ao13 t633.length co13)) (ds := []) (fl_ 34 0) (by kernel_rfl) rfl (fl_zero _) ⟨(blk_cell BK636.out 0).trans rfl, (blk_cell BK636.out 1).trans rfl, (blk_cell BK636.out 2).trans rfl⟩ (fun hHeld => ?_); refine with_tabW laws_FnMirrored.tab8 laws_FnMirrored.bits8 (fun HT_ HW_ => ?_)
         generalize wc.drew = w54 at HO_3 HO_4 HO_6 HO_7 HO_637000 HO_637001 HO_637002 BK636 HB hHeld ⊢
         iterate 2 refine zp_ HT_ rfl rfl (by kernel_rfl) (fun _ _ _ h => h) (by rfl) ?_
         refine zpg_ (i := 4) (ra_ [2, 2, 1, 29]) HT_ rfl rfl (by kernel_rfl) (fun _ _ _ h => h) (by rfl) ?_
         refine zpg_ (i := 5) (ra_ [2, 2, 2, 28]) HT_ rfl rfl (by kernel_rfl) (fun _ _ _ h => h) (by rfl) ?_
         refine ztg_ (i := 2) (ra_ [3, 1, 2, 28]) HT_ HW_ rfl rfl (by kernel_rfl) (fun _ _ _ h => h) (by rfl) hHeld ?_ z141_
         refine ztg_ (i := 6) (ra_ [3, 1, 3, 27]) HT_ HW_ rfl rfl (by kernel_rfl) (fun _ _ _ h => h) (by rfl) hHeld ?_ z141_
         refine one_ (i := 3) (N := some 39) (fl_ 34 7) rfl rfl (one_of HT_.out (by kernel_rfl)) (by decide) (fun K hK => ?_)
         refine goes_ Try.func26 (by kernel_rfl) rfl #[.slice Ao55 t637.length co55, .slice Ao56 t640.length co56, .agg #[.slice Ao10 t627.length co10, .slice Ao12 t630.length co12, .slice Ao13 t633.length co13]] (by rfl) rfl rfl z1_ ?_
         with_reducible refine (impl_RootDist.calls kj6 _ _ t637 _ _ t640 _ _ t627 _ _ t630 _ _ t633 t645 _ ?side1 ?side2 ?side3 ?side4 ?side5 ?side6 ?side7 ?side8 ?side9 ?side10 A29.out).mono ?_
         (case side1 => exact z35_)
         (case side2 => exact z169_)
         (case side3 => exact z94_)
         (case side4 => exact z242_)
         (case side5 => exact z54_)
         (case side6 => exact z187_)
         (case side7 => exact z55_)
         (case side8 => exact z188_)
         (case side9 => exact z56_)
         (case side10 => exact z189_)
         rintro e w57 ⟨rfl, hb⟩
         refine ⟨_, rfl, ?_⟩
         have n0_ := Aside0.mk (Kd.Q_below z29_ hb)
         have n1_ := Aside0.mk (Kd.R_below z27_ hb)
         have n2_ := Aside0.mk (Kd.R_below z30_ hb)
         have n3_ := Aside0.mk (Kd.R_below z31_ hb)
         have n4_ := Aside0.mk (Kd.R_below z36_ hb)
         have n5_ := Aside0.mk (Kd.Q_below z37_ hb)
         have n6_ := Aside0.mk (Kd.R_below z38_ hb)
         have n7_ := Aside0.mk (blk_below z20_ hb)
         have n8_ := Aside0.mk (below_step z9_ hb)
         clear HO_3
         clear HO_4
         clear HO_6
         clear HO_7
         clear HO_637000
         clear HO_637001
         clear HO_637002
         clear BK636
         clear HB
         have HO_3 := n0_
         have HO_4 := n1_
         have HO_6 := n2_
         have HO_7 := n3_
         have HO_637000 := n4_
         have HO_637001 := n5_
         have HO_637002 := n6_
         have BK636 := n7_
         have HB := n8_
         clear n0_ n1_ n2_ n3_ n4_ n5_ n6_ n7_ n8_
         (try clear hb)
         refine hK.out _ _ ⟨(blk_cell BK636.out 0).trans rfl, (blk_cell BK636.out 1).trans rfl, (blk_cell BK636.out 2).trans rfl⟩ (fun hHeld => ?_)
         clear hK K
         refine zn_ rfl ?_
         refine one_ (i := 7) (N := some 43) (fl_ 34 8) rfl rfl (one_of HT_.out (by kernel_rfl)) (by decide) (fun K hK => ?_)
         refine goes_ Try.func26 (by kernel_rfl) rfl #[.slice Ao14 t621.length co14, .slice Ao16 t624.length co16, .agg #[.slice Ao10 t627.length co10, .slice Ao12 t630.length co12, .slice Ao13 t633.length co13]] (by rfl) rfl rfl z1_ ?_
         with_reducible refine (impl_RootDist.calls kj6 _ _ t621 _ _ t624 _ _ t627 _ _ t630 _ _ t633 t646 _ ?side1 ?side2 ?side3 ?side4 ?side5 ?side6 ?side7 ?side8 ?side9 ?side10 A30.out).mono ?_
         (case side1 => exact z49_)
         (case side2 => exact z182_)
         (case side3 => exact z95_)
         (case side4 => exact z243_)
         (case side5 => exact z54_)
         (case side6 => exact z187_)
         (case side7 => exact z55_)
         (case side8 => exact z188_)
         (case side9 => exact z56_)
         (case side10 => exact z189_)
         rintro e w58 ⟨rfl, hb⟩
         refine ⟨_, rfl, ?_⟩
         have n0_ := Aside0.mk (Kd.Q_below z29_ hb)
         have n1_ := Aside0.mk (Kd.R_below z27_ hb)
         have n2_ := Aside0.mk (Kd.R_below z30_ hb)
         have n3_ := Aside0.mk (Kd.R_below z31_ hb)
         have n4_ := Aside0.mk (Kd.R_below z36_ hb)
         have n5_ := Aside0.mk (Kd.Q_below z37_ hb)
         have n6_ := Aside0.mk (Kd.R_below z38_ hb)
         have n7_ := Aside0.mk (blk_below z20_ hb)
         have n8_ := Aside0.mk (below_step z9_ hb)
         clear HO_3
         clear HO_4
         clear HO_6
         clear HO_7
         clear HO_637000
         clear HO_637001
         clear HO_637002
         clear BK636
         clear HB
         have HO_3 := n0_
         have HO_4 := n1_
         have HO_6 := n2_
         have HO_7 := n3_
         have HO_637000 := n4_
         have HO_637001 := n5_
         have HO_637002 := n6_
         have BK636 := n7_
         have HB := n8_
         clear n0_ n1_ n2_ n3_ n4_ n5_ n6_ n7_ n8_
         (try clear hb)
         refine hK.out _ _ ⟨(blk_cell BK636.out 0).trans rfl, (blk_cell BK636.out 1).trans rfl, (blk_cell BK636.out 2).trans rfl⟩ (fun hHeld => ?_)
         clear hK K
         refine zn_ rfl ?_
         iterate 3 refine zp_ HT_ rfl rfl (by kernel_rfl) (fun _ _ _ h => h) (by rfl) ?_
         refine zpg_ (i := 12) (ra_ [11, 1, 1, 21]) HT_ rfl rfl (by kernel_rfl) (fun _ _ _ h => h) (by rfl) ?_
         refine one_ (i := 11) (N := some 47) (fl_ 34 13) rfl rfl (one_of HT_.out (by kernel_rfl)) (by decide) (fun K hK => ?_)
         refine goes_ Try.func32 (by kernel_rfl) rfl #[.slice Ao55 t637.length co55] (by rfl) rfl rfl z1_ ?_
         with_reducible refine (impl_Mirror.calls kj6 _ _ t637 t647 _ ?side1 ?side2 A32.out).mono ?_
         (case side1 => exact z35_)
         (case side2 => exact z169_)
         rintro e w59 ⟨v648, rfl, ho0, hb⟩
         refine ⟨_, rfl, ?_⟩
         have n0_ := Aside0.mk (Kd.Q_elder' z29_ (Kd.R_base ho0) hb)
         have n1_ := Aside0.mk (Kd.R_elder' z27_ (Kd.R_base ho0) hb)
         have n2_ := Aside0.mk (Kd.R_elder' z30_ (Kd.R_base ho0) hb)
         have n3_ := Aside0.mk (Kd.R_elder' z31_ (Kd.R_base ho0) hb)
         have n4_ := Aside0.mk (Kd.R_below z36_ hb)
         have n5_ := Aside0.mk (Kd.Q_below z37_ hb)
         have n6_ := Aside0.mk (Kd.R_below z38_ hb)
         have n7_ := Aside0.mk (Kd.R_lower (Kd.R_new' (Kd.R_new' (Kd.R_new' (Kd.R_new' ho0 (Kd.Q_lt z29_)) (Kd.R_lt z27_)) (Kd.R_lt z30_)) (Kd.R_lt z31_)) (below_size z9_))
         have n8_ := Aside0.mk (blk_below z20_ hb)
         have n9_ := Aside0.mk (below_step z9_ hb)
         clear HO_3
         clear HO_4
         clear HO_6
         clear HO_7
         clear HO_637000
         clear HO_637001
         clear HO_637002
         clear BK636
         clear HB
         have HO_3 := n0_
         have HO_4 := n1_
         have HO_6 := n2_
         have HO_7 := n3_
         have HO_637000 := n4_
         have HO_637001 := n5_
         have HO_637002 := n6_
         have HO649 := n7_
         have BK636 := n8_
         have HB := n9_
         clear n0_ n1_ n2_ n3_ n4_ n5_ n6_ n7_ n8_ n9_
         (try clear hb)
         (try clear ho0)
         obtain ⟨Ao60, co60, eo60⟩ := Kd.R_slice HO649.out
         (subst eo60)
         refine hK.out _ _ ⟨(blk_cell BK636.out 0).trans rfl, (blk_cell BK636.out 1).trans rfl, (blk_cell BK636.out 2).trans rfl⟩ (fun hHeld => ?_)
         clear hK K
         refine zn_ rfl ?_
         refine one_ (i := 13) (N := some 49) (fl_ 34 14) rfl rfl (one_of HT_.out (by kernel_rfl)) (by decide) (fun K hK => ?_)
         refine goes_ Try.func29 (by kernel_rfl) rfl #[.slice Ao60 t647.length co60, .slice Ao14 t621.length co14] (by rfl) rfl rfl z1_ ?_
         with_reducible refine (spec_SameTree.calls kj6 _ _ t647 _ _ t621 true _ ?side1 ?side2 ?side3 ?side4 A33.out).mono ?_
         (case side1 => exact z129_)
         (case side2 => exact z244_)
         (case side3 => exact z49_)
         (case side4 => exact z182_)
         rintro e w' ⟨rfl, ⟨nd, rfl⟩⟩
         refine ⟨_, rfl, ?_⟩
         refine hK.out _ _ ⟨(blk_cell BK636.out 0).trans rfl, (blk_cell BK636.out 1).trans rfl, (blk_cell BK636.out 2).trans rfl⟩ (fun hHeld => ?_)
         clear hK K
         refine zn_ rfl ?_
         iterate 3 refine zp_ HT_ rfl rfl (by kernel_rfl) (fun _ _ _ h => h) (by rfl) ?_
         refine one_ (i := 17) (N := some 53) (fl_ 34 18) rfl rfl (one_of HT_.out (by kernel_rfl)) (by decide) (fun K hK => ?_)
         refine goes_ Try.func28 (by kernel_rfl) rfl #[.slice Ao55 t637.length co55] (by rfl) rfl rfl z1_ ?_
         with_reducible refine (spec_TreeOk.calls kj6 _ _ t637 true _ ?side1 ?side2 A35.out).mono ?_
         (case side1 => exact z35_)
         (case side2 => exact z169_)
         rintro e w61 ⟨rfl, hb⟩
         refine ⟨_, rfl, ?_⟩
         have n0_ := Aside0.mk (Kd.Q_below z29_ hb)
         have n1_ := Aside0.mk (Kd.R_below z27_ hb)
         have n2_ := Aside0.mk (Kd.R_below z30_ hb)
         have n3_ := Aside0.mk (Kd.R_below z31_ hb)
         have n4_ := Aside0.mk (Kd.R_below z36_ hb)
         have n5_ := Aside0.mk (Kd.Q_below z37_ hb)
         have n6_ := Aside0.mk (Kd.R_below z38_ hb)
         have n7_ := Aside0.mk (Kd.R_below z89_ hb)
         have n8_ := Aside0.mk (blk_below z20_ hb)
         have n9_ := Aside0.mk (below_step z9_ hb)
         clear HO_3
         clear HO_4
         clear HO_6
         clear HO_7
         clear HO_637000
         clear HO_637001
         clear HO_637002
         clear HO649
         clear BK636
         clear HB
         have HO_3 := n0_
         have HO_4 := n1_
         have HO_6 := n2_
         have HO_7 := n3_
         have HO_637000 := n4_
         have HO_637001 := n5_
         have HO_637002 := n6_
         have HO649 := n7_
         have BK636 := n8_
         have HB := n9_
         clear n0_ n1_ n2_ n3_ n4_ n5_ n6_ n7_ n8_ n9_
         (try clear hb)
         refine hK.out _ _ ⟨(blk_cell BK636.out 0).trans rfl, (blk_cell BK636.out 1).trans rfl, (blk_cell BK636.out 2).trans rfl⟩ (fun hHeld => ?_)
         clear hK K
         refine zn_ rfl ?_
         iterate 3 refine zp_ HT_ rfl rfl (by kernel_rfl) (fun _ _ _ h => h) (by rfl) ?_
         refine zpg_ (i := 22) (ra_ [21, 1, 1, 11]) HT_ rfl rfl (by kernel_rfl) (fun _ _ _ h => h) (by rfl) ?_
         refine one_ (i := 21) (N := some 57) (fl_ 34 23) rfl rfl (one_of HT_.out (by kernel_rfl)) (by decide) (fun K hK => ?_)
         refine goes_ Try.func33 (by kernel_rfl) rfl #[.slice Ao55 t637.length co55] (by rfl) rfl rfl z1_ ?_
         with_reducible refine (impl_LeavesOf.calls kj6 _ _ t637 t652 _ ?side1 ?side2 A37.out).mono ?_
         (case side1 => exact z35_)
         (case side2 => exact z169_)
         rintro e w62 ⟨rfl, hb⟩
         refine ⟨_, rfl, ?_⟩
         have n0_ := Aside0.mk (Kd.Q_below z29_ hb)
         have n1_ := Aside0.mk (Kd.R_below z27_ hb)
         have n2_ := Aside0.mk (Kd.R_below z30_ hb)
         have n3_ := Aside0.mk (Kd.R_below z31_ hb)
         have n4_ := Aside0.mk (Kd.R_below z36_ hb)
         have n5_ := Aside0.mk (Kd.Q_below z37_ hb)
         have n6_ := Aside0.mk (Kd.R_below z38_ hb)
         have n7_ := Aside0.mk (Kd.R_below z89_ hb)
         have n8_ := Aside0.mk (blk_below z20_ hb)
         have n9_ := Aside0.mk (below_step z9_ hb)
         clear HO_3
         clear HO_4
         clear HO_6
         clear HO_7
         clear HO_637000
         clear HO_637001
         clear HO_637002
         clear HO649
         clear BK636
         clear HB
         have HO_3 := n0_
         have HO_4 := n1_
         have HO_6 := n2_
         have HO_7 := n3_
         have HO_637000 := n4_
         have HO_637001 := n5_
         have HO_637002 := n6_
         have HO649 := n7_
         have BK636 := n8_
         have HB := n9_
         clear n0_ n1_ n2_ n3_ n4_ n5_ n6_ n7_ n8_ n9_
         (try clear hb)
         refine hK.out _ _ ⟨(blk_cell BK636.out 0).trans rfl, (blk_cell BK636.out 1).trans rfl, (blk_cell BK636.out 2).trans rfl⟩ (fun hHeld => ?_)
         clear hK K
         refine zn_ rfl ?_
         refine one_ (i := 23) (N := some 59) (fl_ 34 24) rfl rfl (one_of HT_.out (by kernel_rfl)) (by decide) (fun K hK => ?_)
         refine goes_ Try.func34 (by kernel_rfl) rfl #[.slice Ao14 t621.length co14] (by rfl) rfl rfl z1_ ?_
         with_reducible refine (spec_LeavesOf.calls kj6 _ _ t621 t653 _ ?side1 ?side2 A38.out).mono ?_
         (case side1 => exact z49_)
         (case side2 => exact z182_)
         rintro e w63 ⟨rfl, hb⟩
         refine ⟨_, rfl, ?_⟩
         have n0_ := Aside0.mk (Kd.Q_below z29_ hb)
         have n1_ := Aside0.mk (Kd.R_below z27_ hb)
         have n2_ := Aside0.mk (Kd.R_below z30_ hb)
         have n3_ := Aside0.mk (Kd.R_below z31_ hb)
         have n4_ := Aside0.mk (Kd.R_below z36_ hb)
         have n5_ := Aside0.mk (Kd.Q_below z37_ hb)
         have n6_ := Aside0.mk (Kd.R_below z38_ hb)
         have n7_ := Aside0.mk (Kd.R_below z89_ hb)
         have n8_ := Aside0.mk (blk_below z20_ hb)
         have n9_ := Aside0.mk (below_step z9_ hb)
         clear HO_3
         clear HO_4
         clear HO_6
         clear HO_7
         clear HO_637000
         clear HO_637001
         clear HO_637002
         clear HO649
         clear BK636
         clear HB
         have HO_3 := n0_
         have HO_4 := n1_
         have HO_6 := n2_
         have HO_7 := n3_
         have HO_637000 := n4_
         have HO_637001 := n5_
         have HO_637002 := n6_
         have HO649 := n7_
         have BK636 := n8_
         have HB := n9_
         clear n0_ n1_ n2_ n3_ n4_ n5_ n6_ n7_ n8_ n9_
         (try clear hb)
         refine hK.out _ _ ⟨(blk_cell BK636.out 0).trans rfl, (blk_cell BK636.out 1).trans rfl, (blk_cell BK636.out 2).trans rfl⟩ (fun hHeld => ?_)
         clear hK K
         refine zn_ rfl ?_
         iterate 3 refine zp_ HT_ rfl rfl (by kernel_rfl) (fun _ _ _ h => h) (by rfl) ?_
         iterate 5 refine zu_ HT_ rfl rfl (by kernel_rfl) (fun _ _ _ h => h) (by rfl) ?_
         iterate 2 refine zp_ HT_ rfl rfl (by kernel_rfl) (fun _ _ _ h => h) (by rfl) ?_
         refine done_ (done_of HT_.out (by kernel_rfl)) ?_
         try go_wp2
         go_ret
         exact ⟨z6_, z9_⟩
       ·replace c36 := Bool.eq_false_iff.mpr c36
        subst c36
        replace H := iff_ H
        obtain rfl := Option.some.inj H
        try go_wp2
        have n0_ := Aside0.mk (Kd.Q_drew HO_3.out)
        have n1_ := Aside0.mk (Kd.R_drew HO_4.out)
        have n2_ := Aside0.mk (Kd.R_drew HO_6.out)
        have n3_ := Aside0.mk (Kd.R_drew HO_7.out)
        have n4_ := Aside0.mk (Kd.R_drew HO_637000.out)
        have n5_ := Aside0.mk (Kd.Q_drew HO_637001.out)
        have n6_ := Aside0.mk (Kd.R_drew HO_637002.out)
        have n7_ := Aside0.mk (blk_drew BK636.out)
        have n8_ := Aside0.mk (below_drew1 HB.out)
        clear HO_3
        clear HO_4
        clear HO_6
        clear HO_7
        clear HO_637000
        clear HO_637001
        clear HO_637002
        clear BK636
        clear HB
        have HO_3 := n0_
        have HO_4 := n1_
        have HO_6 := n2_
        have HO_7 := n3_
        have HO_637000 := n4_
        have HO_637001 := n5_
        have HO_637002 := n6_
        have BK636 := n7_
        have HB := n8_
        clear n0_ n1_ n2_ n3_ n4_ n5_ n6_ n7_ n8_
        obtain ⟨Ao65, co65, eo65⟩ := Kd.R_slice HO_6.out
        (subst eo65)
        obtain ⟨Ao66, co66, eo66⟩ := Kd.R_slice HO_7.out
        (subst eo66)
        refine start_ (n := 34) (S := fun w' => w'.cell? ⟨gb636, 0, none⟩ = some (.slice Ao10 t627.length co10) ∧ w'.cell? ⟨gb636, 1, none⟩ = some (.slice Ao12 t630.length co12) ∧ w'.cell? ⟨gb636, 2, none⟩ = some (.slice Ao13 t633.length co13)) (ds := []) (fl_ 34 0) (by kernel_rfl) rfl (fl_zero _) ⟨(blk_cell BK636.out 0).trans rfl, (blk_cell BK636.out 1).trans rfl, (blk_cell BK636.out 2).trans rfl⟩ (fun hHeld => ?_); refine with_tabW laws_FnMirrored.tab8 laws_FnMirrored.bits8 (fun HT_ HW_ => ?_)
        generalize wc.drew = w64 at HO_3 HO_4 HO_6 HO_7 HO_637000 HO_637001 HO_637002 BK636 HB hHeld ⊢
        iterate 2 refine zp_ HT_ rfl rfl (by kernel_rfl) (fun _ _ _ h => h) (by rfl) ?_
        refine zpg_ (i := 4) (ra_ [2, 2, 1, 29]) HT_ rfl rfl (by kernel_rfl) (fun _ _ _ h => h) (by rfl) ?_
        refine zpg_ (i := 5) (ra_ [2, 2, 2, 28]) HT_ rfl rfl (by kernel_rfl) (fun _ _ _ h => h) (by rfl) ?_
        refine ztg_ (i := 2) (ra_ [3, 1, 2, 28]) HT_ HW_ rfl rfl (by kernel_rfl) (fun _ _ _ h => h) (by rfl) hHeld ?_ z141_
        refine ztg_ (i := 6) (ra_ [3, 1, 3, 27]) HT_ HW_ rfl rfl (by kernel_rfl) (fun _ _ _ h => h) (by rfl) hHeld ?_ z141_
        refine one_ (i := 3) (N := some 39) (fl_ 34 7) rfl rfl (one_of HT_.out (by kernel_rfl)) (by decide) (fun K hK => ?_)
        refine goes_ Try.func26 (by kernel_rfl) rfl #[.slice Ao65 t637.length co65, .slice Ao66 t640.length co66, .agg #[.slice Ao10 t627.length co10, .slice Ao12 t630.length co12, .slice Ao13 t633.length co13]] (by rfl) rfl rfl z1_ ?_
        with_reducible refine (impl_RootDist.calls kj6 _ _ t637 _ _ t640 _ _ t627 _ _ t630 _ _ t633 t645 _ ?side1 ?side2 ?side3 ?side4 ?side5 ?side6 ?side7 ?side8 ?side9 ?side10 A29.out).mono ?_
        (case side1 => exact z35_)
        (case side2 => exact z169_)
        (case side3 => exact z94_)
        (case side4 => exact z242_)
        (case side5 => exact z54_)
        (case side6 => exact z187_)
        (case side7 => exact z55_)
        (case side8 => exact z188_)
        (case side9 => exact z56_)
        (case side10 => exact z189_)
        rintro e w67 ⟨rfl, hb⟩
        refine ⟨_, rfl, ?_⟩
        have n0_ := Aside0.mk (Kd.Q_below z29_ hb)
        have n1_ := Aside0.mk (Kd.R_below z27_ hb)
        have n2_ := Aside0.mk (Kd.R_below z30_ hb)
        have n3_ := Aside0.mk (Kd.R_below z31_ hb)
        have n4_ := Aside0.mk (Kd.R_below z36_ hb)
        have n5_ := Aside0.mk (Kd.Q_below z37_ hb)
        have n6_ := Aside0.mk (Kd.R_below z38_ hb)
        have n7_ := Aside0.mk (blk_below z20_ hb)
        have n8_ := Aside0.mk (below_step z9_ hb)
        clear HO_3
        clear HO_4
        clear HO_6
        clear HO_7
        clear HO_637000
        clear HO_637001
        clear HO_637002
        clear BK636
        clear HB
        have HO_3 := n0_
        have HO_4 := n1_
        have HO_6 := n2_
        have HO_7 := n3_
        have HO_637000 := n4_
        have HO_637001 := n5_
        have HO_637002 := n6_
        have BK636 := n7_
        have HB := n8_
        clear n0_ n1_ n2_ n3_ n4_ n5_ n6_ n7_ n8_
        (try clear hb)
        refine hK.out _ _ ⟨(blk_cell BK636.out 0).trans rfl, (blk_cell BK636.out 1).trans rfl, (blk_cell BK636.out 2).trans rfl⟩ (fun hHeld => ?_)
        clear hK K
        refine zn_ rfl ?_
        refine one_ (i := 7) (N := some 43) (fl_ 34 8) rfl rfl (one_of HT_.out (by kernel_rfl)) (by decide) (fun K hK => ?_)
        refine goes_ Try.func26 (by kernel_rfl) rfl #[.slice Ao14 t621.length co14, .slice Ao16 t624.length co16, .agg #[.slice Ao10 t627.length co10, .slice Ao12 t630.length co12, .slice Ao13 t633.length co13]] (by rfl) rfl rfl z1_ ?_
        with_reducible refine (impl_RootDist.calls kj6 _ _ t621 _ _ t624 _ _ t627 _ _ t630 _ _ t633 t646 _ ?side1 ?side2 ?side3 ?side4 ?side5 ?side6 ?side7 ?side8 ?side9 ?side10 A30.out).mono ?_
        (case side1 => exact z49_)
        (case side2 => exact z182_)
        (case side3 => exact z95_)
        (case side4 => exact z243_)
        (case side5 => exact z54_)
        (case side6 => exact z187_)
        (case side7 => exact z55_)
        (case side8 => exact z188_)
        (case side9 => exact z56_)
        (case side10 => exact z189_)
        rintro e w68 ⟨rfl, hb⟩
        refine ⟨_, rfl, ?_⟩
        have n0_ := Aside0.mk (Kd.Q_below z29_ hb)
        have n1_ := Aside0.mk (Kd.R_below z27_ hb)
        have n2_ := Aside0.mk (Kd.R_below z30_ hb)
        have n3_ := Aside0.mk (Kd.R_below z31_ hb)
        have n4_ := Aside0.mk (Kd.R_below z36_ hb)
        have n5_ := Aside0.mk (Kd.Q_below z37_ hb)
        have n6_ := Aside0.mk (Kd.R_below z38_ hb)
        have n7_ := Aside0.mk (blk_below z20_ hb)
        have n8_ := Aside0.mk (below_step z9_ hb)
        clear HO_3
        clear HO_4
        clear HO_6
        clear HO_7
        clear HO_637000
        clear HO_637001
        clear HO_637002
        clear BK636
        clear HB
        have HO_3 := n0_
        have HO_4 := n1_
        have HO_6 := n2_
        have HO_7 := n3_
        have HO_637000 := n4_
        have HO_637001 := n5_
        have HO_637002 := n6_
        have BK636 := n7_
        have HB := n8_
        clear n0_ n1_ n2_ n3_ n4_ n5_ n6_ n7_ n8_
        (try clear hb)
        refine hK.out _ _ ⟨(blk_cell BK636.out 0).trans rfl, (blk_cell BK636.out 1).trans rfl, (blk_cell BK636.out 2).trans rfl⟩ (fun hHeld => ?_)
        clear hK K
        refine zn_ rfl ?_
        iterate 3 refine zp_ HT_ rfl rfl (by kernel_rfl) (fun _ _ _ h => h) (by rfl) ?_
        refine zpg_ (i := 12) (ra_ [11, 1, 1, 21]) HT_ rfl rfl (by kernel_rfl) (fun _ _ _ h => h) (by rfl) ?_
        refine one_ (i := 11) (N := some 47) (fl_ 34 13) rfl rfl (one_of HT_.out (by kernel_rfl)) (by decide) (fun K hK => ?_)
        refine goes_ Try.func32 (by kernel_rfl) rfl #[.slice Ao65 t637.length co65] (by rfl) rfl rfl z1_ ?_
        with_reducible refine (impl_Mirror.calls kj6 _ _ t637 t647 _ ?side1 ?side2 A32.out).mono ?_
        (case side1 => exact z35_)
        (case side2 => exact z169_)
        rintro e w69 ⟨v648, rfl, ho0, hb⟩
        refine ⟨_, rfl, ?_⟩
        have n0_ := Aside0.mk (Kd.Q_elder' z29_ (Kd.R_base ho0) hb)
        have n1_ := Aside0.mk (Kd.R_elder' z27_ (Kd.R_base ho0) hb)
        have n2_ := Aside0.mk (Kd.R_elder' z30_ (Kd.R_base ho0) hb)
        have n3_ := Aside0.mk (Kd.R_elder' z31_ (Kd.R_base ho0) hb)
        have n4_ := Aside0.mk (Kd.R_below z36_ hb)
        have n5_ := Aside0.mk (Kd.Q_below z37_ hb)
        have n6_ := Aside0.mk (Kd.R_below z38_ hb)
        have n7_ := Aside0.mk (Kd.R_lower (Kd.R_new' (Kd.R_new' (Kd.R_new' (Kd.R_new' ho0 (Kd.Q_lt z29_)) (Kd.R_lt z27_)) (Kd.R_lt z30_)) (Kd.R_lt z31_)) (below_size z9_))
        have n8_ := Aside0.mk (blk_below z20_ hb)
        have n9_ := Aside0.mk (below_step z9_ hb)
        clear HO_3
        clear HO_4
        clear HO_6
        clear HO_7
        clear HO_637000
        clear HO_637001
        clear HO_637002
        clear BK636
        clear HB
        have HO_3 := n0_
        have HO_4 := n1_
        have HO_6 := n2_
        have HO_7 := n3_
        have HO_637000 := n4_
        have HO_637001 := n5_
        have HO_637002 := n6_
        have HO649 := n7_
        have BK636 := n8_
        have HB := n9_
        clear n0_ n1_ n2_ n3_ n4_ n5_ n6_ n7_ n8_ n9_
        (try clear hb)
        (try clear ho0)
        obtain ⟨Ao70, co70, eo70⟩ := Kd.R_slice HO649.out
        (subst eo70)
        refine hK.out _ _ ⟨(blk_cell BK636.out 0).trans rfl, (blk_cell BK636.out 1).trans rfl, (blk_cell BK636.out 2).trans rfl⟩ (fun hHeld => ?_)
        clear hK K
        refine zn_ rfl ?_
        refine one_ (i := 13) (N := some 49) (fl_ 34 14) rfl rfl (one_of HT_.out (by kernel_rfl)) (by decide) (fun K hK => ?_)
        refine goes_ Try.func29 (by kernel_rfl) rfl #[.slice Ao70 t647.length co70, .slice Ao14 t621.length co14] (by rfl) rfl rfl z1_ ?_
        with_reducible refine (spec_SameTree.calls kj6 _ _ t647 _ _ t621 true _ ?side1 ?side2 ?side3 ?side4 A33.out).mono ?_
        (case side1 => exact z129_)
        (case side2 => exact z244_)
        (case side3 => exact z49_)
        (case side4 => exact z182_)
        rintro e w' ⟨rfl, ⟨nd, rfl⟩⟩
        refine ⟨_, rfl, ?_⟩
        refine hK.out _ _ ⟨(blk_cell BK636.out 0).trans rfl, (blk_cell BK636.out 1).trans rfl, (blk_cell BK636.out 2).trans rfl⟩ (fun hHeld => ?_)
        clear hK K
        refine zn_ rfl ?_
        iterate 3 refine zp_ HT_ rfl rfl (by kernel_rfl) (fun _ _ _ h => h) (by rfl) ?_
        refine one_ (i := 17) (N := some 53) (fl_ 34 18) rfl rfl (one_of HT_.out (by kernel_rfl)) (by decide) (fun K hK => ?_)
        refine goes_ Try.func28 (by kernel_rfl) rfl #[.slice Ao65 t637.length co65] (by rfl) rfl rfl z1_ ?_
        with_reducible refine (spec_TreeOk.calls kj6 _ _ t637 false _ ?side1 ?side2 A35.out).mono ?_
        (case side1 => exact z35_)
        (case side2 => exact z169_)
        rintro e w71 ⟨rfl, hb⟩
        refine ⟨_, rfl, ?_⟩
        have n0_ := Aside0.mk (Kd.Q_below z29_ hb)
        have n1_ := Aside0.mk (Kd.R_below z27_ hb)
        have n2_ := Aside0.mk (Kd.R_below z30_ hb)
        have n3_ := Aside0.mk (Kd.R_below z31_ hb)
        have n4_ := Aside0.mk (Kd.R_below z36_ hb)
        have n5_ := Aside0.mk (Kd.Q_below z37_ hb)
        have n6_ := Aside0.mk (Kd.R_below z38_ hb)
        have n7_ := Aside0.mk (Kd.R_below z89_ hb)
        have n8_ := Aside0.mk (blk_below z20_ hb)
        have n9_ := Aside0.mk (below_step z9_ hb)
        clear HO_3
        clear HO_4
        clear HO_6
        clear HO_7
        clear HO_637000
        clear HO_637001
        clear HO_637002
        clear HO649
        clear BK636
        clear HB
        have HO_3 := n0_
        have HO_4 := n1_
        have HO_6 := n2_
        have HO_7 := n3_
        have HO_637000 := n4_
        have HO_637001 := n5_
        have HO_637002 := n6_
        have HO649 := n7_
        have BK636 := n8_
        have HB := n9_
        clear n0_ n1_ n2_ n3_ n4_ n5_ n6_ n7_ n8_ n9_
        (try clear hb)
        refine hK.out _ _ ⟨(blk_cell BK636.out 0).trans rfl, (blk_cell BK636.out 1).trans rfl, (blk_cell BK636.out 2).trans rfl⟩ (fun hHeld => ?_)
        clear hK K
        refine zn_ rfl ?_
        iterate 2 refine zp_ HT_ rfl rfl (by kernel_rfl) (fun _ _ _ h => h) (by rfl) ?_
        iterate 5 refine zu_ HT_ rfl rfl (by kernel_rfl) (fun _ _ _ h => h) (by rfl) ?_
        iterate 2 refine zp_ HT_ rfl rfl (by kernel_rfl) (fun _ _ _ h => h) (by rfl) ?_
        iterate 5 refine zu_ HT_ rfl rfl (by kernel_rfl) (fun _ _ _ h => h) (by rfl) ?_
        iterate 2 refine zp_ HT_ rfl rfl (by kernel_rfl) (fun _ _ _ h => h) (by rfl) ?_
        refine done_ (done_of HT_.out (by kernel_rfl)) ?_
        try go_wp2
        go_ret
        exact ⟨z6_, z9_⟩
      ·replace c34 := Bool.eq_false_iff.mpr c34
       subst c34
       replace H := iff_ H
       obtain rfl := Option.some.inj H
       try go_wp2
       have n0_ := Aside0.mk (Kd.Q_drew HO_3.out)
       have n1_ := Aside0.mk (Kd.R_drew HO_4.out)
       have n2_ := Aside0.mk (Kd.R_drew HO_6.out)
       have n3_ := Aside0.mk (Kd.R_drew HO_7.out)
       have n4_ := Aside0.mk (Kd.R_drew HO_637000.out)
       have n5_ := Aside0.mk (Kd.Q_drew HO_637001.out)
       have n6_ := Aside0.mk (Kd.R_drew HO_637002.out)
       have n7_ := Aside0.mk (blk_drew BK636.out)
       have n8_ := Aside0.mk (below_drew1 HB.out)
       clear HO_3
       clear HO_4
       clear HO_6
       clear HO_7
       clear HO_637000
       clear HO_637001
       clear HO_637002
       clear BK636
       clear HB
       have HO_3 := n0_
       have HO_4 := n1_
       have HO_6 := n2_
       have HO_7 := n3_
       have HO_637000 := n4_
       have HO_637001 := n5_
       have HO_637002 := n6_
       have BK636 := n7_
       have HB := n8_
       clear n0_ n1_ n2_ n3_ n4_ n5_ n6_ n7_ n8_
       obtain ⟨Ao73, co73, eo73⟩ := Kd.R_slice HO_6.out
       (subst eo73)
       obtain ⟨Ao74, co74, eo74⟩ := Kd.R_slice HO_7.out
       (subst eo74)
       refine start_ (n := 34) (S := fun w' => w'.cell? ⟨gb636, 0, none⟩ = some (.slice Ao10 t627.length co10) ∧ w'.cell? ⟨gb636, 1, none⟩ = some (.slice Ao12 t630.length co12) ∧ w'.cell? ⟨gb636, 2, none⟩ = some (.slice Ao13 t633.length co13)) (ds := []) (fl_ 34 0) (by kernel_rfl) rfl (fl_zero _) ⟨(blk_cell BK636.out 0).trans rfl, (blk_cell BK636.out 1).trans rfl, (blk_cell BK636.out 2).trans rfl⟩ (fun hHeld => ?_); refine with_tabW laws_FnMirrored.tab8 laws_FnMirrored.bits8 (fun HT_ HW_ => ?_)
       generalize wc.drew = w72 at HO_3 HO_4 HO_6 HO_7 HO_637000 HO_637001 HO_637002 BK636 HB hHeld ⊢
       iterate 2 refine zp_ HT_ rfl rfl (by kernel_rfl) (fun _ _ _ h => h) (by rfl) ?_
       refine zpg_ (i := 4) (ra_ [2, 2, 1, 29]) HT_ rfl rfl (by kernel_rfl) (fun _ _ _ h => h) (by rfl) ?_
       refine zpg_ (i := 5) (ra_ [2, 2, 2, 28]) HT_ rfl rfl (by kernel_rfl) (fun _ _ _ h => h) (by rfl) ?_
       refine ztg_ (i := 2) (ra_ [3, 1, 2, 28]) HT_ HW_ rfl rfl (by kernel_rfl) (fun _ _ _ h => h) (by rfl) hHeld ?_ z141_
       refine ztg_ (i := 6) (ra_ [3, 1, 3, 27]) HT_ HW_ rfl rfl (by kernel_rfl) (fun _ _ _ h => h) (by rfl) hHeld ?_ z141_
       refine one_ (i := 3) (N := some 39) (fl_ 34 7) rfl rfl (one_of HT_.out (by kernel_rfl)) (by decide) (fun K hK => ?_)
       refine goes_ Try.func26 (by kernel_rfl) rfl #[.slice Ao73 t637.length co73, .slice Ao74 t640.length co74, .agg #[.slice Ao10 t627.length co10, .slice Ao12 t630.length co12, .slice Ao13 t633.length co13]] (by rfl) rfl rfl z1_ ?_
       with_reducible refine (impl_RootDist.calls kj6 _ _ t637 _ _ t640 _ _ t627 _ _ t630 _ _ t633 t645 _ ?side1 ?side2 ?side3 ?side4 ?side5 ?side6 ?side7 ?side8 ?side9 ?side10 A29.out).mono ?_
       (case side1 => exact z35_)
       (case side2 => exact z169_)
       (case side3 => exact z94_)
       (case side4 => exact z242_)
       (case side5 => exact z54_)
       (case side6 => exact z187_)
       (case side7 => exact z55_)
       (case side8 => exact z188_)
       (case side9 => exact z56_)
       (case side10 => exact z189_)
       rintro e w75 ⟨rfl, hb⟩
       refine ⟨_, rfl, ?_⟩
       have n0_ := Aside0.mk (Kd.Q_below z29_ hb)
       have n1_ := Aside0.mk (Kd.R_below z27_ hb)
       have n2_ := Aside0.mk (Kd.R_below z30_ hb)
       have n3_ := Aside0.mk (Kd.R_below z31_ hb)
       have n4_ := Aside0.mk (Kd.R_below z36_ hb)
       have n5_ := Aside0.mk (Kd.Q_below z37_ hb)
       have n6_ := Aside0.mk (Kd.R_below z38_ hb)
       have n7_ := Aside0.mk (blk_below z20_ hb)
       have n8_ := Aside0.mk (below_step z9_ hb)
       clear HO_3
       clear HO_4
       clear HO_6
       clear HO_7
       clear HO_637000
       clear HO_637001
       clear HO_637002
       clear BK636
       clear HB
       have HO_3 := n0_
       have HO_4 := n1_
       have HO_6 := n2_
       have HO_7 := n3_
       have HO_637000 := n4_
       have HO_637001 := n5_
       have HO_637002 := n6_
       have BK636 := n7_
       have HB := n8_
       clear n0_ n1_ n2_ n3_ n4_ n5_ n6_ n7_ n8_
       (try clear hb)
       refine hK.out _ _ ⟨(blk_cell BK636.out 0).trans rfl, (blk_cell BK636.out 1).trans rfl, (blk_cell BK636.out 2).trans rfl⟩ (fun hHeld => ?_)
       clear hK K
       refine zn_ rfl ?_
       refine one_ (i := 7) (N := some 43) (fl_ 34 8) rfl rfl (one_of HT_.out (by kernel_rfl)) (by decide) (fun K hK => ?_)
       refine goes_ Try.func26 (by kernel_rfl) rfl #[.slice Ao14 t621.length co14, .slice Ao16 t624.length co16, .agg #[.slice Ao10 t627.length co10, .slice Ao12 t630.length co12, .slice Ao13 t633.length co13]] (by rfl) rfl rfl z1_ ?_
       with_reducible refine (impl_RootDist.calls kj6 _ _ t621 _ _ t624 _ _ t627 _ _ t630 _ _ t633 t646 _ ?side1 ?side2 ?side3 ?side4 ?side5 ?side6 ?side7 ?side8 ?side9 ?side10 A30.out).mono ?_
       (case side1 => exact z49_)
       (case side2 => exact z182_)
       (case side3 => exact z95_)
       (case side4 => exact z243_)
       (case side5 => exact z54_)
       (case side6 => exact z187_)
       (case side7 => exact z55_)
       (case side8 => exact z188_)
       (case side9 => exact z56_)
       (case side10 => exact z189_)
       rintro e w76 ⟨rfl, hb⟩
       refine ⟨_, rfl, ?_⟩
       have n0_ := Aside0.mk (Kd.Q_below z29_ hb)
       have n1_ := Aside0.mk (Kd.R_below z27_ hb)
       have n2_ := Aside0.mk (Kd.R_below z30_ hb)
       have n3_ := Aside0.mk (Kd.R_below z31_ hb)
       have n4_ := Aside0.mk (Kd.R_below z36_ hb)
       have n5_ := Aside0.mk (Kd.Q_below z37_ hb)
       have n6_ := Aside0.mk (Kd.R_below z38_ hb)
       have n7_ := Aside0.mk (blk_below z20_ hb)
       have n8_ := Aside0.mk (below_step z9_ hb)
       clear HO_3
       clear HO_4
       clear HO_6
       clear HO_7
       clear HO_637000
       clear HO_637001
       clear HO_637002
       clear BK636
       clear HB
       have HO_3 := n0_
       have HO_4 := n1_
       have HO_6 := n2_
       have HO_7 := n3_
       have HO_637000 := n4_
       have HO_637001 := n5_
       have HO_637002 := n6_
       have BK636 := n7_
       have HB := n8_
       clear n0_ n1_ n2_ n3_ n4_ n5_ n6_ n7_ n8_
       (try clear hb)
       refine hK.out _ _ ⟨(blk_cell BK636.out 0).trans rfl, (blk_cell BK636.out 1).trans rfl, (blk_cell BK636.out 2).trans rfl⟩ (fun hHeld => ?_)
       clear hK K
       refine zn_ rfl ?_
       iterate 3 refine zp_ HT_ rfl rfl (by kernel_rfl) (fun _ _ _ h => h) (by rfl) ?_
       refine zpg_ (i := 12) (ra_ [11, 1, 1, 21]) HT_ rfl rfl (by kernel_rfl) (fun _ _ _ h => h) (by rfl) ?_
       refine one_ (i := 11) (N := some 47) (fl_ 34 13) rfl rfl (one_of HT_.out (by kernel_rfl)) (by decide) (fun K hK => ?_)
       refine goes_ Try.func32 (by kernel_rfl) rfl #[.slice Ao73 t637.length co73] (by rfl) rfl rfl z1_ ?_
       with_reducible refine (impl_Mirror.calls kj6 _ _ t637 t647 _ ?side1 ?side2 A32.out).mono ?_
       (case side1 => exact z35_)
       (case side2 => exact z169_)
       rintro e w77 ⟨v648, rfl, ho0, hb⟩
       refine ⟨_, rfl, ?_⟩
       have n0_ := Aside0.mk (Kd.Q_elder' z29_ (Kd.R_base ho0) hb)
       have n1_ := Aside0.mk (Kd.R_elder' z27_ (Kd.R_base ho0) hb)
       have n2_ := Aside0.mk (Kd.R_elder' z30_ (Kd.R_base ho0) hb)
       have n3_ := Aside0.mk (Kd.R_elder' z31_ (Kd.R_base ho0) hb)
       have n4_ := Aside0.mk (Kd.R_below z36_ hb)
       have n5_ := Aside0.mk (Kd.Q_below z37_ hb)
       have n6_ := Aside0.mk (Kd.R_below z38_ hb)
       have n7_ := Aside0.mk (Kd.R_lower (Kd.R_new' (Kd.R_new' (Kd.R_new' (Kd.R_new' ho0 (Kd.Q_lt z29_)) (Kd.R_lt z27_)) (Kd.R_lt z30_)) (Kd.R_lt z31_)) (below_size z9_))
       have n8_ := Aside0.mk (blk_below z20_ hb)
       have n9_ := Aside0.mk (below_step z9_ hb)
       clear HO_3
       clear HO_4
       clear HO_6
       clear HO_7
       clear HO_637000
       clear HO_637001
       clear HO_637002
       clear BK636
       clear HB
       have HO_3 := n0_
       have HO_4 := n1_
       have HO_6 := n2_
       have HO_7 := n3_
       have HO_637000 := n4_
       have HO_637001 := n5_
       have HO_637002 := n6_
       have HO649 := n7_
       have BK636 := n8_
       have HB := n9_
       clear n0_ n1_ n2_ n3_ n4_ n5_ n6_ n7_ n8_ n9_
       (try clear hb)
       (try clear ho0)
       obtain ⟨Ao78, co78, eo78⟩ := Kd.R_slice HO649.out
       (subst eo78)
       refine hK.out _ _ ⟨(blk_cell BK636.out 0).trans rfl, (blk_cell BK636.out 1).trans rfl, (blk_cell BK636.out 2).trans rfl⟩ (fun hHeld => ?_)
       clear hK K
       refine zn_ rfl ?_
       refine one_ (i := 13) (N := some 49) (fl_ 34 14) rfl rfl (one_of HT_.out (by kernel_rfl)) (by decide) (fun K hK => ?_)
       refine goes_ Try.func29 (by kernel_rfl) rfl #[.slice Ao78 t647.length co78, .slice Ao14 t621.length co14] (by rfl) rfl rfl z1_ ?_
       with_reducible refine (spec_SameTree.calls kj6 _ _ t647 _ _ t621 false _ ?side1 ?side2 ?side3 ?side4 A33.out).mono ?_
       (case side1 => exact z129_)
       (case side2 => exact z244_)
       (case side3 => exact z49_)
       (case side4 => exact z182_)
       rintro e w' ⟨rfl, ⟨nd, rfl⟩⟩
       refine ⟨_, rfl, ?_⟩
       refine hK.out _ _ ⟨(blk_cell BK636.out 0).trans rfl, (blk_cell BK636.out 1).trans rfl, (blk_cell BK636.out 2).trans rfl⟩ (fun hHeld => ?_)
       clear hK K
       refine zn_ rfl ?_
       iterate 2 refine zp_ HT_ rfl rfl (by kernel_rfl) (fun _ _ _ h => h) (by rfl) ?_
       iterate 2 refine zu_ HT_ rfl rfl (by kernel_rfl) (fun _ _ _ h => h) (by rfl) ?_
       iterate 2 refine zp_ HT_ rfl rfl (by kernel_rfl) (fun _ _ _ h => h) (by rfl) ?_
       iterate 5 refine zu_ HT_ rfl rfl (by kernel_rfl) (fun _ _ _ h => h) (by rfl) ?_
       iterate 2 refine zp_ HT_ rfl rfl (by kernel_rfl) (fun _ _ _ h => h) (by rfl) ?_
       iterate 5 refine zu_ HT_ rfl rfl (by kernel_rfl) (fun _ _ _ h => h) (by rfl) ?_
       iterate 2 refine zp_ HT_ rfl rfl (by kernel_rfl) (fun _ _ _ h => h) (by rfl) ?_
       refine done_ (done_of HT_.out (by kernel_rfl)) ?_
       try go_wp2
       go_ret
       exact ⟨z6_, z9_⟩
     ·rw [if_neg c31] at H
      have c31b0 : (t645 == t646) = false := beq_eq_false_iff_ne.mpr c31
      have c31b1 : (t645 != t646) = true := bne_iff_ne.mpr c31
      obtain rfl := Option.some.inj H
      try go_wp2
      have n0_ := Aside0.mk (Kd.Q_drew HO_3.out)
      have n1_ := Aside0.mk (Kd.R_drew HO_4.out)
      have n2_ := Aside0.mk (Kd.R_drew HO_6.out)
      have n3_ := Aside0.mk (Kd.R_drew HO_7.out)
      have n4_ := Aside0.mk (Kd.R_drew HO_637000.out)
      have n5_ := Aside0.mk (Kd.Q_drew HO_637001.out)
      have n6_ := Aside0.mk (Kd.R_drew HO_637002.out)
      have n7_ := Aside0.mk (blk_drew BK636.out)
      have n8_ := Aside0.mk (below_drew1 HB.out)
      clear HO_3
      clear HO_4
      clear HO_6
      clear HO_7
      clear HO_637000
      clear HO_637001
      clear HO_637002
      clear BK636
      clear HB
      have HO_3 := n0_
      have HO_4 := n1_
      have HO_6 := n2_
      have HO_7 := n3_
      have HO_637000 := n4_
      have HO_637001 := n5_
      have HO_637002 := n6_
      have BK636 := n7_
      have HB := n8_
      clear n0_ n1_ n2_ n3_ n4_ n5_ n6_ n7_ n8_
      obtain ⟨Ao80, co80, eo80⟩ := Kd.R_slice HO_6.out
      (subst eo80)
      obtain ⟨Ao81, co81, eo81⟩ := Kd.R_slice HO_7.out
      (subst eo81)
      refine start_ (n := 34) (S := fun w' => w'.cell? ⟨gb636, 0, none⟩ = some (.slice Ao10 t627.length co10) ∧ w'.cell? ⟨gb636, 1, none⟩ = some (.slice Ao12 t630.length co12) ∧ w'.cell? ⟨gb636, 2, none⟩ = some (.slice Ao13 t633.length co13)) (ds := []) (fl_ 34 0) (by kernel_rfl) rfl (fl_zero _) ⟨(blk_cell BK636.out 0).trans rfl, (blk_cell BK636.out 1).trans rfl, (blk_cell BK636.out 2).trans rfl⟩ (fun hHeld => ?_); refine with_tabW laws_FnMirrored.tab8 laws_FnMirrored.bits8 (fun HT_ HW_ => ?_)
      generalize wc.drew = w79 at HO_3 HO_4 HO_6 HO_7 HO_637000 HO_637001 HO_637002 BK636 HB hHeld ⊢
      iterate 2 refine zp_ HT_ rfl rfl (by kernel_rfl) (fun _ _ _ h => h) (by rfl) ?_
      refine zpg_ (i := 4) (ra_ [2, 2, 1, 29]) HT_ rfl rfl (by kernel_rfl) (fun _ _ _ h => h) (by rfl) ?_
      refine zpg_ (i := 5) (ra_ [2, 2, 2, 28]) HT_ rfl rfl (by kernel_rfl) (fun _ _ _ h => h) (by rfl) ?_
      refine ztg_ (i := 2) (ra_ [3, 1, 2, 28]) HT_ HW_ rfl rfl (by kernel_rfl) (fun _ _ _ h => h) (by rfl) hHeld ?_ z141_
      refine ztg_ (i := 6) (ra_ [3, 1, 3, 27]) HT_ HW_ rfl rfl (by kernel_rfl) (fun _ _ _ h => h) (by rfl) hHeld ?_ z141_
      refine one_ (i := 3) (N := some 39) (fl_ 34 7) rfl rfl (one_of HT_.out (by kernel_rfl)) (by decide) (fun K hK => ?_)
      refine goes_ Try.func26 (by kernel_rfl) rfl #[.slice Ao80 t637.length co80, .slice Ao81 t640.length co81, .agg #[.slice Ao10 t627.length co10, .slice Ao12 t630.length co12, .slice Ao13 t633.length co13]] (by rfl) rfl rfl z1_ ?_
      with_reducible refine (impl_RootDist.calls kj6 _ _ t637 _ _ t640 _ _ t627 _ _ t630 _ _ t633 t645 _ ?side1 ?side2 ?side3 ?side4 ?side5 ?side6 ?side7 ?side8 ?side9 ?side10 A29.out).mono ?_
      (case side1 => exact z35_)
      (case side2 => exact z169_)
      (case side3 => exact z94_)
      (case side4 => exact z242_)
      (case side5 => exact z54_)
      (case side6 => exact z187_)
      (case side7 => exact z55_)
      (case side8 => exact z188_)
      (case side9 => exact z56_)
      (case side10 => exact z189_)
      rintro e w82 ⟨rfl, hb⟩
      refine ⟨_, rfl, ?_⟩
      have n0_ := Aside0.mk (Kd.Q_below z29_ hb)
      have n1_ := Aside0.mk (Kd.R_below z27_ hb)
      have n2_ := Aside0.mk (Kd.R_below z30_ hb)
      have n3_ := Aside0.mk (Kd.R_below z31_ hb)
      have n4_ := Aside0.mk (Kd.R_below z36_ hb)
      have n5_ := Aside0.mk (Kd.Q_below z37_ hb)
      have n6_ := Aside0.mk (Kd.R_below z38_ hb)
      have n7_ := Aside0.mk (blk_below z20_ hb)
      have n8_ := Aside0.mk (below_step z9_ hb)
      clear HO_3
      clear HO_4
      clear HO_6
      clear HO_7
      clear HO_637000
      clear HO_637001
      clear HO_637002
      clear BK636
      clear HB
      have HO_3 := n0_
      have HO_4 := n1_
      have HO_6 := n2_
      have HO_7 := n3_
      have HO_637000 := n4_
      have HO_637001 := n5_
      have HO_637002 := n6_
      have BK636 := n7_
      have HB := n8_
      clear n0_ n1_ n2_ n3_ n4_ n5_ n6_ n7_ n8_
      (try clear hb)
      refine hK.out _ _ ⟨(blk_cell BK636.out 0).trans rfl, (blk_cell BK636.out 1).trans rfl, (blk_cell BK636.out 2).trans rfl⟩ (fun hHeld => ?_)
      clear hK K
      refine zn_ rfl ?_
      refine one_ (i := 7) (N := some 43) (fl_ 34 8) rfl rfl (one_of HT_.out (by kernel_rfl)) (by decide) (fun K hK => ?_)
      refine goes_ Try.func26 (by kernel_rfl) rfl #[.slice Ao14 t621.length co14, .slice Ao16 t624.length co16, .agg #[.slice Ao10 t627.length co10, .slice Ao12 t630.length co12, .slice Ao13 t633.length co13]] (by rfl) rfl rfl z1_ ?_
      with_reducible refine (impl_RootDist.calls kj6 _ _ t621 _ _ t624 _ _ t627 _ _ t630 _ _ t633 t646 _ ?side1 ?side2 ?side3 ?side4 ?side5 ?side6 ?side7 ?side8 ?side9 ?side10 A30.out).mono ?_
      (case side1 => exact z49_)
      (case side2 => exact z182_)
      (case side3 => exact z95_)
      (case side4 => exact z243_)
      (case side5 => exact z54_)
      (case side6 => exact z187_)
      (case side7 => exact z55_)
      (case side8 => exact z188_)
      (case side9 => exact z56_)
      (case side10 => exact z189_)
      rintro e w83 ⟨rfl, hb⟩
      refine ⟨_, rfl, ?_⟩
      have n0_ := Aside0.mk (Kd.Q_below z29_ hb)
      have n1_ := Aside0.mk (Kd.R_below z27_ hb)
      have n2_ := Aside0.mk (Kd.R_below z30_ hb)
      have n3_ := Aside0.mk (Kd.R_below z31_ hb)
      have n4_ := Aside0.mk (Kd.R_below z36_ hb)
      have n5_ := Aside0.mk (Kd.Q_below z37_ hb)
      have n6_ := Aside0.mk (Kd.R_below z38_ hb)
      have n7_ := Aside0.mk (blk_below z20_ hb)
      have n8_ := Aside0.mk (below_step z9_ hb)
      clear HO_3
      clear HO_4
      clear HO_6
      clear HO_7
      clear HO_637000
      clear HO_637001
      clear HO_637002
      clear BK636
      clear HB
      have HO_3 := n0_
      have HO_4 := n1_
      have HO_6 := n2_
      have HO_7 := n3_
      have HO_637000 := n4_
      have HO_637001 := n5_
      have HO_637002 := n6_
      have BK636 := n7_
      have HB := n8_
      clear n0_ n1_ n2_ n3_ n4_ n5_ n6_ n7_ n8_
      (try clear hb)
      refine hK.out _ _ ⟨(blk_cell BK636.out 0).trans rfl, (blk_cell BK636.out 1).trans rfl, (blk_cell BK636.out 2).trans rfl⟩ (fun hHeld => ?_)
      clear hK K
      refine zn_ rfl ?_
      iterate 2 refine zp_ HT_ rfl rfl (by kernel_rfl) (fun _ _ _ h => h) (by rfl) ?_
      iterate 4 refine zu_ HT_ rfl rfl (by kernel_rfl) (fun _ _ _ h => h) (by rfl) ?_
      iterate 2 refine zp_ HT_ rfl rfl (by kernel_rfl) (fun _ _ _ h => h) (by rfl) ?_
      iterate 2 refine zu_ HT_ rfl rfl (by kernel_rfl) (fun _ _ _ h => h) (by rfl) ?_
      iterate 2 refine zp_ HT_ rfl rfl (by kernel_rfl) (fun _ _ _ h => h) (by rfl) ?_
      iterate 5 refine zu_ HT_ rfl rfl (by kernel_rfl) (fun _ _ _ h => h) (by rfl) ?_
      iterate 2 refine zp_ HT_ rfl rfl (by kernel_rfl) (fun _ _ _ h => h) (by rfl) ?_
      iterate 5 refine zu_ HT_ rfl rfl (by kernel_rfl) (fun _ _ _ h => h) (by rfl) ?_
      iterate 2 refine zp_ HT_ rfl rfl (by kernel_rfl) (fun _ _ _ h => h) (by rfl) ?_
      refine done_ (done_of HT_.out (by kernel_rfl)) ?_
      try go_wp2
      go_ret
      exact ⟨z6_, z9_⟩

/-- THE ONE PURE STATEMENT of laws_FnMirrored: yours. -/
def laws_FnMirrored.Pure : Prop := ∀ (l0 : List Int), l0.length ≤ maxLen → l0.length * 1 ≤ 140737488351232 → (∀ x ∈ l0, (Lit.int .u8 x).wf = true) → ∃ k, laws_FnMirrored.f k l0 = some true
theorem laws_FnMirrored.walk (P : laws_FnMirrored.Pure) (a0 : Option Addr) (len0 cap0 : Nat) (z0 : List Int) (w : World) (w0 : (a0 = none ∧ len0 = 0 ∧ cap0 = 0 ∧ z0 = []) ∨ ∃ x, a0 = some x ∧ len0 ≤ cap0 ∧ cap0 ≤ maxLen ∧ z0.length = cap0 ∧ (∀ i, i < z0.length → w.cell? (x.add i) = some (.int .u8 (z0.getD i 0))) ∧ ∀ n ∈ z0, (Lit.int .u8 n).wf = true) (y0 : len0 * 1 ≤ 140737488351232) :
  Calls Try.prog 8 #[.slice a0 len0 cap0] w fun e w' => e = .returned (.bool true) ∧ Below w.heap.size w w' := by
 obtain ⟨l0, rfl, hr0, hm0, hw0, hc0⟩ := ReadsInt.ofRowC w0
 obtain ⟨k, h⟩ := P l0 hm0 y0 hw0
 refine (laws_FnMirrored.calls k _ _ l0 true w (Kd.C_of_reads (d := (0 : Int)) (h1 := fun _ => rfl) hr0) hc0 h).mono ?_
 rintro e w' ⟨rfl, hd⟩
 exact ⟨rfl, hd⟩

end Go.Proofs.Ytbmkobanpakohaa.PFnMirrored
