/- Laid by a program of this session out of the kit's print for the law FnMirrored: what it says of the machine is proved here, function by function; each contract under the conditions that it names. -/
import Derived.Test.YtbmkobanpakohaaMFnMirroredx0
import Derived.Test.YtbmkobanpakohaaMFnMirroredx7
import Derived.Test.YtbmkobanpakohaaMFnMirroredx8
import Derived.Test.YtbmkobanpakohaaMFnMirroredx10
import Derived.Test.YtbmkobanpakohaaMFnMirroredx11
namespace Go.Proofs.Ytbmkobanpakohaa.PFnMirrored
open Go.RowKit Go.Proofs.YtbmkobanpakohaaW.PrintWords Go.Proofs.YtbmkobanpakohaaW.PrintLast Go.Proofs.YtbmkobanpakohaaW.PrintMore
attribute [local go_sem] max2_int min2_int max_two min_two max_three min_three max_four min_four   -- for this text's walks alone
set_option linter.unusedVariables false
set_option linter.unusedSimpArgs false

/-! ### spec_l3Near: function 52 -/
mutual
def spec_l3Near.l0 : Nat → List (S61) → Int → List Int → Int → Int → Option ((List (S61)) × Int × Int)
 | 0, _, _, _, _, _ => none
 | k + 1, x5, x6, x1000, x1001, x1002 => if x6 > 0 then (spec_l3Near.j1 k x5 x6 (decide ((x5.length : Int) > 0)) x1000 x1001 x1002) else (spec_l3Near.j1 k x5 x6 false x1000 x1001 x1002)
def spec_l3Near.j1 : Nat → List (S61) → Int → Bool → List Int → Int → Int → Option ((List (S61)) × Int × Int)
 | 0, _, _, _, _, _, _ => none
 | k + 1, x5, x6, x19, x1000, x1001, x1002 => if x19 = true then ((spec_l1Below.f x1000 x1001 x1002 (x5.length : Int)).bind fun bt452 => ((spec_l1Below.f x1000 bt452.2.1 bt452.2.2 3).bind fun bt455 => (if bt455.1 = 0 then ((spec_l2Label.f x1000 bt455.2.1 bt455.2.2).bind fun bt458 => (if 0 ≤ bt452.1 then (if bt452.1 < (x5.length : Int) then (spec_l3Near.l0 k (x5.set (bt452.1 : Int).toNat (⟨bt458.1, (rd_T61 x5 bt452.1).f1⟩ : S61)) (wrap64 (x6 - 1)) x1000 bt458.2.1 bt458.2.2) else (none)) else (none))) else (if bt455.1 = 1 then (if bt452.1 > 0 then (if (x5.length : Int) > 1 then (if 0 ≤ bt452.1 then (if bt452.1 ≤ (x5.length : Int) then ((spec_l3Copy.f (x5.take (bt452.1 : Int).toNat)).bind fun t466 => (if 0 ≤ (wrap64 (bt452.1 + 1)) then (if (wrap64 (bt452.1 + 1)) ≤ (x5.length : Int) then ((some (x5.drop ((wrap64 (bt452.1 + 1)) : Int).toNat : List (S61))).bind fun y469 => (if t466.length + y469.length < 8796093022208 then (spec_l3Near.l0 k (t466 ++ y469) (wrap64 (x6 - 1)) x1000 bt455.2.1 bt455.2.2) else (none))) else (none)) else (none))) else (none)) else (none)) else (spec_l3Near.l0 k x5 (wrap64 (x6 - 1)) x1000 bt455.2.1 bt455.2.2)) else (spec_l3Near.l0 k x5 (wrap64 (x6 - 1)) x1000 bt455.2.1 bt455.2.2)) else ((spec_l3Copy.f x5).bind fun t476 => ((spec_l2Label.f x1000 bt455.2.1 bt455.2.2).bind fun bt479 => (if 0 ≤ (wrap64 ((x5.length : Int) - 1)) then (if (wrap64 ((x5.length : Int) - 1)) < (x5.length : Int) then ((spec_l1Below.f x1000 bt479.2.1 bt479.2.2 (wrap64 (((rd_T61 x5 (wrap64 ((x5.length : Int) - 1))).f1) + 1))).bind fun bt483 => (if t476.length < 8796093022208 then (spec_l3Near.l0 k (t476 ++ [(⟨bt479.1, wrap64 (1 + bt483.1)⟩ : S61)]) (wrap64 (x6 - 1)) x1000 bt483.2.1 bt483.2.2) else (none))) else (none)) else (none)))))))) else ((spec_TreeOk.f k x5).bind fun t489 => (if t489 = true then (some (x5, x1001, x1002)) else ((spec_l3Tree.f k x1000 x1001 x1002 8).bind fun bt490 => (some (bt490.1, bt490.2.1, bt490.2.2)))))
end
def spec_l3Near.f (k : Nat) (s0_0 : List Int) (s0_1 : Int) (s0_2 : Int) (l1 : List (S61)) : Option ((List (S61)) × Int × Int) := (spec_l3Copy.f l1).bind fun t446 => ((spec_l1Below.f s0_0 s0_1 s0_2 3).bind fun bt449 => (spec_l3Near.l0 k t446 (wrap64 (1 + bt449.1)) s0_0 bt449.2.1 bt449.2.2))
def spec_l3Near.T7 : Bool × List (List Nat × List Nat) := (true, [([], []), ([0], [0]), ([], []), ([2, 1], [2]), ([], []), ([], []), ([], []), ([6], [6]), ([7], [7]), ([5, 8], [5, 8]), ([9], [9]), ([10], [10]), ([11], [11]), ([4, 12, 3], [4, 12]), ([13], [13]), ([3, 14], [3, 14]), ([15], [15]), ([1, 16, 13], [1, 16]), ([17, 17, 0, 1, 2, 3, 4, 5, 6, 7, 8, 9, 10, 11, 12, 13, 14, 15, 16, 17], [0, 5, 6, 17])])
def spec_l3Near.B7 : List Nat := [0, 1, 0, 7, 0, 0, 0, 64, 192, 480, 992, 2016, 4064, 8191, 16383, 32767, 65535, 131071, 262143]
theorem spec_l3Near.tab7 : rtab .any (opsOf Try.f52 7) = spec_l3Near.T7 := by kernel_rfl
theorem spec_l3Near.bits7 : waitsOk spec_l3Near.T7.2 spec_l3Near.B7 = true := by kernel_rfl
def spec_l3Near.T12 : Bool × List (List Nat × List Nat) := (true, [([], []), ([], []), ([0, 1], [0, 1]), ([2], [2]), ([], []), ([], []), ([5], [5]), ([4, 6], [4, 6]), ([3, 7, 3], [3, 7]), ([8, 8, 0, 1, 2, 3, 4, 5, 6, 7, 8], [0, 4, 8])])
def spec_l3Near.B12 : List Nat := [0, 0, 3, 7, 0, 0, 32, 112, 255, 511]
theorem spec_l3Near.tab12 : rtab .any (opsOf Try.f52 12) = spec_l3Near.T12 := by kernel_rfl
theorem spec_l3Near.bits12 : waitsOk spec_l3Near.T12.2 spec_l3Near.B12 = true := by kernel_rfl
set_option maxHeartbeats 8000000 in
set_option maxRecDepth 100000 in
theorem spec_l3Near.calls (k : Nat) (g : Nat) (s0_0 : List Int) (s0_1 : Int) (s0_2 : Int) (A1 : Option Addr) (c1 : Nat) (l1 : List (S61)) (r1 : List (S61)) (r2 : Int) (r3 : Int) (w0 w : World) (hI : IsS86 w0 w g s0_0 s0_1 s0_2) (hB : Below w0.heap.size w0 w) (hr1 : ∀ W_, KeepBut w W_ g none → Kd.C k61 W_ A1 l1.length l1) (hc1 : l1.length ≤ c1) (h : spec_l3Near.f k s0_0 s0_1 s0_2 l1 = some (r1, r2, r3)) :
  Calls Try.prog 52 #[.pointer (some ⟨g, 0, none⟩), .slice A1 l1.length c1] w fun e w' => ∃ v0_ : Value, e = .returned (v0_) ∧ Kd.R k61 61 w' w.heap.size (fun _ => True) v0_ r1 ∧ IsS86 w0 w' g s0_0 r2 r3 ∧ Below w0.heap.size w0 w' ∧ KeepBut w w' g none := by
 have hu61 := Try.underlying61
 have HR1 := Aside0.mk hr1
 have HC1 := Aside0.mk hc1
 clear hr1 hc1
 have HI0 := Aside0.mk hI
 have HK := Aside0.mk (KeepBut.refl w g none)
 have HL := Aside0.mk hB.size
 clear hI
 have HW0 := Aside0.mk hB.size
 have HB := Aside0.mk hB
 clear hB
 have H : ((spec_l3Copy.f l1).bind fun t446 => ((spec_l1Below.f s0_0 s0_1 s0_2 3).bind fun bt449 => (spec_l3Near.l0 k t446 (wrap64 (1 + bt449.1)) s0_0 bt449.2.1 bt449.2.2))) = some (r1, r2, r3) := h
 clear h
 obtain ⟨t446, A3, H⟩ := bnd_ H
 replace H := Option.bind_eq_some_iff.mp H
 obtain ⟨⟨t449, t450, t451⟩, A40, H⟩ := H
 try dsimp only at H
 have A4 := Aside0.mk A40
 clear A40
 have H' := Aside0.mk H
 clear H
 go_enter Try.func52, Try.ntmps52
 go_wp2_with (first | ((with_reducible refine gate_callee (f := 72) rfl ?_); refine goesL_ (some 9) rfl rfl Try.func72 (by kernel_rfl) rfl #[.slice A1 l1.length c1] rfl z1_ ?_; (with_reducible refine (spec_l3Copy.calls _ _ l1 t446 _ ?side1 ?side2 A3.out).mono ?_); (case side1 => exact Kd.C_foot_now HR1.out z2_); (case side2 => exact HC1.out); rintro e w5 ⟨v447, rfl, ho0, hb⟩; refine ⟨_, rfl, ?_⟩; have HO448 := Aside0.mk (Kd.R_lower ho0 (keep_size (w := w) (g := g) (row := none) z2_)); replace HK := Aside0.mk (KeepBut.trans z2_ (KeepBut.of_below hb g none) (.inl rfl)); replace HB := Aside0.mk (below_step z4_ hb); replace HI0 := Aside0.mk (IsS86.below z3_ hb); (try clear hb ho0)) | ((with_reducible refine gate_callee (f := 64) rfl ?_); refine goesL_ (some 11) rfl rfl Try.func64 (by kernel_rfl) rfl #[.pointer (some ⟨g, 0, none⟩), .int .i64 3] rfl z1_ ?_; (with_reducible refine (spec_l1Below.calls g s0_0 s0_1 s0_2 3 t449 t450 t451 w0 _ ?side1 ?side2 A4.out).mono ?_); (case side1 => exact z3_); (case side2 => exact z4_); rintro e w6 ⟨rfl, hi, hb, hk⟩; refine ⟨_, rfl, ?_⟩; replace HO448 := Aside0.mk (Kd.R_mono (Kd.R_keep (IsS86.apart (show IsS86 w0 _ g s0_0 s0_1 s0_2 from by repeat ((with_reducible exact HI0.out))) z226_ (by decide)) hk (fun _ h => h.2)) (fun _ h => h.1)); replace HK := Aside0.mk (KeepBut.trans z2_ hk (.inl rfl)); replace HB := Aside0.mk (hb); replace HI0 := Aside0.mk (hi); (try clear hb hk hi)))
 go_loopg [5, 6] k (fun kq v5 v6 w' => ∃ (x5_1 : List (S61)) (x6_1 : Int) (x1001_1 : Int) (x1002_1 : Int), v6 = .int .i64 x6_1 ∧ Aside0 (spec_l3Near.l0 kq x5_1 x6_1 s0_0 x1001_1 x1002_1 = some (r1, r2, r3)) ∧ Aside0 (kq ≤ k) ∧ Aside0 (Kd.R k61 61 w' w.heap.size (fun _ => True) v5 x5_1) ∧ Aside0 (IsS86 w0 w' g s0_0 x1001_1 x1002_1) ∧ Aside0 (KeepBut w w' g none) ∧ Aside0 (Below w0.heap.size w0 w'))
 case atStart => exact ⟨(t446), (wrap64 (1 + t449)), (t450), (t451), z10_, H', ⟨Nat.le_refl _⟩, ⟨z226_⟩, ⟨z3_⟩, ⟨z2_⟩, ⟨z4_⟩⟩
 case round =>
  clear H'
  obtain ⟨x5_1, x6_1, x1001_1, x1002_1, rfl, HA, HK1, HO_5, HI0, HK, HB⟩ := hrel
  cases gk with
  | zero => exact absurd HA.out (by simp [spec_l3Near.l0])
  | succ k1 =>
   have H := HA.out
   clear HA
   simp only [spec_l3Near.l0] at H
   have HC7 := Aside0.mk H
   clear H
   go_upto_region 3 with (fail)
   go_cut [19] (fun v19 wc => ∃ (kq : Nat) (x19_6 : Bool), v19 = .bool x19_6 ∧ Aside0 (spec_l3Near.j1 kq x5_1 x6_1 x19_6 s0_0 x1001_1 x1002_1 = some (r1, r2, r3)) ∧ Aside0 (kq ≤ k1) ∧ Aside0 (Kd.R k61 61 wc w.heap.size (fun _ => True) u5 x5_1) ∧ Aside0 (IsS86 w0 wc g s0_0 x1001_1 x1002_1) ∧ Aside0 (KeepBut w wc g none) ∧ Aside0 (Below w0.heap.size w0 wc))
   case first =>
    have H := HC7.out
    clear HC7
    by_cases c8 : x6_1 > 0
    ·rw [if_pos c8] at H
     have c8b0 := decide_eq_true c8
     clear c8
     have H' := Aside0.mk H
     clear H
     obtain ⟨Ao9, co9, eo9⟩ := Kd.R_slice HO_5.out
     subst eo9
     go_wp2
     go_meet
     case rel => exact ⟨_, (decide ((x5_1.length : Int) > 0)), z10_, H', ⟨z228_⟩, ⟨z8_⟩, ⟨z3_⟩, ⟨z2_⟩, ⟨z4_⟩⟩
    ·rw [if_neg c8] at H
     have c8b0 := decide_eq_false c8
     clear c8
     have H' := Aside0.mk H
     clear H
     go_wp2
     go_meet
     case rel => exact ⟨_, (false), z10_, H', ⟨z228_⟩, ⟨z8_⟩, ⟨z3_⟩, ⟨z2_⟩, ⟨z4_⟩⟩
   case rest =>
    clear HC7
    obtain ⟨kq, x19_6, rfl, HA, HJ6, HO_5, HI0, HK, HB⟩ := hcut
    cases kq with
    | zero => exact absurd HA.out (by simp [spec_l3Near.j1])
    | succ kj6 =>
     have H := HA.out
     clear HA
     simp only [spec_l3Near.j1] at H
     by_cases c10 : x19_6 = true
     ·subst c10
      replace H := ift_ H
      replace H := Option.bind_eq_some_iff.mp H
      obtain ⟨⟨t452, t453, t454⟩, A110, H⟩ := H
      try dsimp only at H
      have A11 := Aside0.mk A110
      clear A110
      replace H := Option.bind_eq_some_iff.mp H
      obtain ⟨⟨t455, t456, t457⟩, A120, H⟩ := H
      try dsimp only at H
      have A12 := Aside0.mk A120
      clear A120
      by_cases c13 : t455 = 0
      ·rw [if_pos c13] at H
       have c13b0 : (t455 == 0) = true := beq_iff_eq.mpr c13
       have c13b1 : (t455 != 0) = false := bne_eq_false_iff_eq.mpr c13
       clear c13
       replace H := Option.bind_eq_some_iff.mp H
       obtain ⟨⟨t458, t459, t460⟩, A140, H⟩ := H
       try dsimp only at H
       have A14 := Aside0.mk A140
       clear A140
       obtain ⟨c15b0, H⟩ := ifd_ H
       obtain ⟨c16b0, H⟩ := ifd_ H
       (generalize hy_ : ((x5_1.set (t452 : Int).toNat (⟨t458, (rd_T61 x5_1 t452).f1⟩ : S61)) : List (S61)) = y461 at H; have Ny461 := Aside0.mk hy_.symm; clear hy_)
       have H' := Aside0.mk H
       clear H
       obtain ⟨Ao18, co18, eo18⟩ := Kd.R_slice HO_5.out
       subst eo18
       go_wp2_with (first | ((with_reducible refine gate_callee (f := 64) rfl ?_); refine goesL_ (some 25) rfl rfl Try.func64 (by kernel_rfl) rfl #[.pointer (some ⟨g, 0, none⟩), .int .i64 (x5_1.length : Int)] rfl z1_ ?_; (with_reducible refine (spec_l1Below.calls g s0_0 x1001_1 x1002_1 (x5_1.length : Int) t452 t453 t454 w0 _ ?side1 ?side2 A11.out).mono ?_); (case side1 => exact z3_); (case side2 => exact z4_); rintro e w19 ⟨rfl, hi, hb, hk⟩; refine ⟨_, rfl, ?_⟩; replace HO_5 := Aside0.mk (Kd.R_mono (Kd.R_keep (IsS86.apart (show IsS86 w0 _ g s0_0 x1001_1 x1002_1 from by repeat ((with_reducible exact HI0.out))) z8_ (by decide)) hk (fun _ h => h.2)) (fun _ h => h.1)); replace HK := Aside0.mk (KeepBut.trans z2_ hk (.inl rfl)); replace HB := Aside0.mk (hb); replace HI0 := Aside0.mk (hi); (try clear hb hk hi)) | ((with_reducible refine gate_callee (f := 64) rfl ?_); refine goesL_ (some 27) rfl rfl Try.func64 (by kernel_rfl) rfl #[.pointer (some ⟨g, 0, none⟩), .int .i64 3] rfl z1_ ?_; (with_reducible refine (spec_l1Below.calls g s0_0 t453 t454 3 t455 t456 t457 w0 _ ?side1 ?side2 A12.out).mono ?_); (case side1 => exact z3_); (case side2 => exact z4_); rintro e w20 ⟨rfl, hi, hb, hk⟩; refine ⟨_, rfl, ?_⟩; replace HO_5 := Aside0.mk (Kd.R_mono (Kd.R_keep (IsS86.apart (show IsS86 w0 _ g s0_0 t453 t454 from by repeat ((with_reducible exact HI0.out))) z8_ (by decide)) hk (fun _ h => h.2)) (fun _ h => h.1)); replace HK := Aside0.mk (KeepBut.trans z2_ hk (.inl rfl)); replace HB := Aside0.mk (hb); replace HI0 := Aside0.mk (hi); (try clear hb hk hi)) | ((with_reducible refine gate_callee (f := 73) rfl ?_); refine goesL_ (some 51) rfl rfl Try.func73 (by kernel_rfl) rfl #[.pointer (some ⟨g, 0, none⟩)] rfl z1_ ?_; (with_reducible refine (spec_l2Label.calls g s0_0 t456 t457 t458 t459 t460 w0 _ ?side1 ?side2 A14.out).mono ?_); (case side1 => exact z3_); (case side2 => exact z4_); rintro e w21 ⟨rfl, hi, hb, hk⟩; refine ⟨_, rfl, ?_⟩; replace HO_5 := Aside0.mk (Kd.R_mono (Kd.R_keep (IsS86.apart (show IsS86 w0 _ g s0_0 t456 t457 from by repeat ((with_reducible exact HI0.out))) z8_ (by decide)) hk (fun _ h => h.2)) (fun _ h => h.1)); replace HK := Aside0.mk (KeepBut.trans z2_ hk (.inl rfl)); replace HB := Aside0.mk (hb); replace HI0 := Aside0.mk (hi); (try clear hb hk hi); have p17 : 0 ≤ (t452 : Int) := odt_; have q17 : (t452 : Int) < ((x5_1.length : Int) : Int) := odt_; obtain ⟨go17, co17, eo17, gb17, gl17, cl17, HG17⟩ := Kd.R_form HO_5.out (by omega); (cases eo17); have GB17 := Aside0.mk gb17; have GG17 := Aside0.mk HG17; clear gb17 gl17 HG17; obtain ⟨ce17, hcl17, hM17, hcc17, hfr17⟩ := Kd.R_elem HO_5.out z61 (t452 : Int) p17 q17; obtain rfl := k61_openM hM17; have hx17_0 : w21.cell? ⟨go17, (t452 : Int).toNat * 2, none⟩ = some (.int .i64 ((rd_T61 x5_1 t452).f0)) := hcc17 0 _ rfl; have hx17_1 : w21.cell? ⟨go17, (t452 : Int).toNat * 2 + 1, none⟩ = some (.int .i64 ((rd_T61 x5_1 t452).f1)) := hcc17 1 _ rfl; have hf17_0 : w21.frozen? ⟨go17, (t452 : Int).toNat * 2, none⟩ = false := hfr17 0; have hf17_1 : w21.frozen? ⟨go17, (t452 : Int).toNat * 2 + 1, none⟩ = false := hfr17 1; clear hcl17 hcc17 hfr17 hM17; replace p17 := eq_true p17; replace q17 := eq_true q17; have HX22 := Aside0.mk (show Kd.R k61 61 w21 w.heap.size (fun _ => True) (.slice (some ⟨go17, 0, none⟩) x5_1.length co18) x5_1 from z8_); obtain ⟨ce22, hcl22, hM22, hcc22, hfr22⟩ := Kd.R_elem HX22.out z61 (t452 : Int) (odt_) (by have h_ : (t452 : Int) < ((x5_1.length : Int) : Int) := odt_; exact h_); obtain rfl := k61_openM hM22; have HP22 := Kd.R_seg HX22.out (t452 : Int) (odt_) (by have h_ : (t452 : Int) < ((x5_1.length : Int) : Int) := odt_; exact h_) (seg := [.int .i64 t458]) (j := 0) hcl22 hcc22 (show 1 ≤ 2 from by decide) (x' := (⟨t458, (rd_T61 x5_1 t452).f1⟩ : S61)) (k61_mkM _ _ _ (⟨t458, (rd_T61 x5_1 t452).f1⟩ : S61) ) (fun _ hk => hk); have hx22_0 := hcc22 0 _ rfl; (try simp only [show (k61).sz = 2 from rfl, Nat.mul_one, Nat.add_zero] at hx22_0); have hf22_0 := hfr22 0; (try simp only [show (k61).sz = 2 from rfl, Nat.mul_one, Nat.add_zero] at hf22_0); clear hcl22 hcc22 hfr22 hM22) | ((with_reducible refine gate_store (t := 3) (p := 53) rfl ?_); refine store_event (t := 3) (p := 53) (v := ?vo_w23) (w1 := (w21.setCell ⟨go17, (t452 : Int).toNat * 2, none⟩ (.int .i64 t458))) ?hg ?ho ?hn ?hr ?_; (case ho => rfl); (case hg => rfl); (case hn => rfl); (case hr => exact z19_); intro w23 hw; have hg : w21.grownBy w23 (some go17) := (by rw [hw]; exact HP22.2); have hp_ : Kd.R k61 61 w23 w.heap.size (fun _ => True) (.slice (some ⟨go17, 0, none⟩) x5_1.length co18) y461 := (by rw [hw, Ny461.out]; exact HP22.1); clear HP22; replace HI0 := Aside0.mk (IsS86.grown z3_ hg (IsS86.own_ne HI0.out HO_5.out (by decide))); replace HB := Aside0.mk ((by rw [hw]; exact below_set (HB.out) (Nat.le_trans HL.out GB17.out) : Below w0.heap.size w0 w23)); replace HK := Aside0.mk (KeepBut.trans z2_ (KeepBut.of_grown hg g) (Kd.R_base2 HO_5.out)); replace HO_5 := Aside0.mk (hp_); clear hg hw hp_))
       go_roundg kj6
       case measure => have := HK1.out; have := HJ6.out; omega
       case rel => exact ⟨(y461), (wrap64 (x6_1 - 1)), (t459), (t460), z10_, H', ⟨z236_⟩, ⟨z8_⟩, ⟨z3_⟩, ⟨z2_⟩, ⟨z4_⟩⟩
      ·rw [if_neg c13] at H
       have c13b0 : (t455 == 0) = false := beq_eq_false_iff_ne.mpr c13
       have c13b1 : (t455 != 0) = true := bne_iff_ne.mpr c13
       by_cases c24 : t455 = 1
       ·rw [if_pos c24] at H
        have c24b0 : (t455 == 1) = true := beq_iff_eq.mpr c24
        have c24b1 : (t455 != 1) = false := bne_eq_false_iff_eq.mpr c24
        clear c24
        by_cases c25 : t452 > 0
        ·rw [if_pos c25] at H
         have c25b0 := decide_eq_true c25
         clear c25
         by_cases c26 : (x5_1.length : Int) > 1
         ·rw [if_pos c26] at H
          have c26b0 := decide_eq_true c26
          have c26b1 : decide (1 < x5_1.length) = true := decide_eq_true (by omega)
          clear c26
          obtain ⟨c27b0, c27b1, H⟩ := ife_ H
          obtain ⟨c28b0, c28b1, H⟩ := ife_ H
          (generalize hy_ : ((x5_1.take (t452 : Int).toNat) : List (S61)) = y462 at H; have Ny462 := Aside0.mk hy_.symm; clear hy_)
          obtain ⟨t466, A29, H⟩ := bnd_ H
          obtain ⟨ji30, hji30⟩ : ∃ j_ : Int, (wrap64 (t452 + 1)) = j_ := ⟨_, rfl⟩
          rw [hji30] at H
          have hji30w : (IntKind.i64.wrap (t452 + 1)) = ji30 := (i64_w _).trans hji30
          obtain ⟨c31b0, c31b1, H⟩ := ife_ H
          obtain ⟨c32b0, c32b1, H⟩ := ife_ H
          ((with_reducible have hz_ := gy_ H); obtain ⟨y469, Ny469, H⟩ := hz_)
          obtain ⟨c33, H⟩ := ifs_ H
          have LMc33 := Aside0.mk c33
          clear c33
          (generalize hy_ : ((t466 ++ y469) : List (S61)) = y473 at H; have Ny473 := Aside0.mk hy_.symm; clear hy_)
          have H' := Aside0.mk H
          clear H
          obtain ⟨Ao34, co34, eo34⟩ := Kd.R_slice HO_5.out
          subst eo34
          try go_wp2_with (first | ((with_reducible refine gate_callee (f := 64) rfl ?_); refine goesL_ (some 25) rfl rfl Try.func64 (by kernel_rfl) rfl #[.pointer (some ⟨g, 0, none⟩), .int .i64 (x5_1.length : Int)] rfl z1_ ?_; (with_reducible refine (spec_l1Below.calls g s0_0 x1001_1 x1002_1 (x5_1.length : Int) t452 t453 t454 w0 _ ?side1 ?side2 A11.out).mono ?_); (case side1 => exact z3_); (case side2 => exact z4_); rintro e w35 ⟨rfl, hi, hb, hk⟩; refine ⟨_, rfl, ?_⟩; replace HO_5 := Aside0.mk (Kd.R_mono (Kd.R_keep (IsS86.apart (show IsS86 w0 _ g s0_0 x1001_1 x1002_1 from by repeat ((with_reducible exact HI0.out))) z8_ (by decide)) hk (fun _ h => h.2)) (fun _ h => h.1)); replace HK := Aside0.mk (KeepBut.trans z2_ hk (.inl rfl)); replace HB := Aside0.mk (hb); replace HI0 := Aside0.mk (hi); (try clear hb hk hi)) | ((with_reducible refine gate_callee (f := 64) rfl ?_); refine goesL_ (some 27) rfl rfl Try.func64 (by kernel_rfl) rfl #[.pointer (some ⟨g, 0, none⟩), .int .i64 3] rfl z1_ ?_; (with_reducible refine (spec_l1Below.calls g s0_0 t453 t454 3 t455 t456 t457 w0 _ ?side1 ?side2 A12.out).mono ?_); (case side1 => exact z3_); (case side2 => exact z4_); rintro e w36 ⟨rfl, hi, hb, hk⟩; refine ⟨_, rfl, ?_⟩; replace HO_5 := Aside0.mk (Kd.R_mono (Kd.R_keep (IsS86.apart (show IsS86 w0 _ g s0_0 t453 t454 from by repeat ((with_reducible exact HI0.out))) z8_ (by decide)) hk (fun _ h => h.2)) (fun _ h => h.1)); replace HK := Aside0.mk (KeepBut.trans z2_ hk (.inl rfl)); replace HB := Aside0.mk (hb); replace HI0 := Aside0.mk (hi); (try clear hb hk hi)))
          have n0_ := Aside0.mk (Kd.R_drew HO_5.out)
          have n1_ := Aside0.mk (IsS86.drew HI0.out)
          have n2_ := Aside0.mk (keep_drew HK.out)
          have n3_ := Aside0.mk (below_drew1 HB.out)
          clear HO_5
          clear HI0
          clear HK
          clear HB
          have HO_5 := n0_
          have HI0 := n1_
          have HK := n2_
          have HB := n3_
          clear n0_ n1_ n2_ n3_
          have q38 : (t452 : Int) ≤ ((x5_1.length : Int) : Int) := odt_
          obtain ⟨i038, hi038, _, hsz38, _⟩ := info_parts info61
          have hroom38 : x5_1.length ≤ co34 := (Kd.R_reads' HO_5.out).2.1
          have hC38 : Kd.C k61 _ Ao34 x5_1.length x5_1 := (Kd.R_reads' HO_5.out).2.2
          have hcut38 := cut_to (P := Try.prog) 25 61 .i64 Try.underlying25 hi038 Ao34 x5_1.length co34 t452 (odt_) q38 hroom38
          have hr38 := Kd.C_take (m := (t452 : Int).toNat) hC38 (by omega)
          have hy38 : y462.length = (t452 : Int).toNat := (by rw [Ny462.out, List.length_take]; omega)
          rw [← Ny462.out] at hr38
          rw [← hy38] at hcut38
          have HR465 := Aside0.mk hr38
          have HC465 := Aside0.mk (show y462.length ≤ co34 from by omega)
          clear hr38 hC38 hroom38 hi038 hsz38
          have KY38 := Aside0.mk hy38
          clear hy38
          have KL38 := Aside0.mk (show (t452 : Int).toNat ≤ x5_1.length from by omega)
          replace q38 := eq_true q38
          have q39 : ((ji30) : Int) ≤ ((x5_1.length : Int) : Int) := odt_
          obtain ⟨i039, hi039, _, hsz39, _⟩ := info_parts info61
          have hroom39 : x5_1.length ≤ co34 := (Kd.R_reads' HO_5.out).2.1
          have hC39 : Kd.C k61 _ Ao34 x5_1.length x5_1 := (Kd.R_reads' HO_5.out).2.2
          have q039 : (0 : Int) ≤ ((ji30) : Int) := odt_
          have hcut39 := cut_from (P := Try.prog) 25 61 .i64 Try.underlying25 hi039 2 hsz39 Ao34 x5_1.length co34 (ji30) q039 q39
          have hr39 := Kd.C_drop (m := ((ji30) : Int).toNat) (c := co34) hC39 (by omega) hroom39
          obtain ⟨A39, hA39⟩ : ∃ A1, A1 = (if co34 = ((ji30) : Int).toNat then Ao34 else (Ao34 : Option Addr).map (·.add (((ji30) : Int).toNat * 2))) := ⟨_, rfl⟩
          obtain ⟨c39, hc39⟩ : ∃ c1, c1 = co34 - ((ji30) : Int).toNat := ⟨_, rfl⟩
          have hy39 : y469.length = x5_1.length - ((ji30) : Int).toNat := (by rw [Ny469.out, List.length_drop] <;> omega)
          rw [show (x5_1).drop ((ji30) : Int).toNat = y469 from Ny469.out.symm] at hr39
          replace hr39 : Kd.C k61 _ A39 y469.length y469 := (by rw [hA39]; exact hr39)
          rw [← hy39, ← hA39, ← hc39] at hcut39
          have HR472 := Aside0.mk hr39
          have HC472 := Aside0.mk (show y469.length ≤ c39 from by rw [hy39, hc39]; exact Nat.sub_le_sub_right hroom39 _)
          clear hr39 hC39 hroom39 hi039 hsz39 hc39
          have KY39 := Aside0.mk hy39
          have KA39 := Aside0.mk hA39
          clear hy39 hA39
          have KL39 := Aside0.mk (show ((ji30) : Int).toNat ≤ x5_1.length from by omega)
          replace q39 := eq_true q39
          refine start_ (n := 10) (S := fun w' => True) (ds := []) (fl_ 10 0) (by kernel_rfl) rfl (fl_zero _) trivial (fun hHeld => ?_); refine with_tabW spec_l3Near.tab12 spec_l3Near.bits12 (fun HT_ HW_ => ?_)
          generalize w36.drew = w37 at HO_5 HI0 HK HB HR465 HR472 hHeld ⊢
          iterate 3 refine zp_ HT_ rfl rfl (by kernel_rfl) (fun _ _ _ h => h) (by rfl) ?_
          refine zpg_ (i := 4) (ra_ [3, 1, 1, 5]) HT_ rfl rfl (by kernel_rfl) (fun _ _ _ h => h) (by rfl) ?_
          refine zpg_ (i := 5) (ra_ [3, 1, 2, 4]) HT_ rfl rfl (by kernel_rfl) (fun _ _ _ h => h) (by rfl) ?_
          refine zpg_ (i := 6) (ra_ [3, 1, 3, 3]) HT_ rfl rfl (by kernel_rfl) (fun _ _ _ h => h) (by rfl) ?_
          refine zpg_ (i := 7) (ra_ [3, 1, 4, 2]) HT_ rfl rfl (by kernel_rfl) (fun _ _ _ h => h) (by rfl) ?_
          refine one_ (i := 3) (N := some 66) (fl_ 10 8) rfl rfl (one_of HT_.out (by kernel_rfl)) (by decide) (fun K hK => ?_)
          refine goes_ Try.func72 (by kernel_rfl) rfl #[.slice Ao34 y462.length co34] (by rfl) rfl rfl z1_ ?_
          with_reducible refine (spec_l3Copy.calls _ _ y462 t466 _ ?side1 ?side2 A29.out).mono ?_
          (case side1 => repeat (exact z183_))
          (case side2 => exact HC465.out)
          rintro e w40 ⟨v467, rfl, ho0, hb⟩
          refine ⟨_, rfl, ?_⟩
          have n0_ := Aside0.mk (Kd.R_elder' z8_ (Kd.R_base ho0) hb)
          have n1_ := Aside0.mk (Kd.R_lower (Kd.R_new' ho0 (Kd.R_lt z8_)) (keep_size (w := w) (g := g) (row := none) z2_))
          have n2_ := Aside0.mk (IsS86.below z3_ hb)
          have n3_ := Aside0.mk (Kd.C_below z183_ hb)
          have n4_ := Aside0.mk (Kd.C_below z184_ hb)
          have n5_ := Aside0.mk (KeepBut.trans z2_ (KeepBut.of_below hb g none) (.inl rfl))
          have n6_ := Aside0.mk (below_step z4_ hb)
          clear HO_5
          clear HI0
          clear HR465
          clear HR472
          clear HK
          clear HB
          have HO_5 := n0_
          have HO468 := n1_
          have HI0 := n2_
          have HR465 := n3_
          have HR472 := n4_
          have HK := n5_
          have HB := n6_
          clear n0_ n1_ n2_ n3_ n4_ n5_ n6_
          (try clear hb)
          (try clear ho0)
          refine hK.out _ _ trivial (fun hHeld => ?_)
          clear hK K
          refine zn_ rfl ?_
          refine one_ (i := 8) (N := some 71) (fl_ 10 9) rfl rfl (one_of HT_.out (by kernel_rfl)) (by decide) (fun K hK => ?_)
          refine Kd.R_append_rows_step k61 w.heap.size (by rfl) (.tmp 66) (.tmp 70) 25 61 (.agg #[(.int .i64 0), (.int .i64 0)]) 16 rfl Try.underlying25 info61 rfl (by decide) (by omega) v467 t466 y469 _ _ _ (fun k_ => some k_ ≠ (.slice Ao34 x5_1.length co34 : Value).ownBlock) (fun _ => False) rfl rfl ?aO ?aR (fun _ _ h => h) (fun _ h => h.elim) ?aF (Below.refl _ _) ?aS ?aL ?_
          (case aR => repeat (exact z184_))
          (case aF => exact z198_)
          (case aO => exact (by exact Kd.R_mono HO468.out (fun _ hk => hk.2)))
          (case aS => exact z59_)
          (case aL => have := LMc33.out; omega)
          intro v474 w41 ho hb hg hat
          rw [← Ny473.out] at ho
          have n0_ := Aside0.mk (Kd.R_after (ok := (fun _ => True)) z8_ hg hat)
          have n1_ := Aside0.mk (IsS86.grown z3_ hg (IsS86.own_ne HI0.out HO468.out (by decide)))
          have n2_ := Aside0.mk (below_weaken z4_ HL.out hb)
          have n3_ := Aside0.mk (KeepBut.trans z2_ (KeepBut.of_grown hg g) (Kd.R_base2 HO468.out))
          have n4_ := Aside0.mk ((show Kd.C k61 w41 Ao34 y462.length y462 from by rw [Ny462.out]; exact Kd.C_take (m := (t452 : Int).toNat) ((Kd.R_reads' (Kd.R_after (ok := (fun _ => True)) z8_ hg hat)).2.2) KL38.out))
          have n5_ := Aside0.mk ((show Kd.C k61 w41 A39 y469.length y469 from by rw [Ny469.out, KA39.out]; exact Kd.C_drop (m := ((ji30) : Int).toNat) (c := co34) ((Kd.R_reads' (Kd.R_after (ok := (fun _ => True)) z8_ hg hat)).2.2) KL39.out ((Kd.R_reads' (Kd.R_after (ok := (fun _ => True)) z8_ hg hat)).2.1)))
          have n6_ := Aside0.mk (ho)
          clear HO_5
          clear HI0
          clear HB
          clear HK
          clear HR465
          clear HR472
          clear HO468
          have HO_5 := n0_
          have HI0 := n1_
          have HB := n2_
          have HK := n3_
          have HR465 := n4_
          have HR472 := n5_
          have HO475 := n6_
          clear n0_ n1_ n2_ n3_ n4_ n5_ n6_
          clear ho hb hg hat
          refine hK.out _ _ trivial (fun hHeld => ?_)
          clear hK K
          refine zn_ rfl ?_
          refine zp_ HT_ rfl rfl (by kernel_rfl) (fun _ _ _ h => h) (by rfl) ?_
          refine done_ (done_of HT_.out (by kernel_rfl)) ?_
          try go_wp2
          go_roundg kj6
          case measure => have := HK1.out; have := HJ6.out; omega
          case rel => exact ⟨(y473), (wrap64 (x6_1 - 1)), (t456), (t457), z10_, H', ⟨z236_⟩, ⟨by exact Kd.R_mono HO475.out (fun _ hk => trivial)⟩, ⟨z3_⟩, ⟨z2_⟩, ⟨z4_⟩⟩
         ·rw [if_neg c26] at H
          have c26b0 := decide_eq_false c26
          have c26b1 : decide (1 < x5_1.length) = false := decide_eq_false (by omega)
          clear c26
          have H' := Aside0.mk H
          clear H
          obtain ⟨Ao42, co42, eo42⟩ := Kd.R_slice HO_5.out
          subst eo42
          go_wp2_with (first | ((with_reducible refine gate_callee (f := 64) rfl ?_); refine goesL_ (some 25) rfl rfl Try.func64 (by kernel_rfl) rfl #[.pointer (some ⟨g, 0, none⟩), .int .i64 (x5_1.length : Int)] rfl z1_ ?_; (with_reducible refine (spec_l1Below.calls g s0_0 x1001_1 x1002_1 (x5_1.length : Int) t452 t453 t454 w0 _ ?side1 ?side2 A11.out).mono ?_); (case side1 => exact z3_); (case side2 => exact z4_); rintro e w43 ⟨rfl, hi, hb, hk⟩; refine ⟨_, rfl, ?_⟩; replace HO_5 := Aside0.mk (Kd.R_mono (Kd.R_keep (IsS86.apart (show IsS86 w0 _ g s0_0 x1001_1 x1002_1 from by repeat ((with_reducible exact HI0.out))) z8_ (by decide)) hk (fun _ h => h.2)) (fun _ h => h.1)); replace HK := Aside0.mk (KeepBut.trans z2_ hk (.inl rfl)); replace HB := Aside0.mk (hb); replace HI0 := Aside0.mk (hi); (try clear hb hk hi)) | ((with_reducible refine gate_callee (f := 64) rfl ?_); refine goesL_ (some 27) rfl rfl Try.func64 (by kernel_rfl) rfl #[.pointer (some ⟨g, 0, none⟩), .int .i64 3] rfl z1_ ?_; (with_reducible refine (spec_l1Below.calls g s0_0 t453 t454 3 t455 t456 t457 w0 _ ?side1 ?side2 A12.out).mono ?_); (case side1 => exact z3_); (case side2 => exact z4_); rintro e w44 ⟨rfl, hi, hb, hk⟩; refine ⟨_, rfl, ?_⟩; replace HO_5 := Aside0.mk (Kd.R_mono (Kd.R_keep (IsS86.apart (show IsS86 w0 _ g s0_0 t453 t454 from by repeat ((with_reducible exact HI0.out))) z8_ (by decide)) hk (fun _ h => h.2)) (fun _ h => h.1)); replace HK := Aside0.mk (KeepBut.trans z2_ hk (.inl rfl)); replace HB := Aside0.mk (hb); replace HI0 := Aside0.mk (hi); (try clear hb hk hi)))
          go_roundg kj6
          case measure => have := HK1.out; have := HJ6.out; omega
          case rel => exact ⟨(x5_1), (wrap64 (x6_1 - 1)), (t456), (t457), z10_, H', ⟨z236_⟩, ⟨z8_⟩, ⟨z3_⟩, ⟨z2_⟩, ⟨z4_⟩⟩
        ·rw [if_neg c25] at H
         have c25b0 := decide_eq_false c25
         clear c25
         have H' := Aside0.mk H
         clear H
         obtain ⟨Ao45, co45, eo45⟩ := Kd.R_slice HO_5.out
         subst eo45
         go_wp2_with (first | ((with_reducible refine gate_callee (f := 64) rfl ?_); refine goesL_ (some 25) rfl rfl Try.func64 (by kernel_rfl) rfl #[.pointer (some ⟨g, 0, none⟩), .int .i64 (x5_1.length : Int)] rfl z1_ ?_; (with_reducible refine (spec_l1Below.calls g s0_0 x1001_1 x1002_1 (x5_1.length : Int) t452 t453 t454 w0 _ ?side1 ?side2 A11.out).mono ?_); (case side1 => exact z3_); (case side2 => exact z4_); rintro e w46 ⟨rfl, hi, hb, hk⟩; refine ⟨_, rfl, ?_⟩; replace HO_5 := Aside0.mk (Kd.R_mono (Kd.R_keep (IsS86.apart (show IsS86 w0 _ g s0_0 x1001_1 x1002_1 from by repeat ((with_reducible exact HI0.out))) z8_ (by decide)) hk (fun _ h => h.2)) (fun _ h => h.1)); replace HK := Aside0.mk (KeepBut.trans z2_ hk (.inl rfl)); replace HB := Aside0.mk (hb); replace HI0 := Aside0.mk (hi); (try clear hb hk hi)) | ((with_reducible refine gate_callee (f := 64) rfl ?_); refine goesL_ (some 27) rfl rfl Try.func64 (by kernel_rfl) rfl #[.pointer (some ⟨g, 0, none⟩), .int .i64 3] rfl z1_ ?_; (with_reducible refine (spec_l1Below.calls g s0_0 t453 t454 3 t455 t456 t457 w0 _ ?side1 ?side2 A12.out).mono ?_); (case side1 => exact z3_); (case side2 => exact z4_); rintro e w47 ⟨rfl, hi, hb, hk⟩; refine ⟨_, rfl, ?_⟩; replace HO_5 := Aside0.mk (Kd.R_mono (Kd.R_keep (IsS86.apart (show IsS86 w0 _ g s0_0 t453 t454 from by repeat ((with_reducible exact HI0.out))) z8_ (by decide)) hk (fun _ h => h.2)) (fun _ h => h.1)); replace HK := Aside0.mk (KeepBut.trans z2_ hk (.inl rfl)); replace HB := Aside0.mk (hb); replace HI0 := Aside0.mk (hi); (try clear hb hk hi)))
         go_roundg kj6
         case measure => have := HK1.out; have := HJ6.out; omega
         case rel => exact ⟨(x5_1), (wrap64 (x6_1 - 1)), (t456), (t457), z10_, H', ⟨z236_⟩, ⟨z8_⟩, ⟨z3_⟩, ⟨z2_⟩, ⟨z4_⟩⟩
       ·rw [if_neg c24] at H
        have c24b0 : (t455 == 1) = false := beq_eq_false_iff_ne.mpr c24
        have c24b1 : (t455 != 1) = true := bne_iff_ne.mpr c24
        obtain ⟨t476, A48, H⟩ := bnd_ H
        replace H := Option.bind_eq_some_iff.mp H
        obtain ⟨⟨t479, t480, t481⟩, A490, H⟩ := H
        try dsimp only at H
        have A49 := Aside0.mk A490
        clear A490
        obtain ⟨ji50, hji50⟩ : ∃ j_ : Int, (wrap64 ((x5_1.length : Int) - 1)) = j_ := ⟨_, rfl⟩
        rw [hji50] at H
        have hji50w : (IntKind.i64.wrap ((x5_1.length : Int) - 1)) = ji50 := (i64_w _).trans hji50
        obtain ⟨c51b0, H⟩ := ifd_ H
        obtain ⟨c52b0, H⟩ := ifd_ H
        replace H := Option.bind_eq_some_iff.mp H
        obtain ⟨⟨t483, t484, t485⟩, A530, H⟩ := H
        try dsimp only at H
        have A53 := Aside0.mk A530
        clear A530
        obtain ⟨c54, H⟩ := ifs_ H
        have LMc54 := Aside0.mk c54
        clear c54
        (generalize hy_ : ((t476 ++ [(⟨t479, wrap64 (1 + t483)⟩ : S61)]) : List (S61)) = y486 at H; have Ny486 := Aside0.mk hy_.symm; clear hy_)
        have H' := Aside0.mk H
        clear H
        obtain ⟨Ao55, co55, eo55⟩ := Kd.R_slice HO_5.out
        subst eo55
        try go_wp2_with (first | ((with_reducible refine gate_callee (f := 64) rfl ?_); refine goesL_ (some 25) rfl rfl Try.func64 (by kernel_rfl) rfl #[.pointer (some ⟨g, 0, none⟩), .int .i64 (x5_1.length : Int)] rfl z1_ ?_; (with_reducible refine (spec_l1Below.calls g s0_0 x1001_1 x1002_1 (x5_1.length : Int) t452 t453 t454 w0 _ ?side1 ?side2 A11.out).mono ?_); (case side1 => exact z3_); (case side2 => exact z4_); rintro e w56 ⟨rfl, hi, hb, hk⟩; refine ⟨_, rfl, ?_⟩; replace HO_5 := Aside0.mk (Kd.R_mono (Kd.R_keep (IsS86.apart (show IsS86 w0 _ g s0_0 x1001_1 x1002_1 from by repeat ((with_reducible exact HI0.out))) z8_ (by decide)) hk (fun _ h => h.2)) (fun _ h => h.1)); replace HK := Aside0.mk (KeepBut.trans z2_ hk (.inl rfl)); replace HB := Aside0.mk (hb); replace HI0 := Aside0.mk (hi); (try clear hb hk hi)) | ((with_reducible refine gate_callee (f := 64) rfl ?_); refine goesL_ (some 27) rfl rfl Try.func64 (by kernel_rfl) rfl #[.pointer (some ⟨g, 0, none⟩), .int .i64 3] rfl z1_ ?_; (with_reducible refine (spec_l1Below.calls g s0_0 t453 t454 3 t455 t456 t457 w0 _ ?side1 ?side2 A12.out).mono ?_); (case side1 => exact z3_); (case side2 => exact z4_); rintro e w57 ⟨rfl, hi, hb, hk⟩; refine ⟨_, rfl, ?_⟩; replace HO_5 := Aside0.mk (Kd.R_mono (Kd.R_keep (IsS86.apart (show IsS86 w0 _ g s0_0 t453 t454 from by repeat ((with_reducible exact HI0.out))) z8_ (by decide)) hk (fun _ h => h.2)) (fun _ h => h.1)); replace HK := Aside0.mk (KeepBut.trans z2_ hk (.inl rfl)); replace HB := Aside0.mk (hb); replace HI0 := Aside0.mk (hi); (try clear hb hk hi)))
        have n0_ := Aside0.mk (Kd.R_drew HO_5.out)
        have n1_ := Aside0.mk (IsS86.drew HI0.out)
        have n2_ := Aside0.mk (keep_drew HK.out)
        have n3_ := Aside0.mk (below_drew1 HB.out)
        clear HO_5
        clear HI0
        clear HK
        clear HB
        have HO_5 := n0_
        have HI0 := n1_
        have HK := n2_
        have HB := n3_
        clear n0_ n1_ n2_ n3_
        have p482 : 0 ≤ ((ji50) : Int) := odt_
        have q482 : (ji50) < (x5_1.length : Int) := odt_
        obtain ⟨ad482, e482, hx482_0, hx482_1⟩ := at_T61 (Kd.R_reads' HO_5.out).2.2 (ji50) p482 q482
        cases e482
        replace p482 := eq_true p482
        replace q482 := eq_true q482
        refine start_ (n := 19) (S := fun w' => w'.cell? (ad482.add (((ji50)).toNat * 2)) = some (.int .i64 ((rd_T61 x5_1 (ji50)).f0)) ∧ w'.cell? ⟨(ad482.add (((ji50)).toNat * 2)).block, (ad482.add (((ji50)).toNat * 2)).off + 1, none⟩ = some (.int .i64 ((rd_T61 x5_1 (ji50)).f1))) (ds := [16, 17]) (fl_ 19 0) (by kernel_rfl) rfl (fl_zero _) ⟨hx482_0, hx482_1⟩ (fun hHeld => ?_); refine with_tabW spec_l3Near.tab7 spec_l3Near.bits7 (fun HT_ HW_ => ?_)
        generalize w57.drew = w58 at HO_5 HI0 HK HB hx482_0 hx482_1 hHeld ⊢
        refine zp_ HT_ rfl rfl (by kernel_rfl) (fun _ _ _ h => h) (by rfl) ?_
        refine zpg_ (i := 2) (ra_ [1, 1, 1, 16]) HT_ rfl rfl (by kernel_rfl) (fun _ _ _ h => h) (by rfl) ?_
        refine zpg_ (i := 4) (ra_ [1, 1, 1, 1, 1, 14]) HT_ rfl rfl (by kernel_rfl) (fun _ _ _ h => h) (by rfl) ?_
        refine zpg_ (i := 5) (ra_ [1, 1, 1, 1, 2, 13]) HT_ rfl rfl (by kernel_rfl) (fun _ _ _ h => h) (by rfl) ?_
        refine zpg_ (i := 6) (ra_ [1, 1, 1, 1, 3, 12]) HT_ rfl rfl (by kernel_rfl) (fun _ _ _ h => h) (by rfl) ?_
        refine zpg_ (i := 7) (ra_ [1, 1, 1, 1, 4, 11]) HT_ rfl rfl (by kernel_rfl) (fun _ _ _ h => h) (by rfl) ?_
        refine zpg_ (i := 8) (ra_ [1, 1, 1, 1, 5, 10]) HT_ rfl rfl (by kernel_rfl) (fun _ _ _ h => h) (by rfl) ?_
        refine zpg_ (i := 9) (ra_ [1, 1, 1, 1, 6, 9]) HT_ rfl rfl (by kernel_rfl) (fun _ _ _ h => h) (by rfl) ?_
        refine zpg_ (i := 10) (ra_ [1, 1, 1, 1, 7, 8]) HT_ rfl rfl (by kernel_rfl) (fun _ _ _ h => h) (by rfl) ?_
        refine ztg_ (i := 11) (ra_ [1, 1, 1, 1, 8, 7]) HT_ HW_ rfl rfl (by kernel_rfl) (fun _ _ _ h => h) (by rfl) hHeld ?_ z145_
        refine zpg_ (i := 12) (ra_ [1, 1, 1, 1, 9, 6]) HT_ rfl rfl (by kernel_rfl) (fun _ _ _ h => h) (by rfl) ?_
        refine one_ (i := 1) (N := some 29) (ra_ [3, 1, 9, 6]) rfl rfl (one_of HT_.out (by kernel_rfl)) (by decide) (fun K hK => ?_)
        refine goes_ Try.func72 (by kernel_rfl) rfl #[.slice (some ad482) x5_1.length co55] (by rfl) rfl rfl z1_ ?_
        with_reducible refine (spec_l3Copy.calls _ _ x5_1 t476 _ ?side1 ?side2 A48.out).mono ?_
        (case side1 => exact z163_)
        (case side2 => exact (Kd.R_reads' HO_5.out).2.1)
        rintro e w59 ⟨v477, rfl, ho0, hb⟩
        have HS0_ := (hb.cell (World.block_lt_of_cell? _ _ (hHeld.1))).trans (hHeld.1)
        have HS1_ := (hb.cell (World.block_lt_of_cell? _ _ (hHeld.2))).trans (hHeld.2)
        refine ⟨_, rfl, ?_⟩
        have n0_ := Aside0.mk (Kd.R_elder' z8_ (Kd.R_base ho0) hb)
        have n1_ := Aside0.mk (Kd.R_lower (Kd.R_new' ho0 (Kd.R_lt z8_)) (keep_size (w := w) (g := g) (row := none) z2_))
        have n2_ := Aside0.mk (IsS86.below z3_ hb)
        have n3_ := Aside0.mk (KeepBut.trans z2_ (KeepBut.of_below hb g none) (.inl rfl))
        have n4_ := Aside0.mk (below_step z4_ hb)
        clear HO_5
        clear HI0
        clear HK
        clear HB
        have HO_5 := n0_
        have HO478 := n1_
        have HI0 := n2_
        have HK := n3_
        have HB := n4_
        clear n0_ n1_ n2_ n3_ n4_
        (try clear hb)
        (try clear ho0)
        refine hK.out _ _ ⟨HS0_, HS1_⟩ (fun hHeld => ?_)
        clear hK K
        refine zn_ rfl ?_
        refine one_ (i := 3) (N := some 31) (fl_ 19 13) rfl rfl (one_of HT_.out (by kernel_rfl)) (by decide) (fun K hK => ?_)
        refine goes_ Try.func73 (by kernel_rfl) rfl #[.pointer (some ⟨g, 0, none⟩)] (by rfl) rfl rfl z1_ ?_
        with_reducible refine (spec_l2Label.calls g s0_0 t456 t457 t479 t480 t481 w0 _ ?side1 ?side2 A49.out).mono ?_
        (case side1 => exact z3_)
        (case side2 => exact z4_)
        rintro e w60 ⟨rfl, hi, hb, hk⟩
        have HS0_ := keep_cell hk (hHeld.1) z79_
        have HS1_ := keep_cell hk (hHeld.2) z79_
        refine ⟨_, rfl, ?_⟩
        have n0_ := Aside0.mk (Kd.R_mono (Kd.R_keep (IsS86.apart (show IsS86 w0 _ g s0_0 t456 t457 from by repeat ((with_reducible exact HI0.out))) z8_ (by decide)) hk (fun _ h => h.2)) (fun _ h => h.1))
        have n1_ := Aside0.mk (Kd.R_mono (Kd.R_keep (IsS86.apart (show IsS86 w0 _ g s0_0 t456 t457 from by repeat ((with_reducible exact HI0.out))) z227_ (by decide)) hk (fun _ h => h.2)) (fun _ h => h.1))
        have n2_ := Aside0.mk (KeepBut.trans z2_ hk (.inl rfl))
        have n3_ := Aside0.mk (hb)
        have n4_ := Aside0.mk (hi)
        clear HO_5
        clear HO478
        clear HK
        clear HB
        clear HI0
        have HO_5 := n0_
        have HO478 := n1_
        have HK := n2_
        have HB := n3_
        have HI0 := n4_
        clear n0_ n1_ n2_ n3_ n4_
        (try clear hb)
        (try clear hk)
        (try clear hi)
        refine hK.out _ _ ⟨HS0_, HS1_⟩ (fun hHeld => ?_)
        clear hK K
        refine zn_ rfl ?_
        refine one_ (i := 13) (N := some 41) (fl_ 19 14) rfl rfl (one_of HT_.out (by kernel_rfl)) (by decide) (fun K hK => ?_)
        refine goes_ Try.func64 (by kernel_rfl) rfl #[.pointer (some ⟨g, 0, none⟩), .int .i64 (wrap64 (((rd_T61 x5_1 (ji50)).f1) + 1))] (by rfl) rfl rfl (by (try simp only [List.map_toArray, List.map_cons, List.map_nil]); rfl) ?_
        with_reducible refine (spec_l1Below.calls g s0_0 t480 t481 (wrap64 (((rd_T61 x5_1 (ji50)).f1) + 1)) t483 t484 t485 w0 _ ?side1 ?side2 A53.out).mono ?_
        (case side1 => exact z3_)
        (case side2 => exact z4_)
        rintro e w61 ⟨rfl, hi, hb, hk⟩
        have HS0_ := keep_cell hk (hHeld.1) z79_
        have HS1_ := keep_cell hk (hHeld.2) z79_
        refine ⟨_, rfl, ?_⟩
        have n0_ := Aside0.mk (Kd.R_mono (Kd.R_keep (IsS86.apart (show IsS86 w0 _ g s0_0 t480 t481 from by repeat ((with_reducible exact HI0.out))) z8_ (by decide)) hk (fun _ h => h.2)) (fun _ h => h.1))
        have n1_ := Aside0.mk (Kd.R_mono (Kd.R_keep (IsS86.apart (show IsS86 w0 _ g s0_0 t480 t481 from by repeat ((with_reducible exact HI0.out))) z227_ (by decide)) hk (fun _ h => h.2)) (fun _ h => h.1))
        have n2_ := Aside0.mk (KeepBut.trans z2_ hk (.inl rfl))
        have n3_ := Aside0.mk (hb)
        have n4_ := Aside0.mk (hi)
        clear HO_5
        clear HO478
        clear HK
        clear HB
        clear HI0
        have HO_5 := n0_
        have HO478 := n1_
        have HK := n2_
        have HB := n3_
        have HI0 := n4_
        clear n0_ n1_ n2_ n3_ n4_
        (try clear hb)
        (try clear hk)
        (try clear hi)
        refine hK.out _ _ ⟨HS0_, HS1_⟩ (fun hHeld => ?_)
        clear hK K
        refine zn_ rfl ?_
        iterate 2 refine zp_ HT_ rfl rfl (by kernel_rfl) (fun _ _ _ h => h) (by rfl) ?_
        refine last_ (i := 16) (N := some 44) (fl_ 19 17) rfl rfl (one_of HT_.out (by kernel_rfl)) (by decide) (fun K hK => ?_)
        refine value_ (w1 := ?_) (v := ?_) (by rfl) rfl ?_ ?_
        rotate_left 2
        ·go_simp
         constructor
         ·rfl
         ·rfl
        refine hK.out _ _ ?_
        clear hK K
        refine zn_ rfl ?_
        refine last_ (i := 17) (N := some 45) (fl_ 19 18) rfl rfl (one_of HT_.out (by kernel_rfl)) (by decide) (fun K hK => ?_)
        refine Kd.R_append_step k61 w.heap.size (by rfl) (.tmp 29) (.tmp 44) 25 61 (.agg #[(.int .i64 0), (.int .i64 0)]) 16 rfl Try.underlying25 info61 rfl (by decide) (by omega) v477 t476 (⟨t479, wrap64 (1 + t483)⟩ : S61) [.int .i64 t479, .int .i64 (wrap64 (1 + t483))] (fun k_ => some k_ ≠ (.slice (some ad482) x5_1.length co55 : Value).ownBlock) (fun _ => False) rfl rfl ?aP (fun _ hk => hk.elim) ?aF ?aO (Below.refl _ _) ?aS ?aL ?_
        (case aP => exact k61_mkM _ _ _ (⟨t479, wrap64 (1 + t483)⟩ : S61))
        (case aF => exact z198_)
        (case aO => exact (by exact Kd.R_mono HO478.out (fun _ hk => hk.2)))
        (case aS => exact z59_)
        (case aL => have := LMc54.out; omega)
        intro v487 w62 ho hb hg hat
        rw [← Ny486.out] at ho
        have n0_ := Aside0.mk (Kd.R_after (ok := (fun _ => True)) z8_ hg hat)
        have n1_ := Aside0.mk (IsS86.grown z3_ hg (IsS86.own_ne HI0.out HO478.out (by decide)))
        have n2_ := Aside0.mk (below_weaken z4_ HL.out hb)
        have n3_ := Aside0.mk (KeepBut.trans z2_ (KeepBut.of_grown hg g) (Kd.R_base2 HO478.out))
        have n4_ := Aside0.mk (ho)
        clear HO_5
        clear HI0
        clear HB
        clear HK
        clear HO478
        have HO_5 := n0_
        have HI0 := n1_
        have HB := n2_
        have HK := n3_
        have HO488 := n4_
        clear n0_ n1_ n2_ n3_ n4_
        clear ho hb hg hat
        refine hK.out _ _ ?_
        clear hK K
        refine zn_ rfl ?_
        refine zp_ HT_ rfl rfl (by kernel_rfl) (fun _ _ _ h => h) (by rfl) ?_
        refine done_ (done_of HT_.out (by kernel_rfl)) ?_
        try go_wp2
        go_roundg kj6
        case measure => have := HK1.out; have := HJ6.out; omega
        case rel => exact ⟨(y486), (wrap64 (x6_1 - 1)), (t484), (t485), z10_, H', ⟨z236_⟩, ⟨by exact Kd.R_mono HO488.out (fun _ hk => trivial)⟩, ⟨z3_⟩, ⟨z2_⟩, ⟨z4_⟩⟩
     ·replace c10 := Bool.eq_false_iff.mpr c10
      subst c10
      replace H := iff_ H
      obtain ⟨t489, A63, H⟩ := bnd_ H
      by_cases c64 : t489 = true
      ·subst c64
       replace H := ift_ H
       simp only [Option.some.injEq, Prod.mk.injEq] at H
       obtain ⟨rfl, rfl, rfl⟩ := H
       obtain ⟨Ao65, co65, eo65⟩ := Kd.R_slice HO_5.out
       subst eo65
       go_wp2_with (((with_reducible refine gate_callee (f := 28) rfl ?_); refine goesL_ (some 73) rfl rfl Try.func28 (by kernel_rfl) rfl #[.slice Ao65 x5_1.length co65] rfl z1_ ?_; (with_reducible refine (spec_TreeOk.calls kj6 _ _ x5_1 true _ ?side1 ?side2 A63.out).mono ?_); (case side1 => exact z163_); (case side2 => exact (Kd.R_reads' HO_5.out).2.1); rintro e w66 ⟨rfl, hb⟩; refine ⟨_, rfl, ?_⟩; replace HO_5 := Aside0.mk (Kd.R_below z8_ hb); replace HK := Aside0.mk (KeepBut.trans z2_ (KeepBut.of_below hb g none) (.inl rfl)); replace HB := Aside0.mk (below_step z4_ hb); replace HI0 := Aside0.mk (IsS86.below z3_ hb); (try clear hb)))
       go_ret
       exact ⟨_, z6_, z8_, z3_, z4_, z2_⟩
      ·replace c64 := Bool.eq_false_iff.mpr c64
       subst c64
       replace H := iff_ H
       replace H := Option.bind_eq_some_iff.mp H
       obtain ⟨⟨t490, t493, t494⟩, A670, H⟩ := H
       try dsimp only at H
       have A67 := Aside0.mk A670
       clear A670
       simp only [Option.some.injEq, Prod.mk.injEq] at H
       obtain ⟨rfl, rfl, rfl⟩ := H
       obtain ⟨Ao68, co68, eo68⟩ := Kd.R_slice HO_5.out
       subst eo68
       go_wp2_with (first | ((with_reducible refine gate_callee (f := 28) rfl ?_); refine goesL_ (some 73) rfl rfl Try.func28 (by kernel_rfl) rfl #[.slice Ao68 x5_1.length co68] rfl z1_ ?_; (with_reducible refine (spec_TreeOk.calls kj6 _ _ x5_1 false _ ?side1 ?side2 A63.out).mono ?_); (case side1 => exact z163_); (case side2 => exact (Kd.R_reads' HO_5.out).2.1); rintro e w69 ⟨rfl, hb⟩; refine ⟨_, rfl, ?_⟩; replace HO_5 := Aside0.mk (Kd.R_below z8_ hb); replace HK := Aside0.mk (KeepBut.trans z2_ (KeepBut.of_below hb g none) (.inl rfl)); replace HB := Aside0.mk (below_step z4_ hb); replace HI0 := Aside0.mk (IsS86.below z3_ hb); (try clear hb)) | ((with_reducible refine gate_callee (f := 53) rfl ?_); refine goesL_ (some 76) rfl rfl Try.func53 (by kernel_rfl) rfl #[.pointer (some ⟨g, 0, none⟩), .int .i64 8] rfl z1_ ?_; (with_reducible refine (spec_l3Tree.calls kj6 g s0_0 x1001_1 x1002_1 8 t490 t493 t494 w0 _ ?side1 ?side2 A67.out).mono ?_); (case side1 => exact z3_); (case side2 => exact z4_); rintro e w70 ⟨v491, rfl, ho0, hi, hb, hk⟩; refine ⟨_, rfl, ?_⟩; have HO492 := Aside0.mk (Kd.R_lower (Kd.R_new' ho0 (Kd.R_lt z8_)) (keep_size (w := w) (g := g) (row := none) z2_)); replace HO_5 := Aside0.mk (Kd.R_mono (Kd.R_told (Kd.R_oldK (IsS86.apart (show IsS86 w0 _ g s0_0 x1001_1 x1002_1 from by repeat ((with_reducible exact HI0.out))) z8_ (by decide)) hk) (Kd.R_base ho0)) (fun _ h_ => h_.1)); replace HK := Aside0.mk (KeepBut.trans z2_ hk (.inl rfl)); replace HB := Aside0.mk (hb); replace HI0 := Aside0.mk (hi); (try clear hb hk hi ho0)))
       go_ret
       exact ⟨_, z6_, by exact Kd.R_mono HO492.out (fun _ hk => trivial), z3_, z4_, z2_⟩

end Go.Proofs.Ytbmkobanpakohaa.PFnMirrored
