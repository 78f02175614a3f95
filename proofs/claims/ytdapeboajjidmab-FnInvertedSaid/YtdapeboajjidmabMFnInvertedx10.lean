/- Laid by a program of this session out of the kit's print for the law FnInverted: what it says of the machine is proved here, function by function; each contract under the conditions that it names. -/
import Derived.Test.YtdapeboajjidmabMFnInvertedx0
import Derived.Test.YtdapeboajjidmabMFnInvertedx4
import Derived.Test.YtdapeboajjidmabMFnInvertedx6
import Derived.Test.YtdapeboajjidmabMFnInvertedx9
namespace Go.Proofs.Ytdapeboajjidmab.PFnInverted
open Go.RowKit Go.Proofs.YtdapeboajjidmabW.PrintWords Go.Proofs.YtdapeboajjidmabW.PrintLast Go.Proofs.YtdapeboajjidmabW.PrintMore
attribute [local go_sem] max2_int min2_int max_two min_two max_three min_three max_four min_four   -- for this text's walks alone
set_option linter.unusedVariables false
set_option linter.unusedSimpArgs false

/-! ### spec_l13Op: function 138 -/
mutual
def spec_l13Op.j0 : Nat → List (S62) → List Int → Int → Int → Int → List Int → Int → Int → Int → Option (Int × List Int × Int × Int × Int × Int × Int)
 | 0, _, _, _, _, _, _, _, _, _ => none
 | k + 1, x1, x1000, x1001, x1002, x363000, x363001, x363002, x363003, x363004 => if x363000 = 3 then ((spec_NodeAt.f k x1 x363001).bind fun t366 => ((spec_KidsOf.f k x1 t366).bind fun t367 => ((spec_l1Below.f x1000 x1001 x1002 (wrap64 ((t367.length : Int) + 1))).bind fun bt370 => ((spec_l1Below.f x1000 bt370.2.1 bt370.2.2 (wrap64 ((wrap64 ((t367.length : Int) - bt370.1)) + 1))).bind fun bt373 => (spec_l13Op.j1 k x1000 bt373.2.1 bt373.2.2 x363000 x363001 x363002 bt370.1 bt373.1))))) else (spec_l13Op.j1 k x1000 x1001 x1002 x363000 x363001 x363002 x363003 x363004)
def spec_l13Op.j1 : Nat → List Int → Int → Int → Int → List Int → Int → Int → Int → Option (Int × List Int × Int × Int × Int × Int × Int)
 | 0, _, _, _, _, _, _, _, _ => none
 | k + 1, x1000, x1001, x1002, x363000, x363001, x363002, x363003, x363004 => (spec_l1Below.f x1000 x1001 x1002 14).bind fun bt376 => (if bt376.1 = 0 then ((spec_l1Below.f x1000 bt376.2.1 bt376.2.2 5).bind fun bt379 => (some (bt379.1, x363001, x363002, x363003, x363004, bt379.2.1, bt379.2.2))) else (if bt376.1 = 1 then ((spec_l1Below.f x1000 bt376.2.1 bt376.2.2 3).bind fun bt382 => (if x363001.length < 17592186044416 then (some (x363000, (x363001 ++ [wrap64 (bt382.1 - 1)]), x363002, x363003, x363004, bt382.2.1, bt382.2.2)) else (none))) else (if bt376.1 = 2 then ((spec_l2Any.f x1000 bt376.2.1 bt376.2.2).bind fun bt388 => (some (x363000, x363001, bt388.1, x363003, x363004, bt388.2.1, bt388.2.2))) else (if bt376.1 = 3 then ((spec_l1PickInt.f x1000 bt376.2.1 bt376.2.2 (([(-1), 1, 9, 9223372036854775807] : List Int))).bind fun bt394 => (some (x363000, x363001, x363002, bt394.1, x363004, bt394.2.1, bt394.2.2))) else (if bt376.1 = 4 then ((spec_l1PickInt.f x1000 bt376.2.1 bt376.2.2 (([(-1), 1, 9, 9223372036854775807] : List Int))).bind fun bt400 => (some (x363000, x363001, x363002, x363003, bt400.1, bt400.2.1, bt400.2.2))) else (some (x363000, x363001, x363002, x363003, x363004, bt376.2.1, bt376.2.2)))))))
end
def spec_l13Op.f (k : Nat) (s0_0 : List Int) (s0_1 : Int) (s0_2 : Int) (l1 : List (S62)) : Option (Int × List Int × Int × Int × Int × Int × Int) := (spec_l1Below.f s0_0 s0_1 s0_2 3).bind fun bt353 => ((spec_l1Below.f s0_0 bt353.2.1 bt353.2.2 (mx 1 (l1.length : Int))).bind fun bt356 => ((spec_PathOf.f k l1 bt356.1).bind fun t359 => (if (wrap64 (1 + bt353.1)) = 2 then (spec_l13Op.j0 k l1 s0_0 bt356.2.1 bt356.2.2 (wrap64 (1 + bt353.1)) t359 0 0 0) else ((spec_l2Label.f s0_0 bt356.2.1 bt356.2.2).bind fun bt363 => (spec_l13Op.j0 k l1 s0_0 bt363.2.1 bt363.2.2 (wrap64 (1 + bt353.1)) t359 bt363.1 0 0)))))
def spec_l13Op.T12 : Bool × List (List Nat × List Nat) := (true, [([], []), ([0], [0]), ([], []), ([2], [2]), ([3], [3]), ([4], [4]), ([1, 5, 3], [1, 5]), ([0, 1, 2, 3, 4, 5, 6], []), ([7, 6, 6, 0, 1, 2, 3, 4, 5, 6], [6, 7])])
def spec_l13Op.B12 : List Nat := [0, 1, 0, 4, 12, 28, 63, 127, 255]
theorem spec_l13Op.tab12 : rtab .any (opsOf Try.f138 12) = spec_l13Op.T12 := by kernel_rfl
theorem spec_l13Op.bits12 : waitsOk spec_l13Op.T12.2 spec_l13Op.B12 = true := by kernel_rfl
set_option maxHeartbeats 8000000 in
set_option maxRecDepth 100000 in
theorem spec_l13Op.calls (k : Nat) (g : Nat) (s0_0 : List Int) (s0_1 : Int) (s0_2 : Int) (A1 : Option Addr) (c1 : Nat) (l1 : List (S62)) (r1 : Int) (r2 : List Int) (r3 : Int) (r4 : Int) (r5 : Int) (r6 : Int) (r7 : Int) (w0 w : World) (hI : IsS132 w0 w g s0_0 s0_1 s0_2) (hB : Below w0.heap.size w0 w) (hr1 : ∀ W_, KeepBut w W_ g none → Kd.C k62 W_ A1 l1.length l1) (hc1 : l1.length ≤ c1) (h : spec_l13Op.f k s0_0 s0_1 s0_2 l1 = some (r1, r2, r3, r4, r5, r6, r7)) :
  Calls Try.prog 138 #[.pointer (some ⟨g, 0, none⟩), .slice A1 l1.length c1] w fun e w' => ∃ v1_ : Value, e = .returned (.agg #[.int .i64 r1, v1_, .int .i64 r3, .int .i64 r4, .int .i64 r5]) ∧ Kd.R (Kd.int .i64) 3 w' w.heap.size (fun _ => True) v1_ r2 ∧ IsS132 w0 w' g s0_0 r6 r7 ∧ Below w0.heap.size w0 w' ∧ KeepBut w w' g none := by
 have hu121 := Try.underlying121
 have HR1 := Aside0.mk hr1
 have HC1 := Aside0.mk hc1
 clear hr1 hc1
 have HI0 := Aside0.mk hI
 have HK := Aside0.mk (KeepBut.refl w g none)
 have HL := Aside0.mk hB.size
 clear hI
 have HW0 := Aside0.mk hB.size
 have HB := Aside0.mk hB
 clear hB
 have H : ((spec_l1Below.f s0_0 s0_1 s0_2 3).bind fun bt353 => ((spec_l1Below.f s0_0 bt353.2.1 bt353.2.2 (mx 1 (l1.length : Int))).bind fun bt356 => ((spec_PathOf.f k l1 bt356.1).bind fun t359 => (if (wrap64 (1 + bt353.1)) = 2 then (spec_l13Op.j0 k l1 s0_0 bt356.2.1 bt356.2.2 (wrap64 (1 + bt353.1)) t359 0 0 0) else ((spec_l2Label.f s0_0 bt356.2.1 bt356.2.2).bind fun bt363 => (spec_l13Op.j0 k l1 s0_0 bt363.2.1 bt363.2.2 (wrap64 (1 + bt353.1)) t359 bt363.1 0 0)))))) = some (r1, r2, r3, r4, r5, r6, r7) := h
 clear h
 replace H := Option.bind_eq_some_iff.mp H
 obtain ⟨⟨t353, t354, t355⟩, A30, H⟩ := H
 try dsimp only at H
 have A3 := Aside0.mk A30
 clear A30
 obtain ⟨ji4, hji4⟩ : ∃ j_ : Int, (mx 1 (l1.length : Int)) = j_ := ⟨_, rfl⟩
 first | rw [hji4] at H | simp only [hji4] at H
 (try rw [hji4] at A3)
 (try (have hji4l : 1 ≤ ji4 := by (rw [← hji4]; unfold mx; (repeat' split) <;> omega)))
 (try (have hji4m : 0 ≤ ji4 := by omega))
 have hji4_ : (if 1 < (l1.length : Int) then (l1.length : Int) else 1) = ji4 := hji4
 replace H := Option.bind_eq_some_iff.mp H
 obtain ⟨⟨t356, t357, t358⟩, A50, H⟩ := H
 try dsimp only at H
 have A5 := Aside0.mk A50
 clear A50
 obtain ⟨t359, A6, H⟩ := bnd_ H
 have HC7 := Aside0.mk H
 clear H
 go_enter Try.func138, Try.ntmps138
 go_upto_if 20 with (first | ((with_reducible refine gate_dst (N := 4) rfl ?_); refine box_event ?hg (N := 4) ?hd (cs := #[.int .i64 0, .slice none 0 0, .int .i64 0, .int .i64 0, .int .i64 0]) (t := 121) ?hr ?_; (case hd => rfl); (case hg => rfl); (case hr => exact z21_); intro gb352 hg w8 hbox hb; replace HB := Aside0.mk (below_step z5_ hb); have BK352 := Aside0.mk (hbox); have GW352 := Aside0.mk ((by rw [hg]; exact (keep_size (w := w) (g := g) (row := none) z3_) : w.heap.size ≤ gb352)); have GE352 := Aside0.mk ((Nat.le_trans HW0.out (by rw [hg]; exact (keep_size (w := w) (g := g) (row := none) z3_) : w.heap.size ≤ gb352) : w0.heap.size ≤ gb352)); replace HK := Aside0.mk (KeepBut.trans z3_ (KeepBut.of_below hb g none) (.inl rfl)); have NB0_352 := Aside0.mk ((by rw [hg]; exact Nat.ne_of_lt (IsS132.lt (show IsS132 w0 _ g s0_0 s0_1 s0_2 from by repeat (first | (with_reducible first | exact HI0.out | apply IsS132.alloc | apply IsS132.drewN | apply IsS132.drew | apply IsS132.set_1 | apply IsS132.set_2) | exact HI0.out))) : g ≠ gb352)); have NB352_0 := Aside0.mk ((by rw [hg]; exact Nat.ne_of_gt (IsS132.lt (show IsS132 w0 _ g s0_0 s0_1 s0_2 from by repeat (first | (with_reducible first | exact HI0.out | apply IsS132.alloc | apply IsS132.drewN | apply IsS132.drew | apply IsS132.set_1 | apply IsS132.set_2) | exact HI0.out))) : gb352 ≠ g)); replace HI0 := Aside0.mk (IsS132.below z4_ hb); clear hb hbox hg) | ((with_reducible refine gate_callee (f := 95) rfl ?_); refine goesL_ (some 8) rfl rfl Try.func95 (by kernel_rfl) rfl #[.pointer (some ⟨g, 0, none⟩), .int .i64 3] rfl z1_ ?_; (with_reducible refine (spec_l1Below.calls g s0_0 s0_1 s0_2 3 t353 t354 t355 w0 _ ?side1 ?side2 A3.out).mono ?_); (case side1 => exact z92_); (case side2 => exact z96_); rintro e w9 ⟨rfl, hi, hb, hk⟩; refine ⟨_, rfl, ?_⟩; replace BK352 := Aside0.mk (KeepBut.blk hk (g' := gb352) (o := .cells #[.int .i64 0, .slice none 0 0, .int .i64 0, .int .i64 0, .int .i64 0] 121 (0, 0)) z38_ NB352_0.out (by simp)); replace HK := Aside0.mk (KeepBut.trans z69_ hk (.inl rfl)); replace HB := Aside0.mk (hb); replace HI0 := Aside0.mk (hi); (try clear hb hk hi)) | ((with_reducible refine gate_callee (f := 95) rfl ?_); refine goesL_ (some 15) rfl rfl Try.func95 (by kernel_rfl) rfl #[.pointer (some ⟨g, 0, none⟩), .int .i64 ji4] rfl (by (try simp only [List.map_toArray, List.map_cons, List.map_nil]); first | done | (simp only [hji4]; rfl) | rfl | (simp only [List.length_drop, List.length_take]; rfl)) ?_; (with_reducible refine (spec_l1Below.calls g s0_0 t354 t355 ji4 t356 t357 t358 w0 _ ?side1 ?side2 A5.out).mono ?_); (case side1 => exact z92_); (case side2 => exact z96_); rintro e w10 ⟨rfl, hi, hb, hk⟩; refine ⟨_, rfl, ?_⟩; replace BK352 := Aside0.mk (KeepBut.blk hk (g' := gb352) (o := .cells #[.int .i64 0, .slice none 0 0, .int .i64 0, .int .i64 0, .int .i64 0] 121 (0, 0)) z38_ NB352_0.out (by simp)); replace HK := Aside0.mk (KeepBut.trans z69_ hk (.inl rfl)); replace HB := Aside0.mk (hb); replace HI0 := Aside0.mk (hi); (try clear hb hk hi)) | ((with_reducible refine gate_callee (f := 152) rfl ?_); refine goesL_ (some 16) rfl rfl Try.func152 (by kernel_rfl) rfl #[.slice A1 l1.length c1, .int .i64 t356] rfl z1_ ?_; (with_reducible refine (spec_PathOf.calls k _ _ l1 t356 t359 _ ?side1 ?side2 A6.out).mono ?_); (case side1 => exact Kd.C_foot_now HR1.out z69_); (case side2 => exact HC1.out); rintro e w11 ⟨v360, rfl, ho0, hb⟩; refine ⟨_, rfl, ?_⟩; have HO361 := Aside0.mk (Kd.R_lower ho0 (keep_size (w := w) (g := g) (row := none) z69_)); replace BK352 := Aside0.mk (blk_below (g := gb352) (o := .cells #[.int .i64 0, .slice none 0 0, .int .i64 0, .int .i64 0, .int .i64 0] 121 (0, 0)) z38_ hb); replace HK := Aside0.mk (KeepBut.trans z69_ (KeepBut.of_below hb g none) (.inl rfl)); replace HB := Aside0.mk (below_step z96_ hb); replace HI0 := Aside0.mk (IsS132.below z92_ hb); (try clear hb ho0); obtain ⟨Ao12, co12, eo12⟩ := Kd.R_slice HO361.out; subst eo12) | ((with_reducible refine gate_dst (N := 5) rfl ?_); refine box_event ?hg (N := 5) ?hd (cs := #[.int .i64 0, .slice none 0 0, .int .i64 0, .int .i64 0, .int .i64 0]) (t := 121) ?hr ?_; (case hd => rfl); (case hg => rfl); (case hr => exact z21_); intro gb362 hg w13 hbox hb; replace HO361 := Aside0.mk (Kd.R_below (by (with_reducible repeat (first | apply Kd.R_alloc | apply Kd.R_drewN | apply Kd.R_drew)); exact HO361.out) hb); replace HB := Aside0.mk (below_step z96_ hb); have BK362 := Aside0.mk (hbox); have GW362 := Aside0.mk ((by rw [hg]; exact (keep_size (w := w) (g := g) (row := none) z69_) : w.heap.size ≤ gb362)); have GE362 := Aside0.mk ((Nat.le_trans HW0.out (by rw [hg]; exact (keep_size (w := w) (g := g) (row := none) z69_) : w.heap.size ≤ gb362) : w0.heap.size ≤ gb362)); replace HK := Aside0.mk (KeepBut.trans z69_ (KeepBut.of_below hb g none) (.inl rfl)); have NB352_362 := Aside0.mk ((by rw [hg]; exact Nat.ne_of_lt (blk_lt (g := gb352) (o := .cells #[.int .i64 0, .slice none 0 0, .int .i64 0, .int .i64 0, .int .i64 0] 121 (0, 0)) z38_) : gb352 ≠ gb362)); have NB362_352 := Aside0.mk ((by rw [hg]; exact Nat.ne_of_gt (blk_lt (g := gb352) (o := .cells #[.int .i64 0, .slice none 0 0, .int .i64 0, .int .i64 0, .int .i64 0] 121 (0, 0)) z38_) : gb362 ≠ gb352)); replace BK352 := Aside0.mk (blk_below (g := gb352) (o := .cells #[.int .i64 0, .slice none 0 0, .int .i64 0, .int .i64 0, .int .i64 0] 121 (0, 0)) z38_ hb); have NB0_362 := Aside0.mk ((by rw [hg]; exact Nat.ne_of_lt (IsS132.lt (show IsS132 w0 _ g s0_0 t357 t358 from by repeat (first | (with_reducible first | exact HI0.out | apply IsS132.alloc | apply IsS132.drewN | apply IsS132.drew | apply IsS132.set_1 | apply IsS132.set_2 | refine IsS132.far ?_ NB0_352.out _) | exact HI0.out))) : g ≠ gb362)); have NB362_0 := Aside0.mk ((by rw [hg]; exact Nat.ne_of_gt (IsS132.lt (show IsS132 w0 _ g s0_0 t357 t358 from by repeat (first | (with_reducible first | exact HI0.out | apply IsS132.alloc | apply IsS132.drewN | apply IsS132.drew | apply IsS132.set_1 | apply IsS132.set_2 | refine IsS132.far ?_ NB0_352.out _) | exact HI0.out))) : gb362 ≠ g)); replace HI0 := Aside0.mk (IsS132.below z92_ hb); clear hb hbox hg; have hnb14 := NB362_352.out; have hnc14 := NB352_362.out; have hnb15 := NB362_0.out; have hnc15 := NB0_362.out; obtain ⟨hcz16_0, hcz16_1, hcz16_2, hcz16_3, hcz16_4, hfz16_0, hfz16_1, hfz16_2, hfz16_3, hfz16_4⟩ := bx5_ BK362.out))
 (try simp only [Act.put, List.setIfInBounds_toArray, List.set_cons_zero, List.set_cons_succ])
 go_cut [] (fun wc => ∃ (kq : Nat) (x1001_6 : Int) (x1002_6 : Int) (x363002_6 : Int), Aside0 (spec_l13Op.j0 kq l1 s0_0 x1001_6 x1002_6 (wrap64 (1 + t353)) t359 x363002_6 0 0 = some (r1, r2, r3, r4, r5, r6, r7)) ∧ Aside0 (kq ≤ k) ∧ Aside0 (Kd.R (Kd.int .i64) 3 wc w.heap.size (fun _ => True) (.slice Ao12 t359.length co12) t359) ∧ Aside0 (wc.heap[gb352]? = some (.cells #[.int .i64 0, (.slice none 0 0), .int .i64 0, .int .i64 0, .int .i64 0] 121 (0, 0))) ∧ Aside0 (wc.heap[gb362]? = some (.cells #[.int .i64 (wrap64 (1 + t353)), (.slice Ao12 t359.length co12), .int .i64 x363002_6, .int .i64 0, .int .i64 0] 121 (0, 0))) ∧ Aside0 (IsS132 w0 wc g s0_0 x1001_6 x1002_6) ∧ Aside0 (KeepBut w wc g none) ∧ Aside0 (Below w0.heap.size w0 wc))
 case first =>
  have H := HC7.out
  clear HC7
  by_cases c17 : (wrap64 (1 + t353)) = 2
  ·rw [if_pos c17] at H
   have c17b0 : ((wrap64 (1 + t353)) == 2) = true := beq_iff_eq.mpr c17
   have c17b1 : ((wrap64 (1 + t353)) != 2) = false := bne_eq_false_iff_eq.mpr c17
   clear c17
   (first | rw [c17b0] | rw [c17b1] | (simp only [i64_w, i32_w]; rw [c17b0]) | skip)
   have H' := Aside0.mk H
   clear H
   go_wp2
   go_meet
   case rel => exact ⟨_, (t357), (t358), (0), H', ⟨z145_⟩, ⟨by (with_reducible repeat (first | apply Kd.R_alloc | apply Kd.R_drewN | apply Kd.R_drew)); exact Kd.R_mono (Kd.R_far (p := ⟨gb362, 4, none⟩) (Kd.R_far (p := ⟨gb362, 3, none⟩) (Kd.R_far (p := ⟨gb362, 2, none⟩) (Kd.R_far (p := ⟨gb362, 1, none⟩) (Kd.R_far (p := ⟨gb362, 0, none⟩) (Kd.R_types HO361.out BK362.out (by decide)) (fun _ hk => hk.2) (.int .i64 (wrap64 (1 + t353)))) (fun _ hk => hk.2) (.slice Ao12 t359.length co12)) (fun _ hk => hk.2) (.int .i64 0)) (fun _ hk => hk.2) (.int .i64 0)) (fun _ hk => hk.2) (.int .i64 0)) (fun _ hk => trivial)⟩, ⟨z64_⟩, ⟨z43_⟩, ⟨z9_⟩, ⟨z8_⟩, ⟨z10_⟩⟩
  ·rw [if_neg c17] at H
   have c17b0 : ((wrap64 (1 + t353)) == 2) = false := beq_eq_false_iff_ne.mpr c17
   have c17b1 : ((wrap64 (1 + t353)) != 2) = true := bne_iff_ne.mpr c17
   (first | rw [c17b0] | rw [c17b1] | (simp only [i64_w, i32_w]; rw [c17b0]) | skip)
   replace H := Option.bind_eq_some_iff.mp H
   obtain ⟨⟨t363, t364, t365⟩, A180, H⟩ := H
   try dsimp only at H
   have A18 := Aside0.mk A180
   clear A180
   have H' := Aside0.mk H
   clear H
   go_wp2_with (first | ((with_reducible refine gate_callee (f := 135) rfl ?_); refine goesL_ (some 22) rfl rfl Try.func135 (by kernel_rfl) rfl #[.pointer (some ⟨g, 0, none⟩)] rfl z1_ ?_; (with_reducible refine (spec_l2Label.calls g s0_0 t357 t358 t363 t364 t365 w0 _ ?side1 ?side2 A18.out).mono ?_); (case side1 => exact z9_); (case side2 => exact z10_); rintro e w19 ⟨rfl, hi, hb, hk⟩; refine ⟨_, rfl, ?_⟩; replace BK352 := Aside0.mk (KeepBut.blk hk (g' := gb352) (o := .cells #[.int .i64 0, .slice none 0 0, .int .i64 0, .int .i64 0, .int .i64 0] 121 (0, 0)) z64_ NB352_0.out (by simp)); replace HO361 := Aside0.mk (Kd.R_mono (Kd.R_keep (IsS132.apart (show IsS132 w0 _ g s0_0 t357 t358 from by repeat (first | (with_reducible first | exact HI0.out | apply IsS132.alloc | apply IsS132.drewN | apply IsS132.drew | apply IsS132.set_1 | apply IsS132.set_2 | refine IsS132.far ?_ NB0_352.out _ | refine IsS132.far ?_ NB0_362.out _) | exact HI0.out)) (by (with_reducible repeat (first | apply Kd.R_alloc | apply Kd.R_drewN | apply Kd.R_drew)); exact (Kd.R_mono (Kd.R_far (p := ⟨gb362, 4, none⟩) (Kd.R_far (p := ⟨gb362, 3, none⟩) (Kd.R_far (p := ⟨gb362, 2, none⟩) (Kd.R_far (p := ⟨gb362, 1, none⟩) (Kd.R_far (p := ⟨gb362, 0, none⟩) (Kd.R_types HO361.out BK362.out (by decide)) (fun _ hk => hk.2) (.int .i64 (wrap64 (1 + t353)))) (fun _ hk => hk.2) (.slice Ao12 t359.length co12)) (fun _ hk => hk.2) (.int .i64 0)) (fun _ hk => hk.2) (.int .i64 0)) (fun _ hk => hk.2) (.int .i64 0)) (fun _ h_ => h_.1))) (by decide)) hk (fun _ h => h.2)) (fun _ h => h.1)); replace BK362 := Aside0.mk (KeepBut.blk hk (g' := gb362) (o := .cells #[.int .i64 (wrap64 (1 + t353)), .slice Ao12 t359.length co12, .int .i64 0, .int .i64 0, .int .i64 0] 121 (0, 0)) z43_ NB362_0.out (by simp)); replace HK := Aside0.mk (KeepBut.trans z8_ hk (.inl rfl)); replace HB := Aside0.mk (hb); replace HI0 := Aside0.mk (hi); (try clear hb hk hi); have hnb20 := NB362_352.out; have hnc20 := NB352_362.out; have hnb21 := NB362_0.out; have hnc21 := NB0_362.out; obtain ⟨hcz22_0, hcz22_1, hcz22_2, hcz22_3, hcz22_4, hfz22_0, hfz22_1, hfz22_2, hfz22_3, hfz22_4⟩ := bx5_ BK362.out))
   go_meet
   case rel => exact ⟨_, (t364), (t365), (t363), H', ⟨z145_⟩, ⟨by (with_reducible repeat (first | apply Kd.R_alloc | apply Kd.R_drewN | apply Kd.R_drew)); exact Kd.R_mono (Kd.R_far (p := ⟨gb362, 2, none⟩) (Kd.R_types HO361.out BK362.out (by decide)) (fun _ hk => hk.2) (.int .i64 t363)) (fun _ hk => trivial)⟩, ⟨z105_⟩, ⟨by (with_reducible repeat (first | refine blk_drewN ?_ _ | refine blk_drew ?_ | refine blk_alloc ?_ _)); refine blk_put (cs := #[.int .i64 (wrap64 (1 + t353)), .slice Ao12 t359.length co12, .int .i64 0, .int .i64 0, .int .i64 0]) ?_ 2 _ rfl; (with_reducible repeat (first | refine blk_drewN ?_ _ | refine blk_drew ?_ | refine blk_alloc ?_ _)); exact BK362.out⟩, ⟨z9_⟩, ⟨z8_⟩, ⟨z10_⟩⟩
 case rest =>
  clear HC7
  try clear c1
  try clear c2
  try clear p2
  try clear p6
  try clear c9
  try clear c13
  try clear c14
  try clear c15
  try clear c17
  try clear c17b0
  try clear c17b1
  try clear c20
  try clear c21
  try clear hcz16_0
  try clear hcz16_1
  try clear hcz16_2
  try clear hcz16_3
  try clear hcz16_4
  try clear hcz22_0
  try clear hcz22_1
  try clear hcz22_2
  try clear hcz22_3
  try clear hcz22_4
  try clear hfz16_0
  try clear hfz16_1
  try clear hfz16_2
  try clear hfz16_3
  try clear hfz16_4
  try clear hfz22_0
  try clear hfz22_1
  try clear hfz22_2
  try clear hfz22_3
  try clear hfz22_4
  obtain ⟨kq, x1001_6, x1002_6, x363002_6, HA, HJ6, HO_363001, BK352, BK362, HI0, HK, HB⟩ := hcut
  cases kq with
  | zero => exact absurd HA.out (by simp [spec_l13Op.j0])
  | succ kj6 =>
   have H := HA.out
   clear HA
   simp only [spec_l13Op.j0] at H
   have HC23 := Aside0.mk H
   clear H
   have hnb24 := NB362_352.out
   have hnc24 := NB352_362.out
   have hnb25 := NB362_0.out
   have hnc25 := NB0_362.out
   obtain ⟨hcz26_0, hcz26_1, hcz26_2, hcz26_3, hcz26_4, hfz26_0, hfz26_1, hfz26_2, hfz26_3, hfz26_4⟩ := bx5_ BK362.out
   go_upto_if 26 with (fail)
   go_cut [] (fun wc => ∃ (kq : Nat) (x1001_22 : Int) (x1002_22 : Int) (x363003_22 : Int) (x363004_22 : Int), Aside0 (spec_l13Op.j1 kq s0_0 x1001_22 x1002_22 (wrap64 (1 + t353)) t359 x363002_6 x363003_22 x363004_22 = some (r1, r2, r3, r4, r5, r6, r7)) ∧ Aside0 (kq ≤ kj6) ∧ Aside0 (Kd.R (Kd.int .i64) 3 wc w.heap.size (fun _ => True) (.slice Ao12 t359.length co12) t359) ∧ Aside0 (wc.heap[gb352]? = some (.cells #[.int .i64 0, (.slice none 0 0), .int .i64 0, .int .i64 0, .int .i64 0] 121 (0, 0))) ∧ Aside0 (wc.heap[gb362]? = some (.cells #[.int .i64 (wrap64 (1 + t353)), (.slice Ao12 t359.length co12), .int .i64 x363002_6, .int .i64 x363003_22, .int .i64 x363004_22] 121 (0, 0))) ∧ Aside0 (IsS132 w0 wc g s0_0 x1001_22 x1002_22) ∧ Aside0 (KeepBut w wc g none) ∧ Aside0 (Below w0.heap.size w0 wc))
   case first =>
    have H := HC23.out
    clear HC23
    by_cases c27 : (wrap64 (1 + t353)) = 3
    ·rw [if_pos c27] at H
     have c27b0 : ((wrap64 (1 + t353)) == 3) = true := beq_iff_eq.mpr c27
     have c27b1 : ((wrap64 (1 + t353)) != 3) = false := bne_eq_false_iff_eq.mpr c27
     clear c27
     (first | rw [c27b0] | rw [c27b1] | (simp only [i64_w, i32_w]; rw [c27b0]) | skip)
     obtain ⟨t366, A28, H⟩ := bnd_ H
     obtain ⟨t367, A29, H⟩ := bnd_ H
     replace H := Option.bind_eq_some_iff.mp H
     obtain ⟨⟨t370, t371, t372⟩, A300, H⟩ := H
     try dsimp only at H
     have A30 := Aside0.mk A300
     clear A300
     replace H := Option.bind_eq_some_iff.mp H
     obtain ⟨⟨t373, t374, t375⟩, A310, H⟩ := H
     try dsimp only at H
     have A31 := Aside0.mk A310
     clear A310
     have H' := Aside0.mk H
     clear H
     have hnb32 := NB362_352.out
     have hnc32 := NB352_362.out
     have hnb33 := NB362_0.out
     have hnc33 := NB0_362.out
     obtain ⟨hcz34_0, hcz34_1, hcz34_2, hcz34_3, hcz34_4, hfz34_0, hfz34_1, hfz34_2, hfz34_3, hfz34_4⟩ := bx5_ BK362.out
     go_wp2_with (first | ((with_reducible refine gate_callee (f := 131) rfl ?_); refine goesL_ (some 31) rfl rfl Try.func131 (by kernel_rfl) rfl #[.slice A1 l1.length c1, .slice Ao12 t359.length co12] rfl z1_ ?_; (with_reducible refine (spec_NodeAt.calls kj6 _ _ l1 _ _ t359 t366 _ ?side1 ?side2 ?side3 ?side4 A28.out).mono ?_); (case side1 => exact z139_); (case side2 => exact HC1.out); (case side3 => repeat (first | exact (Kd.R_reads' HO_363001.out).2.2 | (with_reducible refine Kd.C_alloc ?_ _) | (with_reducible refine Kd.C_drewN ?_ _) | (with_reducible refine Kd.C_drew ?_))); (case side4 => exact (Kd.R_reads' HO_363001.out).2.1); rintro e w35 ⟨rfl, hb⟩; refine ⟨_, rfl, ?_⟩; replace HO_363001 := Aside0.mk (Kd.R_below z47_ hb); replace BK352 := Aside0.mk (blk_below (g := gb352) (o := .cells #[.int .i64 0, .slice none 0 0, .int .i64 0, .int .i64 0, .int .i64 0] 121 (0, 0)) z38_ hb); replace BK362 := Aside0.mk (blk_below (g := gb362) (o := .cells #[.int .i64 (wrap64 (1 + t353)), .slice Ao12 t359.length co12, .int .i64 x363002_6, .int .i64 0, .int .i64 0] 121 (0, 0)) z49_ hb); replace HK := Aside0.mk (KeepBut.trans z8_ (KeepBut.of_below hb g none) (.inl rfl)); replace HB := Aside0.mk (below_step z10_ hb); replace HI0 := Aside0.mk (IsS132.below z9_ hb); (try clear hb)) | ((with_reducible refine gate_callee (f := 144) rfl ?_); refine goesL_ (some 32) rfl rfl Try.func144 (by kernel_rfl) rfl #[.slice A1 l1.length c1, .int .i64 t366] rfl z1_ ?_; (with_reducible refine (spec_KidsOf.calls kj6 _ _ l1 t366 t367 _ ?side1 ?side2 A29.out).mono ?_); (case side1 => exact z139_); (case side2 => exact HC1.out); rintro e w36 ⟨v368, rfl, ho0, hb⟩; refine ⟨_, rfl, ?_⟩; have HO369 := Aside0.mk (Kd.R_lower (Kd.R_new' ho0 (Kd.R_lt z47_)) (keep_size (w := w) (g := g) (row := none) z8_)); replace HO_363001 := Aside0.mk (Kd.R_elder' z47_ (Kd.R_base ho0) hb); replace BK352 := Aside0.mk (blk_below (g := gb352) (o := .cells #[.int .i64 0, .slice none 0 0, .int .i64 0, .int .i64 0, .int .i64 0] 121 (0, 0)) z38_ hb); replace BK362 := Aside0.mk (blk_below (g := gb362) (o := .cells #[.int .i64 (wrap64 (1 + t353)), .slice Ao12 t359.length co12, .int .i64 x363002_6, .int .i64 0, .int .i64 0] 121 (0, 0)) z49_ hb); replace HK := Aside0.mk (KeepBut.trans z8_ (KeepBut.of_below hb g none) (.inl rfl)); replace HB := Aside0.mk (below_step z10_ hb); replace HI0 := Aside0.mk (IsS132.below z9_ hb); (try clear hb ho0); obtain ⟨Ao37, co37, eo37⟩ := Kd.R_slice HO369.out; subst eo37) | ((with_reducible refine gate_callee (f := 95) rfl ?_); refine goesL_ (some 37) rfl rfl Try.func95 (by kernel_rfl) rfl #[.pointer (some ⟨g, 0, none⟩), .int .i64 (wrap64 ((t367.length : Int) + 1))] rfl z1_ ?_; (with_reducible refine (spec_l1Below.calls g s0_0 x1001_6 x1002_6 (wrap64 ((t367.length : Int) + 1)) t370 t371 t372 w0 _ ?side1 ?side2 A30.out).mono ?_); (case side1 => exact z9_); (case side2 => exact z10_); rintro e w38 ⟨rfl, hi, hb, hk⟩; refine ⟨_, rfl, ?_⟩; replace HO_363001 := Aside0.mk (Kd.R_mono (Kd.R_keep (IsS132.apart (show IsS132 w0 _ g s0_0 x1001_6 x1002_6 from by repeat (first | (with_reducible first | exact HI0.out | apply IsS132.alloc | apply IsS132.drewN | apply IsS132.drew | apply IsS132.set_1 | apply IsS132.set_2 | refine IsS132.far ?_ NB0_352.out _ | refine IsS132.far ?_ NB0_362.out _) | exact HI0.out)) z47_ (by decide)) hk (fun _ h => h.2)) (fun _ h => h.1)); replace BK352 := Aside0.mk (KeepBut.blk hk (g' := gb352) (o := .cells #[.int .i64 0, .slice none 0 0, .int .i64 0, .int .i64 0, .int .i64 0] 121 (0, 0)) z38_ NB352_0.out (by simp)); replace BK362 := Aside0.mk (KeepBut.blk hk (g' := gb362) (o := .cells #[.int .i64 (wrap64 (1 + t353)), .slice Ao12 t359.length co12, .int .i64 x363002_6, .int .i64 0, .int .i64 0] 121 (0, 0)) z49_ NB362_0.out (by simp)); replace HO369 := Aside0.mk (Kd.R_mono (Kd.R_keep (IsS132.apart (show IsS132 w0 _ g s0_0 x1001_6 x1002_6 from by repeat (first | (with_reducible first | exact HI0.out | apply IsS132.alloc | apply IsS132.drewN | apply IsS132.drew | apply IsS132.set_1 | apply IsS132.set_2 | refine IsS132.far ?_ NB0_352.out _ | refine IsS132.far ?_ NB0_362.out _) | exact HI0.out)) (by (with_reducible repeat (first | apply Kd.R_alloc | apply Kd.R_drewN | apply Kd.R_drew)); exact HO369.out) (by decide)) hk (fun _ h => h.2)) (fun _ h => h.1)); replace HK := Aside0.mk (KeepBut.trans z8_ hk (.inl rfl)); replace HB := Aside0.mk (hb); replace HI0 := Aside0.mk (hi); (try clear hb hk hi); obtain ⟨hcz39_0, hcz39_1, hcz39_2, hcz39_3, hcz39_4, hfz39_0, hfz39_1, hfz39_2, hfz39_3, hfz39_4⟩ := bx5_ BK362.out) | ((with_reducible refine gate_callee (f := 95) rfl ?_); refine goesL_ (some 45) rfl rfl Try.func95 (by kernel_rfl) rfl #[.pointer (some ⟨g, 0, none⟩), .int .i64 (wrap64 ((wrap64 ((t367.length : Int) - t370)) + 1))] rfl z1_ ?_; (with_reducible refine (spec_l1Below.calls g s0_0 t371 t372 (wrap64 ((wrap64 ((t367.length : Int) - t370)) + 1)) t373 t374 t375 w0 _ ?side1 ?side2 A31.out).mono ?_); (case side1 => exact z9_); (case side2 => exact z10_); rintro e w40 ⟨rfl, hi, hb, hk⟩; refine ⟨_, rfl, ?_⟩; replace HO_363001 := Aside0.mk (Kd.R_mono (Kd.R_keep (IsS132.apart (show IsS132 w0 _ g s0_0 t371 t372 from by repeat (first | (with_reducible first | exact HI0.out | apply IsS132.alloc | apply IsS132.drewN | apply IsS132.drew | apply IsS132.set_1 | apply IsS132.set_2 | refine IsS132.far ?_ NB0_352.out _ | refine IsS132.far ?_ NB0_362.out _) | exact HI0.out)) (by (with_reducible repeat (first | apply Kd.R_alloc | apply Kd.R_drewN | apply Kd.R_drew)); exact (Kd.R_mono (Kd.R_far (p := ⟨gb362, 3, none⟩) (Kd.R_types HO_363001.out BK362.out (by decide)) (fun _ hk => hk.2) (.int .i64 t370)) (fun _ h_ => h_.1))) (by decide)) hk (fun _ h => h.2)) (fun _ h => h.1)); replace BK352 := Aside0.mk (KeepBut.blk hk (g' := gb352) (o := .cells #[.int .i64 0, .slice none 0 0, .int .i64 0, .int .i64 0, .int .i64 0] 121 (0, 0)) z105_ NB352_0.out (by simp)); replace HO369 := Aside0.mk (Kd.R_mono (Kd.R_keep (IsS132.apart (show IsS132 w0 _ g s0_0 t371 t372 from by repeat (first | (with_reducible first | exact HI0.out | apply IsS132.alloc | apply IsS132.drewN | apply IsS132.drew | apply IsS132.set_1 | apply IsS132.set_2 | refine IsS132.far ?_ NB0_352.out _ | refine IsS132.far ?_ NB0_362.out _) | exact HI0.out)) (by (with_reducible repeat (first | apply Kd.R_alloc | apply Kd.R_drewN | apply Kd.R_drew)); exact (Kd.R_mono (Kd.R_far (p := ⟨gb362, 3, none⟩) (Kd.R_types HO369.out BK362.out (by decide)) (fun _ hk => hk.2) (.int .i64 t370)) (fun _ h_ => h_.1))) (by decide)) hk (fun _ h => h.2)) (fun _ h => h.1)); replace BK362 := Aside0.mk (KeepBut.blk hk (g' := gb362) (o := .cells #[.int .i64 (wrap64 (1 + t353)), .slice Ao12 t359.length co12, .int .i64 x363002_6, .int .i64 t370, .int .i64 0] 121 (0, 0)) (by (with_reducible repeat (first | refine blk_drewN ?_ _ | refine blk_drew ?_ | refine blk_alloc ?_ _)); refine blk_put (cs := #[.int .i64 (wrap64 (1 + t353)), .slice Ao12 t359.length co12, .int .i64 x363002_6, .int .i64 0, .int .i64 0]) ?_ 3 _ rfl; (with_reducible repeat (first | refine blk_drewN ?_ _ | refine blk_drew ?_ | refine blk_alloc ?_ _)); exact BK362.out) NB362_0.out (by simp)); replace HK := Aside0.mk (KeepBut.trans z8_ hk (.inl rfl)); replace HB := Aside0.mk (hb); replace HI0 := Aside0.mk (hi); (try clear hb hk hi); obtain ⟨hcz41_0, hcz41_1, hcz41_2, hcz41_3, hcz41_4, hfz41_0, hfz41_1, hfz41_2, hfz41_3, hfz41_4⟩ := bx5_ BK362.out))
     go_meet
     case rel => exact ⟨_, (t374), (t375), (t370), (t373), H', ⟨by have := HJ6.out; first | omega | exact Nat.le_refl _⟩, ⟨by (with_reducible repeat (first | apply Kd.R_alloc | apply Kd.R_drewN | apply Kd.R_drew)); exact Kd.R_mono (Kd.R_far (p := ⟨gb362, 4, none⟩) (Kd.R_types HO_363001.out BK362.out (by decide)) (fun _ hk => hk.2) (.int .i64 t373)) (fun _ hk => trivial)⟩, ⟨z105_⟩, ⟨by (with_reducible repeat (first | refine blk_drewN ?_ _ | refine blk_drew ?_ | refine blk_alloc ?_ _)); refine blk_put (cs := #[.int .i64 (wrap64 (1 + t353)), .slice Ao12 t359.length co12, .int .i64 x363002_6, .int .i64 t370, .int .i64 0]) ?_ 4 _ rfl; (with_reducible repeat (first | refine blk_drewN ?_ _ | refine blk_drew ?_ | refine blk_alloc ?_ _)); exact BK362.out⟩, ⟨z9_⟩, ⟨z8_⟩, ⟨z10_⟩⟩
    ·rw [if_neg c27] at H
     have c27b0 : ((wrap64 (1 + t353)) == 3) = false := beq_eq_false_iff_ne.mpr c27
     have c27b1 : ((wrap64 (1 + t353)) != 3) = true := bne_iff_ne.mpr c27
     (first | rw [c27b0] | rw [c27b1] | (simp only [i64_w, i32_w]; rw [c27b0]) | skip)
     have H' := Aside0.mk H
     clear H
     go_wp2
     go_meet
     case rel => exact ⟨_, (x1001_6), (x1002_6), (0), (0), H', ⟨by have := HJ6.out; first | omega | exact Nat.le_refl _⟩, ⟨z47_⟩, ⟨z38_⟩, ⟨z49_⟩, ⟨z9_⟩, ⟨z8_⟩, ⟨z10_⟩⟩
   case rest =>
    clear HC23
    try clear c1
    try clear c2
    try clear p2
    try clear c3
    try clear p6
    try clear c9
    try clear c13
    try clear c14
    try clear c15
    try clear c17
    try clear c17b0
    try clear c17b1
    try clear c20
    try clear c21
    try clear c24
    try clear c25
    try clear c27
    try clear c27b0
    try clear c27b1
    try clear c32
    try clear c33
    try clear hcz16_0
    try clear hcz16_1
    try clear hcz16_2
    try clear hcz16_3
    try clear hcz16_4
    try clear hcz22_0
    try clear hcz22_1
    try clear hcz22_2
    try clear hcz22_3
    try clear hcz22_4
    try clear hcz26_0
    try clear hcz26_1
    try clear hcz26_2
    try clear hcz26_3
    try clear hcz26_4
    try clear hcz34_0
    try clear hcz34_1
    try clear hcz34_2
    try clear hcz34_3
    try clear hcz34_4
    try clear hcz39_0
    try clear hcz39_1
    try clear hcz39_2
    try clear hcz39_3
    try clear hcz39_4
    try clear hcz41_0
    try clear hcz41_1
    try clear hcz41_2
    try clear hcz41_3
    try clear hcz41_4
    try clear hfz16_0
    try clear hfz16_1
    try clear hfz16_2
    try clear hfz16_3
    try clear hfz16_4
    try clear hfz22_0
    try clear hfz22_1
    try clear hfz22_2
    try clear hfz22_3
    try clear hfz22_4
    try clear hfz26_0
    try clear hfz26_1
    try clear hfz26_2
    try clear hfz26_3
    try clear hfz26_4
    try clear hfz34_0
    try clear hfz34_1
    try clear hfz34_2
    try clear hfz34_3
    try clear hfz34_4
    try clear hfz39_0
    try clear hfz39_1
    try clear hfz39_2
    try clear hfz39_3
    try clear hfz39_4
    try clear hfz41_0
    try clear hfz41_1
    try clear hfz41_2
    try clear hfz41_3
    try clear hfz41_4
    try clear p2
    try clear p6
    obtain ⟨kq, x1001_22, x1002_22, x363003_22, x363004_22, HA, HJ22, HO_363001, BK352, BK362, HI0, HK, HB⟩ := hcut
    cases kq with
    | zero => exact absurd HA.out (by simp [spec_l13Op.j1])
    | succ kj22 =>
     have H := HA.out
     clear HA
     simp only [spec_l13Op.j1] at H
     replace H := Option.bind_eq_some_iff.mp H
     obtain ⟨⟨t376, t377, t378⟩, A420, H⟩ := H
     try dsimp only at H
     have A42 := Aside0.mk A420
     clear A420
     by_cases c43 : t376 = 0
     ·rw [if_pos c43] at H
      have c43b0 : (t376 == 0) = true := beq_iff_eq.mpr c43
      have c43b1 : (t376 != 0) = false := bne_eq_false_iff_eq.mpr c43
      clear c43
      replace H := Option.bind_eq_some_iff.mp H
      obtain ⟨⟨t379, t380, t381⟩, A440, H⟩ := H
      try dsimp only at H
      have A44 := Aside0.mk A440
      clear A440
      simp only [Option.some.injEq, Prod.mk.injEq] at H
      obtain ⟨rfl, rfl, rfl, rfl, rfl, rfl, rfl⟩ := H
      go_wp2_with (first | ((with_reducible refine gate_callee (f := 95) rfl ?_); refine goesL_ (some 48) rfl rfl Try.func95 (by kernel_rfl) rfl #[.pointer (some ⟨g, 0, none⟩), .int .i64 14] rfl z1_ ?_; (with_reducible refine (spec_l1Below.calls g s0_0 x1001_22 x1002_22 14 t376 t377 t378 w0 _ ?side1 ?side2 A42.out).mono ?_); (case side1 => exact z9_); (case side2 => exact z10_); rintro e w45 ⟨rfl, hi, hb, hk⟩; refine ⟨_, rfl, ?_⟩; replace HO_363001 := Aside0.mk (Kd.R_mono (Kd.R_keep (IsS132.apart (show IsS132 w0 _ g s0_0 x1001_22 x1002_22 from by repeat (first | (with_reducible first | exact HI0.out | apply IsS132.alloc | apply IsS132.drewN | apply IsS132.drew | apply IsS132.set_1 | apply IsS132.set_2 | refine IsS132.far ?_ NB0_352.out _ | refine IsS132.far ?_ NB0_362.out _) | exact HI0.out)) z47_ (by decide)) hk (fun _ h => h.2)) (fun _ h => h.1)); replace BK352 := Aside0.mk (KeepBut.blk hk (g' := gb352) (o := .cells #[.int .i64 0, .slice none 0 0, .int .i64 0, .int .i64 0, .int .i64 0] 121 (0, 0)) z38_ NB352_0.out (by simp)); replace BK362 := Aside0.mk (KeepBut.blk hk (g' := gb362) (o := .cells #[.int .i64 (wrap64 (1 + t353)), .slice Ao12 t359.length co12, .int .i64 x363002_6, .int .i64 x363003_22, .int .i64 x363004_22] 121 (0, 0)) z49_ NB362_0.out (by simp)); replace HK := Aside0.mk (KeepBut.trans z8_ hk (.inl rfl)); replace HB := Aside0.mk (hb); replace HI0 := Aside0.mk (hi); (try clear hb hk hi)) | ((with_reducible refine gate_callee (f := 95) rfl ?_); refine goesL_ (some 52) rfl rfl Try.func95 (by kernel_rfl) rfl #[.pointer (some ⟨g, 0, none⟩), .int .i64 5] rfl z1_ ?_; (with_reducible refine (spec_l1Below.calls g s0_0 t377 t378 5 t379 t380 t381 w0 _ ?side1 ?side2 A44.out).mono ?_); (case side1 => exact z9_); (case side2 => exact z10_); rintro e w46 ⟨rfl, hi, hb, hk⟩; refine ⟨_, rfl, ?_⟩; replace HO_363001 := Aside0.mk (Kd.R_mono (Kd.R_keep (IsS132.apart (show IsS132 w0 _ g s0_0 t377 t378 from by repeat (first | (with_reducible first | exact HI0.out | apply IsS132.alloc | apply IsS132.drewN | apply IsS132.drew | apply IsS132.set_1 | apply IsS132.set_2 | refine IsS132.far ?_ NB0_352.out _ | refine IsS132.far ?_ NB0_362.out _) | exact HI0.out)) z47_ (by decide)) hk (fun _ h => h.2)) (fun _ h => h.1)); replace BK352 := Aside0.mk (KeepBut.blk hk (g' := gb352) (o := .cells #[.int .i64 0, .slice none 0 0, .int .i64 0, .int .i64 0, .int .i64 0] 121 (0, 0)) z38_ NB352_0.out (by simp)); replace BK362 := Aside0.mk (KeepBut.blk hk (g' := gb362) (o := .cells #[.int .i64 (wrap64 (1 + t353)), .slice Ao12 t359.length co12, .int .i64 x363002_6, .int .i64 x363003_22, .int .i64 x363004_22] 121 (0, 0)) z49_ NB362_0.out (by simp)); replace HK := Aside0.mk (KeepBut.trans z8_ hk (.inl rfl)); replace HB := Aside0.mk (hb); replace HI0 := Aside0.mk (hi); (try clear hb hk hi); have hnb47 := NB362_352.out; have hnc47 := NB352_362.out; have hnb48 := NB362_0.out; have hnc48 := NB0_362.out; obtain ⟨hcz49_0, hcz49_1, hcz49_2, hcz49_3, hcz49_4, hfz49_0, hfz49_1, hfz49_2, hfz49_3, hfz49_4⟩ := bx5_ BK362.out; have hnb50 := NB352_0.out; have hnc50 := NB0_352.out; obtain ⟨hcz51_0, hcz51_1, hcz51_2, hcz51_3, hcz51_4, hfz51_0, hfz51_1, hfz51_2, hfz51_3, hfz51_4⟩ := bx5_ BK352.out))
      refine bodyPost_ret (results_cell_row rfl _ _ gb352 121 #[.int .i64 t379, .slice Ao12 t359.length co12, .int .i64 x363002_6, .int .i64 x363003_22, .int .i64 x363004_22] (0, 0) _ rfl (by (with_reducible repeat (first | refine blk_drewN ?_ _ | refine blk_drew ?_ | refine blk_alloc ?_ _)); refine blk_put (cs := #[.int .i64 t379, .slice Ao12 t359.length co12, .int .i64 x363002_6, .int .i64 x363003_22, .int .i64 0]) ?_ 4 _ rfl; (with_reducible repeat (first | refine blk_drewN ?_ _ | refine blk_drew ?_ | refine blk_alloc ?_ _)); refine blk_put (cs := #[.int .i64 t379, .slice Ao12 t359.length co12, .int .i64 x363002_6, .int .i64 0, .int .i64 0]) ?_ 3 _ rfl; (with_reducible repeat (first | refine blk_drewN ?_ _ | refine blk_drew ?_ | refine blk_alloc ?_ _)); refine blk_put (cs := #[.int .i64 t379, .slice Ao12 t359.length co12, .int .i64 0, .int .i64 0, .int .i64 0]) ?_ 2 _ rfl; (with_reducible repeat (first | refine blk_drewN ?_ _ | refine blk_drew ?_ | refine blk_alloc ?_ _)); refine blk_put (cs := #[.int .i64 t379, .slice none 0 0, .int .i64 0, .int .i64 0, .int .i64 0]) ?_ 1 _ rfl; (with_reducible repeat (first | refine blk_drewN ?_ _ | refine blk_drew ?_ | refine blk_alloc ?_ _)); refine blk_put (cs := #[.int .i64 0, .slice none 0 0, .int .i64 0, .int .i64 0, .int .i64 0]) ?_ 0 _ rfl; (with_reducible repeat (first | refine blk_drewN ?_ _ | refine blk_drew ?_ | refine blk_alloc ?_ _)); refine blk_far ?_ NB352_362.out _; (with_reducible repeat (first | refine blk_drewN ?_ _ | refine blk_drew ?_ | refine blk_alloc ?_ _)); exact BK352.out) Try.underlying121 rfl (by kernel_rfl)) rfl ?_
      exact ⟨_, z79_, by (with_reducible repeat (first | apply Kd.R_alloc | apply Kd.R_drewN | apply Kd.R_drew)); exact Kd.R_mono (Kd.R_far (p := ⟨gb352, 4, none⟩) (Kd.R_far (p := ⟨gb352, 3, none⟩) (Kd.R_far (p := ⟨gb352, 2, none⟩) (Kd.R_far (p := ⟨gb352, 1, none⟩) (Kd.R_far (p := ⟨gb352, 0, none⟩) (Kd.R_far (p := ⟨gb362, 0, none⟩) (Kd.R_types (Kd.R_types HO_363001.out BK362.out (by decide)) BK352.out (by decide)) (fun _ hk => hk.1.2) (.int .i64 t379)) (fun _ hk => hk.2) (.int .i64 t379)) (fun _ hk => hk.2) (.slice Ao12 t359.length co12)) (fun _ hk => hk.2) (.int .i64 x363002_6)) (fun _ hk => hk.2) (.int .i64 x363003_22)) (fun _ hk => hk.2) (.int .i64 x363004_22)) (fun _ hk => trivial), z9_, z10_, z8_⟩
     ·rw [if_neg c43] at H
      have c43b0 : (t376 == 0) = false := beq_eq_false_iff_ne.mpr c43
      have c43b1 : (t376 != 0) = true := bne_iff_ne.mpr c43
      by_cases c52 : t376 = 1
      ·rw [if_pos c52] at H
       have c52b0 : (t376 == 1) = true := beq_iff_eq.mpr c52
       have c52b1 : (t376 != 1) = false := bne_eq_false_iff_eq.mpr c52
       clear c52
       replace H := Option.bind_eq_some_iff.mp H
       obtain ⟨⟨t382, t383, t384⟩, A530, H⟩ := H
       try dsimp only at H
       have A53 := Aside0.mk A530
       clear A530
       obtain ⟨c54, H⟩ := ifs_ H
       have LMc54 := Aside0.mk c54
       clear c54
       first | ((with_reducible have hz_ := gy_ H); obtain ⟨y385, Ny385, H⟩ := hz_) | (generalize hy_ : (t359 ++ [wrap64 (t382 - 1)]) = y385 at H; have Ny385 := Aside0.mk hy_.symm; clear hy_)
       simp only [Option.some.injEq, Prod.mk.injEq] at H
       obtain ⟨rfl, rfl, rfl, rfl, rfl, rfl, rfl⟩ := H
       try go_wp2_with (first | ((with_reducible refine gate_callee (f := 95) rfl ?_); refine goesL_ (some 48) rfl rfl Try.func95 (by kernel_rfl) rfl #[.pointer (some ⟨g, 0, none⟩), .int .i64 14] rfl z1_ ?_; (with_reducible refine (spec_l1Below.calls g s0_0 x1001_22 x1002_22 14 t376 t377 t378 w0 _ ?side1 ?side2 A42.out).mono ?_); (case side1 => exact z9_); (case side2 => exact z10_); rintro e w55 ⟨rfl, hi, hb, hk⟩; refine ⟨_, rfl, ?_⟩; replace HO_363001 := Aside0.mk (Kd.R_mono (Kd.R_keep (IsS132.apart (show IsS132 w0 _ g s0_0 x1001_22 x1002_22 from by repeat (first | (with_reducible first | exact HI0.out | apply IsS132.alloc | apply IsS132.drewN | apply IsS132.drew | apply IsS132.set_1 | apply IsS132.set_2 | refine IsS132.far ?_ NB0_352.out _ | refine IsS132.far ?_ NB0_362.out _) | exact HI0.out)) z47_ (by decide)) hk (fun _ h => h.2)) (fun _ h => h.1)); replace BK352 := Aside0.mk (KeepBut.blk hk (g' := gb352) (o := .cells #[.int .i64 0, .slice none 0 0, .int .i64 0, .int .i64 0, .int .i64 0] 121 (0, 0)) z38_ NB352_0.out (by simp)); replace BK362 := Aside0.mk (KeepBut.blk hk (g' := gb362) (o := .cells #[.int .i64 (wrap64 (1 + t353)), .slice Ao12 t359.length co12, .int .i64 x363002_6, .int .i64 x363003_22, .int .i64 x363004_22] 121 (0, 0)) z49_ NB362_0.out (by simp)); replace HK := Aside0.mk (KeepBut.trans z8_ hk (.inl rfl)); replace HB := Aside0.mk (hb); replace HI0 := Aside0.mk (hi); (try clear hb hk hi)))
       have n0_ := Aside0.mk (Kd.R_drew HO_363001.out)
       have n1_ := Aside0.mk (blk_drew BK352.out)
       have n2_ := Aside0.mk (blk_drew BK362.out)
       have n3_ := Aside0.mk (IsS132.drew HI0.out)
       have n4_ := Aside0.mk (keep_drew HK.out)
       have n5_ := Aside0.mk (below_drew1 HB.out)
       clear HO_363001
       clear BK352
       clear BK362
       clear HI0
       clear HK
       clear HB
       have HO_363001 := n0_
       have BK352 := n1_
       have BK362 := n2_
       have HI0 := n3_
       have HK := n4_
       have HB := n5_
       clear n0_ n1_ n2_ n3_ n4_ n5_
       refine start_ (n := 9) (S := fun w' => w'.cell? ⟨gb362, 0, none⟩ = some (.int .i64 (wrap64 (1 + t353))) ∧ w'.cell? ⟨gb362, 1, none⟩ = some (.slice Ao12 t359.length co12) ∧ w'.cell? ⟨gb362, 2, none⟩ = some (.int .i64 x363002_6) ∧ w'.cell? ⟨gb362, 3, none⟩ = some (.int .i64 x363003_22) ∧ w'.cell? ⟨gb362, 4, none⟩ = some (.int .i64 x363004_22)) (ds := [8]) (fl_ 9 0) (by kernel_rfl) rfl (fl_zero _) ⟨(blk_cell BK362.out 0).trans rfl, (blk_cell BK362.out 1).trans rfl, (blk_cell BK362.out 2).trans rfl, (blk_cell BK362.out 3).trans rfl, (blk_cell BK362.out 4).trans rfl⟩ (fun hHeld => ?_); refine with_tabW spec_l13Op.tab12 spec_l13Op.bits12 (fun HT_ HW_ => ?_)
       generalize w55.drew = w56 at HO_363001 BK352 BK362 HI0 HK HB hHeld ⊢
       refine zp_ HT_ rfl rfl (by kernel_rfl) (fun _ _ _ h => h) (by rfl) ?_
       refine zpg_ (i := 2) (ra_ [1, 1, 1, 6]) HT_ rfl rfl (by kernel_rfl) (fun _ _ _ h => h) (by rfl) ?_
       refine ztg_ (i := 1) (fl_ 9 3) HT_ HW_ rfl rfl (by kernel_rfl) (fun _ _ _ h => h) (by rfl) hHeld ?_ z129_
       refine one_ (i := 3) (N := some 59) (fl_ 9 4) rfl rfl (one_of HT_.out (by kernel_rfl)) (by decide) (fun K hK => ?_)
       refine goes_ Try.func95 (by kernel_rfl) rfl #[.pointer (some ⟨g, 0, none⟩), .int .i64 3] (by rfl) rfl rfl z1_ ?_
       with_reducible refine (spec_l1Below.calls g s0_0 t377 t378 3 t382 t383 t384 w0 _ ?side1 ?side2 A53.out).mono ?_
       (case side1 => exact z9_)
       (case side2 => exact z10_)
       rintro e w57 ⟨rfl, hi, hb, hk⟩
       refine ⟨_, rfl, ?_⟩
       have n0_ := Aside0.mk (Kd.R_mono (Kd.R_keep (IsS132.apart (show IsS132 w0 _ g s0_0 t377 t378 from by repeat (first | (with_reducible first | exact HI0.out | apply IsS132.alloc | apply IsS132.drewN | apply IsS132.drew | apply IsS132.set_1 | apply IsS132.set_2 | refine IsS132.far ?_ NB0_352.out _ | refine IsS132.far ?_ NB0_362.out _) | exact HI0.out)) z47_ (by decide)) hk (fun _ h => h.2)) (fun _ h => h.1))
       have n1_ := Aside0.mk (KeepBut.blk hk (g' := gb352) (o := .cells #[.int .i64 0, .slice none 0 0, .int .i64 0, .int .i64 0, .int .i64 0] 121 (0, 0)) z38_ NB352_0.out (by simp))
       have n2_ := Aside0.mk (KeepBut.blk hk (g' := gb362) (o := .cells #[.int .i64 (wrap64 (1 + t353)), .slice Ao12 t359.length co12, .int .i64 x363002_6, .int .i64 x363003_22, .int .i64 x363004_22] 121 (0, 0)) z49_ NB362_0.out (by simp))
       have n3_ := Aside0.mk (KeepBut.trans z8_ hk (.inl rfl))
       have n4_ := Aside0.mk (hb)
       have n5_ := Aside0.mk (hi)
       clear HO_363001
       clear BK352
       clear BK362
       clear HK
       clear HB
       clear HI0
       have HO_363001 := n0_
       have BK352 := n1_
       have BK362 := n2_
       have HK := n3_
       have HB := n4_
       have HI0 := n5_
       clear n0_ n1_ n2_ n3_ n4_ n5_
       (try clear hb)
       (try clear hb2)
       (try clear hk)
       (try clear hi)
       refine hK.out _ _ ⟨(blk_cell BK362.out 0).trans rfl, (blk_cell BK362.out 1).trans rfl, (blk_cell BK362.out 2).trans rfl, (blk_cell BK362.out 3).trans rfl, (blk_cell BK362.out 4).trans rfl⟩ (fun hHeld => ?_)
       clear hK K
       refine zn_ rfl ?_
       refine zp_ HT_ rfl rfl (by kernel_rfl) (fun _ _ _ h => h) (by rfl) ?_
       refine one_ (i := 5) (N := some 61) (fl_ 9 6) rfl rfl (one_of HT_.out (by kernel_rfl)) (by decide) (fun K hK => ?_)
       refine value_ (w1 := ?_) (v := ?_) (by rfl) rfl ?_ ?_
       rotate_left 2
       ·go_simp
        constructor
        ·rfl
        ·rfl
       refine hK.out _ _ ⟨(blk_cell (blk_alloc BK362.out _) 0).trans rfl, (blk_cell (blk_alloc BK362.out _) 1).trans rfl, (blk_cell (blk_alloc BK362.out _) 2).trans rfl, (blk_cell (blk_alloc BK362.out _) 3).trans rfl, (blk_cell (blk_alloc BK362.out _) 4).trans rfl⟩ (fun hHeld => ?_)
       clear hK K
       refine zn_ rfl ?_
       refine one_ (i := 6) (N := some 62) (fl_ 9 7) rfl rfl (one_of HT_.out (by kernel_rfl)) (by decide) (fun K hK => ?_)
       refine Kd.R_append_step (Kd.int .i64) w.heap.size (by rfl) (.tmp 57) (.tmp 61) 49 3 (.int .i64 0) 8 rfl Try.underlying49 info3 rfl (by decide) (by omega) (.slice Ao12 t359.length co12) t359 (wrap64 (t382 - 1)) [.int .i64 (wrap64 (t382 - 1))] (fun _ => True) (fun _ => False) rfl rfl ?aP (fun _ hk => hk.elim) ?aF ?aO (Below.refl _ _) ?aS ?aL ?_
       (case aP => exact rfl)
       (case aF => exact z126_)
       (case aO => exact z47_)
       (case aS => exact (keep_size (w := w) (g := g) (row := none) z8_))
       (case aL => have := LMc54.out; omega)
       intro v386 w58 ho hb hg hat
       rw [← Ny385.out] at ho
       have n0_ := Aside0.mk (blk_grown (g := gb352) (o := .cells #[.int .i64 0, .slice none 0 0, .int .i64 0, .int .i64 0, .int .i64 0] 121 (0, 0)) z38_ hg (Kd.R_ne HO_363001.out BK352.out (by decide)))
       have n1_ := Aside0.mk (blk_grown (g := gb362) (o := .cells #[.int .i64 (wrap64 (1 + t353)), .slice Ao12 t359.length co12, .int .i64 x363002_6, .int .i64 x363003_22, .int .i64 x363004_22] 121 (0, 0)) z49_ hg (Kd.R_ne HO_363001.out BK362.out (by decide)))
       have n2_ := Aside0.mk (IsS132.grown z9_ hg (IsS132.own_ne HI0.out HO_363001.out (by decide)))
       have n3_ := Aside0.mk (below_weaken z10_ HL.out hb)
       have n4_ := Aside0.mk (KeepBut.trans z8_ (KeepBut.of_grown hg g) (Kd.R_base2 HO_363001.out))
       have n5_ := Aside0.mk (ho)
       clear BK352
       clear BK362
       clear HI0
       clear HB
       clear HK
       clear HO_363001
       have BK352 := n0_
       have BK362 := n1_
       have HI0 := n2_
       have HB := n3_
       have HK := n4_
       have HO387 := n5_
       clear n0_ n1_ n2_ n3_ n4_ n5_
       clear ho hb hg hat
       obtain ⟨Ao59, co59, eo59⟩ := Kd.R_slice HO387.out
       (first | subst eo59 | (injection eo59 with f1_ f2_ f3_; have f4_ := f1_.symm; have f5_ := f3_.symm; clear f1_ f2_ f3_; subst f4_; subst f5_))
       refine hK.out _ _ ⟨(blk_cell BK362.out 0).trans rfl, (blk_cell BK362.out 1).trans rfl, (blk_cell BK362.out 2).trans rfl, (blk_cell BK362.out 3).trans rfl, (blk_cell BK362.out 4).trans rfl⟩ (fun hHeld => ?_)
       clear hK K
       refine zn_ rfl ?_
       refine zp_ HT_ rfl rfl (by kernel_rfl) (fun _ _ _ h => h) (by rfl) ?_
       refine last_ (i := 8) (N := none) (fl_ 9 9) rfl rfl (one_of HT_.out (by kernel_rfl)) (by decide) (fun K hK => ?_)
       have hs60 : w58.cell? ⟨gb362, 1, none⟩ = some (.slice Ao12 t359.length co12) := (blk_cell BK362.out 1).trans rfl
       have hfs60 := blk_frozen BK362.out 1
       have hns60_0 := NB352_362.out
       have hms60_0 := NB362_352.out
       refine skip_ (w1 := ?_) (by rfl) rfl ?_ ?_
       rotate_left
       ·go_simp
        rfl
       refine hK.out _ _ ?_
       clear hK K
       refine done_ (done_of HT_.out (by kernel_rfl)) ?_
       have hnb61 := NB362_352.out
       have hnc61 := NB352_362.out
       have hnb62 := NB362_0.out
       have hnc62 := NB0_362.out
       obtain ⟨hcz63_0, hcz63_1, hcz63_2, hcz63_3, hcz63_4, hfz63_0, hfz63_1, hfz63_2, hfz63_3, hfz63_4⟩ := bx5_ BK362.out
       have hnb64 := NB352_0.out
       have hnc64 := NB0_352.out
       obtain ⟨hcz65_0, hcz65_1, hcz65_2, hcz65_3, hcz65_4, hfz65_0, hfz65_1, hfz65_2, hfz65_3, hfz65_4⟩ := bx5_ BK352.out
       try go_wp2
       refine bodyPost_ret (results_cell_row rfl _ _ gb352 121 #[.int .i64 (wrap64 (1 + t353)), .slice Ao59 y385.length co59, .int .i64 x363002_6, .int .i64 x363003_22, .int .i64 x363004_22] (0, 0) _ rfl (by (with_reducible repeat (first | refine blk_drewN ?_ _ | refine blk_drew ?_ | refine blk_alloc ?_ _)); refine blk_put (cs := #[.int .i64 (wrap64 (1 + t353)), .slice Ao59 y385.length co59, .int .i64 x363002_6, .int .i64 x363003_22, .int .i64 0]) ?_ 4 _ rfl; (with_reducible repeat (first | refine blk_drewN ?_ _ | refine blk_drew ?_ | refine blk_alloc ?_ _)); refine blk_put (cs := #[.int .i64 (wrap64 (1 + t353)), .slice Ao59 y385.length co59, .int .i64 x363002_6, .int .i64 0, .int .i64 0]) ?_ 3 _ rfl; (with_reducible repeat (first | refine blk_drewN ?_ _ | refine blk_drew ?_ | refine blk_alloc ?_ _)); refine blk_put (cs := #[.int .i64 (wrap64 (1 + t353)), .slice Ao59 y385.length co59, .int .i64 0, .int .i64 0, .int .i64 0]) ?_ 2 _ rfl; (with_reducible repeat (first | refine blk_drewN ?_ _ | refine blk_drew ?_ | refine blk_alloc ?_ _)); refine blk_put (cs := #[.int .i64 (wrap64 (1 + t353)), .slice none 0 0, .int .i64 0, .int .i64 0, .int .i64 0]) ?_ 1 _ rfl; (with_reducible repeat (first | refine blk_drewN ?_ _ | refine blk_drew ?_ | refine blk_alloc ?_ _)); refine blk_put (cs := #[.int .i64 0, .slice none 0 0, .int .i64 0, .int .i64 0, .int .i64 0]) ?_ 0 _ rfl; (with_reducible repeat (first | refine blk_drewN ?_ _ | refine blk_drew ?_ | refine blk_alloc ?_ _)); refine blk_far ?_ NB352_362.out _; (with_reducible repeat (first | refine blk_drewN ?_ _ | refine blk_drew ?_ | refine blk_alloc ?_ _)); exact BK352.out) Try.underlying121 rfl (by kernel_rfl)) rfl ?_
       exact ⟨_, z79_, by (with_reducible repeat (first | apply Kd.R_alloc | apply Kd.R_drewN | apply Kd.R_drew)); exact Kd.R_mono (Kd.R_far (p := ⟨gb352, 4, none⟩) (Kd.R_far (p := ⟨gb352, 3, none⟩) (Kd.R_far (p := ⟨gb352, 2, none⟩) (Kd.R_far (p := ⟨gb352, 1, none⟩) (Kd.R_far (p := ⟨gb352, 0, none⟩) (Kd.R_far (p := ⟨gb362, 1, none⟩) (Kd.R_types (Kd.R_types HO387.out BK362.out (by decide)) BK352.out (by decide)) (fun _ hk => hk.1.2) (.slice Ao59 y385.length co59)) (fun _ hk => hk.2) (.int .i64 (wrap64 (1 + t353)))) (fun _ hk => hk.2) (.slice Ao59 y385.length co59)) (fun _ hk => hk.2) (.int .i64 x363002_6)) (fun _ hk => hk.2) (.int .i64 x363003_22)) (fun _ hk => hk.2) (.int .i64 x363004_22)) (fun _ hk => trivial), z9_, z10_, z8_⟩
      ·rw [if_neg c52] at H
       have c52b0 : (t376 == 1) = false := beq_eq_false_iff_ne.mpr c52
       have c52b1 : (t376 != 1) = true := bne_iff_ne.mpr c52
       by_cases c66 : t376 = 2
       ·rw [if_pos c66] at H
        have c66b0 : (t376 == 2) = true := beq_iff_eq.mpr c66
        have c66b1 : (t376 != 2) = false := bne_eq_false_iff_eq.mpr c66
        clear c66
        replace H := Option.bind_eq_some_iff.mp H
        obtain ⟨⟨t388, t389, t390⟩, A670, H⟩ := H
        try dsimp only at H
        have A67 := Aside0.mk A670
        clear A670
        simp only [Option.some.injEq, Prod.mk.injEq] at H
        obtain ⟨rfl, rfl, rfl, rfl, rfl, rfl, rfl⟩ := H
        go_wp2_with (first | ((with_reducible refine gate_callee (f := 95) rfl ?_); refine goesL_ (some 48) rfl rfl Try.func95 (by kernel_rfl) rfl #[.pointer (some ⟨g, 0, none⟩), .int .i64 14] rfl z1_ ?_; (with_reducible refine (spec_l1Below.calls g s0_0 x1001_22 x1002_22 14 t376 t377 t378 w0 _ ?side1 ?side2 A42.out).mono ?_); (case side1 => exact z9_); (case side2 => exact z10_); rintro e w68 ⟨rfl, hi, hb, hk⟩; refine ⟨_, rfl, ?_⟩; replace HO_363001 := Aside0.mk (Kd.R_mono (Kd.R_keep (IsS132.apart (show IsS132 w0 _ g s0_0 x1001_22 x1002_22 from by repeat (first | (with_reducible first | exact HI0.out | apply IsS132.alloc | apply IsS132.drewN | apply IsS132.drew | apply IsS132.set_1 | apply IsS132.set_2 | refine IsS132.far ?_ NB0_352.out _ | refine IsS132.far ?_ NB0_362.out _) | exact HI0.out)) z47_ (by decide)) hk (fun _ h => h.2)) (fun _ h => h.1)); replace BK352 := Aside0.mk (KeepBut.blk hk (g' := gb352) (o := .cells #[.int .i64 0, .slice none 0 0, .int .i64 0, .int .i64 0, .int .i64 0] 121 (0, 0)) z38_ NB352_0.out (by simp)); replace BK362 := Aside0.mk (KeepBut.blk hk (g' := gb362) (o := .cells #[.int .i64 (wrap64 (1 + t353)), .slice Ao12 t359.length co12, .int .i64 x363002_6, .int .i64 x363003_22, .int .i64 x363004_22] 121 (0, 0)) z49_ NB362_0.out (by simp)); replace HK := Aside0.mk (KeepBut.trans z8_ hk (.inl rfl)); replace HB := Aside0.mk (hb); replace HI0 := Aside0.mk (hi); (try clear hb hk hi)) | ((with_reducible refine gate_callee (f := 94) rfl ?_); refine goesL_ (some 67) rfl rfl Try.func94 (by kernel_rfl) rfl #[.pointer (some ⟨g, 0, none⟩)] rfl z1_ ?_; (with_reducible refine (spec_l2Any.calls g s0_0 t377 t378 t388 t389 t390 w0 _ ?side1 ?side2 A67.out).mono ?_); (case side1 => exact z9_); (case side2 => exact z10_); rintro e w69 ⟨rfl, hi, hb, hk⟩; refine ⟨_, rfl, ?_⟩; replace HO_363001 := Aside0.mk (Kd.R_mono (Kd.R_keep (IsS132.apart (show IsS132 w0 _ g s0_0 t377 t378 from by repeat (first | (with_reducible first | exact HI0.out | apply IsS132.alloc | apply IsS132.drewN | apply IsS132.drew | apply IsS132.set_1 | apply IsS132.set_2 | refine IsS132.far ?_ NB0_352.out _ | refine IsS132.far ?_ NB0_362.out _) | exact HI0.out)) z47_ (by decide)) hk (fun _ h => h.2)) (fun _ h => h.1)); replace BK352 := Aside0.mk (KeepBut.blk hk (g' := gb352) (o := .cells #[.int .i64 0, .slice none 0 0, .int .i64 0, .int .i64 0, .int .i64 0] 121 (0, 0)) z38_ NB352_0.out (by simp)); replace BK362 := Aside0.mk (KeepBut.blk hk (g' := gb362) (o := .cells #[.int .i64 (wrap64 (1 + t353)), .slice Ao12 t359.length co12, .int .i64 x363002_6, .int .i64 x363003_22, .int .i64 x363004_22] 121 (0, 0)) z49_ NB362_0.out (by simp)); replace HK := Aside0.mk (KeepBut.trans z8_ hk (.inl rfl)); replace HB := Aside0.mk (hb); replace HI0 := Aside0.mk (hi); (try clear hb hk hi); have hnb70 := NB362_352.out; have hnc70 := NB352_362.out; have hnb71 := NB362_0.out; have hnc71 := NB0_362.out; obtain ⟨hcz72_0, hcz72_1, hcz72_2, hcz72_3, hcz72_4, hfz72_0, hfz72_1, hfz72_2, hfz72_3, hfz72_4⟩ := bx5_ BK362.out; have hnb73 := NB352_0.out; have hnc73 := NB0_352.out; obtain ⟨hcz74_0, hcz74_1, hcz74_2, hcz74_3, hcz74_4, hfz74_0, hfz74_1, hfz74_2, hfz74_3, hfz74_4⟩ := bx5_ BK352.out))
        refine bodyPost_ret (results_cell_row rfl _ _ gb352 121 #[.int .i64 (wrap64 (1 + t353)), .slice Ao12 t359.length co12, .int .i64 t388, .int .i64 x363003_22, .int .i64 x363004_22] (0, 0) _ rfl (by (with_reducible repeat (first | refine blk_drewN ?_ _ | refine blk_drew ?_ | refine blk_alloc ?_ _)); refine blk_put (cs := #[.int .i64 (wrap64 (1 + t353)), .slice Ao12 t359.length co12, .int .i64 t388, .int .i64 x363003_22, .int .i64 0]) ?_ 4 _ rfl; (with_reducible repeat (first | refine blk_drewN ?_ _ | refine blk_drew ?_ | refine blk_alloc ?_ _)); refine blk_put (cs := #[.int .i64 (wrap64 (1 + t353)), .slice Ao12 t359.length co12, .int .i64 t388, .int .i64 0, .int .i64 0]) ?_ 3 _ rfl; (with_reducible repeat (first | refine blk_drewN ?_ _ | refine blk_drew ?_ | refine blk_alloc ?_ _)); refine blk_put (cs := #[.int .i64 (wrap64 (1 + t353)), .slice Ao12 t359.length co12, .int .i64 0, .int .i64 0, .int .i64 0]) ?_ 2 _ rfl; (with_reducible repeat (first | refine blk_drewN ?_ _ | refine blk_drew ?_ | refine blk_alloc ?_ _)); refine blk_put (cs := #[.int .i64 (wrap64 (1 + t353)), .slice none 0 0, .int .i64 0, .int .i64 0, .int .i64 0]) ?_ 1 _ rfl; (with_reducible repeat (first | refine blk_drewN ?_ _ | refine blk_drew ?_ | refine blk_alloc ?_ _)); refine blk_put (cs := #[.int .i64 0, .slice none 0 0, .int .i64 0, .int .i64 0, .int .i64 0]) ?_ 0 _ rfl; (with_reducible repeat (first | refine blk_drewN ?_ _ | refine blk_drew ?_ | refine blk_alloc ?_ _)); refine blk_far ?_ NB352_362.out _; (with_reducible repeat (first | refine blk_drewN ?_ _ | refine blk_drew ?_ | refine blk_alloc ?_ _)); exact BK352.out) Try.underlying121 rfl (by kernel_rfl)) rfl ?_
        exact ⟨_, z79_, by (with_reducible repeat (first | apply Kd.R_alloc | apply Kd.R_drewN | apply Kd.R_drew)); exact Kd.R_mono (Kd.R_far (p := ⟨gb352, 4, none⟩) (Kd.R_far (p := ⟨gb352, 3, none⟩) (Kd.R_far (p := ⟨gb352, 2, none⟩) (Kd.R_far (p := ⟨gb352, 1, none⟩) (Kd.R_far (p := ⟨gb352, 0, none⟩) (Kd.R_far (p := ⟨gb362, 2, none⟩) (Kd.R_types (Kd.R_types HO_363001.out BK362.out (by decide)) BK352.out (by decide)) (fun _ hk => hk.1.2) (.int .i64 t388)) (fun _ hk => hk.2) (.int .i64 (wrap64 (1 + t353)))) (fun _ hk => hk.2) (.slice Ao12 t359.length co12)) (fun _ hk => hk.2) (.int .i64 t388)) (fun _ hk => hk.2) (.int .i64 x363003_22)) (fun _ hk => hk.2) (.int .i64 x363004_22)) (fun _ hk => trivial), z9_, z10_, z8_⟩
       ·rw [if_neg c66] at H
        have c66b0 : (t376 == 2) = false := beq_eq_false_iff_ne.mpr c66
        have c66b1 : (t376 != 2) = true := bne_iff_ne.mpr c66
        by_cases c75 : t376 = 3
        ·rw [if_pos c75] at H
         have c75b0 : (t376 == 3) = true := beq_iff_eq.mpr c75
         have c75b1 : (t376 != 3) = false := bne_eq_false_iff_eq.mpr c75
         clear c75
         first | ((with_reducible have hz_ := gy_ H); obtain ⟨y391, Ny391, H⟩ := hz_) | (generalize hy_ : (([(-1), 1, 9, 9223372036854775807] : List Int)) = y391 at H; have Ny391 := Aside0.mk hy_.symm; clear hy_)
         replace H := Option.bind_eq_some_iff.mp H
         obtain ⟨⟨t394, t395, t396⟩, A760, H⟩ := H
         try dsimp only at H
         have A76 := Aside0.mk A760
         clear A760
         simp only [Option.some.injEq, Prod.mk.injEq] at H
         obtain ⟨rfl, rfl, rfl, rfl, rfl, rfl, rfl⟩ := H
         go_wp2_with (first | ((with_reducible refine gate_callee (f := 95) rfl ?_); refine goesL_ (some 48) rfl rfl Try.func95 (by kernel_rfl) rfl #[.pointer (some ⟨g, 0, none⟩), .int .i64 14] rfl z1_ ?_; (with_reducible refine (spec_l1Below.calls g s0_0 x1001_22 x1002_22 14 t376 t377 t378 w0 _ ?side1 ?side2 A42.out).mono ?_); (case side1 => exact z9_); (case side2 => exact z10_); rintro e w77 ⟨rfl, hi, hb, hk⟩; refine ⟨_, rfl, ?_⟩; replace HO_363001 := Aside0.mk (Kd.R_mono (Kd.R_keep (IsS132.apart (show IsS132 w0 _ g s0_0 x1001_22 x1002_22 from by repeat (first | (with_reducible first | exact HI0.out | apply IsS132.alloc | apply IsS132.drewN | apply IsS132.drew | apply IsS132.set_1 | apply IsS132.set_2 | refine IsS132.far ?_ NB0_352.out _ | refine IsS132.far ?_ NB0_362.out _) | exact HI0.out)) z47_ (by decide)) hk (fun _ h => h.2)) (fun _ h => h.1)); replace BK352 := Aside0.mk (KeepBut.blk hk (g' := gb352) (o := .cells #[.int .i64 0, .slice none 0 0, .int .i64 0, .int .i64 0, .int .i64 0] 121 (0, 0)) z38_ NB352_0.out (by simp)); replace BK362 := Aside0.mk (KeepBut.blk hk (g' := gb362) (o := .cells #[.int .i64 (wrap64 (1 + t353)), .slice Ao12 t359.length co12, .int .i64 x363002_6, .int .i64 x363003_22, .int .i64 x363004_22] 121 (0, 0)) z49_ NB362_0.out (by simp)); replace HK := Aside0.mk (KeepBut.trans z8_ hk (.inl rfl)); replace HB := Aside0.mk (hb); replace HI0 := Aside0.mk (hi); (try clear hb hk hi)) | ((with_reducible refine gate_dst (N := 72) rfl ?_); refine Kd.R_lit (Kd.int .i64) _ 3 ?hg (N := 72) ?hd (xs := ([(-1), 1, 9, 9223372036854775807] : List Int)) (inner := [.int .i64 (-1), .int .i64 1, .int .i64 9, .int .i64 9223372036854775807]) (ok := fun _ => True) (okp := fun _ => True) ?hr ?hp (fun _ hk => hk) trivial (Below.refl _ _) (Nat.le_refl _) (by simp) ?_; (case hd => rfl); (case hg => rfl); (case hr => exact z21_); (case hp => exact z114_); intro v392 w78 ho79 hb hg_ hnew_; clear hg_ hnew_; (first | rw [← Ny391.out] at ho79 | (simp only [Int.reduceToNat] at ho79; rw [← Ny391.out] at ho79)); have HO393 := Aside0.mk (Kd.R_lower (Kd.R_new' ho79 (Kd.R_lt z47_)) (keep_size (w := w) (g := g) (row := none) z8_)); replace HO_363001 := Aside0.mk (Kd.R_elder' z47_ (Kd.R_base ho79) hb); replace BK352 := Aside0.mk (blk_below (g := gb352) (o := .cells #[.int .i64 0, .slice none 0 0, .int .i64 0, .int .i64 0, .int .i64 0] 121 (0, 0)) z38_ hb); replace BK362 := Aside0.mk (blk_below (g := gb362) (o := .cells #[.int .i64 (wrap64 (1 + t353)), .slice Ao12 t359.length co12, .int .i64 x363002_6, .int .i64 x363003_22, .int .i64 x363004_22] 121 (0, 0)) z49_ hb); replace HK := Aside0.mk (KeepBut.trans z8_ (KeepBut.of_below hb g none) (.inl rfl)); replace HB := Aside0.mk (below_step z10_ hb); replace HI0 := Aside0.mk (IsS132.below z9_ hb); clear hb ho79; obtain ⟨Ao80, co80, eo80⟩ := Kd.R_slice HO393.out; subst eo80) | ((with_reducible refine gate_callee (f := 108) rfl ?_); refine goesL_ (some 73) rfl rfl Try.func108 (by kernel_rfl) rfl #[.pointer (some ⟨g, 0, none⟩), .slice Ao80 y391.length co80] rfl z1_ ?_; (with_reducible refine (spec_l1PickInt.calls g s0_0 t377 t378 _ _ y391 t394 t395 t396 w0 _ ?side1 ?side2 ?side3 ?side4 ?side5 A76.out).mono ?_); (case side1 => exact z9_); (case side2 => exact z10_); (case side3 => repeat (first | exact (Kd.R_reads' HO393.out).2.2 | (with_reducible refine Kd.C_alloc ?_ _) | (with_reducible refine Kd.C_drewN ?_ _) | (with_reducible refine Kd.C_drew ?_))); (case side4 => exact (Kd.R_reads' HO393.out).2.1); (case side5 => exact far_slice (IsS132.own_ne HI0.out HO393.out (by decide))); rintro e w81 ⟨rfl, hi, hb, hk⟩; refine ⟨_, rfl, ?_⟩; replace HO_363001 := Aside0.mk (Kd.R_mono (Kd.R_keep (IsS132.apart (show IsS132 w0 _ g s0_0 t377 t378 from by repeat (first | (with_reducible first | exact HI0.out | apply IsS132.alloc | apply IsS132.drewN | apply IsS132.drew | apply IsS132.set_1 | apply IsS132.set_2 | refine IsS132.far ?_ NB0_352.out _ | refine IsS132.far ?_ NB0_362.out _) | exact HI0.out)) z47_ (by decide)) hk (fun _ h => h.2)) (fun _ h => h.1)); replace BK352 := Aside0.mk (KeepBut.blk hk (g' := gb352) (o := .cells #[.int .i64 0, .slice none 0 0, .int .i64 0, .int .i64 0, .int .i64 0] 121 (0, 0)) z38_ NB352_0.out (by simp)); replace BK362 := Aside0.mk (KeepBut.blk hk (g' := gb362) (o := .cells #[.int .i64 (wrap64 (1 + t353)), .slice Ao12 t359.length co12, .int .i64 x363002_6, .int .i64 x363003_22, .int .i64 x363004_22] 121 (0, 0)) z49_ NB362_0.out (by simp)); replace HO393 := Aside0.mk (Kd.R_mono (Kd.R_keep (IsS132.apart (show IsS132 w0 _ g s0_0 t377 t378 from by repeat (first | (with_reducible first | exact HI0.out | apply IsS132.alloc | apply IsS132.drewN | apply IsS132.drew | apply IsS132.set_1 | apply IsS132.set_2 | refine IsS132.far ?_ NB0_352.out _ | refine IsS132.far ?_ NB0_362.out _) | exact HI0.out)) (by (with_reducible repeat (first | apply Kd.R_alloc | apply Kd.R_drewN | apply Kd.R_drew)); exact HO393.out) (by decide)) hk (fun _ h => h.2)) (fun _ h => h.1)); replace HK := Aside0.mk (KeepBut.trans z8_ hk (.inl rfl)); replace HB := Aside0.mk (hb); replace HI0 := Aside0.mk (hi); (try clear hb hk hi); have hnb82 := NB362_352.out; have hnc82 := NB352_362.out; have hnb83 := NB362_0.out; have hnc83 := NB0_362.out; obtain ⟨hcz84_0, hcz84_1, hcz84_2, hcz84_3, hcz84_4, hfz84_0, hfz84_1, hfz84_2, hfz84_3, hfz84_4⟩ := bx5_ BK362.out; have hnb85 := NB352_0.out; have hnc85 := NB0_352.out; obtain ⟨hcz86_0, hcz86_1, hcz86_2, hcz86_3, hcz86_4, hfz86_0, hfz86_1, hfz86_2, hfz86_3, hfz86_4⟩ := bx5_ BK352.out))
         refine bodyPost_ret (results_cell_row rfl _ _ gb352 121 #[.int .i64 (wrap64 (1 + t353)), .slice Ao12 t359.length co12, .int .i64 x363002_6, .int .i64 t394, .int .i64 x363004_22] (0, 0) _ rfl (by (with_reducible repeat (first | refine blk_drewN ?_ _ | refine blk_drew ?_ | refine blk_alloc ?_ _)); refine blk_put (cs := #[.int .i64 (wrap64 (1 + t353)), .slice Ao12 t359.length co12, .int .i64 x363002_6, .int .i64 t394, .int .i64 0]) ?_ 4 _ rfl; (with_reducible repeat (first | refine blk_drewN ?_ _ | refine blk_drew ?_ | refine blk_alloc ?_ _)); refine blk_put (cs := #[.int .i64 (wrap64 (1 + t353)), .slice Ao12 t359.length co12, .int .i64 x363002_6, .int .i64 0, .int .i64 0]) ?_ 3 _ rfl; (with_reducible repeat (first | refine blk_drewN ?_ _ | refine blk_drew ?_ | refine blk_alloc ?_ _)); refine blk_put (cs := #[.int .i64 (wrap64 (1 + t353)), .slice Ao12 t359.length co12, .int .i64 0, .int .i64 0, .int .i64 0]) ?_ 2 _ rfl; (with_reducible repeat (first | refine blk_drewN ?_ _ | refine blk_drew ?_ | refine blk_alloc ?_ _)); refine blk_put (cs := #[.int .i64 (wrap64 (1 + t353)), .slice none 0 0, .int .i64 0, .int .i64 0, .int .i64 0]) ?_ 1 _ rfl; (with_reducible repeat (first | refine blk_drewN ?_ _ | refine blk_drew ?_ | refine blk_alloc ?_ _)); refine blk_put (cs := #[.int .i64 0, .slice none 0 0, .int .i64 0, .int .i64 0, .int .i64 0]) ?_ 0 _ rfl; (with_reducible repeat (first | refine blk_drewN ?_ _ | refine blk_drew ?_ | refine blk_alloc ?_ _)); refine blk_far ?_ NB352_362.out _; (with_reducible repeat (first | refine blk_drewN ?_ _ | refine blk_drew ?_ | refine blk_alloc ?_ _)); exact BK352.out) Try.underlying121 rfl (by kernel_rfl)) rfl ?_
         exact ⟨_, z79_, by (with_reducible repeat (first | apply Kd.R_alloc | apply Kd.R_drewN | apply Kd.R_drew)); exact Kd.R_mono (Kd.R_far (p := ⟨gb352, 4, none⟩) (Kd.R_far (p := ⟨gb352, 3, none⟩) (Kd.R_far (p := ⟨gb352, 2, none⟩) (Kd.R_far (p := ⟨gb352, 1, none⟩) (Kd.R_far (p := ⟨gb352, 0, none⟩) (Kd.R_far (p := ⟨gb362, 3, none⟩) (Kd.R_types (Kd.R_types HO_363001.out BK362.out (by decide)) BK352.out (by decide)) (fun _ hk => hk.1.2) (.int .i64 t394)) (fun _ hk => hk.2) (.int .i64 (wrap64 (1 + t353)))) (fun _ hk => hk.2) (.slice Ao12 t359.length co12)) (fun _ hk => hk.2) (.int .i64 x363002_6)) (fun _ hk => hk.2) (.int .i64 t394)) (fun _ hk => hk.2) (.int .i64 x363004_22)) (fun _ hk => trivial), z9_, z10_, z8_⟩
        ·rw [if_neg c75] at H
         have c75b0 : (t376 == 3) = false := beq_eq_false_iff_ne.mpr c75
         have c75b1 : (t376 != 3) = true := bne_iff_ne.mpr c75
         by_cases c87 : t376 = 4
         ·rw [if_pos c87] at H
          have c87b0 : (t376 == 4) = true := beq_iff_eq.mpr c87
          have c87b1 : (t376 != 4) = false := bne_eq_false_iff_eq.mpr c87
          clear c87
          first | ((with_reducible have hz_ := gy_ H); obtain ⟨y397, Ny397, H⟩ := hz_) | (generalize hy_ : (([(-1), 1, 9, 9223372036854775807] : List Int)) = y397 at H; have Ny397 := Aside0.mk hy_.symm; clear hy_)
          replace H := Option.bind_eq_some_iff.mp H
          obtain ⟨⟨t400, t401, t402⟩, A880, H⟩ := H
          try dsimp only at H
          have A88 := Aside0.mk A880
          clear A880
          simp only [Option.some.injEq, Prod.mk.injEq] at H
          obtain ⟨rfl, rfl, rfl, rfl, rfl, rfl, rfl⟩ := H
          go_wp2_with (first | ((with_reducible refine gate_callee (f := 95) rfl ?_); refine goesL_ (some 48) rfl rfl Try.func95 (by kernel_rfl) rfl #[.pointer (some ⟨g, 0, none⟩), .int .i64 14] rfl z1_ ?_; (with_reducible refine (spec_l1Below.calls g s0_0 x1001_22 x1002_22 14 t376 t377 t378 w0 _ ?side1 ?side2 A42.out).mono ?_); (case side1 => exact z9_); (case side2 => exact z10_); rintro e w89 ⟨rfl, hi, hb, hk⟩; refine ⟨_, rfl, ?_⟩; replace HO_363001 := Aside0.mk (Kd.R_mono (Kd.R_keep (IsS132.apart (show IsS132 w0 _ g s0_0 x1001_22 x1002_22 from by repeat (first | (with_reducible first | exact HI0.out | apply IsS132.alloc | apply IsS132.drewN | apply IsS132.drew | apply IsS132.set_1 | apply IsS132.set_2 | refine IsS132.far ?_ NB0_352.out _ | refine IsS132.far ?_ NB0_362.out _) | exact HI0.out)) z47_ (by decide)) hk (fun _ h => h.2)) (fun _ h => h.1)); replace BK352 := Aside0.mk (KeepBut.blk hk (g' := gb352) (o := .cells #[.int .i64 0, .slice none 0 0, .int .i64 0, .int .i64 0, .int .i64 0] 121 (0, 0)) z38_ NB352_0.out (by simp)); replace BK362 := Aside0.mk (KeepBut.blk hk (g' := gb362) (o := .cells #[.int .i64 (wrap64 (1 + t353)), .slice Ao12 t359.length co12, .int .i64 x363002_6, .int .i64 x363003_22, .int .i64 x363004_22] 121 (0, 0)) z49_ NB362_0.out (by simp)); replace HK := Aside0.mk (KeepBut.trans z8_ hk (.inl rfl)); replace HB := Aside0.mk (hb); replace HI0 := Aside0.mk (hi); (try clear hb hk hi)) | ((with_reducible refine gate_dst (N := 78) rfl ?_); refine Kd.R_lit (Kd.int .i64) _ 3 ?hg (N := 78) ?hd (xs := ([(-1), 1, 9, 9223372036854775807] : List Int)) (inner := [.int .i64 (-1), .int .i64 1, .int .i64 9, .int .i64 9223372036854775807]) (ok := fun _ => True) (okp := fun _ => True) ?hr ?hp (fun _ hk => hk) trivial (Below.refl _ _) (Nat.le_refl _) (by simp) ?_; (case hd => rfl); (case hg => rfl); (case hr => exact z21_); (case hp => exact z114_); intro v398 w90 ho91 hb hg_ hnew_; clear hg_ hnew_; (first | rw [← Ny397.out] at ho91 | (simp only [Int.reduceToNat] at ho91; rw [← Ny397.out] at ho91)); have HO399 := Aside0.mk (Kd.R_lower (Kd.R_new' ho91 (Kd.R_lt z47_)) (keep_size (w := w) (g := g) (row := none) z8_)); replace HO_363001 := Aside0.mk (Kd.R_elder' z47_ (Kd.R_base ho91) hb); replace BK352 := Aside0.mk (blk_below (g := gb352) (o := .cells #[.int .i64 0, .slice none 0 0, .int .i64 0, .int .i64 0, .int .i64 0] 121 (0, 0)) z38_ hb); replace BK362 := Aside0.mk (blk_below (g := gb362) (o := .cells #[.int .i64 (wrap64 (1 + t353)), .slice Ao12 t359.length co12, .int .i64 x363002_6, .int .i64 x363003_22, .int .i64 x363004_22] 121 (0, 0)) z49_ hb); replace HK := Aside0.mk (KeepBut.trans z8_ (KeepBut.of_below hb g none) (.inl rfl)); replace HB := Aside0.mk (below_step z10_ hb); replace HI0 := Aside0.mk (IsS132.below z9_ hb); clear hb ho91; obtain ⟨Ao92, co92, eo92⟩ := Kd.R_slice HO399.out; subst eo92) | ((with_reducible refine gate_callee (f := 108) rfl ?_); refine goesL_ (some 79) rfl rfl Try.func108 (by kernel_rfl) rfl #[.pointer (some ⟨g, 0, none⟩), .slice Ao92 y397.length co92] rfl z1_ ?_; (with_reducible refine (spec_l1PickInt.calls g s0_0 t377 t378 _ _ y397 t400 t401 t402 w0 _ ?side1 ?side2 ?side3 ?side4 ?side5 A88.out).mono ?_); (case side1 => exact z9_); (case side2 => exact z10_); (case side3 => repeat (first | exact (Kd.R_reads' HO399.out).2.2 | (with_reducible refine Kd.C_alloc ?_ _) | (with_reducible refine Kd.C_drewN ?_ _) | (with_reducible refine Kd.C_drew ?_))); (case side4 => exact (Kd.R_reads' HO399.out).2.1); (case side5 => exact far_slice (IsS132.own_ne HI0.out HO399.out (by decide))); rintro e w93 ⟨rfl, hi, hb, hk⟩; refine ⟨_, rfl, ?_⟩; replace HO_363001 := Aside0.mk (Kd.R_mono (Kd.R_keep (IsS132.apart (show IsS132 w0 _ g s0_0 t377 t378 from by repeat (first | (with_reducible first | exact HI0.out | apply IsS132.alloc | apply IsS132.drewN | apply IsS132.drew | apply IsS132.set_1 | apply IsS132.set_2 | refine IsS132.far ?_ NB0_352.out _ | refine IsS132.far ?_ NB0_362.out _) | exact HI0.out)) z47_ (by decide)) hk (fun _ h => h.2)) (fun _ h => h.1)); replace BK352 := Aside0.mk (KeepBut.blk hk (g' := gb352) (o := .cells #[.int .i64 0, .slice none 0 0, .int .i64 0, .int .i64 0, .int .i64 0] 121 (0, 0)) z38_ NB352_0.out (by simp)); replace BK362 := Aside0.mk (KeepBut.blk hk (g' := gb362) (o := .cells #[.int .i64 (wrap64 (1 + t353)), .slice Ao12 t359.length co12, .int .i64 x363002_6, .int .i64 x363003_22, .int .i64 x363004_22] 121 (0, 0)) z49_ NB362_0.out (by simp)); replace HO399 := Aside0.mk (Kd.R_mono (Kd.R_keep (IsS132.apart (show IsS132 w0 _ g s0_0 t377 t378 from by repeat (first | (with_reducible first | exact HI0.out | apply IsS132.alloc | apply IsS132.drewN | apply IsS132.drew | apply IsS132.set_1 | apply IsS132.set_2 | refine IsS132.far ?_ NB0_352.out _ | refine IsS132.far ?_ NB0_362.out _) | exact HI0.out)) (by (with_reducible repeat (first | apply Kd.R_alloc | apply Kd.R_drewN | apply Kd.R_drew)); exact HO399.out) (by decide)) hk (fun _ h => h.2)) (fun _ h => h.1)); replace HK := Aside0.mk (KeepBut.trans z8_ hk (.inl rfl)); replace HB := Aside0.mk (hb); replace HI0 := Aside0.mk (hi); (try clear hb hk hi); have hnb94 := NB362_352.out; have hnc94 := NB352_362.out; have hnb95 := NB362_0.out; have hnc95 := NB0_362.out; obtain ⟨hcz96_0, hcz96_1, hcz96_2, hcz96_3, hcz96_4, hfz96_0, hfz96_1, hfz96_2, hfz96_3, hfz96_4⟩ := bx5_ BK362.out; have hnb97 := NB352_0.out; have hnc97 := NB0_352.out; obtain ⟨hcz98_0, hcz98_1, hcz98_2, hcz98_3, hcz98_4, hfz98_0, hfz98_1, hfz98_2, hfz98_3, hfz98_4⟩ := bx5_ BK352.out))
          refine bodyPost_ret (results_cell_row rfl _ _ gb352 121 #[.int .i64 (wrap64 (1 + t353)), .slice Ao12 t359.length co12, .int .i64 x363002_6, .int .i64 x363003_22, .int .i64 t400] (0, 0) _ rfl (by (with_reducible repeat (first | refine blk_drewN ?_ _ | refine blk_drew ?_ | refine blk_alloc ?_ _)); refine blk_put (cs := #[.int .i64 (wrap64 (1 + t353)), .slice Ao12 t359.length co12, .int .i64 x363002_6, .int .i64 x363003_22, .int .i64 0]) ?_ 4 _ rfl; (with_reducible repeat (first | refine blk_drewN ?_ _ | refine blk_drew ?_ | refine blk_alloc ?_ _)); refine blk_put (cs := #[.int .i64 (wrap64 (1 + t353)), .slice Ao12 t359.length co12, .int .i64 x363002_6, .int .i64 0, .int .i64 0]) ?_ 3 _ rfl; (with_reducible repeat (first | refine blk_drewN ?_ _ | refine blk_drew ?_ | refine blk_alloc ?_ _)); refine blk_put (cs := #[.int .i64 (wrap64 (1 + t353)), .slice Ao12 t359.length co12, .int .i64 0, .int .i64 0, .int .i64 0]) ?_ 2 _ rfl; (with_reducible repeat (first | refine blk_drewN ?_ _ | refine blk_drew ?_ | refine blk_alloc ?_ _)); refine blk_put (cs := #[.int .i64 (wrap64 (1 + t353)), .slice none 0 0, .int .i64 0, .int .i64 0, .int .i64 0]) ?_ 1 _ rfl; (with_reducible repeat (first | refine blk_drewN ?_ _ | refine blk_drew ?_ | refine blk_alloc ?_ _)); refine blk_put (cs := #[.int .i64 0, .slice none 0 0, .int .i64 0, .int .i64 0, .int .i64 0]) ?_ 0 _ rfl; (with_reducible repeat (first | refine blk_drewN ?_ _ | refine blk_drew ?_ | refine blk_alloc ?_ _)); refine blk_far ?_ NB352_362.out _; (with_reducible repeat (first | refine blk_drewN ?_ _ | refine blk_drew ?_ | refine blk_alloc ?_ _)); exact BK352.out) Try.underlying121 rfl (by kernel_rfl)) rfl ?_
          exact ⟨_, z79_, by (with_reducible repeat (first | apply Kd.R_alloc | apply Kd.R_drewN | apply Kd.R_drew)); exact Kd.R_mono (Kd.R_far (p := ⟨gb352, 4, none⟩) (Kd.R_far (p := ⟨gb352, 3, none⟩) (Kd.R_far (p := ⟨gb352, 2, none⟩) (Kd.R_far (p := ⟨gb352, 1, none⟩) (Kd.R_far (p := ⟨gb352, 0, none⟩) (Kd.R_far (p := ⟨gb362, 4, none⟩) (Kd.R_types (Kd.R_types HO_363001.out BK362.out (by decide)) BK352.out (by decide)) (fun _ hk => hk.1.2) (.int .i64 t400)) (fun _ hk => hk.2) (.int .i64 (wrap64 (1 + t353)))) (fun _ hk => hk.2) (.slice Ao12 t359.length co12)) (fun _ hk => hk.2) (.int .i64 x363002_6)) (fun _ hk => hk.2) (.int .i64 x363003_22)) (fun _ hk => hk.2) (.int .i64 t400)) (fun _ hk => trivial), z9_, z10_, z8_⟩
         ·rw [if_neg c87] at H
          have c87b0 : (t376 == 4) = false := beq_eq_false_iff_ne.mpr c87
          have c87b1 : (t376 != 4) = true := bne_iff_ne.mpr c87
          simp only [Option.some.injEq, Prod.mk.injEq] at H
          obtain ⟨rfl, rfl, rfl, rfl, rfl, rfl, rfl⟩ := H
          go_wp2_with (first | ((with_reducible refine gate_callee (f := 95) rfl ?_); refine goesL_ (some 48) rfl rfl Try.func95 (by kernel_rfl) rfl #[.pointer (some ⟨g, 0, none⟩), .int .i64 14] rfl z1_ ?_; (with_reducible refine (spec_l1Below.calls g s0_0 x1001_22 x1002_22 14 t376 t377 t378 w0 _ ?side1 ?side2 A42.out).mono ?_); (case side1 => exact z9_); (case side2 => exact z10_); rintro e w99 ⟨rfl, hi, hb, hk⟩; refine ⟨_, rfl, ?_⟩; replace HO_363001 := Aside0.mk (Kd.R_mono (Kd.R_keep (IsS132.apart (show IsS132 w0 _ g s0_0 x1001_22 x1002_22 from by repeat (first | (with_reducible first | exact HI0.out | apply IsS132.alloc | apply IsS132.drewN | apply IsS132.drew | apply IsS132.set_1 | apply IsS132.set_2 | refine IsS132.far ?_ NB0_352.out _ | refine IsS132.far ?_ NB0_362.out _) | exact HI0.out)) z47_ (by decide)) hk (fun _ h => h.2)) (fun _ h => h.1)); replace BK352 := Aside0.mk (KeepBut.blk hk (g' := gb352) (o := .cells #[.int .i64 0, .slice none 0 0, .int .i64 0, .int .i64 0, .int .i64 0] 121 (0, 0)) z38_ NB352_0.out (by simp)); replace BK362 := Aside0.mk (KeepBut.blk hk (g' := gb362) (o := .cells #[.int .i64 (wrap64 (1 + t353)), .slice Ao12 t359.length co12, .int .i64 x363002_6, .int .i64 x363003_22, .int .i64 x363004_22] 121 (0, 0)) z49_ NB362_0.out (by simp)); replace HK := Aside0.mk (KeepBut.trans z8_ hk (.inl rfl)); replace HB := Aside0.mk (hb); replace HI0 := Aside0.mk (hi); (try clear hb hk hi); have hnb100 := NB362_352.out; have hnc100 := NB352_362.out; have hnb101 := NB362_0.out; have hnc101 := NB0_362.out; obtain ⟨hcz102_0, hcz102_1, hcz102_2, hcz102_3, hcz102_4, hfz102_0, hfz102_1, hfz102_2, hfz102_3, hfz102_4⟩ := bx5_ BK362.out; have hnb103 := NB352_0.out; have hnc103 := NB0_352.out; obtain ⟨hcz104_0, hcz104_1, hcz104_2, hcz104_3, hcz104_4, hfz104_0, hfz104_1, hfz104_2, hfz104_3, hfz104_4⟩ := bx5_ BK352.out))
          refine bodyPost_ret (results_cell_row rfl _ _ gb352 121 #[.int .i64 (wrap64 (1 + t353)), .slice Ao12 t359.length co12, .int .i64 x363002_6, .int .i64 x363003_22, .int .i64 x363004_22] (0, 0) _ rfl (by (with_reducible repeat (first | refine blk_drewN ?_ _ | refine blk_drew ?_ | refine blk_alloc ?_ _)); refine blk_put (cs := #[.int .i64 (wrap64 (1 + t353)), .slice Ao12 t359.length co12, .int .i64 x363002_6, .int .i64 x363003_22, .int .i64 0]) ?_ 4 _ rfl; (with_reducible repeat (first | refine blk_drewN ?_ _ | refine blk_drew ?_ | refine blk_alloc ?_ _)); refine blk_put (cs := #[.int .i64 (wrap64 (1 + t353)), .slice Ao12 t359.length co12, .int .i64 x363002_6, .int .i64 0, .int .i64 0]) ?_ 3 _ rfl; (with_reducible repeat (first | refine blk_drewN ?_ _ | refine blk_drew ?_ | refine blk_alloc ?_ _)); refine blk_put (cs := #[.int .i64 (wrap64 (1 + t353)), .slice Ao12 t359.length co12, .int .i64 0, .int .i64 0, .int .i64 0]) ?_ 2 _ rfl; (with_reducible repeat (first | refine blk_drewN ?_ _ | refine blk_drew ?_ | refine blk_alloc ?_ _)); refine blk_put (cs := #[.int .i64 (wrap64 (1 + t353)), .slice none 0 0, .int .i64 0, .int .i64 0, .int .i64 0]) ?_ 1 _ rfl; (with_reducible repeat (first | refine blk_drewN ?_ _ | refine blk_drew ?_ | refine blk_alloc ?_ _)); refine blk_put (cs := #[.int .i64 0, .slice none 0 0, .int .i64 0, .int .i64 0, .int .i64 0]) ?_ 0 _ rfl; (with_reducible repeat (first | refine blk_drewN ?_ _ | refine blk_drew ?_ | refine blk_alloc ?_ _)); exact BK352.out) Try.underlying121 rfl (by kernel_rfl)) rfl ?_
          exact ⟨_, z79_, by (with_reducible repeat (first | apply Kd.R_alloc | apply Kd.R_drewN | apply Kd.R_drew)); exact Kd.R_mono (Kd.R_far (p := ⟨gb352, 4, none⟩) (Kd.R_far (p := ⟨gb352, 3, none⟩) (Kd.R_far (p := ⟨gb352, 2, none⟩) (Kd.R_far (p := ⟨gb352, 1, none⟩) (Kd.R_far (p := ⟨gb352, 0, none⟩) (Kd.R_types HO_363001.out BK352.out (by decide)) (fun _ hk => hk.2) (.int .i64 (wrap64 (1 + t353)))) (fun _ hk => hk.2) (.slice Ao12 t359.length co12)) (fun _ hk => hk.2) (.int .i64 x363002_6)) (fun _ hk => hk.2) (.int .i64 x363003_22)) (fun _ hk => hk.2) (.int .i64 x363004_22)) (fun _ hk => trivial), z9_, z10_, z8_⟩

end Go.Proofs.Ytdapeboajjidmab.PFnInverted
