/- Laid by a program of this session out of the kit's print for the law FnMirrored: what it says of the machine is proved here, function by function; each contract under the conditions that it names. -/
import Derived.Test.YtbmkobanpakohaaMFnMirroredx0
import Derived.Test.YtbmkobanpakohaaMFnMirroredx8
namespace Go.Proofs.Ytbmkobanpakohaa.PFnMirrored
open Go.RowKit Go.Proofs.YtbmkobanpakohaaW.PrintWords Go.Proofs.YtbmkobanpakohaaW.PrintLast Go.Proofs.YtbmkobanpakohaaW.PrintMore
attribute [local go_sem] max2_int min2_int max_two min_two max_three min_three max_four min_four   -- for this text's walks alone
set_option linter.unusedVariables false
set_option linter.unusedSimpArgs false

/-! ### spec_l7Cost: function 65 -/
mutual
def spec_l7Cost.l0 : Nat → Int → List Int → Int → Int → List Int → List Int → List Int → Option (List Int × List Int × List Int × Int × Int)
 | 0, _, _, _, _, _, _, _ => none
 | k + 1, x4, x1000, x1001, x1002, x294000, x294001, x294002 => if x4 < (x294002.length : Int) then (if 0 ≤ x4 then (spec_l7Cost.l0 k (wrap64 (x4 + 1)) x1000 x1001 x1002 x294000 x294001 (x294002.set (x4 : Int).toNat (wrap64 ((rd x294002 x4) * 3)))) else (none)) else (some (x294000, x294001, x294002, x1001, x1002))
def spec_l7Cost.l1 : Nat → Int → List Int → Int → Int → List Int → List Int → List Int → Option (List Int × List Int × List Int × Int × Int)
 | 0, _, _, _, _, _, _, _ => none
 | k + 1, x5, x1000, x1001, x1002, x294000, x294001, x294002 => if x5 < 6 then ((spec_l1Below.f x1000 x1001 x1002 7).bind fun bt299 => (if 0 ≤ x5 then (if x5 < (x294000.length : Int) then ((spec_l1Below.f x1000 bt299.2.1 bt299.2.2 7).bind fun bt303 => (if x5 < (x294001.length : Int) then (spec_l7Cost.l2 k x5 0 x1000 bt303.2.1 bt303.2.2 (x294000.set (x5 : Int).toNat bt299.1) (x294001.set (x5 : Int).toNat bt303.1) x294002) else (none))) else (none)) else (none))) else (some (x294000, x294001, x294002, x1001, x1002))
def spec_l7Cost.l2 : Nat → Int → Int → List Int → Int → Int → List Int → List Int → List Int → Option (List Int × List Int × List Int × Int × Int)
 | 0, _, _, _, _, _, _, _, _ => none
 | k + 1, x5, x6, x1000, x1001, x1002, x294000, x294001, x294002 => if x6 < 6 then (if x5 = x6 then (spec_l7Cost.l2 k x5 (wrap64 (x6 + 1)) x1000 x1001 x1002 x294000 x294001 x294002) else ((spec_l1PickInt.f x1000 x1001 x1002 (([0, 1, 4, 9, 1000] : List Int))).bind fun bt310 => (if 0 ≤ (wrap64 ((wrap64 (x5 * 6)) + x6)) then (if (wrap64 ((wrap64 (x5 * 6)) + x6)) < (x294002.length : Int) then (spec_l7Cost.l2 k x5 (wrap64 (x6 + 1)) x1000 bt310.2.1 bt310.2.2 x294000 x294001 (x294002.set ((wrap64 ((wrap64 (x5 * 6)) + x6)) : Int).toNat bt310.1)) else (none)) else (none)))) else (spec_l7Cost.l1 k (wrap64 (x5 + 1)) x1000 x1001 x1002 x294000 x294001 x294002)
end
def spec_l7Cost.f (k : Nat) (s0_0 : List Int) (s0_1 : Int) (s0_2 : Int) : Option (List Int × List Int × List Int × Int × Int) := (spec_UnitCost.f k).bind fun bt284 => ((spec_l1Below.f s0_0 s0_1 s0_2 4).bind fun bt294 => (if bt294.1 = 0 then (some (bt284.1, bt284.2.1, bt284.2.2, bt294.2.1, bt294.2.2)) else (if bt294.1 = 1 then (spec_l7Cost.l0 k 0 s0_0 bt294.2.1 bt294.2.2 bt284.1 bt284.2.1 bt284.2.2) else (spec_l7Cost.l1 k 0 s0_0 bt294.2.1 bt294.2.2 bt284.1 bt284.2.1 bt284.2.2))))
def spec_l7Cost.T9 : Bool × List (List Nat × List Nat) := (true, [([], []), ([0], [0]), ([], []), ([], []), ([3], [3]), ([], []), ([4, 5], [4, 5]), ([6], [6]), ([7], [7]), ([1, 2, 0, 1, 2, 3, 4, 5, 6, 7, 8], [1, 2]), ([9, 8, 0, 1, 2, 3, 4, 5, 6, 7, 8], [8, 9])])
def spec_l7Cost.B9 : List Nat := [0, 1, 0, 0, 8, 0, 56, 120, 248, 511, 1023]
theorem spec_l7Cost.tab9 : rtab .any (opsOf Try.f65 9) = spec_l7Cost.T9 := by kernel_rfl
theorem spec_l7Cost.bits9 : waitsOk spec_l7Cost.T9.2 spec_l7Cost.B9 = true := by kernel_rfl
def spec_l7Cost.T20 : Bool × List (List Nat × List Nat) := (true, [([], []), ([0], [0]), ([], []), ([2], [2]), ([], []), ([3, 4], [3, 4]), ([], []), ([], []), ([6, 7], [6, 7]), ([1, 5, 0, 1, 2, 3, 4, 5, 6, 7, 8], [1, 5]), ([9, 8, 8, 0, 1, 2, 3, 4, 5, 6, 7, 8], [8, 9])])
def spec_l7Cost.B20 : List Nat := [0, 1, 0, 4, 0, 28, 0, 0, 192, 511, 1023]
theorem spec_l7Cost.tab20 : rtab .any (opsOf Try.f65 20) = spec_l7Cost.T20 := by kernel_rfl
theorem spec_l7Cost.bits20 : waitsOk spec_l7Cost.T20.2 spec_l7Cost.B20 = true := by kernel_rfl
set_option maxHeartbeats 8000000 in
set_option maxRecDepth 100000 in
theorem spec_l7Cost.calls (k : Nat) (g : Nat) (s0_0 : List Int) (s0_1 : Int) (s0_2 : Int) (r1 : List Int) (r2 : List Int) (r3 : List Int) (r4 : Int) (r5 : Int) (w0 w : World) (hI : IsS86 w0 w g s0_0 s0_1 s0_2) (hB : Below w0.heap.size w0 w) (h : spec_l7Cost.f k s0_0 s0_1 s0_2 = some (r1, r2, r3, r4, r5)) :
  Calls Try.prog 65 #[.pointer (some ⟨g, 0, none⟩)] w fun e w' => ∃ v0_ v1_ v2_ : Value, e = .returned (.agg #[v0_, v1_, v2_]) ∧ Kd.R (Kd.int .i64) 3 w' w.heap.size (fun k_ => some k_ ≠ (v1_ : Value).ownBlock ∧ some k_ ≠ (v2_ : Value).ownBlock) v0_ r1 ∧ Kd.R (Kd.int .i64) 3 w' w.heap.size (fun k_ => some k_ ≠ (v0_ : Value).ownBlock ∧ some k_ ≠ (v2_ : Value).ownBlock) v1_ r2 ∧ Kd.R (Kd.int .i64) 3 w' w.heap.size (fun k_ => some k_ ≠ (v0_ : Value).ownBlock ∧ some k_ ≠ (v1_ : Value).ownBlock) v2_ r3 ∧ IsS86 w0 w' g s0_0 r4 r5 ∧ Below w0.heap.size w0 w' ∧ KeepBut w w' g none := by
 have hu38 := Try.underlying38
 have HI0 := Aside0.mk hI
 have HK := Aside0.mk (KeepBut.refl w g none)
 have HL := Aside0.mk hB.size
 clear hI
 have HW0 := Aside0.mk hB.size
 have HB := Aside0.mk hB
 clear hB
 have H : ((spec_UnitCost.f k).bind fun bt284 => ((spec_l1Below.f s0_0 s0_1 s0_2 4).bind fun bt294 => (if bt294.1 = 0 then (some (bt284.1, bt284.2.1, bt284.2.2, bt294.2.1, bt294.2.2)) else (if bt294.1 = 1 then (spec_l7Cost.l0 k 0 s0_0 bt294.2.1 bt294.2.2 bt284.1 bt284.2.1 bt284.2.2) else (spec_l7Cost.l1 k 0 s0_0 bt294.2.1 bt294.2.2 bt284.1 bt284.2.1 bt284.2.2))))) = some (r1, r2, r3, r4, r5) := h
 clear h
 replace H := Option.bind_eq_some_iff.mp H
 obtain ⟨⟨t284, t287, t290⟩, A20, H⟩ := H
 try dsimp only at H
 have A2 := Aside0.mk A20
 clear A20
 replace H := Option.bind_eq_some_iff.mp H
 obtain ⟨⟨t294, t295, t296⟩, A30, H⟩ := H
 try dsimp only at H
 have A3 := Aside0.mk A30
 clear A30
 by_cases c4 : t294 = 0
 ·rw [if_pos c4] at H
  have c4b0 : (t294 == 0) = true := beq_iff_eq.mpr c4
  have c4b1 : (t294 != 0) = false := bne_eq_false_iff_eq.mpr c4
  clear c4
  simp only [Option.some.injEq, Prod.mk.injEq] at H
  obtain ⟨rfl, rfl, rfl, rfl, rfl⟩ := H
  go_enter Try.func65, Try.ntmps65
  go_wp2_with (first | ((with_reducible refine gate_dst (N := 2) rfl ?_); refine box_event ?hg (N := 2) ?hd (cs := #[.slice none 0 0, .slice none 0 0, .slice none 0 0]) (t := 38) ?hr ?_; (case hd => rfl); (case hg => rfl); (case hr => exact z19_); intro gb283 hg w5 hbox hb; replace HB := Aside0.mk (below_step z4_ hb); have BK283 := Aside0.mk (hbox); have GW283 := Aside0.mk ((by rw [hg]; exact (keep_size (w := w) (g := g) (row := none) z2_) : w.heap.size ≤ gb283)); have GE283 := Aside0.mk ((Nat.le_trans HW0.out (by rw [hg]; exact (keep_size (w := w) (g := g) (row := none) z2_) : w.heap.size ≤ gb283) : w0.heap.size ≤ gb283)); replace HK := Aside0.mk (KeepBut.trans z2_ (KeepBut.of_below hb g none) (.inl rfl)); have NB0_283 := Aside0.mk ((by rw [hg]; exact Nat.ne_of_lt (IsS86.lt (show IsS86 w0 _ g s0_0 s0_1 s0_2 from by repeat ((with_reducible exact HI0.out)))) : g ≠ gb283)); have NB283_0 := Aside0.mk ((by rw [hg]; exact Nat.ne_of_gt (IsS86.lt (show IsS86 w0 _ g s0_0 s0_1 s0_2 from by repeat ((with_reducible exact HI0.out)))) : gb283 ≠ g)); replace HI0 := Aside0.mk (IsS86.below z3_ hb); clear hb hbox hg) | ((with_reducible refine gate_callee (f := 38) rfl ?_); refine goesL_ (some 7) rfl rfl Try.func38 (by kernel_rfl) rfl #[] rfl z1_ ?_; (with_reducible refine (spec_UnitCost.calls k  t284 t287 t290 _ A2.out).mono ?_); rintro e w6 ⟨v285, v288, v291, rfl, ho0, ho1, ho2, hb⟩; refine ⟨_, rfl, ?_⟩; have HO286 := Aside0.mk (Kd.R_lower ho0 (keep_size (w := w) (g := g) (row := none) z18_)); have HO289 := Aside0.mk (Kd.R_lower ho1 (keep_size (w := w) (g := g) (row := none) z18_)); have HO292 := Aside0.mk (Kd.R_lower ho2 (keep_size (w := w) (g := g) (row := none) z18_)); replace BK283 := Aside0.mk (blk_below z42_ hb); replace HK := Aside0.mk (KeepBut.trans z18_ (KeepBut.of_below hb g none) (.inl rfl)); replace HB := Aside0.mk (below_step z76_ hb); replace HI0 := Aside0.mk (IsS86.below z75_ hb); (try clear hb ho0 ho1 ho2)) | ((with_reducible refine gate_dst (N := 3) rfl ?_); refine box_event ?hg (N := 3) ?hd (cs := #[.slice none 0 0, .slice none 0 0, .slice none 0 0]) (t := 38) ?hr ?_; (case hd => rfl); (case hg => rfl); (case hr => exact z19_); intro gb293 hg w7 hbox hb; replace HO286 := Aside0.mk (Kd.R_below z154_ hb); replace HO289 := Aside0.mk (Kd.R_below z155_ hb); replace HO292 := Aside0.mk (Kd.R_below z156_ hb); replace HB := Aside0.mk (below_step z76_ hb); have BK293 := Aside0.mk (hbox); have GW293 := Aside0.mk ((by rw [hg]; exact (keep_size (w := w) (g := g) (row := none) z18_) : w.heap.size ≤ gb293)); have GE293 := Aside0.mk ((Nat.le_trans HW0.out (by rw [hg]; exact (keep_size (w := w) (g := g) (row := none) z18_) : w.heap.size ≤ gb293) : w0.heap.size ≤ gb293)); replace HK := Aside0.mk (KeepBut.trans z18_ (KeepBut.of_below hb g none) (.inl rfl)); have NB283_293 := Aside0.mk ((by rw [hg]; exact Nat.ne_of_lt (blk_lt (g := gb283) (o := .cells #[.slice none 0 0, .slice none 0 0, .slice none 0 0] 38 (0, 0)) z42_) : gb283 ≠ gb293)); have NB293_283 := Aside0.mk ((by rw [hg]; exact Nat.ne_of_gt (blk_lt (g := gb283) (o := .cells #[.slice none 0 0, .slice none 0 0, .slice none 0 0] 38 (0, 0)) z42_) : gb293 ≠ gb283)); replace BK283 := Aside0.mk (blk_below z42_ hb); have NB0_293 := Aside0.mk ((by rw [hg]; exact Nat.ne_of_lt (IsS86.lt (show IsS86 w0 _ g s0_0 s0_1 s0_2 from by repeat ((with_reducible exact HI0.out)))) : g ≠ gb293)); have NB293_0 := Aside0.mk ((by rw [hg]; exact Nat.ne_of_gt (IsS86.lt (show IsS86 w0 _ g s0_0 s0_1 s0_2 from by repeat ((with_reducible exact HI0.out)))) : gb293 ≠ g)); replace HI0 := Aside0.mk (IsS86.below z75_ hb); clear hb hbox hg; obtain ⟨Ao8, co8, eo8⟩ := Kd.R_slice HO286.out; subst eo8; have hnb9 := NB293_283.out; have hnc9 := NB283_293.out; have hnb10 := NB293_0.out; have hnc10 := NB0_293.out; obtain ⟨hcz11_0, hcz11_1, hcz11_2, hfz11_0, hfz11_1, hfz11_2⟩ := bx3_ BK293.out; obtain ⟨Ao12, co12, eo12⟩ := Kd.R_slice HO289.out; subst eo12; obtain ⟨Ao13, co13, eo13⟩ := Kd.R_slice HO292.out; subst eo13) | ((with_reducible refine gate_callee (f := 64) rfl ?_); refine goesL_ (some 9) rfl rfl Try.func64 (by kernel_rfl) rfl #[.pointer (some ⟨g, 0, none⟩), .int .i64 4] rfl z1_ ?_; (with_reducible refine (spec_l1Below.calls g s0_0 s0_1 s0_2 4 t294 t295 t296 w0 _ ?side1 ?side2 A3.out).mono ?_); (case side1 => exact z21_); (case side2 => exact z23_); rintro e w14 ⟨rfl, hi, hb, hk⟩; refine ⟨_, rfl, ?_⟩; replace BK283 := Aside0.mk (KeepBut.blk hk (g' := gb283) (o := .cells #[.slice none 0 0, .slice none 0 0, .slice none 0 0] 38 (0, 0)) z60_ NB283_0.out (by simp)); replace HO286 := Aside0.mk (Kd.R_mono (Kd.R_keep (IsS86.apart (show IsS86 w0 _ g s0_0 s0_1 s0_2 from by repeat ((with_reducible first | exact HI0.out | refine IsS86.far ?_ NB0_293.out _))) (by exact (Kd.R_mono (Kd.R_far (p := ⟨gb293, 2, none⟩) (Kd.R_far (p := ⟨gb293, 1, none⟩) (Kd.R_far (p := ⟨gb293, 0, none⟩) (Kd.R_types HO286.out BK293.out (by decide)) (fun _ hk => hk.2) (.slice Ao8 t284.length co8)) (fun _ hk => hk.2) (.slice Ao12 t287.length co12)) (fun _ hk => hk.2) (.slice Ao13 t290.length co13)) (fun _ h_ => h_.1))) (by decide)) hk (fun _ h => h.2)) (fun _ h => h.1)); replace HO289 := Aside0.mk (Kd.R_mono (Kd.R_keep (IsS86.apart (show IsS86 w0 _ g s0_0 s0_1 s0_2 from by repeat ((with_reducible first | exact HI0.out | refine IsS86.far ?_ NB0_293.out _))) (by exact (Kd.R_mono (Kd.R_far (p := ⟨gb293, 2, none⟩) (Kd.R_far (p := ⟨gb293, 1, none⟩) (Kd.R_far (p := ⟨gb293, 0, none⟩) (Kd.R_types HO289.out BK293.out (by decide)) (fun _ hk => hk.2) (.slice Ao8 t284.length co8)) (fun _ hk => hk.2) (.slice Ao12 t287.length co12)) (fun _ hk => hk.2) (.slice Ao13 t290.length co13)) (fun _ h_ => h_.1))) (by decide)) hk (fun _ h => h.2)) (fun _ h => h.1)); replace HO292 := Aside0.mk (Kd.R_mono (Kd.R_keep (IsS86.apart (show IsS86 w0 _ g s0_0 s0_1 s0_2 from by repeat ((with_reducible first | exact HI0.out | refine IsS86.far ?_ NB0_293.out _))) (by exact (Kd.R_mono (Kd.R_far (p := ⟨gb293, 2, none⟩) (Kd.R_far (p := ⟨gb293, 1, none⟩) (Kd.R_far (p := ⟨gb293, 0, none⟩) (Kd.R_types HO292.out BK293.out (by decide)) (fun _ hk => hk.2) (.slice Ao8 t284.length co8)) (fun _ hk => hk.2) (.slice Ao12 t287.length co12)) (fun _ hk => hk.2) (.slice Ao13 t290.length co13)) (fun _ h_ => h_.1))) (by decide)) hk (fun _ h => h.2)) (fun _ h => h.1)); replace BK293 := Aside0.mk (KeepBut.blk hk (g' := gb293) (o := .cells #[.slice Ao8 t284.length co8, .slice Ao12 t287.length co12, .slice Ao13 t290.length co13] 38 (0, 0)) (by refine blk_put (cs := #[.slice Ao8 t284.length co8, .slice Ao12 t287.length co12, .slice none 0 0]) ?_ 2 _ rfl; refine blk_put (cs := #[.slice Ao8 t284.length co8, .slice none 0 0, .slice none 0 0]) ?_ 1 _ rfl; refine blk_put (cs := #[.slice none 0 0, .slice none 0 0, .slice none 0 0]) ?_ 0 _ rfl; exact BK293.out) NB293_0.out (by simp)); replace HK := Aside0.mk (KeepBut.trans z25_ hk (.inl rfl)); replace HB := Aside0.mk (hb); replace HI0 := Aside0.mk (hi); (try clear hb hk hi); obtain ⟨hcz15_0, hcz15_1, hcz15_2, hfz15_0, hfz15_1, hfz15_2⟩ := bx3_ BK293.out; have hnb16 := NB283_0.out; have hnc16 := NB0_283.out; obtain ⟨hcz17_0, hcz17_1, hcz17_2, hfz17_0, hfz17_1, hfz17_2⟩ := bx3_ BK283.out))
  refine bodyPost_ret (results_cell_row rfl _ _ gb283 38 #[.slice Ao8 t284.length co8, .slice Ao12 t287.length co12, .slice Ao13 t290.length co13] (0, 0) _ rfl (by refine blk_put (cs := #[.slice Ao8 t284.length co8, .slice Ao12 t287.length co12, .slice none 0 0]) ?_ 2 _ rfl; refine blk_put (cs := #[.slice Ao8 t284.length co8, .slice none 0 0, .slice none 0 0]) ?_ 1 _ rfl; refine blk_put (cs := #[.slice none 0 0, .slice none 0 0, .slice none 0 0]) ?_ 0 _ rfl; exact BK283.out) Try.underlying38 rfl (by kernel_rfl)) rfl ?_
  exact ⟨_, _, _, z6_, by exact Kd.R_mono (Kd.R_far (p := ⟨gb283, 2, none⟩) (Kd.R_far (p := ⟨gb283, 1, none⟩) (Kd.R_far (p := ⟨gb283, 0, none⟩) (Kd.R_types HO286.out BK283.out (by decide)) (fun _ hk => hk.2) (.slice Ao8 t284.length co8)) (fun _ hk => hk.2) (.slice Ao12 t287.length co12)) (fun _ hk => hk.2) (.slice Ao13 t290.length co13)) (fun _ hk => ⟨hk.1.1, hk.1.2⟩), by exact Kd.R_mono (Kd.R_far (p := ⟨gb283, 2, none⟩) (Kd.R_far (p := ⟨gb283, 1, none⟩) (Kd.R_far (p := ⟨gb283, 0, none⟩) (Kd.R_types HO289.out BK283.out (by decide)) (fun _ hk => hk.2) (.slice Ao8 t284.length co8)) (fun _ hk => hk.2) (.slice Ao12 t287.length co12)) (fun _ hk => hk.2) (.slice Ao13 t290.length co13)) (fun _ hk => ⟨hk.1.1, hk.1.2⟩), by exact Kd.R_mono (Kd.R_far (p := ⟨gb283, 2, none⟩) (Kd.R_far (p := ⟨gb283, 1, none⟩) (Kd.R_far (p := ⟨gb283, 0, none⟩) (Kd.R_types HO292.out BK283.out (by decide)) (fun _ hk => hk.2) (.slice Ao8 t284.length co8)) (fun _ hk => hk.2) (.slice Ao12 t287.length co12)) (fun _ hk => hk.2) (.slice Ao13 t290.length co13)) (fun _ hk => ⟨hk.1.1, hk.1.2⟩), z21_, z23_, z25_⟩
 ·rw [if_neg c4] at H
  have c4b0 : (t294 == 0) = false := beq_eq_false_iff_ne.mpr c4
  have c4b1 : (t294 != 0) = true := bne_iff_ne.mpr c4
  by_cases c18 : t294 = 1
  ·rw [if_pos c18] at H
   have c18b0 : (t294 == 1) = true := beq_iff_eq.mpr c18
   have c18b1 : (t294 != 1) = false := bne_eq_false_iff_eq.mpr c18
   clear c18
   have H' := Aside0.mk H
   clear H
   go_enter Try.func65, Try.ntmps65
   go_wp2_with (first | ((with_reducible refine gate_dst (N := 2) rfl ?_); refine box_event ?hg (N := 2) ?hd (cs := #[.slice none 0 0, .slice none 0 0, .slice none 0 0]) (t := 38) ?hr ?_; (case hd => rfl); (case hg => rfl); (case hr => exact z19_); intro gb283 hg w19 hbox hb; replace HB := Aside0.mk (below_step z4_ hb); have BK283 := Aside0.mk (hbox); have GW283 := Aside0.mk ((by rw [hg]; exact (keep_size (w := w) (g := g) (row := none) z2_) : w.heap.size ≤ gb283)); have GE283 := Aside0.mk ((Nat.le_trans HW0.out (by rw [hg]; exact (keep_size (w := w) (g := g) (row := none) z2_) : w.heap.size ≤ gb283) : w0.heap.size ≤ gb283)); replace HK := Aside0.mk (KeepBut.trans z2_ (KeepBut.of_below hb g none) (.inl rfl)); have NB0_283 := Aside0.mk ((by rw [hg]; exact Nat.ne_of_lt (IsS86.lt (show IsS86 w0 _ g s0_0 s0_1 s0_2 from by repeat ((with_reducible exact HI0.out)))) : g ≠ gb283)); have NB283_0 := Aside0.mk ((by rw [hg]; exact Nat.ne_of_gt (IsS86.lt (show IsS86 w0 _ g s0_0 s0_1 s0_2 from by repeat ((with_reducible exact HI0.out)))) : gb283 ≠ g)); replace HI0 := Aside0.mk (IsS86.below z3_ hb); clear hb hbox hg) | ((with_reducible refine gate_callee (f := 38) rfl ?_); refine goesL_ (some 7) rfl rfl Try.func38 (by kernel_rfl) rfl #[] rfl z1_ ?_; (with_reducible refine (spec_UnitCost.calls k  t284 t287 t290 _ A2.out).mono ?_); rintro e w20 ⟨v285, v288, v291, rfl, ho0, ho1, ho2, hb⟩; refine ⟨_, rfl, ?_⟩; have HO286 := Aside0.mk (Kd.R_lower ho0 (keep_size (w := w) (g := g) (row := none) z18_)); have HO289 := Aside0.mk (Kd.R_lower ho1 (keep_size (w := w) (g := g) (row := none) z18_)); have HO292 := Aside0.mk (Kd.R_lower ho2 (keep_size (w := w) (g := g) (row := none) z18_)); replace BK283 := Aside0.mk (blk_below z42_ hb); replace HK := Aside0.mk (KeepBut.trans z18_ (KeepBut.of_below hb g none) (.inl rfl)); replace HB := Aside0.mk (below_step z76_ hb); replace HI0 := Aside0.mk (IsS86.below z75_ hb); (try clear hb ho0 ho1 ho2)) | ((with_reducible refine gate_dst (N := 3) rfl ?_); refine box_event ?hg (N := 3) ?hd (cs := #[.slice none 0 0, .slice none 0 0, .slice none 0 0]) (t := 38) ?hr ?_; (case hd => rfl); (case hg => rfl); (case hr => exact z19_); intro gb293 hg w21 hbox hb; replace HO286 := Aside0.mk (Kd.R_below z154_ hb); replace HO289 := Aside0.mk (Kd.R_below z155_ hb); replace HO292 := Aside0.mk (Kd.R_below z156_ hb); replace HB := Aside0.mk (below_step z76_ hb); have BK293 := Aside0.mk (hbox); have GW293 := Aside0.mk ((by rw [hg]; exact (keep_size (w := w) (g := g) (row := none) z18_) : w.heap.size ≤ gb293)); have GE293 := Aside0.mk ((Nat.le_trans HW0.out (by rw [hg]; exact (keep_size (w := w) (g := g) (row := none) z18_) : w.heap.size ≤ gb293) : w0.heap.size ≤ gb293)); replace HK := Aside0.mk (KeepBut.trans z18_ (KeepBut.of_below hb g none) (.inl rfl)); have NB283_293 := Aside0.mk ((by rw [hg]; exact Nat.ne_of_lt (blk_lt (g := gb283) (o := .cells #[.slice none 0 0, .slice none 0 0, .slice none 0 0] 38 (0, 0)) z42_) : gb283 ≠ gb293)); have NB293_283 := Aside0.mk ((by rw [hg]; exact Nat.ne_of_gt (blk_lt (g := gb283) (o := .cells #[.slice none 0 0, .slice none 0 0, .slice none 0 0] 38 (0, 0)) z42_) : gb293 ≠ gb283)); replace BK283 := Aside0.mk (blk_below z42_ hb); have NB0_293 := Aside0.mk ((by rw [hg]; exact Nat.ne_of_lt (IsS86.lt (show IsS86 w0 _ g s0_0 s0_1 s0_2 from by repeat ((with_reducible exact HI0.out)))) : g ≠ gb293)); have NB293_0 := Aside0.mk ((by rw [hg]; exact Nat.ne_of_gt (IsS86.lt (show IsS86 w0 _ g s0_0 s0_1 s0_2 from by repeat ((with_reducible exact HI0.out)))) : gb293 ≠ g)); replace HI0 := Aside0.mk (IsS86.below z75_ hb); clear hb hbox hg; obtain ⟨Ao22, co22, eo22⟩ := Kd.R_slice HO286.out; subst eo22; have hnb23 := NB293_283.out; have hnc23 := NB283_293.out; have hnb24 := NB293_0.out; have hnc24 := NB0_293.out; obtain ⟨hcz25_0, hcz25_1, hcz25_2, hfz25_0, hfz25_1, hfz25_2⟩ := bx3_ BK293.out; obtain ⟨Ao26, co26, eo26⟩ := Kd.R_slice HO289.out; subst eo26; obtain ⟨Ao27, co27, eo27⟩ := Kd.R_slice HO292.out; subst eo27) | ((with_reducible refine gate_callee (f := 64) rfl ?_); refine goesL_ (some 9) rfl rfl Try.func64 (by kernel_rfl) rfl #[.pointer (some ⟨g, 0, none⟩), .int .i64 4] rfl z1_ ?_; (with_reducible refine (spec_l1Below.calls g s0_0 s0_1 s0_2 4 t294 t295 t296 w0 _ ?side1 ?side2 A3.out).mono ?_); (case side1 => exact z21_); (case side2 => exact z23_); rintro e w28 ⟨rfl, hi, hb, hk⟩; refine ⟨_, rfl, ?_⟩; replace BK283 := Aside0.mk (KeepBut.blk hk (g' := gb283) (o := .cells #[.slice none 0 0, .slice none 0 0, .slice none 0 0] 38 (0, 0)) z60_ NB283_0.out (by simp)); replace HO286 := Aside0.mk (Kd.R_mono (Kd.R_keep (IsS86.apart (show IsS86 w0 _ g s0_0 s0_1 s0_2 from by repeat ((with_reducible first | exact HI0.out | refine IsS86.far ?_ NB0_293.out _))) (by exact (Kd.R_mono (Kd.R_far (p := ⟨gb293, 2, none⟩) (Kd.R_far (p := ⟨gb293, 1, none⟩) (Kd.R_far (p := ⟨gb293, 0, none⟩) (Kd.R_types HO286.out BK293.out (by decide)) (fun _ hk => hk.2) (.slice Ao22 t284.length co22)) (fun _ hk => hk.2) (.slice Ao26 t287.length co26)) (fun _ hk => hk.2) (.slice Ao27 t290.length co27)) (fun _ h_ => h_.1))) (by decide)) hk (fun _ h => h.2)) (fun _ h => h.1)); replace HO289 := Aside0.mk (Kd.R_mono (Kd.R_keep (IsS86.apart (show IsS86 w0 _ g s0_0 s0_1 s0_2 from by repeat ((with_reducible first | exact HI0.out | refine IsS86.far ?_ NB0_293.out _))) (by exact (Kd.R_mono (Kd.R_far (p := ⟨gb293, 2, none⟩) (Kd.R_far (p := ⟨gb293, 1, none⟩) (Kd.R_far (p := ⟨gb293, 0, none⟩) (Kd.R_types HO289.out BK293.out (by decide)) (fun _ hk => hk.2) (.slice Ao22 t284.length co22)) (fun _ hk => hk.2) (.slice Ao26 t287.length co26)) (fun _ hk => hk.2) (.slice Ao27 t290.length co27)) (fun _ h_ => h_.1))) (by decide)) hk (fun _ h => h.2)) (fun _ h => h.1)); replace HO292 := Aside0.mk (Kd.R_mono (Kd.R_keep (IsS86.apart (show IsS86 w0 _ g s0_0 s0_1 s0_2 from by repeat ((with_reducible first | exact HI0.out | refine IsS86.far ?_ NB0_293.out _))) (by exact (Kd.R_mono (Kd.R_far (p := ⟨gb293, 2, none⟩) (Kd.R_far (p := ⟨gb293, 1, none⟩) (Kd.R_far (p := ⟨gb293, 0, none⟩) (Kd.R_types HO292.out BK293.out (by decide)) (fun _ hk => hk.2) (.slice Ao22 t284.length co22)) (fun _ hk => hk.2) (.slice Ao26 t287.length co26)) (fun _ hk => hk.2) (.slice Ao27 t290.length co27)) (fun _ h_ => h_.1))) (by decide)) hk (fun _ h => h.2)) (fun _ h => h.1)); replace BK293 := Aside0.mk (KeepBut.blk hk (g' := gb293) (o := .cells #[.slice Ao22 t284.length co22, .slice Ao26 t287.length co26, .slice Ao27 t290.length co27] 38 (0, 0)) (by refine blk_put (cs := #[.slice Ao22 t284.length co22, .slice Ao26 t287.length co26, .slice none 0 0]) ?_ 2 _ rfl; refine blk_put (cs := #[.slice Ao22 t284.length co22, .slice none 0 0, .slice none 0 0]) ?_ 1 _ rfl; refine blk_put (cs := #[.slice none 0 0, .slice none 0 0, .slice none 0 0]) ?_ 0 _ rfl; exact BK293.out) NB293_0.out (by simp)); replace HK := Aside0.mk (KeepBut.trans z25_ hk (.inl rfl)); replace HB := Aside0.mk (hb); replace HI0 := Aside0.mk (hi); (try clear hb hk hi)))
   go_loopg [4] k (fun kq v4 w' => ∃ (x4_1 : Int) (x294000_1 : List Int) (x294001_1 : List Int) (x294002_1 : List Int) (u294000 : Value) (u294001 : Value) (u294002 : Value), v4 = .int .i64 x4_1 ∧ Aside0 (spec_l7Cost.l0 kq x4_1 s0_0 t295 t296 x294000_1 x294001_1 x294002_1 = some (r1, r2, r3, r4, r5)) ∧ Aside0 (kq ≤ k) ∧ Aside0 (Kd.R (Kd.int .i64) 3 w' w.heap.size (fun k_ => some k_ ≠ (u294001 : Value).ownBlock ∧ some k_ ≠ (u294002 : Value).ownBlock) u294000 x294000_1) ∧ Aside0 (Kd.R (Kd.int .i64) 3 w' w.heap.size (fun k_ => some k_ ≠ (u294000 : Value).ownBlock ∧ some k_ ≠ (u294002 : Value).ownBlock) u294001 x294001_1) ∧ Aside0 (Kd.R (Kd.int .i64) 3 w' w.heap.size (fun k_ => some k_ ≠ (u294000 : Value).ownBlock ∧ some k_ ≠ (u294001 : Value).ownBlock) u294002 x294002_1) ∧ Aside0 (w'.heap[gb283]? = some (.cells #[(.slice none 0 0), (.slice none 0 0), (.slice none 0 0)] 38 (0, 0))) ∧ Aside0 (w'.heap[gb293]? = some (.cells #[u294000, u294001, u294002] 38 (0, 0))) ∧ Aside0 (IsS86 w0 w' g s0_0 t295 t296) ∧ Aside0 (KeepBut w w' g none) ∧ Aside0 (Below w0.heap.size w0 w'))
   case atStart => exact ⟨(0), (t284), (t287), (t290), (.slice Ao22 t284.length co22), (.slice Ao26 t287.length co26), (.slice Ao27 t290.length co27), z10_, H', ⟨Nat.le_refl _⟩, ⟨z154_⟩, ⟨z155_⟩, ⟨z156_⟩, ⟨z42_⟩, ⟨z87_⟩, ⟨z21_⟩, ⟨z25_⟩, ⟨z23_⟩⟩
   case round =>
    clear H'
    obtain ⟨x4_1, x294000_1, x294001_1, x294002_1, u294000, u294001, u294002, rfl, HA, HK1, HO_294000, HO_294001, HO_294002, BK283, BK293, HI0, HK, HB⟩ := hrel
    cases gk with
    | zero => exact absurd HA.out (by simp [spec_l7Cost.l0])
    | succ k1 =>
     have H := HA.out
     clear HA
     simp only [spec_l7Cost.l0] at H
     by_cases c29 : x4_1 < (x294002_1.length : Int)
     ·rw [if_pos c29] at H
      have c29b0 := decide_eq_true c29
      clear c29
      obtain ⟨c30b0, H⟩ := ifd_ H
      (generalize hy_ : ((x294002_1.set (x4_1 : Int).toNat (wrap64 ((rd x294002_1 x4_1) * 3))) : List Int) = y298 at H; have Ny298 := Aside0.mk hy_.symm; clear hy_)
      have H' := Aside0.mk H
      clear H
      have hnb32 := NB293_283.out
      have hnc32 := NB283_293.out
      have hnb33 := NB293_0.out
      have hnc33 := NB0_293.out
      obtain ⟨hcz34_0, hcz34_1, hcz34_2, hfz34_0, hfz34_1, hfz34_2⟩ := bx3_ BK293.out
      obtain ⟨Ao35, co35, eo35⟩ := Kd.R_slice HO_294002.out
      subst eo35
      try go_wp2
      have n0_ := Aside0.mk (Kd.R_drew HO_294000.out)
      have n1_ := Aside0.mk (Kd.R_drew HO_294001.out)
      have n2_ := Aside0.mk (Kd.R_drew HO_294002.out)
      have n3_ := Aside0.mk (blk_drew BK283.out)
      have n4_ := Aside0.mk (blk_drew BK293.out)
      have n5_ := Aside0.mk (IsS86.drew HI0.out)
      have n6_ := Aside0.mk (keep_drew HK.out)
      have n7_ := Aside0.mk (below_drew1 HB.out)
      clear HO_294000
      clear HO_294001
      clear HO_294002
      clear BK283
      clear BK293
      clear HI0
      clear HK
      clear HB
      have HO_294000 := n0_
      have HO_294001 := n1_
      have HO_294002 := n2_
      have BK283 := n3_
      have BK293 := n4_
      have HI0 := n5_
      have HK := n6_
      have HB := n7_
      clear n0_ n1_ n2_ n3_ n4_ n5_ n6_ n7_
      have p297 : 0 ≤ (x4_1 : Int) := odt_
      have q297 : x4_1 < (x294002_1.length : Int) := odt_
      obtain ⟨ad297, e297, hx297_0⟩ := Kd.at_int (Kd.R_reads' HO_294002.out).2.2 x4_1 p297 q297
      cases e297
      replace p297 := eq_true p297
      replace q297 := eq_true q297
      have p31 : 0 ≤ (x4_1 : Int) := odt_
      have q31 : (x4_1 : Int) < ((x294002_1.length : Int) : Int) := odt_
      obtain ⟨go31, co31, eo31, gb31, gl31, cl31, HG31⟩ := Kd.R_form HO_294002.out (by omega)
      (cases eo31)
      have GB31 := Aside0.mk gb31
      have GG31 := Aside0.mk HG31
      clear gb31 gl31 HG31
      (simp only [add_plain] at hx297_0)
      obtain ⟨hx31_0, hf31_0⟩ := Kd.R_celln 0 HO_294002.out (x4_1 : Int) p31 q31
      replace p31 := eq_true p31
      replace q31 := eq_true q31
      have HN0_go31 := Aside0.mk (show g ≠ go31 from by have h_ := IsS86.own_ne HI0.out HO_294002.out (by decide); intro e_; exact h_ z186_)
      have HP37 := Kd.R_putn HO_294002.out (x4_1 : Int) (wrap64 ((rd x294002_1 x4_1) * 3))
      rw [← Ny298.out] at HP37
      have HQ37 := Aside0.mk HP37
      clear HP37
      refine start_ (n := 11) (S := fun w' => w'.cell? ⟨gb293, 0, none⟩ = some (u294000) ∧ w'.cell? ⟨gb293, 1, none⟩ = some (u294001) ∧ w'.cell? ⟨gb293, 2, none⟩ = some (.slice (some ⟨go31, 0, none⟩) x294002_1.length co35) ∧ w'.cell? ⟨go31, (x4_1).toNat, none⟩ = some (.int .i64 (rd x294002_1 x4_1))) (ds := [10]) (fl_ 11 0) (by kernel_rfl) rfl (fl_zero _) ⟨(blk_cell BK293.out 0).trans rfl, (blk_cell BK293.out 1).trans rfl, (blk_cell BK293.out 2).trans rfl, hx297_0⟩ (fun hHeld => ?_); refine with_tabW spec_l7Cost.tab9 spec_l7Cost.bits9 (fun HT_ HW_ => ?_)
      generalize wr.drew = w36 at HO_294000 HO_294001 HO_294002 BK283 BK293 HI0 HK HB GG31 HQ37 hf31_0 hx297_0 hx31_0 hHeld ⊢
      refine zp_ HT_ rfl rfl (by kernel_rfl) (fun _ _ _ h => h) (by rfl) ?_
      refine zpg_ (i := 2) (ra_ [1, 1, 1, 8]) HT_ rfl rfl (by kernel_rfl) (fun _ _ _ h => h) (by rfl) ?_
      refine zpg_ (i := 3) (ra_ [1, 1, 2, 7]) HT_ rfl rfl (by kernel_rfl) (fun _ _ _ h => h) (by rfl) ?_
      refine zpg_ (i := 5) (ra_ [1, 1, 2, 1, 1, 5]) HT_ rfl rfl (by kernel_rfl) (fun _ _ _ h => h) (by rfl) ?_
      refine ztg_ (i := 1) (ra_ [4, 1, 1, 5]) HT_ HW_ rfl rfl (by kernel_rfl) (fun _ _ _ h => h) (by rfl) hHeld ?_ z241_
      refine ztg_ (i := 4) (fl_ 11 6) HT_ HW_ rfl rfl (by kernel_rfl) (fun _ _ _ h => h) (by rfl) hHeld ?_ z241_
      refine zp_ HT_ rfl rfl (by kernel_rfl) (fun _ _ _ h => h) (by rfl) ?_
      refine zt_ HT_ HW_ rfl rfl (by kernel_rfl) (fun _ _ _ h => h) (by rfl) hHeld ?_ z241_
      iterate 2 refine zp_ HT_ rfl rfl (by kernel_rfl) (fun _ _ _ h => h) (by rfl) ?_
      refine last_ (i := 10) (N := none) (fl_ 11 11) rfl rfl (one_of HT_.out (by kernel_rfl)) (by decide) (fun K hK => ?_)
      refine skip_ (w1 := ?_) (by rfl) rfl ?_ ?_
      rotate_left
      ·go_simp
       rfl
      refine hK.out _ _ ?_
      clear hK K
      refine done_ (done_of HT_.out (by kernel_rfl)) ?_
      try go_wp2
      go_roundg k1
      case measure => have := HK1.out; omega
      case rel => exact ⟨(wrap64 (x4_1 + 1)), (x294000_1), (x294001_1), (y298), (u294000), (u294001), (.slice (some ⟨go31, 0, none⟩) x294002_1.length co35), z10_, H', ⟨z143_⟩, ⟨by exact Kd.R_mono (Kd.R_far (p := ⟨go31, (x4_1 : Int).toNat, none⟩) (Kd.R_mono HO_294000.out (fun k_ hk => (⟨hk, fun e_ => hk.2 z186_⟩ : _ ∧ k_ ≠ go31))) (fun _ hk => hk.2) (.int .i64 (wrap64 ((rd x294002_1 x4_1) * 3)))) (fun _ hk => ⟨hk.1.1, hk.1.2⟩)⟩, ⟨by exact Kd.R_mono (Kd.R_far (p := ⟨go31, (x4_1 : Int).toNat, none⟩) (Kd.R_mono HO_294001.out (fun k_ hk => (⟨hk, fun e_ => hk.2 z186_⟩ : _ ∧ k_ ≠ go31))) (fun _ hk => hk.2) (.int .i64 (wrap64 ((rd x294002_1 x4_1) * 3)))) (fun _ hk => ⟨hk.1.1, hk.1.2⟩)⟩, ⟨by exact HQ37.out⟩, ⟨z132_⟩, ⟨z133_⟩, ⟨by repeat ((with_reducible first | exact HI0.out | refine IsS86.far ?_ HN0_go31.out _))⟩, ⟨by repeat ((with_reducible first | exact HK.out | refine keep_far ?_ GB31.out _))⟩, ⟨by repeat ((with_reducible first | exact HB.out | refine below_set ?_ (Nat.le_trans HL.out GB31.out)))⟩⟩
     ·rw [if_neg c29] at H
      have c29b0 := decide_eq_false c29
      clear c29
      simp only [Option.some.injEq, Prod.mk.injEq] at H
      obtain ⟨rfl, rfl, rfl, rfl, rfl⟩ := H
      have hnb38 := NB293_283.out
      have hnc38 := NB283_293.out
      have hnb39 := NB293_0.out
      have hnc39 := NB0_293.out
      obtain ⟨hcz40_0, hcz40_1, hcz40_2, hfz40_0, hfz40_1, hfz40_2⟩ := bx3_ BK293.out
      obtain ⟨Ao41, co41, eo41⟩ := Kd.R_slice HO_294002.out
      subst eo41
      obtain ⟨Ao42, co42, eo42⟩ := Kd.R_slice HO_294000.out
      subst eo42
      have hnb43 := NB283_0.out
      have hnc43 := NB0_283.out
      obtain ⟨hcz44_0, hcz44_1, hcz44_2, hfz44_0, hfz44_1, hfz44_2⟩ := bx3_ BK283.out
      obtain ⟨Ao45, co45, eo45⟩ := Kd.R_slice HO_294001.out
      subst eo45
      go_wp2
      refine bodyPost_ret (results_cell_row rfl _ _ gb283 38 #[.slice Ao42 x294000_1.length co42, .slice Ao45 x294001_1.length co45, .slice Ao41 x294002_1.length co41] (0, 0) _ rfl (by refine blk_put (cs := #[.slice Ao42 x294000_1.length co42, .slice Ao45 x294001_1.length co45, .slice none 0 0]) ?_ 2 _ rfl; refine blk_put (cs := #[.slice Ao42 x294000_1.length co42, .slice none 0 0, .slice none 0 0]) ?_ 1 _ rfl; refine blk_put (cs := #[.slice none 0 0, .slice none 0 0, .slice none 0 0]) ?_ 0 _ rfl; exact BK283.out) Try.underlying38 rfl (by kernel_rfl)) rfl ?_
      exact ⟨_, _, _, z6_, by exact Kd.R_mono (Kd.R_far (p := ⟨gb283, 2, none⟩) (Kd.R_far (p := ⟨gb283, 1, none⟩) (Kd.R_far (p := ⟨gb283, 0, none⟩) (Kd.R_types HO_294000.out BK283.out (by decide)) (fun _ hk => hk.2) (.slice Ao42 x294000_1.length co42)) (fun _ hk => hk.2) (.slice Ao45 x294001_1.length co45)) (fun _ hk => hk.2) (.slice Ao41 x294002_1.length co41)) (fun _ hk => ⟨hk.1.1, hk.1.2⟩), by exact Kd.R_mono (Kd.R_far (p := ⟨gb283, 2, none⟩) (Kd.R_far (p := ⟨gb283, 1, none⟩) (Kd.R_far (p := ⟨gb283, 0, none⟩) (Kd.R_types HO_294001.out BK283.out (by decide)) (fun _ hk => hk.2) (.slice Ao42 x294000_1.length co42)) (fun _ hk => hk.2) (.slice Ao45 x294001_1.length co45)) (fun _ hk => hk.2) (.slice Ao41 x294002_1.length co41)) (fun _ hk => ⟨hk.1.1, hk.1.2⟩), by exact Kd.R_mono (Kd.R_far (p := ⟨gb283, 2, none⟩) (Kd.R_far (p := ⟨gb283, 1, none⟩) (Kd.R_far (p := ⟨gb283, 0, none⟩) (Kd.R_types HO_294002.out BK283.out (by decide)) (fun _ hk => hk.2) (.slice Ao42 x294000_1.length co42)) (fun _ hk => hk.2) (.slice Ao45 x294001_1.length co45)) (fun _ hk => hk.2) (.slice Ao41 x294002_1.length co41)) (fun _ hk => ⟨hk.1.1, hk.1.2⟩), z21_, z23_, z25_⟩
  ·rw [if_neg c18] at H
   have c18b0 : (t294 == 1) = false := beq_eq_false_iff_ne.mpr c18
   have c18b1 : (t294 != 1) = true := bne_iff_ne.mpr c18
   have H' := Aside0.mk H
   clear H
   go_enter Try.func65, Try.ntmps65
   go_wp2_with (first | ((with_reducible refine gate_dst (N := 2) rfl ?_); refine box_event ?hg (N := 2) ?hd (cs := #[.slice none 0 0, .slice none 0 0, .slice none 0 0]) (t := 38) ?hr ?_; (case hd => rfl); (case hg => rfl); (case hr => exact z19_); intro gb283 hg w46 hbox hb; replace HB := Aside0.mk (below_step z4_ hb); have BK283 := Aside0.mk (hbox); have GW283 := Aside0.mk ((by rw [hg]; exact (keep_size (w := w) (g := g) (row := none) z2_) : w.heap.size ≤ gb283)); have GE283 := Aside0.mk ((Nat.le_trans HW0.out (by rw [hg]; exact (keep_size (w := w) (g := g) (row := none) z2_) : w.heap.size ≤ gb283) : w0.heap.size ≤ gb283)); replace HK := Aside0.mk (KeepBut.trans z2_ (KeepBut.of_below hb g none) (.inl rfl)); have NB0_283 := Aside0.mk ((by rw [hg]; exact Nat.ne_of_lt (IsS86.lt (show IsS86 w0 _ g s0_0 s0_1 s0_2 from by repeat ((with_reducible exact HI0.out)))) : g ≠ gb283)); have NB283_0 := Aside0.mk ((by rw [hg]; exact Nat.ne_of_gt (IsS86.lt (show IsS86 w0 _ g s0_0 s0_1 s0_2 from by repeat ((with_reducible exact HI0.out)))) : gb283 ≠ g)); replace HI0 := Aside0.mk (IsS86.below z3_ hb); clear hb hbox hg) | ((with_reducible refine gate_callee (f := 38) rfl ?_); refine goesL_ (some 7) rfl rfl Try.func38 (by kernel_rfl) rfl #[] rfl z1_ ?_; (with_reducible refine (spec_UnitCost.calls k  t284 t287 t290 _ A2.out).mono ?_); rintro e w47 ⟨v285, v288, v291, rfl, ho0, ho1, ho2, hb⟩; refine ⟨_, rfl, ?_⟩; have HO286 := Aside0.mk (Kd.R_lower ho0 (keep_size (w := w) (g := g) (row := none) z18_)); have HO289 := Aside0.mk (Kd.R_lower ho1 (keep_size (w := w) (g := g) (row := none) z18_)); have HO292 := Aside0.mk (Kd.R_lower ho2 (keep_size (w := w) (g := g) (row := none) z18_)); replace BK283 := Aside0.mk (blk_below z42_ hb); replace HK := Aside0.mk (KeepBut.trans z18_ (KeepBut.of_below hb g none) (.inl rfl)); replace HB := Aside0.mk (below_step z76_ hb); replace HI0 := Aside0.mk (IsS86.below z75_ hb); (try clear hb ho0 ho1 ho2)) | ((with_reducible refine gate_dst (N := 3) rfl ?_); refine box_event ?hg (N := 3) ?hd (cs := #[.slice none 0 0, .slice none 0 0, .slice none 0 0]) (t := 38) ?hr ?_; (case hd => rfl); (case hg => rfl); (case hr => exact z19_); intro gb293 hg w48 hbox hb; replace HO286 := Aside0.mk (Kd.R_below z154_ hb); replace HO289 := Aside0.mk (Kd.R_below z155_ hb); replace HO292 := Aside0.mk (Kd.R_below z156_ hb); replace HB := Aside0.mk (below_step z76_ hb); have BK293 := Aside0.mk (hbox); have GW293 := Aside0.mk ((by rw [hg]; exact (keep_size (w := w) (g := g) (row := none) z18_) : w.heap.size ≤ gb293)); have GE293 := Aside0.mk ((Nat.le_trans HW0.out (by rw [hg]; exact (keep_size (w := w) (g := g) (row := none) z18_) : w.heap.size ≤ gb293) : w0.heap.size ≤ gb293)); replace HK := Aside0.mk (KeepBut.trans z18_ (KeepBut.of_below hb g none) (.inl rfl)); have NB283_293 := Aside0.mk ((by rw [hg]; exact Nat.ne_of_lt (blk_lt (g := gb283) (o := .cells #[.slice none 0 0, .slice none 0 0, .slice none 0 0] 38 (0, 0)) z42_) : gb283 ≠ gb293)); have NB293_283 := Aside0.mk ((by rw [hg]; exact Nat.ne_of_gt (blk_lt (g := gb283) (o := .cells #[.slice none 0 0, .slice none 0 0, .slice none 0 0] 38 (0, 0)) z42_) : gb293 ≠ gb283)); replace BK283 := Aside0.mk (blk_below z42_ hb); have NB0_293 := Aside0.mk ((by rw [hg]; exact Nat.ne_of_lt (IsS86.lt (show IsS86 w0 _ g s0_0 s0_1 s0_2 from by repeat ((with_reducible exact HI0.out)))) : g ≠ gb293)); have NB293_0 := Aside0.mk ((by rw [hg]; exact Nat.ne_of_gt (IsS86.lt (show IsS86 w0 _ g s0_0 s0_1 s0_2 from by repeat ((with_reducible exact HI0.out)))) : gb293 ≠ g)); replace HI0 := Aside0.mk (IsS86.below z75_ hb); clear hb hbox hg; obtain ⟨Ao49, co49, eo49⟩ := Kd.R_slice HO286.out; subst eo49; have hnb50 := NB293_283.out; have hnc50 := NB283_293.out; have hnb51 := NB293_0.out; have hnc51 := NB0_293.out; obtain ⟨hcz52_0, hcz52_1, hcz52_2, hfz52_0, hfz52_1, hfz52_2⟩ := bx3_ BK293.out; obtain ⟨Ao53, co53, eo53⟩ := Kd.R_slice HO289.out; subst eo53; obtain ⟨Ao54, co54, eo54⟩ := Kd.R_slice HO292.out; subst eo54) | ((with_reducible refine gate_callee (f := 64) rfl ?_); refine goesL_ (some 9) rfl rfl Try.func64 (by kernel_rfl) rfl #[.pointer (some ⟨g, 0, none⟩), .int .i64 4] rfl z1_ ?_; (with_reducible refine (spec_l1Below.calls g s0_0 s0_1 s0_2 4 t294 t295 t296 w0 _ ?side1 ?side2 A3.out).mono ?_); (case side1 => exact z21_); (case side2 => exact z23_); rintro e w55 ⟨rfl, hi, hb, hk⟩; refine ⟨_, rfl, ?_⟩; replace BK283 := Aside0.mk (KeepBut.blk hk (g' := gb283) (o := .cells #[.slice none 0 0, .slice none 0 0, .slice none 0 0] 38 (0, 0)) z60_ NB283_0.out (by simp)); replace HO286 := Aside0.mk (Kd.R_mono (Kd.R_keep (IsS86.apart (show IsS86 w0 _ g s0_0 s0_1 s0_2 from by repeat ((with_reducible first | exact HI0.out | refine IsS86.far ?_ NB0_293.out _))) (by exact (Kd.R_mono (Kd.R_far (p := ⟨gb293, 2, none⟩) (Kd.R_far (p := ⟨gb293, 1, none⟩) (Kd.R_far (p := ⟨gb293, 0, none⟩) (Kd.R_types HO286.out BK293.out (by decide)) (fun _ hk => hk.2) (.slice Ao49 t284.length co49)) (fun _ hk => hk.2) (.slice Ao53 t287.length co53)) (fun _ hk => hk.2) (.slice Ao54 t290.length co54)) (fun _ h_ => h_.1))) (by decide)) hk (fun _ h => h.2)) (fun _ h => h.1)); replace HO289 := Aside0.mk (Kd.R_mono (Kd.R_keep (IsS86.apart (show IsS86 w0 _ g s0_0 s0_1 s0_2 from by repeat ((with_reducible first | exact HI0.out | refine IsS86.far ?_ NB0_293.out _))) (by exact (Kd.R_mono (Kd.R_far (p := ⟨gb293, 2, none⟩) (Kd.R_far (p := ⟨gb293, 1, none⟩) (Kd.R_far (p := ⟨gb293, 0, none⟩) (Kd.R_types HO289.out BK293.out (by decide)) (fun _ hk => hk.2) (.slice Ao49 t284.length co49)) (fun _ hk => hk.2) (.slice Ao53 t287.length co53)) (fun _ hk => hk.2) (.slice Ao54 t290.length co54)) (fun _ h_ => h_.1))) (by decide)) hk (fun _ h => h.2)) (fun _ h => h.1)); replace HO292 := Aside0.mk (Kd.R_mono (Kd.R_keep (IsS86.apart (show IsS86 w0 _ g s0_0 s0_1 s0_2 from by repeat ((with_reducible first | exact HI0.out | refine IsS86.far ?_ NB0_293.out _))) (by exact (Kd.R_mono (Kd.R_far (p := ⟨gb293, 2, none⟩) (Kd.R_far (p := ⟨gb293, 1, none⟩) (Kd.R_far (p := ⟨gb293, 0, none⟩) (Kd.R_types HO292.out BK293.out (by decide)) (fun _ hk => hk.2) (.slice Ao49 t284.length co49)) (fun _ hk => hk.2) (.slice Ao53 t287.length co53)) (fun _ hk => hk.2) (.slice Ao54 t290.length co54)) (fun _ h_ => h_.1))) (by decide)) hk (fun _ h => h.2)) (fun _ h => h.1)); replace BK293 := Aside0.mk (KeepBut.blk hk (g' := gb293) (o := .cells #[.slice Ao49 t284.length co49, .slice Ao53 t287.length co53, .slice Ao54 t290.length co54] 38 (0, 0)) (by refine blk_put (cs := #[.slice Ao49 t284.length co49, .slice Ao53 t287.length co53, .slice none 0 0]) ?_ 2 _ rfl; refine blk_put (cs := #[.slice Ao49 t284.length co49, .slice none 0 0, .slice none 0 0]) ?_ 1 _ rfl; refine blk_put (cs := #[.slice none 0 0, .slice none 0 0, .slice none 0 0]) ?_ 0 _ rfl; exact BK293.out) NB293_0.out (by simp)); replace HK := Aside0.mk (KeepBut.trans z25_ hk (.inl rfl)); replace HB := Aside0.mk (hb); replace HI0 := Aside0.mk (hi); (try clear hb hk hi)))
   go_loopg [5] k (fun kq v5 w' => ∃ (x5_1 : Int) (x1001_1 : Int) (x1002_1 : Int) (x294000_1 : List Int) (x294001_1 : List Int) (x294002_1 : List Int) (u294000 : Value) (u294001 : Value) (u294002 : Value), v5 = .int .i64 x5_1 ∧ Aside0 (spec_l7Cost.l1 kq x5_1 s0_0 x1001_1 x1002_1 x294000_1 x294001_1 x294002_1 = some (r1, r2, r3, r4, r5)) ∧ Aside0 (kq ≤ k) ∧ Aside0 (Kd.R (Kd.int .i64) 3 w' w.heap.size (fun k_ => some k_ ≠ (u294001 : Value).ownBlock ∧ some k_ ≠ (u294002 : Value).ownBlock) u294000 x294000_1) ∧ Aside0 (Kd.R (Kd.int .i64) 3 w' w.heap.size (fun k_ => some k_ ≠ (u294000 : Value).ownBlock ∧ some k_ ≠ (u294002 : Value).ownBlock) u294001 x294001_1) ∧ Aside0 (Kd.R (Kd.int .i64) 3 w' w.heap.size (fun k_ => some k_ ≠ (u294000 : Value).ownBlock ∧ some k_ ≠ (u294001 : Value).ownBlock) u294002 x294002_1) ∧ Aside0 (w'.heap[gb283]? = some (.cells #[(.slice none 0 0), (.slice none 0 0), (.slice none 0 0)] 38 (0, 0))) ∧ Aside0 (w'.heap[gb293]? = some (.cells #[u294000, u294001, u294002] 38 (0, 0))) ∧ Aside0 (IsS86 w0 w' g s0_0 x1001_1 x1002_1) ∧ Aside0 (KeepBut w w' g none) ∧ Aside0 (Below w0.heap.size w0 w'))
   case atStart => exact ⟨(0), (t295), (t296), (t284), (t287), (t290), (.slice Ao49 t284.length co49), (.slice Ao53 t287.length co53), (.slice Ao54 t290.length co54), z10_, H', ⟨Nat.le_refl _⟩, ⟨z154_⟩, ⟨z155_⟩, ⟨z156_⟩, ⟨z42_⟩, ⟨z87_⟩, ⟨z21_⟩, ⟨z25_⟩, ⟨z23_⟩⟩
   case round =>
    clear H'
    obtain ⟨x5_1, x1001_1, x1002_1, x294000_1, x294001_1, x294002_1, u294000, u294001, u294002, rfl, HA, HK1, HO_294000, HO_294001, HO_294002, BK283, BK293, HI0, HK, HB⟩ := hrel
    cases gk with
    | zero => exact absurd HA.out (by simp [spec_l7Cost.l1])
    | succ k1 =>
     have H := HA.out
     clear HA
     simp only [spec_l7Cost.l1] at H
     by_cases c56 : x5_1 < 6
     ·rw [if_pos c56] at H
      have c56b0 := decide_eq_true c56
      clear c56
      replace H := Option.bind_eq_some_iff.mp H
      obtain ⟨⟨t299, t300, t301⟩, A570, H⟩ := H
      try dsimp only at H
      have A57 := Aside0.mk A570
      clear A570
      obtain ⟨c58b0, H⟩ := ifd_ H
      obtain ⟨c59b0, H⟩ := ifd_ H
      (generalize hy_ : ((x294000_1.set (x5_1 : Int).toNat t299) : List Int) = y302 at H; have Ny302 := Aside0.mk hy_.symm; clear hy_)
      replace H := Option.bind_eq_some_iff.mp H
      obtain ⟨⟨t303, t304, t305⟩, A610, H⟩ := H
      try dsimp only at H
      have A61 := Aside0.mk A610
      clear A610
      obtain ⟨c62b0, H⟩ := ifd_ H
      (generalize hy_ : ((x294001_1.set (x5_1 : Int).toNat t303) : List Int) = y306 at H; have Ny306 := Aside0.mk hy_.symm; clear hy_)
      have H' := Aside0.mk H
      clear H
      try go_wp2
      have n0_ := Aside0.mk (Kd.R_drew HO_294000.out)
      have n1_ := Aside0.mk (Kd.R_drew HO_294001.out)
      have n2_ := Aside0.mk (Kd.R_drew HO_294002.out)
      have n3_ := Aside0.mk (blk_drew BK283.out)
      have n4_ := Aside0.mk (blk_drew BK293.out)
      have n5_ := Aside0.mk (IsS86.drew HI0.out)
      have n6_ := Aside0.mk (keep_drew HK.out)
      have n7_ := Aside0.mk (below_drew1 HB.out)
      clear HO_294000
      clear HO_294001
      clear HO_294002
      clear BK283
      clear BK293
      clear HI0
      clear HK
      clear HB
      have HO_294000 := n0_
      have HO_294001 := n1_
      have HO_294002 := n2_
      have BK283 := n3_
      have BK293 := n4_
      have HI0 := n5_
      have HK := n6_
      have HB := n7_
      clear n0_ n1_ n2_ n3_ n4_ n5_ n6_ n7_
      refine start_ (n := 7) (S := fun w' => w'.cell? ⟨gb293, 0, none⟩ = some (u294000) ∧ w'.cell? ⟨gb293, 1, none⟩ = some (u294001) ∧ w'.cell? ⟨gb293, 2, none⟩ = some (u294002)) (ds := [6]) (fl_ 7 0) (by kernel_rfl) rfl (fl_zero _) ⟨(blk_cell BK293.out 0).trans rfl, (blk_cell BK293.out 1).trans rfl, (blk_cell BK293.out 2).trans rfl⟩ (fun hHeld => ?_)
      generalize wr.drew = w64 at HO_294000 HO_294001 HO_294002 BK283 BK293 HI0 HK HB hHeld ⊢
      refine pure_ (i := 0) (N := some 37) (v := ?_) (a' := ?_) #[true, false, false, false, false, false, false] rfl rfl (by kernel_rfl) (fun _ _ _ h => h) (Or.inl ⟨by rfl, ?_⟩) ?_ ?_
      rotate_left
      ·intro w'
       go_simp
       with_reducible rfl
      rotate_left
      ·simp only [Act.put, List.setIfInBounds_toArray, List.set_cons_zero, List.set_cons_succ, i64_w, i32_w]
       rfl
      refine pure_ (i := 2) (N := some 39) (v := ?_) (a' := ?_) #[true, false, true, false, false, false, false] rfl rfl (by kernel_rfl) (fun _ _ _ h => h) (Or.inl ⟨by rfl, ?_⟩) ?_ ?_
      rotate_left
      ·intro w'
       go_simp
       with_reducible rfl
      rotate_left
      ·simp only [Act.put, List.setIfInBounds_toArray, List.set_cons_zero, List.set_cons_succ, i64_w, i32_w]
       rfl
      refine pure_ (i := 3) (N := some 40) (v := ?_) (a' := ?_) #[true, false, true, true, false, false, false] rfl rfl (by kernel_rfl) (fun _ _ _ h => h) (Or.inl ⟨by rfl, ?_⟩) ?_ ?_
      rotate_left
      ·intro w'
       go_simp
       with_reducible rfl
      rotate_left
      ·simp only [Act.put, List.setIfInBounds_toArray, List.set_cons_zero, List.set_cons_succ, i64_w, i32_w]
       rfl
      refine take_ (i := 1) (N := some 38) (v := ?_) (a' := ?_) #[true, true, true, true, false, false, false] rfl rfl (by kernel_rfl) (fun _ _ _ h => h) (Or.inl ⟨by rfl, ?_⟩) hHeld ?_ ?_
      rotate_left
      ·rintro w' ⟨s0, s1, s2⟩
       go_simp
       with_reducible rfl
      rotate_left
      ·simp only [Act.put, List.setIfInBounds_toArray, List.set_cons_zero, List.set_cons_succ, i64_w, i32_w]
       rfl
      refine one_ (i := 4) (N := some 41) (fl_ 7 5) rfl rfl (by kernel_rfl) (by decide) (fun K hK => ?_)
      refine goes_ Try.func64 (by kernel_rfl) rfl #[.pointer (some ⟨g, 0, none⟩), .int .i64 7] (by rfl) rfl rfl z1_ ?_
      with_reducible refine (spec_l1Below.calls g s0_0 x1001_1 x1002_1 7 t299 t300 t301 w0 _ ?side1 ?side2 A57.out).mono ?_
      (case side1 => exact z21_)
      (case side2 => exact z23_)
      rintro e w65 ⟨rfl, hi, hb, hk⟩
      refine ⟨_, rfl, ?_⟩
      have n0_ := Aside0.mk (Kd.R_mono (Kd.R_keep (IsS86.apart (show IsS86 w0 _ g s0_0 x1001_1 x1002_1 from by repeat ((with_reducible exact HI0.out))) z110_ (by decide)) hk (fun _ h => h.2)) (fun _ h => h.1))
      have n1_ := Aside0.mk (Kd.R_mono (Kd.R_keep (IsS86.apart (show IsS86 w0 _ g s0_0 x1001_1 x1002_1 from by repeat ((with_reducible exact HI0.out))) z111_ (by decide)) hk (fun _ h => h.2)) (fun _ h => h.1))
      have n2_ := Aside0.mk (Kd.R_mono (Kd.R_keep (IsS86.apart (show IsS86 w0 _ g s0_0 x1001_1 x1002_1 from by repeat ((with_reducible exact HI0.out))) z112_ (by decide)) hk (fun _ h => h.2)) (fun _ h => h.1))
      have n3_ := Aside0.mk (KeepBut.blk hk (g' := gb283) (o := .cells #[.slice none 0 0, .slice none 0 0, .slice none 0 0] 38 (0, 0)) z42_ NB283_0.out (by simp))
      have n4_ := Aside0.mk (KeepBut.blk hk (g' := gb293) (o := .cells #[u294000, u294001, u294002] 38 (0, 0)) z87_ NB293_0.out (by simp))
      have n5_ := Aside0.mk (KeepBut.trans z25_ hk (.inl rfl))
      have n6_ := Aside0.mk (hb)
      have n7_ := Aside0.mk (hi)
      clear HO_294000
      clear HO_294001
      clear HO_294002
      clear BK283
      clear BK293
      clear HK
      clear HB
      clear HI0
      have HO_294000 := n0_
      have HO_294001 := n1_
      have HO_294002 := n2_
      have BK283 := n3_
      have BK293 := n4_
      have HK := n5_
      have HB := n6_
      have HI0 := n7_
      clear n0_ n1_ n2_ n3_ n4_ n5_ n6_ n7_
      (try clear hb)
      (try clear hk)
      (try clear hi)
      have p60 : 0 ≤ (x5_1 : Int) := odt_
      have q60 : (x5_1 : Int) < ((x294000_1.length : Int) : Int) := odt_
      obtain ⟨go60, co60, eo60, gb60, gl60, cl60, HG60⟩ := Kd.R_form HO_294000.out (by omega)
      (cases eo60)
      have GB60 := Aside0.mk gb60
      have GG60 := Aside0.mk HG60
      clear gb60 gl60 HG60
      obtain ⟨hx60_0, hf60_0⟩ := Kd.R_celln 0 HO_294000.out (x5_1 : Int) p60 q60
      replace p60 := eq_true p60
      replace q60 := eq_true q60
      have HN0_go60 := Aside0.mk (show g ≠ go60 from by have h_ := IsS86.own_ne HI0.out HO_294000.out (by decide); intro e_; exact h_ z186_)
      have HP66 := Kd.R_putn HO_294000.out (x5_1 : Int) t299
      rw [← Ny302.out] at HP66
      have HQ66 := Aside0.mk HP66
      clear HP66
      refine hK.out _ _ ⟨(blk_cell BK293.out 0).trans rfl, (blk_cell BK293.out 1).trans rfl, (blk_cell BK293.out 2).trans rfl⟩ (fun hHeld => ?_)
      clear hK K
      refine zn_ rfl ?_
      refine pure_ (i := 5) (N := some 42) (v := ?_) (a' := ?_) #[true, true, true, true, true, true, false] rfl rfl (by kernel_rfl) (fun _ _ _ h => h) (Or.inl ⟨by rfl, ?_⟩) ?_ ?_
      rotate_left
      ·intro w'
       go_simp
       with_reducible rfl
      rotate_left
      ·simp only [Act.put, List.setIfInBounds_toArray, List.set_cons_zero, List.set_cons_succ, i64_w, i32_w]
       rfl
      refine last_ (i := 6) (N := none) (fl_ 7 7) rfl rfl (by kernel_rfl) (by decide) (fun K hK => ?_)
      refine skip_ (w1 := ?_) (by rfl) rfl ?_ ?_
      rotate_left
      ·go_simp
       rfl
      refine hK.out _ _ ?_
      clear hK K
      refine done_ (by kernel_rfl) ?_
      try go_wp2
      have n0_ : Aside0 (Kd.R (Kd.int .i64) 3 (w65.setCell ⟨go60, (x5_1 : Int).toNat, none⟩ (.int .i64 t299)) w.heap.size (fun k_ => some k_ ≠ (u294001 : Value).ownBlock ∧ some k_ ≠ (u294002 : Value).ownBlock) (.slice (some ⟨go60, 0, none⟩) x294000_1.length co60) y302) := ⟨by exact HQ66.out⟩
      have n1_ : Aside0 (Kd.R (Kd.int .i64) 3 (w65.setCell ⟨go60, (x5_1 : Int).toNat, none⟩ (.int .i64 t299)) w.heap.size (fun k_ => some k_ ≠ (.slice (some ⟨go60, 0, none⟩) x294000_1.length co60 : Value).ownBlock ∧ some k_ ≠ (u294002 : Value).ownBlock) u294001 x294001_1) := ⟨by exact Kd.R_mono (Kd.R_far (p := ⟨go60, (x5_1 : Int).toNat, none⟩) (Kd.R_mono HO_294001.out (fun k_ hk => (⟨hk, fun e_ => hk.1 z186_⟩ : _ ∧ k_ ≠ go60))) (fun _ hk => hk.2) (.int .i64 t299)) (fun _ hk => ⟨hk.1.1, hk.1.2⟩)⟩
      have n2_ : Aside0 (Kd.R (Kd.int .i64) 3 (w65.setCell ⟨go60, (x5_1 : Int).toNat, none⟩ (.int .i64 t299)) w.heap.size (fun k_ => some k_ ≠ (.slice (some ⟨go60, 0, none⟩) x294000_1.length co60 : Value).ownBlock ∧ some k_ ≠ (u294001 : Value).ownBlock) u294002 x294002_1) := ⟨by exact Kd.R_mono (Kd.R_far (p := ⟨go60, (x5_1 : Int).toNat, none⟩) (Kd.R_mono HO_294002.out (fun k_ hk => (⟨hk, fun e_ => hk.1 z186_⟩ : _ ∧ k_ ≠ go60))) (fun _ hk => hk.2) (.int .i64 t299)) (fun _ hk => ⟨hk.1.1, hk.1.2⟩)⟩
      have n3_ : Aside0 ((w65.setCell ⟨go60, (x5_1 : Int).toNat, none⟩ (.int .i64 t299)).heap[gb283]? = some (.cells #[.slice none 0 0, .slice none 0 0, .slice none 0 0] 38 (0, 0))) := ⟨by refine blk_far ?_ (by have h_ := Kd.R_ne HO_294000.out BK283.out (by decide); intro e_; exact h_ z186_) _; exact BK283.out⟩
      have n4_ : Aside0 ((w65.setCell ⟨go60, (x5_1 : Int).toNat, none⟩ (.int .i64 t299)).heap[gb293]? = some (.cells #[.slice (some ⟨go60, 0, none⟩) x294000_1.length co60, u294001, u294002] 38 (0, 0))) := ⟨by refine blk_far ?_ (by have h_ := Kd.R_ne HO_294000.out BK293.out (by decide); intro e_; exact h_ z186_) _; exact BK293.out⟩
      have n5_ : Aside0 (IsS86 w0 (w65.setCell ⟨go60, (x5_1 : Int).toNat, none⟩ (.int .i64 t299)) g s0_0 t300 t301) := ⟨by repeat ((with_reducible first | exact HI0.out | refine IsS86.far ?_ HN0_go60.out _))⟩
      have n6_ : Aside0 (KeepBut w (w65.setCell ⟨go60, (x5_1 : Int).toNat, none⟩ (.int .i64 t299)) g none) := ⟨by repeat ((with_reducible first | exact HK.out | refine keep_far ?_ GB60.out _))⟩
      have n7_ : Aside0 (Below w0.heap.size w0 (w65.setCell ⟨go60, (x5_1 : Int).toNat, none⟩ (.int .i64 t299))) := ⟨by repeat ((with_reducible first | exact HB.out | refine below_set ?_ (Nat.le_trans HL.out GB60.out)))⟩
      (try clear HO_294000)
      (try clear HO_294001)
      (try clear HO_294002)
      (try clear BK283)
      (try clear BK293)
      (try clear HI0)
      (try clear HK)
      (try clear HB)
      generalize (w65.setCell ⟨go60, (x5_1 : Int).toNat, none⟩ (.int .i64 t299)) = w67 at n0_ n1_ n2_ n3_ n4_ n5_ n6_ n7_ ⊢
      have HO_294000 := n0_
      have HO_294001 := n1_
      have HO_294002 := n2_
      have BK283 := n3_
      have BK293 := n4_
      have HI0 := n5_
      have HK := n6_
      have HB := n7_
      clear n0_ n1_ n2_ n3_ n4_ n5_ n6_ n7_
      have n0_ := Aside0.mk (Kd.R_drew HO_294000.out)
      have n1_ := Aside0.mk (Kd.R_drew HO_294001.out)
      have n2_ := Aside0.mk (Kd.R_drew HO_294002.out)
      have n3_ := Aside0.mk (blk_drew BK283.out)
      have n4_ := Aside0.mk (blk_drew BK293.out)
      have n5_ := Aside0.mk (IsS86.drew HI0.out)
      have n6_ := Aside0.mk (keep_drew HK.out)
      have n7_ := Aside0.mk (below_drew1 HB.out)
      clear HO_294000
      clear HO_294001
      clear HO_294002
      clear BK283
      clear BK293
      clear HI0
      clear HK
      clear HB
      have HO_294000 := n0_
      have HO_294001 := n1_
      have HO_294002 := n2_
      have BK283 := n3_
      have BK293 := n4_
      have HI0 := n5_
      have HK := n6_
      have HB := n7_
      clear n0_ n1_ n2_ n3_ n4_ n5_ n6_ n7_
      refine start_ (n := 7) (S := fun w' => w'.cell? ⟨gb293, 0, none⟩ = some (.slice (some ⟨go60, 0, none⟩) x294000_1.length co60) ∧ w'.cell? ⟨gb293, 1, none⟩ = some (u294001) ∧ w'.cell? ⟨gb293, 2, none⟩ = some (u294002)) (ds := [6]) (fl_ 7 0) (by kernel_rfl) rfl (fl_zero _) ⟨(blk_cell BK293.out 0).trans rfl, (blk_cell BK293.out 1).trans rfl, (blk_cell BK293.out 2).trans rfl⟩ (fun hHeld => ?_)
      generalize w67.drew = w68 at HO_294000 HO_294001 HO_294002 BK283 BK293 HI0 HK HB HQ66 hHeld ⊢
      refine pure_ (i := 0) (N := some 43) (v := ?_) (a' := ?_) #[true, false, false, false, false, false, false] rfl rfl (by kernel_rfl) (fun _ _ _ h => h) (Or.inl ⟨by rfl, ?_⟩) ?_ ?_
      rotate_left
      ·intro w'
       go_simp
       with_reducible rfl
      rotate_left
      ·simp only [Act.put, List.setIfInBounds_toArray, List.set_cons_zero, List.set_cons_succ, i64_w, i32_w]
       rfl
      refine pure_ (i := 2) (N := some 45) (v := ?_) (a' := ?_) #[true, false, true, false, false, false, false] rfl rfl (by kernel_rfl) (fun _ _ _ h => h) (Or.inl ⟨by rfl, ?_⟩) ?_ ?_
      rotate_left
      ·intro w'
       go_simp
       with_reducible rfl
      rotate_left
      ·simp only [Act.put, List.setIfInBounds_toArray, List.set_cons_zero, List.set_cons_succ, i64_w, i32_w]
       rfl
      refine pure_ (i := 3) (N := some 46) (v := ?_) (a' := ?_) #[true, false, true, true, false, false, false] rfl rfl (by kernel_rfl) (fun _ _ _ h => h) (Or.inl ⟨by rfl, ?_⟩) ?_ ?_
      rotate_left
      ·intro w'
       go_simp
       with_reducible rfl
      rotate_left
      ·simp only [Act.put, List.setIfInBounds_toArray, List.set_cons_zero, List.set_cons_succ, i64_w, i32_w]
       rfl
      refine take_ (i := 1) (N := some 44) (v := ?_) (a' := ?_) #[true, true, true, true, false, false, false] rfl rfl (by kernel_rfl) (fun _ _ _ h => h) (Or.inl ⟨by rfl, ?_⟩) hHeld ?_ ?_
      rotate_left
      ·rintro w' ⟨s0, s1, s2⟩
       go_simp
       with_reducible rfl
      rotate_left
      ·simp only [Act.put, List.setIfInBounds_toArray, List.set_cons_zero, List.set_cons_succ, i64_w, i32_w]
       rfl
      refine one_ (i := 4) (N := some 47) (fl_ 7 5) rfl rfl (by kernel_rfl) (by decide) (fun K hK => ?_)
      refine goes_ Try.func64 (by kernel_rfl) rfl #[.pointer (some ⟨g, 0, none⟩), .int .i64 7] (by rfl) rfl rfl z1_ ?_
      with_reducible refine (spec_l1Below.calls g s0_0 t300 t301 7 t303 t304 t305 w0 _ ?side1 ?side2 A61.out).mono ?_
      (case side1 => exact z21_)
      (case side2 => exact z23_)
      rintro e w69 ⟨rfl, hi, hb, hk⟩
      refine ⟨_, rfl, ?_⟩
      have n0_ := Aside0.mk (Kd.R_mono (Kd.R_keep (IsS86.apart (show IsS86 w0 _ g s0_0 t300 t301 from by repeat ((with_reducible exact HI0.out))) z110_ (by decide)) hk (fun _ h => h.2)) (fun _ h => h.1))
      have n1_ := Aside0.mk (Kd.R_mono (Kd.R_keep (IsS86.apart (show IsS86 w0 _ g s0_0 t300 t301 from by repeat ((with_reducible exact HI0.out))) z111_ (by decide)) hk (fun _ h => h.2)) (fun _ h => h.1))
      have n2_ := Aside0.mk (Kd.R_mono (Kd.R_keep (IsS86.apart (show IsS86 w0 _ g s0_0 t300 t301 from by repeat ((with_reducible exact HI0.out))) z112_ (by decide)) hk (fun _ h => h.2)) (fun _ h => h.1))
      have n3_ := Aside0.mk (KeepBut.blk hk (g' := gb283) (o := .cells #[.slice none 0 0, .slice none 0 0, .slice none 0 0] 38 (0, 0)) z42_ NB283_0.out (by simp))
      have n4_ := Aside0.mk (KeepBut.blk hk (g' := gb293) (o := .cells #[.slice (some ⟨go60, 0, none⟩) x294000_1.length co60, u294001, u294002] 38 (0, 0)) z87_ NB293_0.out (by simp))
      have n5_ := Aside0.mk (KeepBut.trans z25_ hk (.inl rfl))
      have n6_ := Aside0.mk (hb)
      have n7_ := Aside0.mk (hi)
      clear HO_294000
      clear HO_294001
      clear HO_294002
      clear BK283
      clear BK293
      clear HK
      clear HB
      clear HI0
      have HO_294000 := n0_
      have HO_294001 := n1_
      have HO_294002 := n2_
      have BK283 := n3_
      have BK293 := n4_
      have HK := n5_
      have HB := n6_
      have HI0 := n7_
      clear n0_ n1_ n2_ n3_ n4_ n5_ n6_ n7_
      (try clear hb)
      (try clear hk)
      (try clear hi)
      have p63 : 0 ≤ (x5_1 : Int) := odt_
      have q63 : (x5_1 : Int) < ((x294001_1.length : Int) : Int) := odt_
      obtain ⟨go63, co63, eo63, gb63, gl63, cl63, HG63⟩ := Kd.R_form HO_294001.out (by omega)
      (cases eo63)
      have GB63 := Aside0.mk gb63
      have GG63 := Aside0.mk HG63
      clear gb63 gl63 HG63
      obtain ⟨hx63_0, hf63_0⟩ := Kd.R_celln 0 HO_294001.out (x5_1 : Int) p63 q63
      replace p63 := eq_true p63
      replace q63 := eq_true q63
      have HN0_go63 := Aside0.mk (show g ≠ go63 from by have h_ := IsS86.own_ne HI0.out HO_294001.out (by decide); intro e_; exact h_ z186_)
      have HP70 := Kd.R_putn HO_294001.out (x5_1 : Int) t303
      rw [← Ny306.out] at HP70
      have HQ70 := Aside0.mk HP70
      clear HP70
      refine hK.out _ _ ⟨(blk_cell BK293.out 0).trans rfl, (blk_cell BK293.out 1).trans rfl, (blk_cell BK293.out 2).trans rfl⟩ (fun hHeld => ?_)
      clear hK K
      refine zn_ rfl ?_
      refine pure_ (i := 5) (N := some 48) (v := ?_) (a' := ?_) #[true, true, true, true, true, true, false] rfl rfl (by kernel_rfl) (fun _ _ _ h => h) (Or.inl ⟨by rfl, ?_⟩) ?_ ?_
      rotate_left
      ·intro w'
       go_simp
       with_reducible rfl
      rotate_left
      ·simp only [Act.put, List.setIfInBounds_toArray, List.set_cons_zero, List.set_cons_succ, i64_w, i32_w]
       rfl
      refine last_ (i := 6) (N := none) (fl_ 7 7) rfl rfl (by kernel_rfl) (by decide) (fun K hK => ?_)
      refine skip_ (w1 := ?_) (by rfl) rfl ?_ ?_
      rotate_left
      ·go_simp
       rfl
      refine hK.out _ _ ?_
      clear hK K
      refine done_ (by kernel_rfl) ?_
      try go_wp2
      go_loopg [6] k1 (fun kq v6 w' => ∃ (x6_2 : Int) (x1001_2 : Int) (x1002_2 : Int) (x294000_2 : List Int) (x294001_2 : List Int) (x294002_2 : List Int) (u294000 : Value) (u294001 : Value) (u294002 : Value), v6 = .int .i64 x6_2 ∧ Aside0 (spec_l7Cost.l2 kq x5_1 x6_2 s0_0 x1001_2 x1002_2 x294000_2 x294001_2 x294002_2 = some (r1, r2, r3, r4, r5)) ∧ Aside0 (kq ≤ k1) ∧ Aside0 (Kd.R (Kd.int .i64) 3 w' w.heap.size (fun k_ => some k_ ≠ (u294001 : Value).ownBlock ∧ some k_ ≠ (u294002 : Value).ownBlock) u294000 x294000_2) ∧ Aside0 (Kd.R (Kd.int .i64) 3 w' w.heap.size (fun k_ => some k_ ≠ (u294000 : Value).ownBlock ∧ some k_ ≠ (u294002 : Value).ownBlock) u294001 x294001_2) ∧ Aside0 (Kd.R (Kd.int .i64) 3 w' w.heap.size (fun k_ => some k_ ≠ (u294000 : Value).ownBlock ∧ some k_ ≠ (u294001 : Value).ownBlock) u294002 x294002_2) ∧ Aside0 (w'.heap[gb283]? = some (.cells #[(.slice none 0 0), (.slice none 0 0), (.slice none 0 0)] 38 (0, 0))) ∧ Aside0 (w'.heap[gb293]? = some (.cells #[u294000, u294001, u294002] 38 (0, 0))) ∧ Aside0 (IsS86 w0 w' g s0_0 x1001_2 x1002_2) ∧ Aside0 (KeepBut w w' g none) ∧ Aside0 (Below w0.heap.size w0 w'))
      case atStart => exact ⟨(0), (t304), (t305), (y302), (y306), (x294002_1), (.slice (some ⟨go60, 0, none⟩) x294000_1.length co60), (.slice (some ⟨go63, 0, none⟩) x294001_1.length co63), (u294002), z10_, H', ⟨Nat.le_refl _⟩, ⟨by exact Kd.R_mono (Kd.R_far (p := ⟨go63, (x5_1 : Int).toNat, none⟩) (Kd.R_mono HO_294000.out (fun k_ hk => (⟨hk, fun e_ => hk.1 z186_⟩ : _ ∧ k_ ≠ go63))) (fun _ hk => hk.2) (.int .i64 t303)) (fun _ hk => ⟨hk.1.1, hk.1.2⟩)⟩, ⟨by exact HQ70.out⟩, ⟨by exact Kd.R_mono (Kd.R_far (p := ⟨go63, (x5_1 : Int).toNat, none⟩) (Kd.R_mono HO_294002.out (fun k_ hk => (⟨hk, fun e_ => hk.2 z186_⟩ : _ ∧ k_ ≠ go63))) (fun _ hk => hk.2) (.int .i64 t303)) (fun _ hk => ⟨hk.1.1, hk.1.2⟩)⟩, ⟨by refine blk_far ?_ (by have h_ := Kd.R_ne HO_294001.out BK283.out (by decide); intro e_; exact h_ z186_) _; exact BK283.out⟩, ⟨by refine blk_far ?_ (by have h_ := Kd.R_ne HO_294001.out BK293.out (by decide); intro e_; exact h_ z186_) _; exact BK293.out⟩, ⟨by repeat ((with_reducible first | exact HI0.out | refine IsS86.far ?_ HN0_go63.out _))⟩, ⟨by repeat ((with_reducible first | exact HK.out | refine keep_far ?_ GB63.out _))⟩, ⟨by repeat ((with_reducible first | exact HB.out | refine below_set ?_ (Nat.le_trans HL.out GB63.out)))⟩⟩
      case round =>
       clear H'
       obtain ⟨x6_2, x1001_2, x1002_2, x294000_2, x294001_2, x294002_2, u294000, u294001, u294002, rfl, HA, HK2, HO_294000, HO_294001, HO_294002, BK283, BK293, HI0, HK, HB⟩ := hrel
       cases gk with
       | zero => exact absurd HA.out (by simp [spec_l7Cost.l2])
       | succ k2 =>
        have H := HA.out
        clear HA
        simp only [spec_l7Cost.l2] at H
        by_cases c71 : x6_2 < 6
        ·rw [if_pos c71] at H
         have c71b0 := decide_eq_true c71
         clear c71
         by_cases c72 : x5_1 = x6_2
         ·rw [if_pos c72] at H
          have c72b0 : (x5_1 == x6_2) = true := beq_iff_eq.mpr c72
          have c72b1 : (x5_1 != x6_2) = false := bne_eq_false_iff_eq.mpr c72
          clear c72
          have H' := Aside0.mk H
          clear H
          go_wp2
          go_roundg k2
          case measure => have := HK1.out; have := HK2.out; omega
          case rel => exact ⟨(wrap64 (x6_2 + 1)), (x1001_2), (x1002_2), (x294000_2), (x294001_2), (x294002_2), (u294000), (u294001), (u294002), z10_, H', ⟨z215_⟩, ⟨z110_⟩, ⟨z111_⟩, ⟨z112_⟩, ⟨z42_⟩, ⟨z87_⟩, ⟨z21_⟩, ⟨z25_⟩, ⟨z23_⟩⟩
         ·rw [if_neg c72] at H
          have c72b0 : (x5_1 == x6_2) = false := beq_eq_false_iff_ne.mpr c72
          have c72b1 : (x5_1 != x6_2) = true := bne_iff_ne.mpr c72
          (generalize hy_ : ((([0, 1, 4, 9, 1000] : List Int)) : List Int) = y307 at H; have Ny307 := Aside0.mk hy_.symm; clear hy_)
          replace H := Option.bind_eq_some_iff.mp H
          obtain ⟨⟨t310, t311, t312⟩, A730, H⟩ := H
          try dsimp only at H
          have A73 := Aside0.mk A730
          clear A730
          obtain ⟨ji74, hji74⟩ : ∃ j_ : Int, (wrap64 ((wrap64 (x5_1 * 6)) + x6_2)) = j_ := ⟨_, rfl⟩
          rw [hji74] at H
          have hji74w : (IntKind.i64.wrap ((wrap64 (x5_1 * 6)) + x6_2)) = ji74 := (i64_w _).trans hji74
          obtain ⟨c75b0, H⟩ := ifd_ H
          obtain ⟨c76b0, H⟩ := ifd_ H
          (generalize hy_ : ((x294002_2.set ((ji74) : Int).toNat t310) : List Int) = y313 at H; have Ny313 := Aside0.mk hy_.symm; clear hy_)
          have H' := Aside0.mk H
          clear H
          try go_wp2
          have n0_ := Aside0.mk (Kd.R_drew HO_294000.out)
          have n1_ := Aside0.mk (Kd.R_drew HO_294001.out)
          have n2_ := Aside0.mk (Kd.R_drew HO_294002.out)
          have n3_ := Aside0.mk (blk_drew BK283.out)
          have n4_ := Aside0.mk (blk_drew BK293.out)
          have n5_ := Aside0.mk (IsS86.drew HI0.out)
          have n6_ := Aside0.mk (keep_drew HK.out)
          have n7_ := Aside0.mk (below_drew1 HB.out)
          clear HO_294000
          clear HO_294001
          clear HO_294002
          clear BK283
          clear BK293
          clear HI0
          clear HK
          clear HB
          have HO_294000 := n0_
          have HO_294001 := n1_
          have HO_294002 := n2_
          have BK283 := n3_
          have BK293 := n4_
          have HI0 := n5_
          have HK := n6_
          have HB := n7_
          clear n0_ n1_ n2_ n3_ n4_ n5_ n6_ n7_
          refine start_ (n := 11) (S := fun w' => w'.cell? ⟨gb293, 0, none⟩ = some (u294000) ∧ w'.cell? ⟨gb293, 1, none⟩ = some (u294001) ∧ w'.cell? ⟨gb293, 2, none⟩ = some (u294002)) (ds := [10]) (fl_ 11 0) (by kernel_rfl) rfl (fl_zero _) ⟨(blk_cell BK293.out 0).trans rfl, (blk_cell BK293.out 1).trans rfl, (blk_cell BK293.out 2).trans rfl⟩ (fun hHeld => ?_); refine with_tabW spec_l7Cost.tab20 spec_l7Cost.bits20 (fun HT_ HW_ => ?_)
          generalize wr.drew = w78 at HO_294000 HO_294001 HO_294002 BK283 BK293 HI0 HK HB hHeld ⊢
          refine zp_ HT_ rfl rfl (by kernel_rfl) (fun _ _ _ h => h) (by rfl) ?_
          refine zpg_ (i := 2) (ra_ [1, 1, 1, 8]) HT_ rfl rfl (by kernel_rfl) (fun _ _ _ h => h) (by rfl) ?_
          refine zpg_ (i := 3) (ra_ [1, 1, 2, 7]) HT_ rfl rfl (by kernel_rfl) (fun _ _ _ h => h) (by rfl) ?_
          refine zpg_ (i := 4) (ra_ [1, 1, 3, 6]) HT_ rfl rfl (by kernel_rfl) (fun _ _ _ h => h) (by rfl) ?_
          refine zpg_ (i := 5) (ra_ [1, 1, 4, 5]) HT_ rfl rfl (by kernel_rfl) (fun _ _ _ h => h) (by rfl) ?_
          refine zpg_ (i := 6) (ra_ [1, 1, 5, 4]) HT_ rfl rfl (by kernel_rfl) (fun _ _ _ h => h) (by rfl) ?_
          refine ztg_ (i := 1) (fl_ 11 7) HT_ HW_ rfl rfl (by kernel_rfl) (fun _ _ _ h => h) (by rfl) hHeld ?_ z141_
          refine one_ (i := 7) (N := some 63) (fl_ 11 8) rfl rfl (one_of HT_.out (by kernel_rfl)) (by decide) (fun K hK => ?_)
          refine Kd.R_lit_step (Kd.int .i64) _ 3 ?hg (N := 63) ?hd (xs := ([0, 1, 4, 9, 1000] : List Int)) (inner := [.int .i64 0, .int .i64 1, .int .i64 4, .int .i64 9, .int .i64 1000]) (ok := fun _ => True) (okp := fun _ => True) ?hr ?hp (fun _ hk => hk) trivial (Below.refl _ _) (Nat.le_refl _) (by simp) ?_; (case hd => rfl); (case hg => rfl); (case hr => exact z19_); (case hp => exact (Reps.one (show Kd.M (Kd.int .i64) _ _ _ 0 [.int .i64 0] from rfl) (Reps.one (show Kd.M (Kd.int .i64) _ _ _ 1 [.int .i64 1] from rfl) (Reps.one (show Kd.M (Kd.int .i64) _ _ _ 4 [.int .i64 4] from rfl) (Reps.one (show Kd.M (Kd.int .i64) _ _ _ 9 [.int .i64 9] from rfl) (Reps.one (show Kd.M (Kd.int .i64) _ _ _ 1000 [.int .i64 1000] from rfl) (Reps.none _ _)))))))
          intro v308 w79 ho80 hb hg_ hnew_
          clear hg_ hnew_
          (rw [← Ny307.out] at ho80)
          have n0_ := Aside0.mk (Kd.R_elder' z110_ (Kd.R_base ho80) hb)
          have n1_ := Aside0.mk (Kd.R_elder' z111_ (Kd.R_base ho80) hb)
          have n2_ := Aside0.mk (Kd.R_elder' z112_ (Kd.R_base ho80) hb)
          have n3_ := Aside0.mk (Kd.R_lower (Kd.R_new' (Kd.R_new' (Kd.R_new' ho80 (Kd.R_lt z110_)) (Kd.R_lt z111_)) (Kd.R_lt z112_)) (keep_size (w := w) (g := g) (row := none) z25_))
          have n4_ := Aside0.mk (blk_below z42_ hb)
          have n5_ := Aside0.mk (blk_below z87_ hb)
          have n6_ := Aside0.mk (IsS86.below z21_ hb)
          have n7_ := Aside0.mk (KeepBut.trans z25_ (KeepBut.of_below hb g none) (.inl rfl))
          have n8_ := Aside0.mk (below_step z23_ hb)
          clear HO_294000
          clear HO_294001
          clear HO_294002
          clear BK283
          clear BK293
          clear HI0
          clear HK
          clear HB
          have HO_294000 := n0_
          have HO_294001 := n1_
          have HO_294002 := n2_
          have HO309 := n3_
          have BK283 := n4_
          have BK293 := n5_
          have HI0 := n6_
          have HK := n7_
          have HB := n8_
          clear n0_ n1_ n2_ n3_ n4_ n5_ n6_ n7_ n8_
          clear hb ho80
          obtain ⟨Ao81, co81, eo81⟩ := Kd.R_slice HO309.out
          (subst eo81)
          refine hK.out _ _ ⟨(blk_cell BK293.out 0).trans rfl, (blk_cell BK293.out 1).trans rfl, (blk_cell BK293.out 2).trans rfl⟩ (fun hHeld => ?_)
          clear hK K
          refine zn_ rfl ?_
          refine one_ (i := 8) (N := some 64) (fl_ 11 9) rfl rfl (one_of HT_.out (by kernel_rfl)) (by decide) (fun K hK => ?_)
          refine goes_ Try.func66 (by kernel_rfl) rfl #[.pointer (some ⟨g, 0, none⟩), .slice Ao81 y307.length co81] (by rfl) rfl rfl z1_ ?_
          with_reducible refine (spec_l1PickInt.calls g s0_0 x1001_2 x1002_2 _ _ y307 t310 t311 t312 w0 _ ?side1 ?side2 ?side3 ?side4 ?side5 A73.out).mono ?_
          (case side1 => exact z21_)
          (case side2 => exact z23_)
          (case side3 => repeat (exact (Kd.R_reads' HO309.out).2.2))
          (case side4 => exact (Kd.R_reads' HO309.out).2.1)
          (case side5 => exact far_slice (IsS86.own_ne HI0.out HO309.out (by decide)))
          rintro e w82 ⟨rfl, hi, hb, hk⟩
          refine ⟨_, rfl, ?_⟩
          have n0_ := Aside0.mk (Kd.R_mono (Kd.R_keep (IsS86.apart (show IsS86 w0 _ g s0_0 x1001_2 x1002_2 from by repeat ((with_reducible exact HI0.out))) z110_ (by decide)) hk (fun _ h => h.2)) (fun _ h => h.1))
          have n1_ := Aside0.mk (Kd.R_mono (Kd.R_keep (IsS86.apart (show IsS86 w0 _ g s0_0 x1001_2 x1002_2 from by repeat ((with_reducible exact HI0.out))) z111_ (by decide)) hk (fun _ h => h.2)) (fun _ h => h.1))
          have n2_ := Aside0.mk (Kd.R_mono (Kd.R_keep (IsS86.apart (show IsS86 w0 _ g s0_0 x1001_2 x1002_2 from by repeat ((with_reducible exact HI0.out))) z112_ (by decide)) hk (fun _ h => h.2)) (fun _ h => h.1))
          have n3_ := Aside0.mk (KeepBut.blk hk (g' := gb283) (o := .cells #[.slice none 0 0, .slice none 0 0, .slice none 0 0] 38 (0, 0)) z42_ NB283_0.out (by simp))
          have n4_ := Aside0.mk (KeepBut.blk hk (g' := gb293) (o := .cells #[u294000, u294001, u294002] 38 (0, 0)) z87_ NB293_0.out (by simp))
          have n5_ := Aside0.mk (Kd.R_mono (Kd.R_keep (IsS86.apart (show IsS86 w0 _ g s0_0 x1001_2 x1002_2 from by repeat ((with_reducible exact HI0.out))) (by exact HO309.out) (by decide)) hk (fun _ h => h.2)) (fun _ h => h.1))
          have n6_ := Aside0.mk (KeepBut.trans z25_ hk (.inl rfl))
          have n7_ := Aside0.mk (hb)
          have n8_ := Aside0.mk (hi)
          clear HO_294000
          clear HO_294001
          clear HO_294002
          clear BK283
          clear BK293
          clear HO309
          clear HK
          clear HB
          clear HI0
          have HO_294000 := n0_
          have HO_294001 := n1_
          have HO_294002 := n2_
          have BK283 := n3_
          have BK293 := n4_
          have HO309 := n5_
          have HK := n6_
          have HB := n7_
          have HI0 := n8_
          clear n0_ n1_ n2_ n3_ n4_ n5_ n6_ n7_ n8_
          (try clear hb)
          (try clear hk)
          (try clear hi)
          have p77 : 0 ≤ ((ji74) : Int) := odt_
          have q77 : ((ji74) : Int) < ((x294002_2.length : Int) : Int) := odt_
          obtain ⟨go77, co77, eo77, gb77, gl77, cl77, HG77⟩ := Kd.R_form HO_294002.out (by omega)
          (cases eo77)
          have GB77 := Aside0.mk gb77
          have GG77 := Aside0.mk HG77
          clear gb77 gl77 HG77
          obtain ⟨hx77_0, hf77_0⟩ := Kd.R_celln 0 HO_294002.out ((ji74) : Int) p77 q77
          replace p77 := eq_true p77
          replace q77 := eq_true q77
          have HN0_go77 := Aside0.mk (show g ≠ go77 from by have h_ := IsS86.own_ne HI0.out HO_294002.out (by decide); intro e_; exact h_ z186_)
          have HP83 := Kd.R_putn HO_294002.out ((ji74) : Int) t310
          rw [← Ny313.out] at HP83
          have HQ83 := Aside0.mk HP83
          clear HP83
          refine hK.out _ _ ⟨(blk_cell BK293.out 0).trans rfl, (blk_cell BK293.out 1).trans rfl, (blk_cell BK293.out 2).trans rfl⟩ (fun hHeld => ?_)
          clear hK K
          refine zn_ rfl ?_
          refine zp_ HT_ rfl rfl (by kernel_rfl) (fun _ _ _ h => h) (by rfl) ?_
          refine last_ (i := 10) (N := none) (fl_ 11 11) rfl rfl (one_of HT_.out (by kernel_rfl)) (by decide) (fun K hK => ?_)
          refine skip_ (w1 := ?_) (by rfl) rfl ?_ ?_
          rotate_left
          ·go_simp
           rfl
          refine hK.out _ _ ?_
          clear hK K
          refine done_ (done_of HT_.out (by kernel_rfl)) ?_
          try go_wp2
          go_roundg k2
          case measure => have := HK1.out; have := HK2.out; omega
          case rel => exact ⟨(wrap64 (x6_2 + 1)), (t311), (t312), (x294000_2), (x294001_2), (y313), (u294000), (u294001), (.slice (some ⟨go77, 0, none⟩) x294002_2.length co77), z10_, H', ⟨z215_⟩, ⟨by exact Kd.R_mono (Kd.R_far (p := ⟨go77, ((ji74) : Int).toNat, none⟩) (Kd.R_mono HO_294000.out (fun k_ hk => (⟨hk, fun e_ => hk.1.2 z186_⟩ : _ ∧ k_ ≠ go77))) (fun _ hk => hk.2) (.int .i64 t310)) (fun _ hk => ⟨hk.1.1.1, hk.1.1.2⟩)⟩, ⟨by exact Kd.R_mono (Kd.R_far (p := ⟨go77, ((ji74) : Int).toNat, none⟩) (Kd.R_mono HO_294001.out (fun k_ hk => (⟨hk, fun e_ => hk.1.2 z186_⟩ : _ ∧ k_ ≠ go77))) (fun _ hk => hk.2) (.int .i64 t310)) (fun _ hk => ⟨hk.1.1.1, hk.1.1.2⟩)⟩, ⟨by exact Kd.R_mono HQ83.out (fun _ hk => ⟨hk.1.1, hk.1.2⟩)⟩, ⟨z132_⟩, ⟨z133_⟩, ⟨by repeat ((with_reducible first | exact HI0.out | refine IsS86.far ?_ HN0_go77.out _))⟩, ⟨by repeat ((with_reducible first | exact HK.out | refine keep_far ?_ GB77.out _))⟩, ⟨by repeat ((with_reducible first | exact HB.out | refine below_set ?_ (Nat.le_trans HL.out GB77.out)))⟩⟩
        ·rw [if_neg c71] at H
         have c71b0 := decide_eq_false c71
         clear c71
         have H' := Aside0.mk H
         clear H
         go_wp2
         go_roundg k2
         case measure => have := HK1.out; have := HK2.out; omega
         case rel => exact ⟨(wrap64 (x5_1 + 1)), (x1001_2), (x1002_2), (x294000_2), (x294001_2), (x294002_2), (u294000), (u294001), (u294002), z10_, H', ⟨z215_⟩, ⟨z110_⟩, ⟨z111_⟩, ⟨z112_⟩, ⟨z42_⟩, ⟨z87_⟩, ⟨z21_⟩, ⟨z25_⟩, ⟨z23_⟩⟩
     ·rw [if_neg c56] at H
      have c56b0 := decide_eq_false c56
      clear c56
      simp only [Option.some.injEq, Prod.mk.injEq] at H
      obtain ⟨rfl, rfl, rfl, rfl, rfl⟩ := H
      have hnb84 := NB293_283.out
      have hnc84 := NB283_293.out
      have hnb85 := NB293_0.out
      have hnc85 := NB0_293.out
      obtain ⟨hcz86_0, hcz86_1, hcz86_2, hfz86_0, hfz86_1, hfz86_2⟩ := bx3_ BK293.out
      obtain ⟨Ao87, co87, eo87⟩ := Kd.R_slice HO_294000.out
      subst eo87
      have hnb88 := NB283_0.out
      have hnc88 := NB0_283.out
      obtain ⟨hcz89_0, hcz89_1, hcz89_2, hfz89_0, hfz89_1, hfz89_2⟩ := bx3_ BK283.out
      obtain ⟨Ao90, co90, eo90⟩ := Kd.R_slice HO_294001.out
      subst eo90
      obtain ⟨Ao91, co91, eo91⟩ := Kd.R_slice HO_294002.out
      subst eo91
      go_wp2
      refine bodyPost_ret (results_cell_row rfl _ _ gb283 38 #[.slice Ao87 x294000_1.length co87, .slice Ao90 x294001_1.length co90, .slice Ao91 x294002_1.length co91] (0, 0) _ rfl (by refine blk_put (cs := #[.slice Ao87 x294000_1.length co87, .slice Ao90 x294001_1.length co90, .slice none 0 0]) ?_ 2 _ rfl; refine blk_put (cs := #[.slice Ao87 x294000_1.length co87, .slice none 0 0, .slice none 0 0]) ?_ 1 _ rfl; refine blk_put (cs := #[.slice none 0 0, .slice none 0 0, .slice none 0 0]) ?_ 0 _ rfl; exact BK283.out) Try.underlying38 rfl (by kernel_rfl)) rfl ?_
      exact ⟨_, _, _, z6_, by exact Kd.R_mono (Kd.R_far (p := ⟨gb283, 2, none⟩) (Kd.R_far (p := ⟨gb283, 1, none⟩) (Kd.R_far (p := ⟨gb283, 0, none⟩) (Kd.R_types HO_294000.out BK283.out (by decide)) (fun _ hk => hk.2) (.slice Ao87 x294000_1.length co87)) (fun _ hk => hk.2) (.slice Ao90 x294001_1.length co90)) (fun _ hk => hk.2) (.slice Ao91 x294002_1.length co91)) (fun _ hk => ⟨hk.1.1, hk.1.2⟩), by exact Kd.R_mono (Kd.R_far (p := ⟨gb283, 2, none⟩) (Kd.R_far (p := ⟨gb283, 1, none⟩) (Kd.R_far (p := ⟨gb283, 0, none⟩) (Kd.R_types HO_294001.out BK283.out (by decide)) (fun _ hk => hk.2) (.slice Ao87 x294000_1.length co87)) (fun _ hk => hk.2) (.slice Ao90 x294001_1.length co90)) (fun _ hk => hk.2) (.slice Ao91 x294002_1.length co91)) (fun _ hk => ⟨hk.1.1, hk.1.2⟩), by exact Kd.R_mono (Kd.R_far (p := ⟨gb283, 2, none⟩) (Kd.R_far (p := ⟨gb283, 1, none⟩) (Kd.R_far (p := ⟨gb283, 0, none⟩) (Kd.R_types HO_294002.out BK283.out (by decide)) (fun _ hk => hk.2) (.slice Ao87 x294000_1.length co87)) (fun _ hk => hk.2) (.slice Ao90 x294001_1.length co90)) (fun _ hk => hk.2) (.slice Ao91 x294002_1.length co91)) (fun _ hk => ⟨hk.1.1, hk.1.2⟩), z21_, z23_, z25_⟩

end Go.Proofs.Ytbmkobanpakohaa.PFnMirrored
