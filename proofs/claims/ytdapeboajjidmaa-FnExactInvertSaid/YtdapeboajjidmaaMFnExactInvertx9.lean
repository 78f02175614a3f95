/- Laid by a program of this session out of the kit's print for the law FnExactInvert: what it says of the machine is proved here, function by function; each contract under the conditions that it names. -/
import Derived.Test.YtdapeboajjidmaaMFnExactInvertx0
import Derived.Test.YtdapeboajjidmaaMFnExactInvertx5
import Derived.Test.YtdapeboajjidmaaMFnExactInvertx6
import Derived.Test.YtdapeboajjidmaaMFnExactInvertx8
namespace Go.Proofs.Ytdapeboajjidmaa.PFnExactInvert
open Go.RowKit Go.Proofs.YtdapeboajjidmaaW.PrintWords Go.Proofs.YtdapeboajjidmaaW.PrintLast Go.Proofs.YtdapeboajjidmaaW.PrintMore
attribute [local go_sem] max2_int min2_int max_two min_two max_three min_three max_four min_four   -- for this text's walks alone
set_option linter.unusedVariables false
set_option linter.unusedSimpArgs false

/-! ### spec_l19Back: function 66 -/
def spec_l19Back.f (k : Nat) (l0 : List (S80)) (a1_0 : Int) (l1_1 : List Int) (a1_2 : Int) (a1_3 : Int) (a1_4 : Int) : Option (Int × List Int × Int × Int × Int) := (spec_NodeAt.f k l0 l1_1).bind fun t276 => ((some (([] : List Int) : List Int)).bind fun y277 => (if y277.length + l1_1.length < 17592186044416 then ((some (y277 ++ l1_1 : List Int)).bind fun y280 => (if a1_0 = 1 then (if 0 ≤ t276 then (if t276 < (l0.length : Int) then (some (1, y280, (rd_T80 l0 t276).f0, 0, 0)) else (none)) else (none)) else (if a1_0 = 2 then (if 0 ≤ t276 then (if t276 < (l0.length : Int) then (if 0 ≤ (wrap64 ((y280.length : Int) - 1)) then (if (wrap64 ((y280.length : Int) - 1)) < (y280.length : Int) then ((spec_KidsOf.f k l0 t276).bind fun t286 => (some (3, (y280.take ((wrap64 ((y280.length : Int) - 1)) : Int).toNat), (rd_T80 l0 t276).f0, rd y280 (wrap64 ((y280.length : Int) - 1)), (t286.length : Int)))) else (none)) else (none)) else (none)) else (none)) else (if y280.length < 17592186044416 then (some (2, (y280 ++ [a1_3]), 0, 0, 0)) else (none))))) else (none)))
def spec_l19Back.T7 : Bool × List (List Nat × List Nat) := (true, [([], []), ([], []), ([1], [1]), ([2], [2]), ([0, 3], [0, 3]), ([], []), ([], []), ([5, 6], [5, 6]), ([7], [7]), ([8], [8]), ([], []), ([], []), ([11], [11]), ([12], [12]), ([10, 13], [10, 13]), ([14], [14]), ([], []), ([], []), ([16, 17], [16, 17]), ([18], [18]), ([4, 9, 15, 19], [4, 9, 15, 19]), ([20, 18, 0, 1, 2, 3, 4, 5, 6, 7, 8, 9, 10, 11, 12, 13, 14, 15, 16, 17, 18, 19, 20], [20])])
def spec_l19Back.B7 : List Nat := [0, 0, 2, 6, 15, 0, 0, 96, 224, 480, 0, 0, 2048, 6144, 15360, 31744, 0, 0, 196608, 458752, 1048575, 2097151]
theorem spec_l19Back.tab7 : rtab .any (opsOf Try.f66 7) = spec_l19Back.T7 := by kernel_rfl
theorem spec_l19Back.bits7 : waitsOk spec_l19Back.T7.2 spec_l19Back.B7 = true := by kernel_rfl
set_option maxHeartbeats 8000000 in
set_option maxRecDepth 100000 in
theorem spec_l19Back.calls (k : Nat) (A0 : Option Addr) (c0 : Nat) (l0 : List (S80)) (a1_0 : Int) (A1_1 : Option Addr) (c1_1 : Nat) (l1_1 : List Int) (a1_2 : Int) (a1_3 : Int) (a1_4 : Int) (r1 : Int) (r2 : List Int) (r3 : Int) (r4 : Int) (r5 : Int) (w : World) (hr0 : Kd.C k80 w A0 l0.length l0) (hc0 : l0.length ≤ c0) (hr1_1 : Kd.C (Kd.int .i64) w A1_1 l1_1.length l1_1) (hc1_1 : l1_1.length ≤ c1_1) (h : spec_l19Back.f k l0 a1_0 l1_1 a1_2 a1_3 a1_4 = some (r1, r2, r3, r4, r5)) :
  Calls Try.prog 66 #[.slice A0 l0.length c0, .agg #[.int .i64 a1_0, .slice A1_1 l1_1.length c1_1, .int .i64 a1_2, .int .i64 a1_3, .int .i64 a1_4]] w fun e w' => ∃ v1_ : Value, e = .returned (.agg #[.int .i64 r1, v1_, .int .i64 r3, .int .i64 r4, .int .i64 r5]) ∧ Kd.R (Kd.int .i64) 3 w' w.heap.size (fun _ => True) v1_ r2 ∧ Below w.heap.size w w' := by
 have hu78 := Try.underlying78
 have HR0 := Aside0.mk hr0
 have HC0 := Aside0.mk hc0
 clear hr0 hc0
 have HR1_1 := Aside0.mk hr1_1
 have HC1_1 := Aside0.mk hc1_1
 clear hr1_1 hc1_1
 have HB := Aside0.mk (Below.refl w.heap.size w)
 have H : ((spec_NodeAt.f k l0 l1_1).bind fun t276 => ((some (([] : List Int) : List Int)).bind fun y277 => (if y277.length + l1_1.length < 17592186044416 then ((some (y277 ++ l1_1 : List Int)).bind fun y280 => (if a1_0 = 1 then (if 0 ≤ t276 then (if t276 < (l0.length : Int) then (some (1, y280, (rd_T80 l0 t276).f0, 0, 0)) else (none)) else (none)) else (if a1_0 = 2 then (if 0 ≤ t276 then (if t276 < (l0.length : Int) then (if 0 ≤ (wrap64 ((y280.length : Int) - 1)) then (if (wrap64 ((y280.length : Int) - 1)) < (y280.length : Int) then ((spec_KidsOf.f k l0 t276).bind fun t286 => (some (3, (y280.take ((wrap64 ((y280.length : Int) - 1)) : Int).toNat), (rd_T80 l0 t276).f0, rd y280 (wrap64 ((y280.length : Int) - 1)), (t286.length : Int)))) else (none)) else (none)) else (none)) else (none)) else (if y280.length < 17592186044416 then (some (2, (y280 ++ [a1_3]), 0, 0, 0)) else (none))))) else (none)))) = some (r1, r2, r3, r4, r5) := h
 clear h
 obtain ⟨t276, A3, H⟩ := bnd_ H
 first | ((with_reducible have hz_ := gy_ H); obtain ⟨y277, Ny277, H⟩ := hz_) | (generalize hy_ : ((([] : List Int)) : List Int) = y277 at H; have Ny277 := Aside0.mk hy_.symm; clear hy_)
 obtain ⟨c4, H⟩ := ifs_ H
 have LMc4 := Aside0.mk c4
 clear c4
 first | ((with_reducible have hz_ := gy_ H); obtain ⟨y280, Ny280, H⟩ := hz_) | (generalize hy_ : ((y277 ++ l1_1) : List Int) = y280 at H; have Ny280 := Aside0.mk hy_.symm; clear hy_)
 by_cases c5 : a1_0 = 1
 ·rw [if_pos c5] at H
  have c5b0 : (a1_0 == 1) = true := beq_iff_eq.mpr c5
  have c5b1 : (a1_0 != 1) = false := bne_eq_false_iff_eq.mpr c5
  clear c5
  obtain ⟨c6b0, H⟩ := ifd_ H
  obtain ⟨c7b0, H⟩ := ifd_ H
  simp only [Option.some.injEq, Prod.mk.injEq] at H
  obtain ⟨rfl, rfl, rfl, rfl, rfl⟩ := H
  go_enter Try.func66, Try.ntmps66
  go_wp2_with (first | ((with_reducible refine gate_dst (N := 3) rfl ?_); refine box_event ?hg (N := 3) ?hd (cs := #[.int .i64 a1_0, .slice A1_1 l1_1.length c1_1, .int .i64 a1_2, .int .i64 a1_3, .int .i64 a1_4]) (t := 78) ?hr ?_; (case hd => rfl); (case hg => rfl); (case hr => exact z10_); intro gb274 hg w8 hbox hb; have BK274 := Aside0.mk (hbox); have GW274 := Aside0.mk ((by rw [hg]; exact (below_size z0_) : w.heap.size ≤ gb274)); have GE274 := Aside0.mk ((by rw [hg]; exact (below_size z0_) : w.heap.size ≤ gb274)); replace HB := Aside0.mk (below_step z0_ hb); clear hb hbox hg) | ((with_reducible refine gate_dst (N := 4) rfl ?_); refine box_event ?hg (N := 4) ?hd (cs := #[.int .i64 0, .slice none 0 0, .int .i64 0, .int .i64 0, .int .i64 0]) (t := 78) ?hr ?_; (case hd => rfl); (case hg => rfl); (case hr => exact z10_); intro gb275 hg w9 hbox hb; have BK275 := Aside0.mk (hbox); have GW275 := Aside0.mk ((by rw [hg]; exact (below_size z49_) : w.heap.size ≤ gb275)); have GE275 := Aside0.mk ((by rw [hg]; exact (below_size z49_) : w.heap.size ≤ gb275)); replace HB := Aside0.mk (below_step z49_ hb); have NB274_275 := Aside0.mk ((by rw [hg]; exact Nat.ne_of_lt (blk_lt (g := gb274) (o := .cells #[.int .i64 a1_0, .slice A1_1 l1_1.length c1_1, .int .i64 a1_2, .int .i64 a1_3, .int .i64 a1_4] 78 (0, 0)) z29_) : gb274 ≠ gb275)); have NB275_274 := Aside0.mk ((by rw [hg]; exact Nat.ne_of_gt (blk_lt (g := gb274) (o := .cells #[.int .i64 a1_0, .slice A1_1 l1_1.length c1_1, .int .i64 a1_2, .int .i64 a1_3, .int .i64 a1_4] 78 (0, 0)) z29_) : gb275 ≠ gb274)); replace BK274 := Aside0.mk (blk_below (g := gb274) (o := .cells #[.int .i64 a1_0, .slice A1_1 l1_1.length c1_1, .int .i64 a1_2, .int .i64 a1_3, .int .i64 a1_4] 78 (0, 0)) z29_ hb); clear hb hbox hg; have hnb10 := NB274_275.out; have hnc10 := NB275_274.out; obtain ⟨hcz11_0, hcz11_1, hcz11_2, hcz11_3, hcz11_4, hfz11_0, hfz11_1, hfz11_2, hfz11_3, hfz11_4⟩ := bx5_ BK274.out) | ((with_reducible refine gate_callee (f := 89) rfl ?_); refine goesL_ (some 10) rfl rfl Try.func89 (by kernel_rfl) rfl #[.slice A0 l0.length c0, .slice A1_1 l1_1.length c1_1] rfl z1_ ?_; (with_reducible refine (spec_NodeAt.calls k _ _ l0 _ _ l1_1 t276 _ ?side1 ?side2 ?side3 ?side4 A3.out).mono ?_); (case side1 => exact z2_); (case side2 => exact HC0.out); (case side3 => exact z7_); (case side4 => exact HC1_1.out); rintro e w12 ⟨rfl, hb⟩; refine ⟨_, rfl, ?_⟩; replace BK274 := Aside0.mk (blk_below (g := gb274) (o := .cells #[.int .i64 a1_0, .slice A1_1 l1_1.length c1_1, .int .i64 a1_2, .int .i64 a1_3, .int .i64 a1_4] 78 (0, 0)) z29_ hb); replace BK275 := Aside0.mk (blk_below (g := gb275) (o := .cells #[.int .i64 0, .slice none 0 0, .int .i64 0, .int .i64 0, .int .i64 0] 78 (0, 0)) z53_ hb); replace HB := Aside0.mk (below_step z11_ hb); (try clear hb)) | ((with_reducible refine gate_dst (N := 11) rfl ?_); refine Kd.R_lit (Kd.int .i64) _ 3 ?hg (N := 11) ?hd (xs := ([] : List Int)) (inner := []) (ok := fun _ => True) (okp := fun _ => True) ?hr ?hp (fun _ hk => hk) trivial (Below.refl _ _) (Nat.le_refl _) (by simp) ?_; (case hd => rfl); (case hg => rfl); (case hr => exact z10_); (case hp => exact z97_); intro v278 w13 ho14 hb hg_ hnew_; clear hg_ hnew_; (first | rw [← Ny277.out] at ho14 | (simp only [Int.reduceToNat] at ho14; rw [← Ny277.out] at ho14)); have HO279 := Aside0.mk (Kd.R_lower ho14 (below_size z11_)); replace BK274 := Aside0.mk (blk_below (g := gb274) (o := .cells #[.int .i64 a1_0, .slice A1_1 l1_1.length c1_1, .int .i64 a1_2, .int .i64 a1_3, .int .i64 a1_4] 78 (0, 0)) z29_ hb); replace BK275 := Aside0.mk (blk_below (g := gb275) (o := .cells #[.int .i64 0, .slice none 0 0, .int .i64 0, .int .i64 0, .int .i64 0] 78 (0, 0)) z53_ hb); replace HB := Aside0.mk (below_step z11_ hb); clear hb ho14; obtain ⟨hcz15_0, hcz15_1, hcz15_2, hcz15_3, hcz15_4, hfz15_0, hfz15_1, hfz15_2, hfz15_3, hfz15_4⟩ := bx5_ BK274.out) | ((with_reducible refine gate_builtin (b := .append) (xs := #[.tmp 11, .tmp 13]) rfl ?_); at_builtin; refine Kd.R_append_rows (Kd.int .i64) (w0 := w) w.heap.size rfl (.tmp 11) (.tmp 13) 61 3 (.int .i64 0) 8 rfl Try.underlying61 info3 rfl (by decide) (by omega) v278 y277 l1_1 _ _ _ (fun _ => True) (fun _ => False) rfl rfl ?aO ?aR (fun _ _ h => h) (fun _ h => h.elim) ?aF ?aB ?aS ?aL ?_; (case aR => exact z7_); (case aB => exact z69_); (case aF => exact z98_); (case aO => exact z123_); (case aS => exact z66_); (case aL => have := LMc4.out; omega); intro v281 w16 ho hb hg hat; rw [← Ny280.out] at ho; replace BK274 := Aside0.mk (blk_grown (g := gb274) (o := .cells #[.int .i64 a1_0, .slice A1_1 l1_1.length c1_1, .int .i64 a1_2, .int .i64 a1_3, .int .i64 a1_4] 78 (0, 0)) z29_ hg (Kd.R_ne HO279.out BK274.out (by decide))); replace BK275 := Aside0.mk (blk_grown (g := gb275) (o := .cells #[.int .i64 0, .slice none 0 0, .int .i64 0, .int .i64 0, .int .i64 0] 78 (0, 0)) z53_ hg (Kd.R_ne HO279.out BK275.out (by decide))); replace HB := Aside0.mk (hb); have HO282 := Aside0.mk (ho); clear HO279; clear ho hb hg hat; obtain ⟨hcz17_0, hcz17_1, hcz17_2, hcz17_3, hcz17_4, hfz17_0, hfz17_1, hfz17_2, hfz17_3, hfz17_4⟩ := bx5_ BK274.out; have p283 : 0 ≤ (t276 : Int) := odt_; have q283 : t276 < (l0.length : Int) := odt_; obtain ⟨ad283, e283, hx283_0, hx283_1⟩ := at_T80 HR0.out t276 p283 q283; cases e283; replace hx283_0 := (HB.out.cell (World.block_lt_of_cell? w _ hx283_0)).trans hx283_0; replace hx283_1 := (HB.out.cell (World.block_lt_of_cell? w _ hx283_1)).trans hx283_1; replace p283 := eq_true p283; replace q283 := eq_true q283; obtain ⟨Ao18, co18, eo18⟩ := Kd.R_slice HO282.out; subst eo18; obtain ⟨hcz19_0, hcz19_1, hcz19_2, hcz19_3, hcz19_4, hfz19_0, hfz19_1, hfz19_2, hfz19_3, hfz19_4⟩ := bx5_ BK275.out))
  refine bodyPost_ret (results_cell_row rfl _ _ gb275 78 #[.int .i64 1, .slice Ao18 y280.length co18, .int .i64 ((rd_T80 l0 t276).f0), .int .i64 0, .int .i64 0] (0, 0) _ rfl (by (with_reducible repeat (first | refine blk_drewN ?_ _ | refine blk_drew ?_ | refine blk_alloc ?_ _)); refine blk_put (cs := #[.int .i64 1, .slice Ao18 y280.length co18, .int .i64 ((rd_T80 l0 t276).f0), .int .i64 0, .int .i64 0]) ?_ 4 _ rfl; (with_reducible repeat (first | refine blk_drewN ?_ _ | refine blk_drew ?_ | refine blk_alloc ?_ _)); refine blk_put (cs := #[.int .i64 1, .slice Ao18 y280.length co18, .int .i64 ((rd_T80 l0 t276).f0), .int .i64 0, .int .i64 0]) ?_ 3 _ rfl; (with_reducible repeat (first | refine blk_drewN ?_ _ | refine blk_drew ?_ | refine blk_alloc ?_ _)); refine blk_put (cs := #[.int .i64 1, .slice Ao18 y280.length co18, .int .i64 0, .int .i64 0, .int .i64 0]) ?_ 2 _ rfl; (with_reducible repeat (first | refine blk_drewN ?_ _ | refine blk_drew ?_ | refine blk_alloc ?_ _)); refine blk_put (cs := #[.int .i64 1, .slice none 0 0, .int .i64 0, .int .i64 0, .int .i64 0]) ?_ 1 _ rfl; (with_reducible repeat (first | refine blk_drewN ?_ _ | refine blk_drew ?_ | refine blk_alloc ?_ _)); refine blk_put (cs := #[.int .i64 0, .slice none 0 0, .int .i64 0, .int .i64 0, .int .i64 0]) ?_ 0 _ rfl; (with_reducible repeat (first | refine blk_drewN ?_ _ | refine blk_drew ?_ | refine blk_alloc ?_ _)); exact BK275.out) Try.underlying78 rfl (by kernel_rfl)) rfl ?_
  exact ⟨_, z4_, by (with_reducible repeat (first | apply Kd.R_alloc | apply Kd.R_drewN | apply Kd.R_drew)); exact Kd.R_mono (Kd.R_far (p := ⟨gb275, 4, none⟩) (Kd.R_far (p := ⟨gb275, 3, none⟩) (Kd.R_far (p := ⟨gb275, 2, none⟩) (Kd.R_far (p := ⟨gb275, 1, none⟩) (Kd.R_far (p := ⟨gb275, 0, none⟩) (Kd.R_types HO282.out BK275.out (by decide)) (fun _ hk => hk.2) (.int .i64 1)) (fun _ hk => hk.2) (.slice Ao18 y280.length co18)) (fun _ hk => hk.2) (.int .i64 ((rd_T80 l0 t276).f0))) (fun _ hk => hk.2) (.int .i64 0)) (fun _ hk => hk.2) (.int .i64 0)) (fun _ hk => trivial), z11_⟩
 ·rw [if_neg c5] at H
  have c5b0 : (a1_0 == 1) = false := beq_eq_false_iff_ne.mpr c5
  have c5b1 : (a1_0 != 1) = true := bne_iff_ne.mpr c5
  by_cases c20 : a1_0 = 2
  ·rw [if_pos c20] at H
   have c20b0 : (a1_0 == 2) = true := beq_iff_eq.mpr c20
   have c20b1 : (a1_0 != 2) = false := bne_eq_false_iff_eq.mpr c20
   clear c20
   obtain ⟨c21b0, H⟩ := ifd_ H
   obtain ⟨c22b0, H⟩ := ifd_ H
   obtain ⟨ji23, hji23⟩ : ∃ j_ : Int, (wrap64 ((y280.length : Int) - 1)) = j_ := ⟨_, rfl⟩
   first | rw [hji23] at H | simp only [hji23] at H
   (try rw [hji23] at A3)
   have hji23w : (IntKind.i64.wrap ((y280.length : Int) - 1)) = ji23 := (i64_w _).trans hji23
   obtain ⟨c24b0, H⟩ := ifd_ H
   obtain ⟨c25b0, H⟩ := ifd_ H
   obtain ⟨t286, A26, H⟩ := bnd_ H
   simp only [Option.some.injEq, Prod.mk.injEq] at H
   obtain ⟨rfl, rfl, rfl, rfl, rfl⟩ := H
   go_enter Try.func66, Try.ntmps66
   try go_wp2_with (first | ((with_reducible refine gate_dst (N := 3) rfl ?_); refine box_event ?hg (N := 3) ?hd (cs := #[.int .i64 a1_0, .slice A1_1 l1_1.length c1_1, .int .i64 a1_2, .int .i64 a1_3, .int .i64 a1_4]) (t := 78) ?hr ?_; (case hd => rfl); (case hg => rfl); (case hr => exact z10_); intro gb274 hg w27 hbox hb; have BK274 := Aside0.mk (hbox); have GW274 := Aside0.mk ((by rw [hg]; exact (below_size z0_) : w.heap.size ≤ gb274)); have GE274 := Aside0.mk ((by rw [hg]; exact (below_size z0_) : w.heap.size ≤ gb274)); replace HB := Aside0.mk (below_step z0_ hb); clear hb hbox hg) | ((with_reducible refine gate_dst (N := 4) rfl ?_); refine box_event ?hg (N := 4) ?hd (cs := #[.int .i64 0, .slice none 0 0, .int .i64 0, .int .i64 0, .int .i64 0]) (t := 78) ?hr ?_; (case hd => rfl); (case hg => rfl); (case hr => exact z10_); intro gb275 hg w28 hbox hb; have BK275 := Aside0.mk (hbox); have GW275 := Aside0.mk ((by rw [hg]; exact (below_size z49_) : w.heap.size ≤ gb275)); have GE275 := Aside0.mk ((by rw [hg]; exact (below_size z49_) : w.heap.size ≤ gb275)); replace HB := Aside0.mk (below_step z49_ hb); have NB274_275 := Aside0.mk ((by rw [hg]; exact Nat.ne_of_lt (blk_lt (g := gb274) (o := .cells #[.int .i64 a1_0, .slice A1_1 l1_1.length c1_1, .int .i64 a1_2, .int .i64 a1_3, .int .i64 a1_4] 78 (0, 0)) z29_) : gb274 ≠ gb275)); have NB275_274 := Aside0.mk ((by rw [hg]; exact Nat.ne_of_gt (blk_lt (g := gb274) (o := .cells #[.int .i64 a1_0, .slice A1_1 l1_1.length c1_1, .int .i64 a1_2, .int .i64 a1_3, .int .i64 a1_4] 78 (0, 0)) z29_) : gb275 ≠ gb274)); replace BK274 := Aside0.mk (blk_below (g := gb274) (o := .cells #[.int .i64 a1_0, .slice A1_1 l1_1.length c1_1, .int .i64 a1_2, .int .i64 a1_3, .int .i64 a1_4] 78 (0, 0)) z29_ hb); clear hb hbox hg; have hnb29 := NB274_275.out; have hnc29 := NB275_274.out; obtain ⟨hcz30_0, hcz30_1, hcz30_2, hcz30_3, hcz30_4, hfz30_0, hfz30_1, hfz30_2, hfz30_3, hfz30_4⟩ := bx5_ BK274.out) | ((with_reducible refine gate_callee (f := 89) rfl ?_); refine goesL_ (some 10) rfl rfl Try.func89 (by kernel_rfl) rfl #[.slice A0 l0.length c0, .slice A1_1 l1_1.length c1_1] rfl z1_ ?_; (with_reducible refine (spec_NodeAt.calls k _ _ l0 _ _ l1_1 t276 _ ?side1 ?side2 ?side3 ?side4 A3.out).mono ?_); (case side1 => exact z2_); (case side2 => exact HC0.out); (case side3 => exact z7_); (case side4 => exact HC1_1.out); rintro e w31 ⟨rfl, hb⟩; refine ⟨_, rfl, ?_⟩; replace BK274 := Aside0.mk (blk_below (g := gb274) (o := .cells #[.int .i64 a1_0, .slice A1_1 l1_1.length c1_1, .int .i64 a1_2, .int .i64 a1_3, .int .i64 a1_4] 78 (0, 0)) z29_ hb); replace BK275 := Aside0.mk (blk_below (g := gb275) (o := .cells #[.int .i64 0, .slice none 0 0, .int .i64 0, .int .i64 0, .int .i64 0] 78 (0, 0)) z53_ hb); replace HB := Aside0.mk (below_step z11_ hb); (try clear hb)) | ((with_reducible refine gate_dst (N := 11) rfl ?_); refine Kd.R_lit (Kd.int .i64) _ 3 ?hg (N := 11) ?hd (xs := ([] : List Int)) (inner := []) (ok := fun _ => True) (okp := fun _ => True) ?hr ?hp (fun _ hk => hk) trivial (Below.refl _ _) (Nat.le_refl _) (by simp) ?_; (case hd => rfl); (case hg => rfl); (case hr => exact z10_); (case hp => exact z97_); intro v278 w32 ho33 hb hg_ hnew_; clear hg_ hnew_; (first | rw [← Ny277.out] at ho33 | (simp only [Int.reduceToNat] at ho33; rw [← Ny277.out] at ho33)); have HO279 := Aside0.mk (Kd.R_lower ho33 (below_size z11_)); replace BK274 := Aside0.mk (blk_below (g := gb274) (o := .cells #[.int .i64 a1_0, .slice A1_1 l1_1.length c1_1, .int .i64 a1_2, .int .i64 a1_3, .int .i64 a1_4] 78 (0, 0)) z29_ hb); replace BK275 := Aside0.mk (blk_below (g := gb275) (o := .cells #[.int .i64 0, .slice none 0 0, .int .i64 0, .int .i64 0, .int .i64 0] 78 (0, 0)) z53_ hb); replace HB := Aside0.mk (below_step z11_ hb); clear hb ho33; obtain ⟨hcz34_0, hcz34_1, hcz34_2, hcz34_3, hcz34_4, hfz34_0, hfz34_1, hfz34_2, hfz34_3, hfz34_4⟩ := bx5_ BK274.out) | ((with_reducible refine gate_builtin (b := .append) (xs := #[.tmp 11, .tmp 13]) rfl ?_); at_builtin; refine Kd.R_append_rows (Kd.int .i64) (w0 := w) w.heap.size rfl (.tmp 11) (.tmp 13) 61 3 (.int .i64 0) 8 rfl Try.underlying61 info3 rfl (by decide) (by omega) v278 y277 l1_1 _ _ _ (fun _ => True) (fun _ => False) rfl rfl ?aO ?aR (fun _ _ h => h) (fun _ h => h.elim) ?aF ?aB ?aS ?aL ?_; (case aR => exact z7_); (case aB => exact z69_); (case aF => exact z98_); (case aO => exact z123_); (case aS => exact z66_); (case aL => have := LMc4.out; omega); intro v281 w35 ho hb hg hat; rw [← Ny280.out] at ho; replace BK274 := Aside0.mk (blk_grown (g := gb274) (o := .cells #[.int .i64 a1_0, .slice A1_1 l1_1.length c1_1, .int .i64 a1_2, .int .i64 a1_3, .int .i64 a1_4] 78 (0, 0)) z29_ hg (Kd.R_ne HO279.out BK274.out (by decide))); replace BK275 := Aside0.mk (blk_grown (g := gb275) (o := .cells #[.int .i64 0, .slice none 0 0, .int .i64 0, .int .i64 0, .int .i64 0] 78 (0, 0)) z53_ hg (Kd.R_ne HO279.out BK275.out (by decide))); replace HB := Aside0.mk (hb); have HO282 := Aside0.mk (ho); clear HO279; clear ho hb hg hat; obtain ⟨hcz36_0, hcz36_1, hcz36_2, hcz36_3, hcz36_4, hfz36_0, hfz36_1, hfz36_2, hfz36_3, hfz36_4⟩ := bx5_ BK274.out))
   have n0_ := Aside0.mk (Kd.R_drew HO282.out)
   have n1_ := Aside0.mk (blk_drew BK274.out)
   have n2_ := Aside0.mk (blk_drew BK275.out)
   have n3_ := Aside0.mk (below_drew1 HB.out)
   clear HO282
   clear BK274
   clear BK275
   clear HB
   have HO282 := n0_
   have BK274 := n1_
   have BK275 := n2_
   have HB := n3_
   clear n0_ n1_ n2_ n3_
   obtain ⟨Ao38, co38, eo38⟩ := Kd.R_slice HO282.out
   (first | subst eo38 | (injection eo38 with f1_ f2_ f3_; have f4_ := f1_.symm; have f5_ := f3_.symm; clear f1_ f2_ f3_; subst f4_; subst f5_))
   obtain ⟨i038, hi038, _, _, _⟩ := info_parts info3
   have hcut38 := cut_to (P := Try.prog) 61 3 .i64 Try.underlying61 hi038 Ao38 y280.length co38 (ji23) (show (0 : Int) ≤ ji23 from odt_) (show ji23 ≤ ((y280.length : Nat) : Int) from Int.le_of_lt (show ji23 < ((y280.length : Nat) : Int) from odt_)) (Kd.R_reads' HO282.out).2.1
   obtain ⟨p284, q284, ad284, e284, hw284_0, hw284_1, hx284_0, hx284_1⟩ := atw80_ HR0 HB t276
   cases e284
   have p285 : 0 ≤ ((ji23) : Int) := odt_
   have q285 : (ji23) < (y280.length : Int) := odt_
   obtain ⟨ad285, e285, hx285_0⟩ := Kd.at_int (Kd.R_reads' HO282.out).2.2 (ji23) p285 q285
   cases e285
   replace p285 := eq_true p285
   replace q285 := eq_true q285
   refine start_ (n := 22) (S := fun w' => w'.cell? (ad284.add ((t276).toNat * 2)) = some (.int .i64 ((rd_T80 l0 t276).f0)) ∧ w'.cell? ⟨(ad284.add ((t276).toNat * 2)).block, (ad284.add ((t276).toNat * 2)).off + 1, none⟩ = some (.int .i64 ((rd_T80 l0 t276).f1)) ∧ w'.cell? (ad285.add ((ji23)).toNat) = some (.int .i64 (rd y280 (ji23)))) (ds := []) (fl_ 22 0) (by kernel_rfl) rfl (fl_zero _) ⟨((HB.out.cell (World.block_lt_of_cell? w _ hw284_0)).trans hw284_0), ((HB.out.cell (World.block_lt_of_cell? w _ hw284_1)).trans hw284_1), hx285_0⟩ (fun hHeld => ?_); refine with_tabW spec_l19Back.tab7 spec_l19Back.bits7 (fun HT_ HW_ => ?_)
   generalize w35.drew = w37 at HO282 BK274 BK275 HB hx284_0 hx284_1 hx285_0 hHeld ⊢
   iterate 9 refine zp_ HT_ rfl rfl (by kernel_rfl) (fun _ _ _ h => h) (by rfl) ?_
   refine zpg_ (i := 10) (ra_ [9, 1, 1, 11]) HT_ rfl rfl (by kernel_rfl) (fun _ _ _ h => h) (by rfl) ?_
   refine zpg_ (i := 11) (ra_ [9, 1, 2, 10]) HT_ rfl rfl (by kernel_rfl) (fun _ _ _ h => h) (by rfl) ?_
   refine zpg_ (i := 12) (ra_ [9, 1, 3, 9]) HT_ rfl rfl (by kernel_rfl) (fun _ _ _ h => h) (by rfl) ?_
   refine zpg_ (i := 13) (ra_ [9, 1, 4, 8]) HT_ rfl rfl (by kernel_rfl) (fun _ _ _ h => h) (by rfl) ?_
   refine zpg_ (i := 14) (ra_ [9, 1, 5, 7]) HT_ rfl rfl (by kernel_rfl) (fun _ _ _ h => h) (by rfl) ?_
   refine zpg_ (i := 16) (ra_ [9, 1, 5, 1, 1, 5]) HT_ rfl rfl (by kernel_rfl) (fun _ _ _ h => h) (by rfl) ?_
   refine zpg_ (i := 17) (ra_ [9, 1, 5, 1, 2, 4]) HT_ rfl rfl (by kernel_rfl) (fun _ _ _ h => h) (by rfl) ?_
   refine ztg_ (i := 9) (ra_ [15, 1, 2, 4]) HT_ HW_ rfl rfl (by kernel_rfl) (fun _ _ _ h => h) (by rfl) hHeld ?_ (by rintro w' ⟨s0, s1, s2⟩; go_simp; with_reducible rfl)
   refine ztg_ (i := 15) (fl_ 22 18) HT_ HW_ rfl rfl (by kernel_rfl) (fun _ _ _ h => h) (by rfl) hHeld ?_ (by rintro w' ⟨s0, s1, s2⟩; go_simp; with_reducible rfl)
   refine one_ (i := 18) (N := some 46) (fl_ 22 19) rfl rfl (one_of HT_.out (by kernel_rfl)) (by decide) (fun K hK => ?_)
   refine goes_ Try.func105 (by kernel_rfl) rfl #[.slice (some ad284) l0.length c0, .int .i64 t276] (by rfl) rfl rfl z1_ ?_
   with_reducible refine (spec_KidsOf.calls k _ _ l0 t276 t286 _ ?side1 ?side2 A26.out).mono ?_
   (case side1 => exact z2_)
   (case side2 => exact HC0.out)
   rintro e w39 ⟨v287, rfl, ho0, hb⟩
   have HS2_ := (hb.cell (World.block_lt_of_cell? _ _ (hHeld.2.2))).trans (hHeld.2.2)
   refine ⟨_, rfl, ?_⟩
   have n0_ := Aside0.mk (Kd.R_elder' z130_ (Kd.R_base ho0) hb)
   have n1_ := Aside0.mk (Kd.R_lower (Kd.R_new' ho0 (Kd.R_lt z130_)) (below_size z11_))
   have n2_ := Aside0.mk (blk_below (g := gb274) (o := .cells #[.int .i64 a1_0, .slice A1_1 l1_1.length c1_1, .int .i64 a1_2, .int .i64 a1_3, .int .i64 a1_4] 78 (0, 0)) z29_ hb)
   have n3_ := Aside0.mk (blk_below (g := gb275) (o := .cells #[.int .i64 0, .slice none 0 0, .int .i64 0, .int .i64 0, .int .i64 0] 78 (0, 0)) z53_ hb)
   have n4_ := Aside0.mk (below_step z11_ hb)
   clear HO282
   clear BK274
   clear BK275
   clear HB
   have HO282 := n0_
   have HO288 := n1_
   have BK274 := n2_
   have BK275 := n3_
   have HB := n4_
   clear n0_ n1_ n2_ n3_ n4_
   (try clear hb)
   (try clear hb2)
   (try clear hk)
   (try clear hi)
   (try clear ho0)
   obtain ⟨Ao40, co40, eo40⟩ := Kd.R_slice HO288.out
   (first | subst eo40 | (injection eo40 with f1_ f2_ f3_; have f4_ := f1_.symm; have f5_ := f3_.symm; clear f1_ f2_ f3_; subst f4_; subst f5_))
   refine hK.out _ _ ⟨((HB.out.cell (World.block_lt_of_cell? w _ hw284_0)).trans hw284_0), ((HB.out.cell (World.block_lt_of_cell? w _ hw284_1)).trans hw284_1), HS2_⟩ (fun hHeld => ?_)
   clear hK K
   refine zn_ rfl ?_
   iterate 2 refine zp_ HT_ rfl rfl (by kernel_rfl) (fun _ _ _ h => h) (by rfl) ?_
   refine one_ (i := 21) (N := none) (fl_ 22 22) rfl rfl (one_of HT_.out (by kernel_rfl)) (by decide) (fun K hK => ?_)
   have hs41 : w39.cell? ⟨gb275, 0, none⟩ = some (.int .i64 0) := (blk_cell BK275.out 0).trans rfl
   have hfs41 := blk_frozen BK275.out 0
   have hns41_0 := NB274_275.out
   have hms41_0 := NB275_274.out
   have hs42 : w39.cell? ⟨gb275, 1, none⟩ = some (.slice none 0 0) := (blk_cell BK275.out 1).trans rfl
   have hfs42 := blk_frozen BK275.out 1
   have hns42_0 := NB274_275.out
   have hms42_0 := NB275_274.out
   have hs43 : w39.cell? ⟨gb275, 2, none⟩ = some (.int .i64 0) := (blk_cell BK275.out 2).trans rfl
   have hfs43 := blk_frozen BK275.out 2
   have hns43_0 := NB274_275.out
   have hms43_0 := NB275_274.out
   have hs44 : w39.cell? ⟨gb275, 3, none⟩ = some (.int .i64 0) := (blk_cell BK275.out 3).trans rfl
   have hfs44 := blk_frozen BK275.out 3
   have hns44_0 := NB274_275.out
   have hms44_0 := NB275_274.out
   have hs45 : w39.cell? ⟨gb275, 4, none⟩ = some (.int .i64 0) := (blk_cell BK275.out 4).trans rfl
   have hfs45 := blk_frozen BK275.out 4
   have hns45_0 := NB274_275.out
   have hms45_0 := NB275_274.out
   refine skip_ (w1 := ?_) (by rfl) rfl ?_ ?_
   rotate_left
   ·go_simp
    rfl
   refine hK.out _ _ ⟨((cell_far (p := ⟨gb275, _, none⟩) z15_ _).trans (((cell_far (p := ⟨gb275, _, none⟩) z15_ _).trans (((cell_far (p := ⟨gb275, _, none⟩) z15_ _).trans (((cell_far (p := ⟨gb275, _, none⟩) z15_ _).trans (((cell_far (p := ⟨gb275, _, none⟩) z15_ _).trans (hHeld.1)))))))))), ((cell_far (p := ⟨gb275, _, none⟩) z16_ _).trans (((cell_far (p := ⟨gb275, _, none⟩) z16_ _).trans (((cell_far (p := ⟨gb275, _, none⟩) z16_ _).trans (((cell_far (p := ⟨gb275, _, none⟩) z16_ _).trans (((cell_far (p := ⟨gb275, _, none⟩) z16_ _).trans (hHeld.2.1)))))))))), ((cell_far (p := ⟨gb275, _, none⟩) z43_ _).trans (((cell_far (p := ⟨gb275, _, none⟩) z43_ _).trans (((cell_far (p := ⟨gb275, _, none⟩) z43_ _).trans (((cell_far (p := ⟨gb275, _, none⟩) z43_ _).trans (((cell_far (p := ⟨gb275, _, none⟩) z43_ _).trans (hHeld.2.2))))))))))⟩ (fun hHeld => ?_)
   clear hK K
   refine done_ (done_of HT_.out (by kernel_rfl)) ?_
   try go_wp2
   refine bodyPost_ret (results_cell_row rfl _ _ gb275 78 #[.int .i64 3, .slice (some ad285) (ji23).toNat co38, .int .i64 ((rd_T80 l0 t276).f0), .int .i64 (rd y280 (ji23)), .int .i64 (t286.length : Int)] (0, 0) _ rfl (by (with_reducible repeat (first | refine blk_drewN ?_ _ | refine blk_drew ?_ | refine blk_alloc ?_ _)); refine blk_put (cs := #[.int .i64 3, .slice (some ad285) (ji23).toNat co38, .int .i64 ((rd_T80 l0 t276).f0), .int .i64 (rd y280 (ji23)), .int .i64 0]) ?_ 4 _ rfl; (with_reducible repeat (first | refine blk_drewN ?_ _ | refine blk_drew ?_ | refine blk_alloc ?_ _)); refine blk_put (cs := #[.int .i64 3, .slice (some ad285) (ji23).toNat co38, .int .i64 ((rd_T80 l0 t276).f0), .int .i64 0, .int .i64 0]) ?_ 3 _ rfl; (with_reducible repeat (first | refine blk_drewN ?_ _ | refine blk_drew ?_ | refine blk_alloc ?_ _)); refine blk_put (cs := #[.int .i64 3, .slice (some ad285) (ji23).toNat co38, .int .i64 0, .int .i64 0, .int .i64 0]) ?_ 2 _ rfl; (with_reducible repeat (first | refine blk_drewN ?_ _ | refine blk_drew ?_ | refine blk_alloc ?_ _)); refine blk_put (cs := #[.int .i64 3, .slice none 0 0, .int .i64 0, .int .i64 0, .int .i64 0]) ?_ 1 _ rfl; (with_reducible repeat (first | refine blk_drewN ?_ _ | refine blk_drew ?_ | refine blk_alloc ?_ _)); refine blk_put (cs := #[.int .i64 0, .slice none 0 0, .int .i64 0, .int .i64 0, .int .i64 0]) ?_ 0 _ rfl; (with_reducible repeat (first | refine blk_drewN ?_ _ | refine blk_drew ?_ | refine blk_alloc ?_ _)); exact BK275.out) Try.underlying78 rfl (by kernel_rfl)) rfl ?_
   exact ⟨_, z124_, by (with_reducible repeat (first | apply Kd.R_alloc | apply Kd.R_drewN | apply Kd.R_drew)); exact Kd.R_mono (Kd.R_far (p := ⟨gb275, 4, none⟩) (Kd.R_far (p := ⟨gb275, 3, none⟩) (Kd.R_far (p := ⟨gb275, 2, none⟩) (Kd.R_far (p := ⟨gb275, 1, none⟩) (Kd.R_far (p := ⟨gb275, 0, none⟩) (Kd.R_types (Kd.R_take (m := (ji23).toNat) HO282.out (by have h_ : ji23 < ((y280.length : Nat) : Int) := odt_; omega)) BK275.out (by decide)) (fun _ hk => hk.2) (.int .i64 3)) (fun _ hk => hk.2) (.slice (some ad285) (ji23).toNat co38)) (fun _ hk => hk.2) (.int .i64 ((rd_T80 l0 t276).f0))) (fun _ hk => hk.2) (.int .i64 (rd y280 (ji23)))) (fun _ hk => hk.2) (.int .i64 (t286.length : Int))) (fun _ hk => trivial), z11_⟩
  ·rw [if_neg c20] at H
   have c20b0 : (a1_0 == 2) = false := beq_eq_false_iff_ne.mpr c20
   have c20b1 : (a1_0 != 2) = true := bne_iff_ne.mpr c20
   obtain ⟨c46, H⟩ := ifs_ H
   have LMc46 := Aside0.mk c46
   clear c46
   first | ((with_reducible have hz_ := gy_ H); obtain ⟨y289, Ny289, H⟩ := hz_) | (generalize hy_ : ((y280 ++ [a1_3]) : List Int) = y289 at H; have Ny289 := Aside0.mk hy_.symm; clear hy_)
   simp only [Option.some.injEq, Prod.mk.injEq] at H
   obtain ⟨rfl, rfl, rfl, rfl, rfl⟩ := H
   go_enter Try.func66, Try.ntmps66
   go_wp2_with (first | ((with_reducible refine gate_dst (N := 3) rfl ?_); refine box_event ?hg (N := 3) ?hd (cs := #[.int .i64 a1_0, .slice A1_1 l1_1.length c1_1, .int .i64 a1_2, .int .i64 a1_3, .int .i64 a1_4]) (t := 78) ?hr ?_; (case hd => rfl); (case hg => rfl); (case hr => exact z10_); intro gb274 hg w47 hbox hb; have BK274 := Aside0.mk (hbox); have GW274 := Aside0.mk ((by rw [hg]; exact (below_size z0_) : w.heap.size ≤ gb274)); have GE274 := Aside0.mk ((by rw [hg]; exact (below_size z0_) : w.heap.size ≤ gb274)); replace HB := Aside0.mk (below_step z0_ hb); clear hb hbox hg) | ((with_reducible refine gate_dst (N := 4) rfl ?_); refine box_event ?hg (N := 4) ?hd (cs := #[.int .i64 0, .slice none 0 0, .int .i64 0, .int .i64 0, .int .i64 0]) (t := 78) ?hr ?_; (case hd => rfl); (case hg => rfl); (case hr => exact z10_); intro gb275 hg w48 hbox hb; have BK275 := Aside0.mk (hbox); have GW275 := Aside0.mk ((by rw [hg]; exact (below_size z49_) : w.heap.size ≤ gb275)); have GE275 := Aside0.mk ((by rw [hg]; exact (below_size z49_) : w.heap.size ≤ gb275)); replace HB := Aside0.mk (below_step z49_ hb); have NB274_275 := Aside0.mk ((by rw [hg]; exact Nat.ne_of_lt (blk_lt (g := gb274) (o := .cells #[.int .i64 a1_0, .slice A1_1 l1_1.length c1_1, .int .i64 a1_2, .int .i64 a1_3, .int .i64 a1_4] 78 (0, 0)) z29_) : gb274 ≠ gb275)); have NB275_274 := Aside0.mk ((by rw [hg]; exact Nat.ne_of_gt (blk_lt (g := gb274) (o := .cells #[.int .i64 a1_0, .slice A1_1 l1_1.length c1_1, .int .i64 a1_2, .int .i64 a1_3, .int .i64 a1_4] 78 (0, 0)) z29_) : gb275 ≠ gb274)); replace BK274 := Aside0.mk (blk_below (g := gb274) (o := .cells #[.int .i64 a1_0, .slice A1_1 l1_1.length c1_1, .int .i64 a1_2, .int .i64 a1_3, .int .i64 a1_4] 78 (0, 0)) z29_ hb); clear hb hbox hg; have hnb49 := NB274_275.out; have hnc49 := NB275_274.out; obtain ⟨hcz50_0, hcz50_1, hcz50_2, hcz50_3, hcz50_4, hfz50_0, hfz50_1, hfz50_2, hfz50_3, hfz50_4⟩ := bx5_ BK274.out) | ((with_reducible refine gate_callee (f := 89) rfl ?_); refine goesL_ (some 10) rfl rfl Try.func89 (by kernel_rfl) rfl #[.slice A0 l0.length c0, .slice A1_1 l1_1.length c1_1] rfl z1_ ?_; (with_reducible refine (spec_NodeAt.calls k _ _ l0 _ _ l1_1 t276 _ ?side1 ?side2 ?side3 ?side4 A3.out).mono ?_); (case side1 => exact z2_); (case side2 => exact HC0.out); (case side3 => exact z7_); (case side4 => exact HC1_1.out); rintro e w51 ⟨rfl, hb⟩; refine ⟨_, rfl, ?_⟩; replace BK274 := Aside0.mk (blk_below (g := gb274) (o := .cells #[.int .i64 a1_0, .slice A1_1 l1_1.length c1_1, .int .i64 a1_2, .int .i64 a1_3, .int .i64 a1_4] 78 (0, 0)) z29_ hb); replace BK275 := Aside0.mk (blk_below (g := gb275) (o := .cells #[.int .i64 0, .slice none 0 0, .int .i64 0, .int .i64 0, .int .i64 0] 78 (0, 0)) z53_ hb); replace HB := Aside0.mk (below_step z11_ hb); (try clear hb)) | ((with_reducible refine gate_dst (N := 11) rfl ?_); refine Kd.R_lit (Kd.int .i64) _ 3 ?hg (N := 11) ?hd (xs := ([] : List Int)) (inner := []) (ok := fun _ => True) (okp := fun _ => True) ?hr ?hp (fun _ hk => hk) trivial (Below.refl _ _) (Nat.le_refl _) (by simp) ?_; (case hd => rfl); (case hg => rfl); (case hr => exact z10_); (case hp => exact z97_); intro v278 w52 ho53 hb hg_ hnew_; clear hg_ hnew_; (first | rw [← Ny277.out] at ho53 | (simp only [Int.reduceToNat] at ho53; rw [← Ny277.out] at ho53)); have HO279 := Aside0.mk (Kd.R_lower ho53 (below_size z11_)); replace BK274 := Aside0.mk (blk_below (g := gb274) (o := .cells #[.int .i64 a1_0, .slice A1_1 l1_1.length c1_1, .int .i64 a1_2, .int .i64 a1_3, .int .i64 a1_4] 78 (0, 0)) z29_ hb); replace BK275 := Aside0.mk (blk_below (g := gb275) (o := .cells #[.int .i64 0, .slice none 0 0, .int .i64 0, .int .i64 0, .int .i64 0] 78 (0, 0)) z53_ hb); replace HB := Aside0.mk (below_step z11_ hb); clear hb ho53; obtain ⟨hcz54_0, hcz54_1, hcz54_2, hcz54_3, hcz54_4, hfz54_0, hfz54_1, hfz54_2, hfz54_3, hfz54_4⟩ := bx5_ BK274.out) | ((with_reducible refine gate_builtin (b := .append) (xs := #[.tmp 11, .tmp 13]) rfl ?_); at_builtin; refine Kd.R_append_rows (Kd.int .i64) (w0 := w) w.heap.size rfl (.tmp 11) (.tmp 13) 61 3 (.int .i64 0) 8 rfl Try.underlying61 info3 rfl (by decide) (by omega) v278 y277 l1_1 _ _ _ (fun _ => True) (fun _ => False) rfl rfl ?aO ?aR (fun _ _ h => h) (fun _ h => h.elim) ?aF ?aB ?aS ?aL ?_; (case aR => exact z7_); (case aB => exact z69_); (case aF => exact z98_); (case aO => exact z123_); (case aS => exact z66_); (case aL => have := LMc4.out; omega); intro v281 w55 ho hb hg hat; rw [← Ny280.out] at ho; replace BK274 := Aside0.mk (blk_grown (g := gb274) (o := .cells #[.int .i64 a1_0, .slice A1_1 l1_1.length c1_1, .int .i64 a1_2, .int .i64 a1_3, .int .i64 a1_4] 78 (0, 0)) z29_ hg (Kd.R_ne HO279.out BK274.out (by decide))); replace BK275 := Aside0.mk (blk_grown (g := gb275) (o := .cells #[.int .i64 0, .slice none 0 0, .int .i64 0, .int .i64 0, .int .i64 0] 78 (0, 0)) z53_ hg (Kd.R_ne HO279.out BK275.out (by decide))); replace HB := Aside0.mk (hb); have HO282 := Aside0.mk (ho); clear HO279; clear ho hb hg hat; obtain ⟨hcz56_0, hcz56_1, hcz56_2, hcz56_3, hcz56_4, hfz56_0, hfz56_1, hfz56_2, hfz56_3, hfz56_4⟩ := bx5_ BK274.out) | ((with_reducible refine gate_builtin (b := .append) (xs := #[.tmp 49, .tmp 52]) rfl ?_); at_builtin; refine Kd.R_append (Kd.int .i64) (w0 := w) w.heap.size rfl (.tmp 49) (.tmp 52) 61 3 (.int .i64 0) 8 rfl Try.underlying61 info3 rfl (by decide) (by omega) v281 y280 a1_3 [.int .i64 a1_3] (fun _ => True) (fun _ => False) rfl rfl ?aP (fun _ hk => hk.elim) ?aF ?aO ?aB ?aS ?aL ?_; (case aP => exact rfl); (case aB => exact z69_); (case aF => exact z98_); (case aO => exact z130_); (case aS => exact z66_); (case aL => have := LMc46.out; omega); intro v290 w57 ho hb hg hat; rw [← Ny289.out] at ho; replace BK274 := Aside0.mk (blk_grown (g := gb274) (o := .cells #[.int .i64 a1_0, .slice A1_1 l1_1.length c1_1, .int .i64 a1_2, .int .i64 a1_3, .int .i64 a1_4] 78 (0, 0)) z29_ hg (Kd.R_ne HO282.out BK274.out (by decide))); replace BK275 := Aside0.mk (blk_grown (g := gb275) (o := .cells #[.int .i64 0, .slice none 0 0, .int .i64 0, .int .i64 0, .int .i64 0] 78 (0, 0)) z53_ hg (Kd.R_ne HO282.out BK275.out (by decide))); replace HB := Aside0.mk (hb); have HO291 := Aside0.mk (ho); clear HO282; clear ho hb hg hat; obtain ⟨Ao58, co58, eo58⟩ := Kd.R_slice HO291.out; subst eo58; obtain ⟨hcz59_0, hcz59_1, hcz59_2, hcz59_3, hcz59_4, hfz59_0, hfz59_1, hfz59_2, hfz59_3, hfz59_4⟩ := bx5_ BK275.out))
   refine bodyPost_ret (results_cell_row rfl _ _ gb275 78 #[.int .i64 2, .slice Ao58 y289.length co58, .int .i64 0, .int .i64 0, .int .i64 0] (0, 0) _ rfl (by (with_reducible repeat (first | refine blk_drewN ?_ _ | refine blk_drew ?_ | refine blk_alloc ?_ _)); refine blk_put (cs := #[.int .i64 2, .slice Ao58 y289.length co58, .int .i64 0, .int .i64 0, .int .i64 0]) ?_ 4 _ rfl; (with_reducible repeat (first | refine blk_drewN ?_ _ | refine blk_drew ?_ | refine blk_alloc ?_ _)); refine blk_put (cs := #[.int .i64 2, .slice Ao58 y289.length co58, .int .i64 0, .int .i64 0, .int .i64 0]) ?_ 3 _ rfl; (with_reducible repeat (first | refine blk_drewN ?_ _ | refine blk_drew ?_ | refine blk_alloc ?_ _)); refine blk_put (cs := #[.int .i64 2, .slice Ao58 y289.length co58, .int .i64 0, .int .i64 0, .int .i64 0]) ?_ 2 _ rfl; (with_reducible repeat (first | refine blk_drewN ?_ _ | refine blk_drew ?_ | refine blk_alloc ?_ _)); refine blk_put (cs := #[.int .i64 2, .slice none 0 0, .int .i64 0, .int .i64 0, .int .i64 0]) ?_ 1 _ rfl; (with_reducible repeat (first | refine blk_drewN ?_ _ | refine blk_drew ?_ | refine blk_alloc ?_ _)); refine blk_put (cs := #[.int .i64 0, .slice none 0 0, .int .i64 0, .int .i64 0, .int .i64 0]) ?_ 0 _ rfl; (with_reducible repeat (first | refine blk_drewN ?_ _ | refine blk_drew ?_ | refine blk_alloc ?_ _)); exact BK275.out) Try.underlying78 rfl (by kernel_rfl)) rfl ?_
   exact ⟨_, z4_, by (with_reducible repeat (first | apply Kd.R_alloc | apply Kd.R_drewN | apply Kd.R_drew)); exact Kd.R_mono (Kd.R_far (p := ⟨gb275, 4, none⟩) (Kd.R_far (p := ⟨gb275, 3, none⟩) (Kd.R_far (p := ⟨gb275, 2, none⟩) (Kd.R_far (p := ⟨gb275, 1, none⟩) (Kd.R_far (p := ⟨gb275, 0, none⟩) (Kd.R_types HO291.out BK275.out (by decide)) (fun _ hk => hk.2) (.int .i64 2)) (fun _ hk => hk.2) (.slice Ao58 y289.length co58)) (fun _ hk => hk.2) (.int .i64 0)) (fun _ hk => hk.2) (.int .i64 0)) (fun _ hk => hk.2) (.int .i64 0)) (fun _ hk => trivial), z11_⟩

/-! ### spec_Invert: function 27 -/
def spec_Invert.l0 : Nat → List (S78) → List (S78) → List (S80) → Int → Option ((List (S78)) × Bool)
 | 0, _, _, _, _ => none
 | k + 1, x1, x6, x7, x8 => if x8 < (x1.length : Int) then (if 0 ≤ x8 then ((spec_ApplyOp.f k x7 ((rd_T78 x1 x8).f0) ((rd_T78 x1 x8).f1) ((rd_T78 x1 x8).f2) ((rd_T78 x1 x8).f3) ((rd_T78 x1 x8).f4)).bind fun bt300 => (if bt300.2 = 0 then ((spec_l19Back.f k x7 ((rd_T78 x1 x8).f0) ((rd_T78 x1 x8).f1) ((rd_T78 x1 x8).f2) ((rd_T78 x1 x8).f3) ((rd_T78 x1 x8).f4)).bind fun bt305 => ((some (([(⟨bt305.1, bt305.2.1, bt305.2.2.1, bt305.2.2.2.1, bt305.2.2.2.2⟩ : S78)] : List (S78)) : List (S78))).bind fun y312 => (if y312.length + x6.length < 2513169434916 then (spec_Invert.l0 k x1 (y312 ++ x6) bt300.1 (wrap64 (x8 + 1))) else (none)))) else (some ((([] : List (S78))), false)))) else (none)) else (some (x6, true))
def spec_Invert.f (k : Nat) (l0 : List (S80)) (l1 : List (S78)) : Option ((List (S78)) × Bool) := (some (([] : List (S78)) : List (S78))).bind fun y292 => ((spec_TreeOk.f k l0).bind fun t295 => (if t295 = true then ((spec_l3Copy.f l0).bind fun t296 => (spec_Invert.l0 k l1 y292 t296 0)) else (some (y292, false))))
set_option maxHeartbeats 8000000 in
set_option maxRecDepth 100000 in
theorem spec_Invert.calls (k : Nat) (A0 : Option Addr) (c0 : Nat) (l0 : List (S80)) (A1 : Option Addr) (c1 : Nat) (l1 : List (S78)) (r1 : List (S78)) (r2 : Bool) (w : World) (hr0 : Kd.C k80 w A0 l0.length l0) (hc0 : l0.length ≤ c0) (hr1 : Kd.C k78 w A1 l1.length l1) (hc1 : l1.length ≤ c1) (h : spec_Invert.f k l0 l1 = some (r1, r2)) :
  Calls Try.prog 27 #[.slice A0 l0.length c0, .slice A1 l1.length c1] w fun e w' => ∃ v0_ : Value, e = .returned (.tuple #[v0_, .bool r2]) ∧ Kd.N k78 78 w' w.heap.size (fun k_ => (w.heap.size ≤ k_)) v0_ r1 ∧ Below w.heap.size w w' := by
 have hu78 := Try.underlying78
 have HR0 := Aside0.mk hr0
 have HC0 := Aside0.mk hc0
 clear hr0 hc0
 have HR1 := Aside0.mk hr1
 have HC1 := Aside0.mk hc1
 clear hr1 hc1
 have HB := Aside0.mk (Below.refl w.heap.size w)
 have H : ((some (([] : List (S78)) : List (S78))).bind fun y292 => ((spec_TreeOk.f k l0).bind fun t295 => (if t295 = true then ((spec_l3Copy.f l0).bind fun t296 => (spec_Invert.l0 k l1 y292 t296 0)) else (some (y292, false))))) = some (r1, r2) := h
 clear h
 first | ((with_reducible have hz_ := gy_ H); obtain ⟨y292, Ny292, H⟩ := hz_) | (generalize hy_ : ((([] : List (S78))) : List (S78)) = y292 at H; have Ny292 := Aside0.mk hy_.symm; clear hy_)
 obtain ⟨t295, A3, H⟩ := bnd_ H
 by_cases c4 : t295 = true
 ·subst c4
  replace H := ift_ H
  obtain ⟨t296, A5, H⟩ := bnd_ H
  have H' := Aside0.mk H
  clear H
  go_enter Try.func27, Try.ntmps27
  go_wp2_with (first | ((with_reducible refine gate_dst (N := 11) rfl ?_); refine Kd.N_lit k78 _ 78 ?hg (N' := 11) ?hd (xs := ([] : List (S78))) (inner := []) (ok := (fun k_ => (w.heap.size ≤ k_))) (okp := (fun k_ => (w.heap.size ≤ k_))) ?hr ?hp (fun _ hk => hk) ((show ∀ k_, w.heap.size ≤ k_ → (fun k_ => (w.heap.size ≤ k_)) k_ from fun k_ hk => (Nat.le_trans (below_size z0_) hk)) _ (Nat.le_refl _)) (Below.refl _ _) (Nat.le_refl _) (by simp) ?_; (case hd => rfl); (case hg => rfl); (case hr => exact z10_); (case hp => exact z97_); intro v293 w6 ho7 hb hg_ hnew_; clear hg_ hnew_; (first | rw [← Ny292.out] at ho7 | (simp only [Int.reduceToNat] at ho7; rw [← Ny292.out] at ho7)); have HO294 := Aside0.mk (Kd.N_lower ho7 (below_size z0_)); replace HB := Aside0.mk (below_step z0_ hb); clear hb ho7) | ((with_reducible refine gate_callee (f := 38) rfl ?_); refine goesL_ (some 13) rfl rfl Try.func38 (by kernel_rfl) rfl #[.slice A0 l0.length c0] rfl z1_ ?_; (with_reducible refine (spec_TreeOk.calls k _ _ l0 true _ ?side1 ?side2 A3.out).mono ?_); (case side1 => exact z2_); (case side2 => exact HC0.out); rintro e w8 ⟨rfl, hb⟩; refine ⟨_, rfl, ?_⟩; replace HO294 := Aside0.mk (Kd.N_below z93_ hb); replace HB := Aside0.mk (below_step z0_ hb); (try clear hb)) | ((with_reducible refine gate_callee (f := 45) rfl ?_); refine goesL_ (some 17) rfl rfl Try.func45 (by kernel_rfl) rfl #[.slice A0 l0.length c0] rfl z1_ ?_; (with_reducible refine (spec_l3Copy.calls _ _ l0 t296 _ ?side1 ?side2 A5.out).mono ?_); (case side1 => exact z2_); (case side2 => exact HC0.out); rintro e w9 ⟨v297, rfl, ho0, hb⟩; refine ⟨_, rfl, ?_⟩; replace HO294 := Aside0.mk (Kd.N_elder' z93_ (Kd.R_base ho0) hb); have HO298 := Aside0.mk (Kd.R_lower (Kd.R_newM (M := fun k_ => (w.heap.size ≤ k_)) ho0 (below_size z0_) (fun k_ h_ => h_)) (below_size z0_)); replace HB := Aside0.mk (below_step z0_ hb); (try clear hb ho0)))
  go_loopg [6, 7, 8] k (fun kq v6 v7 v8 w' => ∃ (x6_1 : List (S78)) (x7_1 : List (S80)) (x8_1 : Int), v8 = .int .i64 x8_1 ∧ Aside0 (spec_Invert.l0 kq l1 x6_1 x7_1 x8_1 = some (r1, r2)) ∧ Aside0 (kq ≤ k) ∧ Aside0 (Kd.N k78 78 w' w.heap.size (fun k_ => (w.heap.size ≤ k_) ∧ some k_ ≠ (v7 : Value).ownBlock) v6 x6_1) ∧ Aside0 (Kd.R k80 80 w' w.heap.size (fun k_ => (w.heap.size ≤ k_)) v7 x7_1) ∧ Aside0 (Below w.heap.size w w'))
  case atStart => exact ⟨(y292), (t296), (0), z8_, H', ⟨Nat.le_refl _⟩, ⟨z93_⟩, ⟨by (with_reducible repeat (first | apply Kd.R_alloc | apply Kd.R_drewN | apply Kd.R_drew)); exact Kd.R_mono HO298.out (fun _ hk => hk.1)⟩, ⟨z0_⟩⟩
  case round =>
   clear H'
   try clear c1
   try clear c2
   try clear p2
   try clear c3
   try clear c4
   obtain ⟨x6_1, x7_1, x8_1, rfl, HA, HK1, HO_6, HO_7, HB⟩ := hrel
   cases gk with
   | zero => exact absurd HA.out (by simp [spec_Invert.l0])
   | succ k1 =>
    have H := HA.out
    clear HA
    simp only [spec_Invert.l0] at H
    by_cases c10 : x8_1 < (l1.length : Int)
    ·rw [if_pos c10] at H
     have c10b0 := decide_eq_true c10
     clear c10
     obtain ⟨c11b0, H⟩ := ifd_ H
     replace H := Option.bind_eq_some_iff.mp H
     obtain ⟨⟨t300, t303⟩, A120, H⟩ := H
     try dsimp only at H
     have A12 := Aside0.mk A120
     clear A120
     by_cases c13 : t303 = 0
     ·rw [if_pos c13] at H
      have c13b0 : (t303 == 0) = true := beq_iff_eq.mpr c13
      have c13b1 : (t303 != 0) = false := bne_eq_false_iff_eq.mpr c13
      clear c13
      replace H := Option.bind_eq_some_iff.mp H
      obtain ⟨⟨t305, t306, t309, t310, t311⟩, A140, H⟩ := H
      try dsimp only at H
      have A14 := Aside0.mk A140
      clear A140
      first | ((with_reducible have hz_ := gy_ H); obtain ⟨y312, Ny312, H⟩ := hz_) | (generalize hy_ : ((([(⟨t305, t306, t309, t310, t311⟩ : S78)] : List (S78))) : List (S78)) = y312 at H; have Ny312 := Aside0.mk hy_.symm; clear hy_)
      obtain ⟨c15, H⟩ := ifs_ H
      have LMc15 := Aside0.mk c15
      clear c15
      first | ((with_reducible have hz_ := gy_ H); obtain ⟨y315, Ny315, H⟩ := hz_) | (generalize hy_ : ((y312 ++ x6_1) : List (S78)) = y315 at H; have Ny315 := Aside0.mk hy_.symm; clear hy_)
      have H' := Aside0.mk H
      clear H
      have p299 : 0 ≤ (x8_1 : Int) := odt_
      have q299 : x8_1 < (l1.length : Int) := odt_
      obtain ⟨ad299, A299_1, c299_1, e299, hx299_0, hx299_1, hx299_2, hx299_3, hx299_4, hl299_1, hi299_1⟩ := at_T78 HR1.out x8_1 p299 q299
      cases e299
      replace hx299_0 := (HB.out.cell (World.block_lt_of_cell? w _ hx299_0)).trans hx299_0
      replace hx299_1 := (HB.out.cell (World.block_lt_of_cell? w _ hx299_1)).trans hx299_1
      replace hx299_2 := (HB.out.cell (World.block_lt_of_cell? w _ hx299_2)).trans hx299_2
      replace hx299_3 := (HB.out.cell (World.block_lt_of_cell? w _ hx299_3)).trans hx299_3
      replace hx299_4 := (HB.out.cell (World.block_lt_of_cell? w _ hx299_4)).trans hx299_4
      have HR299_1 := Aside0.mk hi299_1
      have HC299_1 := Aside0.mk hl299_1
      clear hi299_1 hl299_1
      replace p299 := eq_true p299
      replace q299 := eq_true q299
      obtain ⟨Ao16, co16, eo16⟩ := Kd.R_slice HO_7.out
      subst eo16
      go_wp2_with (first | ((with_reducible refine gate_callee (f := 47) rfl ?_); refine goesL_ (some 30) rfl rfl Try.func47 (by kernel_rfl) rfl #[.slice Ao16 x7_1.length co16, .agg #[.int .i64 ((rd_T78 l1 x8_1).f0), .slice A299_1 ((rd_T78 l1 x8_1).f1).length c299_1, .int .i64 ((rd_T78 l1 x8_1).f2), .int .i64 ((rd_T78 l1 x8_1).f3), .int .i64 ((rd_T78 l1 x8_1).f4)]] rfl z1_ ?_; (with_reducible refine (spec_ApplyOp.calls k1 _ _ x7_1 ((rd_T78 l1 x8_1).f0) _ _ ((rd_T78 l1 x8_1).f1) ((rd_T78 l1 x8_1).f2) ((rd_T78 l1 x8_1).f3) ((rd_T78 l1 x8_1).f4) t300 t303 _ ?side1 ?side2 ?side3 ?side4 A12.out).mono ?_); (case side1 => exact z95_); (case side2 => exact (Kd.R_reads' HO_7.out).2.1); (case side3 => exact z118_); (case side4 => exact HC299_1.out); rintro e w17 ⟨v301, rfl, ho0, hb⟩; refine ⟨_, rfl, ?_⟩; replace HO_6 := Aside0.mk (Kd.N_elder' z74_ (Kd.R_base ho0) hb); have HO302 := Aside0.mk (Kd.R_lower (Kd.R_new' (Kd.R_newM (M := fun k_ => (w.heap.size ≤ k_)) ho0 (below_size z0_) (fun k_ h_ => h_)) (Kd.R_lt z56_)) (below_size z0_)); replace HO_7 := Aside0.mk (Kd.R_elder' z56_ (Kd.R_base ho0) hb); replace HB := Aside0.mk (below_step z0_ hb); (try clear hb ho0); have p304 : 0 ≤ (x8_1 : Int) := odt_; have q304 : x8_1 < (l1.length : Int) := odt_; obtain ⟨ad304, A304_1, c304_1, e304, hx304_0, hx304_1, hx304_2, hx304_3, hx304_4, hl304_1, hi304_1⟩ := at_T78 HR1.out x8_1 p304 q304; obtain rfl : ad299 = ad304 := (by injection e304); replace hx304_0 := (HB.out.cell (World.block_lt_of_cell? w _ hx304_0)).trans hx304_0; replace hx304_1 := (HB.out.cell (World.block_lt_of_cell? w _ hx304_1)).trans hx304_1; replace hx304_2 := (HB.out.cell (World.block_lt_of_cell? w _ hx304_2)).trans hx304_2; replace hx304_3 := (HB.out.cell (World.block_lt_of_cell? w _ hx304_3)).trans hx304_3; replace hx304_4 := (HB.out.cell (World.block_lt_of_cell? w _ hx304_4)).trans hx304_4; have HR304_1 := Aside0.mk hi304_1; have HC304_1 := Aside0.mk hl304_1; clear hi304_1 hl304_1; replace p304 := eq_true p304; replace q304 := eq_true q304) | ((with_reducible refine gate_callee (f := 66) rfl ?_); refine goesL_ (some 41) rfl rfl Try.func66 (by kernel_rfl) rfl #[.slice Ao16 x7_1.length co16, .agg #[.int .i64 ((rd_T78 l1 x8_1).f0), .slice A304_1 ((rd_T78 l1 x8_1).f1).length c304_1, .int .i64 ((rd_T78 l1 x8_1).f2), .int .i64 ((rd_T78 l1 x8_1).f3), .int .i64 ((rd_T78 l1 x8_1).f4)]] rfl z1_ ?_; (with_reducible refine (spec_l19Back.calls k1 _ _ x7_1 ((rd_T78 l1 x8_1).f0) _ _ ((rd_T78 l1 x8_1).f1) ((rd_T78 l1 x8_1).f2) ((rd_T78 l1 x8_1).f3) ((rd_T78 l1 x8_1).f4) t305 t306 t309 t310 t311 _ ?side1 ?side2 ?side3 ?side4 A14.out).mono ?_); (case side1 => exact z95_); (case side2 => exact (Kd.R_reads' HO_7.out).2.1); (case side3 => repeat (first | exact (Kd.C_below HR304_1.out HB.out) | (with_reducible refine Kd.C_alloc ?_ _) | (with_reducible refine Kd.C_drewN ?_ _) | (with_reducible refine Kd.C_drew ?_))); (case side4 => exact HC304_1.out); rintro e w18 ⟨v307, rfl, ho0, hb⟩; refine ⟨_, rfl, ?_⟩; replace HO_6 := Aside0.mk (Kd.N_elder' z74_ (Kd.R_base ho0) hb); replace HO_7 := Aside0.mk (Kd.R_below z56_ hb); replace HO302 := Aside0.mk (Kd.R_below z73_ hb); have HO308 := Aside0.mk (Kd.R_lower (Kd.R_newM (M := fun k_ => (w.heap.size ≤ k_)) ho0 (below_size z0_) (fun k_ h_ => h_)) (below_size z0_)); replace HB := Aside0.mk (below_step z0_ hb); (try clear hb ho0); obtain ⟨Ao19, co19, eo19⟩ := Kd.R_slice HO308.out; subst eo19) | ((with_reducible refine gate_dst (N := 42) rfl ?_); refine Kd.N_lit k78 _ 78 ?hg (N' := 42) ?hd (xs := ([(⟨t305, t306, t309, t310, t311⟩ : S78)] : List (S78))) (inner := [.int .i64 t305, .slice Ao19 t306.length co19, .int .i64 t309, .int .i64 t310, .int .i64 t311]) (ok := (fun k_ => (w.heap.size ≤ k_) ∧ some k_ ≠ (u6 : Value).ownBlock ∧ some k_ ≠ (.slice Ao16 x7_1.length co16 : Value).ownBlock ∧ some k_ ≠ (v301 : Value).ownBlock)) (okp := (fun k_ => (w.heap.size ≤ k_) ∧ some k_ ≠ (u6 : Value).ownBlock ∧ some k_ ≠ (.slice Ao16 x7_1.length co16 : Value).ownBlock ∧ some k_ ≠ (v301 : Value).ownBlock)) ?hr ?hp (fun _ hk => hk) ((show ∀ k_, w18.heap.size ≤ k_ → (fun k_ => (w.heap.size ≤ k_) ∧ some k_ ≠ (u6 : Value).ownBlock ∧ some k_ ≠ (.slice Ao16 x7_1.length co16 : Value).ownBlock ∧ some k_ ≠ (v301 : Value).ownBlock) k_ from fun k_ hk => ⟨(Nat.le_trans (below_size z0_) hk), Kd.fresh' (Kd.N_lt z74_) k_ hk, Kd.fresh' (Kd.R_lt z56_) k_ hk, Kd.fresh' (Kd.R_lt z73_) k_ hk⟩) _ (Nat.le_refl _)) (Below.refl _ _) (Nat.le_refl _) (by simp) ?_; (case hd => rfl); (case hg => rfl); (case hr => exact z10_); (case hp => exact (Reps.c5 (show Kd.FK k78 _ _ (⟨t305, t306, t309, t310, t311⟩ : S78) [.int .i64 t305, .slice Ao19 t306.length co19, .int .i64 t309, .int .i64 t310, .int .i64 t311] from (k78_mkF _ _ (⟨t305, t306, t309, t310, t311⟩ : S78) (Kd.R_reads' (Kd.R_mono (ok' := (fun k_ => (w.heap.size ≤ k_) ∧ some k_ ≠ (u6 : Value).ownBlock ∧ some k_ ≠ (.slice Ao16 x7_1.length co16 : Value).ownBlock ∧ some k_ ≠ (v301 : Value).ownBlock)) (Kd.R_apart' (Kd.R_apart' (Kd.R_apart' (HO308.out) (Kd.N_typed HO_6.out) (by decide)) (Kd.R_typed HO_7.out) (by decide)) (Kd.R_typed HO302.out) (by decide)) (fun k_ hk => ⟨hk.1.1.1.1, ⟨hk.1.1.2, ⟨hk.1.2, hk.2⟩⟩⟩))).2.1 (Kd.R_F (Kd.R_mono (ok' := (fun k_ => (w.heap.size ≤ k_) ∧ some k_ ≠ (u6 : Value).ownBlock ∧ some k_ ≠ (.slice Ao16 x7_1.length co16 : Value).ownBlock ∧ some k_ ≠ (v301 : Value).ownBlock)) (Kd.R_apart' (Kd.R_apart' (Kd.R_apart' (HO308.out) (Kd.N_typed HO_6.out) (by decide)) (Kd.R_typed HO_7.out) (by decide)) (Kd.R_typed HO302.out) (by decide)) (fun k_ hk => ⟨hk.1.1.1.1, ⟨hk.1.1.2, ⟨hk.1.2, hk.2⟩⟩⟩))))) (Reps.none _ _))); intro v313 w20 ho21 hb hg_ hnew_; clear hg_ hnew_; (first | rw [← Ny312.out] at ho21 | (simp only [Int.reduceToNat] at ho21; rw [← Ny312.out] at ho21)); replace HO_6 := Aside0.mk (Kd.N_elder' z74_ (Kd.N_base ho21) hb); replace HO_7 := Aside0.mk (Kd.R_below z56_ hb); replace HO302 := Aside0.mk (Kd.R_below z73_ hb); have HO314 := Aside0.mk (Kd.N_lower ho21 (below_size z0_)); replace HB := Aside0.mk (below_step z0_ hb); clear HO308; clear hb ho21; obtain ⟨Ao23, co23, eo23⟩ := Kd.N_slice HO_6.out; subst eo23) | ((with_reducible refine gate_builtin (b := .append) (xs := #[.tmp 42, .tmp 43]) rfl ?_); at_builtin; refine Kd.N_append_rows k78 (w0 := w) w.heap.size rfl (.tmp 42) (.tmp 43) 26 78 (.agg #[(.int .i64 0), (.slice none 0 0), (.int .i64 0), (.int .i64 0), (.int .i64 0)]) 56 rfl Try.underlying26 info78 rfl (by decide) (by omega) v313 y312 x6_1 _ _ _ (fun k_ => (w.heap.size ≤ k_) ∧ some k_ ≠ (.slice Ao16 x7_1.length co16 : Value).ownBlock ∧ some k_ ≠ (v301 : Value).ownBlock) (fun k_ => ((fun k_ => (w.heap.size ≤ k_) ∧ some k_ ≠ (.slice Ao16 x7_1.length co16 : Value).ownBlock ∧ some k_ ≠ (v301 : Value).ownBlock)) k_ ∧ some k_ ≠ (v313 : Value).ownBlock) rfl rfl ?aO ?aR (fun _ hk => hk) ?aF ?aB ?aS ?aL ?_; (case aR => exact (by skip; exact Kd.N_F (Kd.N_mono (ok' := (fun k_ => ((fun k_ => (w.heap.size ≤ k_) ∧ some k_ ≠ (.slice Ao16 x7_1.length co16 : Value).ownBlock ∧ some k_ ≠ (v301 : Value).ownBlock)) k_ ∧ some k_ ≠ (v313 : Value).ownBlock)) (HO_6.out) (fun k_ hk => ⟨⟨hk.1.1.1.1, ⟨hk.1.1.1.2, hk.1.1.2⟩⟩, hk.2⟩)))); (case aB => exact z31_); (case aF => exact (fun k_ hk => ⟨(Nat.le_trans (below_size z0_) hk), Kd.fresh' (Kd.R_lt z56_) k_ hk, Kd.fresh' (Kd.R_lt z73_) k_ hk⟩)); (case aO => exact (by (with_reducible repeat (first | apply Kd.N_alloc | apply Kd.N_drewN | apply Kd.N_drew)); exact Kd.N_mono HO314.out (fun _ hk => ⟨hk.1, ⟨hk.2.2.1, hk.2.2.2⟩⟩))); (case aS => exact z42_); (case aL => have := LMc15.out; omega); intro v316 w22 ho hb hg hat; rw [← Ny315.out] at ho; replace HO_6 := Aside0.mk (Kd.N_afterv (ok := (fun k_ => (w.heap.size ≤ k_) ∧ some k_ ≠ (.slice Ao16 x7_1.length co16 : Value).ownBlock ∧ some k_ ≠ (v301 : Value).ownBlock)) (by (with_reducible repeat (first | apply Kd.N_alloc | apply Kd.N_drewN | apply Kd.N_drew)); exact Kd.N_mono HO_6.out (fun _ hk => ⟨⟨hk.1.1.1.1, ⟨hk.1.1.1.2, hk.1.1.2⟩⟩, hk.2⟩)) hg hat); replace HO_7 := Aside0.mk (Kd.R_over' z56_ (Kd.N_typed z153_) (by decide) hg); replace HO302 := Aside0.mk (Kd.R_over' z73_ (Kd.N_typed z153_) (by decide) hg); replace HB := Aside0.mk (hb); have HO317 := Aside0.mk (ho); clear HO314; clear ho hb hg hat))
      go_roundg k1
      case measure => have := HK1.out; omega
      case rel => exact ⟨(y315), (t300), (wrap64 (x8_1 + 1)), z8_, H', ⟨z89_⟩, ⟨by (with_reducible repeat (first | apply Kd.N_alloc | apply Kd.N_drewN | apply Kd.N_drew)); exact Kd.N_mono HO317.out (fun _ hk => ⟨hk.1, hk.2.2⟩)⟩, ⟨by (with_reducible repeat (first | apply Kd.R_alloc | apply Kd.R_drewN | apply Kd.R_drew)); exact Kd.R_mono HO302.out (fun _ hk => hk.1.1)⟩, ⟨z0_⟩⟩
     ·rw [if_neg c13] at H
      have c13b0 : (t303 == 0) = false := beq_eq_false_iff_ne.mpr c13
      have c13b1 : (t303 != 0) = true := bne_iff_ne.mpr c13
      first | ((with_reducible have hz_ := gy_ H); obtain ⟨y318, Ny318, H⟩ := hz_) | (generalize hy_ : ((([] : List (S78))) : List (S78)) = y318 at H; have Ny318 := Aside0.mk hy_.symm; clear hy_)
      simp only [Option.some.injEq, Prod.mk.injEq] at H
      obtain ⟨rfl, rfl⟩ := H
      have p299 : 0 ≤ (x8_1 : Int) := odt_
      have q299 : x8_1 < (l1.length : Int) := odt_
      obtain ⟨ad299, A299_1, c299_1, e299, hx299_0, hx299_1, hx299_2, hx299_3, hx299_4, hl299_1, hi299_1⟩ := at_T78 HR1.out x8_1 p299 q299
      cases e299
      replace hx299_0 := (HB.out.cell (World.block_lt_of_cell? w _ hx299_0)).trans hx299_0
      replace hx299_1 := (HB.out.cell (World.block_lt_of_cell? w _ hx299_1)).trans hx299_1
      replace hx299_2 := (HB.out.cell (World.block_lt_of_cell? w _ hx299_2)).trans hx299_2
      replace hx299_3 := (HB.out.cell (World.block_lt_of_cell? w _ hx299_3)).trans hx299_3
      replace hx299_4 := (HB.out.cell (World.block_lt_of_cell? w _ hx299_4)).trans hx299_4
      have HR299_1 := Aside0.mk hi299_1
      have HC299_1 := Aside0.mk hl299_1
      clear hi299_1 hl299_1
      replace p299 := eq_true p299
      replace q299 := eq_true q299
      obtain ⟨Ao24, co24, eo24⟩ := Kd.R_slice HO_7.out
      subst eo24
      go_wp2_with (first | ((with_reducible refine gate_callee (f := 47) rfl ?_); refine goesL_ (some 30) rfl rfl Try.func47 (by kernel_rfl) rfl #[.slice Ao24 x7_1.length co24, .agg #[.int .i64 ((rd_T78 l1 x8_1).f0), .slice A299_1 ((rd_T78 l1 x8_1).f1).length c299_1, .int .i64 ((rd_T78 l1 x8_1).f2), .int .i64 ((rd_T78 l1 x8_1).f3), .int .i64 ((rd_T78 l1 x8_1).f4)]] rfl z1_ ?_; (with_reducible refine (spec_ApplyOp.calls k1 _ _ x7_1 ((rd_T78 l1 x8_1).f0) _ _ ((rd_T78 l1 x8_1).f1) ((rd_T78 l1 x8_1).f2) ((rd_T78 l1 x8_1).f3) ((rd_T78 l1 x8_1).f4) t300 t303 _ ?side1 ?side2 ?side3 ?side4 A12.out).mono ?_); (case side1 => exact z95_); (case side2 => exact (Kd.R_reads' HO_7.out).2.1); (case side3 => exact z118_); (case side4 => exact HC299_1.out); rintro e w25 ⟨v301, rfl, ho0, hb⟩; refine ⟨_, rfl, ?_⟩; replace HO_6 := Aside0.mk (Kd.N_elder' z74_ (Kd.R_base ho0) hb); have HO302 := Aside0.mk (Kd.R_lower (Kd.R_new' (Kd.R_newM (M := fun k_ => (w.heap.size ≤ k_)) ho0 (below_size z0_) (fun k_ h_ => h_)) (Kd.R_lt z56_)) (below_size z0_)); replace HO_7 := Aside0.mk (Kd.R_elder' z56_ (Kd.R_base ho0) hb); replace HB := Aside0.mk (below_step z0_ hb); (try clear hb ho0)) | ((with_reducible refine gate_dst (N := 35) rfl ?_); refine Kd.N_lit k78 _ 78 ?hg (N' := 35) ?hd (xs := ([] : List (S78))) (inner := []) (ok := (fun k_ => (w.heap.size ≤ k_) ∧ some k_ ≠ (u6 : Value).ownBlock ∧ some k_ ≠ (.slice Ao24 x7_1.length co24 : Value).ownBlock ∧ some k_ ≠ (v301 : Value).ownBlock)) (okp := (fun k_ => (w.heap.size ≤ k_) ∧ some k_ ≠ (u6 : Value).ownBlock ∧ some k_ ≠ (.slice Ao24 x7_1.length co24 : Value).ownBlock ∧ some k_ ≠ (v301 : Value).ownBlock)) ?hr ?hp (fun _ hk => hk) ((show ∀ k_, w25.heap.size ≤ k_ → (fun k_ => (w.heap.size ≤ k_) ∧ some k_ ≠ (u6 : Value).ownBlock ∧ some k_ ≠ (.slice Ao24 x7_1.length co24 : Value).ownBlock ∧ some k_ ≠ (v301 : Value).ownBlock) k_ from fun k_ hk => ⟨(Nat.le_trans (below_size z0_) hk), Kd.fresh' (Kd.N_lt z74_) k_ hk, Kd.fresh' (Kd.R_lt z56_) k_ hk, Kd.fresh' (Kd.R_lt z73_) k_ hk⟩) _ (Nat.le_refl _)) (Below.refl _ _) (Nat.le_refl _) (by simp) ?_; (case hd => rfl); (case hg => rfl); (case hr => exact z10_); (case hp => exact z97_); intro v319 w26 ho27 hb hg_ hnew_; clear hg_ hnew_; (first | rw [← Ny318.out] at ho27 | (simp only [Int.reduceToNat] at ho27; rw [← Ny318.out] at ho27)); replace HO_6 := Aside0.mk (Kd.N_elder' z74_ (Kd.N_base ho27) hb); replace HO_7 := Aside0.mk (Kd.R_below z56_ hb); replace HO302 := Aside0.mk (Kd.R_below z73_ hb); have HO320 := Aside0.mk (Kd.N_lower ho27 (below_size z0_)); replace HB := Aside0.mk (below_step z0_ hb); clear hb ho27))
      go_ret2
      exact ⟨_, z4_, by (with_reducible repeat (first | apply Kd.N_alloc | apply Kd.N_drewN | apply Kd.N_drew)); exact Kd.N_mono HO320.out (fun _ hk => hk.1), z0_⟩
    ·rw [if_neg c10] at H
     have c10b0 := decide_eq_false c10
     clear c10
     simp only [Option.some.injEq, Prod.mk.injEq] at H
     obtain ⟨rfl, rfl⟩ := H
     go_wp2
     go_ret2
     exact ⟨_, z4_, by (with_reducible repeat (first | apply Kd.N_alloc | apply Kd.N_drewN | apply Kd.N_drew)); exact Kd.N_mono HO_6.out (fun _ hk => hk.1), z0_⟩
 ·replace c4 := Bool.eq_false_iff.mpr c4
  subst c4
  replace H := iff_ H
  simp only [Option.some.injEq, Prod.mk.injEq] at H
  obtain ⟨rfl, rfl⟩ := H
  go_enter Try.func27, Try.ntmps27
  go_wp2_with (first | ((with_reducible refine gate_dst (N := 11) rfl ?_); refine Kd.N_lit k78 _ 78 ?hg (N' := 11) ?hd (xs := ([] : List (S78))) (inner := []) (ok := (fun k_ => (w.heap.size ≤ k_))) (okp := (fun k_ => (w.heap.size ≤ k_))) ?hr ?hp (fun _ hk => hk) ((show ∀ k_, w.heap.size ≤ k_ → (fun k_ => (w.heap.size ≤ k_)) k_ from fun k_ hk => (Nat.le_trans (below_size z0_) hk)) _ (Nat.le_refl _)) (Below.refl _ _) (Nat.le_refl _) (by simp) ?_; (case hd => rfl); (case hg => rfl); (case hr => exact z10_); (case hp => exact z97_); intro v293 w28 ho29 hb hg_ hnew_; clear hg_ hnew_; (first | rw [← Ny292.out] at ho29 | (simp only [Int.reduceToNat] at ho29; rw [← Ny292.out] at ho29)); have HO294 := Aside0.mk (Kd.N_lower ho29 (below_size z0_)); replace HB := Aside0.mk (below_step z0_ hb); clear hb ho29) | ((with_reducible refine gate_callee (f := 38) rfl ?_); refine goesL_ (some 13) rfl rfl Try.func38 (by kernel_rfl) rfl #[.slice A0 l0.length c0] rfl z1_ ?_; (with_reducible refine (spec_TreeOk.calls k _ _ l0 false _ ?side1 ?side2 A3.out).mono ?_); (case side1 => exact z2_); (case side2 => exact HC0.out); rintro e w30 ⟨rfl, hb⟩; refine ⟨_, rfl, ?_⟩; replace HO294 := Aside0.mk (Kd.N_below z93_ hb); replace HB := Aside0.mk (below_step z0_ hb); (try clear hb)))
  go_ret2
  exact ⟨_, z4_, z93_, z0_⟩

/-! ### impl_within: function 63 -/
def impl_within.f (a0 : Int) (a1 : Int) (a2 : Int) : Option (Bool) := if a1 ≤ a0 then (some (decide (a0 ≤ a2))) else (some false)
set_option maxHeartbeats 8000000 in
set_option maxRecDepth 100000 in
theorem impl_within.calls (a0 : Int) (a1 : Int) (a2 : Int) (r : Bool) (w : World) (h : impl_within.f a0 a1 a2 = some r) :
  Calls Try.prog 63 #[.int .i64 a0, .int .i64 a1, .int .i64 a2] w fun e w' => e = .returned (.bool r) ∧ Drawn0 w w' := by
 have H : (if a1 ≤ a0 then (some (decide (a0 ≤ a2))) else (some false)) = some r := h
 clear h
 by_cases c4 : a1 ≤ a0
 ·rw [if_pos c4] at H
  have c4b0 := decide_eq_true c4
  clear c4
  obtain rfl := Option.some.inj H
  go_enter Try.func63, Try.ntmps63
  go_wp2
  go_ret
  exact ⟨z8_, z34_⟩
 ·rw [if_neg c4] at H
  have c4b0 := decide_eq_false c4
  clear c4
  obtain rfl := Option.some.inj H
  go_enter Try.func63, Try.ntmps63
  go_wp2
  go_ret
  exact ⟨z8_, z34_⟩

/-! ### impl_LabelOk: function 94 -/
def impl_LabelOk.f (a0 : Int) : Option (Bool) := (impl_within.f a0 0 5).bind fun t321 => (some t321)
set_option maxHeartbeats 8000000 in
set_option maxRecDepth 100000 in
theorem impl_LabelOk.calls (a0 : Int) (r : Bool) (w : World) (h : impl_LabelOk.f a0 = some r) :
  Calls Try.prog 94 #[.int .i64 a0] w fun e w' => e = .returned (.bool r) ∧ Drawn0 w w' := by
 have H : ((impl_within.f a0 0 5).bind fun t321 => (some t321)) = some r := h
 clear h
 obtain ⟨t321, A2, H⟩ := bnd_ H
 obtain rfl := Option.some.inj H
 go_enter Try.func94, Try.ntmps94
 go_wp2_with (first | ((with_reducible refine gate_callee (f := 63) rfl ?_); refine goesL_ (some 4) rfl rfl Try.func63 (by kernel_rfl) rfl #[.int .i64 a0, .int .i64 0, .int .i64 5] rfl z1_ ?_; (with_reducible refine (impl_within.calls a0 0 5 t321 _ A2.out).mono ?_); rintro e w' ⟨rfl, ⟨nd, rfl⟩⟩; refine ⟨_, rfl, ?_⟩))
 go_ret
 exact ⟨z8_, z34_⟩

/-! ### impl_depthOk: function 95 -/
def impl_depthOk.f (l0 : List (S80)) (a1 : Int) : Option (Bool) := if a1 = 0 then (if 0 < (l0.length : Int) then (some (((rd_T80 l0 0).f1) == 0)) else (none)) else (if 0 ≤ a1 then (if a1 < (l0.length : Int) then (if 0 ≤ (wrap64 (a1 - 1)) then (if (wrap64 (a1 - 1)) < (l0.length : Int) then ((impl_within.f ((rd_T80 l0 a1).f1) 1 (wrap64 (((rd_T80 l0 (wrap64 (a1 - 1))).f1) + 1))).bind fun t325 => (some t325)) else (none)) else (none)) else (none)) else (none))
set_option maxHeartbeats 8000000 in
set_option maxRecDepth 100000 in
theorem impl_depthOk.calls (A0 : Option Addr) (c0 : Nat) (l0 : List (S80)) (a1 : Int) (r : Bool) (w : World) (hr0 : Kd.C k80 w A0 l0.length l0) (hc0 : l0.length ≤ c0) (h : impl_depthOk.f l0 a1 = some r) :
  Calls Try.prog 95 #[.slice A0 l0.length c0, .int .i64 a1] w fun e w' => e = .returned (.bool r) ∧ Drawn0 w w' := by
 have HR0 := Aside0.mk hr0
 have HC0 := Aside0.mk hc0
 clear hr0 hc0
 have H : (if a1 = 0 then (if 0 < (l0.length : Int) then (some (((rd_T80 l0 0).f1) == 0)) else (none)) else (if 0 ≤ a1 then (if a1 < (l0.length : Int) then (if 0 ≤ (wrap64 (a1 - 1)) then (if (wrap64 (a1 - 1)) < (l0.length : Int) then ((impl_within.f ((rd_T80 l0 a1).f1) 1 (wrap64 (((rd_T80 l0 (wrap64 (a1 - 1))).f1) + 1))).bind fun t325 => (some t325)) else (none)) else (none)) else (none)) else (none))) = some r := h
 clear h
 by_cases c3 : a1 = 0
 ·rw [if_pos c3] at H
  have c3b0 : (a1 == 0) = true := beq_iff_eq.mpr c3
  have c3b1 : (a1 != 0) = false := bne_eq_false_iff_eq.mpr c3
  clear c3
  obtain ⟨c4, H⟩ := ifs_ H
  have c4b0 := decide_eq_true c4
  have c4b1 : decide (0 < l0.length) = true := decide_eq_true (by omega)
  clear c4
  obtain rfl := Option.some.inj H
  have p322 : 0 ≤ (0 : Int) := (by omega)
  have q322 : 0 < (l0.length : Int) := odt_
  obtain ⟨ad322, e322, hx322_0, hx322_1⟩ := at_T80 HR0.out 0 p322 q322
  cases e322
  have qi322 : (0 < l0.length) = True := eq_true (by omega)
  (try rw [show ((0 : Int)).toNat = 0 from rfl] at hx322_0)
  (try rw [show 0 * 2 = 0 from rfl] at hx322_0)
  (try rw [Addr.add_zero'] at hx322_0)
  (try rw [show ((0 : Int)).toNat = 0 from rfl] at hx322_1)
  (try rw [show 0 * 2 = 0 from rfl] at hx322_1)
  (try rw [Addr.add_zero'] at hx322_1)
  replace p322 := eq_true p322
  replace q322 := eq_true q322
  go_enter Try.func95, Try.ntmps95
  go_wp2
  repeat (go_quiet (fail); try go_wp2)
  go_ret
  exact ⟨z8_, z34_⟩
 ·rw [if_neg c3] at H
  have c3b0 : (a1 == 0) = false := beq_eq_false_iff_ne.mpr c3
  have c3b1 : (a1 != 0) = true := bne_iff_ne.mpr c3
  obtain ⟨c5b0, H⟩ := ifd_ H
  obtain ⟨c6b0, H⟩ := ifd_ H
  obtain ⟨ji7, hji7⟩ : ∃ j_ : Int, (wrap64 (a1 - 1)) = j_ := ⟨_, rfl⟩
  first | rw [hji7] at H | simp only [hji7] at H
  have hji7w : (IntKind.i64.wrap (a1 - 1)) = ji7 := (i64_w _).trans hji7
  obtain ⟨c8b0, H⟩ := ifd_ H
  obtain ⟨c9b0, H⟩ := ifd_ H
  obtain ⟨t325, A10, H⟩ := bnd_ H
  obtain rfl := Option.some.inj H
  obtain ⟨p323, q323, ad323, e323, hx323_0, hx323_1⟩ := ato80_ HR0 a1
  cases e323
  obtain ⟨p324, q324, ad324, e324, hx324_0, hx324_1⟩ := ato80_ HR0 (ji7)
  obtain rfl : ad323 = ad324 := (by injection e324)
  go_enter Try.func95, Try.ntmps95
  go_wp2_with (first | (go_at_call 63; (with_reducible refine (impl_within.calls ((rd_T80 l0 a1).f1) 1 (wrap64 (((rd_T80 l0 (ji7)).f1) + 1)) t325 _ A10.out).mono ?_); rintro e w' ⟨rfl, ⟨nd, rfl⟩⟩; (try first | exact ⟨rfl, _, World.drewN_drewN _ _ _⟩ | exact ⟨rfl, _, Eq.trans (World.drewN_drewN _ _ _) (congrArg (World.drewN _) (Nat.add_assoc _ _ _))⟩)))
  repeat (go_quiet (first | (go_at_call 63; (with_reducible refine (impl_within.calls ((rd_T80 l0 a1).f1) 1 (wrap64 (((rd_T80 l0 (ji7)).f1) + 1)) t325 _ A10.out).mono ?_); rintro e w' ⟨rfl, ⟨nd, rfl⟩⟩; (try first | exact ⟨rfl, _, World.drewN_drewN _ _ _⟩ | exact ⟨rfl, _, Eq.trans (World.drewN_drewN _ _ _) (congrArg (World.drewN _) (Nat.add_assoc _ _ _))⟩))); try go_wp2_with (first | (go_at_call 63; (with_reducible refine (impl_within.calls ((rd_T80 l0 a1).f1) 1 (wrap64 (((rd_T80 l0 (ji7)).f1) + 1)) t325 _ A10.out).mono ?_); rintro e w' ⟨rfl, ⟨nd, rfl⟩⟩; (try first | exact ⟨rfl, _, World.drewN_drewN _ _ _⟩ | exact ⟨rfl, _, Eq.trans (World.drewN_drewN _ _ _) (congrArg (World.drewN _) (Nat.add_assoc _ _ _))⟩))))
  go_ret
  exact ⟨by first | rfl | (simp; done) | (simp only [← hji7] <;> (first | rfl | simp)) | (simp [*]; done), z34_⟩

end Go.Proofs.Ytdapeboajjidmaa.PFnExactInvert
