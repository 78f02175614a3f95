/- Laid by a program of this session out of the kit's print for the law FnExactMedian: what it says of the machine is proved here, function by function; each contract under the conditions that it names. -/
import Derived.Test.YtbmkobanpakohaaMFnExactMedianx0
import Derived.Test.YtbmkobanpakohaaMFnExactMedianx1
import Derived.Test.YtbmkobanpakohaaMFnExactMedianx2
import Derived.Test.YtbmkobanpakohaaMFnExactMedianx3
import Derived.Test.YtbmkobanpakohaaMFnExactMedianx12
import Derived.Test.YtbmkobanpakohaaMFnExactMedianx16
namespace Go.Proofs.Ytbmkobanpakohaa.PFnExactMedian
open Go.RowKit Go.Proofs.YtbmkobanpakohaaW.PrintWords Go.Proofs.YtbmkobanpakohaaW.PrintLast Go.Proofs.YtbmkobanpakohaaW.PrintMore
attribute [local go_sem] max2_int min2_int max_two min_two max_three min_three max_four min_four   -- for this text's walks alone
set_option linter.unusedVariables false
set_option linter.unusedSimpArgs false

/-! ### laws_FnExactMedian: function 5 -/
def laws_FnExactMedian.f (k : Nat) (l0 : List (List (S63))) (l1_0 : List Int) (l1_1 : List Int) (l1_2 : List Int) : Option Bool := (laws_szNodeSS.f k l0 1048576).bind fun q1 => (if q1 < 0 then some true else ((laws_szCost.f l1_0 l1_1 l1_2 q1).bind fun q2 => (if q2 < 0 then some true else ((laws_toNodeSS.f k l0).bind fun sm => ((laws_toCost.f k l1_0 l1_1 l1_2).bind fun bso => ((spec_Median.f k sm bso.1 bso.2.1 bso.2.2).bind fun s1 => ((laws_toNodeSS.f k l0).bind fun gm => ((laws_toCost.f k l1_0 l1_1 l1_2).bind fun bgo => ((impl_Median.f k gm bgo.1 bgo.2.1 bgo.2.2).bind fun i1 => (if i1 = s1 then ((laws_toNodeSS.f k l0).bind fun um => ((laws_eqNodeSS.f k gm um).bind fun r1 => (if r1 = true then ((laws_toCost.f k l1_0 l1_1 l1_2).bind fun buo => ((laws_eqCost.f k bgo.1 bgo.2.1 bgo.2.2 buo.1 buo.2.1 buo.2.2).bind fun r3 => (if r3 = true then some true else none))) else none))) else none))))))))))
def laws_FnExactMedian.T8 : Bool × List (List Nat × List Nat) := (true, [([], []), ([0], [0]), ([], []), ([2, 1], [2]), ([1, 3, 3], [1, 3]), ([4, 4, 0, 1, 2, 3, 4], [4])])
def laws_FnExactMedian.B8 : List Nat := [0, 1, 0, 7, 15, 31]
theorem laws_FnExactMedian.tab8 : rtab .any (opsOf Try.f5 8) = laws_FnExactMedian.T8 := by kernel_rfl
theorem laws_FnExactMedian.bits8 : waitsOk laws_FnExactMedian.T8.2 laws_FnExactMedian.B8 = true := by kernel_rfl
def laws_FnExactMedian.T16 : Bool × List (List Nat × List Nat) := (true, [([], []), ([], []), ([1], [1]), ([0, 2, 2], [0, 2]), ([3], [3])])
def laws_FnExactMedian.B16 : List Nat := [0, 0, 2, 7, 15]
theorem laws_FnExactMedian.tab16 : rtab .any (opsOf Try.f5 16) = laws_FnExactMedian.T16 := by kernel_rfl
theorem laws_FnExactMedian.bits16 : waitsOk laws_FnExactMedian.T16.2 laws_FnExactMedian.B16 = true := by kernel_rfl
set_option maxHeartbeats 8000000 in
set_option maxRecDepth 100000 in
theorem laws_FnExactMedian.calls (k : Nat) (A0 : Option Addr) (c0 : Nat) (l0 : List (List (S63))) (A1_0 : Option Addr) (c1_0 : Nat) (l1_0 : List Int) (A1_1 : Option Addr) (c1_1 : Nat) (l1_1 : List Int) (A1_2 : Option Addr) (c1_2 : Nat) (l1_2 : List Int) (r : Bool) (w : World) (hr0 : Kd.C (Kd.slice 63 k63) w A0 l0.length l0) (hc0 : l0.length ≤ c0) (hr1_0 : Kd.C (Kd.int .i64) w A1_0 l1_0.length l1_0) (hc1_0 : l1_0.length ≤ c1_0) (hr1_1 : Kd.C (Kd.int .i64) w A1_1 l1_1.length l1_1) (hc1_1 : l1_1.length ≤ c1_1) (hr1_2 : Kd.C (Kd.int .i64) w A1_2 l1_2.length l1_2) (hc1_2 : l1_2.length ≤ c1_2) (h : laws_FnExactMedian.f k l0 l1_0 l1_1 l1_2 = some r) :
  Calls Try.prog 5 #[.slice A0 l0.length c0, .agg #[.slice A1_0 l1_0.length c1_0, .slice A1_1 l1_1.length c1_1, .slice A1_2 l1_2.length c1_2]] w fun e w' => e = .returned (.bool r) ∧ Below w.heap.size w w' := by
 have HR0 := Aside0.mk hr0
 have HC0 := Aside0.mk hc0
 clear hr0 hc0
 have HR1_0 := Aside0.mk hr1_0
 have HC1_0 := Aside0.mk hc1_0
 clear hr1_0 hc1_0
 have HR1_1 := Aside0.mk hr1_1
 have HC1_1 := Aside0.mk hc1_1
 clear hr1_1 hc1_1
 have HR1_2 := Aside0.mk hr1_2
 have HC1_2 := Aside0.mk hc1_2
 clear hr1_2 hc1_2
 have hu32 := Try.underlying32
 have hu38 := Try.underlying38
 have H := h
 clear h
 unfold laws_FnExactMedian.f at H
 obtain ⟨q1, T1, H⟩ := bnd_ H
 by_cases p1 : q1 < 0
 ·rw [if_pos p1] at H
  obtain rfl := Option.some.inj H
  have pd1 : decide (q1 < 0) = true := decide_eq_true p1
  clear p1
  go_enter Try.func5, Try.ntmps5
  go_wp2_with (first | ((with_reducible refine gate_dst (N := 3) rfl ?_); refine box_event ?hg (N := 3) ?hd (cs := #[.slice A1_0 l1_0.length c1_0, .slice A1_1 l1_1.length c1_1, .slice A1_2 l1_2.length c1_2]) (t := 32) ?hr ?_; (case hd => rfl); (case hg => rfl); (case hr => exact z9_); intro g5 hg x1_ hbox hb; have b1 : Aside0 (Below w.heap.size w x1_) := ⟨hb⟩; have BK5 := Aside0.mk hbox; clear hb hbox hg) | ((with_reducible refine gate_dst (N := 12) rfl ?_); refine goesL_ (some 12) rfl rfl Try.func14 (by kernel_rfl) rfl #[.slice A0 l0.length c0, .int .i64 1048576] rfl z82_ ?_; refine (laws_szNodeSS.calls k _ _ l0 1048576 q1 _ (Kd.C_below HR0.out b1.out) HC0.out T1.out).mono ?_; rintro e x2_ ⟨rfl, ⟨nd, hnd⟩⟩; refine ⟨_, rfl, ?_⟩; have b2 : Aside0 (Below x1_.heap.size x1_ x2_) := ⟨z231_⟩; clear hnd; have hq5_0 : x2_.cell? ⟨g5, 0, none⟩ = some (.slice A1_0 l1_0.length c1_0) := (blk_cell (blk_below BK5.out b2.out) 0).trans rfl; have hq5_1 : x2_.cell? ⟨g5, 1, none⟩ = some (.slice A1_1 l1_1.length c1_1) := (blk_cell (blk_below BK5.out b2.out) 1).trans rfl; have hq5_2 : x2_.cell? ⟨g5, 2, none⟩ = some (.slice A1_2 l1_2.length c1_2) := (blk_cell (blk_below BK5.out b2.out) 2).trans rfl))
  go_ret
  exact ⟨rfl, (below_step b1.out b2.out)⟩
 rw [if_neg p1] at H
 have pd1 : decide (q1 < 0) = false := decide_eq_false p1
 clear p1
 obtain ⟨q2, T2, H⟩ := bnd_ H
 by_cases p2 : q2 < 0
 ·rw [if_pos p2] at H
  obtain rfl := Option.some.inj H
  have pd2 : decide (q2 < 0) = true := decide_eq_true p2
  clear p2
  go_enter Try.func5, Try.ntmps5
  go_wp2_with (first | ((with_reducible refine gate_dst (N := 3) rfl ?_); refine box_event ?hg (N := 3) ?hd (cs := #[.slice A1_0 l1_0.length c1_0, .slice A1_1 l1_1.length c1_1, .slice A1_2 l1_2.length c1_2]) (t := 32) ?hr ?_; (case hd => rfl); (case hg => rfl); (case hr => exact z9_); intro g5 hg x1_ hbox hb; have b1 : Aside0 (Below w.heap.size w x1_) := ⟨hb⟩; have BK5 := Aside0.mk hbox; clear hb hbox hg) | ((with_reducible refine gate_dst (N := 12) rfl ?_); refine goesL_ (some 12) rfl rfl Try.func14 (by kernel_rfl) rfl #[.slice A0 l0.length c0, .int .i64 1048576] rfl z82_ ?_; refine (laws_szNodeSS.calls k _ _ l0 1048576 q1 _ (Kd.C_below HR0.out b1.out) HC0.out T1.out).mono ?_; rintro e x2_ ⟨rfl, ⟨nd, hnd⟩⟩; refine ⟨_, rfl, ?_⟩; have b2 : Aside0 (Below x1_.heap.size x1_ x2_) := ⟨z231_⟩; clear hnd; have hq5_0 : x2_.cell? ⟨g5, 0, none⟩ = some (.slice A1_0 l1_0.length c1_0) := (blk_cell (blk_below BK5.out b2.out) 0).trans rfl; have hq5_1 : x2_.cell? ⟨g5, 1, none⟩ = some (.slice A1_1 l1_1.length c1_1) := (blk_cell (blk_below BK5.out b2.out) 1).trans rfl; have hq5_2 : x2_.cell? ⟨g5, 2, none⟩ = some (.slice A1_2 l1_2.length c1_2) := (blk_cell (blk_below BK5.out b2.out) 2).trans rfl) | ((with_reducible refine gate_dst (N := 17) rfl ?_); refine goesL_ (some 17) rfl rfl Try.func15 (by kernel_rfl) rfl #[.agg #[.slice A1_0 l1_0.length c1_0, .slice A1_1 l1_1.length c1_1, .slice A1_2 l1_2.length c1_2], .int .i64 q1] rfl z82_ ?_; refine (laws_szCost.calls _ _ l1_0 _ _ l1_1 _ _ l1_2 q1 q2 _ (Kd.C_below HR1_0.out (below_step b1.out b2.out)) HC1_0.out (Kd.C_below HR1_1.out (below_step b1.out b2.out)) HC1_1.out (Kd.C_below HR1_2.out (below_step b1.out b2.out)) HC1_2.out T2.out).mono ?_; rintro e x3_ ⟨rfl, hb⟩; refine ⟨_, rfl, ?_⟩; have b3 : Aside0 (Below x2_.heap.size x2_ x3_) := ⟨hb⟩; clear hb))
  go_ret
  exact ⟨rfl, (below_step (below_step b1.out b2.out) b3.out)⟩
 rw [if_neg p2] at H
 have pd2 : decide (q2 < 0) = false := decide_eq_false p2
 clear p2
 obtain ⟨sm, Fsm, H⟩ := bnd_ H
 obtain ⟨⟨so1, so2, so3⟩, Fso, H⟩ := bnd_ H
 dsimp only at H
 obtain ⟨s1, Fs1, H⟩ := bnd_ H
 obtain ⟨gm, Fgm, H⟩ := bnd_ H
 obtain ⟨⟨go1, go2, go3⟩, Fgo, H⟩ := bnd_ H
 dsimp only at H
 obtain ⟨i1, Fi1, H⟩ := bnd_ H
 by_cases pi : i1 = s1
 rotate_left
 ·rw [if_neg pi] at H; cases H
 rw [if_pos pi] at H
 rw [pi] at Fi1
 clear pi
 obtain ⟨um, Fum, H⟩ := bnd_ H
 obtain ⟨r1, Fr1, H⟩ := bnd_ H
 by_cases pr1 : r1 = true
 rotate_left
 ·rw [if_neg pr1] at H; cases H
 rw [if_pos pr1] at H
 rw [pr1] at Fr1
 clear pr1
 obtain ⟨⟨uo1, uo2, uo3⟩, Fuo, H⟩ := bnd_ H
 dsimp only at H
 obtain ⟨r3, Fr3, H⟩ := bnd_ H
 by_cases pr3 : r3 = true
 rotate_left
 ·rw [if_neg pr3] at H; cases H
 rw [if_pos pr3] at H
 rw [pr3] at Fr3
 clear pr3
 obtain rfl := Option.some.inj H
 go_enter Try.func5, Try.ntmps5
 go_upto_region 8 with (first | ((with_reducible refine gate_dst (N := 3) rfl ?_); refine box_event ?hg (N := 3) ?hd (cs := #[.slice A1_0 l1_0.length c1_0, .slice A1_1 l1_1.length c1_1, .slice A1_2 l1_2.length c1_2]) (t := 32) ?hr ?_; (case hd => rfl); (case hg => rfl); (case hr => exact z9_); intro g5 hg x1_ hbox hb; have b1 : Aside0 (Below w.heap.size w x1_) := ⟨hb⟩; have BK5 := Aside0.mk hbox; clear hb hbox hg) | ((with_reducible refine gate_dst (N := 12) rfl ?_); refine goesL_ (some 12) rfl rfl Try.func14 (by kernel_rfl) rfl #[.slice A0 l0.length c0, .int .i64 1048576] rfl z82_ ?_; refine (laws_szNodeSS.calls k _ _ l0 1048576 q1 _ (Kd.C_below HR0.out b1.out) HC0.out T1.out).mono ?_; rintro e x2_ ⟨rfl, ⟨nd, hnd⟩⟩; refine ⟨_, rfl, ?_⟩; have b2 : Aside0 (Below x1_.heap.size x1_ x2_) := ⟨z231_⟩; clear hnd; have hq5_0 : x2_.cell? ⟨g5, 0, none⟩ = some (.slice A1_0 l1_0.length c1_0) := (blk_cell (blk_below BK5.out b2.out) 0).trans rfl; have hq5_1 : x2_.cell? ⟨g5, 1, none⟩ = some (.slice A1_1 l1_1.length c1_1) := (blk_cell (blk_below BK5.out b2.out) 1).trans rfl; have hq5_2 : x2_.cell? ⟨g5, 2, none⟩ = some (.slice A1_2 l1_2.length c1_2) := (blk_cell (blk_below BK5.out b2.out) 2).trans rfl) | ((with_reducible refine gate_dst (N := 17) rfl ?_); refine goesL_ (some 17) rfl rfl Try.func15 (by kernel_rfl) rfl #[.agg #[.slice A1_0 l1_0.length c1_0, .slice A1_1 l1_1.length c1_1, .slice A1_2 l1_2.length c1_2], .int .i64 q1] rfl z82_ ?_; refine (laws_szCost.calls _ _ l1_0 _ _ l1_1 _ _ l1_2 q1 q2 _ (Kd.C_below HR1_0.out (below_step b1.out b2.out)) HC1_0.out (Kd.C_below HR1_1.out (below_step b1.out b2.out)) HC1_1.out (Kd.C_below HR1_2.out (below_step b1.out b2.out)) HC1_2.out T2.out).mono ?_; rintro e x3_ ⟨rfl, hb⟩; refine ⟨_, rfl, ?_⟩; have b3 : Aside0 (Below x2_.heap.size x2_ x3_) := ⟨hb⟩; clear hb))
 have b4 : Aside0 (Below x3_.heap.size x3_ x3_.drew) := ⟨below_drew1 (Below.refl _ _)⟩
 refine start_ (n := 6) (S := fun w' => w'.cell? ⟨g5, 0, none⟩ = some (.slice A1_0 l1_0.length c1_0) ∧ w'.cell? ⟨g5, 1, none⟩ = some (.slice A1_1 l1_1.length c1_1) ∧ w'.cell? ⟨g5, 2, none⟩ = some (.slice A1_2 l1_2.length c1_2)) (ds := []) (fl_ 6 0) (by kernel_rfl) rfl (fl_zero _) ⟨(blk_cell (blk_below BK5.out (below_step (below_step b2.out b3.out) b4.out)) 0).trans rfl, (blk_cell (blk_below BK5.out (below_step (below_step b2.out b3.out) b4.out)) 1).trans rfl, (blk_cell (blk_below BK5.out (below_step (below_step b2.out b3.out) b4.out)) 2).trans rfl⟩ (fun hHeld => ?_)
 refine with_tabW laws_FnExactMedian.tab8 laws_FnExactMedian.bits8 (fun HT_ HW_ => ?_)
 refine zp_ HT_ rfl rfl (by kernel_rfl) (fun _ _ _ h => h) (by rfl) ?_
 refine ztg_ (i := 2) (ra_ [1, 1, 1, 3]) HT_ HW_ rfl rfl (by kernel_rfl) (fun _ _ _ h => h) (by rfl) hHeld ?_ (by rintro w' ⟨s0, s1, s2⟩; go_simp; with_reducible rfl)
 refine one_ (i := 1) (N := some 21) (fl_ 6 3) rfl rfl (one_of HT_.out (by kernel_rfl)) (by decide) (fun K hK => ?_)
 refine goes_ Try.func17 (by kernel_rfl) rfl #[.slice A0 l0.length c0] (by rfl) rfl rfl z111_ ?_
 refine (laws_toNodeSS.calls k _ _ l0 sm _ (Kd.C_below HR0.out (below_step (below_step (below_step b1.out b2.out) b3.out) b4.out)) HC0.out Fsm.out).mono ?_
 rintro e x5_ ⟨vsm, rfl, ho0, hb⟩
 refine ⟨_, rfl, ?_⟩
 have b5 : Aside0 (Below x3_.drew.heap.size x3_.drew x5_) := ⟨hb⟩
 clear hb
 obtain ⟨Asm, csm, esm⟩ := Kd.S_slice ho0
 subst esm
 have HRsm := Aside0.mk (Kd.R_reads' (Kd.S_R ho0)).2.2
 have HCsm := Aside0.mk (Kd.R_reads' (Kd.S_R ho0)).2.1
 clear ho0
 refine hK.out _ _ ⟨(blk_cell (blk_below BK5.out (below_step (below_step (below_step b2.out b3.out) b4.out) b5.out)) 0).trans rfl, (blk_cell (blk_below BK5.out (below_step (below_step (below_step b2.out b3.out) b4.out) b5.out)) 1).trans rfl, (blk_cell (blk_below BK5.out (below_step (below_step (below_step b2.out b3.out) b4.out) b5.out)) 2).trans rfl⟩ (fun hHeld => ?_)
 clear hK K
 refine zn_ rfl ?_
 refine one_ (i := 3) (N := some 23) (fl_ 6 4) rfl rfl (one_of HT_.out (by kernel_rfl)) (by decide) (fun K hK => ?_)
 refine goes_ Try.func18 (by kernel_rfl) rfl #[.agg #[.slice A1_0 l1_0.length c1_0, .slice A1_1 l1_1.length c1_1, .slice A1_2 l1_2.length c1_2]] (by rfl) rfl rfl z111_ ?_
 refine (laws_toCost.calls k _ _ l1_0 _ _ l1_1 _ _ l1_2 so1 so2 so3 _ (Kd.C_below HR1_0.out (below_step (below_step (below_step (below_step b1.out b2.out) b3.out) b4.out) b5.out)) HC1_0.out (Kd.C_below HR1_1.out (below_step (below_step (below_step (below_step b1.out b2.out) b3.out) b4.out) b5.out)) HC1_1.out (Kd.C_below HR1_2.out (below_step (below_step (below_step (below_step b1.out b2.out) b3.out) b4.out) b5.out)) HC1_2.out Fso.out).mono ?_
 rintro e x6_ ⟨vso1, vso2, vso3, rfl, ho0, ho1, ho2, hb⟩
 refine ⟨_, rfl, ?_⟩
 have b6 : Aside0 (Below x5_.heap.size x5_ x6_) := ⟨hb⟩
 clear hb
 obtain ⟨Aso1, cso1, eso1⟩ := Kd.R_slice ho0
 subst eso1
 have HRso1 := Aside0.mk (Kd.R_reads' ho0).2.2
 have HCso1 := Aside0.mk (Kd.R_reads' ho0).2.1
 obtain ⟨Aso2, cso2, eso2⟩ := Kd.R_slice ho1
 subst eso2
 have HRso2 := Aside0.mk (Kd.R_reads' ho1).2.2
 have HCso2 := Aside0.mk (Kd.R_reads' ho1).2.1
 obtain ⟨Aso3, cso3, eso3⟩ := Kd.R_slice ho2
 subst eso3
 have HRso3 := Aside0.mk (Kd.R_reads' ho2).2.2
 have HCso3 := Aside0.mk (Kd.R_reads' ho2).2.1
 clear ho0 ho1 ho2
 refine hK.out _ _ ⟨(blk_cell (blk_below BK5.out (below_step (below_step (below_step (below_step b2.out b3.out) b4.out) b5.out) b6.out)) 0).trans rfl, (blk_cell (blk_below BK5.out (below_step (below_step (below_step (below_step b2.out b3.out) b4.out) b5.out) b6.out)) 1).trans rfl, (blk_cell (blk_below BK5.out (below_step (below_step (below_step (below_step b2.out b3.out) b4.out) b5.out) b6.out)) 2).trans rfl⟩ (fun hHeld => ?_)
 clear hK K
 refine zn_ rfl ?_
 refine one_ (i := 4) (N := some 24) (fl_ 6 5) rfl rfl (one_of HT_.out (by kernel_rfl)) (by decide) (fun K hK => ?_)
 refine goes_ Try.func22 (by kernel_rfl) rfl #[.slice Asm sm.length csm, .agg #[.slice Aso1 so1.length cso1, .slice Aso2 so2.length cso2, .slice Aso3 so3.length cso3]] (by rfl) rfl rfl z111_ ?_
 refine (spec_Median.calls k _ _ sm _ _ so1 _ _ so2 _ _ so3 s1 _ (Kd.C_below HRsm.out b6.out) HCsm.out HRso1.out HCso1.out HRso2.out HCso2.out HRso3.out HCso3.out Fs1.out).mono ?_
 rintro e x7_ ⟨rfl, hb⟩
 refine ⟨_, rfl, ?_⟩
 have b7 : Aside0 (Below x6_.heap.size x6_ x7_) := ⟨hb⟩
 clear hb
 refine hK.out _ _ ⟨(blk_cell (blk_below BK5.out (below_step (below_step (below_step (below_step (below_step b2.out b3.out) b4.out) b5.out) b6.out) b7.out)) 0).trans rfl, (blk_cell (blk_below BK5.out (below_step (below_step (below_step (below_step (below_step b2.out b3.out) b4.out) b5.out) b6.out) b7.out)) 1).trans rfl, (blk_cell (blk_below BK5.out (below_step (below_step (below_step (below_step (below_step b2.out b3.out) b4.out) b5.out) b6.out) b7.out)) 2).trans rfl⟩ (fun hHeld => ?_)
 clear hK K
 refine zn_ rfl ?_
 refine zp_ HT_ rfl rfl (by kernel_rfl) (fun _ _ _ h => h) (by rfl) ?_
 refine done_ (done_of HT_.out (by kernel_rfl)) ?_
 go_upto_region 11 with (first | ((with_reducible refine gate_dst (N := 26) rfl ?_); refine goesL_ (some 26) rfl rfl Try.func17 (by kernel_rfl) rfl #[.slice A0 l0.length c0] rfl z82_ ?_; refine (laws_toNodeSS.calls k _ _ l0 gm _ (Kd.C_below HR0.out (below_step (below_step (below_step (below_step (below_step (below_step b1.out b2.out) b3.out) b4.out) b5.out) b6.out) b7.out)) HC0.out Fgm.out).mono ?_; rintro e x8_ ⟨vgm, rfl, ho0, hb⟩; refine ⟨_, rfl, ?_⟩; have b8 : Aside0 (Below x7_.heap.size x7_ x8_) := ⟨hb⟩; clear hb; obtain ⟨Agm, cgm, egm⟩ := Kd.S_slice ho0; subst egm; have HRgm := Aside0.mk (Kd.R_reads' (Kd.S_R ho0)).2.2; have HCgm := Aside0.mk (Kd.R_reads' (Kd.S_R ho0)).2.1; clear ho0; have hq6_0 : x8_.cell? ⟨g5, 0, none⟩ = some (.slice A1_0 l1_0.length c1_0) := (blk_cell (blk_below BK5.out (below_step (below_step (below_step (below_step (below_step (below_step b2.out b3.out) b4.out) b5.out) b6.out) b7.out) b8.out)) 0).trans rfl; have hq6_1 : x8_.cell? ⟨g5, 1, none⟩ = some (.slice A1_1 l1_1.length c1_1) := (blk_cell (blk_below BK5.out (below_step (below_step (below_step (below_step (below_step (below_step b2.out b3.out) b4.out) b5.out) b6.out) b7.out) b8.out)) 1).trans rfl; have hq6_2 : x8_.cell? ⟨g5, 2, none⟩ = some (.slice A1_2 l1_2.length c1_2) := (blk_cell (blk_below BK5.out (below_step (below_step (below_step (below_step (below_step (below_step b2.out b3.out) b4.out) b5.out) b6.out) b7.out) b8.out)) 2).trans rfl) | ((with_reducible refine gate_dst (N := 28) rfl ?_); refine goesL_ (some 28) rfl rfl Try.func18 (by kernel_rfl) rfl #[.agg #[.slice A1_0 l1_0.length c1_0, .slice A1_1 l1_1.length c1_1, .slice A1_2 l1_2.length c1_2]] rfl z82_ ?_; refine (laws_toCost.calls k _ _ l1_0 _ _ l1_1 _ _ l1_2 go1 go2 go3 _ (Kd.C_below HR1_0.out (below_step (below_step (below_step (below_step (below_step (below_step (below_step b1.out b2.out) b3.out) b4.out) b5.out) b6.out) b7.out) b8.out)) HC1_0.out (Kd.C_below HR1_1.out (below_step (below_step (below_step (below_step (below_step (below_step (below_step b1.out b2.out) b3.out) b4.out) b5.out) b6.out) b7.out) b8.out)) HC1_1.out (Kd.C_below HR1_2.out (below_step (below_step (below_step (below_step (below_step (below_step (below_step b1.out b2.out) b3.out) b4.out) b5.out) b6.out) b7.out) b8.out)) HC1_2.out Fgo.out).mono ?_; rintro e x9_ ⟨vgo1, vgo2, vgo3, rfl, ho0, ho1, ho2, hb⟩; refine ⟨_, rfl, ?_⟩; have b9 : Aside0 (Below x8_.heap.size x8_ x9_) := ⟨hb⟩; clear hb; obtain ⟨Ago1, cgo1, ego1⟩ := Kd.R_slice ho0; subst ego1; have HRgo1 := Aside0.mk (Kd.R_reads' ho0).2.2; have HCgo1 := Aside0.mk (Kd.R_reads' ho0).2.1; obtain ⟨Ago2, cgo2, ego2⟩ := Kd.R_slice ho1; subst ego2; have HRgo2 := Aside0.mk (Kd.R_reads' ho1).2.2; have HCgo2 := Aside0.mk (Kd.R_reads' ho1).2.1; obtain ⟨Ago3, cgo3, ego3⟩ := Kd.R_slice ho2; subst ego3; have HRgo3 := Aside0.mk (Kd.R_reads' ho2).2.2; have HCgo3 := Aside0.mk (Kd.R_reads' ho2).2.1; clear ho0 ho1 ho2) | ((with_reducible refine gate_dst (N := 8) rfl ?_); refine box_event ?hg (N := 8) ?hd (cs := #[.slice none 0 0, .slice none 0 0, .slice none 0 0]) (t := 38) ?hr ?_; (case hd => rfl); (case hg => rfl); (case hr => exact z9_); intro gb hg y10_ hbox hb; have HG := Aside0.mk (Nat.le_of_eq hg.symm : x9_.heap.size ≤ gb); have hby := Aside0.mk hb; have BKy := Aside0.mk hbox; clear hb hbox hg; have hcy_0 : y10_.cell? ⟨gb, 0, none⟩ = some (.slice none 0 0) := (blk_cell BKy.out 0).trans rfl; have hfy_0 := blk_frozen BKy.out 0; have hcy_1 : y10_.cell? ⟨gb, 1, none⟩ = some (.slice none 0 0) := (blk_cell BKy.out 1).trans rfl; have hfy_1 := blk_frozen BKy.out 1; have hcy_2 : y10_.cell? ⟨gb, 2, none⟩ = some (.slice none 0 0) := (blk_cell BKy.out 2).trans rfl; have hfy_2 := blk_frozen BKy.out 2))
 have BKb : Aside0 ((((y10_.setCell ⟨gb, 0, none⟩ (.slice Ago1 go1.length cgo1)).setCell ⟨gb, 1, none⟩ (.slice Ago2 go2.length cgo2)).setCell ⟨gb, 2, none⟩ (.slice Ago3 go3.length cgo3)).heap[gb]? = some (.cells #[.slice Ago1 go1.length cgo1, .slice Ago2 go2.length cgo2, .slice Ago3 go3.length cgo3] 38 (0, 0))) := ⟨(blk_put (blk_put (blk_put BKy.out 0 (.slice Ago1 go1.length cgo1) rfl) 1 (.slice Ago2 go2.length cgo2) rfl) 2 (.slice Ago3 go3.length cgo3) rfl)⟩
 have b10 : Aside0 (Below x9_.heap.size x9_ (((y10_.setCell ⟨gb, 0, none⟩ (.slice Ago1 go1.length cgo1)).setCell ⟨gb, 1, none⟩ (.slice Ago2 go2.length cgo2)).setCell ⟨gb, 2, none⟩ (.slice Ago3 go3.length cgo3))) := ⟨(below_set (below_set (below_set hby.out HG.out) HG.out) HG.out)⟩
 clear hcy_0 hfy_0 hcy_1 hfy_1 hcy_2 hfy_2
 obtain ⟨x10_, hws⟩ : ∃ ws_, ws_ = (((y10_.setCell ⟨gb, 0, none⟩ (.slice Ago1 go1.length cgo1)).setCell ⟨gb, 1, none⟩ (.slice Ago2 go2.length cgo2)).setCell ⟨gb, 2, none⟩ (.slice Ago3 go3.length cgo3)) := ⟨_, rfl⟩
 rw [← hws] at BKb b10
 (first | rw [← hws] | simp only [← hws])
 clear hws
 have hz_0 : x10_.cell? ⟨gb, 0, none⟩ = some (.slice Ago1 go1.length cgo1) := (blk_cell BKb.out 0).trans rfl
 have hz_1 : x10_.cell? ⟨gb, 1, none⟩ = some (.slice Ago2 go2.length cgo2) := (blk_cell BKb.out 1).trans rfl
 have hz_2 : x10_.cell? ⟨gb, 2, none⟩ = some (.slice Ago3 go3.length cgo3) := (blk_cell BKb.out 2).trans rfl
 go_upto_region 16 with (first | ((with_reducible refine gate_dst (N := 31) rfl ?_); refine goesL_ (some 31) rfl rfl Try.func23 (by kernel_rfl) rfl #[.slice Agm gm.length cgm, .agg #[.slice Ago1 go1.length cgo1, .slice Ago2 go2.length cgo2, .slice Ago3 go3.length cgo3]] rfl z82_ ?_; refine (impl_Median.calls k _ _ gm _ _ go1 _ _ go2 _ _ go3 s1 _ (Kd.C_below HRgm.out (below_step b9.out b10.out)) HCgm.out (Kd.C_below HRgo1.out b10.out) HCgo1.out (Kd.C_below HRgo2.out b10.out) HCgo2.out (Kd.C_below HRgo3.out b10.out) HCgo3.out Fi1.out).mono ?_; rintro e x11_ ⟨rfl, hb⟩; refine ⟨_, rfl, ?_⟩; have b11 : Aside0 (Below x10_.heap.size x10_ x11_) := ⟨hb⟩; clear hb) | ((with_reducible refine gate_dst (N := 37) rfl ?_); refine goesL_ (some 37) rfl rfl Try.func17 (by kernel_rfl) rfl #[.slice A0 l0.length c0] rfl z82_ ?_; refine (laws_toNodeSS.calls k _ _ l0 um _ (Kd.C_below HR0.out (below_step (below_step (below_step (below_step (below_step (below_step (below_step (below_step (below_step (below_step b1.out b2.out) b3.out) b4.out) b5.out) b6.out) b7.out) b8.out) b9.out) b10.out) b11.out)) HC0.out Fum.out).mono ?_; rintro e x12_ ⟨vum, rfl, ho0, hb⟩; refine ⟨_, rfl, ?_⟩; have b12 : Aside0 (Below x11_.heap.size x11_ x12_) := ⟨hb⟩; clear hb; obtain ⟨Aum, cum, eum⟩ := Kd.S_slice ho0; subst eum; have HRum := Aside0.mk (Kd.R_reads' (Kd.S_R ho0)).2.2; have HCum := Aside0.mk (Kd.R_reads' (Kd.S_R ho0)).2.1; clear ho0) | ((with_reducible refine gate_dst (N := 38) rfl ?_); refine goesL_ (some 38) rfl rfl Try.func20 (by kernel_rfl) rfl #[.slice Agm gm.length cgm, .slice Aum um.length cum] rfl z82_ ?_; refine (laws_eqNodeSS.calls k _ _ gm _ _ um true _ (Kd.C_below HRgm.out (below_step (below_step (below_step b9.out b10.out) b11.out) b12.out)) HCgm.out HRum.out HCum.out Fr1.out).mono ?_; rintro e x13_ ⟨rfl, hb⟩; refine ⟨_, rfl, ?_⟩; have b13 : Aside0 (Below x12_.heap.size x12_ x13_) := ⟨hb⟩; clear hb))
 have b14 : Aside0 (Below x13_.heap.size x13_ x13_.drew) := ⟨below_drew1 (Below.refl _ _)⟩
 refine start_ (n := 5) (S := fun w' => w'.cell? ⟨g5, 0, none⟩ = some (.slice A1_0 l1_0.length c1_0) ∧ w'.cell? ⟨g5, 1, none⟩ = some (.slice A1_1 l1_1.length c1_1) ∧ w'.cell? ⟨g5, 2, none⟩ = some (.slice A1_2 l1_2.length c1_2) ∧ w'.cell? ⟨gb, 0, none⟩ = some (.slice Ago1 go1.length cgo1) ∧ w'.cell? ⟨gb, 1, none⟩ = some (.slice Ago2 go2.length cgo2) ∧ w'.cell? ⟨gb, 2, none⟩ = some (.slice Ago3 go3.length cgo3)) (ds := []) (fl_ 5 0) (by kernel_rfl) rfl (fl_zero _) ⟨(blk_cell (blk_below BK5.out (below_step (below_step (below_step (below_step (below_step (below_step (below_step (below_step (below_step (below_step (below_step (below_step b2.out b3.out) b4.out) b5.out) b6.out) b7.out) b8.out) b9.out) b10.out) b11.out) b12.out) b13.out) b14.out)) 0).trans rfl, (blk_cell (blk_below BK5.out (below_step (below_step (below_step (below_step (below_step (below_step (below_step (below_step (below_step (below_step (below_step (below_step b2.out b3.out) b4.out) b5.out) b6.out) b7.out) b8.out) b9.out) b10.out) b11.out) b12.out) b13.out) b14.out)) 1).trans rfl, (blk_cell (blk_below BK5.out (below_step (below_step (below_step (below_step (below_step (below_step (below_step (below_step (below_step (below_step (below_step (below_step b2.out b3.out) b4.out) b5.out) b6.out) b7.out) b8.out) b9.out) b10.out) b11.out) b12.out) b13.out) b14.out)) 2).trans rfl, (blk_cell (blk_below BKb.out (below_step (below_step (below_step b11.out b12.out) b13.out) b14.out)) 0).trans rfl, (blk_cell (blk_below BKb.out (below_step (below_step (below_step b11.out b12.out) b13.out) b14.out)) 1).trans rfl, (blk_cell (blk_below BKb.out (below_step (below_step (below_step b11.out b12.out) b13.out) b14.out)) 2).trans rfl⟩ (fun hHeld => ?_)
 refine with_tabW laws_FnExactMedian.tab16 laws_FnExactMedian.bits16 (fun HT_ HW_ => ?_)
 iterate 2 refine zt_ HT_ HW_ rfl rfl (by kernel_rfl) (fun _ _ _ h => h) (by rfl) hHeld ?_ z88_
 refine one_ (i := 2) (N := some 42) (fl_ 5 3) rfl rfl (one_of HT_.out (by kernel_rfl)) (by decide) (fun K hK => ?_)
 refine goes_ Try.func18 (by kernel_rfl) rfl #[.agg #[.slice A1_0 l1_0.length c1_0, .slice A1_1 l1_1.length c1_1, .slice A1_2 l1_2.length c1_2]] (by rfl) rfl rfl z111_ ?_
 refine (laws_toCost.calls k _ _ l1_0 _ _ l1_1 _ _ l1_2 uo1 uo2 uo3 _ (Kd.C_below HR1_0.out (below_step (below_step (below_step (below_step (below_step (below_step (below_step (below_step (below_step (below_step (below_step (below_step (below_step b1.out b2.out) b3.out) b4.out) b5.out) b6.out) b7.out) b8.out) b9.out) b10.out) b11.out) b12.out) b13.out) b14.out)) HC1_0.out (Kd.C_below HR1_1.out (below_step (below_step (below_step (below_step (below_step (below_step (below_step (below_step (below_step (below_step (below_step (below_step (below_step b1.out b2.out) b3.out) b4.out) b5.out) b6.out) b7.out) b8.out) b9.out) b10.out) b11.out) b12.out) b13.out) b14.out)) HC1_1.out (Kd.C_below HR1_2.out (below_step (below_step (below_step (below_step (below_step (below_step (below_step (below_step (below_step (below_step (below_step (below_step (below_step b1.out b2.out) b3.out) b4.out) b5.out) b6.out) b7.out) b8.out) b9.out) b10.out) b11.out) b12.out) b13.out) b14.out)) HC1_2.out Fuo.out).mono ?_
 rintro e x15_ ⟨vuo1, vuo2, vuo3, rfl, ho0, ho1, ho2, hb⟩
 refine ⟨_, rfl, ?_⟩
 have b15 : Aside0 (Below x13_.drew.heap.size x13_.drew x15_) := ⟨hb⟩
 clear hb
 obtain ⟨Auo1, cuo1, euo1⟩ := Kd.R_slice ho0
 subst euo1
 have HRuo1 := Aside0.mk (Kd.R_reads' ho0).2.2
 have HCuo1 := Aside0.mk (Kd.R_reads' ho0).2.1
 obtain ⟨Auo2, cuo2, euo2⟩ := Kd.R_slice ho1
 subst euo2
 have HRuo2 := Aside0.mk (Kd.R_reads' ho1).2.2
 have HCuo2 := Aside0.mk (Kd.R_reads' ho1).2.1
 obtain ⟨Auo3, cuo3, euo3⟩ := Kd.R_slice ho2
 subst euo3
 have HRuo3 := Aside0.mk (Kd.R_reads' ho2).2.2
 have HCuo3 := Aside0.mk (Kd.R_reads' ho2).2.1
 clear ho0 ho1 ho2
 refine hK.out _ _ ⟨(blk_cell (blk_below BK5.out (below_step (below_step (below_step (below_step (below_step (below_step (below_step (below_step (below_step (below_step (below_step (below_step (below_step b2.out b3.out) b4.out) b5.out) b6.out) b7.out) b8.out) b9.out) b10.out) b11.out) b12.out) b13.out) b14.out) b15.out)) 0).trans rfl, (blk_cell (blk_below BK5.out (below_step (below_step (below_step (below_step (below_step (below_step (below_step (below_step (below_step (below_step (below_step (below_step (below_step b2.out b3.out) b4.out) b5.out) b6.out) b7.out) b8.out) b9.out) b10.out) b11.out) b12.out) b13.out) b14.out) b15.out)) 1).trans rfl, (blk_cell (blk_below BK5.out (below_step (below_step (below_step (below_step (below_step (below_step (below_step (below_step (below_step (below_step (below_step (below_step (below_step b2.out b3.out) b4.out) b5.out) b6.out) b7.out) b8.out) b9.out) b10.out) b11.out) b12.out) b13.out) b14.out) b15.out)) 2).trans rfl, (blk_cell (blk_below BKb.out (below_step (below_step (below_step (below_step b11.out b12.out) b13.out) b14.out) b15.out)) 0).trans rfl, (blk_cell (blk_below BKb.out (below_step (below_step (below_step (below_step b11.out b12.out) b13.out) b14.out) b15.out)) 1).trans rfl, (blk_cell (blk_below BKb.out (below_step (below_step (below_step (below_step b11.out b12.out) b13.out) b14.out) b15.out)) 2).trans rfl⟩ (fun hHeld => ?_)
 clear hK K
 refine zn_ rfl ?_
 refine one_ (i := 3) (N := some 43) (fl_ 5 4) rfl rfl (one_of HT_.out (by kernel_rfl)) (by decide) (fun K hK => ?_)
 refine goes_ Try.func21 (by kernel_rfl) rfl #[.agg #[.slice Ago1 go1.length cgo1, .slice Ago2 go2.length cgo2, .slice Ago3 go3.length cgo3], .agg #[.slice Auo1 uo1.length cuo1, .slice Auo2 uo2.length cuo2, .slice Auo3 uo3.length cuo3]] (by rfl) rfl rfl z111_ ?_
 refine (laws_eqCost.calls k _ _ go1 _ _ go2 _ _ go3 _ _ uo1 _ _ uo2 _ _ uo3 true _ (Kd.C_below HRgo1.out (below_step (below_step (below_step (below_step (below_step b10.out b11.out) b12.out) b13.out) b14.out) b15.out)) HCgo1.out (Kd.C_below HRgo2.out (below_step (below_step (below_step (below_step (below_step b10.out b11.out) b12.out) b13.out) b14.out) b15.out)) HCgo2.out (Kd.C_below HRgo3.out (below_step (below_step (below_step (below_step (below_step b10.out b11.out) b12.out) b13.out) b14.out) b15.out)) HCgo3.out HRuo1.out HCuo1.out HRuo2.out HCuo2.out HRuo3.out HCuo3.out Fr3.out).mono ?_
 rintro e x16_ ⟨rfl, hb⟩
 refine ⟨_, rfl, ?_⟩
 have b16 : Aside0 (Below x15_.heap.size x15_ x16_) := ⟨hb⟩
 clear hb
 refine hK.out _ _ ⟨(blk_cell (blk_below BK5.out (below_step (below_step (below_step (below_step (below_step (below_step (below_step (below_step (below_step (below_step (below_step (below_step (below_step (below_step b2.out b3.out) b4.out) b5.out) b6.out) b7.out) b8.out) b9.out) b10.out) b11.out) b12.out) b13.out) b14.out) b15.out) b16.out)) 0).trans rfl, (blk_cell (blk_below BK5.out (below_step (below_step (below_step (below_step (below_step (below_step (below_step (below_step (below_step (below_step (below_step (below_step (below_step (below_step b2.out b3.out) b4.out) b5.out) b6.out) b7.out) b8.out) b9.out) b10.out) b11.out) b12.out) b13.out) b14.out) b15.out) b16.out)) 1).trans rfl, (blk_cell (blk_below BK5.out (below_step (below_step (below_step (below_step (below_step (below_step (below_step (below_step (below_step (below_step (below_step (below_step (below_step (below_step b2.out b3.out) b4.out) b5.out) b6.out) b7.out) b8.out) b9.out) b10.out) b11.out) b12.out) b13.out) b14.out) b15.out) b16.out)) 2).trans rfl, (blk_cell (blk_below BKb.out (below_step (below_step (below_step (below_step (below_step b11.out b12.out) b13.out) b14.out) b15.out) b16.out)) 0).trans rfl, (blk_cell (blk_below BKb.out (below_step (below_step (below_step (below_step (below_step b11.out b12.out) b13.out) b14.out) b15.out) b16.out)) 1).trans rfl, (blk_cell (blk_below BKb.out (below_step (below_step (below_step (below_step (below_step b11.out b12.out) b13.out) b14.out) b15.out) b16.out)) 2).trans rfl⟩ (fun hHeld => ?_)
 clear hK K
 refine zn_ rfl ?_
 refine zp_ HT_ rfl rfl (by kernel_rfl) (fun _ _ _ h => h) (by rfl) ?_
 refine done_ (done_of HT_.out (by kernel_rfl)) ?_
 go_wp2
 go_ret
 exact ⟨rfl, (below_step (below_step (below_step (below_step (below_step (below_step (below_step (below_step (below_step (below_step (below_step (below_step (below_step (below_step (below_step b1.out b2.out) b3.out) b4.out) b5.out) b6.out) b7.out) b8.out) b9.out) b10.out) b11.out) b12.out) b13.out) b14.out) b15.out) b16.out)⟩

end Go.Proofs.Ytbmkobanpakohaa.PFnExactMedian
