/- Laid by a program of this session out of the kit's print for the law FnExactNearest: what it says of the machine is proved here, function by function; each contract under the conditions that it names. -/
import Derived.Test.YtbmkobanpakohaaMFnExactNearestx0
import Derived.Test.YtbmkobanpakohaaMFnExactNearestx1
import Derived.Test.YtbmkobanpakohaaMFnExactNearestx9
namespace Go.Proofs.Ytbmkobanpakohaa.PFnExactNearest
open Go.RowKit Go.Proofs.YtbmkobanpakohaaW.PrintWords Go.Proofs.YtbmkobanpakohaaW.PrintLast Go.Proofs.YtbmkobanpakohaaW.PrintMore
attribute [local go_sem] max2_int min2_int max_two min_two max_three min_three max_four min_four   -- for this text's walks alone
set_option linter.unusedVariables false
set_option linter.unusedSimpArgs false

/-! ### spec_Nearest: function 16 -/
def spec_Nearest.l0 : Nat → List (List (S61)) → List (S61) → Int → Int → Int → List Int → List Int → List Int → Option (Int)
 | 0, _, _, _, _, _, _, _, _ => none
 | k + 1, x0, x1, x7, x8, x9, x335000, x335001, x335002 => if x9 < (x0.length : Int) then (if 0 ≤ x9 then ((spec_RootDist.f k (rd_L4 x0 x9) x1 x335000 x335001 x335002).bind fun t336 => (if t336 ≥ 0 then (if x7 < 0 then (spec_Nearest.l0 k x0 x1 x9 t336 (wrap64 (x9 + 1)) x335000 x335001 x335002) else (if t336 < x8 then (spec_Nearest.l0 k x0 x1 x9 t336 (wrap64 (x9 + 1)) x335000 x335001 x335002) else (spec_Nearest.l0 k x0 x1 x7 x8 (wrap64 (x9 + 1)) x335000 x335001 x335002))) else (spec_Nearest.l0 k x0 x1 x7 x8 (wrap64 (x9 + 1)) x335000 x335001 x335002))) else (none)) else (some x7)
def spec_Nearest.f (k : Nat) (l0 : List (List (S61))) (l1 : List (S61)) (l2_0 : List Int) (l2_1 : List Int) (l2_2 : List Int) : Option (Int) := spec_Nearest.l0 k l0 l1 (-1) 0 0 l2_0 l2_1 l2_2
def spec_Nearest.T6 : Bool × List (List Nat × List Nat) := (true, [([], []), ([], []), ([0, 1], [0, 1]), ([2], [2]), ([], []), ([], []), ([3, 4, 5], [3, 4, 5]), ([6, 6, 0, 1, 2, 3, 4, 5, 6], [6])])
def spec_Nearest.B6 : List Nat := [0, 0, 3, 7, 0, 0, 63, 127]
theorem spec_Nearest.tab6 : rtab .any (opsOf Try.f16 6) = spec_Nearest.T6 := by kernel_rfl
theorem spec_Nearest.bits6 : waitsOk spec_Nearest.T6.2 spec_Nearest.B6 = true := by kernel_rfl
set_option maxHeartbeats 8000000 in
set_option maxRecDepth 100000 in
theorem spec_Nearest.calls (k : Nat) (A0 : Option Addr) (c0 : Nat) (l0 : List (List (S61))) (A1 : Option Addr) (c1 : Nat) (l1 : List (S61)) (A2_0 : Option Addr) (c2_0 : Nat) (l2_0 : List Int) (A2_1 : Option Addr) (c2_1 : Nat) (l2_1 : List Int) (A2_2 : Option Addr) (c2_2 : Nat) (l2_2 : List Int) (r : Int) (w : World) (hr0 : Kd.C (Kd.slice 61 k61) w A0 l0.length l0) (hc0 : l0.length ≤ c0) (hr1 : Kd.C k61 w A1 l1.length l1) (hc1 : l1.length ≤ c1) (hr2_0 : Kd.C (Kd.int .i64) w A2_0 l2_0.length l2_0) (hc2_0 : l2_0.length ≤ c2_0) (hr2_1 : Kd.C (Kd.int .i64) w A2_1 l2_1.length l2_1) (hc2_1 : l2_1.length ≤ c2_1) (hr2_2 : Kd.C (Kd.int .i64) w A2_2 l2_2.length l2_2) (hc2_2 : l2_2.length ≤ c2_2) (h : spec_Nearest.f k l0 l1 l2_0 l2_1 l2_2 = some r) :
  Calls Try.prog 16 #[.slice A0 l0.length c0, .slice A1 l1.length c1, .agg #[.slice A2_0 l2_0.length c2_0, .slice A2_1 l2_1.length c2_1, .slice A2_2 l2_2.length c2_2]] w fun e w' => e = .returned (.int .i64 r) ∧ Below w.heap.size w w' := by
 have hu38 := Try.underlying38
 have HR0 := Aside0.mk hr0
 have HC0 := Aside0.mk hc0
 clear hr0 hc0
 have HR1 := Aside0.mk hr1
 have HC1 := Aside0.mk hc1
 clear hr1 hc1
 have HR2_0 := Aside0.mk hr2_0
 have HC2_0 := Aside0.mk hc2_0
 clear hr2_0 hc2_0
 have HR2_1 := Aside0.mk hr2_1
 have HC2_1 := Aside0.mk hc2_1
 clear hr2_1 hc2_1
 have HR2_2 := Aside0.mk hr2_2
 have HC2_2 := Aside0.mk hc2_2
 clear hr2_2 hc2_2
 have HB := Aside0.mk (Below.refl w.heap.size w)
 have H : (spec_Nearest.l0 k l0 l1 (-1) 0 0 l2_0 l2_1 l2_2) = some r := h
 clear h
 have H' := Aside0.mk H
 clear H
 go_enter Try.func16, Try.ntmps16
 go_wp2_with (first | ((with_reducible refine gate_dst (N := 5) rfl ?_); refine box_event ?hg (N := 5) ?hd (cs := #[.slice A2_0 l2_0.length c2_0, .slice A2_1 l2_1.length c2_1, .slice A2_2 l2_2.length c2_2]) (t := 38) ?hr ?_; (case hd => rfl); (case hg => rfl); (case hr => exact z9_); intro gb334 hg w4 hbox hb; have BK334 := Aside0.mk (hbox); have GW334 := Aside0.mk ((by rw [hg]; exact (below_size z0_) : w.heap.size ≤ gb334)); have GE334 := Aside0.mk ((by rw [hg]; exact (below_size z0_) : w.heap.size ≤ gb334)); replace HB := Aside0.mk (below_step z0_ hb); clear hb hbox hg))
 go_loopg [7, 8, 9] k (fun kq v7 v8 v9 w' => ∃ (x7_1 : Int) (x8_1 : Int) (x9_1 : Int), v7 = .int .i64 x7_1 ∧ v8 = .int .i64 x8_1 ∧ v9 = .int .i64 x9_1 ∧ Aside0 (spec_Nearest.l0 kq l0 l1 x7_1 x8_1 x9_1 l2_0 l2_1 l2_2 = some r) ∧ Aside0 (kq ≤ k) ∧ Aside0 (w'.heap[gb334]? = some (.cells #[(.slice A2_0 l2_0.length c2_0), (.slice A2_1 l2_1.length c2_1), (.slice A2_2 l2_2.length c2_2)] 38 (0, 0))) ∧ Aside0 (Below w.heap.size w w'))
 case atStart => exact ⟨((-1)), (0), (0), z4_, z4_, z4_, H', ⟨Nat.le_refl _⟩, ⟨z75_⟩, ⟨z44_⟩⟩
 case round =>
  clear H'
  try clear c1
  try clear c2
  try clear p2
  obtain ⟨x7_1, x8_1, x9_1, rfl, rfl, rfl, HA, HK1, BK334, HB⟩ := hrel
  cases gk with
  | zero => exact absurd HA.out (by simp [spec_Nearest.l0])
  | succ k1 =>
   have H := HA.out
   clear HA
   simp only [spec_Nearest.l0] at H
   by_cases c5 : x9_1 < (l0.length : Int)
   ·rw [if_pos c5] at H
    have c5b0 := decide_eq_true c5
    clear c5
    obtain ⟨c6b0, H⟩ := ifd_ H
    obtain ⟨t336, A7, H⟩ := bnd_ H
    by_cases c8 : t336 ≥ 0
    ·rw [if_pos c8] at H
     have c8b0 := decide_eq_true c8
     clear c8
     by_cases c9 : x7_1 < 0
     ·rw [if_pos c9] at H
      have c9b0 := decide_eq_true c9
      clear c9
      have H' := Aside0.mk H
      clear H
      try go_wp2
      have n0_ := Aside0.mk (blk_drew BK334.out)
      have n1_ := Aside0.mk (below_drew1 HB.out)
      clear BK334
      clear HB
      have BK334 := n0_
      have HB := n1_
      clear n0_ n1_
      have p335 : 0 ≤ (x9_1 : Int) := odt_
      have q335 : x9_1 < (l0.length : Int) := odt_
      obtain ⟨ad335, A335_0, c335_0, e335, hx335_0, hl335_0, hi335_0⟩ := at_L4 HR0.out x9_1 p335 q335
      have hw335_0 := hx335_0
      cases e335
      replace hx335_0 := (HB.out.cell (World.block_lt_of_cell? w _ hx335_0)).trans hx335_0
      have HR335_0 := Aside0.mk hi335_0
      have HC335_0 := Aside0.mk hl335_0
      clear hi335_0 hl335_0
      replace p335 := eq_true p335
      replace q335 := eq_true q335
      refine start_ (n := 8) (S := fun w' => w'.cell? ⟨gb334, 0, none⟩ = some (.slice A2_0 l2_0.length c2_0) ∧ w'.cell? ⟨gb334, 1, none⟩ = some (.slice A2_1 l2_1.length c2_1) ∧ w'.cell? ⟨gb334, 2, none⟩ = some (.slice A2_2 l2_2.length c2_2) ∧ w'.cell? (ad335.add (x9_1).toNat) = some (.slice A335_0 (rd_L4 l0 x9_1).length c335_0)) (ds := []) (fl_ 8 0) (by kernel_rfl) rfl (fl_zero _) ⟨(blk_cell BK334.out 0).trans rfl, (blk_cell BK334.out 1).trans rfl, (blk_cell BK334.out 2).trans rfl, ((HB.out.cell (World.block_lt_of_cell? w _ hw335_0)).trans hw335_0)⟩ (fun hHeld => ?_); refine with_tabW spec_Nearest.tab6 spec_Nearest.bits6 (fun HT_ HW_ => ?_)
      generalize wr.drew = w10 at BK334 HB HR335_0 hx335_0 hHeld ⊢
      iterate 3 refine zp_ HT_ rfl rfl (by kernel_rfl) (fun _ _ _ h => h) (by rfl) ?_
      refine zpg_ (i := 4) (ra_ [3, 1, 1, 3]) HT_ rfl rfl (by kernel_rfl) (fun _ _ _ h => h) (by rfl) ?_
      refine ztg_ (i := 3) (fl_ 8 5) HT_ HW_ rfl rfl (by kernel_rfl) (fun _ _ _ h => h) (by rfl) hHeld ?_ z73_
      refine zt_ HT_ HW_ rfl rfl (by kernel_rfl) (fun _ _ _ h => h) (by rfl) hHeld ?_ z73_
      refine one_ (i := 6) (N := some 23) (fl_ 8 7) rfl rfl (one_of HT_.out (by kernel_rfl)) (by decide) (fun K hK => ?_)
      refine goes_ Try.func37 (by kernel_rfl) rfl #[.slice A335_0 (rd_L4 l0 x9_1).length c335_0, .slice A1 l1.length c1, .agg #[.slice A2_0 l2_0.length c2_0, .slice A2_1 l2_1.length c2_1, .slice A2_2 l2_2.length c2_2]] (by rfl) rfl rfl z1_ ?_
      with_reducible refine (spec_RootDist.calls k1 _ _ (rd_L4 l0 x9_1) _ _ l1 _ _ l2_0 _ _ l2_1 _ _ l2_2 t336 _ ?side1 ?side2 ?side3 ?side4 ?side5 ?side6 ?side7 ?side8 ?side9 ?side10 A7.out).mono ?_
      (case side1 => exact z105_)
      (case side2 => exact HC335_0.out)
      (case side3 => exact z10_)
      (case side4 => exact HC1.out)
      (case side5 => exact z19_)
      (case side6 => exact HC2_0.out)
      (case side7 => exact z20_)
      (case side8 => exact HC2_1.out)
      (case side9 => exact z21_)
      (case side10 => exact HC2_2.out)
      rintro e w11 ⟨rfl, hb⟩
      refine ⟨_, rfl, ?_⟩
      have n0_ := Aside0.mk (blk_below z75_ hb)
      have n1_ := Aside0.mk (below_step z44_ hb)
      clear BK334
      clear HB
      have BK334 := n0_
      have HB := n1_
      clear n0_ n1_
      (try clear hb)
      (try clear hb2)
      (try clear hk)
      (try clear hi)
      refine hK.out _ _ ⟨(blk_cell BK334.out 0).trans rfl, (blk_cell BK334.out 1).trans rfl, (blk_cell BK334.out 2).trans rfl, ((HB.out.cell (World.block_lt_of_cell? w _ hw335_0)).trans hw335_0)⟩ (fun hHeld => ?_)
      clear hK K
      refine zn_ rfl ?_
      refine zp_ HT_ rfl rfl (by kernel_rfl) (fun _ _ _ h => h) (by rfl) ?_
      refine done_ (done_of HT_.out (by kernel_rfl)) ?_
      try go_wp2
      go_roundg k1
      case measure => have := HK1.out; omega
      case rel => exact ⟨(x9_1), (t336), (wrap64 (x9_1 + 1)), z4_, z4_, z4_, H', ⟨z116_⟩, ⟨z75_⟩, ⟨z44_⟩⟩
     ·rw [if_neg c9] at H
      have c9b0 := decide_eq_false c9
      clear c9
      by_cases c12 : t336 < x8_1
      ·rw [if_pos c12] at H
       have c12b0 := decide_eq_true c12
       clear c12
       have H' := Aside0.mk H
       clear H
       try go_wp2
       have n0_ := Aside0.mk (blk_drew BK334.out)
       have n1_ := Aside0.mk (below_drew1 HB.out)
       clear BK334
       clear HB
       have BK334 := n0_
       have HB := n1_
       clear n0_ n1_
       have p335 : 0 ≤ (x9_1 : Int) := odt_
       have q335 : x9_1 < (l0.length : Int) := odt_
       obtain ⟨ad335, A335_0, c335_0, e335, hx335_0, hl335_0, hi335_0⟩ := at_L4 HR0.out x9_1 p335 q335
       have hw335_0 := hx335_0
       cases e335
       replace hx335_0 := (HB.out.cell (World.block_lt_of_cell? w _ hx335_0)).trans hx335_0
       have HR335_0 := Aside0.mk hi335_0
       have HC335_0 := Aside0.mk hl335_0
       clear hi335_0 hl335_0
       replace p335 := eq_true p335
       replace q335 := eq_true q335
       refine start_ (n := 8) (S := fun w' => w'.cell? ⟨gb334, 0, none⟩ = some (.slice A2_0 l2_0.length c2_0) ∧ w'.cell? ⟨gb334, 1, none⟩ = some (.slice A2_1 l2_1.length c2_1) ∧ w'.cell? ⟨gb334, 2, none⟩ = some (.slice A2_2 l2_2.length c2_2) ∧ w'.cell? (ad335.add (x9_1).toNat) = some (.slice A335_0 (rd_L4 l0 x9_1).length c335_0)) (ds := []) (fl_ 8 0) (by kernel_rfl) rfl (fl_zero _) ⟨(blk_cell BK334.out 0).trans rfl, (blk_cell BK334.out 1).trans rfl, (blk_cell BK334.out 2).trans rfl, ((HB.out.cell (World.block_lt_of_cell? w _ hw335_0)).trans hw335_0)⟩ (fun hHeld => ?_); refine with_tabW spec_Nearest.tab6 spec_Nearest.bits6 (fun HT_ HW_ => ?_)
       generalize wr.drew = w13 at BK334 HB HR335_0 hx335_0 hHeld ⊢
       iterate 3 refine zp_ HT_ rfl rfl (by kernel_rfl) (fun _ _ _ h => h) (by rfl) ?_
       refine zpg_ (i := 4) (ra_ [3, 1, 1, 3]) HT_ rfl rfl (by kernel_rfl) (fun _ _ _ h => h) (by rfl) ?_
       refine ztg_ (i := 3) (fl_ 8 5) HT_ HW_ rfl rfl (by kernel_rfl) (fun _ _ _ h => h) (by rfl) hHeld ?_ z73_
       refine zt_ HT_ HW_ rfl rfl (by kernel_rfl) (fun _ _ _ h => h) (by rfl) hHeld ?_ z73_
       refine one_ (i := 6) (N := some 23) (fl_ 8 7) rfl rfl (one_of HT_.out (by kernel_rfl)) (by decide) (fun K hK => ?_)
       refine goes_ Try.func37 (by kernel_rfl) rfl #[.slice A335_0 (rd_L4 l0 x9_1).length c335_0, .slice A1 l1.length c1, .agg #[.slice A2_0 l2_0.length c2_0, .slice A2_1 l2_1.length c2_1, .slice A2_2 l2_2.length c2_2]] (by rfl) rfl rfl z1_ ?_
       with_reducible refine (spec_RootDist.calls k1 _ _ (rd_L4 l0 x9_1) _ _ l1 _ _ l2_0 _ _ l2_1 _ _ l2_2 t336 _ ?side1 ?side2 ?side3 ?side4 ?side5 ?side6 ?side7 ?side8 ?side9 ?side10 A7.out).mono ?_
       (case side1 => exact z105_)
       (case side2 => exact HC335_0.out)
       (case side3 => exact z10_)
       (case side4 => exact HC1.out)
       (case side5 => exact z19_)
       (case side6 => exact HC2_0.out)
       (case side7 => exact z20_)
       (case side8 => exact HC2_1.out)
       (case side9 => exact z21_)
       (case side10 => exact HC2_2.out)
       rintro e w14 ⟨rfl, hb⟩
       refine ⟨_, rfl, ?_⟩
       have n0_ := Aside0.mk (blk_below z75_ hb)
       have n1_ := Aside0.mk (below_step z44_ hb)
       clear BK334
       clear HB
       have BK334 := n0_
       have HB := n1_
       clear n0_ n1_
       (try clear hb)
       (try clear hb2)
       (try clear hk)
       (try clear hi)
       refine hK.out _ _ ⟨(blk_cell BK334.out 0).trans rfl, (blk_cell BK334.out 1).trans rfl, (blk_cell BK334.out 2).trans rfl, ((HB.out.cell (World.block_lt_of_cell? w _ hw335_0)).trans hw335_0)⟩ (fun hHeld => ?_)
       clear hK K
       refine zn_ rfl ?_
       refine zp_ HT_ rfl rfl (by kernel_rfl) (fun _ _ _ h => h) (by rfl) ?_
       refine done_ (done_of HT_.out (by kernel_rfl)) ?_
       try go_wp2
       go_roundg k1
       case measure => have := HK1.out; omega
       case rel => exact ⟨(x9_1), (t336), (wrap64 (x9_1 + 1)), z4_, z4_, z4_, H', ⟨z116_⟩, ⟨z75_⟩, ⟨z44_⟩⟩
      ·rw [if_neg c12] at H
       have c12b0 := decide_eq_false c12
       clear c12
       have H' := Aside0.mk H
       clear H
       try go_wp2
       have n0_ := Aside0.mk (blk_drew BK334.out)
       have n1_ := Aside0.mk (below_drew1 HB.out)
       clear BK334
       clear HB
       have BK334 := n0_
       have HB := n1_
       clear n0_ n1_
       have p335 : 0 ≤ (x9_1 : Int) := odt_
       have q335 : x9_1 < (l0.length : Int) := odt_
       obtain ⟨ad335, A335_0, c335_0, e335, hx335_0, hl335_0, hi335_0⟩ := at_L4 HR0.out x9_1 p335 q335
       have hw335_0 := hx335_0
       cases e335
       replace hx335_0 := (HB.out.cell (World.block_lt_of_cell? w _ hx335_0)).trans hx335_0
       have HR335_0 := Aside0.mk hi335_0
       have HC335_0 := Aside0.mk hl335_0
       clear hi335_0 hl335_0
       replace p335 := eq_true p335
       replace q335 := eq_true q335
       refine start_ (n := 8) (S := fun w' => w'.cell? ⟨gb334, 0, none⟩ = some (.slice A2_0 l2_0.length c2_0) ∧ w'.cell? ⟨gb334, 1, none⟩ = some (.slice A2_1 l2_1.length c2_1) ∧ w'.cell? ⟨gb334, 2, none⟩ = some (.slice A2_2 l2_2.length c2_2) ∧ w'.cell? (ad335.add (x9_1).toNat) = some (.slice A335_0 (rd_L4 l0 x9_1).length c335_0)) (ds := []) (fl_ 8 0) (by kernel_rfl) rfl (fl_zero _) ⟨(blk_cell BK334.out 0).trans rfl, (blk_cell BK334.out 1).trans rfl, (blk_cell BK334.out 2).trans rfl, ((HB.out.cell (World.block_lt_of_cell? w _ hw335_0)).trans hw335_0)⟩ (fun hHeld => ?_); refine with_tabW spec_Nearest.tab6 spec_Nearest.bits6 (fun HT_ HW_ => ?_)
       generalize wr.drew = w15 at BK334 HB HR335_0 hx335_0 hHeld ⊢
       iterate 3 refine zp_ HT_ rfl rfl (by kernel_rfl) (fun _ _ _ h => h) (by rfl) ?_
       refine zpg_ (i := 4) (ra_ [3, 1, 1, 3]) HT_ rfl rfl (by kernel_rfl) (fun _ _ _ h => h) (by rfl) ?_
       refine ztg_ (i := 3) (fl_ 8 5) HT_ HW_ rfl rfl (by kernel_rfl) (fun _ _ _ h => h) (by rfl) hHeld ?_ z73_
       refine zt_ HT_ HW_ rfl rfl (by kernel_rfl) (fun _ _ _ h => h) (by rfl) hHeld ?_ z73_
       refine one_ (i := 6) (N := some 23) (fl_ 8 7) rfl rfl (one_of HT_.out (by kernel_rfl)) (by decide) (fun K hK => ?_)
       refine goes_ Try.func37 (by kernel_rfl) rfl #[.slice A335_0 (rd_L4 l0 x9_1).length c335_0, .slice A1 l1.length c1, .agg #[.slice A2_0 l2_0.length c2_0, .slice A2_1 l2_1.length c2_1, .slice A2_2 l2_2.length c2_2]] (by rfl) rfl rfl z1_ ?_
       with_reducible refine (spec_RootDist.calls k1 _ _ (rd_L4 l0 x9_1) _ _ l1 _ _ l2_0 _ _ l2_1 _ _ l2_2 t336 _ ?side1 ?side2 ?side3 ?side4 ?side5 ?side6 ?side7 ?side8 ?side9 ?side10 A7.out).mono ?_
       (case side1 => exact z105_)
       (case side2 => exact HC335_0.out)
       (case side3 => exact z10_)
       (case side4 => exact HC1.out)
       (case side5 => exact z19_)
       (case side6 => exact HC2_0.out)
       (case side7 => exact z20_)
       (case side8 => exact HC2_1.out)
       (case side9 => exact z21_)
       (case side10 => exact HC2_2.out)
       rintro e w16 ⟨rfl, hb⟩
       refine ⟨_, rfl, ?_⟩
       have n0_ := Aside0.mk (blk_below z75_ hb)
       have n1_ := Aside0.mk (below_step z44_ hb)
       clear BK334
       clear HB
       have BK334 := n0_
       have HB := n1_
       clear n0_ n1_
       (try clear hb)
       (try clear hb2)
       (try clear hk)
       (try clear hi)
       refine hK.out _ _ ⟨(blk_cell BK334.out 0).trans rfl, (blk_cell BK334.out 1).trans rfl, (blk_cell BK334.out 2).trans rfl, ((HB.out.cell (World.block_lt_of_cell? w _ hw335_0)).trans hw335_0)⟩ (fun hHeld => ?_)
       clear hK K
       refine zn_ rfl ?_
       refine zp_ HT_ rfl rfl (by kernel_rfl) (fun _ _ _ h => h) (by rfl) ?_
       refine done_ (done_of HT_.out (by kernel_rfl)) ?_
       try go_wp2
       go_roundg k1
       case measure => have := HK1.out; omega
       case rel => exact ⟨(x7_1), (x8_1), (wrap64 (x9_1 + 1)), z4_, z4_, z4_, H', ⟨z116_⟩, ⟨z75_⟩, ⟨z44_⟩⟩
    ·rw [if_neg c8] at H
     have c8b0 := decide_eq_false c8
     clear c8
     have H' := Aside0.mk H
     clear H
     try go_wp2
     have n0_ := Aside0.mk (blk_drew BK334.out)
     have n1_ := Aside0.mk (below_drew1 HB.out)
     clear BK334
     clear HB
     have BK334 := n0_
     have HB := n1_
     clear n0_ n1_
     have p335 : 0 ≤ (x9_1 : Int) := odt_
     have q335 : x9_1 < (l0.length : Int) := odt_
     obtain ⟨ad335, A335_0, c335_0, e335, hx335_0, hl335_0, hi335_0⟩ := at_L4 HR0.out x9_1 p335 q335
     have hw335_0 := hx335_0
     cases e335
     replace hx335_0 := (HB.out.cell (World.block_lt_of_cell? w _ hx335_0)).trans hx335_0
     have HR335_0 := Aside0.mk hi335_0
     have HC335_0 := Aside0.mk hl335_0
     clear hi335_0 hl335_0
     replace p335 := eq_true p335
     replace q335 := eq_true q335
     refine start_ (n := 8) (S := fun w' => w'.cell? ⟨gb334, 0, none⟩ = some (.slice A2_0 l2_0.length c2_0) ∧ w'.cell? ⟨gb334, 1, none⟩ = some (.slice A2_1 l2_1.length c2_1) ∧ w'.cell? ⟨gb334, 2, none⟩ = some (.slice A2_2 l2_2.length c2_2) ∧ w'.cell? (ad335.add (x9_1).toNat) = some (.slice A335_0 (rd_L4 l0 x9_1).length c335_0)) (ds := []) (fl_ 8 0) (by kernel_rfl) rfl (fl_zero _) ⟨(blk_cell BK334.out 0).trans rfl, (blk_cell BK334.out 1).trans rfl, (blk_cell BK334.out 2).trans rfl, ((HB.out.cell (World.block_lt_of_cell? w _ hw335_0)).trans hw335_0)⟩ (fun hHeld => ?_); refine with_tabW spec_Nearest.tab6 spec_Nearest.bits6 (fun HT_ HW_ => ?_)
     generalize wr.drew = w17 at BK334 HB HR335_0 hx335_0 hHeld ⊢
     iterate 3 refine zp_ HT_ rfl rfl (by kernel_rfl) (fun _ _ _ h => h) (by rfl) ?_
     refine zpg_ (i := 4) (ra_ [3, 1, 1, 3]) HT_ rfl rfl (by kernel_rfl) (fun _ _ _ h => h) (by rfl) ?_
     refine ztg_ (i := 3) (fl_ 8 5) HT_ HW_ rfl rfl (by kernel_rfl) (fun _ _ _ h => h) (by rfl) hHeld ?_ z73_
     refine zt_ HT_ HW_ rfl rfl (by kernel_rfl) (fun _ _ _ h => h) (by rfl) hHeld ?_ z73_
     refine one_ (i := 6) (N := some 23) (fl_ 8 7) rfl rfl (one_of HT_.out (by kernel_rfl)) (by decide) (fun K hK => ?_)
     refine goes_ Try.func37 (by kernel_rfl) rfl #[.slice A335_0 (rd_L4 l0 x9_1).length c335_0, .slice A1 l1.length c1, .agg #[.slice A2_0 l2_0.length c2_0, .slice A2_1 l2_1.length c2_1, .slice A2_2 l2_2.length c2_2]] (by rfl) rfl rfl z1_ ?_
     with_reducible refine (spec_RootDist.calls k1 _ _ (rd_L4 l0 x9_1) _ _ l1 _ _ l2_0 _ _ l2_1 _ _ l2_2 t336 _ ?side1 ?side2 ?side3 ?side4 ?side5 ?side6 ?side7 ?side8 ?side9 ?side10 A7.out).mono ?_
     (case side1 => exact z105_)
     (case side2 => exact HC335_0.out)
     (case side3 => exact z10_)
     (case side4 => exact HC1.out)
     (case side5 => exact z19_)
     (case side6 => exact HC2_0.out)
     (case side7 => exact z20_)
     (case side8 => exact HC2_1.out)
     (case side9 => exact z21_)
     (case side10 => exact HC2_2.out)
     rintro e w18 ⟨rfl, hb⟩
     refine ⟨_, rfl, ?_⟩
     have n0_ := Aside0.mk (blk_below z75_ hb)
     have n1_ := Aside0.mk (below_step z44_ hb)
     clear BK334
     clear HB
     have BK334 := n0_
     have HB := n1_
     clear n0_ n1_
     (try clear hb)
     (try clear hb2)
     (try clear hk)
     (try clear hi)
     refine hK.out _ _ ⟨(blk_cell BK334.out 0).trans rfl, (blk_cell BK334.out 1).trans rfl, (blk_cell BK334.out 2).trans rfl, ((HB.out.cell (World.block_lt_of_cell? w _ hw335_0)).trans hw335_0)⟩ (fun hHeld => ?_)
     clear hK K
     refine zn_ rfl ?_
     refine zp_ HT_ rfl rfl (by kernel_rfl) (fun _ _ _ h => h) (by rfl) ?_
     refine done_ (done_of HT_.out (by kernel_rfl)) ?_
     try go_wp2
     go_roundg k1
     case measure => have := HK1.out; omega
     case rel => exact ⟨(x7_1), (x8_1), (wrap64 (x9_1 + 1)), z4_, z4_, z4_, H', ⟨z116_⟩, ⟨z75_⟩, ⟨z44_⟩⟩
   ·rw [if_neg c5] at H
    have c5b0 := decide_eq_false c5
    clear c5
    obtain rfl := Option.some.inj H
    go_wp2
    go_ret
    exact ⟨z5_, z44_⟩

/-! ### laws_toNodeSS: function 17 -/
def laws_toNodeSS.l0 : Nat → List (List (S63)) → List (List (S61)) → Int → Option ((List (List (S61))))
 | 0, _, _, _ => none
 | k + 1, x0, x3, x4 => if x4 < (x0.length : Int) then (if 0 ≤ x4 then ((laws_toNodeS.f k (rd_L3 x0 x4)).bind fun t341 => (if x4 < (x3.length : Int) then (laws_toNodeSS.l0 k x0 (x3.set (x4 : Int).toNat t341) (wrap64 (x4 + 1))) else (none))) else (none)) else (some x3)
def laws_toNodeSS.f (k : Nat) (l0 : List (List (S63))) : Option ((List (List (S61)))) := if 0 ≤ (l0.length : Int) then (if ((l0.length : Int) : Int).toNat ≤ 11728124029610 then (laws_toNodeSS.l0 k l0 (List.replicate ((l0.length : Int) : Int).toNat []) 0) else (none)) else (none)
set_option maxHeartbeats 8000000 in
set_option maxRecDepth 100000 in
theorem laws_toNodeSS.calls (k : Nat) (A0 : Option Addr) (c0 : Nat) (l0 : List (List (S63))) (r : List (List (S61))) (w : World) (hr0 : Kd.C (Kd.slice 63 k63) w A0 l0.length l0) (hc0 : l0.length ≤ c0) (h : laws_toNodeSS.f k l0 = some r) :
  Calls Try.prog 17 #[.slice A0 l0.length c0] w fun e w' => ∃ v0_ : Value, e = .returned (v0_) ∧ Kd.S (Kd.slice 61 k61) 25 w' w.heap.size (fun _ => True) v0_ r ∧ Below w.heap.size w w' := by
 have HR0 := Aside0.mk hr0
 have HC0 := Aside0.mk hc0
 clear hr0 hc0
 have HB := Aside0.mk (Below.refl w.heap.size w)
 have H : (if 0 ≤ (l0.length : Int) then (if ((l0.length : Int) : Int).toNat ≤ 11728124029610 then (laws_toNodeSS.l0 k l0 (List.replicate ((l0.length : Int) : Int).toNat []) 0) else (none)) else (none)) = some r := h
 clear h
 obtain ⟨c2b0, c2b1, H⟩ := ife_ H
 obtain ⟨c3b0, c3b1, H⟩ := ife_ H
 first | ((with_reducible have hz_ := gy_ H); obtain ⟨y337, Ny337, H⟩ := hz_) | (generalize hy_ : ((List.replicate ((l0.length : Int) : Int).toNat []) : List (List (S61))) = y337 at H; have Ny337 := Aside0.mk hy_.symm; clear hy_)
 have H' := Aside0.mk H
 clear H
 go_enter Try.func17, Try.ntmps17
 go_wp2_with (first | ((with_reducible refine gate_dst (N := 7) rfl ?_); refine Kd.S_make (Kd.slice 61 k61) _ 25 rfl (N := 7) rfl 36 _ _ rfl (l0.length : Int) rfl rfl Try.underlying36 (.slice none 0 0) 24 info25 rfl (by decide) (by omega) [] (ok := fun _ => True) (okp := fun _ => True) ⟨_, rfl, Kd.R_nil _ _ _ _ _⟩ (fun _ hk => hk) trivial (odt_) (Nat.le_trans (Nat.mul_le_mul_right _ (odt_ : (l0.length : Int).toNat ≤ 11728124029610)) (by omega)) (Below.refl _ _) (Nat.le_refl _) ?_; intro v338 w4 ho5 hb hg_ hnew_; clear hg_ hnew_; (first | rw [← Ny337.out] at ho5 | (simp only [Int.reduceToNat] at ho5; rw [← Ny337.out] at ho5)); have HO339 := Aside0.mk (Kd.S_lower ho5 (below_size z0_)); replace HB := Aside0.mk (below_step z0_ hb); clear hb ho5))
 go_loopg [4] k (fun kq v4 w' => ∃ (x3_1 : List (List (S61))) (x4_1 : Int), v4 = .int .i64 x4_1 ∧ Aside0 (laws_toNodeSS.l0 kq l0 x3_1 x4_1 = some r) ∧ Aside0 (kq ≤ k) ∧ Aside0 (Kd.S (Kd.slice 61 k61) 25 w' w.heap.size (fun _ => True) v338 x3_1) ∧ Aside0 (Below w.heap.size w w'))
 case atStart => exact ⟨(y337), (0), z4_, H', ⟨Nat.le_refl _⟩, ⟨by (with_reducible repeat (first | apply Kd.S_alloc | apply Kd.S_drewN | apply Kd.S_drew)); exact HO339.out⟩, ⟨z0_⟩⟩
 case round =>
  clear H'
  try clear c1
  try clear c2
  try clear c2b0
  try clear c2b1
  try clear p2
  try clear c3
  try clear c3b0
  try clear c3b1
  obtain ⟨x3_1, x4_1, rfl, HA, HK1, HO_3, HB⟩ := hrel
  cases gk with
  | zero => exact absurd HA.out (by simp [laws_toNodeSS.l0])
  | succ k1 =>
   have H := HA.out
   clear HA
   simp only [laws_toNodeSS.l0] at H
   by_cases c6 : x4_1 < (l0.length : Int)
   ·rw [if_pos c6] at H
    have c6b0 := decide_eq_true c6
    clear c6
    obtain ⟨c7b0, H⟩ := ifd_ H
    obtain ⟨t341, A8, H⟩ := bnd_ H
    obtain ⟨c9b0, H⟩ := ifd_ H
    first | ((with_reducible have hz_ := gy_ H); obtain ⟨y344, Ny344, H⟩ := hz_) | (generalize hy_ : ((x3_1.set (x4_1 : Int).toNat t341) : List (List (S61))) = y344 at H; have Ny344 := Aside0.mk hy_.symm; clear hy_)
    have H' := Aside0.mk H
    clear H
    have p340 : 0 ≤ (x4_1 : Int) := odt_
    have q340 : x4_1 < (l0.length : Int) := odt_
    obtain ⟨ad340, A340_0, c340_0, e340, hx340_0, hl340_0, hi340_0⟩ := at_L3 HR0.out x4_1 p340 q340
    cases e340
    replace hx340_0 := (HB.out.cell (World.block_lt_of_cell? w _ hx340_0)).trans hx340_0
    have HR340_0 := Aside0.mk hi340_0
    have HC340_0 := Aside0.mk hl340_0
    clear hi340_0 hl340_0
    replace p340 := eq_true p340
    replace q340 := eq_true q340
    go_wp2_with (first | ((with_reducible refine gate_callee (f := 11) rfl ?_); refine goesL_ (some 20) rfl rfl Try.func11 (by kernel_rfl) rfl #[.slice A340_0 (rd_L3 l0 x4_1).length c340_0] rfl z1_ ?_; (with_reducible refine (laws_toNodeS.calls k1 _ _ (rd_L3 l0 x4_1) t341 _ ?side1 ?side2 A8.out).mono ?_); (case side1 => repeat (first | exact (Kd.C_below HR340_0.out HB.out) | (with_reducible refine Kd.C_alloc ?_ _) | (with_reducible refine Kd.C_drewN ?_ _) | (with_reducible refine Kd.C_drew ?_))); (case side2 => exact HC340_0.out); rintro e w11 ⟨v342, rfl, ho0, hb⟩; refine ⟨_, rfl, ?_⟩; replace HO_3 := Aside0.mk (Kd.S_elder' z203_ (Kd.R_base ho0) hb); have HO343 := Aside0.mk (Kd.R_lower ho0 (below_size z0_)); replace HB := Aside0.mk (below_step z0_ hb); (try clear hb ho0); have p10 : 0 ≤ (x4_1 : Int) := odt_; have q10 : (x4_1 : Int) < ((x3_1.length : Int) : Int) := odt_; obtain ⟨go10, co10, eo10, gb10, gl10, cl10, HG10⟩ := Kd.S_form HO_3.out (by omega); (first | cases eo10 | (injection eo10 with ea_ en_ ec_; (first | subst ea_ | (injection ea_ with ea_; subst ea_)); subst ec_; clear en_)); have GB10 := Aside0.mk gb10; have GG10 := Aside0.mk HG10; clear gb10 gl10 HG10; obtain ⟨_, ce10, hcl10, hM10, hcc10, hfr10, _, _⟩ := Kd.S_elem HO_3.out [] (x4_1 : Int) p10 q10; obtain ⟨ve10_0, rfl, ge10_0⟩ := hM10; have hx10_0 := hcc10 0 _ rfl; have hf10_0 := hfr10 0; (try simp only [show ((Kd.slice 61 k61)).sz = 1 from rfl, Nat.mul_one, Nat.add_zero] at hx10_0); (try simp only [show ((Kd.slice 61 k61)).sz = 1 from rfl, Nat.mul_one, Nat.add_zero] at hf10_0); clear hcl10 hcc10 hfr10; (try clear hM10); replace p10 := eq_true p10; replace q10 := eq_true q10; have n_ := Aside0.mk (Kd.S_mono (ok' := (fun k_ => some k_ ≠ (v342 : Value).ownBlock)) HO_3.out (fun k_ hk => hk.2)); clear HO_3; have HO_3 := n_; clear n_; have HX12 := Aside0.mk (show Kd.S (Kd.slice 61 k61) 25 w11 w.heap.size (fun k_ => ((fun _ => True)) k_ ∧ ¬ ((fun k_ => some k_ = (v342 : Value).ownBlock)) k_) (.slice (some ⟨go10, 0, none⟩) x3_1.length co10) x3_1 from (by (with_reducible repeat (first | apply Kd.S_alloc | apply Kd.S_drewN | apply Kd.S_drew)); exact Kd.S_mono HO_3.out (fun k_ hk => ⟨trivial, fun e_ => hk e_⟩))); obtain ⟨oki12, ce12, hcl12, hM12, hcc12, hfr12, hoki12, hH12⟩ := Kd.S_elem HX12.out [] (x4_1 : Int) (odt_) (by have h_ : (x4_1 : Int) < ((x3_1.length : Int) : Int) := odt_; first | exact h_ | (have e_ := (Kd.S_reads' HO_3.out).1; omega) | simpa using h_); obtain ⟨ve12_0, rfl, ge12_0⟩ := hM12; have HP12 := Kd.S_seg hH12 (odt_) (by have h_ : (x4_1 : Int) < ((x3_1.length : Int) : Int) := odt_; first | exact h_ | (have e_ := (Kd.S_reads' HO_3.out).1; omega) | simpa using h_) (seg := [v342]) (j := 0) (show 1 ≤ 1 from by decide) (x' := t341) (Kd.M_row (Kd.R_mono (Kd.R_tight rfl (Kd.R_mono (ok' := fun k_ => ((fun _ => True)) k_ ∧ k_ ≠ go10) (Kd.R_apart' (HO343.out) (Kd.S_typed HO_3.out) (by decide)) (fun k_ hk => ⟨trivial, fun e_ => (hk.2) (by rw [e_]; rfl)⟩))) (fun _ h_ => Or.inr (h_)))) (fun _ hk => hk) (fun k_ hk_ => ((Kd.R_mono (ok' := fun k_ => ((fun _ => True)) k_ ∧ k_ ≠ go10) (Kd.R_apart' (HO343.out) (Kd.S_typed HO_3.out) (by decide)) (fun k_ hk => ⟨trivial, fun e_ => (hk.2) (by rw [e_]; rfl)⟩))).1 k_ hk_.symm); have hx12_0 := hcc12 0 _ rfl; (try simp only [show ((Kd.slice 61 k61)).sz = 1 from rfl, Nat.mul_one, Nat.add_zero] at hx12_0); have hf12_0 := hfr12 0; (try simp only [show ((Kd.slice 61 k61)).sz = 1 from rfl, Nat.mul_one, Nat.add_zero] at hf12_0); clear hcl12 hcc12 hfr12 hoki12 hH12; (try clear hM12); (try simp only [show ((Kd.slice 61 k61)).sz = 1 from rfl, Nat.mul_one, Nat.add_zero] at HP12)) | ((with_reducible refine gate_store (t := 25) (p := 21) rfl ?_); refine store_event (t := 25) (p := 21) (v := ?vo_w13) (w1 := (w11.setCell ⟨go10, (x4_1 : Int).toNat, none⟩ (v342))) ?hg ?ho ?hn ?hr ?_; (case ho => rfl); (case hg => rfl); (case hn => rfl); (case hr => obtain ⟨A_, c_, e_⟩ := Kd.R_slice HO343.out; subst e_; first | (go_simp; done) | (go_simp; rfl)); intro w13 hw; have hg : w11.grownBy w13 (some go10) := (by rw [hw]; exact HP12.2); have hp_ : Kd.S (Kd.slice 61 k61) 25 w13 w.heap.size (fun _ => True) (.slice (some ⟨go10, 0, none⟩) x3_1.length co10) y344 := (by rw [hw, Ny344.out]; exact HP12.1); clear HP12; replace HO_3 := Aside0.mk (hp_); replace HB := Aside0.mk ((by rw [hw]; exact below_set (HB.out) GB10.out : Below w.heap.size w w13)); clear HO343; clear hg hw hp_))
    go_roundg k1
    case measure => have := HK1.out; omega
    case rel => exact ⟨(y344), (wrap64 (x4_1 + 1)), z4_, H', ⟨z116_⟩, ⟨z203_⟩, ⟨z0_⟩⟩
   ·rw [if_neg c6] at H
    have c6b0 := decide_eq_false c6
    clear c6
    obtain rfl := Option.some.inj H
    go_wp2
    go_ret
    exact ⟨_, z5_, z203_, z0_⟩

/-! ### laws_toIntS: function 43 -/
def laws_toIntS.l0 : Nat → List Int → List Int → Int → Option (List Int)
 | 0, _, _, _ => none
 | k + 1, x0, x3, x4 => if x4 < (x0.length : Int) then (if 0 ≤ x4 then (if x4 < (x3.length : Int) then (laws_toIntS.l0 k x0 (x3.set (x4 : Int).toNat (rd x0 x4)) (wrap64 (x4 + 1))) else (none)) else (none)) else (some x3)
def laws_toIntS.f (k : Nat) (l0 : List Int) : Option (List Int) := if 0 ≤ (l0.length : Int) then (if ((l0.length : Int) : Int).toNat ≤ 35184372088832 then (laws_toIntS.l0 k l0 (List.replicate ((l0.length : Int) : Int).toNat 0) 0) else (none)) else (none)
set_option maxHeartbeats 8000000 in
set_option maxRecDepth 100000 in
theorem laws_toIntS.calls (k : Nat) (A0 : Option Addr) (c0 : Nat) (l0 : List Int) (r : List Int) (w : World) (hr0 : Kd.C (Kd.int .i64) w A0 l0.length l0) (hc0 : l0.length ≤ c0) (h : laws_toIntS.f k l0 = some r) :
  Calls Try.prog 43 #[.slice A0 l0.length c0] w fun e w' => ∃ v0_ : Value, e = .returned (v0_) ∧ Kd.R (Kd.int .i64) 3 w' w.heap.size (fun _ => True) v0_ r ∧ Below w.heap.size w w' := by
 have HR0 := Aside0.mk hr0
 have HC0 := Aside0.mk hc0
 clear hr0 hc0
 have HB := Aside0.mk (Below.refl w.heap.size w)
 have H : (if 0 ≤ (l0.length : Int) then (if ((l0.length : Int) : Int).toNat ≤ 35184372088832 then (laws_toIntS.l0 k l0 (List.replicate ((l0.length : Int) : Int).toNat 0) 0) else (none)) else (none)) = some r := h
 clear h
 obtain ⟨c2b0, c2b1, H⟩ := ife_ H
 obtain ⟨c3b0, c3b1, H⟩ := ife_ H
 first | ((with_reducible have hz_ := gy_ H); obtain ⟨y345, Ny345, H⟩ := hz_) | (generalize hy_ : ((List.replicate ((l0.length : Int) : Int).toNat 0) : List Int) = y345 at H; have Ny345 := Aside0.mk hy_.symm; clear hy_)
 have H' := Aside0.mk H
 clear H
 go_enter Try.func43, Try.ntmps43
 go_wp2_with (first | ((with_reducible refine gate_dst (N := 7) rfl ?_); refine Kd.R_make (Kd.int .i64) _ 3 rfl (N := 7) rfl 30 _ _ rfl (l0.length : Int) rfl rfl Try.underlying30 (.int .i64 0) 8 info3 rfl (by decide) (by omega) 0 (ok := fun _ => True) (okp := fun _ => True) rfl (fun _ hk => hk) trivial (odt_) (Nat.le_trans (Nat.mul_le_mul_right _ (odt_ : (l0.length : Int).toNat ≤ 35184372088832)) (by omega)) (Below.refl _ _) (Nat.le_refl _) ?_; intro v346 w4 ho5 hb hg_ hnew_; clear hg_ hnew_; (first | rw [← Ny345.out] at ho5 | (simp only [Int.reduceToNat] at ho5; rw [← Ny345.out] at ho5)); have HO347 := Aside0.mk (Kd.R_lower ho5 (below_size z0_)); replace HB := Aside0.mk (below_step z0_ hb); clear hb ho5))
 go_loopg [4] k (fun kq v4 w' => ∃ (x3_1 : List Int) (x4_1 : Int), v4 = .int .i64 x4_1 ∧ Aside0 (laws_toIntS.l0 kq l0 x3_1 x4_1 = some r) ∧ Aside0 (kq ≤ k) ∧ Aside0 (Kd.R (Kd.int .i64) 3 w' w.heap.size (fun _ => True) v346 x3_1) ∧ Aside0 (Below w.heap.size w w'))
 case atStart => exact ⟨(y345), (0), z4_, H', ⟨Nat.le_refl _⟩, ⟨by (with_reducible repeat (first | apply Kd.R_alloc | apply Kd.R_drewN | apply Kd.R_drew)); exact HO347.out⟩, ⟨z0_⟩⟩
 case round =>
  clear H'
  try clear c2
  try clear c2b0
  try clear c2b1
  try clear p2
  try clear c3
  try clear c3b0
  try clear c3b1
  try clear c4
  obtain ⟨x3_1, x4_1, rfl, HA, HK1, HO_3, HB⟩ := hrel
  cases gk with
  | zero => exact absurd HA.out (by simp [laws_toIntS.l0])
  | succ k1 =>
   have H := HA.out
   clear HA
   simp only [laws_toIntS.l0] at H
   by_cases c6 : x4_1 < (l0.length : Int)
   ·rw [if_pos c6] at H
    have c6b0 := decide_eq_true c6
    clear c6
    obtain ⟨c7b0, H⟩ := ifd_ H
    obtain ⟨c8b0, H⟩ := ifd_ H
    first | ((with_reducible have hz_ := gy_ H); obtain ⟨y349, Ny349, H⟩ := hz_) | (generalize hy_ : ((x3_1.set (x4_1 : Int).toNat (rd l0 x4_1)) : List Int) = y349 at H; have Ny349 := Aside0.mk hy_.symm; clear hy_)
    have H' := Aside0.mk H
    clear H
    have p348 : 0 ≤ (x4_1 : Int) := odt_
    have q348 : x4_1 < (l0.length : Int) := odt_
    obtain ⟨ad348, e348, hx348_0⟩ := Kd.at_int HR0.out x4_1 p348 q348
    cases e348
    replace hx348_0 := (HB.out.cell (World.block_lt_of_cell? w _ hx348_0)).trans hx348_0
    replace p348 := eq_true p348
    replace q348 := eq_true q348
    have p9 : 0 ≤ (x4_1 : Int) := odt_
    have q9 : (x4_1 : Int) < ((x3_1.length : Int) : Int) := odt_
    obtain ⟨go9, co9, eo9, gb9, gl9, cl9, HG9⟩ := Kd.R_form HO_3.out (by omega)
    (first | cases eo9 | (injection eo9 with ea_ en_ ec_; (first | subst ea_ | (injection ea_ with ea_; subst ea_)); subst ec_; clear en_))
    have GB9 := Aside0.mk gb9
    have GG9 := Aside0.mk HG9
    clear gb9 gl9 HG9
    obtain ⟨hx9_0, hf9_0⟩ := Kd.R_celln 0 HO_3.out (x4_1 : Int) p9 q9
    replace p9 := eq_true p9
    replace q9 := eq_true q9
    have HP10 := Kd.R_putg HO_3.out (x4_1 : Int) (rd l0 x4_1)
    go_wp2_with (first | ((with_reducible refine gate_store (t := 3) (p := 20) rfl ?_); refine store_event (t := 3) (p := 20) (v := ?vo_w11) (w1 := (wr.setCell ⟨go9, (x4_1 : Int).toNat, none⟩ (.int .i64 (rd l0 x4_1)))) ?hg ?ho ?hn ?hr ?_; (case ho => rfl); (case hg => rfl); (case hn => rfl); (case hr => exact z9_); intro w11 hw; have hg : wr.grownBy w11 (some go9) := (by rw [hw]; exact HP10.2); have hp_ : Kd.R (Kd.int .i64) 3 w11 w.heap.size (fun _ => True) (.slice (some ⟨go9, 0, none⟩) x3_1.length co9) y349 := (by rw [hw, Ny349.out]; exact HP10.1); clear HP10; replace HO_3 := Aside0.mk (hp_); replace HB := Aside0.mk ((by rw [hw]; exact below_set (HB.out) GB9.out : Below w.heap.size w w11)); clear hg hw hp_))
    go_roundg k1
    case measure => have := HK1.out; omega
    case rel => exact ⟨(y349), (wrap64 (x4_1 + 1)), z4_, H', ⟨z116_⟩, ⟨z15_⟩, ⟨z0_⟩⟩
   ·rw [if_neg c6] at H
    have c6b0 := decide_eq_false c6
    clear c6
    obtain rfl := Option.some.inj H
    go_wp2
    go_ret
    exact ⟨_, z5_, z15_, z0_⟩

end Go.Proofs.Ytbmkobanpakohaa.PFnExactNearest
