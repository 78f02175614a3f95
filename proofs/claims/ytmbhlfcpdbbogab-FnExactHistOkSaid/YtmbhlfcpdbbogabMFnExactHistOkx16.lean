/- Laid by a program of this session out of the kit's print for the law FnExactHistOk: what it says of the machine is proved here, function by function; each contract under the conditions that it names. -/
import Derived.Test.YtmbhlfcpdbbogabMFnExactHistOkx0
import Derived.Test.YtmbhlfcpdbbogabMFnExactHistOkx15
namespace Go.Proofs.Ytmbhlfcpdbbogab.PFnExactHistOk
open Go.RowKit Go.Proofs.YtmbhlfcpdbbogabW.PrintWords Go.Proofs.YtmbhlfcpdbbogabW.PrintLast Go.Proofs.YtmbhlfcpdbbogabW.PrintMore
attribute [local go_sem] max2_int min2_int max_two min_two max_three min_three max_four min_four   -- for this text's walks alone
set_option linter.unusedVariables false
set_option linter.unusedSimpArgs false

/-! ### laws_eqOpS: function 129 -/
def laws_eqOpS.l0 : Nat → List (S148) → List (S148) → Int → Option (Bool)
 | 0, _, _, _ => none
 | k + 1, x0, x1, x5 => if x5 < (x0.length : Int) then (if 0 ≤ x5 then (if x5 < (x1.length : Int) then ((laws_eqOp.f k ((rd_T148 x0 x5).f0) ((rd_T148 x0 x5).f1) ((rd_T148 x0 x5).f2) ((rd_T148 x0 x5).f3) ((rd_T148 x0 x5).f4) ((rd_T148 x1 x5).f0) ((rd_T148 x1 x5).f1) ((rd_T148 x1 x5).f2) ((rd_T148 x1 x5).f3) ((rd_T148 x1 x5).f4)).bind fun t469 => (if t469 = true then (laws_eqOpS.l0 k x0 x1 (wrap64 (x5 + 1))) else (some false))) else (none)) else (none)) else (some true)
def laws_eqOpS.f (k : Nat) (l0 : List (S148)) (l1 : List (S148)) : Option (Bool) := if (l0.length : Int) = (l1.length : Int) then (laws_eqOpS.l0 k l0 l1 0) else (some false)
theorem laws_eqOpS.mono_l : ∀ k, (∀ y0 y1 y2, LeO (laws_eqOpS.l0 k y0 y1 y2) (laws_eqOpS.l0 (k + 1) y0 y1 y2))
 | 0 => fun _ _ _ r h => by simp [laws_eqOpS.l0] at h
 | k + 1 => by
  have ih0 := laws_eqOpS.mono_l k
  ·intro y0 y1 y2
   unfold laws_eqOpS.l0
   repeat' first | (with_reducible first | exact ih0 _ _ _ | exact laws_eqOp.mono _ _ _ _ _ _ _ _ _ _ _ | exact LeO.refl _ | exact LeO.none _ | refine LeO.ite ?_ ?_ | refine LeO.bind ?_ (fun _ => ?_)) | exact ih0 _ _ _ | exact laws_eqOp.mono _ _ _ _ _ _ _ _ _ _ _ | exact LeO.none _ | refine LeO.ite ?_ ?_ | refine LeO.bind ?_ (fun _ => ?_)
theorem laws_eqOpS.mono : ∀ a0 a1 k, LeO (laws_eqOpS.f k a0 a1) (laws_eqOpS.f (k + 1) a0 a1) := by
 intro a0 a1 k
 have ih0 := laws_eqOpS.mono_l k
 unfold laws_eqOpS.f
 repeat' first | (with_reducible first | exact ih0 _ _ _ | exact laws_eqOp.mono _ _ _ _ _ _ _ _ _ _ _ | exact LeO.refl _ | exact LeO.none _ | refine LeO.ite ?_ ?_ | refine LeO.bind ?_ (fun _ => ?_)) | exact ih0 _ _ _ | exact laws_eqOp.mono _ _ _ _ _ _ _ _ _ _ _ | exact LeO.none _ | refine LeO.ite ?_ ?_ | refine LeO.bind ?_ (fun _ => ?_)
def laws_eqOpS.T6 : Bool × List (List Nat × List Nat) := (true, [([], []), ([], []), ([0, 1], [0, 1]), ([2], [2]), ([], []), ([], []), ([4, 5], [4, 5]), ([6], [6]), ([3, 7], [3, 7]), ([8], [8])])
def laws_eqOpS.B6 : List Nat := [0, 0, 3, 7, 0, 0, 48, 112, 255, 511]
theorem laws_eqOpS.tab6 : rtab .any (opsOf Try.f129 6) = laws_eqOpS.T6 := by kernel_rfl
theorem laws_eqOpS.bits6 : waitsOk laws_eqOpS.T6.2 laws_eqOpS.B6 = true := by kernel_rfl
set_option maxHeartbeats 8000000 in
set_option maxRecDepth 100000 in
theorem laws_eqOpS.calls (k : Nat) (A0 : Option Addr) (c0 : Nat) (l0 : List (S148)) (A1 : Option Addr) (c1 : Nat) (l1 : List (S148)) (r : Bool) (w : World) (hr0 : Kd.C k148 w A0 l0.length l0) (hc0 : l0.length ≤ c0) (hr1 : Kd.C k148 w A1 l1.length l1) (hc1 : l1.length ≤ c1) (h : laws_eqOpS.f k l0 l1 = some r) :
  Calls Try.prog 129 #[.slice A0 l0.length c0, .slice A1 l1.length c1] w fun e w' => e = .returned (.bool r) ∧ Below w.heap.size w w' := by
 have hu148 := Try.underlying148
 have HR0 := Aside0.mk hr0
 have HC0 := Aside0.mk hc0
 clear hr0 hc0
 have HR1 := Aside0.mk hr1
 have HC1 := Aside0.mk hc1
 clear hr1 hc1
 have HB := Aside0.mk (Below.refl w.heap.size w)
 have H : (if (l0.length : Int) = (l1.length : Int) then (laws_eqOpS.l0 k l0 l1 0) else (some false)) = some r := h
 clear h
 by_cases c3 : (l0.length : Int) = (l1.length : Int)
 ·rw [if_pos c3] at H
  have c3b0 : ((l0.length : Int) == (l1.length : Int)) = true := beq_iff_eq.mpr c3
  have c3b1 : ((l0.length : Int) != (l1.length : Int)) = false := bne_eq_false_iff_eq.mpr c3
  have c3b2 : (l0.length == l1.length) = true := by first | simpa using c3 | (simp at c3 ⊢; omega)
  clear c3
  have H' := Aside0.mk H
  clear H
  go_enter Try.func129, Try.ntmps129
  go_wp2
  go_loopg [5] k (fun kq v5 w' => ∃ (x5_1 : Int), v5 = .int .i64 x5_1 ∧ Aside0 (laws_eqOpS.l0 kq l0 l1 x5_1 = some r) ∧ Aside0 (kq ≤ k) ∧ Aside0 (Below w.heap.size w w'))
  case atStart => exact ⟨(0), z9_, H', ⟨Nat.le_refl _⟩, ⟨z0_⟩⟩
  case round =>
   clear H'
   try clear c1
   try clear p2
   try clear c3
   try clear c3b0
   try clear c3b1
   try clear c3b2
   obtain ⟨x5_1, rfl, HA, HK1, HB⟩ := hrel
   cases gk with
   | zero => exact absurd HA.out (by simp [laws_eqOpS.l0])
   | succ k1 =>
    have H := HA.out
    clear HA
    simp only [laws_eqOpS.l0] at H
    by_cases c4 : x5_1 < (l0.length : Int)
    ·rw [if_pos c4] at H
     have c4b0 : decide (x5_1 < (l0.length : Int)) = true := decide_eq_true c4
     clear c4
     obtain ⟨c5b0, H⟩ := ifd_ H
     obtain ⟨c6b0, H⟩ := ifd_ H
     obtain ⟨t469, A7, H⟩ := bnd_ H
     by_cases c8 : t469 = true
     ·subst c8
      replace H := ift_ H
      have H' := Aside0.mk H
      clear H
      try go_wp2
      have n0_ := Aside0.mk (below_drew1 HB.out)
      clear HB
      have HB := n0_
      clear n0_
      have p467 : 0 ≤ (x5_1 : Int) := odt_
      have q467 : x5_1 < (l0.length : Int) := odt_
      obtain ⟨ad467, A467_1, c467_1, e467, hx467_0, hx467_1, hx467_2, hx467_3, hx467_4, hl467_1, hi467_1⟩ := at_T148 HR0.out x5_1 p467 q467
      have hw467_4 := hx467_4
      have hw467_3 := hx467_3
      have hw467_2 := hx467_2
      have hw467_1 := hx467_1
      have hw467_0 := hx467_0
      cases e467
      replace hx467_0 := (HB.out.cell (World.block_lt_of_cell? w _ hx467_0)).trans hx467_0
      replace hx467_1 := (HB.out.cell (World.block_lt_of_cell? w _ hx467_1)).trans hx467_1
      replace hx467_2 := (HB.out.cell (World.block_lt_of_cell? w _ hx467_2)).trans hx467_2
      replace hx467_3 := (HB.out.cell (World.block_lt_of_cell? w _ hx467_3)).trans hx467_3
      replace hx467_4 := (HB.out.cell (World.block_lt_of_cell? w _ hx467_4)).trans hx467_4
      have HR467_1 := Aside0.mk hi467_1
      have HC467_1 := Aside0.mk hl467_1
      clear hi467_1 hl467_1
      replace p467 := eq_true p467
      replace q467 := eq_true q467
      have p468 : 0 ≤ (x5_1 : Int) := odt_
      have q468 : x5_1 < (l1.length : Int) := odt_
      obtain ⟨ad468, A468_1, c468_1, e468, hx468_0, hx468_1, hx468_2, hx468_3, hx468_4, hl468_1, hi468_1⟩ := at_T148 HR1.out x5_1 p468 q468
      have hw468_4 := hx468_4
      have hw468_3 := hx468_3
      have hw468_2 := hx468_2
      have hw468_1 := hx468_1
      have hw468_0 := hx468_0
      cases e468
      replace hx468_0 := (HB.out.cell (World.block_lt_of_cell? w _ hx468_0)).trans hx468_0
      replace hx468_1 := (HB.out.cell (World.block_lt_of_cell? w _ hx468_1)).trans hx468_1
      replace hx468_2 := (HB.out.cell (World.block_lt_of_cell? w _ hx468_2)).trans hx468_2
      replace hx468_3 := (HB.out.cell (World.block_lt_of_cell? w _ hx468_3)).trans hx468_3
      replace hx468_4 := (HB.out.cell (World.block_lt_of_cell? w _ hx468_4)).trans hx468_4
      have HR468_1 := Aside0.mk hi468_1
      have HC468_1 := Aside0.mk hl468_1
      clear hi468_1 hl468_1
      replace p468 := eq_true p468
      replace q468 := eq_true q468
      refine start_ (n := 10) (S := fun w' => w'.cell? (ad467.add ((x5_1).toNat * 5)) = some (.int .i64 ((rd_T148 l0 x5_1).f0)) ∧ w'.cell? ⟨(ad467.add ((x5_1).toNat * 5)).block, (ad467.add ((x5_1).toNat * 5)).off + 1, none⟩ = some (.slice A467_1 ((rd_T148 l0 x5_1).f1).length c467_1) ∧ w'.cell? ⟨(ad467.add ((x5_1).toNat * 5)).block, (ad467.add ((x5_1).toNat * 5)).off + 2, none⟩ = some (.int .i64 ((rd_T148 l0 x5_1).f2)) ∧ w'.cell? ⟨(ad467.add ((x5_1).toNat * 5)).block, (ad467.add ((x5_1).toNat * 5)).off + 3, none⟩ = some (.int .i64 ((rd_T148 l0 x5_1).f3)) ∧ w'.cell? ⟨(ad467.add ((x5_1).toNat * 5)).block, (ad467.add ((x5_1).toNat * 5)).off + 4, none⟩ = some (.int .i64 ((rd_T148 l0 x5_1).f4)) ∧ w'.cell? (ad468.add ((x5_1).toNat * 5)) = some (.int .i64 ((rd_T148 l1 x5_1).f0)) ∧ w'.cell? ⟨(ad468.add ((x5_1).toNat * 5)).block, (ad468.add ((x5_1).toNat * 5)).off + 1, none⟩ = some (.slice A468_1 ((rd_T148 l1 x5_1).f1).length c468_1) ∧ w'.cell? ⟨(ad468.add ((x5_1).toNat * 5)).block, (ad468.add ((x5_1).toNat * 5)).off + 2, none⟩ = some (.int .i64 ((rd_T148 l1 x5_1).f2)) ∧ w'.cell? ⟨(ad468.add ((x5_1).toNat * 5)).block, (ad468.add ((x5_1).toNat * 5)).off + 3, none⟩ = some (.int .i64 ((rd_T148 l1 x5_1).f3)) ∧ w'.cell? ⟨(ad468.add ((x5_1).toNat * 5)).block, (ad468.add ((x5_1).toNat * 5)).off + 4, none⟩ = some (.int .i64 ((rd_T148 l1 x5_1).f4))) (ds := []) (fl_ 10 0) (by kernel_rfl) rfl (fl_zero _) ⟨((HB.out.cell (World.block_lt_of_cell? w _ hw467_0)).trans hw467_0), ((HB.out.cell (World.block_lt_of_cell? w _ hw467_1)).trans hw467_1), ((HB.out.cell (World.block_lt_of_cell? w _ hw467_2)).trans hw467_2), ((HB.out.cell (World.block_lt_of_cell? w _ hw467_3)).trans hw467_3), ((HB.out.cell (World.block_lt_of_cell? w _ hw467_4)).trans hw467_4), ((HB.out.cell (World.block_lt_of_cell? w _ hw468_0)).trans hw468_0), ((HB.out.cell (World.block_lt_of_cell? w _ hw468_1)).trans hw468_1), ((HB.out.cell (World.block_lt_of_cell? w _ hw468_2)).trans hw468_2), ((HB.out.cell (World.block_lt_of_cell? w _ hw468_3)).trans hw468_3), ((HB.out.cell (World.block_lt_of_cell? w _ hw468_4)).trans hw468_4)⟩ (fun hHeld => ?_); refine with_tabW laws_eqOpS.tab6 laws_eqOpS.bits6 (fun HT_ HW_ => ?_)
      generalize wr.drew = w9 at HB HR467_1 HR468_1 hx467_0 hx467_1 hx467_2 hx467_3 hx467_4 hx468_0 hx468_1 hx468_2 hx468_3 hx468_4 hHeld ⊢
      iterate 3 refine zp_ HT_ rfl rfl (by kernel_rfl) (fun _ _ _ h => h) (by rfl) ?_
      refine zpg_ (i := 4) (ra_ [3, 1, 1, 5]) HT_ rfl rfl (by kernel_rfl) (fun _ _ _ h => h) (by rfl) ?_
      refine zpg_ (i := 5) (ra_ [3, 1, 2, 4]) HT_ rfl rfl (by kernel_rfl) (fun _ _ _ h => h) (by rfl) ?_
      refine zpg_ (i := 6) (ra_ [3, 1, 3, 3]) HT_ rfl rfl (by kernel_rfl) (fun _ _ _ h => h) (by rfl) ?_
      refine ztg_ (i := 3) (fl_ 10 7) HT_ HW_ rfl rfl (by kernel_rfl) (fun _ _ _ h => h) (by rfl) hHeld ?_ z130_
      refine zt_ HT_ HW_ rfl rfl (by kernel_rfl) (fun _ _ _ h => h) (by rfl) hHeld ?_ z130_
      refine one_ (i := 8) (N := some 25) (fl_ 10 9) rfl rfl (one_of HT_.out (by kernel_rfl)) (by decide) (fun K hK => ?_)
      refine goes_ Try.func147 (by kernel_rfl) rfl #[.agg #[.int .i64 ((rd_T148 l0 x5_1).f0), .slice A467_1 ((rd_T148 l0 x5_1).f1).length c467_1, .int .i64 ((rd_T148 l0 x5_1).f2), .int .i64 ((rd_T148 l0 x5_1).f3), .int .i64 ((rd_T148 l0 x5_1).f4)], .agg #[.int .i64 ((rd_T148 l1 x5_1).f0), .slice A468_1 ((rd_T148 l1 x5_1).f1).length c468_1, .int .i64 ((rd_T148 l1 x5_1).f2), .int .i64 ((rd_T148 l1 x5_1).f3), .int .i64 ((rd_T148 l1 x5_1).f4)]] (by rfl) rfl rfl z1_ ?_
      with_reducible refine (laws_eqOp.calls k1 ((rd_T148 l0 x5_1).f0) _ _ ((rd_T148 l0 x5_1).f1) ((rd_T148 l0 x5_1).f2) ((rd_T148 l0 x5_1).f3) ((rd_T148 l0 x5_1).f4) ((rd_T148 l1 x5_1).f0) _ _ ((rd_T148 l1 x5_1).f1) ((rd_T148 l1 x5_1).f2) ((rd_T148 l1 x5_1).f3) ((rd_T148 l1 x5_1).f4) true _ ?side1 ?side2 ?side3 ?side4 A7.out).mono ?_
      (case side1 => exact z114_)
      (case side2 => exact HC467_1.out)
      (case side3 => exact z115_)
      (case side4 => exact HC468_1.out)
      rintro e w10 ⟨rfl, hb⟩
      refine ⟨_, rfl, ?_⟩
      have n0_ := Aside0.mk (below_step z0_ hb)
      clear HB
      have HB := n0_
      clear n0_
      (try clear hb)
      (try clear hb2)
      (try clear hk)
      (try clear hi)
      refine hK.out _ _ ⟨((HB.out.cell (World.block_lt_of_cell? w _ hw467_0)).trans hw467_0), ((HB.out.cell (World.block_lt_of_cell? w _ hw467_1)).trans hw467_1), ((HB.out.cell (World.block_lt_of_cell? w _ hw467_2)).trans hw467_2), ((HB.out.cell (World.block_lt_of_cell? w _ hw467_3)).trans hw467_3), ((HB.out.cell (World.block_lt_of_cell? w _ hw467_4)).trans hw467_4), ((HB.out.cell (World.block_lt_of_cell? w _ hw468_0)).trans hw468_0), ((HB.out.cell (World.block_lt_of_cell? w _ hw468_1)).trans hw468_1), ((HB.out.cell (World.block_lt_of_cell? w _ hw468_2)).trans hw468_2), ((HB.out.cell (World.block_lt_of_cell? w _ hw468_3)).trans hw468_3), ((HB.out.cell (World.block_lt_of_cell? w _ hw468_4)).trans hw468_4)⟩ (fun hHeld => ?_)
      clear hK K
      refine zn_ rfl ?_
      refine zp_ HT_ rfl rfl (by kernel_rfl) (fun _ _ _ h => h) (by rfl) ?_
      refine done_ (done_of HT_.out (by kernel_rfl)) ?_
      try go_wp2
      go_roundg k1
      case measure => have := HK1.out; omega
      case rel => exact ⟨(wrap64 (x5_1 + 1)), z9_, H', ⟨z78_⟩, ⟨z0_⟩⟩
     ·replace c8 := Bool.eq_false_iff.mpr c8
      subst c8
      replace H := iff_ H
      obtain rfl := Option.some.inj H
      try go_wp2
      have n0_ := Aside0.mk (below_drew1 HB.out)
      clear HB
      have HB := n0_
      clear n0_
      have p467 : 0 ≤ (x5_1 : Int) := odt_
      have q467 : x5_1 < (l0.length : Int) := odt_
      obtain ⟨ad467, A467_1, c467_1, e467, hx467_0, hx467_1, hx467_2, hx467_3, hx467_4, hl467_1, hi467_1⟩ := at_T148 HR0.out x5_1 p467 q467
      have hw467_4 := hx467_4
      have hw467_3 := hx467_3
      have hw467_2 := hx467_2
      have hw467_1 := hx467_1
      have hw467_0 := hx467_0
      cases e467
      replace hx467_0 := (HB.out.cell (World.block_lt_of_cell? w _ hx467_0)).trans hx467_0
      replace hx467_1 := (HB.out.cell (World.block_lt_of_cell? w _ hx467_1)).trans hx467_1
      replace hx467_2 := (HB.out.cell (World.block_lt_of_cell? w _ hx467_2)).trans hx467_2
      replace hx467_3 := (HB.out.cell (World.block_lt_of_cell? w _ hx467_3)).trans hx467_3
      replace hx467_4 := (HB.out.cell (World.block_lt_of_cell? w _ hx467_4)).trans hx467_4
      have HR467_1 := Aside0.mk hi467_1
      have HC467_1 := Aside0.mk hl467_1
      clear hi467_1 hl467_1
      replace p467 := eq_true p467
      replace q467 := eq_true q467
      have p468 : 0 ≤ (x5_1 : Int) := odt_
      have q468 : x5_1 < (l1.length : Int) := odt_
      obtain ⟨ad468, A468_1, c468_1, e468, hx468_0, hx468_1, hx468_2, hx468_3, hx468_4, hl468_1, hi468_1⟩ := at_T148 HR1.out x5_1 p468 q468
      have hw468_4 := hx468_4
      have hw468_3 := hx468_3
      have hw468_2 := hx468_2
      have hw468_1 := hx468_1
      have hw468_0 := hx468_0
      cases e468
      replace hx468_0 := (HB.out.cell (World.block_lt_of_cell? w _ hx468_0)).trans hx468_0
      replace hx468_1 := (HB.out.cell (World.block_lt_of_cell? w _ hx468_1)).trans hx468_1
      replace hx468_2 := (HB.out.cell (World.block_lt_of_cell? w _ hx468_2)).trans hx468_2
      replace hx468_3 := (HB.out.cell (World.block_lt_of_cell? w _ hx468_3)).trans hx468_3
      replace hx468_4 := (HB.out.cell (World.block_lt_of_cell? w _ hx468_4)).trans hx468_4
      have HR468_1 := Aside0.mk hi468_1
      have HC468_1 := Aside0.mk hl468_1
      clear hi468_1 hl468_1
      replace p468 := eq_true p468
      replace q468 := eq_true q468
      refine start_ (n := 10) (S := fun w' => w'.cell? (ad467.add ((x5_1).toNat * 5)) = some (.int .i64 ((rd_T148 l0 x5_1).f0)) ∧ w'.cell? ⟨(ad467.add ((x5_1).toNat * 5)).block, (ad467.add ((x5_1).toNat * 5)).off + 1, none⟩ = some (.slice A467_1 ((rd_T148 l0 x5_1).f1).length c467_1) ∧ w'.cell? ⟨(ad467.add ((x5_1).toNat * 5)).block, (ad467.add ((x5_1).toNat * 5)).off + 2, none⟩ = some (.int .i64 ((rd_T148 l0 x5_1).f2)) ∧ w'.cell? ⟨(ad467.add ((x5_1).toNat * 5)).block, (ad467.add ((x5_1).toNat * 5)).off + 3, none⟩ = some (.int .i64 ((rd_T148 l0 x5_1).f3)) ∧ w'.cell? ⟨(ad467.add ((x5_1).toNat * 5)).block, (ad467.add ((x5_1).toNat * 5)).off + 4, none⟩ = some (.int .i64 ((rd_T148 l0 x5_1).f4)) ∧ w'.cell? (ad468.add ((x5_1).toNat * 5)) = some (.int .i64 ((rd_T148 l1 x5_1).f0)) ∧ w'.cell? ⟨(ad468.add ((x5_1).toNat * 5)).block, (ad468.add ((x5_1).toNat * 5)).off + 1, none⟩ = some (.slice A468_1 ((rd_T148 l1 x5_1).f1).length c468_1) ∧ w'.cell? ⟨(ad468.add ((x5_1).toNat * 5)).block, (ad468.add ((x5_1).toNat * 5)).off + 2, none⟩ = some (.int .i64 ((rd_T148 l1 x5_1).f2)) ∧ w'.cell? ⟨(ad468.add ((x5_1).toNat * 5)).block, (ad468.add ((x5_1).toNat * 5)).off + 3, none⟩ = some (.int .i64 ((rd_T148 l1 x5_1).f3)) ∧ w'.cell? ⟨(ad468.add ((x5_1).toNat * 5)).block, (ad468.add ((x5_1).toNat * 5)).off + 4, none⟩ = some (.int .i64 ((rd_T148 l1 x5_1).f4))) (ds := []) (fl_ 10 0) (by kernel_rfl) rfl (fl_zero _) ⟨((HB.out.cell (World.block_lt_of_cell? w _ hw467_0)).trans hw467_0), ((HB.out.cell (World.block_lt_of_cell? w _ hw467_1)).trans hw467_1), ((HB.out.cell (World.block_lt_of_cell? w _ hw467_2)).trans hw467_2), ((HB.out.cell (World.block_lt_of_cell? w _ hw467_3)).trans hw467_3), ((HB.out.cell (World.block_lt_of_cell? w _ hw467_4)).trans hw467_4), ((HB.out.cell (World.block_lt_of_cell? w _ hw468_0)).trans hw468_0), ((HB.out.cell (World.block_lt_of_cell? w _ hw468_1)).trans hw468_1), ((HB.out.cell (World.block_lt_of_cell? w _ hw468_2)).trans hw468_2), ((HB.out.cell (World.block_lt_of_cell? w _ hw468_3)).trans hw468_3), ((HB.out.cell (World.block_lt_of_cell? w _ hw468_4)).trans hw468_4)⟩ (fun hHeld => ?_); refine with_tabW laws_eqOpS.tab6 laws_eqOpS.bits6 (fun HT_ HW_ => ?_)
      generalize wr.drew = w11 at HB HR467_1 HR468_1 hx467_0 hx467_1 hx467_2 hx467_3 hx467_4 hx468_0 hx468_1 hx468_2 hx468_3 hx468_4 hHeld ⊢
      iterate 3 refine zp_ HT_ rfl rfl (by kernel_rfl) (fun _ _ _ h => h) (by rfl) ?_
      refine zpg_ (i := 4) (ra_ [3, 1, 1, 5]) HT_ rfl rfl (by kernel_rfl) (fun _ _ _ h => h) (by rfl) ?_
      refine zpg_ (i := 5) (ra_ [3, 1, 2, 4]) HT_ rfl rfl (by kernel_rfl) (fun _ _ _ h => h) (by rfl) ?_
      refine zpg_ (i := 6) (ra_ [3, 1, 3, 3]) HT_ rfl rfl (by kernel_rfl) (fun _ _ _ h => h) (by rfl) ?_
      refine ztg_ (i := 3) (fl_ 10 7) HT_ HW_ rfl rfl (by kernel_rfl) (fun _ _ _ h => h) (by rfl) hHeld ?_ z130_
      refine zt_ HT_ HW_ rfl rfl (by kernel_rfl) (fun _ _ _ h => h) (by rfl) hHeld ?_ z130_
      refine one_ (i := 8) (N := some 25) (fl_ 10 9) rfl rfl (one_of HT_.out (by kernel_rfl)) (by decide) (fun K hK => ?_)
      refine goes_ Try.func147 (by kernel_rfl) rfl #[.agg #[.int .i64 ((rd_T148 l0 x5_1).f0), .slice A467_1 ((rd_T148 l0 x5_1).f1).length c467_1, .int .i64 ((rd_T148 l0 x5_1).f2), .int .i64 ((rd_T148 l0 x5_1).f3), .int .i64 ((rd_T148 l0 x5_1).f4)], .agg #[.int .i64 ((rd_T148 l1 x5_1).f0), .slice A468_1 ((rd_T148 l1 x5_1).f1).length c468_1, .int .i64 ((rd_T148 l1 x5_1).f2), .int .i64 ((rd_T148 l1 x5_1).f3), .int .i64 ((rd_T148 l1 x5_1).f4)]] (by rfl) rfl rfl z1_ ?_
      with_reducible refine (laws_eqOp.calls k1 ((rd_T148 l0 x5_1).f0) _ _ ((rd_T148 l0 x5_1).f1) ((rd_T148 l0 x5_1).f2) ((rd_T148 l0 x5_1).f3) ((rd_T148 l0 x5_1).f4) ((rd_T148 l1 x5_1).f0) _ _ ((rd_T148 l1 x5_1).f1) ((rd_T148 l1 x5_1).f2) ((rd_T148 l1 x5_1).f3) ((rd_T148 l1 x5_1).f4) false _ ?side1 ?side2 ?side3 ?side4 A7.out).mono ?_
      (case side1 => exact z114_)
      (case side2 => exact HC467_1.out)
      (case side3 => exact z115_)
      (case side4 => exact HC468_1.out)
      rintro e w12 ⟨rfl, hb⟩
      refine ⟨_, rfl, ?_⟩
      have n0_ := Aside0.mk (below_step z0_ hb)
      clear HB
      have HB := n0_
      clear n0_
      (try clear hb)
      (try clear hb2)
      (try clear hk)
      (try clear hi)
      refine hK.out _ _ ⟨((HB.out.cell (World.block_lt_of_cell? w _ hw467_0)).trans hw467_0), ((HB.out.cell (World.block_lt_of_cell? w _ hw467_1)).trans hw467_1), ((HB.out.cell (World.block_lt_of_cell? w _ hw467_2)).trans hw467_2), ((HB.out.cell (World.block_lt_of_cell? w _ hw467_3)).trans hw467_3), ((HB.out.cell (World.block_lt_of_cell? w _ hw467_4)).trans hw467_4), ((HB.out.cell (World.block_lt_of_cell? w _ hw468_0)).trans hw468_0), ((HB.out.cell (World.block_lt_of_cell? w _ hw468_1)).trans hw468_1), ((HB.out.cell (World.block_lt_of_cell? w _ hw468_2)).trans hw468_2), ((HB.out.cell (World.block_lt_of_cell? w _ hw468_3)).trans hw468_3), ((HB.out.cell (World.block_lt_of_cell? w _ hw468_4)).trans hw468_4)⟩ (fun hHeld => ?_)
      clear hK K
      refine zn_ rfl ?_
      refine zp_ HT_ rfl rfl (by kernel_rfl) (fun _ _ _ h => h) (by rfl) ?_
      refine done_ (done_of HT_.out (by kernel_rfl)) ?_
      try go_wp2
      go_ret
      exact ⟨z3_, z0_⟩
    ·rw [if_neg c4] at H
     have c4b0 : decide (x5_1 < (l0.length : Int)) = false := decide_eq_false c4
     clear c4
     obtain rfl := Option.some.inj H
     go_wp2
     go_ret
     exact ⟨z3_, z0_⟩
 ·rw [if_neg c3] at H
  have c3b0 : ((l0.length : Int) == (l1.length : Int)) = false := beq_eq_false_iff_ne.mpr c3
  have c3b1 : ((l0.length : Int) != (l1.length : Int)) = true := bne_iff_ne.mpr c3
  have c3b2 : (l0.length == l1.length) = false := by first | simpa using c3 | (simp at c3 ⊢; omega)
  obtain rfl := Option.some.inj H
  go_enter Try.func129, Try.ntmps129
  go_wp2
  go_ret
  exact ⟨z3_, z0_⟩

/-! ### laws_eqOpSS: function 104 -/
def laws_eqOpSS.l0 : Nat → List (List (S148)) → List (List (S148)) → Int → Option (Bool)
 | 0, _, _, _ => none
 | k + 1, x0, x1, x5 => if x5 < (x0.length : Int) then (if 0 ≤ x5 then (if x5 < (x1.length : Int) then ((laws_eqOpS.f k (rd_L7 x0 x5) (rd_L7 x1 x5)).bind fun t472 => (if t472 = true then (laws_eqOpSS.l0 k x0 x1 (wrap64 (x5 + 1))) else (some false))) else (none)) else (none)) else (some true)
def laws_eqOpSS.f (k : Nat) (l0 : List (List (S148))) (l1 : List (List (S148))) : Option (Bool) := if (l0.length : Int) = (l1.length : Int) then (laws_eqOpSS.l0 k l0 l1 0) else (some false)
theorem laws_eqOpSS.mono_l : ∀ k, (∀ y0 y1 y2, LeO (laws_eqOpSS.l0 k y0 y1 y2) (laws_eqOpSS.l0 (k + 1) y0 y1 y2))
 | 0 => fun _ _ _ r h => by simp [laws_eqOpSS.l0] at h
 | k + 1 => by
  have ih0 := laws_eqOpSS.mono_l k
  ·intro y0 y1 y2
   unfold laws_eqOpSS.l0
   repeat' first | (with_reducible first | exact ih0 _ _ _ | exact laws_eqOpS.mono _ _ _ | exact LeO.refl _ | exact LeO.none _ | refine LeO.ite ?_ ?_ | refine LeO.bind ?_ (fun _ => ?_)) | exact ih0 _ _ _ | exact laws_eqOpS.mono _ _ _ | exact LeO.none _ | refine LeO.ite ?_ ?_ | refine LeO.bind ?_ (fun _ => ?_)
theorem laws_eqOpSS.mono : ∀ a0 a1 k, LeO (laws_eqOpSS.f k a0 a1) (laws_eqOpSS.f (k + 1) a0 a1) := by
 intro a0 a1 k
 have ih0 := laws_eqOpSS.mono_l k
 unfold laws_eqOpSS.f
 repeat' first | (with_reducible first | exact ih0 _ _ _ | exact laws_eqOpS.mono _ _ _ | exact LeO.refl _ | exact LeO.none _ | refine LeO.ite ?_ ?_ | refine LeO.bind ?_ (fun _ => ?_)) | exact ih0 _ _ _ | exact laws_eqOpS.mono _ _ _ | exact LeO.none _ | refine LeO.ite ?_ ?_ | refine LeO.bind ?_ (fun _ => ?_)
def laws_eqOpSS.T6 : Bool × List (List Nat × List Nat) := (true, [([], []), ([], []), ([0, 1], [0, 1]), ([2], [2]), ([], []), ([], []), ([4, 5], [4, 5]), ([6], [6]), ([3, 7], [3, 7]), ([8], [8])])
def laws_eqOpSS.B6 : List Nat := [0, 0, 3, 7, 0, 0, 48, 112, 255, 511]
theorem laws_eqOpSS.tab6 : rtab .any (opsOf Try.f104 6) = laws_eqOpSS.T6 := by kernel_rfl
theorem laws_eqOpSS.bits6 : waitsOk laws_eqOpSS.T6.2 laws_eqOpSS.B6 = true := by kernel_rfl
set_option maxHeartbeats 8000000 in
set_option maxRecDepth 100000 in
theorem laws_eqOpSS.calls (k : Nat) (A0 : Option Addr) (c0 : Nat) (l0 : List (List (S148))) (A1 : Option Addr) (c1 : Nat) (l1 : List (List (S148))) (r : Bool) (w : World) (hr0 : Kd.C (Kd.slice 148 k148) w A0 l0.length l0) (hc0 : l0.length ≤ c0) (hr1 : Kd.C (Kd.slice 148 k148) w A1 l1.length l1) (hc1 : l1.length ≤ c1) (h : laws_eqOpSS.f k l0 l1 = some r) :
  Calls Try.prog 104 #[.slice A0 l0.length c0, .slice A1 l1.length c1] w fun e w' => e = .returned (.bool r) ∧ Below w.heap.size w w' := by
 have HR0 := Aside0.mk hr0
 have HC0 := Aside0.mk hc0
 clear hr0 hc0
 have HR1 := Aside0.mk hr1
 have HC1 := Aside0.mk hc1
 clear hr1 hc1
 have HB := Aside0.mk (Below.refl w.heap.size w)
 have H : (if (l0.length : Int) = (l1.length : Int) then (laws_eqOpSS.l0 k l0 l1 0) else (some false)) = some r := h
 clear h
 by_cases c3 : (l0.length : Int) = (l1.length : Int)
 ·rw [if_pos c3] at H
  have c3b0 : ((l0.length : Int) == (l1.length : Int)) = true := beq_iff_eq.mpr c3
  have c3b1 : ((l0.length : Int) != (l1.length : Int)) = false := bne_eq_false_iff_eq.mpr c3
  have c3b2 : (l0.length == l1.length) = true := by first | simpa using c3 | (simp at c3 ⊢; omega)
  clear c3
  have H' := Aside0.mk H
  clear H
  go_enter Try.func104, Try.ntmps104
  go_wp2
  go_loopg [5] k (fun kq v5 w' => ∃ (x5_1 : Int), v5 = .int .i64 x5_1 ∧ Aside0 (laws_eqOpSS.l0 kq l0 l1 x5_1 = some r) ∧ Aside0 (kq ≤ k) ∧ Aside0 (Below w.heap.size w w'))
  case atStart => exact ⟨(0), z9_, H', ⟨Nat.le_refl _⟩, ⟨z0_⟩⟩
  case round =>
   clear H'
   try clear c1
   try clear p2
   try clear c3
   try clear c3b0
   try clear c3b1
   try clear c3b2
   obtain ⟨x5_1, rfl, HA, HK1, HB⟩ := hrel
   cases gk with
   | zero => exact absurd HA.out (by simp [laws_eqOpSS.l0])
   | succ k1 =>
    have H := HA.out
    clear HA
    simp only [laws_eqOpSS.l0] at H
    by_cases c4 : x5_1 < (l0.length : Int)
    ·rw [if_pos c4] at H
     have c4b0 : decide (x5_1 < (l0.length : Int)) = true := decide_eq_true c4
     clear c4
     obtain ⟨c5b0, H⟩ := ifd_ H
     obtain ⟨c6b0, H⟩ := ifd_ H
     obtain ⟨t472, A7, H⟩ := bnd_ H
     by_cases c8 : t472 = true
     ·subst c8
      replace H := ift_ H
      have H' := Aside0.mk H
      clear H
      try go_wp2
      have n0_ := Aside0.mk (below_drew1 HB.out)
      clear HB
      have HB := n0_
      clear n0_
      have p470 : 0 ≤ (x5_1 : Int) := odt_
      have q470 : x5_1 < (l0.length : Int) := odt_
      obtain ⟨ad470, A470_0, c470_0, e470, hx470_0, hl470_0, hi470_0⟩ := at_L7 HR0.out x5_1 p470 q470
      have hw470_0 := hx470_0
      cases e470
      replace hx470_0 := (HB.out.cell (World.block_lt_of_cell? w _ hx470_0)).trans hx470_0
      have HR470_0 := Aside0.mk hi470_0
      have HC470_0 := Aside0.mk hl470_0
      clear hi470_0 hl470_0
      replace p470 := eq_true p470
      replace q470 := eq_true q470
      have p471 : 0 ≤ (x5_1 : Int) := odt_
      have q471 : x5_1 < (l1.length : Int) := odt_
      obtain ⟨ad471, A471_0, c471_0, e471, hx471_0, hl471_0, hi471_0⟩ := at_L7 HR1.out x5_1 p471 q471
      have hw471_0 := hx471_0
      cases e471
      replace hx471_0 := (HB.out.cell (World.block_lt_of_cell? w _ hx471_0)).trans hx471_0
      have HR471_0 := Aside0.mk hi471_0
      have HC471_0 := Aside0.mk hl471_0
      clear hi471_0 hl471_0
      replace p471 := eq_true p471
      replace q471 := eq_true q471
      refine start_ (n := 10) (S := fun w' => w'.cell? (ad470.add (x5_1).toNat) = some (.slice A470_0 (rd_L7 l0 x5_1).length c470_0) ∧ w'.cell? (ad471.add (x5_1).toNat) = some (.slice A471_0 (rd_L7 l1 x5_1).length c471_0)) (ds := []) (fl_ 10 0) (by kernel_rfl) rfl (fl_zero _) ⟨((HB.out.cell (World.block_lt_of_cell? w _ hw470_0)).trans hw470_0), ((HB.out.cell (World.block_lt_of_cell? w _ hw471_0)).trans hw471_0)⟩ (fun hHeld => ?_); refine with_tabW laws_eqOpSS.tab6 laws_eqOpSS.bits6 (fun HT_ HW_ => ?_)
      generalize wr.drew = w9 at HB HR470_0 HR471_0 hx470_0 hx471_0 hHeld ⊢
      iterate 3 refine zp_ HT_ rfl rfl (by kernel_rfl) (fun _ _ _ h => h) (by rfl) ?_
      refine zpg_ (i := 4) (ra_ [3, 1, 1, 5]) HT_ rfl rfl (by kernel_rfl) (fun _ _ _ h => h) (by rfl) ?_
      refine zpg_ (i := 5) (ra_ [3, 1, 2, 4]) HT_ rfl rfl (by kernel_rfl) (fun _ _ _ h => h) (by rfl) ?_
      refine zpg_ (i := 6) (ra_ [3, 1, 3, 3]) HT_ rfl rfl (by kernel_rfl) (fun _ _ _ h => h) (by rfl) ?_
      refine ztg_ (i := 3) (fl_ 10 7) HT_ HW_ rfl rfl (by kernel_rfl) (fun _ _ _ h => h) (by rfl) hHeld ?_ z66_
      refine zt_ HT_ HW_ rfl rfl (by kernel_rfl) (fun _ _ _ h => h) (by rfl) hHeld ?_ z66_
      refine one_ (i := 8) (N := some 25) (fl_ 10 9) rfl rfl (one_of HT_.out (by kernel_rfl)) (by decide) (fun K hK => ?_)
      refine goes_ Try.func129 (by kernel_rfl) rfl #[.slice A470_0 (rd_L7 l0 x5_1).length c470_0, .slice A471_0 (rd_L7 l1 x5_1).length c471_0] (by rfl) rfl rfl z1_ ?_
      with_reducible refine (laws_eqOpS.calls k1 _ _ (rd_L7 l0 x5_1) _ _ (rd_L7 l1 x5_1) true _ ?side1 ?side2 ?side3 ?side4 A7.out).mono ?_
      (case side1 => exact z116_)
      (case side2 => exact HC470_0.out)
      (case side3 => exact z117_)
      (case side4 => exact HC471_0.out)
      rintro e w10 ⟨rfl, hb⟩
      refine ⟨_, rfl, ?_⟩
      have n0_ := Aside0.mk (below_step z0_ hb)
      clear HB
      have HB := n0_
      clear n0_
      (try clear hb)
      (try clear hb2)
      (try clear hk)
      (try clear hi)
      refine hK.out _ _ ⟨((HB.out.cell (World.block_lt_of_cell? w _ hw470_0)).trans hw470_0), ((HB.out.cell (World.block_lt_of_cell? w _ hw471_0)).trans hw471_0)⟩ (fun hHeld => ?_)
      clear hK K
      refine zn_ rfl ?_
      refine zp_ HT_ rfl rfl (by kernel_rfl) (fun _ _ _ h => h) (by rfl) ?_
      refine done_ (done_of HT_.out (by kernel_rfl)) ?_
      try go_wp2
      go_roundg k1
      case measure => have := HK1.out; omega
      case rel => exact ⟨(wrap64 (x5_1 + 1)), z9_, H', ⟨z78_⟩, ⟨z0_⟩⟩
     ·replace c8 := Bool.eq_false_iff.mpr c8
      subst c8
      replace H := iff_ H
      obtain rfl := Option.some.inj H
      try go_wp2
      have n0_ := Aside0.mk (below_drew1 HB.out)
      clear HB
      have HB := n0_
      clear n0_
      have p470 : 0 ≤ (x5_1 : Int) := odt_
      have q470 : x5_1 < (l0.length : Int) := odt_
      obtain ⟨ad470, A470_0, c470_0, e470, hx470_0, hl470_0, hi470_0⟩ := at_L7 HR0.out x5_1 p470 q470
      have hw470_0 := hx470_0
      cases e470
      replace hx470_0 := (HB.out.cell (World.block_lt_of_cell? w _ hx470_0)).trans hx470_0
      have HR470_0 := Aside0.mk hi470_0
      have HC470_0 := Aside0.mk hl470_0
      clear hi470_0 hl470_0
      replace p470 := eq_true p470
      replace q470 := eq_true q470
      have p471 : 0 ≤ (x5_1 : Int) := odt_
      have q471 : x5_1 < (l1.length : Int) := odt_
      obtain ⟨ad471, A471_0, c471_0, e471, hx471_0, hl471_0, hi471_0⟩ := at_L7 HR1.out x5_1 p471 q471
      have hw471_0 := hx471_0
      cases e471
      replace hx471_0 := (HB.out.cell (World.block_lt_of_cell? w _ hx471_0)).trans hx471_0
      have HR471_0 := Aside0.mk hi471_0
      have HC471_0 := Aside0.mk hl471_0
      clear hi471_0 hl471_0
      replace p471 := eq_true p471
      replace q471 := eq_true q471
      refine start_ (n := 10) (S := fun w' => w'.cell? (ad470.add (x5_1).toNat) = some (.slice A470_0 (rd_L7 l0 x5_1).length c470_0) ∧ w'.cell? (ad471.add (x5_1).toNat) = some (.slice A471_0 (rd_L7 l1 x5_1).length c471_0)) (ds := []) (fl_ 10 0) (by kernel_rfl) rfl (fl_zero _) ⟨((HB.out.cell (World.block_lt_of_cell? w _ hw470_0)).trans hw470_0), ((HB.out.cell (World.block_lt_of_cell? w _ hw471_0)).trans hw471_0)⟩ (fun hHeld => ?_); refine with_tabW laws_eqOpSS.tab6 laws_eqOpSS.bits6 (fun HT_ HW_ => ?_)
      generalize wr.drew = w11 at HB HR470_0 HR471_0 hx470_0 hx471_0 hHeld ⊢
      iterate 3 refine zp_ HT_ rfl rfl (by kernel_rfl) (fun _ _ _ h => h) (by rfl) ?_
      refine zpg_ (i := 4) (ra_ [3, 1, 1, 5]) HT_ rfl rfl (by kernel_rfl) (fun _ _ _ h => h) (by rfl) ?_
      refine zpg_ (i := 5) (ra_ [3, 1, 2, 4]) HT_ rfl rfl (by kernel_rfl) (fun _ _ _ h => h) (by rfl) ?_
      refine zpg_ (i := 6) (ra_ [3, 1, 3, 3]) HT_ rfl rfl (by kernel_rfl) (fun _ _ _ h => h) (by rfl) ?_
      refine ztg_ (i := 3) (fl_ 10 7) HT_ HW_ rfl rfl (by kernel_rfl) (fun _ _ _ h => h) (by rfl) hHeld ?_ z66_
      refine zt_ HT_ HW_ rfl rfl (by kernel_rfl) (fun _ _ _ h => h) (by rfl) hHeld ?_ z66_
      refine one_ (i := 8) (N := some 25) (fl_ 10 9) rfl rfl (one_of HT_.out (by kernel_rfl)) (by decide) (fun K hK => ?_)
      refine goes_ Try.func129 (by kernel_rfl) rfl #[.slice A470_0 (rd_L7 l0 x5_1).length c470_0, .slice A471_0 (rd_L7 l1 x5_1).length c471_0] (by rfl) rfl rfl z1_ ?_
      with_reducible refine (laws_eqOpS.calls k1 _ _ (rd_L7 l0 x5_1) _ _ (rd_L7 l1 x5_1) false _ ?side1 ?side2 ?side3 ?side4 A7.out).mono ?_
      (case side1 => exact z116_)
      (case side2 => exact HC470_0.out)
      (case side3 => exact z117_)
      (case side4 => exact HC471_0.out)
      rintro e w12 ⟨rfl, hb⟩
      refine ⟨_, rfl, ?_⟩
      have n0_ := Aside0.mk (below_step z0_ hb)
      clear HB
      have HB := n0_
      clear n0_
      (try clear hb)
      (try clear hb2)
      (try clear hk)
      (try clear hi)
      refine hK.out _ _ ⟨((HB.out.cell (World.block_lt_of_cell? w _ hw470_0)).trans hw470_0), ((HB.out.cell (World.block_lt_of_cell? w _ hw471_0)).trans hw471_0)⟩ (fun hHeld => ?_)
      clear hK K
      refine zn_ rfl ?_
      refine zp_ HT_ rfl rfl (by kernel_rfl) (fun _ _ _ h => h) (by rfl) ?_
      refine done_ (done_of HT_.out (by kernel_rfl)) ?_
      try go_wp2
      go_ret
      exact ⟨z3_, z0_⟩
    ·rw [if_neg c4] at H
     have c4b0 : decide (x5_1 < (l0.length : Int)) = false := decide_eq_false c4
     clear c4
     obtain rfl := Option.some.inj H
     go_wp2
     go_ret
     exact ⟨z3_, z0_⟩
 ·rw [if_neg c3] at H
  have c3b0 : ((l0.length : Int) == (l1.length : Int)) = false := beq_eq_false_iff_ne.mpr c3
  have c3b1 : ((l0.length : Int) != (l1.length : Int)) = true := bne_iff_ne.mpr c3
  have c3b2 : (l0.length == l1.length) = false := by first | simpa using c3 | (simp at c3 ⊢; omega)
  obtain rfl := Option.some.inj H
  go_enter Try.func104, Try.ntmps104
  go_wp2
  go_ret
  exact ⟨z3_, z0_⟩

end Go.Proofs.Ytmbhlfcpdbbogab.PFnExactHistOk
