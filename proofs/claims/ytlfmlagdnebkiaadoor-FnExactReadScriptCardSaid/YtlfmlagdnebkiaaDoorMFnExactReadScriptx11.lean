/- Laid by a program of this session out of the kit's print for the law FnExactReadScript: what it says of the machine is proved here, function by function; each contract under the conditions that it names. -/
import Derived.Test.YtlfmlagdnebkiaaDoorMFnExactReadScriptx0
import Derived.Test.YtlfmlagdnebkiaaDoorMFnExactReadScriptx10
namespace Go.Proofs.YtlfmlagdnebkiaaDoor.PFnExactReadScript
open Go.RowKit Go.Proofs.YtlfmlagdnebkiaaDoorW.PrintWords Go.Proofs.YtlfmlagdnebkiaaDoorW.PrintLast Go.Proofs.YtlfmlagdnebkiaaDoorW.PrintMore
attribute [local go_sem] max2_int min2_int max_two min_two max_three min_three max_four min_four   -- for this text's walks alone
set_option linter.unusedVariables false
set_option linter.unusedSimpArgs false

/-! ### laws_eqOpS: function 12 -/
def laws_eqOpS.l0 : Nat → List (S24) → List (S24) → Int → Option (Bool)
 | 0, _, _, _ => none
 | k + 1, x0, x1, x5 => if x5 < (x0.length : Int) then (if 0 ≤ x5 then (if x5 < (x1.length : Int) then ((laws_eqOp.f k ((rd_T24 x0 x5).f0) ((rd_T24 x0 x5).f1) ((rd_T24 x0 x5).f2) ((rd_T24 x0 x5).f3) ((rd_T24 x0 x5).f4) ((rd_T24 x1 x5).f0) ((rd_T24 x1 x5).f1) ((rd_T24 x1 x5).f2) ((rd_T24 x1 x5).f3) ((rd_T24 x1 x5).f4)).bind fun t333 => (if t333 = true then (laws_eqOpS.l0 k x0 x1 (wrap64 (x5 + 1))) else (some false))) else (none)) else (none)) else (some true)
def laws_eqOpS.f (k : Nat) (l0 : List (S24)) (l1 : List (S24)) : Option (Bool) := if (l0.length : Int) = (l1.length : Int) then (laws_eqOpS.l0 k l0 l1 0) else (some false)
def laws_eqOpS.T6 : Bool × List (List Nat × List Nat) := (true, [([], []), ([], []), ([0, 1], [0, 1]), ([2], [2]), ([], []), ([], []), ([4, 5], [4, 5]), ([6], [6]), ([3, 7], [3, 7]), ([8], [8])])
def laws_eqOpS.B6 : List Nat := [0, 0, 3, 7, 0, 0, 48, 112, 255, 511]
theorem laws_eqOpS.tab6 : rtab .any (opsOf Tryd.f12 6) = laws_eqOpS.T6 := by kernel_rfl
theorem laws_eqOpS.bits6 : waitsOk laws_eqOpS.T6.2 laws_eqOpS.B6 = true := by kernel_rfl
set_option maxHeartbeats 8000000 in
set_option maxRecDepth 100000 in
theorem laws_eqOpS.calls (k : Nat) (A0 : Option Addr) (c0 : Nat) (l0 : List (S24)) (A1 : Option Addr) (c1 : Nat) (l1 : List (S24)) (r : Bool) (w : World) (hr0 : Kd.C k24 w A0 l0.length l0) (hc0 : l0.length ≤ c0) (hr1 : Kd.C k24 w A1 l1.length l1) (hc1 : l1.length ≤ c1) (h : laws_eqOpS.f k l0 l1 = some r) :
  Calls Tryd.prog 12 #[.slice A0 l0.length c0, .slice A1 l1.length c1] w fun e w' => e = .returned (.bool r) ∧ Below w.heap.size w w' := by
 have hu24 := Tryd.underlying24
 have HR0 := Aside0.mk hr0
 have HC0 := Aside0.mk hc0
 clear hr0 hc0
 have HR1 := Aside0.mk hr1
 have HC1 := Aside0.mk hc1
 clear hr1 hc1
 have HB := Aside0.mk (Below.refl w.heap.size w)
 have H : (if (l0.length : Int) = (l1.length : Int) then (laws_eqOpS.l0 k l0 l1 0) else (some false)) = some r := h
 clear h
 by_cases c3 : (l0.length : Int) = (l1.length : Int)
 ·rw [if_pos c3] at H
  have c3b0 : ((l0.length : Int) == (l1.length : Int)) = true := beq_iff_eq.mpr c3
  have c3b1 : ((l0.length : Int) != (l1.length : Int)) = false := bne_eq_false_iff_eq.mpr c3
  have c3b2 : (l0.length == l1.length) = true := by first | simpa using c3 | (simp at c3 ⊢; omega)
  clear c3
  have H' := Aside0.mk H
  clear H
  go_enter Tryd.func12, Tryd.ntmps12
  go_wp2
  go_loopg [5] k (fun kq v5 w' => ∃ (x5_1 : Int), v5 = .int .i64 x5_1 ∧ Aside0 (laws_eqOpS.l0 kq l0 l1 x5_1 = some r) ∧ Aside0 (kq ≤ k) ∧ Aside0 (Below w.heap.size w w'))
  case atStart => exact ⟨(0), z4_, H', ⟨Nat.le_refl _⟩, ⟨z0_⟩⟩
  case round =>
   clear H'
   try clear c1
   try clear p2
   try clear c3
   try clear c3b0
   try clear c3b1
   try clear c3b2
   obtain ⟨x5_1, rfl, HA, HK1, HB⟩ := hrel
   cases gk with
   | zero => exact absurd HA.out (by simp [laws_eqOpS.l0])
   | succ k1 =>
    have H := HA.out
    clear HA
    simp only [laws_eqOpS.l0] at H
    by_cases c4 : x5_1 < (l0.length : Int)
    ·rw [if_pos c4] at H
     have c4b0 := decide_eq_true c4
     clear c4
     obtain ⟨c5b0, H⟩ := ifd_ H
     obtain ⟨c6b0, H⟩ := ifd_ H
     obtain ⟨t333, A7, H⟩ := bnd_ H
     by_cases c8 : t333 = true
     ·subst c8
      replace H := ift_ H
      have H' := Aside0.mk H
      clear H
      try go_wp2
      have n0_ := Aside0.mk (below_drew1 HB.out)
      clear HB
      have HB := n0_
      clear n0_
      have p331 : 0 ≤ (x5_1 : Int) := odt_
      have q331 : x5_1 < (l0.length : Int) := odt_
      obtain ⟨ad331, A331_1, c331_1, e331, hx331_0, hx331_1, hx331_2, hx331_3, hx331_4, hl331_1, hi331_1⟩ := at_T24 HR0.out x5_1 p331 q331
      have hw331_4 := hx331_4
      have hw331_3 := hx331_3
      have hw331_2 := hx331_2
      have hw331_1 := hx331_1
      have hw331_0 := hx331_0
      cases e331
      replace hx331_0 := (HB.out.cell (World.block_lt_of_cell? w _ hx331_0)).trans hx331_0
      replace hx331_1 := (HB.out.cell (World.block_lt_of_cell? w _ hx331_1)).trans hx331_1
      replace hx331_2 := (HB.out.cell (World.block_lt_of_cell? w _ hx331_2)).trans hx331_2
      replace hx331_3 := (HB.out.cell (World.block_lt_of_cell? w _ hx331_3)).trans hx331_3
      replace hx331_4 := (HB.out.cell (World.block_lt_of_cell? w _ hx331_4)).trans hx331_4
      have HR331_1 := Aside0.mk hi331_1
      have HC331_1 := Aside0.mk hl331_1
      clear hi331_1 hl331_1
      replace p331 := eq_true p331
      replace q331 := eq_true q331
      have p332 : 0 ≤ (x5_1 : Int) := odt_
      have q332 : x5_1 < (l1.length : Int) := odt_
      obtain ⟨ad332, A332_1, c332_1, e332, hx332_0, hx332_1, hx332_2, hx332_3, hx332_4, hl332_1, hi332_1⟩ := at_T24 HR1.out x5_1 p332 q332
      have hw332_4 := hx332_4
      have hw332_3 := hx332_3
      have hw332_2 := hx332_2
      have hw332_1 := hx332_1
      have hw332_0 := hx332_0
      cases e332
      replace hx332_0 := (HB.out.cell (World.block_lt_of_cell? w _ hx332_0)).trans hx332_0
      replace hx332_1 := (HB.out.cell (World.block_lt_of_cell? w _ hx332_1)).trans hx332_1
      replace hx332_2 := (HB.out.cell (World.block_lt_of_cell? w _ hx332_2)).trans hx332_2
      replace hx332_3 := (HB.out.cell (World.block_lt_of_cell? w _ hx332_3)).trans hx332_3
      replace hx332_4 := (HB.out.cell (World.block_lt_of_cell? w _ hx332_4)).trans hx332_4
      have HR332_1 := Aside0.mk hi332_1
      have HC332_1 := Aside0.mk hl332_1
      clear hi332_1 hl332_1
      replace p332 := eq_true p332
      replace q332 := eq_true q332
      refine start_ (n := 10) (S := fun w' => w'.cell? (ad331.add ((x5_1).toNat * 5)) = some (.int .i64 ((rd_T24 l0 x5_1).f0)) ∧ w'.cell? ⟨(ad331.add ((x5_1).toNat * 5)).block, (ad331.add ((x5_1).toNat * 5)).off + 1, none⟩ = some (.slice A331_1 ((rd_T24 l0 x5_1).f1).length c331_1) ∧ w'.cell? ⟨(ad331.add ((x5_1).toNat * 5)).block, (ad331.add ((x5_1).toNat * 5)).off + 2, none⟩ = some (.int .i64 ((rd_T24 l0 x5_1).f2)) ∧ w'.cell? ⟨(ad331.add ((x5_1).toNat * 5)).block, (ad331.add ((x5_1).toNat * 5)).off + 3, none⟩ = some (.int .i64 ((rd_T24 l0 x5_1).f3)) ∧ w'.cell? ⟨(ad331.add ((x5_1).toNat * 5)).block, (ad331.add ((x5_1).toNat * 5)).off + 4, none⟩ = some (.int .i64 ((rd_T24 l0 x5_1).f4)) ∧ w'.cell? (ad332.add ((x5_1).toNat * 5)) = some (.int .i64 ((rd_T24 l1 x5_1).f0)) ∧ w'.cell? ⟨(ad332.add ((x5_1).toNat * 5)).block, (ad332.add ((x5_1).toNat * 5)).off + 1, none⟩ = some (.slice A332_1 ((rd_T24 l1 x5_1).f1).length c332_1) ∧ w'.cell? ⟨(ad332.add ((x5_1).toNat * 5)).block, (ad332.add ((x5_1).toNat * 5)).off + 2, none⟩ = some (.int .i64 ((rd_T24 l1 x5_1).f2)) ∧ w'.cell? ⟨(ad332.add ((x5_1).toNat * 5)).block, (ad332.add ((x5_1).toNat * 5)).off + 3, none⟩ = some (.int .i64 ((rd_T24 l1 x5_1).f3)) ∧ w'.cell? ⟨(ad332.add ((x5_1).toNat * 5)).block, (ad332.add ((x5_1).toNat * 5)).off + 4, none⟩ = some (.int .i64 ((rd_T24 l1 x5_1).f4))) (ds := []) (fl_ 10 0) (by kernel_rfl) rfl (fl_zero _) ⟨((HB.out.cell (World.block_lt_of_cell? w _ hw331_0)).trans hw331_0), ((HB.out.cell (World.block_lt_of_cell? w _ hw331_1)).trans hw331_1), ((HB.out.cell (World.block_lt_of_cell? w _ hw331_2)).trans hw331_2), ((HB.out.cell (World.block_lt_of_cell? w _ hw331_3)).trans hw331_3), ((HB.out.cell (World.block_lt_of_cell? w _ hw331_4)).trans hw331_4), ((HB.out.cell (World.block_lt_of_cell? w _ hw332_0)).trans hw332_0), ((HB.out.cell (World.block_lt_of_cell? w _ hw332_1)).trans hw332_1), ((HB.out.cell (World.block_lt_of_cell? w _ hw332_2)).trans hw332_2), ((HB.out.cell (World.block_lt_of_cell? w _ hw332_3)).trans hw332_3), ((HB.out.cell (World.block_lt_of_cell? w _ hw332_4)).trans hw332_4)⟩ (fun hHeld => ?_); refine with_tabW laws_eqOpS.tab6 laws_eqOpS.bits6 (fun HT_ HW_ => ?_)
      generalize wr.drew = w9 at HB HR331_1 HR332_1 hx331_0 hx331_1 hx331_2 hx331_3 hx331_4 hx332_0 hx332_1 hx332_2 hx332_3 hx332_4 hHeld ⊢
      iterate 3 refine zp_ HT_ rfl rfl (by kernel_rfl) (fun _ _ _ h => h) (by rfl) ?_
      refine zpg_ (i := 4) (ra_ [3, 1, 1, 5]) HT_ rfl rfl (by kernel_rfl) (fun _ _ _ h => h) (by rfl) ?_
      refine zpg_ (i := 5) (ra_ [3, 1, 2, 4]) HT_ rfl rfl (by kernel_rfl) (fun _ _ _ h => h) (by rfl) ?_
      refine zpg_ (i := 6) (ra_ [3, 1, 3, 3]) HT_ rfl rfl (by kernel_rfl) (fun _ _ _ h => h) (by rfl) ?_
      refine ztg_ (i := 3) (fl_ 10 7) HT_ HW_ rfl rfl (by kernel_rfl) (fun _ _ _ h => h) (by rfl) hHeld ?_ z87_
      refine zt_ HT_ HW_ rfl rfl (by kernel_rfl) (fun _ _ _ h => h) (by rfl) hHeld ?_ z87_
      refine one_ (i := 8) (N := some 25) (fl_ 10 9) rfl rfl (one_of HT_.out (by kernel_rfl)) (by decide) (fun K hK => ?_)
      refine goes_ Tryd.func7 (by kernel_rfl) rfl #[.agg #[.int .i64 ((rd_T24 l0 x5_1).f0), .slice A331_1 ((rd_T24 l0 x5_1).f1).length c331_1, .int .i64 ((rd_T24 l0 x5_1).f2), .int .i64 ((rd_T24 l0 x5_1).f3), .int .i64 ((rd_T24 l0 x5_1).f4)], .agg #[.int .i64 ((rd_T24 l1 x5_1).f0), .slice A332_1 ((rd_T24 l1 x5_1).f1).length c332_1, .int .i64 ((rd_T24 l1 x5_1).f2), .int .i64 ((rd_T24 l1 x5_1).f3), .int .i64 ((rd_T24 l1 x5_1).f4)]] (by rfl) rfl rfl z1_ ?_
      with_reducible refine (laws_eqOp.calls k1 ((rd_T24 l0 x5_1).f0) _ _ ((rd_T24 l0 x5_1).f1) ((rd_T24 l0 x5_1).f2) ((rd_T24 l0 x5_1).f3) ((rd_T24 l0 x5_1).f4) ((rd_T24 l1 x5_1).f0) _ _ ((rd_T24 l1 x5_1).f1) ((rd_T24 l1 x5_1).f2) ((rd_T24 l1 x5_1).f3) ((rd_T24 l1 x5_1).f4) true _ ?side1 ?side2 ?side3 ?side4 A7.out).mono ?_
      (case side1 => exact z82_)
      (case side2 => exact HC331_1.out)
      (case side3 => exact z83_)
      (case side4 => exact HC332_1.out)
      rintro e w10 ⟨rfl, hb⟩
      refine ⟨_, rfl, ?_⟩
      have n0_ := Aside0.mk (below_step z0_ hb)
      clear HB
      have HB := n0_
      clear n0_
      (try clear hb)
      (try clear hb2)
      (try clear hk)
      (try clear hi)
      refine hK.out _ _ ⟨((HB.out.cell (World.block_lt_of_cell? w _ hw331_0)).trans hw331_0), ((HB.out.cell (World.block_lt_of_cell? w _ hw331_1)).trans hw331_1), ((HB.out.cell (World.block_lt_of_cell? w _ hw331_2)).trans hw331_2), ((HB.out.cell (World.block_lt_of_cell? w _ hw331_3)).trans hw331_3), ((HB.out.cell (World.block_lt_of_cell? w _ hw331_4)).trans hw331_4), ((HB.out.cell (World.block_lt_of_cell? w _ hw332_0)).trans hw332_0), ((HB.out.cell (World.block_lt_of_cell? w _ hw332_1)).trans hw332_1), ((HB.out.cell (World.block_lt_of_cell? w _ hw332_2)).trans hw332_2), ((HB.out.cell (World.block_lt_of_cell? w _ hw332_3)).trans hw332_3), ((HB.out.cell (World.block_lt_of_cell? w _ hw332_4)).trans hw332_4)⟩ (fun hHeld => ?_)
      clear hK K
      refine zn_ rfl ?_
      refine zp_ HT_ rfl rfl (by kernel_rfl) (fun _ _ _ h => h) (by rfl) ?_
      refine done_ (done_of HT_.out (by kernel_rfl)) ?_
      try go_wp2
      go_roundg k1
      case measure => have := HK1.out; omega
      case rel => exact ⟨(wrap64 (x5_1 + 1)), z4_, H', ⟨z62_⟩, ⟨z0_⟩⟩
     ·replace c8 := Bool.eq_false_iff.mpr c8
      subst c8
      replace H := iff_ H
      obtain rfl := Option.some.inj H
      try go_wp2
      have n0_ := Aside0.mk (below_drew1 HB.out)
      clear HB
      have HB := n0_
      clear n0_
      have p331 : 0 ≤ (x5_1 : Int) := odt_
      have q331 : x5_1 < (l0.length : Int) := odt_
      obtain ⟨ad331, A331_1, c331_1, e331, hx331_0, hx331_1, hx331_2, hx331_3, hx331_4, hl331_1, hi331_1⟩ := at_T24 HR0.out x5_1 p331 q331
      have hw331_4 := hx331_4
      have hw331_3 := hx331_3
      have hw331_2 := hx331_2
      have hw331_1 := hx331_1
      have hw331_0 := hx331_0
      cases e331
      replace hx331_0 := (HB.out.cell (World.block_lt_of_cell? w _ hx331_0)).trans hx331_0
      replace hx331_1 := (HB.out.cell (World.block_lt_of_cell? w _ hx331_1)).trans hx331_1
      replace hx331_2 := (HB.out.cell (World.block_lt_of_cell? w _ hx331_2)).trans hx331_2
      replace hx331_3 := (HB.out.cell (World.block_lt_of_cell? w _ hx331_3)).trans hx331_3
      replace hx331_4 := (HB.out.cell (World.block_lt_of_cell? w _ hx331_4)).trans hx331_4
      have HR331_1 := Aside0.mk hi331_1
      have HC331_1 := Aside0.mk hl331_1
      clear hi331_1 hl331_1
      replace p331 := eq_true p331
      replace q331 := eq_true q331
      have p332 : 0 ≤ (x5_1 : Int) := odt_
      have q332 : x5_1 < (l1.length : Int) := odt_
      obtain ⟨ad332, A332_1, c332_1, e332, hx332_0, hx332_1, hx332_2, hx332_3, hx332_4, hl332_1, hi332_1⟩ := at_T24 HR1.out x5_1 p332 q332
      have hw332_4 := hx332_4
      have hw332_3 := hx332_3
      have hw332_2 := hx332_2
      have hw332_1 := hx332_1
      have hw332_0 := hx332_0
      cases e332
      replace hx332_0 := (HB.out.cell (World.block_lt_of_cell? w _ hx332_0)).trans hx332_0
      replace hx332_1 := (HB.out.cell (World.block_lt_of_cell? w _ hx332_1)).trans hx332_1
      replace hx332_2 := (HB.out.cell (World.block_lt_of_cell? w _ hx332_2)).trans hx332_2
      replace hx332_3 := (HB.out.cell (World.block_lt_of_cell? w _ hx332_3)).trans hx332_3
      replace hx332_4 := (HB.out.cell (World.block_lt_of_cell? w _ hx332_4)).trans hx332_4
      have HR332_1 := Aside0.mk hi332_1
      have HC332_1 := Aside0.mk hl332_1
      clear hi332_1 hl332_1
      replace p332 := eq_true p332
      replace q332 := eq_true q332
      refine start_ (n := 10) (S := fun w' => w'.cell? (ad331.add ((x5_1).toNat * 5)) = some (.int .i64 ((rd_T24 l0 x5_1).f0)) ∧ w'.cell? ⟨(ad331.add ((x5_1).toNat * 5)).block, (ad331.add ((x5_1).toNat * 5)).off + 1, none⟩ = some (.slice A331_1 ((rd_T24 l0 x5_1).f1).length c331_1) ∧ w'.cell? ⟨(ad331.add ((x5_1).toNat * 5)).block, (ad331.add ((x5_1).toNat * 5)).off + 2, none⟩ = some (.int .i64 ((rd_T24 l0 x5_1).f2)) ∧ w'.cell? ⟨(ad331.add ((x5_1).toNat * 5)).block, (ad331.add ((x5_1).toNat * 5)).off + 3, none⟩ = some (.int .i64 ((rd_T24 l0 x5_1).f3)) ∧ w'.cell? ⟨(ad331.add ((x5_1).toNat * 5)).block, (ad331.add ((x5_1).toNat * 5)).off + 4, none⟩ = some (.int .i64 ((rd_T24 l0 x5_1).f4)) ∧ w'.cell? (ad332.add ((x5_1).toNat * 5)) = some (.int .i64 ((rd_T24 l1 x5_1).f0)) ∧ w'.cell? ⟨(ad332.add ((x5_1).toNat * 5)).block, (ad332.add ((x5_1).toNat * 5)).off + 1, none⟩ = some (.slice A332_1 ((rd_T24 l1 x5_1).f1).length c332_1) ∧ w'.cell? ⟨(ad332.add ((x5_1).toNat * 5)).block, (ad332.add ((x5_1).toNat * 5)).off + 2, none⟩ = some (.int .i64 ((rd_T24 l1 x5_1).f2)) ∧ w'.cell? ⟨(ad332.add ((x5_1).toNat * 5)).block, (ad332.add ((x5_1).toNat * 5)).off + 3, none⟩ = some (.int .i64 ((rd_T24 l1 x5_1).f3)) ∧ w'.cell? ⟨(ad332.add ((x5_1).toNat * 5)).block, (ad332.add ((x5_1).toNat * 5)).off + 4, none⟩ = some (.int .i64 ((rd_T24 l1 x5_1).f4))) (ds := []) (fl_ 10 0) (by kernel_rfl) rfl (fl_zero _) ⟨((HB.out.cell (World.block_lt_of_cell? w _ hw331_0)).trans hw331_0), ((HB.out.cell (World.block_lt_of_cell? w _ hw331_1)).trans hw331_1), ((HB.out.cell (World.block_lt_of_cell? w _ hw331_2)).trans hw331_2), ((HB.out.cell (World.block_lt_of_cell? w _ hw331_3)).trans hw331_3), ((HB.out.cell (World.block_lt_of_cell? w _ hw331_4)).trans hw331_4), ((HB.out.cell (World.block_lt_of_cell? w _ hw332_0)).trans hw332_0), ((HB.out.cell (World.block_lt_of_cell? w _ hw332_1)).trans hw332_1), ((HB.out.cell (World.block_lt_of_cell? w _ hw332_2)).trans hw332_2), ((HB.out.cell (World.block_lt_of_cell? w _ hw332_3)).trans hw332_3), ((HB.out.cell (World.block_lt_of_cell? w _ hw332_4)).trans hw332_4)⟩ (fun hHeld => ?_); refine with_tabW laws_eqOpS.tab6 laws_eqOpS.bits6 (fun HT_ HW_ => ?_)
      generalize wr.drew = w11 at HB HR331_1 HR332_1 hx331_0 hx331_1 hx331_2 hx331_3 hx331_4 hx332_0 hx332_1 hx332_2 hx332_3 hx332_4 hHeld ⊢
      iterate 3 refine zp_ HT_ rfl rfl (by kernel_rfl) (fun _ _ _ h => h) (by rfl) ?_
      refine zpg_ (i := 4) (ra_ [3, 1, 1, 5]) HT_ rfl rfl (by kernel_rfl) (fun _ _ _ h => h) (by rfl) ?_
      refine zpg_ (i := 5) (ra_ [3, 1, 2, 4]) HT_ rfl rfl (by kernel_rfl) (fun _ _ _ h => h) (by rfl) ?_
      refine zpg_ (i := 6) (ra_ [3, 1, 3, 3]) HT_ rfl rfl (by kernel_rfl) (fun _ _ _ h => h) (by rfl) ?_
      refine ztg_ (i := 3) (fl_ 10 7) HT_ HW_ rfl rfl (by kernel_rfl) (fun _ _ _ h => h) (by rfl) hHeld ?_ z87_
      refine zt_ HT_ HW_ rfl rfl (by kernel_rfl) (fun _ _ _ h => h) (by rfl) hHeld ?_ z87_
      refine one_ (i := 8) (N := some 25) (fl_ 10 9) rfl rfl (one_of HT_.out (by kernel_rfl)) (by decide) (fun K hK => ?_)
      refine goes_ Tryd.func7 (by kernel_rfl) rfl #[.agg #[.int .i64 ((rd_T24 l0 x5_1).f0), .slice A331_1 ((rd_T24 l0 x5_1).f1).length c331_1, .int .i64 ((rd_T24 l0 x5_1).f2), .int .i64 ((rd_T24 l0 x5_1).f3), .int .i64 ((rd_T24 l0 x5_1).f4)], .agg #[.int .i64 ((rd_T24 l1 x5_1).f0), .slice A332_1 ((rd_T24 l1 x5_1).f1).length c332_1, .int .i64 ((rd_T24 l1 x5_1).f2), .int .i64 ((rd_T24 l1 x5_1).f3), .int .i64 ((rd_T24 l1 x5_1).f4)]] (by rfl) rfl rfl z1_ ?_
      with_reducible refine (laws_eqOp.calls k1 ((rd_T24 l0 x5_1).f0) _ _ ((rd_T24 l0 x5_1).f1) ((rd_T24 l0 x5_1).f2) ((rd_T24 l0 x5_1).f3) ((rd_T24 l0 x5_1).f4) ((rd_T24 l1 x5_1).f0) _ _ ((rd_T24 l1 x5_1).f1) ((rd_T24 l1 x5_1).f2) ((rd_T24 l1 x5_1).f3) ((rd_T24 l1 x5_1).f4) false _ ?side1 ?side2 ?side3 ?side4 A7.out).mono ?_
      (case side1 => exact z82_)
      (case side2 => exact HC331_1.out)
      (case side3 => exact z83_)
      (case side4 => exact HC332_1.out)
      rintro e w12 ⟨rfl, hb⟩
      refine ⟨_, rfl, ?_⟩
      have n0_ := Aside0.mk (below_step z0_ hb)
      clear HB
      have HB := n0_
      clear n0_
      (try clear hb)
      (try clear hb2)
      (try clear hk)
      (try clear hi)
      refine hK.out _ _ ⟨((HB.out.cell (World.block_lt_of_cell? w _ hw331_0)).trans hw331_0), ((HB.out.cell (World.block_lt_of_cell? w _ hw331_1)).trans hw331_1), ((HB.out.cell (World.block_lt_of_cell? w _ hw331_2)).trans hw331_2), ((HB.out.cell (World.block_lt_of_cell? w _ hw331_3)).trans hw331_3), ((HB.out.cell (World.block_lt_of_cell? w _ hw331_4)).trans hw331_4), ((HB.out.cell (World.block_lt_of_cell? w _ hw332_0)).trans hw332_0), ((HB.out.cell (World.block_lt_of_cell? w _ hw332_1)).trans hw332_1), ((HB.out.cell (World.block_lt_of_cell? w _ hw332_2)).trans hw332_2), ((HB.out.cell (World.block_lt_of_cell? w _ hw332_3)).trans hw332_3), ((HB.out.cell (World.block_lt_of_cell? w _ hw332_4)).trans hw332_4)⟩ (fun hHeld => ?_)
      clear hK K
      refine zn_ rfl ?_
      refine zp_ HT_ rfl rfl (by kernel_rfl) (fun _ _ _ h => h) (by rfl) ?_
      refine done_ (done_of HT_.out (by kernel_rfl)) ?_
      try go_wp2
      go_ret
      exact ⟨z2_, z0_⟩
    ·rw [if_neg c4] at H
     have c4b0 := decide_eq_false c4
     clear c4
     obtain rfl := Option.some.inj H
     go_wp2
     go_ret
     exact ⟨z2_, z0_⟩
 ·rw [if_neg c3] at H
  have c3b0 : ((l0.length : Int) == (l1.length : Int)) = false := beq_eq_false_iff_ne.mpr c3
  have c3b1 : ((l0.length : Int) != (l1.length : Int)) = true := bne_iff_ne.mpr c3
  have c3b2 : (l0.length == l1.length) = false := by first | simpa using c3 | (simp at c3 ⊢; omega)
  obtain rfl := Option.some.inj H
  go_enter Tryd.func12, Tryd.ntmps12
  go_wp2
  go_ret
  exact ⟨z2_, z0_⟩

/-! ### laws_markIntS: function 24 -/
def laws_markIntS.l0 : Nat → List Int → Int → Int → Option (Int × List Int)
 | 0, _, _, _ => none
 | k + 1, x0, x1, x5 => if x5 < (x0.length : Int) then (if 0 ≤ x5 then (laws_markIntS.l0 k (x0.set (x5 : Int).toNat x1) (wrap64 (x1 + 1)) (wrap64 (x5 + 1))) else (none)) else (some (x1, x0))
def laws_markIntS.f (k : Nat) (l0 : List Int) (a1 : Int) : Option (Int × List Int) := laws_markIntS.l0 k l0 a1 0
set_option maxHeartbeats 8000000 in
set_option maxRecDepth 100000 in
theorem laws_markIntS.calls (k : Nat) (P0_ : Nat → Prop) (u9000_ : Value) (l0 : List Int) (a1 : Int) (r1 : Int) (r2 : List Int) (w0 w : World) (hB : Below w0.heap.size w0 w) (ho0 : Kd.R (Kd.int .i64) 3 w w0.heap.size P0_ u9000_ l0) (h : laws_markIntS.f k l0 a1 = some (r1, r2)) :
  Calls Tryd.prog 24 #[u9000_, .int .i64 a1] w fun e w' => e = .returned (.int .i64 r1) ∧ Kd.R (Kd.int .i64) 3 w' w0.heap.size (fun k_ => (P0_ k_ ∨ w.heap.size ≤ k_)) u9000_ r2 ∧ Below w0.heap.size w0 w' ∧ Kept w w' (fun k_ => P0_ k_) := by
 have HO0 := Aside0.mk (show Kd.R (Kd.int .i64) 3 w w0.heap.size (fun k_ => (P0_ k_ ∨ w.heap.size ≤ k_)) u9000_ l0 from Kd.R_mono ho0 (fun k_ hk => (.inl hk)))
 have HK := Aside0.mk (Kept.refl w (fun k_ => P0_ k_))
 have HW0 := Aside0.mk hB.size
 have HB := Aside0.mk hB
 clear hB
 have H : (laws_markIntS.l0 k l0 a1 0) = some (r1, r2) := h
 clear h
 have H' := Aside0.mk H
 clear H
 go_enter Tryd.func24, Tryd.ntmps24
 go_wp2
 go_loopg [1, 5] k (fun kq v1 v5 w' => ∃ (x0_1 : List Int) (x1_1 : Int) (x5_1 : Int), v1 = .int .i64 x1_1 ∧ v5 = .int .i64 x5_1 ∧ Aside0 (laws_markIntS.l0 kq x0_1 x1_1 x5_1 = some (r1, r2)) ∧ Aside0 (kq ≤ k) ∧ Aside0 (Kd.R (Kd.int .i64) 3 w' w0.heap.size (fun k_ => (P0_ k_ ∨ w.heap.size ≤ k_)) u9000_ x0_1) ∧ Aside0 (Kept w w' (fun k_ => P0_ k_)) ∧ Aside0 (Below w0.heap.size w0 w'))
 case atStart => exact ⟨(l0), (a1), (0), z4_, z4_, H', ⟨Nat.le_refl _⟩, ⟨by (with_reducible repeat (first | apply Kd.R_alloc | apply Kd.R_drewN | apply Kd.R_drew)); exact HO0.out⟩, ⟨z50_⟩, ⟨z0_⟩⟩
 case round =>
  clear H'
  try clear c2
  try clear p2
  obtain ⟨x0_1, x1_1, x5_1, rfl, rfl, HA, HK1, HO_0, HK, HB⟩ := hrel
  cases gk with
  | zero => exact absurd HA.out (by simp [laws_markIntS.l0])
  | succ k1 =>
   have H := HA.out
   clear HA
   simp only [laws_markIntS.l0] at H
   by_cases c3 : x5_1 < (x0_1.length : Int)
   ·rw [if_pos c3] at H
    have c3b0 := decide_eq_true c3
    clear c3
    obtain ⟨c4b0, H⟩ := ifd_ H
    first | ((with_reducible have hz_ := gy_ H); obtain ⟨y334, Ny334, H⟩ := hz_) | (generalize hy_ : ((x0_1.set (x5_1 : Int).toNat x1_1) : List Int) = y334 at H; have Ny334 := Aside0.mk hy_.symm; clear hy_)
    have H' := Aside0.mk H
    clear H
    obtain ⟨Ao6, co6, eo6⟩ := Kd.R_slice HO_0.out
    subst eo6
    have p5 : 0 ≤ (x5_1 : Int) := odt_
    have q5 : (x5_1 : Int) < ((x0_1.length : Int) : Int) := odt_
    obtain ⟨go5, co5, eo5, gb5, gl5, cl5, HG5⟩ := Kd.R_form HO_0.out (by omega)
    (first | cases eo5 | (injection eo5 with ea_ en_ ec_; (first | subst ea_ | (injection ea_ with ea_; subst ea_)); subst ec_; clear en_))
    have GB5 := Aside0.mk gb5
    have GG5 := Aside0.mk HG5
    clear gb5 gl5 HG5
    have HMgo5 := Aside0.mk (show (P0_ go5 ∨ w.heap.size ≤ go5) from (HO_0.out.1 _ rfl))
    obtain ⟨hx5_0, hf5_0⟩ := Kd.R_celln 0 HO_0.out (x5_1 : Int) p5 q5
    replace p5 := eq_true p5
    replace q5 := eq_true q5
    have HP7 := Kd.R_putg HO_0.out (x5_1 : Int) x1_1
    go_wp2_with (first | ((with_reducible refine gate_store (t := 3) (p := 15) rfl ?_); refine store_event (t := 3) (p := 15) (v := ?vo_w8) (w1 := (wr.setCell ⟨go5, (x5_1 : Int).toNat, none⟩ (.int .i64 x1_1))) ?hg ?ho ?hn ?hr ?_; (case ho => rfl); (case hg => rfl); (case hn => rfl); (case hr => exact z18_); intro w8 hw; have hg : wr.grownBy w8 (some go5) := (by rw [hw]; exact HP7.2); have hp_ : Kd.R (Kd.int .i64) 3 w8 w0.heap.size (fun k_ => (P0_ k_ ∨ w.heap.size ≤ k_)) (.slice (some ⟨go5, 0, none⟩) x0_1.length co6) y334 := (by rw [hw, Ny334.out]; exact HP7.1); clear HP7; replace HB := Aside0.mk ((by rw [hw]; exact below_set (HB.out) GB5.out : Below w0.heap.size w0 w8)); replace HK := Aside0.mk (Kept.of_grown (S := (fun k_ => P0_ k_)) hg z50_ (fun k_ e_ => (HO_0.out.1 k_ e_))); replace HO_0 := Aside0.mk (hp_); clear hg hw hp_))
    go_roundg k1
    case measure => have := HK1.out; omega
    case rel => exact ⟨(y334), (wrap64 (x1_1 + 1)), (wrap64 (x5_1 + 1)), z4_, z4_, H', ⟨z62_⟩, ⟨z110_⟩, ⟨z50_⟩, ⟨z0_⟩⟩
   ·rw [if_neg c3] at H
    have c3b0 := decide_eq_false c3
    clear c3
    simp only [Option.some.injEq, Prod.mk.injEq] at H
    obtain ⟨rfl, rfl⟩ := H
    obtain ⟨Ao9, co9, eo9⟩ := Kd.R_slice HO_0.out
    subst eo9
    go_wp2
    go_ret
    exact ⟨z2_, z110_, z0_, z50_⟩

/-! ### laws_markOpS: function 13 -/
def laws_markOpS.l0 : Nat → List (S24) → Int → Int → Option (Int × List (S24))
 | 0, _, _, _ => none
 | k + 1, x0, x1, x5 => if x5 < (x0.length : Int) then (if 0 ≤ x5 then ((laws_markIntS.f k ((rd_T24 x0 x5).f1) (wrap64 (x1 + 1))).bind fun bt => (laws_markOpS.l0 k (x0.set (x5 : Int).toNat (⟨x1, bt.2, bt.1, wrap64 (bt.1 + 1), wrap64 (wrap64 (bt.1 + 1) + 1)⟩ : S24)) (wrap64 (wrap64 (wrap64 (bt.1 + 1) + 1) + 1)) (wrap64 (x5 + 1)))) else (none)) else (some (x1, x0))
def laws_markOpS.f (k : Nat) (l0 : List (S24)) (a1 : Int) : Option (Int × List (S24)) := laws_markOpS.l0 k l0 a1 0
set_option maxHeartbeats 8000000 in
set_option maxRecDepth 100000 in
theorem laws_markOpS.calls (k : Nat) (P0_ : Nat → Prop) (u9000_ : Value) (l0 : List (S24)) (a1 : Int) (r1 : Int) (r2 : List (S24)) (w0 w : World) (hB : Below w0.heap.size w0 w) (ho0 : Kd.S k24 24 w w0.heap.size P0_ u9000_ l0) (h : laws_markOpS.f k l0 a1 = some (r1, r2)) :
  Calls Tryd.prog 13 #[u9000_, .int .i64 a1] w fun e w' => e = .returned (.int .i64 r1) ∧ Kd.S k24 24 w' w0.heap.size (fun k_ => (P0_ k_ ∨ w.heap.size ≤ k_)) u9000_ r2 ∧ Below w0.heap.size w0 w' ∧ Kept w w' (fun k_ => P0_ k_) := by
 have HO0 := Aside0.mk (show Kd.S k24 24 w w0.heap.size (fun k_ => (P0_ k_ ∨ w.heap.size ≤ k_)) u9000_ l0 from Kd.S_mono ho0 (fun k_ hk => (.inl hk)))
 have HK := Aside0.mk (Kept.refl w (fun k_ => P0_ k_))
 have HW0 := Aside0.mk hB.size
 have HB := Aside0.mk hB
 clear hB
 have H : (laws_markOpS.l0 k l0 a1 0) = some (r1, r2) := h
 clear h
 have H' := Aside0.mk H
 clear H
 go_enter Tryd.func13, Tryd.ntmps13
 go_wp2
 go_loopg [1, 5] k (fun kq v1 v5 w' => ∃ (x0_1 : List (S24)) (x1_1 : Int) (x5_1 : Int), v1 = .int .i64 x1_1 ∧ v5 = .int .i64 x5_1 ∧ Aside0 (laws_markOpS.l0 kq x0_1 x1_1 x5_1 = some (r1, r2)) ∧ Aside0 (kq ≤ k) ∧ Aside0 (Kd.S k24 24 w' w0.heap.size (fun k_ => (P0_ k_ ∨ w.heap.size ≤ k_)) u9000_ x0_1) ∧ Aside0 (Kept w w' (fun k_ => P0_ k_)) ∧ Aside0 (Below w0.heap.size w0 w'))
 case atStart => exact ⟨(l0), (a1), (0), z4_, z4_, H', ⟨Nat.le_refl _⟩, ⟨by (with_reducible repeat (first | apply Kd.S_alloc | apply Kd.S_drewN | apply Kd.S_drew)); exact HO0.out⟩, ⟨z50_⟩, ⟨z0_⟩⟩
 case round =>
  clear H'
  obtain ⟨x0_1, x1_1, x5_1, rfl, rfl, HA, HK1, HO_0, HK, HB⟩ := hrel
  cases gk with
  | zero => exact absurd HA.out (by simp [laws_markOpS.l0])
  | succ k1 =>
   have H := HA.out
   clear HA
   simp only [laws_markOpS.l0] at H
   by_cases c3 : x5_1 < (x0_1.length : Int)
   ·rw [if_pos c3] at H
    have c3b0 := decide_eq_true c3
    obtain ⟨c4, H⟩ := ifs_ H
    have c4b0 := decide_eq_true c4
    replace H := Option.bind_eq_some_iff.mp H
    obtain ⟨⟨t1, t2⟩, A80, H⟩ := H
    have A8 := Aside0.mk A80
    clear A80
    have H' := Aside0.mk (show laws_markOpS.l0 k1 (x0_1.set (x5_1 : Int).toNat (⟨x1_1, t2, t1, wrap64 (t1 + 1), wrap64 (wrap64 (t1 + 1) + 1)⟩ : S24)) (wrap64 (wrap64 (wrap64 (t1 + 1) + 1) + 1)) (wrap64 (x5_1 + 1)) = some (r1, r2) from H)
    clear H
    obtain ⟨Ao6, co6, eo6⟩ := Kd.S_slice HO_0.out
    subst eo6
    obtain ⟨go5, co5, eo5, gb5, gl5, cl5, HG5⟩ := Kd.S_form HO_0.out (by omega)
    (first | cases eo5 | (injection eo5 with ea_ en_ ec_; (first | subst ea_ | (injection ea_ with ea_; subst ea_)); subst ec_; clear en_))
    have GB5 := Aside0.mk gb5
    have HMgo5 := Aside0.mk (show (P0_ go5 ∨ w.heap.size ≤ go5) from ((Kd.S_R HO_0.out).1 _ rfl))
    have GL5 := Aside0.mk gl5
    clear gb5 gl5 HG5
    have p6 := Aside0.mk c4
    have q6 := Aside0.mk c3
    obtain ⟨oki, cs_, hcl, hM, hcc, hoki, hh⟩ := Kd.S_lend HO_0.out z24 x5_1 c4 c3
    obtain ⟨vi, rfl, hR1⟩ := k24_openM hM
    obtain ⟨Ai, ci, ei⟩ := Kd.R_slice hR1
    subst ei
    have HH := Aside0.mk (show Kd.H k24 24 wr w0.heap.size (fun k_ => (P0_ k_ ∨ w.heap.size ≤ k_)) (.slice (some ⟨go5, 0, none⟩) x0_1.length co6) x0_1 x5_1 oki [.int .i64 (rd_T24 x0_1 x5_1).f0, .slice Ai (rd_T24 x0_1 x5_1).f1.length ci, .int .i64 (rd_T24 x0_1 x5_1).f2, .int .i64 (rd_T24 x0_1 x5_1).f3, .int .i64 (rd_T24 x0_1 x5_1).f4] from hh)
    have HR := Aside0.mk (show Kd.R (Kd.int .i64) 3 wr w0.heap.size oki (.slice Ai (rd_T24 x0_1 x5_1).f1.length ci) (rd_T24 x0_1 x5_1).f1 from hR1)
    have HOK := Aside0.mk hoki
    clear hh hR1 hoki hcl hM hcc
    have ha_ := Kd.H_at HH.out p6.out q6.out; have hxwr_0 := ha_.1 0 _ rfl; have hfwr_0 := ha_.2 0; (try simp only [show (k24).sz = 5 from rfl, Nat.mul_one, Nat.add_zero] at hxwr_0 hfwr_0); have hxwr_1 := ha_.1 1 _ rfl; have hfwr_1 := ha_.2 1; (try simp only [show (k24).sz = 5 from rfl, Nat.mul_one, Nat.add_zero] at hxwr_1 hfwr_1); have hxwr_2 := ha_.1 2 _ rfl; have hfwr_2 := ha_.2 2; (try simp only [show (k24).sz = 5 from rfl, Nat.mul_one, Nat.add_zero] at hxwr_2 hfwr_2); have hxwr_3 := ha_.1 3 _ rfl; have hfwr_3 := ha_.2 3; (try simp only [show (k24).sz = 5 from rfl, Nat.mul_one, Nat.add_zero] at hxwr_3 hfwr_3); have hxwr_4 := ha_.1 4 _ rfl; have hfwr_4 := ha_.2 4; (try simp only [show (k24).sz = 5 from rfl, Nat.mul_one, Nat.add_zero] at hxwr_4 hfwr_4); clear ha_;
    replace c3 := eq_true c3
    replace c4 := eq_true c4
    go_wp2_with (first | ((with_reducible refine gate_store (t := 3) (p := 16) rfl ?_); refine store_event (t := 3) (p := 16) (v := ?vo0) (w1 := (wr.setCell ⟨go5, (x5_1 : Int).toNat * 5, none⟩ (.int .i64 (x1_1)))) ?hg ?ho ?hn ?hr ?_; (case ho => rfl); (case hg => rfl); (case hn => rfl); (case hr => exact z18_); intro w8 hw; have hs_ := Kd.H_seg HH.out p6.out q6.out (seg := [.int .i64 (x1_1)]) (j := 0) (show 0 + 1 ≤ 5 from by decide) z101_; have hg : wr.grownBy w8 (some go5) := (by rw [hw]; exact hs_.2); have hh_ : Kd.H k24 24 w8 w0.heap.size (fun k_ => (P0_ k_ ∨ w.heap.size ≤ k_)) (.slice (some ⟨go5, 0, none⟩) x0_1.length co6) x0_1 x5_1 oki [.int .i64 x1_1, .slice Ai (rd_T24 x0_1 x5_1).f1.length ci, .int .i64 (rd_T24 x0_1 x5_1).f2, .int .i64 (rd_T24 x0_1 x5_1).f3, .int .i64 (rd_T24 x0_1 x5_1).f4] := (by rw [hw]; exact hs_.1); clear hs_; replace HH := Aside0.mk hh_; replace HR := Aside0.mk (Kd.R_grown HR.out hg (fun k_ h_ e_ => (HOK.out k_ h_).2 (by injection e_))); replace HB := Aside0.mk ((by rw [hw]; exact below_set (HB.out) GB5.out : Below w0.heap.size w0 w8)); replace HK := Aside0.mk (Kept.of_grown (S := (fun k_ => P0_ k_)) hg HK.out (fun k_ e_ => by injection e_ with e_; subst e_; exact HMgo5.out)); have GL8 := Aside0.mk (Nat.lt_of_lt_of_le GL5.out hg.size : go5 < w8.heap.size); have HW8 := Aside0.mk HK.out.1; have ha_ := Kd.H_at HH.out p6.out q6.out; have hxw8_0 := ha_.1 0 _ rfl; have hfw8_0 := ha_.2 0; (try simp only [show (k24).sz = 5 from rfl, Nat.mul_one, Nat.add_zero] at hxw8_0 hfw8_0); have hxw8_1 := ha_.1 1 _ rfl; have hfw8_1 := ha_.2 1; (try simp only [show (k24).sz = 5 from rfl, Nat.mul_one, Nat.add_zero] at hxw8_1 hfw8_1); have hxw8_2 := ha_.1 2 _ rfl; have hfw8_2 := ha_.2 2; (try simp only [show (k24).sz = 5 from rfl, Nat.mul_one, Nat.add_zero] at hxw8_2 hfw8_2); have hxw8_3 := ha_.1 3 _ rfl; have hfw8_3 := ha_.2 3; (try simp only [show (k24).sz = 5 from rfl, Nat.mul_one, Nat.add_zero] at hxw8_3 hfw8_3); have hxw8_4 := ha_.1 4 _ rfl; have hfw8_4 := ha_.2 4; (try simp only [show (k24).sz = 5 from rfl, Nat.mul_one, Nat.add_zero] at hxw8_4 hfw8_4); clear ha_; clear hg hw hh_) | ((with_reducible refine gate_callee (f := 24) rfl ?_); refine goesL_ (some 25) rfl rfl Tryd.func24 (by kernel_rfl) rfl #[.slice Ai (rd_T24 x0_1 x5_1).f1.length ci, .int .i64 (wrap64 (x1_1 + 1))] rfl (by first | rfl | (go_simp; done) | (go_simp; rfl)) ?_; (with_reducible refine (laws_markIntS.calls k1 oki _ (rd_T24 x0_1 x5_1).f1 (wrap64 (x1_1 + 1)) t1 t2 w0 _ HB.out HR.out A8.out).mono ?_); rintro e w9 ⟨rfl, ho0, hb, hk⟩; refine ⟨_, rfl, ?_⟩; replace HH := Aside0.mk (Kd.H_kept (Kd.H_widen HH.out) hk (fun k_ _ hn_ h_ => hn_ (.inl h_))); replace HR := Aside0.mk ho0; replace HK := Aside0.mk (Kept.then_ HK.out hk (fun k_ h_ => (HOK.out k_ h_).1)); replace HB := Aside0.mk hb; clear ho0 hb hk; have ha_ := Kd.H_at HH.out p6.out q6.out; have hxw9_0 := ha_.1 0 _ rfl; have hfw9_0 := ha_.2 0; (try simp only [show (k24).sz = 5 from rfl, Nat.mul_one, Nat.add_zero] at hxw9_0 hfw9_0); have hxw9_1 := ha_.1 1 _ rfl; have hfw9_1 := ha_.2 1; (try simp only [show (k24).sz = 5 from rfl, Nat.mul_one, Nat.add_zero] at hxw9_1 hfw9_1); have hxw9_2 := ha_.1 2 _ rfl; have hfw9_2 := ha_.2 2; (try simp only [show (k24).sz = 5 from rfl, Nat.mul_one, Nat.add_zero] at hxw9_2 hfw9_2); have hxw9_3 := ha_.1 3 _ rfl; have hfw9_3 := ha_.2 3; (try simp only [show (k24).sz = 5 from rfl, Nat.mul_one, Nat.add_zero] at hxw9_3 hfw9_3); have hxw9_4 := ha_.1 4 _ rfl; have hfw9_4 := ha_.2 4; (try simp only [show (k24).sz = 5 from rfl, Nat.mul_one, Nat.add_zero] at hxw9_4 hfw9_4); clear ha_;) | ((with_reducible refine gate_store (t := 3) (p := 30) rfl ?_); refine store_event (t := 3) (p := 30) (v := ?vo2) (w1 := (w9.setCell ⟨go5, (x5_1 : Int).toNat * 5 + 2, none⟩ (.int .i64 (t1)))) ?hg ?ho ?hn ?hr ?_; (case ho => rfl); (case hg => rfl); (case hn => rfl); (case hr => exact z18_); intro w10 hw; have hs_ := Kd.H_seg HH.out p6.out q6.out (seg := [.int .i64 (t1)]) (j := 2) (show 2 + 1 ≤ 5 from by decide) z101_; have hg : w9.grownBy w10 (some go5) := (by rw [hw]; exact hs_.2); have hh_ : Kd.H k24 24 w10 w0.heap.size (fun k_ => (P0_ k_ ∨ w.heap.size ≤ k_)) (.slice (some ⟨go5, 0, none⟩) x0_1.length co6) x0_1 x5_1 (fun k_ => oki k_ ∨ (P0_ k_ ∨ w.heap.size ≤ k_) ∧ w8.heap.size ≤ k_) [.int .i64 x1_1, .slice Ai (rd_T24 x0_1 x5_1).f1.length ci, .int .i64 t1, .int .i64 (rd_T24 x0_1 x5_1).f3, .int .i64 (rd_T24 x0_1 x5_1).f4] := (by rw [hw]; exact hs_.1); clear hs_; replace HH := Aside0.mk hh_; replace HR := Aside0.mk (Kd.R_grown HR.out hg (fun k_ h_ e_ => h_.elim (fun h2_ => (HOK.out k_ h2_).2 (by injection e_)) (fun h2_ => by injection e_ with e_; have := GL8.out; omega))); replace HB := Aside0.mk ((by rw [hw]; exact below_set (HB.out) GB5.out : Below w0.heap.size w0 w10)); replace HK := Aside0.mk (Kept.of_grown (S := (fun k_ => P0_ k_)) hg HK.out (fun k_ e_ => by injection e_ with e_; subst e_; exact HMgo5.out)); have ha_ := Kd.H_at HH.out p6.out q6.out; have hxw10_0 := ha_.1 0 _ rfl; have hfw10_0 := ha_.2 0; (try simp only [show (k24).sz = 5 from rfl, Nat.mul_one, Nat.add_zero] at hxw10_0 hfw10_0); have hxw10_1 := ha_.1 1 _ rfl; have hfw10_1 := ha_.2 1; (try simp only [show (k24).sz = 5 from rfl, Nat.mul_one, Nat.add_zero] at hxw10_1 hfw10_1); have hxw10_2 := ha_.1 2 _ rfl; have hfw10_2 := ha_.2 2; (try simp only [show (k24).sz = 5 from rfl, Nat.mul_one, Nat.add_zero] at hxw10_2 hfw10_2); have hxw10_3 := ha_.1 3 _ rfl; have hfw10_3 := ha_.2 3; (try simp only [show (k24).sz = 5 from rfl, Nat.mul_one, Nat.add_zero] at hxw10_3 hfw10_3); have hxw10_4 := ha_.1 4 _ rfl; have hfw10_4 := ha_.2 4; (try simp only [show (k24).sz = 5 from rfl, Nat.mul_one, Nat.add_zero] at hxw10_4 hfw10_4); clear ha_; clear hg hw hh_) | ((with_reducible refine gate_store (t := 3) (p := 37) rfl ?_); refine store_event (t := 3) (p := 37) (v := ?vo3) (w1 := (w10.setCell ⟨go5, (x5_1 : Int).toNat * 5 + 3, none⟩ (.int .i64 (wrap64 (t1 + 1))))) ?hg ?ho ?hn ?hr ?_; (case ho => rfl); (case hg => rfl); (case hn => rfl); (case hr => exact z18_); intro w11 hw; have hs_ := Kd.H_seg HH.out p6.out q6.out (seg := [.int .i64 (wrap64 (t1 + 1))]) (j := 3) (show 3 + 1 ≤ 5 from by decide) z101_; have hg : w10.grownBy w11 (some go5) := (by rw [hw]; exact hs_.2); have hh_ : Kd.H k24 24 w11 w0.heap.size (fun k_ => (P0_ k_ ∨ w.heap.size ≤ k_)) (.slice (some ⟨go5, 0, none⟩) x0_1.length co6) x0_1 x5_1 (fun k_ => oki k_ ∨ (P0_ k_ ∨ w.heap.size ≤ k_) ∧ w8.heap.size ≤ k_) [.int .i64 x1_1, .slice Ai (rd_T24 x0_1 x5_1).f1.length ci, .int .i64 t1, .int .i64 (wrap64 (t1 + 1)), .int .i64 (rd_T24 x0_1 x5_1).f4] := (by rw [hw]; exact hs_.1); clear hs_; replace HH := Aside0.mk hh_; replace HR := Aside0.mk (Kd.R_grown HR.out hg (fun k_ h_ e_ => h_.elim (fun h2_ => (HOK.out k_ h2_).2 (by injection e_)) (fun h2_ => by injection e_ with e_; have := GL8.out; omega))); replace HB := Aside0.mk ((by rw [hw]; exact below_set (HB.out) GB5.out : Below w0.heap.size w0 w11)); replace HK := Aside0.mk (Kept.of_grown (S := (fun k_ => P0_ k_)) hg HK.out (fun k_ e_ => by injection e_ with e_; subst e_; exact HMgo5.out)); have ha_ := Kd.H_at HH.out p6.out q6.out; have hxw11_0 := ha_.1 0 _ rfl; have hfw11_0 := ha_.2 0; (try simp only [show (k24).sz = 5 from rfl, Nat.mul_one, Nat.add_zero] at hxw11_0 hfw11_0); have hxw11_1 := ha_.1 1 _ rfl; have hfw11_1 := ha_.2 1; (try simp only [show (k24).sz = 5 from rfl, Nat.mul_one, Nat.add_zero] at hxw11_1 hfw11_1); have hxw11_2 := ha_.1 2 _ rfl; have hfw11_2 := ha_.2 2; (try simp only [show (k24).sz = 5 from rfl, Nat.mul_one, Nat.add_zero] at hxw11_2 hfw11_2); have hxw11_3 := ha_.1 3 _ rfl; have hfw11_3 := ha_.2 3; (try simp only [show (k24).sz = 5 from rfl, Nat.mul_one, Nat.add_zero] at hxw11_3 hfw11_3); have hxw11_4 := ha_.1 4 _ rfl; have hfw11_4 := ha_.2 4; (try simp only [show (k24).sz = 5 from rfl, Nat.mul_one, Nat.add_zero] at hxw11_4 hfw11_4); clear ha_; clear hg hw hh_) | ((with_reducible refine gate_store (t := 3) (p := 44) rfl ?_); refine store_event (t := 3) (p := 44) (v := ?vo4) (w1 := (w11.setCell ⟨go5, (x5_1 : Int).toNat * 5 + 4, none⟩ (.int .i64 (wrap64 (wrap64 (t1 + 1) + 1))))) ?hg ?ho ?hn ?hr ?_; (case ho => rfl); (case hg => rfl); (case hn => rfl); (case hr => exact z18_); intro w12 hw; have hs_ := Kd.H_seg HH.out p6.out q6.out (seg := [.int .i64 (wrap64 (wrap64 (t1 + 1) + 1))]) (j := 4) (show 4 + 1 ≤ 5 from by decide) z101_; have hg : w11.grownBy w12 (some go5) := (by rw [hw]; exact hs_.2); have hh_ : Kd.H k24 24 w12 w0.heap.size (fun k_ => (P0_ k_ ∨ w.heap.size ≤ k_)) (.slice (some ⟨go5, 0, none⟩) x0_1.length co6) x0_1 x5_1 (fun k_ => oki k_ ∨ (P0_ k_ ∨ w.heap.size ≤ k_) ∧ w8.heap.size ≤ k_) [.int .i64 x1_1, .slice Ai (rd_T24 x0_1 x5_1).f1.length ci, .int .i64 t1, .int .i64 (wrap64 (t1 + 1)), .int .i64 (wrap64 (wrap64 (t1 + 1) + 1))] := (by rw [hw]; exact hs_.1); clear hs_; replace HH := Aside0.mk hh_; replace HR := Aside0.mk (Kd.R_grown HR.out hg (fun k_ h_ e_ => h_.elim (fun h2_ => (HOK.out k_ h2_).2 (by injection e_)) (fun h2_ => by injection e_ with e_; have := GL8.out; omega))); replace HB := Aside0.mk ((by rw [hw]; exact below_set (HB.out) GB5.out : Below w0.heap.size w0 w12)); replace HK := Aside0.mk (Kept.of_grown (S := (fun k_ => P0_ k_)) hg HK.out (fun k_ e_ => by injection e_ with e_; subst e_; exact HMgo5.out)); have ha_ := Kd.H_at HH.out p6.out q6.out; have hxw12_0 := ha_.1 0 _ rfl; have hfw12_0 := ha_.2 0; (try simp only [show (k24).sz = 5 from rfl, Nat.mul_one, Nat.add_zero] at hxw12_0 hfw12_0); have hxw12_1 := ha_.1 1 _ rfl; have hfw12_1 := ha_.2 1; (try simp only [show (k24).sz = 5 from rfl, Nat.mul_one, Nat.add_zero] at hxw12_1 hfw12_1); have hxw12_2 := ha_.1 2 _ rfl; have hfw12_2 := ha_.2 2; (try simp only [show (k24).sz = 5 from rfl, Nat.mul_one, Nat.add_zero] at hxw12_2 hfw12_2); have hxw12_3 := ha_.1 3 _ rfl; have hfw12_3 := ha_.2 3; (try simp only [show (k24).sz = 5 from rfl, Nat.mul_one, Nat.add_zero] at hxw12_3 hfw12_3); have hxw12_4 := ha_.1 4 _ rfl; have hfw12_4 := ha_.2 4; (try simp only [show (k24).sz = 5 from rfl, Nat.mul_one, Nat.add_zero] at hxw12_4 hfw12_4); clear ha_; clear hg hw hh_))
    have HO_1 := Aside0.mk (Kd.H_back HH.out (k24_mkM _ _ _ (⟨x1_1, t2, t1, wrap64 (t1 + 1), wrap64 (wrap64 (t1 + 1) + 1)⟩ : S24) HR.out) (fun k_ h_ => h_.elim .inl (fun h2_ => .inr ⟨.inr (Nat.le_trans HW8.out h2_), h2_⟩)))
    clear HO_0
    have HO_0 := HO_1
    go_roundg k1
    case measure => have := HK1.out; omega
    case rel => exact ⟨_, (wrap64 (wrap64 (wrap64 (t1 + 1) + 1) + 1)), (wrap64 (x5_1 + 1)), z4_, z4_, H', ⟨z62_⟩, ⟨z111_⟩, ⟨z50_⟩, ⟨z0_⟩⟩
   ·rw [if_neg c3] at H
    have c3b0 := decide_eq_false c3
    clear c3
    simp only [Option.some.injEq, Prod.mk.injEq] at H
    obtain ⟨rfl, rfl⟩ := H
    obtain ⟨Ao12, co12, eo12⟩ := Kd.S_slice HO_0.out
    subst eo12
    go_wp2
    go_ret
    exact ⟨z2_, z111_, z0_, z50_⟩

/-! ### laws_heldIntS: function 25 -/
def laws_heldIntS.l0 : Nat → List Int → Int → Int → Option (Int)
 | 0, _, _, _ => none
 | k + 1, x0, x1, x5 => if x5 < (x0.length : Int) then (if 0 ≤ x5 then (if (rd x0 x5) = x1 then (laws_heldIntS.l0 k x0 (wrap64 (x1 + 1)) (wrap64 (x5 + 1))) else (some (-1))) else (none)) else (some x1)
def laws_heldIntS.f (k : Nat) (l0 : List Int) (a1 : Int) : Option (Int) := laws_heldIntS.l0 k l0 a1 0
set_option maxHeartbeats 8000000 in
set_option maxRecDepth 100000 in
theorem laws_heldIntS.calls (k : Nat) (A0 : Option Addr) (c0 : Nat) (l0 : List Int) (a1 : Int) (r : Int) (w : World) (hr0 : Kd.C (Kd.int .i64) w A0 l0.length l0) (hc0 : l0.length ≤ c0) (h : laws_heldIntS.f k l0 a1 = some r) :
  Calls Tryd.prog 25 #[.slice A0 l0.length c0, .int .i64 a1] w fun e w' => e = .returned (.int .i64 r) ∧ Drawn0 w w' := by
 have HR0 := Aside0.mk hr0
 have HC0 := Aside0.mk hc0
 clear hr0 hc0
 have H : (laws_heldIntS.l0 k l0 a1 0) = some r := h
 clear h
 have H' := Aside0.mk H
 clear H
 go_enter Tryd.func25, Tryd.ntmps25
 go_wp2
 go_loopg [1, 5] k (fun kq v1 v5 w' => ∃ (x1_1 : Int) (x5_1 : Int), v1 = .int .i64 x1_1 ∧ v5 = .int .i64 x5_1 ∧ Aside0 (laws_heldIntS.l0 kq l0 x1_1 x5_1 = some r) ∧ Aside0 (kq ≤ k) ∧ Drawn0 w w')
 case atStart => exact ⟨(a1), (0), z4_, z4_, H', ⟨Nat.le_refl _⟩, z24_⟩
 case round =>
  clear H'
  try clear c2
  try clear p2
  obtain ⟨x1_1, x5_1, rfl, rfl, HA, HK1, ⟨m1, rfl⟩⟩ := hrel
  cases gk with
  | zero => exact absurd HA.out (by simp [laws_heldIntS.l0])
  | succ k1 =>
   have H := HA.out
   clear HA
   simp only [laws_heldIntS.l0] at H
   by_cases c3 : x5_1 < (l0.length : Int)
   ·rw [if_pos c3] at H
    have c3b0 := decide_eq_true c3
    clear c3
    obtain ⟨c4b0, H⟩ := ifd_ H
    by_cases c5 : (rd l0 x5_1) = x1_1
    ·rw [if_pos c5] at H
     have c5b0 : ((rd l0 x5_1) == x1_1) = true := beq_iff_eq.mpr c5
     have c5b1 : ((rd l0 x5_1) != x1_1) = false := bne_eq_false_iff_eq.mpr c5
     clear c5
     have H' := Aside0.mk H
     clear H
     have p335 : 0 ≤ (x5_1 : Int) := odt_
     have q335 : x5_1 < (l0.length : Int) := odt_
     obtain ⟨ad335, e335, hx335_0⟩ := Kd.at_int HR0.out x5_1 p335 q335
     cases e335
     replace p335 := eq_true p335
     replace q335 := eq_true q335
     go_wp2
     go_roundg k1
     case measure => have := HK1.out; omega
     case rel => exact ⟨(wrap64 (x1_1 + 1)), (wrap64 (x5_1 + 1)), z4_, z4_, H', ⟨z62_⟩, z24_⟩
    ·rw [if_neg c5] at H
     have c5b0 : ((rd l0 x5_1) == x1_1) = false := beq_eq_false_iff_ne.mpr c5
     have c5b1 : ((rd l0 x5_1) != x1_1) = true := bne_iff_ne.mpr c5
     obtain rfl := Option.some.inj H
     have p335 : 0 ≤ (x5_1 : Int) := odt_
     have q335 : x5_1 < (l0.length : Int) := odt_
     obtain ⟨ad335, e335, hx335_0⟩ := Kd.at_int HR0.out x5_1 p335 q335
     cases e335
     replace p335 := eq_true p335
     replace q335 := eq_true q335
     go_wp2
     go_ret
     exact ⟨z4_, z24_⟩
   ·rw [if_neg c3] at H
    have c3b0 := decide_eq_false c3
    clear c3
    obtain rfl := Option.some.inj H
    go_wp2
    go_ret
    exact ⟨z4_, z24_⟩

end Go.Proofs.YtlfmlagdnebkiaaDoor.PFnExactReadScript
