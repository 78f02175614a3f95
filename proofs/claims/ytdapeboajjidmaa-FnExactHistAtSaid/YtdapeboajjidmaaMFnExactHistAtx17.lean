/- Laid by a program of this session out of the kit's print for the law FnExactHistAt: what it says of the machine is proved here, function by function; each contract under the conditions that it names. -/
import Derived.Test.YtdapeboajjidmaaMFnExactHistAtx2
import Derived.Test.YtdapeboajjidmaaMFnExactHistAtx3
import Derived.Test.YtdapeboajjidmaaMFnExactHistAtx4
import Derived.Test.YtdapeboajjidmaaMFnExactHistAtx5
import Derived.Test.YtdapeboajjidmaaMFnExactHistAtx6
import Derived.Test.YtdapeboajjidmaaMFnExactHistAtx7
import Derived.Test.YtdapeboajjidmaaMFnExactHistAtx8
import Derived.Test.YtdapeboajjidmaaMFnExactHistAtx9
import Derived.Test.YtdapeboajjidmaaMFnExactHistAtx10
import Derived.Test.YtdapeboajjidmaaMFnExactHistAtx11
import Derived.Test.YtdapeboajjidmaaMFnExactHistAtx12
import Derived.Test.YtdapeboajjidmaaMFnExactHistAtx13
import Derived.Test.YtdapeboajjidmaaMFnExactHistAtx14
import Derived.Test.YtdapeboajjidmaaMFnExactHistAtx15
import Derived.Test.YtdapeboajjidmaaMFnExactHistAtx0
import Derived.Test.YtdapeboajjidmaaMFnExactHistAtx1
import Derived.Test.YtdapeboajjidmaaMFnExactHistAtx16
namespace Go.Proofs.Ytdapeboajjidmaa.PFnExactHistAt
open Go.RowKit Go.Proofs.YtdapeboajjidmaaW.PrintWords Go.Proofs.YtdapeboajjidmaaW.PrintLast Go.Proofs.YtdapeboajjidmaaW.PrintMore
attribute [local go_sem] max2_int min2_int max_two min_two max_three min_three max_four min_four   -- for this text's walks alone
set_option linter.unusedVariables false
set_option linter.unusedSimpArgs false

/-! ### laws_eqOpSS: function 64 -/
def laws_eqOpSS.l0 : Nat → List (List (S78)) → List (List (S78)) → Int → Option (Bool)
 | 0, _, _, _ => none
 | k + 1, x0, x1, x5 => if x5 < (x0.length : Int) then (if 0 ≤ x5 then (if x5 < (x1.length : Int) then ((laws_eqOpS.f k (rd_L7 x0 x5) (rd_L7 x1 x5)).bind fun t494 => (if t494 = true then (laws_eqOpSS.l0 k x0 x1 (wrap64 (x5 + 1))) else (some false))) else (none)) else (none)) else (some true)
def laws_eqOpSS.f (k : Nat) (l0 : List (List (S78))) (l1 : List (List (S78))) : Option (Bool) := if (l0.length : Int) = (l1.length : Int) then (laws_eqOpSS.l0 k l0 l1 0) else (some false)
def laws_eqOpSS.T6 : Bool × List (List Nat × List Nat) := (true, [([], []), ([], []), ([0, 1], [0, 1]), ([2], [2]), ([], []), ([], []), ([4, 5], [4, 5]), ([6], [6]), ([3, 7], [3, 7]), ([8], [8])])
def laws_eqOpSS.B6 : List Nat := [0, 0, 3, 7, 0, 0, 48, 112, 255, 511]
theorem laws_eqOpSS.tab6 : rtab .any (opsOf Try.f64 6) = laws_eqOpSS.T6 := by kernel_rfl
theorem laws_eqOpSS.bits6 : waitsOk laws_eqOpSS.T6.2 laws_eqOpSS.B6 = true := by kernel_rfl
set_option maxHeartbeats 8000000 in
set_option maxRecDepth 100000 in
theorem laws_eqOpSS.calls (k : Nat) (A0 : Option Addr) (c0 : Nat) (l0 : List (List (S78))) (A1 : Option Addr) (c1 : Nat) (l1 : List (List (S78))) (r : Bool) (w : World) (hr0 : Kd.C (Kd.slice 78 k78) w A0 l0.length l0) (hc0 : l0.length ≤ c0) (hr1 : Kd.C (Kd.slice 78 k78) w A1 l1.length l1) (hc1 : l1.length ≤ c1) (h : laws_eqOpSS.f k l0 l1 = some r) :
  Calls Try.prog 64 #[.slice A0 l0.length c0, .slice A1 l1.length c1] w fun e w' => e = .returned (.bool r) ∧ Below w.heap.size w w' := by
 have HR0 := Aside0.mk hr0
 have HC0 := Aside0.mk hc0
 clear hr0 hc0
 have HR1 := Aside0.mk hr1
 have HC1 := Aside0.mk hc1
 clear hr1 hc1
 have HB := Aside0.mk (Below.refl w.heap.size w)
 have H : (if (l0.length : Int) = (l1.length : Int) then (laws_eqOpSS.l0 k l0 l1 0) else (some false)) = some r := h
 clear h
 by_cases c3 : (l0.length : Int) = (l1.length : Int)
 ·rw [if_pos c3] at H
  have c3b0 : ((l0.length : Int) == (l1.length : Int)) = true := beq_iff_eq.mpr c3
  have c3b1 : ((l0.length : Int) != (l1.length : Int)) = false := bne_eq_false_iff_eq.mpr c3
  have c3b2 : (l0.length == l1.length) = true := by first | simpa using c3 | (simp at c3 ⊢; omega)
  clear c3
  have H' := Aside0.mk H
  clear H
  go_enter Try.func64, Try.ntmps64
  go_wp2
  go_loopg [5] k (fun kq v5 w' => ∃ (x5_1 : Int), v5 = .int .i64 x5_1 ∧ Aside0 (laws_eqOpSS.l0 kq l0 l1 x5_1 = some r) ∧ Aside0 (kq ≤ k) ∧ Aside0 (Below w.heap.size w w'))
  case atStart => exact ⟨(0), z5_, H', ⟨Nat.le_refl _⟩, ⟨z0_⟩⟩
  case round =>
   clear H'
   try clear c1
   try clear p2
   try clear c3
   try clear c3b0
   try clear c3b1
   try clear c3b2
   obtain ⟨x5_1, rfl, HA, HK1, HB⟩ := hrel
   cases gk with
   | zero => exact absurd HA.out (by simp [laws_eqOpSS.l0])
   | succ k1 =>
    have H := HA.out
    clear HA
    simp only [laws_eqOpSS.l0] at H
    by_cases c4 : x5_1 < (l0.length : Int)
    ·rw [if_pos c4] at H
     have c4b0 := decide_eq_true c4
     clear c4
     obtain ⟨c5b0, H⟩ := ifd_ H
     obtain ⟨c6b0, H⟩ := ifd_ H
     obtain ⟨t494, A7, H⟩ := bnd_ H
     by_cases c8 : t494 = true
     ·subst c8
      replace H := ift_ H
      have H' := Aside0.mk H
      clear H
      try go_wp2
      have n0_ := Aside0.mk (below_drew1 HB.out)
      clear HB
      have HB := n0_
      clear n0_
      have p492 : 0 ≤ (x5_1 : Int) := odt_
      have q492 : x5_1 < (l0.length : Int) := odt_
      obtain ⟨ad492, A492_0, c492_0, e492, hx492_0, hl492_0, hi492_0⟩ := at_L7 HR0.out x5_1 p492 q492
      have hw492_0 := hx492_0
      cases e492
      replace hx492_0 := (HB.out.cell (World.block_lt_of_cell? w _ hx492_0)).trans hx492_0
      have HR492_0 := Aside0.mk hi492_0
      have HC492_0 := Aside0.mk hl492_0
      clear hi492_0 hl492_0
      replace p492 := eq_true p492
      replace q492 := eq_true q492
      have p493 : 0 ≤ (x5_1 : Int) := odt_
      have q493 : x5_1 < (l1.length : Int) := odt_
      obtain ⟨ad493, A493_0, c493_0, e493, hx493_0, hl493_0, hi493_0⟩ := at_L7 HR1.out x5_1 p493 q493
      have hw493_0 := hx493_0
      cases e493
      replace hx493_0 := (HB.out.cell (World.block_lt_of_cell? w _ hx493_0)).trans hx493_0
      have HR493_0 := Aside0.mk hi493_0
      have HC493_0 := Aside0.mk hl493_0
      clear hi493_0 hl493_0
      replace p493 := eq_true p493
      replace q493 := eq_true q493
      refine start_ (n := 10) (S := fun w' => w'.cell? (ad492.add (x5_1).toNat) = some (.slice A492_0 (rd_L7 l0 x5_1).length c492_0) ∧ w'.cell? (ad493.add (x5_1).toNat) = some (.slice A493_0 (rd_L7 l1 x5_1).length c493_0)) (ds := []) (fl_ 10 0) (by kernel_rfl) rfl (fl_zero _) ⟨((HB.out.cell (World.block_lt_of_cell? w _ hw492_0)).trans hw492_0), ((HB.out.cell (World.block_lt_of_cell? w _ hw493_0)).trans hw493_0)⟩ (fun hHeld => ?_); refine with_tabW laws_eqOpSS.tab6 laws_eqOpSS.bits6 (fun HT_ HW_ => ?_)
      generalize wr.drew = w9 at HB HR492_0 HR493_0 hx492_0 hx493_0 hHeld ⊢
      iterate 3 refine zp_ HT_ rfl rfl (by kernel_rfl) (fun _ _ _ h => h) (by rfl) ?_
      refine zpg_ (i := 4) (ra_ [3, 1, 1, 5]) HT_ rfl rfl (by kernel_rfl) (fun _ _ _ h => h) (by rfl) ?_
      refine zpg_ (i := 5) (ra_ [3, 1, 2, 4]) HT_ rfl rfl (by kernel_rfl) (fun _ _ _ h => h) (by rfl) ?_
      refine zpg_ (i := 6) (ra_ [3, 1, 3, 3]) HT_ rfl rfl (by kernel_rfl) (fun _ _ _ h => h) (by rfl) ?_
      refine ztg_ (i := 3) (fl_ 10 7) HT_ HW_ rfl rfl (by kernel_rfl) (fun _ _ _ h => h) (by rfl) hHeld ?_ z70_
      refine zt_ HT_ HW_ rfl rfl (by kernel_rfl) (fun _ _ _ h => h) (by rfl) hHeld ?_ z70_
      refine one_ (i := 8) (N := some 25) (fl_ 10 9) rfl rfl (one_of HT_.out (by kernel_rfl)) (by decide) (fun K hK => ?_)
      refine goes_ Try.func15 (by kernel_rfl) rfl #[.slice A492_0 (rd_L7 l0 x5_1).length c492_0, .slice A493_0 (rd_L7 l1 x5_1).length c493_0] (by rfl) rfl rfl z1_ ?_
      with_reducible refine (laws_eqOpS.calls k1 _ _ (rd_L7 l0 x5_1) _ _ (rd_L7 l1 x5_1) true _ ?side1 ?side2 ?side3 ?side4 A7.out).mono ?_
      (case side1 => exact z120_)
      (case side2 => exact HC492_0.out)
      (case side3 => exact z121_)
      (case side4 => exact HC493_0.out)
      rintro e w10 ⟨rfl, hb⟩
      refine ⟨_, rfl, ?_⟩
      have n0_ := Aside0.mk (below_step z0_ hb)
      clear HB
      have HB := n0_
      clear n0_
      (try clear hb)
      (try clear hb2)
      (try clear hk)
      (try clear hi)
      refine hK.out _ _ ⟨((HB.out.cell (World.block_lt_of_cell? w _ hw492_0)).trans hw492_0), ((HB.out.cell (World.block_lt_of_cell? w _ hw493_0)).trans hw493_0)⟩ (fun hHeld => ?_)
      clear hK K
      refine zn_ rfl ?_
      refine zp_ HT_ rfl rfl (by kernel_rfl) (fun _ _ _ h => h) (by rfl) ?_
      refine done_ (done_of HT_.out (by kernel_rfl)) ?_
      try go_wp2
      go_roundg k1
      case measure => have := HK1.out; omega
      case rel => exact ⟨(wrap64 (x5_1 + 1)), z5_, H', ⟨z66_⟩, ⟨z0_⟩⟩
     ·replace c8 := Bool.eq_false_iff.mpr c8
      subst c8
      replace H := iff_ H
      obtain rfl := Option.some.inj H
      try go_wp2
      have n0_ := Aside0.mk (below_drew1 HB.out)
      clear HB
      have HB := n0_
      clear n0_
      have p492 : 0 ≤ (x5_1 : Int) := odt_
      have q492 : x5_1 < (l0.length : Int) := odt_
      obtain ⟨ad492, A492_0, c492_0, e492, hx492_0, hl492_0, hi492_0⟩ := at_L7 HR0.out x5_1 p492 q492
      have hw492_0 := hx492_0
      cases e492
      replace hx492_0 := (HB.out.cell (World.block_lt_of_cell? w _ hx492_0)).trans hx492_0
      have HR492_0 := Aside0.mk hi492_0
      have HC492_0 := Aside0.mk hl492_0
      clear hi492_0 hl492_0
      replace p492 := eq_true p492
      replace q492 := eq_true q492
      have p493 : 0 ≤ (x5_1 : Int) := odt_
      have q493 : x5_1 < (l1.length : Int) := odt_
      obtain ⟨ad493, A493_0, c493_0, e493, hx493_0, hl493_0, hi493_0⟩ := at_L7 HR1.out x5_1 p493 q493
      have hw493_0 := hx493_0
      cases e493
      replace hx493_0 := (HB.out.cell (World.block_lt_of_cell? w _ hx493_0)).trans hx493_0
      have HR493_0 := Aside0.mk hi493_0
      have HC493_0 := Aside0.mk hl493_0
      clear hi493_0 hl493_0
      replace p493 := eq_true p493
      replace q493 := eq_true q493
      refine start_ (n := 10) (S := fun w' => w'.cell? (ad492.add (x5_1).toNat) = some (.slice A492_0 (rd_L7 l0 x5_1).length c492_0) ∧ w'.cell? (ad493.add (x5_1).toNat) = some (.slice A493_0 (rd_L7 l1 x5_1).length c493_0)) (ds := []) (fl_ 10 0) (by kernel_rfl) rfl (fl_zero _) ⟨((HB.out.cell (World.block_lt_of_cell? w _ hw492_0)).trans hw492_0), ((HB.out.cell (World.block_lt_of_cell? w _ hw493_0)).trans hw493_0)⟩ (fun hHeld => ?_); refine with_tabW laws_eqOpSS.tab6 laws_eqOpSS.bits6 (fun HT_ HW_ => ?_)
      generalize wr.drew = w11 at HB HR492_0 HR493_0 hx492_0 hx493_0 hHeld ⊢
      iterate 3 refine zp_ HT_ rfl rfl (by kernel_rfl) (fun _ _ _ h => h) (by rfl) ?_
      refine zpg_ (i := 4) (ra_ [3, 1, 1, 5]) HT_ rfl rfl (by kernel_rfl) (fun _ _ _ h => h) (by rfl) ?_
      refine zpg_ (i := 5) (ra_ [3, 1, 2, 4]) HT_ rfl rfl (by kernel_rfl) (fun _ _ _ h => h) (by rfl) ?_
      refine zpg_ (i := 6) (ra_ [3, 1, 3, 3]) HT_ rfl rfl (by kernel_rfl) (fun _ _ _ h => h) (by rfl) ?_
      refine ztg_ (i := 3) (fl_ 10 7) HT_ HW_ rfl rfl (by kernel_rfl) (fun _ _ _ h => h) (by rfl) hHeld ?_ z70_
      refine zt_ HT_ HW_ rfl rfl (by kernel_rfl) (fun _ _ _ h => h) (by rfl) hHeld ?_ z70_
      refine one_ (i := 8) (N := some 25) (fl_ 10 9) rfl rfl (one_of HT_.out (by kernel_rfl)) (by decide) (fun K hK => ?_)
      refine goes_ Try.func15 (by kernel_rfl) rfl #[.slice A492_0 (rd_L7 l0 x5_1).length c492_0, .slice A493_0 (rd_L7 l1 x5_1).length c493_0] (by rfl) rfl rfl z1_ ?_
      with_reducible refine (laws_eqOpS.calls k1 _ _ (rd_L7 l0 x5_1) _ _ (rd_L7 l1 x5_1) false _ ?side1 ?side2 ?side3 ?side4 A7.out).mono ?_
      (case side1 => exact z120_)
      (case side2 => exact HC492_0.out)
      (case side3 => exact z121_)
      (case side4 => exact HC493_0.out)
      rintro e w12 ⟨rfl, hb⟩
      refine ⟨_, rfl, ?_⟩
      have n0_ := Aside0.mk (below_step z0_ hb)
      clear HB
      have HB := n0_
      clear n0_
      (try clear hb)
      (try clear hb2)
      (try clear hk)
      (try clear hi)
      refine hK.out _ _ ⟨((HB.out.cell (World.block_lt_of_cell? w _ hw492_0)).trans hw492_0), ((HB.out.cell (World.block_lt_of_cell? w _ hw493_0)).trans hw493_0)⟩ (fun hHeld => ?_)
      clear hK K
      refine zn_ rfl ?_
      refine zp_ HT_ rfl rfl (by kernel_rfl) (fun _ _ _ h => h) (by rfl) ?_
      refine done_ (done_of HT_.out (by kernel_rfl)) ?_
      try go_wp2
      go_ret
      exact ⟨z3_, z0_⟩
    ·rw [if_neg c4] at H
     have c4b0 := decide_eq_false c4
     clear c4
     obtain rfl := Option.some.inj H
     go_wp2
     go_ret
     exact ⟨z3_, z0_⟩
 ·rw [if_neg c3] at H
  have c3b0 : ((l0.length : Int) == (l1.length : Int)) = false := beq_eq_false_iff_ne.mpr c3
  have c3b1 : ((l0.length : Int) != (l1.length : Int)) = true := bne_iff_ne.mpr c3
  have c3b2 : (l0.length == l1.length) = false := by first | simpa using c3 | (simp at c3 ⊢; omega)
  obtain rfl := Option.some.inj H
  go_enter Try.func64, Try.ntmps64
  go_wp2
  go_ret
  exact ⟨z3_, z0_⟩

/-! ### laws_eqHist: function 24 -/
def laws_eqHist.f (k : Nat) (l0_0 : List (S80)) (l0_1 : List (List (S78))) (l1_0 : List (S80)) (l1_1 : List (List (S78))) : Option (Bool) := (laws_eqNodeS.f k l0_0 l1_0).bind fun t497 => (if t497 = true then ((laws_eqOpSS.f k l0_1 l1_1).bind fun t498 => (if t498 = true then (some true) else (some false))) else (some false))
set_option maxHeartbeats 8000000 in
set_option maxRecDepth 100000 in
theorem laws_eqHist.calls (k : Nat) (A0_0 : Option Addr) (c0_0 : Nat) (l0_0 : List (S80)) (A0_1 : Option Addr) (c0_1 : Nat) (l0_1 : List (List (S78))) (A1_0 : Option Addr) (c1_0 : Nat) (l1_0 : List (S80)) (A1_1 : Option Addr) (c1_1 : Nat) (l1_1 : List (List (S78))) (r : Bool) (w : World) (hr0_0 : Kd.C k80 w A0_0 l0_0.length l0_0) (hc0_0 : l0_0.length ≤ c0_0) (hr0_1 : Kd.C (Kd.slice 78 k78) w A0_1 l0_1.length l0_1) (hc0_1 : l0_1.length ≤ c0_1) (hr1_0 : Kd.C k80 w A1_0 l1_0.length l1_0) (hc1_0 : l1_0.length ≤ c1_0) (hr1_1 : Kd.C (Kd.slice 78 k78) w A1_1 l1_1.length l1_1) (hc1_1 : l1_1.length ≤ c1_1) (h : laws_eqHist.f k l0_0 l0_1 l1_0 l1_1 = some r) :
  Calls Try.prog 24 #[.agg #[.slice A0_0 l0_0.length c0_0, .slice A0_1 l0_1.length c0_1], .agg #[.slice A1_0 l1_0.length c1_0, .slice A1_1 l1_1.length c1_1]] w fun e w' => e = .returned (.bool r) ∧ Below w.heap.size w w' := by
 have hu44 := Try.underlying44
 have HR0_0 := Aside0.mk hr0_0
 have HC0_0 := Aside0.mk hc0_0
 clear hr0_0 hc0_0
 have HR0_1 := Aside0.mk hr0_1
 have HC0_1 := Aside0.mk hc0_1
 clear hr0_1 hc0_1
 have HR1_0 := Aside0.mk hr1_0
 have HC1_0 := Aside0.mk hc1_0
 clear hr1_0 hc1_0
 have HR1_1 := Aside0.mk hr1_1
 have HC1_1 := Aside0.mk hc1_1
 clear hr1_1 hc1_1
 have HB := Aside0.mk (Below.refl w.heap.size w)
 have H : ((laws_eqNodeS.f k l0_0 l1_0).bind fun t497 => (if t497 = true then ((laws_eqOpSS.f k l0_1 l1_1).bind fun t498 => (if t498 = true then (some true) else (some false))) else (some false))) = some r := h
 clear h
 obtain ⟨t497, A3, H⟩ := bnd_ H
 by_cases c4 : t497 = true
 ·subst c4
  replace H := ift_ H
  obtain ⟨t498, A5, H⟩ := bnd_ H
  by_cases c6 : t498 = true
  ·subst c6
   replace H := ift_ H
   obtain rfl := Option.some.inj H
   go_enter Try.func24, Try.ntmps24
   go_wp2_with (first | ((with_reducible refine gate_dst (N := 2) rfl ?_); refine box_event ?hg (N := 2) ?hd (cs := #[.slice A0_0 l0_0.length c0_0, .slice A0_1 l0_1.length c0_1]) (t := 44) ?hr ?_; (case hd => rfl); (case hg => rfl); (case hr => exact z9_); intro gb495 hg w7 hbox hb; have BK495 := Aside0.mk (hbox); have GW495 := Aside0.mk ((by rw [hg]; exact (below_size z0_) : w.heap.size ≤ gb495)); have GE495 := Aside0.mk ((by rw [hg]; exact (below_size z0_) : w.heap.size ≤ gb495)); replace HB := Aside0.mk (below_step z0_ hb); clear hb hbox hg) | ((with_reducible refine gate_dst (N := 3) rfl ?_); refine box_event ?hg (N := 3) ?hd (cs := #[.slice A1_0 l1_0.length c1_0, .slice A1_1 l1_1.length c1_1]) (t := 44) ?hr ?_; (case hd => rfl); (case hg => rfl); (case hr => exact z9_); intro gb496 hg w8 hbox hb; have BK496 := Aside0.mk (hbox); have GW496 := Aside0.mk ((by rw [hg]; exact (below_size z40_) : w.heap.size ≤ gb496)); have GE496 := Aside0.mk ((by rw [hg]; exact (below_size z40_) : w.heap.size ≤ gb496)); replace HB := Aside0.mk (below_step z40_ hb); have NB495_496 := Aside0.mk ((by rw [hg]; exact Nat.ne_of_lt (blk_lt (g := gb495) (o := .cells #[.slice A0_0 l0_0.length c0_0, .slice A0_1 l0_1.length c0_1] 44 (0, 0)) z34_) : gb495 ≠ gb496)); have NB496_495 := Aside0.mk ((by rw [hg]; exact Nat.ne_of_gt (blk_lt (g := gb495) (o := .cells #[.slice A0_0 l0_0.length c0_0, .slice A0_1 l0_1.length c0_1] 44 (0, 0)) z34_) : gb496 ≠ gb495)); replace BK495 := Aside0.mk (blk_below (g := gb495) (o := .cells #[.slice A0_0 l0_0.length c0_0, .slice A0_1 l0_1.length c0_1] 44 (0, 0)) z34_ hb); clear hb hbox hg; have hnb9 := NB495_496.out; have hnc9 := NB496_495.out; obtain ⟨hcz10_0, hcz10_1, hfz10_0, hfz10_1⟩ := bx2_ BK495.out; obtain ⟨hcz11_0, hcz11_1, hfz11_0, hfz11_1⟩ := bx2_ BK496.out) | ((with_reducible refine gate_callee (f := 16) rfl ?_); refine goesL_ (some 9) rfl rfl Try.func16 (by kernel_rfl) rfl #[.slice A0_0 l0_0.length c0_0, .slice A1_0 l1_0.length c1_0] rfl z1_ ?_; (with_reducible refine (laws_eqNodeS.calls k _ _ l0_0 _ _ l1_0 true _ ?side1 ?side2 ?side3 ?side4 A3.out).mono ?_); (case side1 => exact z12_); (case side2 => exact HC0_0.out); (case side3 => exact z90_); (case side4 => exact HC1_0.out); rintro e w12 ⟨rfl, hb⟩; refine ⟨_, rfl, ?_⟩; replace BK495 := Aside0.mk (blk_below (g := gb495) (o := .cells #[.slice A0_0 l0_0.length c0_0, .slice A0_1 l0_1.length c0_1] 44 (0, 0)) z34_ hb); replace BK496 := Aside0.mk (blk_below (g := gb496) (o := .cells #[.slice A1_0 l1_0.length c1_0, .slice A1_1 l1_1.length c1_1] 44 (0, 0)) z84_ hb); replace HB := Aside0.mk (below_step z36_ hb); (try clear hb); obtain ⟨hcz13_0, hcz13_1, hfz13_0, hfz13_1⟩ := bx2_ BK495.out; obtain ⟨hcz14_0, hcz14_1, hfz14_0, hfz14_1⟩ := bx2_ BK496.out) | ((with_reducible refine gate_callee (f := 64) rfl ?_); refine goesL_ (some 15) rfl rfl Try.func64 (by kernel_rfl) rfl #[.slice A0_1 l0_1.length c0_1, .slice A1_1 l1_1.length c1_1] rfl z1_ ?_; (with_reducible refine (laws_eqOpSS.calls k _ _ l0_1 _ _ l1_1 true _ ?side1 ?side2 ?side3 ?side4 A5.out).mono ?_); (case side1 => exact z8_); (case side2 => exact HC0_1.out); (case side3 => exact z14_); (case side4 => exact HC1_1.out); rintro e w15 ⟨rfl, hb⟩; refine ⟨_, rfl, ?_⟩; replace BK495 := Aside0.mk (blk_below (g := gb495) (o := .cells #[.slice A0_0 l0_0.length c0_0, .slice A0_1 l0_1.length c0_1] 44 (0, 0)) z34_ hb); replace BK496 := Aside0.mk (blk_below (g := gb496) (o := .cells #[.slice A1_0 l1_0.length c1_0, .slice A1_1 l1_1.length c1_1] 44 (0, 0)) z84_ hb); replace HB := Aside0.mk (below_step z36_ hb); (try clear hb)))
   go_ret
   exact ⟨z3_, z36_⟩
  ·replace c6 := Bool.eq_false_iff.mpr c6
   subst c6
   replace H := iff_ H
   obtain rfl := Option.some.inj H
   go_enter Try.func24, Try.ntmps24
   go_wp2_with (first | ((with_reducible refine gate_dst (N := 2) rfl ?_); refine box_event ?hg (N := 2) ?hd (cs := #[.slice A0_0 l0_0.length c0_0, .slice A0_1 l0_1.length c0_1]) (t := 44) ?hr ?_; (case hd => rfl); (case hg => rfl); (case hr => exact z9_); intro gb495 hg w16 hbox hb; have BK495 := Aside0.mk (hbox); have GW495 := Aside0.mk ((by rw [hg]; exact (below_size z0_) : w.heap.size ≤ gb495)); have GE495 := Aside0.mk ((by rw [hg]; exact (below_size z0_) : w.heap.size ≤ gb495)); replace HB := Aside0.mk (below_step z0_ hb); clear hb hbox hg) | ((with_reducible refine gate_dst (N := 3) rfl ?_); refine box_event ?hg (N := 3) ?hd (cs := #[.slice A1_0 l1_0.length c1_0, .slice A1_1 l1_1.length c1_1]) (t := 44) ?hr ?_; (case hd => rfl); (case hg => rfl); (case hr => exact z9_); intro gb496 hg w17 hbox hb; have BK496 := Aside0.mk (hbox); have GW496 := Aside0.mk ((by rw [hg]; exact (below_size z40_) : w.heap.size ≤ gb496)); have GE496 := Aside0.mk ((by rw [hg]; exact (below_size z40_) : w.heap.size ≤ gb496)); replace HB := Aside0.mk (below_step z40_ hb); have NB495_496 := Aside0.mk ((by rw [hg]; exact Nat.ne_of_lt (blk_lt (g := gb495) (o := .cells #[.slice A0_0 l0_0.length c0_0, .slice A0_1 l0_1.length c0_1] 44 (0, 0)) z34_) : gb495 ≠ gb496)); have NB496_495 := Aside0.mk ((by rw [hg]; exact Nat.ne_of_gt (blk_lt (g := gb495) (o := .cells #[.slice A0_0 l0_0.length c0_0, .slice A0_1 l0_1.length c0_1] 44 (0, 0)) z34_) : gb496 ≠ gb495)); replace BK495 := Aside0.mk (blk_below (g := gb495) (o := .cells #[.slice A0_0 l0_0.length c0_0, .slice A0_1 l0_1.length c0_1] 44 (0, 0)) z34_ hb); clear hb hbox hg; have hnb18 := NB495_496.out; have hnc18 := NB496_495.out; obtain ⟨hcz19_0, hcz19_1, hfz19_0, hfz19_1⟩ := bx2_ BK495.out; obtain ⟨hcz20_0, hcz20_1, hfz20_0, hfz20_1⟩ := bx2_ BK496.out) | ((with_reducible refine gate_callee (f := 16) rfl ?_); refine goesL_ (some 9) rfl rfl Try.func16 (by kernel_rfl) rfl #[.slice A0_0 l0_0.length c0_0, .slice A1_0 l1_0.length c1_0] rfl z1_ ?_; (with_reducible refine (laws_eqNodeS.calls k _ _ l0_0 _ _ l1_0 true _ ?side1 ?side2 ?side3 ?side4 A3.out).mono ?_); (case side1 => exact z12_); (case side2 => exact HC0_0.out); (case side3 => exact z90_); (case side4 => exact HC1_0.out); rintro e w21 ⟨rfl, hb⟩; refine ⟨_, rfl, ?_⟩; replace BK495 := Aside0.mk (blk_below (g := gb495) (o := .cells #[.slice A0_0 l0_0.length c0_0, .slice A0_1 l0_1.length c0_1] 44 (0, 0)) z34_ hb); replace BK496 := Aside0.mk (blk_below (g := gb496) (o := .cells #[.slice A1_0 l1_0.length c1_0, .slice A1_1 l1_1.length c1_1] 44 (0, 0)) z84_ hb); replace HB := Aside0.mk (below_step z36_ hb); (try clear hb); obtain ⟨hcz22_0, hcz22_1, hfz22_0, hfz22_1⟩ := bx2_ BK495.out; obtain ⟨hcz23_0, hcz23_1, hfz23_0, hfz23_1⟩ := bx2_ BK496.out) | ((with_reducible refine gate_callee (f := 64) rfl ?_); refine goesL_ (some 15) rfl rfl Try.func64 (by kernel_rfl) rfl #[.slice A0_1 l0_1.length c0_1, .slice A1_1 l1_1.length c1_1] rfl z1_ ?_; (with_reducible refine (laws_eqOpSS.calls k _ _ l0_1 _ _ l1_1 false _ ?side1 ?side2 ?side3 ?side4 A5.out).mono ?_); (case side1 => exact z8_); (case side2 => exact HC0_1.out); (case side3 => exact z14_); (case side4 => exact HC1_1.out); rintro e w24 ⟨rfl, hb⟩; refine ⟨_, rfl, ?_⟩; replace BK495 := Aside0.mk (blk_below (g := gb495) (o := .cells #[.slice A0_0 l0_0.length c0_0, .slice A0_1 l0_1.length c0_1] 44 (0, 0)) z34_ hb); replace BK496 := Aside0.mk (blk_below (g := gb496) (o := .cells #[.slice A1_0 l1_0.length c1_0, .slice A1_1 l1_1.length c1_1] 44 (0, 0)) z84_ hb); replace HB := Aside0.mk (below_step z36_ hb); (try clear hb)))
   go_ret
   exact ⟨z3_, z36_⟩
 ·replace c4 := Bool.eq_false_iff.mpr c4
  subst c4
  replace H := iff_ H
  obtain rfl := Option.some.inj H
  go_enter Try.func24, Try.ntmps24
  go_wp2_with (first | ((with_reducible refine gate_dst (N := 2) rfl ?_); refine box_event ?hg (N := 2) ?hd (cs := #[.slice A0_0 l0_0.length c0_0, .slice A0_1 l0_1.length c0_1]) (t := 44) ?hr ?_; (case hd => rfl); (case hg => rfl); (case hr => exact z9_); intro gb495 hg w25 hbox hb; have BK495 := Aside0.mk (hbox); have GW495 := Aside0.mk ((by rw [hg]; exact (below_size z0_) : w.heap.size ≤ gb495)); have GE495 := Aside0.mk ((by rw [hg]; exact (below_size z0_) : w.heap.size ≤ gb495)); replace HB := Aside0.mk (below_step z0_ hb); clear hb hbox hg) | ((with_reducible refine gate_dst (N := 3) rfl ?_); refine box_event ?hg (N := 3) ?hd (cs := #[.slice A1_0 l1_0.length c1_0, .slice A1_1 l1_1.length c1_1]) (t := 44) ?hr ?_; (case hd => rfl); (case hg => rfl); (case hr => exact z9_); intro gb496 hg w26 hbox hb; have BK496 := Aside0.mk (hbox); have GW496 := Aside0.mk ((by rw [hg]; exact (below_size z40_) : w.heap.size ≤ gb496)); have GE496 := Aside0.mk ((by rw [hg]; exact (below_size z40_) : w.heap.size ≤ gb496)); replace HB := Aside0.mk (below_step z40_ hb); have NB495_496 := Aside0.mk ((by rw [hg]; exact Nat.ne_of_lt (blk_lt (g := gb495) (o := .cells #[.slice A0_0 l0_0.length c0_0, .slice A0_1 l0_1.length c0_1] 44 (0, 0)) z34_) : gb495 ≠ gb496)); have NB496_495 := Aside0.mk ((by rw [hg]; exact Nat.ne_of_gt (blk_lt (g := gb495) (o := .cells #[.slice A0_0 l0_0.length c0_0, .slice A0_1 l0_1.length c0_1] 44 (0, 0)) z34_) : gb496 ≠ gb495)); replace BK495 := Aside0.mk (blk_below (g := gb495) (o := .cells #[.slice A0_0 l0_0.length c0_0, .slice A0_1 l0_1.length c0_1] 44 (0, 0)) z34_ hb); clear hb hbox hg; have hnb27 := NB495_496.out; have hnc27 := NB496_495.out; obtain ⟨hcz28_0, hcz28_1, hfz28_0, hfz28_1⟩ := bx2_ BK495.out; obtain ⟨hcz29_0, hcz29_1, hfz29_0, hfz29_1⟩ := bx2_ BK496.out) | ((with_reducible refine gate_callee (f := 16) rfl ?_); refine goesL_ (some 9) rfl rfl Try.func16 (by kernel_rfl) rfl #[.slice A0_0 l0_0.length c0_0, .slice A1_0 l1_0.length c1_0] rfl z1_ ?_; (with_reducible refine (laws_eqNodeS.calls k _ _ l0_0 _ _ l1_0 false _ ?side1 ?side2 ?side3 ?side4 A3.out).mono ?_); (case side1 => exact z12_); (case side2 => exact HC0_0.out); (case side3 => exact z90_); (case side4 => exact HC1_0.out); rintro e w30 ⟨rfl, hb⟩; refine ⟨_, rfl, ?_⟩; replace BK495 := Aside0.mk (blk_below (g := gb495) (o := .cells #[.slice A0_0 l0_0.length c0_0, .slice A0_1 l0_1.length c0_1] 44 (0, 0)) z34_ hb); replace BK496 := Aside0.mk (blk_below (g := gb496) (o := .cells #[.slice A1_0 l1_0.length c1_0, .slice A1_1 l1_1.length c1_1] 44 (0, 0)) z84_ hb); replace HB := Aside0.mk (below_step z36_ hb); (try clear hb)))
  go_ret
  exact ⟨z3_, z36_⟩

/-! ### laws_markIntS: function 56 -/
def laws_markIntS.l0 : Nat → List Int → Int → Int → Option (Int × List Int)
 | 0, _, _, _ => none
 | k + 1, x0, x1, x5 => if x5 < (x0.length : Int) then (if 0 ≤ x5 then (laws_markIntS.l0 k (x0.set (x5 : Int).toNat x1) (wrap64 (x1 + 1)) (wrap64 (x5 + 1))) else (none)) else (some (x1, x0))
def laws_markIntS.f (k : Nat) (l0 : List Int) (a1 : Int) : Option (Int × List Int) := laws_markIntS.l0 k l0 a1 0
set_option maxHeartbeats 8000000 in
set_option maxRecDepth 100000 in
theorem laws_markIntS.calls (k : Nat) (P0_ : Nat → Prop) (u9000_ : Value) (l0 : List Int) (a1 : Int) (r1 : Int) (r2 : List Int) (w0 w : World) (hB : Below w0.heap.size w0 w) (ho0 : Kd.R (Kd.int .i64) 3 w w0.heap.size P0_ u9000_ l0) (h : laws_markIntS.f k l0 a1 = some (r1, r2)) :
  Calls Try.prog 56 #[u9000_, .int .i64 a1] w fun e w' => e = .returned (.int .i64 r1) ∧ Kd.R (Kd.int .i64) 3 w' w0.heap.size (fun k_ => (P0_ k_ ∨ w.heap.size ≤ k_)) u9000_ r2 ∧ Below w0.heap.size w0 w' ∧ Kept w w' (fun k_ => P0_ k_) := by
 have HO0 := Aside0.mk (show Kd.R (Kd.int .i64) 3 w w0.heap.size (fun k_ => (P0_ k_ ∨ w.heap.size ≤ k_)) u9000_ l0 from Kd.R_mono ho0 (fun k_ hk => (.inl hk)))
 have HK := Aside0.mk (Kept.refl w (fun k_ => P0_ k_))
 have HW0 := Aside0.mk hB.size
 have HB := Aside0.mk hB
 clear hB
 have H : (laws_markIntS.l0 k l0 a1 0) = some (r1, r2) := h
 clear h
 have H' := Aside0.mk H
 clear H
 go_enter Try.func56, Try.ntmps56
 go_wp2
 go_loopg [1, 5] k (fun kq v1 v5 w' => ∃ (x0_1 : List Int) (x1_1 : Int) (x5_1 : Int), v1 = .int .i64 x1_1 ∧ v5 = .int .i64 x5_1 ∧ Aside0 (laws_markIntS.l0 kq x0_1 x1_1 x5_1 = some (r1, r2)) ∧ Aside0 (kq ≤ k) ∧ Aside0 (Kd.R (Kd.int .i64) 3 w' w0.heap.size (fun k_ => (P0_ k_ ∨ w.heap.size ≤ k_)) u9000_ x0_1) ∧ Aside0 (Kept w w' (fun k_ => P0_ k_)) ∧ Aside0 (Below w0.heap.size w0 w'))
 case atStart => exact ⟨(l0), (a1), (0), z5_, z5_, H', ⟨Nat.le_refl _⟩, ⟨z156_⟩, ⟨z29_⟩, ⟨z0_⟩⟩
 case round =>
  clear H'
  try clear p2
  obtain ⟨x0_1, x1_1, x5_1, rfl, rfl, HA, HK1, HO_0, HK, HB⟩ := hrel
  cases gk with
  | zero => exact absurd HA.out (by simp [laws_markIntS.l0])
  | succ k1 =>
   have H := HA.out
   clear HA
   simp only [laws_markIntS.l0] at H
   by_cases c3 : x5_1 < (x0_1.length : Int)
   ·rw [if_pos c3] at H
    have c3b0 := decide_eq_true c3
    clear c3
    obtain ⟨c4b0, H⟩ := ifd_ H
    first | ((with_reducible have hz_ := gy_ H); obtain ⟨y499, Ny499, H⟩ := hz_) | (generalize hy_ : ((x0_1.set (x5_1 : Int).toNat x1_1) : List Int) = y499 at H; have Ny499 := Aside0.mk hy_.symm; clear hy_)
    have H' := Aside0.mk H
    clear H
    obtain ⟨Ao6, co6, eo6⟩ := Kd.R_slice HO_0.out
    subst eo6
    have p5 : 0 ≤ (x5_1 : Int) := odt_
    have q5 : (x5_1 : Int) < ((x0_1.length : Int) : Int) := odt_
    obtain ⟨go5, co5, eo5, gb5, gl5, cl5, HG5⟩ := Kd.R_form HO_0.out (by omega)
    (first | cases eo5 | (injection eo5 with ea_ en_ ec_; (first | subst ea_ | (injection ea_ with ea_; subst ea_)); subst ec_; clear en_))
    have GB5 := Aside0.mk gb5
    have GG5 := Aside0.mk HG5
    clear gb5 gl5 HG5
    have HMgo5 := Aside0.mk (show (P0_ go5 ∨ w.heap.size ≤ go5) from (HO_0.out.1 _ rfl))
    obtain ⟨hx5_0, hf5_0⟩ := Kd.R_celln 0 HO_0.out (x5_1 : Int) p5 q5
    replace p5 := eq_true p5
    replace q5 := eq_true q5
    have HP7 := Kd.R_putg HO_0.out (x5_1 : Int) x1_1
    go_wp2_with (first | ((with_reducible refine gate_store (t := 3) (p := 15) rfl ?_); refine store_event (t := 3) (p := 15) (v := ?vo_w8) (w1 := (wr.setCell ⟨go5, (x5_1 : Int).toNat, none⟩ (.int .i64 x1_1))) ?hg ?ho ?hn ?hr ?_; (case ho => rfl); (case hg => rfl); (case hn => rfl); (case hr => exact z9_); intro w8 hw; have hg : wr.grownBy w8 (some go5) := (by rw [hw]; exact HP7.2); have hp_ : Kd.R (Kd.int .i64) 3 w8 w0.heap.size (fun k_ => (P0_ k_ ∨ w.heap.size ≤ k_)) (.slice (some ⟨go5, 0, none⟩) x0_1.length co6) y499 := (by rw [hw, Ny499.out]; exact HP7.1); clear HP7; replace HB := Aside0.mk ((by rw [hw]; exact below_set (HB.out) GB5.out : Below w0.heap.size w0 w8)); replace HK := Aside0.mk (Kept.of_grown (S := (fun k_ => P0_ k_)) hg z29_ (fun k_ e_ => (HO_0.out.1 k_ e_))); replace HO_0 := Aside0.mk (hp_); clear hg hw hp_))
    go_roundg k1
    case measure => have := HK1.out; omega
    case rel => exact ⟨(y499), (wrap64 (x1_1 + 1)), (wrap64 (x5_1 + 1)), z5_, z5_, H', ⟨z66_⟩, ⟨z77_⟩, ⟨z29_⟩, ⟨z0_⟩⟩
   ·rw [if_neg c3] at H
    have c3b0 := decide_eq_false c3
    clear c3
    simp only [Option.some.injEq, Prod.mk.injEq] at H
    obtain ⟨rfl, rfl⟩ := H
    obtain ⟨Ao9, co9, eo9⟩ := Kd.R_slice HO_0.out
    subst eo9
    go_wp2
    go_ret
    exact ⟨z3_, z77_, z0_, z29_⟩

/-! ### laws_markOpS: function 18 -/
def laws_markOpS.l0 : Nat → List (S78) → Int → Int → Option (Int × List (S78))
 | 0, _, _, _ => none
 | k + 1, x0, x1, x5 => if x5 < (x0.length : Int) then (if 0 ≤ x5 then ((laws_markIntS.f k ((rd_T78 x0 x5).f1) (wrap64 (x1 + 1))).bind fun bt => (laws_markOpS.l0 k (x0.set (x5 : Int).toNat (⟨x1, bt.2, bt.1, wrap64 (bt.1 + 1), wrap64 (wrap64 (bt.1 + 1) + 1)⟩ : S78)) (wrap64 (wrap64 (wrap64 (bt.1 + 1) + 1) + 1)) (wrap64 (x5 + 1)))) else (none)) else (some (x1, x0))
def laws_markOpS.f (k : Nat) (l0 : List (S78)) (a1 : Int) : Option (Int × List (S78)) := laws_markOpS.l0 k l0 a1 0
set_option maxHeartbeats 8000000 in
set_option maxRecDepth 100000 in
theorem laws_markOpS.calls (k : Nat) (P0_ : Nat → Prop) (u9000_ : Value) (l0 : List (S78)) (a1 : Int) (r1 : Int) (r2 : List (S78)) (w0 w : World) (hB : Below w0.heap.size w0 w) (ho0 : Kd.S k78 78 w w0.heap.size P0_ u9000_ l0) (h : laws_markOpS.f k l0 a1 = some (r1, r2)) :
  Calls Try.prog 18 #[u9000_, .int .i64 a1] w fun e w' => e = .returned (.int .i64 r1) ∧ Kd.S k78 78 w' w0.heap.size (fun k_ => (P0_ k_ ∨ w.heap.size ≤ k_)) u9000_ r2 ∧ Below w0.heap.size w0 w' ∧ Kept w w' (fun k_ => P0_ k_) := by
 have HO0 := Aside0.mk (show Kd.S k78 78 w w0.heap.size (fun k_ => (P0_ k_ ∨ w.heap.size ≤ k_)) u9000_ l0 from Kd.S_mono ho0 (fun k_ hk => (.inl hk)))
 have HK := Aside0.mk (Kept.refl w (fun k_ => P0_ k_))
 have HW0 := Aside0.mk hB.size
 have HB := Aside0.mk hB
 clear hB
 have H : (laws_markOpS.l0 k l0 a1 0) = some (r1, r2) := h
 clear h
 have H' := Aside0.mk H
 clear H
 go_enter Try.func18, Try.ntmps18
 go_wp2
 go_loopg [1, 5] k (fun kq v1 v5 w' => ∃ (x0_1 : List (S78)) (x1_1 : Int) (x5_1 : Int), v1 = .int .i64 x1_1 ∧ v5 = .int .i64 x5_1 ∧ Aside0 (laws_markOpS.l0 kq x0_1 x1_1 x5_1 = some (r1, r2)) ∧ Aside0 (kq ≤ k) ∧ Aside0 (Kd.S k78 78 w' w0.heap.size (fun k_ => (P0_ k_ ∨ w.heap.size ≤ k_)) u9000_ x0_1) ∧ Aside0 (Kept w w' (fun k_ => P0_ k_)) ∧ Aside0 (Below w0.heap.size w0 w'))
 case atStart => exact ⟨(l0), (a1), (0), z5_, z5_, H', ⟨Nat.le_refl _⟩, ⟨z157_⟩, ⟨z29_⟩, ⟨z0_⟩⟩
 case round =>
  clear H'
  obtain ⟨x0_1, x1_1, x5_1, rfl, rfl, HA, HK1, HO_0, HK, HB⟩ := hrel
  cases gk with
  | zero => exact absurd HA.out (by simp [laws_markOpS.l0])
  | succ k1 =>
   have H := HA.out
   clear HA
   simp only [laws_markOpS.l0] at H
   by_cases c3 : x5_1 < (x0_1.length : Int)
   ·rw [if_pos c3] at H
    have c3b0 := decide_eq_true c3
    obtain ⟨c4, H⟩ := ifs_ H
    have c4b0 := decide_eq_true c4
    replace H := Option.bind_eq_some_iff.mp H
    obtain ⟨⟨t1, t2⟩, A80, H⟩ := H
    have A8 := Aside0.mk A80
    clear A80
    have H' := Aside0.mk (show laws_markOpS.l0 k1 (x0_1.set (x5_1 : Int).toNat (⟨x1_1, t2, t1, wrap64 (t1 + 1), wrap64 (wrap64 (t1 + 1) + 1)⟩ : S78)) (wrap64 (wrap64 (wrap64 (t1 + 1) + 1) + 1)) (wrap64 (x5_1 + 1)) = some (r1, r2) from H)
    clear H
    obtain ⟨Ao6, co6, eo6⟩ := Kd.S_slice HO_0.out
    subst eo6
    obtain ⟨go5, co5, eo5, gb5, gl5, cl5, HG5⟩ := Kd.S_form HO_0.out (by omega)
    (first | cases eo5 | (injection eo5 with ea_ en_ ec_; (first | subst ea_ | (injection ea_ with ea_; subst ea_)); subst ec_; clear en_))
    have GB5 := Aside0.mk gb5
    have HMgo5 := Aside0.mk (show (P0_ go5 ∨ w.heap.size ≤ go5) from ((Kd.S_R HO_0.out).1 _ rfl))
    have GL5 := Aside0.mk gl5
    clear gb5 gl5 HG5
    have p6 := Aside0.mk c4
    have q6 := Aside0.mk c3
    obtain ⟨oki, cs_, hcl, hM, hcc, hoki, hh⟩ := Kd.S_lend HO_0.out z78 x5_1 c4 c3
    obtain ⟨vi, rfl, hR1⟩ := k78_openM hM
    obtain ⟨Ai, ci, ei⟩ := Kd.R_slice hR1
    subst ei
    have HH := Aside0.mk (show Kd.H k78 78 wr w0.heap.size (fun k_ => (P0_ k_ ∨ w.heap.size ≤ k_)) (.slice (some ⟨go5, 0, none⟩) x0_1.length co6) x0_1 x5_1 oki [.int .i64 (rd_T78 x0_1 x5_1).f0, .slice Ai (rd_T78 x0_1 x5_1).f1.length ci, .int .i64 (rd_T78 x0_1 x5_1).f2, .int .i64 (rd_T78 x0_1 x5_1).f3, .int .i64 (rd_T78 x0_1 x5_1).f4] from hh)
    have HR := Aside0.mk (show Kd.R (Kd.int .i64) 3 wr w0.heap.size oki (.slice Ai (rd_T78 x0_1 x5_1).f1.length ci) (rd_T78 x0_1 x5_1).f1 from hR1)
    have HOK := Aside0.mk hoki
    clear hh hR1 hoki hcl hM hcc
    have ha_ := Kd.H_at HH.out p6.out q6.out; have hxwr_0 := ha_.1 0 _ rfl; have hfwr_0 := ha_.2 0; (try simp only [show (k78).sz = 5 from rfl, Nat.mul_one, Nat.add_zero] at hxwr_0 hfwr_0); have hxwr_1 := ha_.1 1 _ rfl; have hfwr_1 := ha_.2 1; (try simp only [show (k78).sz = 5 from rfl, Nat.mul_one, Nat.add_zero] at hxwr_1 hfwr_1); have hxwr_2 := ha_.1 2 _ rfl; have hfwr_2 := ha_.2 2; (try simp only [show (k78).sz = 5 from rfl, Nat.mul_one, Nat.add_zero] at hxwr_2 hfwr_2); have hxwr_3 := ha_.1 3 _ rfl; have hfwr_3 := ha_.2 3; (try simp only [show (k78).sz = 5 from rfl, Nat.mul_one, Nat.add_zero] at hxwr_3 hfwr_3); have hxwr_4 := ha_.1 4 _ rfl; have hfwr_4 := ha_.2 4; (try simp only [show (k78).sz = 5 from rfl, Nat.mul_one, Nat.add_zero] at hxwr_4 hfwr_4); clear ha_;
    replace c3 := eq_true c3
    replace c4 := eq_true c4
    go_wp2_with (first | ((with_reducible refine gate_store (t := 3) (p := 16) rfl ?_); refine store_event (t := 3) (p := 16) (v := ?vo0) (w1 := (wr.setCell ⟨go5, (x5_1 : Int).toNat * 5, none⟩ (.int .i64 (x1_1)))) ?hg ?ho ?hn ?hr ?_; (case ho => rfl); (case hg => rfl); (case hn => rfl); (case hr => exact z9_); intro w8 hw; have hs_ := Kd.H_seg HH.out p6.out q6.out (seg := [.int .i64 (x1_1)]) (j := 0) (show 0 + 1 ≤ 5 from by decide) z144_; have hg : wr.grownBy w8 (some go5) := (by rw [hw]; exact hs_.2); have hh_ : Kd.H k78 78 w8 w0.heap.size (fun k_ => (P0_ k_ ∨ w.heap.size ≤ k_)) (.slice (some ⟨go5, 0, none⟩) x0_1.length co6) x0_1 x5_1 oki [.int .i64 x1_1, .slice Ai (rd_T78 x0_1 x5_1).f1.length ci, .int .i64 (rd_T78 x0_1 x5_1).f2, .int .i64 (rd_T78 x0_1 x5_1).f3, .int .i64 (rd_T78 x0_1 x5_1).f4] := (by rw [hw]; exact hs_.1); clear hs_; replace HH := Aside0.mk hh_; replace HR := Aside0.mk (Kd.R_grown HR.out hg (fun k_ h_ e_ => (HOK.out k_ h_).2 (by injection e_))); replace HB := Aside0.mk ((by rw [hw]; exact below_set (HB.out) GB5.out : Below w0.heap.size w0 w8)); replace HK := Aside0.mk (Kept.of_grown (S := (fun k_ => P0_ k_)) hg HK.out (fun k_ e_ => by injection e_ with e_; subst e_; exact HMgo5.out)); have GL8 := Aside0.mk (Nat.lt_of_lt_of_le GL5.out hg.size : go5 < w8.heap.size); have HW8 := Aside0.mk HK.out.1; have ha_ := Kd.H_at HH.out p6.out q6.out; have hxw8_0 := ha_.1 0 _ rfl; have hfw8_0 := ha_.2 0; (try simp only [show (k78).sz = 5 from rfl, Nat.mul_one, Nat.add_zero] at hxw8_0 hfw8_0); have hxw8_1 := ha_.1 1 _ rfl; have hfw8_1 := ha_.2 1; (try simp only [show (k78).sz = 5 from rfl, Nat.mul_one, Nat.add_zero] at hxw8_1 hfw8_1); have hxw8_2 := ha_.1 2 _ rfl; have hfw8_2 := ha_.2 2; (try simp only [show (k78).sz = 5 from rfl, Nat.mul_one, Nat.add_zero] at hxw8_2 hfw8_2); have hxw8_3 := ha_.1 3 _ rfl; have hfw8_3 := ha_.2 3; (try simp only [show (k78).sz = 5 from rfl, Nat.mul_one, Nat.add_zero] at hxw8_3 hfw8_3); have hxw8_4 := ha_.1 4 _ rfl; have hfw8_4 := ha_.2 4; (try simp only [show (k78).sz = 5 from rfl, Nat.mul_one, Nat.add_zero] at hxw8_4 hfw8_4); clear ha_; clear hg hw hh_) | ((with_reducible refine gate_callee (f := 56) rfl ?_); refine goesL_ (some 25) rfl rfl Try.func56 (by kernel_rfl) rfl #[.slice Ai (rd_T78 x0_1 x5_1).f1.length ci, .int .i64 (wrap64 (x1_1 + 1))] rfl z159_ ?_; (with_reducible refine (laws_markIntS.calls k1 oki _ (rd_T78 x0_1 x5_1).f1 (wrap64 (x1_1 + 1)) t1 t2 w0 _ HB.out HR.out A8.out).mono ?_); rintro e w9 ⟨rfl, ho0, hb, hk⟩; refine ⟨_, rfl, ?_⟩; replace HH := Aside0.mk (Kd.H_kept (Kd.H_widen HH.out) hk (fun k_ _ hn_ h_ => hn_ (.inl h_))); replace HR := Aside0.mk ho0; replace HK := Aside0.mk (Kept.then_ HK.out hk (fun k_ h_ => (HOK.out k_ h_).1)); replace HB := Aside0.mk hb; clear ho0 hb hk; have ha_ := Kd.H_at HH.out p6.out q6.out; have hxw9_0 := ha_.1 0 _ rfl; have hfw9_0 := ha_.2 0; (try simp only [show (k78).sz = 5 from rfl, Nat.mul_one, Nat.add_zero] at hxw9_0 hfw9_0); have hxw9_1 := ha_.1 1 _ rfl; have hfw9_1 := ha_.2 1; (try simp only [show (k78).sz = 5 from rfl, Nat.mul_one, Nat.add_zero] at hxw9_1 hfw9_1); have hxw9_2 := ha_.1 2 _ rfl; have hfw9_2 := ha_.2 2; (try simp only [show (k78).sz = 5 from rfl, Nat.mul_one, Nat.add_zero] at hxw9_2 hfw9_2); have hxw9_3 := ha_.1 3 _ rfl; have hfw9_3 := ha_.2 3; (try simp only [show (k78).sz = 5 from rfl, Nat.mul_one, Nat.add_zero] at hxw9_3 hfw9_3); have hxw9_4 := ha_.1 4 _ rfl; have hfw9_4 := ha_.2 4; (try simp only [show (k78).sz = 5 from rfl, Nat.mul_one, Nat.add_zero] at hxw9_4 hfw9_4); clear ha_;) | ((with_reducible refine gate_store (t := 3) (p := 30) rfl ?_); refine store_event (t := 3) (p := 30) (v := ?vo2) (w1 := (w9.setCell ⟨go5, (x5_1 : Int).toNat * 5 + 2, none⟩ (.int .i64 (t1)))) ?hg ?ho ?hn ?hr ?_; (case ho => rfl); (case hg => rfl); (case hn => rfl); (case hr => exact z9_); intro w10 hw; have hs_ := Kd.H_seg HH.out p6.out q6.out (seg := [.int .i64 (t1)]) (j := 2) (show 2 + 1 ≤ 5 from by decide) z144_; have hg : w9.grownBy w10 (some go5) := (by rw [hw]; exact hs_.2); have hh_ : Kd.H k78 78 w10 w0.heap.size (fun k_ => (P0_ k_ ∨ w.heap.size ≤ k_)) (.slice (some ⟨go5, 0, none⟩) x0_1.length co6) x0_1 x5_1 (fun k_ => oki k_ ∨ (P0_ k_ ∨ w.heap.size ≤ k_) ∧ w8.heap.size ≤ k_) [.int .i64 x1_1, .slice Ai (rd_T78 x0_1 x5_1).f1.length ci, .int .i64 t1, .int .i64 (rd_T78 x0_1 x5_1).f3, .int .i64 (rd_T78 x0_1 x5_1).f4] := (by rw [hw]; exact hs_.1); clear hs_; replace HH := Aside0.mk hh_; replace HR := Aside0.mk (Kd.R_grown HR.out hg (fun k_ h_ e_ => h_.elim (fun h2_ => (HOK.out k_ h2_).2 (by injection e_)) (fun h2_ => by injection e_ with e_; have := GL8.out; omega))); replace HB := Aside0.mk ((by rw [hw]; exact below_set (HB.out) GB5.out : Below w0.heap.size w0 w10)); replace HK := Aside0.mk (Kept.of_grown (S := (fun k_ => P0_ k_)) hg HK.out (fun k_ e_ => by injection e_ with e_; subst e_; exact HMgo5.out)); have ha_ := Kd.H_at HH.out p6.out q6.out; have hxw10_0 := ha_.1 0 _ rfl; have hfw10_0 := ha_.2 0; (try simp only [show (k78).sz = 5 from rfl, Nat.mul_one, Nat.add_zero] at hxw10_0 hfw10_0); have hxw10_1 := ha_.1 1 _ rfl; have hfw10_1 := ha_.2 1; (try simp only [show (k78).sz = 5 from rfl, Nat.mul_one, Nat.add_zero] at hxw10_1 hfw10_1); have hxw10_2 := ha_.1 2 _ rfl; have hfw10_2 := ha_.2 2; (try simp only [show (k78).sz = 5 from rfl, Nat.mul_one, Nat.add_zero] at hxw10_2 hfw10_2); have hxw10_3 := ha_.1 3 _ rfl; have hfw10_3 := ha_.2 3; (try simp only [show (k78).sz = 5 from rfl, Nat.mul_one, Nat.add_zero] at hxw10_3 hfw10_3); have hxw10_4 := ha_.1 4 _ rfl; have hfw10_4 := ha_.2 4; (try simp only [show (k78).sz = 5 from rfl, Nat.mul_one, Nat.add_zero] at hxw10_4 hfw10_4); clear ha_; clear hg hw hh_) | ((with_reducible refine gate_store (t := 3) (p := 37) rfl ?_); refine store_event (t := 3) (p := 37) (v := ?vo3) (w1 := (w10.setCell ⟨go5, (x5_1 : Int).toNat * 5 + 3, none⟩ (.int .i64 (wrap64 (t1 + 1))))) ?hg ?ho ?hn ?hr ?_; (case ho => rfl); (case hg => rfl); (case hn => rfl); (case hr => exact z9_); intro w11 hw; have hs_ := Kd.H_seg HH.out p6.out q6.out (seg := [.int .i64 (wrap64 (t1 + 1))]) (j := 3) (show 3 + 1 ≤ 5 from by decide) z144_; have hg : w10.grownBy w11 (some go5) := (by rw [hw]; exact hs_.2); have hh_ : Kd.H k78 78 w11 w0.heap.size (fun k_ => (P0_ k_ ∨ w.heap.size ≤ k_)) (.slice (some ⟨go5, 0, none⟩) x0_1.length co6) x0_1 x5_1 (fun k_ => oki k_ ∨ (P0_ k_ ∨ w.heap.size ≤ k_) ∧ w8.heap.size ≤ k_) [.int .i64 x1_1, .slice Ai (rd_T78 x0_1 x5_1).f1.length ci, .int .i64 t1, .int .i64 (wrap64 (t1 + 1)), .int .i64 (rd_T78 x0_1 x5_1).f4] := (by rw [hw]; exact hs_.1); clear hs_; replace HH := Aside0.mk hh_; replace HR := Aside0.mk (Kd.R_grown HR.out hg (fun k_ h_ e_ => h_.elim (fun h2_ => (HOK.out k_ h2_).2 (by injection e_)) (fun h2_ => by injection e_ with e_; have := GL8.out; omega))); replace HB := Aside0.mk ((by rw [hw]; exact below_set (HB.out) GB5.out : Below w0.heap.size w0 w11)); replace HK := Aside0.mk (Kept.of_grown (S := (fun k_ => P0_ k_)) hg HK.out (fun k_ e_ => by injection e_ with e_; subst e_; exact HMgo5.out)); have ha_ := Kd.H_at HH.out p6.out q6.out; have hxw11_0 := ha_.1 0 _ rfl; have hfw11_0 := ha_.2 0; (try simp only [show (k78).sz = 5 from rfl, Nat.mul_one, Nat.add_zero] at hxw11_0 hfw11_0); have hxw11_1 := ha_.1 1 _ rfl; have hfw11_1 := ha_.2 1; (try simp only [show (k78).sz = 5 from rfl, Nat.mul_one, Nat.add_zero] at hxw11_1 hfw11_1); have hxw11_2 := ha_.1 2 _ rfl; have hfw11_2 := ha_.2 2; (try simp only [show (k78).sz = 5 from rfl, Nat.mul_one, Nat.add_zero] at hxw11_2 hfw11_2); have hxw11_3 := ha_.1 3 _ rfl; have hfw11_3 := ha_.2 3; (try simp only [show (k78).sz = 5 from rfl, Nat.mul_one, Nat.add_zero] at hxw11_3 hfw11_3); have hxw11_4 := ha_.1 4 _ rfl; have hfw11_4 := ha_.2 4; (try simp only [show (k78).sz = 5 from rfl, Nat.mul_one, Nat.add_zero] at hxw11_4 hfw11_4); clear ha_; clear hg hw hh_) | ((with_reducible refine gate_store (t := 3) (p := 44) rfl ?_); refine store_event (t := 3) (p := 44) (v := ?vo4) (w1 := (w11.setCell ⟨go5, (x5_1 : Int).toNat * 5 + 4, none⟩ (.int .i64 (wrap64 (wrap64 (t1 + 1) + 1))))) ?hg ?ho ?hn ?hr ?_; (case ho => rfl); (case hg => rfl); (case hn => rfl); (case hr => exact z9_); intro w12 hw; have hs_ := Kd.H_seg HH.out p6.out q6.out (seg := [.int .i64 (wrap64 (wrap64 (t1 + 1) + 1))]) (j := 4) (show 4 + 1 ≤ 5 from by decide) z144_; have hg : w11.grownBy w12 (some go5) := (by rw [hw]; exact hs_.2); have hh_ : Kd.H k78 78 w12 w0.heap.size (fun k_ => (P0_ k_ ∨ w.heap.size ≤ k_)) (.slice (some ⟨go5, 0, none⟩) x0_1.length co6) x0_1 x5_1 (fun k_ => oki k_ ∨ (P0_ k_ ∨ w.heap.size ≤ k_) ∧ w8.heap.size ≤ k_) [.int .i64 x1_1, .slice Ai (rd_T78 x0_1 x5_1).f1.length ci, .int .i64 t1, .int .i64 (wrap64 (t1 + 1)), .int .i64 (wrap64 (wrap64 (t1 + 1) + 1))] := (by rw [hw]; exact hs_.1); clear hs_; replace HH := Aside0.mk hh_; replace HR := Aside0.mk (Kd.R_grown HR.out hg (fun k_ h_ e_ => h_.elim (fun h2_ => (HOK.out k_ h2_).2 (by injection e_)) (fun h2_ => by injection e_ with e_; have := GL8.out; omega))); replace HB := Aside0.mk ((by rw [hw]; exact below_set (HB.out) GB5.out : Below w0.heap.size w0 w12)); replace HK := Aside0.mk (Kept.of_grown (S := (fun k_ => P0_ k_)) hg HK.out (fun k_ e_ => by injection e_ with e_; subst e_; exact HMgo5.out)); have ha_ := Kd.H_at HH.out p6.out q6.out; have hxw12_0 := ha_.1 0 _ rfl; have hfw12_0 := ha_.2 0; (try simp only [show (k78).sz = 5 from rfl, Nat.mul_one, Nat.add_zero] at hxw12_0 hfw12_0); have hxw12_1 := ha_.1 1 _ rfl; have hfw12_1 := ha_.2 1; (try simp only [show (k78).sz = 5 from rfl, Nat.mul_one, Nat.add_zero] at hxw12_1 hfw12_1); have hxw12_2 := ha_.1 2 _ rfl; have hfw12_2 := ha_.2 2; (try simp only [show (k78).sz = 5 from rfl, Nat.mul_one, Nat.add_zero] at hxw12_2 hfw12_2); have hxw12_3 := ha_.1 3 _ rfl; have hfw12_3 := ha_.2 3; (try simp only [show (k78).sz = 5 from rfl, Nat.mul_one, Nat.add_zero] at hxw12_3 hfw12_3); have hxw12_4 := ha_.1 4 _ rfl; have hfw12_4 := ha_.2 4; (try simp only [show (k78).sz = 5 from rfl, Nat.mul_one, Nat.add_zero] at hxw12_4 hfw12_4); clear ha_; clear hg hw hh_))
    have HO_1 := Aside0.mk (Kd.H_back HH.out (k78_mkM _ _ _ (⟨x1_1, t2, t1, wrap64 (t1 + 1), wrap64 (wrap64 (t1 + 1) + 1)⟩ : S78) HR.out) (fun k_ h_ => h_.elim .inl (fun h2_ => .inr ⟨.inr (Nat.le_trans HW8.out h2_), h2_⟩)))
    clear HO_0
    have HO_0 := HO_1
    go_roundg k1
    case measure => have := HK1.out; omega
    case rel => exact ⟨_, (wrap64 (wrap64 (wrap64 (t1 + 1) + 1) + 1)), (wrap64 (x5_1 + 1)), z5_, z5_, H', ⟨z66_⟩, ⟨z105_⟩, ⟨z29_⟩, ⟨z0_⟩⟩
   ·rw [if_neg c3] at H
    have c3b0 := decide_eq_false c3
    clear c3
    simp only [Option.some.injEq, Prod.mk.injEq] at H
    obtain ⟨rfl, rfl⟩ := H
    obtain ⟨Ao12, co12, eo12⟩ := Kd.S_slice HO_0.out
    subst eo12
    go_wp2
    go_ret
    exact ⟨z3_, z105_, z0_, z29_⟩

/-! ### laws_markOpSS: function 65 -/
def laws_markOpSS.l0 : Nat → List (List (S78)) → Int → Int → Option (Int × List (List (S78)))
 | 0, _, _, _ => none
 | k + 1, x0, x1, x5 => if x5 < (x0.length : Int) then (if 0 ≤ x5 then ((laws_markOpS.f k (x0.getD (x5 : Int).toNat []) x1).bind fun bt => (laws_markOpSS.l0 k (x0.set (x5 : Int).toNat bt.2) bt.1 (wrap64 (x5 + 1)))) else (none)) else (some (x1, x0))
def laws_markOpSS.f (k : Nat) (l0 : List (List (S78))) (a1 : Int) : Option (Int × List (List (S78))) := laws_markOpSS.l0 k l0 a1 0
set_option maxHeartbeats 8000000 in
set_option maxRecDepth 100000 in
theorem laws_markOpSS.calls (k : Nat) (P0_ : Nat → Prop) (u9000_ : Value) (l0 : List (List (S78))) (a1 : Int) (r1 : Int) (r2 : List (List (S78))) (w0 w : World) (hB : Below w0.heap.size w0 w) (ho0 : Kd.S (sliceS 78 k78) 26 w w0.heap.size P0_ u9000_ l0) (h : laws_markOpSS.f k l0 a1 = some (r1, r2)) :
  Calls Try.prog 65 #[u9000_, .int .i64 a1] w fun e w' => e = .returned (.int .i64 r1) ∧ Kd.S (sliceS 78 k78) 26 w' w0.heap.size (fun k_ => (P0_ k_ ∨ w.heap.size ≤ k_)) u9000_ r2 ∧ Below w0.heap.size w0 w' ∧ Kept w w' (fun k_ => P0_ k_) := by
 have HO0 := Aside0.mk (show Kd.S (sliceS 78 k78) 26 w w0.heap.size (fun k_ => (P0_ k_ ∨ w.heap.size ≤ k_)) u9000_ l0 from Kd.S_mono ho0 (fun k_ hk => (.inl hk)))
 have HK := Aside0.mk (Kept.refl w (fun k_ => P0_ k_))
 have HW0 := Aside0.mk hB.size
 have HB := Aside0.mk hB
 clear hB
 have H : (laws_markOpSS.l0 k l0 a1 0) = some (r1, r2) := h
 clear h
 have H' := Aside0.mk H
 clear H
 go_enter Try.func65, Try.ntmps65
 go_wp2
 go_loopg [1, 5] k (fun kq v1 v5 w' => ∃ (x0_1 : List (List (S78))) (x1_1 : Int) (x5_1 : Int), v1 = .int .i64 x1_1 ∧ v5 = .int .i64 x5_1 ∧ Aside0 (laws_markOpSS.l0 kq x0_1 x1_1 x5_1 = some (r1, r2)) ∧ Aside0 (kq ≤ k) ∧ Aside0 (Kd.S (sliceS 78 k78) 26 w' w0.heap.size (fun k_ => (P0_ k_ ∨ w.heap.size ≤ k_)) u9000_ x0_1) ∧ Aside0 (Kept w w' (fun k_ => P0_ k_)) ∧ Aside0 (Below w0.heap.size w0 w'))
 case atStart => exact ⟨(l0), (a1), (0), z5_, z5_, H', ⟨Nat.le_refl _⟩, ⟨z157_⟩, ⟨z29_⟩, ⟨z0_⟩⟩
 case round =>
  clear H'
  obtain ⟨x0_1, x1_1, x5_1, rfl, rfl, HA, HK1, HO_0, HK, HB⟩ := hrel
  cases gk with
  | zero => exact absurd HA.out (by simp [laws_markOpSS.l0])
  | succ k1 =>
   have H := HA.out
   clear HA
   simp only [laws_markOpSS.l0] at H
   by_cases c3 : x5_1 < (x0_1.length : Int)
   ·rw [if_pos c3] at H
    have c3b0 := decide_eq_true c3
    obtain ⟨c4, H⟩ := ifs_ H
    have c4b0 := decide_eq_true c4
    replace H := Option.bind_eq_some_iff.mp H
    obtain ⟨⟨t1, t2⟩, A80, H⟩ := H
    have A8 := Aside0.mk A80
    clear A80
    have H' := Aside0.mk (show laws_markOpSS.l0 k1 (x0_1.set (x5_1 : Int).toNat t2) t1 (wrap64 (x5_1 + 1)) = some (r1, r2) from H)
    clear H
    obtain ⟨Ao6, co6, eo6⟩ := Kd.S_slice HO_0.out
    subst eo6
    obtain ⟨go5, co5, eo5, gb5, gl5, cl5, HG5⟩ := Kd.S_form HO_0.out (by omega)
    (first | cases eo5 | (injection eo5 with ea_ en_ ec_; (first | subst ea_ | (injection ea_ with ea_; subst ea_)); subst ec_; clear en_))
    clear gb5 gl5 HG5
    obtain ⟨oki, cs_, hcl, hM, hcc, hoki, hh⟩ := Kd.S_lend HO_0.out [] x5_1 c4 c3
    obtain ⟨vi, rfl, hR1⟩ := hM
    obtain ⟨Ai, ci, ei⟩ := Kd.S_slice hR1
    subst ei
    have hx5_0 := hcc 0 _ rfl
    (try simp only [show ((sliceS 78 k78)).sz = 1 from rfl, Nat.mul_one, Nat.add_zero] at hx5_0)
    have HH := Aside0.mk hh
    have HR := Aside0.mk hR1
    have HOK := Aside0.mk hoki
    have HW8 := Aside0.mk HK.out.1
    clear hh hR1 hoki hcl hcc
    replace c3 := eq_true c3
    replace c4 := eq_true c4
    go_wp2_with (first | ((with_reducible refine gate_callee (f := 18) rfl ?_); refine goesL_ (some 17) rfl rfl Try.func18 (by kernel_rfl) rfl #[.slice Ai (x0_1.getD (x5_1 : Int).toNat []).length ci, .int .i64 x1_1] rfl z159_ ?_; (with_reducible refine (laws_markOpS.calls k1 oki _ (x0_1.getD (x5_1 : Int).toNat []) x1_1 t1 t2 w0 _ HB.out HR.out A8.out).mono ?_); rintro e w9 ⟨rfl, ho0, hb, hk⟩; refine ⟨_, rfl, ?_⟩; replace HH := Aside0.mk (Kd.H_kept (Kd.H_widen HH.out) hk (fun k_ _ hn_ h_ => hn_ (.inl h_))); replace HR := Aside0.mk ho0; replace HK := Aside0.mk (Kept.then_ HK.out hk (fun k_ h_ => (HOK.out k_ h_).1)); replace HB := Aside0.mk hb; clear ho0 hb hk))
    have HO_1 := Aside0.mk (Kd.H_back HH.out (x' := t2) ⟨_, rfl, HR.out⟩ (fun k_ h_ => h_.elim .inl (fun h2_ => .inr ⟨.inr (Nat.le_trans HW8.out h2_), h2_⟩)))
    clear HO_0
    have HO_0 := HO_1
    go_roundg k1
    case measure => have := HK1.out; omega
    case rel => exact ⟨_, t1, (wrap64 (x5_1 + 1)), z5_, z5_, H', ⟨z66_⟩, ⟨z105_⟩, ⟨z29_⟩, ⟨z0_⟩⟩
   ·rw [if_neg c3] at H
    have c3b0 := decide_eq_false c3
    clear c3
    simp only [Option.some.injEq, Prod.mk.injEq] at H
    obtain ⟨rfl, rfl⟩ := H
    obtain ⟨Ao12, co12, eo12⟩ := Kd.S_slice HO_0.out
    subst eo12
    go_wp2
    go_ret
    exact ⟨z3_, z105_, z0_, z29_⟩

/-! ### laws_markHist: function 25 -/
def laws_markHist.f (k : Nat) (l0 : List (S80)) (l1 : List (List (S78))) (a1 : Int) : Option Int := (laws_markNodeS.f k l0 a1).bind fun b1 => (laws_markOpSS.f k l1 b1.1).bind fun b2 => some b2.1
set_option maxHeartbeats 8000000 in
set_option maxRecDepth 100000 in
theorem laws_markHist.calls (k : Nat) (P0_ : Nat → Prop) (A0 : Option Addr) (c0 : Nat) (l0 : List (S80)) (A1 : Option Addr) (c1 : Nat) (l1 : List (List (S78))) (a1 : Int) (r1 : Int) (w0 w : World) (hB : Below w0.heap.size w0 w) (ho0 : Kd.R k80 80 w w0.heap.size P0_ (.slice A0 l0.length c0) l0) (ho1 : Kd.S (sliceS 78 k78) 26 w w0.heap.size P0_ (.slice A1 l1.length c1) l1) (h : laws_markHist.f k l0 l1 a1 = some r1) :
  Calls Try.prog 25 #[.agg #[.slice A0 l0.length c0, .slice A1 l1.length c1], .int .i64 a1] w fun e w' => e = .returned (.int .i64 r1) ∧ Below w0.heap.size w0 w' ∧ Kept w w' (fun k_ => P0_ k_) := by
 have hu44 := Try.underlying44
 have HW0 := Aside0.mk hB.size
 have HB := Aside0.mk hB
 clear hB
 have H : ((laws_markNodeS.f k l0 a1).bind fun b1 => (laws_markOpSS.f k l1 b1.1).bind fun b2 => some b2.1) = some r1 := h
 clear h
 replace H := Option.bind_eq_some_iff.mp H
 obtain ⟨⟨t1, t2⟩, A10, H⟩ := H
 have A1_ := Aside0.mk A10
 clear A10
 replace H := Option.bind_eq_some_iff.mp H
 obtain ⟨⟨t3, t4⟩, A20, H⟩ := H
 have A2_ := Aside0.mk A20
 clear A20
 obtain rfl := Option.some.inj H
 clear H
 have HX0 := Aside0.mk (Kd.R_tight rfl ho0)
 have HX1 := Aside0.mk (Kd.S_apart' ho1 (Kd.R_typed ho0) (by decide))
 have HP := Aside0.mk ho0.1
 clear ho0 ho1
 go_enter Try.func25, Try.ntmps25
 go_wp2_with (first | ((with_reducible refine gate_dst (N := 2) rfl ?_); refine box_event ?hg (N := 2) ?hd (cs := #[.slice A0 l0.length c0, .slice A1 l1.length c1]) (t := 44) ?hr ?_; (case hd => rfl); (case hg => rfl); (case hr => exact z9_); intro gb hg w4 hbox hb; have BK := Aside0.mk hbox; have n0_ := Aside0.mk (Kd.R_below HX0.out hb); have n1_ := Aside0.mk (Kd.S_below HX1.out hb); have n2_ := Aside0.mk (below_step HB.out hb); have HK := Aside0.mk (Kept.of_below hb (fun k_ => P0_ k_)); clear HX0 HX1 HB; have HX0 := n0_; have HX1 := n1_; have HB := n2_; clear n0_ n1_ n2_ hg hb hbox; have hc4_0 : w4.cell? ⟨gb, 0, none⟩ = some (.slice A0 l0.length c0) := (blk_cell BK.out 0).trans rfl; have hc4_1 : w4.cell? ⟨gb, 1, none⟩ = some (.slice A1 l1.length c1) := (blk_cell BK.out 1).trans rfl) | ((with_reducible refine gate_callee (f := 17) rfl ?_); refine goesL_ (some 8) rfl rfl Try.func17 (by kernel_rfl) rfl #[.slice A0 l0.length c0, .int .i64 a1] rfl z159_ ?_; (with_reducible refine (laws_markNodeS.calls k (fun k_ => some k_ = (Value.slice A0 l0.length c0).ownBlock) _ l0 a1 t1 t2 w0 _ HB.out HX0.out A1_.out).mono ?_); rintro e w9 ⟨rfl, ho0, hb, hk⟩; refine ⟨_, rfl, ?_⟩; replace BK := Aside0.mk (blk_kept BK.out hk (fun h_ => Kd.R_ne HX0.out BK.out (by decide) h_)); replace HX1 := Aside0.mk (Kd.S_kept HX1.out hk (fun k_ h1_ h2_ => h1_.2 h2_)); replace HK := Aside0.mk (Kept.then_ HK.out hk (fun k_ h_ => .inl (HP.out k_ h_.symm))); replace HB := Aside0.mk hb; clear ho0 hb hk HX0; have hc9_1 : w9.cell? ⟨gb, 1, none⟩ = some (.slice A1 l1.length c1) := (blk_cell BK.out 1).trans rfl) | ((with_reducible refine gate_callee (f := 65) rfl ?_); refine goesL_ (some 12) rfl rfl Try.func65 (by kernel_rfl) rfl #[.slice A1 l1.length c1, .int .i64 t1] rfl z159_ ?_; (with_reducible refine (laws_markOpSS.calls k (fun k_ => P0_ k_ ∧ some k_ ≠ (Value.slice A0 l0.length c0).ownBlock) _ l1 t1 t3 t4 w0 _ HB.out HX1.out A2_.out).mono ?_); rintro e w13 ⟨rfl, ho0, hb, hk⟩; refine ⟨_, rfl, ?_⟩; replace HK := Aside0.mk (Kept.then_ HK.out hk (fun k_ h_ => .inl h_.1)); replace HB := Aside0.mk hb; clear ho0 hb hk))
 go_ret
 exact ⟨by first | rfl | (simp [errW_none, errW_some] <;> rfl), z0_, z29_⟩

/-! ### laws_heldNodeS: function 26 -/
def laws_heldNodeS.l0 : Nat → List (S80) → Int → Int → Option (Int)
 | 0, _, _, _ => none
 | k + 1, x0, x1, x5 => if x5 < (x0.length : Int) then (if 0 ≤ x5 then (if ((rd_T80 x0 x5).f0) = x1 then (if ((rd_T80 x0 x5).f1) = (wrap64 (x1 + 1)) then (laws_heldNodeS.l0 k x0 (wrap64 ((wrap64 (x1 + 1)) + 1)) (wrap64 (x5 + 1))) else (some (-1))) else (some (-1))) else (none)) else (some x1)
def laws_heldNodeS.f (k : Nat) (l0 : List (S80)) (a1 : Int) : Option (Int) := laws_heldNodeS.l0 k l0 a1 0
set_option maxHeartbeats 8000000 in
set_option maxRecDepth 100000 in
theorem laws_heldNodeS.calls (k : Nat) (A0 : Option Addr) (c0 : Nat) (l0 : List (S80)) (a1 : Int) (r : Int) (w : World) (hr0 : Kd.C k80 w A0 l0.length l0) (hc0 : l0.length ≤ c0) (h : laws_heldNodeS.f k l0 a1 = some r) :
  Calls Try.prog 26 #[.slice A0 l0.length c0, .int .i64 a1] w fun e w' => e = .returned (.int .i64 r) ∧ Drawn0 w w' := by
 have HR0 := Aside0.mk hr0
 have HC0 := Aside0.mk hc0
 clear hr0 hc0
 have H : (laws_heldNodeS.l0 k l0 a1 0) = some r := h
 clear h
 have H' := Aside0.mk H
 clear H
 go_enter Try.func26, Try.ntmps26
 go_wp2
 go_loopg [1, 5] k (fun kq v1 v5 w' => ∃ (x1_1 : Int) (x5_1 : Int), v1 = .int .i64 x1_1 ∧ v5 = .int .i64 x5_1 ∧ Aside0 (laws_heldNodeS.l0 kq l0 x1_1 x5_1 = some r) ∧ Aside0 (kq ≤ k) ∧ Drawn0 w w')
 case atStart => exact ⟨(a1), (0), z5_, z5_, H', ⟨Nat.le_refl _⟩, z28_⟩
 case round =>
  clear H'
  try clear c2
  try clear p2
  obtain ⟨x1_1, x5_1, rfl, rfl, HA, HK1, ⟨m1, rfl⟩⟩ := hrel
  cases gk with
  | zero => exact absurd HA.out (by simp [laws_heldNodeS.l0])
  | succ k1 =>
   have H := HA.out
   clear HA
   simp only [laws_heldNodeS.l0] at H
   by_cases c3 : x5_1 < (l0.length : Int)
   ·rw [if_pos c3] at H
    have c3b0 := decide_eq_true c3
    clear c3
    obtain ⟨c4b0, H⟩ := ifd_ H
    by_cases c5 : ((rd_T80 l0 x5_1).f0) = x1_1
    ·rw [if_pos c5] at H
     have c5b0 : (((rd_T80 l0 x5_1).f0) == x1_1) = true := beq_iff_eq.mpr c5
     have c5b1 : (((rd_T80 l0 x5_1).f0) != x1_1) = false := bne_eq_false_iff_eq.mpr c5
     clear c5
     by_cases c6 : ((rd_T80 l0 x5_1).f1) = (wrap64 (x1_1 + 1))
     ·rw [if_pos c6] at H
      have c6b0 : (((rd_T80 l0 x5_1).f1) == (wrap64 (x1_1 + 1))) = true := beq_iff_eq.mpr c6
      have c6b1 : (((rd_T80 l0 x5_1).f1) != (wrap64 (x1_1 + 1))) = false := bne_eq_false_iff_eq.mpr c6
      clear c6
      have H' := Aside0.mk H
      clear H
      obtain ⟨p504, q504, ad504, e504, hx504_0, hx504_1⟩ := ato80_ HR0 x5_1
      cases e504
      obtain ⟨p505, q505, ad505, e505, hx505_0, hx505_1⟩ := ato80_ HR0 x5_1
      obtain rfl : ad504 = ad505 := (by injection e505)
      go_wp2
      go_roundg k1
      case measure => have := HK1.out; omega
      case rel => exact ⟨(wrap64 ((wrap64 (x1_1 + 1)) + 1)), (wrap64 (x5_1 + 1)), z5_, z5_, H', ⟨z66_⟩, z28_⟩
     ·rw [if_neg c6] at H
      have c6b0 : (((rd_T80 l0 x5_1).f1) == (wrap64 (x1_1 + 1))) = false := beq_eq_false_iff_ne.mpr c6
      have c6b1 : (((rd_T80 l0 x5_1).f1) != (wrap64 (x1_1 + 1))) = true := bne_iff_ne.mpr c6
      obtain rfl := Option.some.inj H
      obtain ⟨p504, q504, ad504, e504, hx504_0, hx504_1⟩ := ato80_ HR0 x5_1
      cases e504
      obtain ⟨p505, q505, ad505, e505, hx505_0, hx505_1⟩ := ato80_ HR0 x5_1
      obtain rfl : ad504 = ad505 := (by injection e505)
      go_wp2
      go_ret
      exact ⟨z5_, z28_⟩
    ·rw [if_neg c5] at H
     have c5b0 : (((rd_T80 l0 x5_1).f0) == x1_1) = false := beq_eq_false_iff_ne.mpr c5
     have c5b1 : (((rd_T80 l0 x5_1).f0) != x1_1) = true := bne_iff_ne.mpr c5
     obtain rfl := Option.some.inj H
     obtain ⟨p504, q504, ad504, e504, hx504_0, hx504_1⟩ := ato80_ HR0 x5_1
     cases e504
     go_wp2
     go_ret
     exact ⟨z5_, z28_⟩
   ·rw [if_neg c3] at H
    have c3b0 := decide_eq_false c3
    clear c3
    obtain rfl := Option.some.inj H
    go_wp2
    go_ret
    exact ⟨z5_, z28_⟩

/-! ### laws_FnExactHistAt: function 4 -/
def laws_FnExactHistAt.f (k : Nat) (l0_0 : List (S82)) (l0_1 : List (List (S73))) (a1 : Int) : Option (Bool) := (laws_szHist.f k l0_0 l0_1 1048576).bind fun t1 => if t1 < 0 then some true else (laws_toHist.f k l0_0 l0_1).bind fun bt2 => (spec_HistAt.f k bt2.1 bt2.2 a1).bind fun t4 => (laws_toHist.f k l0_0 l0_1).bind fun bt5 => (impl_HistAt.f k bt5.1 bt5.2 a1).bind fun t7 => (laws_eqNodeS.f k t7 t4).bind fun e1 => if e1 = true then (laws_toHist.f k l0_0 l0_1).bind fun bt8 => (laws_eqHist.f k bt5.1 bt5.2 bt8.1 bt8.2).bind fun e2 => if e2 = true then (laws_markHist.f k bt5.1 bt5.2 1).bind fun t10 => if t10 < 0 then none else (laws_eqNodeS.f k t7 t4).bind fun e3 => if e3 = true then (laws_markNodeS.f k t7 1).bind fun bt11 => (laws_heldNodeS.f k bt11.2 1).bind fun t13 => if t13 < 0 then none else if t13 = bt11.1 then (laws_toHist.f k l0_0 l0_1).bind fun bt14 => (impl_HistAt.f k bt14.1 bt14.2 a1).bind fun t16 => (laws_eqNodeS.f k t16 t4).bind fun e4 => if e4 = true then (laws_heldNodeS.f k bt11.2 1).bind fun t17 => if t17 < 0 then none else if t17 = bt11.1 then some true else none else none else none else none else none else none
theorem ivR {α : Type} {d : Kd α} {e base b hi0 : Nat} {ok : Nat → Prop} {w' : World} {v : Value} {l : List α} (h : d.R e w' b ok v l) (hbs : base ≤ b) (hz : hi0 ≤ b) (hs : b ≤ w'.heap.size) : ∃ hi, hi0 ≤ hi ∧ hi ≤ w'.heap.size ∧ d.R e w' base (fun k => hi0 ≤ k ∧ k < hi) v l :=
 ⟨w'.heap.size, Nat.le_trans hz hs, Nat.le_refl _, Kd.R_mono (Kd.R_lower (Kd.R_bound h) hbs) (fun k hk => ⟨Nat.le_trans hz hk.2.1, hk.2.2.1⟩)⟩
theorem ivS {α : Type} {d : Kd α} {e base b hi0 : Nat} {ok : Nat → Prop} {w' : World} {v : Value} {l : List α} (h : Kd.S d e w' b ok v l) (hbs : base ≤ b) (hz : hi0 ≤ b) (hs : b ≤ w'.heap.size) : ∃ hi, hi0 ≤ hi ∧ hi ≤ w'.heap.size ∧ Kd.S d e w' base (fun k => hi0 ≤ k ∧ k < hi) v l :=
 ⟨w'.heap.size, Nat.le_trans hz hs, Nat.le_refl _, Kd.S_mono (Kd.S_lower (Kd.S_bound h) hbs) (fun k hk => ⟨Nat.le_trans hz hk.2.1, hk.2.2.1⟩)⟩
theorem ivN {α : Type} {d : Kd α} {e base b hi0 : Nat} {ok : Nat → Prop} {w' : World} {v : Value} {l : List α} (h : Kd.N d e w' b ok v l) (hbs : base ≤ b) (hz : hi0 ≤ b) (hs : b ≤ w'.heap.size) (hok : ∀ k, ok k → b ≤ k) : ∃ hi, hi0 ≤ hi ∧ hi ≤ w'.heap.size ∧ Kd.N d e w' base (fun k => hi0 ≤ k ∧ k < hi) v l :=
 ⟨w'.heap.size, Nat.le_trans hz hs, Nat.le_refl _, Kd.N_mono (Kd.N_lower (Kd.N_bound h) hbs) (fun k hk => ⟨Nat.le_trans hz (hok k hk.1), hk.2⟩)⟩
theorem iv_apart {a b c d k : Nat} (h1 : a ≤ k ∧ k < b) (h2 : c ≤ k ∧ k < d) (h : b ≤ c ∨ d ≤ a) : False := by omega
theorem iv2 {α β : Type} {d : Kd α} {d' : Kd β} {e e' base b hi0 : Nat} {ok ok' : Nat → Prop} {w' : World} {v v' : Value} {l : List α} {l' : List β} (h0 : d.R e w' b ok v l) (h1 : Kd.S d' e' w' b ok' v' l') (hbs : base ≤ b) (hz : hi0 ≤ b) (hs : b ≤ w'.heap.size) : ∃ hi, hi0 ≤ hi ∧ hi ≤ w'.heap.size ∧ d.R e w' base (fun k => hi0 ≤ k ∧ k < hi) v l ∧ Kd.S d' e' w' base (fun k => hi0 ≤ k ∧ k < hi) v' l' :=
 ⟨w'.heap.size, Nat.le_trans hz hs, Nat.le_refl _, Kd.R_mono (Kd.R_lower (Kd.R_bound h0) hbs) (fun k hk => ⟨Nat.le_trans hz hk.2.1, hk.2.2.1⟩), Kd.S_mono (Kd.S_lower (Kd.S_bound h1) hbs) (fun k hk => ⟨Nat.le_trans hz hk.2.1, hk.2.2.1⟩)⟩

set_option maxHeartbeats 8000000 in
set_option maxRecDepth 100000 in
theorem laws_FnExactHistAt.calls (k : Nat) (A0_0 : Option Addr) (c0_0 : Nat) (l0_0 : List (S82)) (A0_1 : Option Addr) (c0_1 : Nat) (l0_1 : List (List (S73))) (a1 : Int) (r : Bool) (w : World) (hr0_0 : Kd.C k82 w A0_0 l0_0.length l0_0) (hc0_0 : l0_0.length ≤ c0_0) (hr0_1 : Kd.C (Kd.slice 73 k73) w A0_1 l0_1.length l0_1) (hc0_1 : l0_1.length ≤ c0_1) (h : laws_FnExactHistAt.f k l0_0 l0_1 a1 = some r) :
  Calls Try.prog 4 #[.agg #[.slice A0_0 l0_0.length c0_0, .slice A0_1 l0_1.length c0_1], .int .i64 a1] w fun e w' => e = .returned (.bool r) ∧ Below w.heap.size w w' := by
 have HR0_0 := Aside0.mk hr0_0
 have HC0_0 := Aside0.mk hc0_0
 have HR0_1 := Aside0.mk hr0_1
 have HC0_1 := Aside0.mk hc0_1
 clear hr0_0 hc0_0 hr0_1 hc0_1
 have hu_ := Try.underlying44
 have hu2_ := Try.underlying39
 have HB := Aside0.mk (Below.refl w.heap.size w)
 obtain ⟨z0, hz0_⟩ : ∃ z0, z0 = w.heap.size := ⟨_, rfl⟩
 have HZ := Aside0.mk (show z0 ≤ w.heap.size from Nat.le_of_eq hz0_)
 clear hz0_
 unfold laws_FnExactHistAt.f at h
 have H := h
 clear h
 replace H := Option.bind_eq_some_iff.mp H
 obtain ⟨t1, F10_, H⟩ := H
 have F1 := Aside0.mk F10_
 clear F10_
 by_cases q1 : t1 < 0
 ·rw [if_pos q1] at H
  obtain rfl := Option.some.inj H
  have qb1 : decide (t1 < 0) = true := decide_eq_true q1
  clear q1
  go_enter Try.func4, Try.ntmps4
  go_wp2_with (first | ((with_reducible refine gate_dst (N := 2) rfl ?_); refine box_event ?hg (N := 2) ?hd (cs := #[.slice A0_0 l0_0.length c0_0, .slice A0_1 l0_1.length c0_1]) (t := 39) ?hr ?_; (case hd => rfl); (case hg => rfl); (case hr => exact z9_); intro gb2 hg wb2 hbox hb; have BK2 := Aside0.mk hbox; have GL2 := Aside0.mk ((by rw [hg]; exact HZ.out) : z0 ≤ gb2); replace HZ := Aside0.mk ((blk_lt BK2.out : gb2 < wb2.heap.size)); replace HB := Aside0.mk (below_step z0_ hb); clear hb hbox hg; have hcgb2_0 : wb2.cell? ⟨gb2, 0, none⟩ = some (.slice A0_0 l0_0.length c0_0) := (blk_cell BK2.out 0).trans rfl; have hfgb2_0 := blk_frozen BK2.out 0; have hcgb2_1 : wb2.cell? ⟨gb2, 1, none⟩ = some (.slice A0_1 l0_1.length c0_1) := (blk_cell BK2.out 1).trans rfl; have hfgb2_1 := blk_frozen BK2.out 1; skip) | ((with_reducible refine gate_callee (f := 20) rfl ?_); refine goesL_ (some 15) rfl rfl Try.func20 (by kernel_rfl) rfl #[.agg #[.slice A0_0 l0_0.length c0_0, .slice A0_1 l0_1.length c0_1], .int .i64 1048576] rfl z24_ ?_; (refine (laws_szHist.calls k _ _ l0_0 _ _ l0_1 1048576 t1 _ ?sd1 ?sd2 ?sd3 ?sd4 F1.out).mono ?_); (case sd1 => exact z12_); (case sd2 => exact HC0_0.out); (case sd3 => exact z8_); (case sd4 => exact HC0_1.out); rintro e w1 ⟨rfl, hb⟩; refine ⟨_, rfl, ?_⟩; replace BK2 := Aside0.mk (blk_below (g := gb2) (o := .cells #[.slice A0_0 l0_0.length c0_0, .slice A0_1 l0_1.length c0_1] 39 (0, 0)) z30_ hb); replace HZ := Aside0.mk (Nat.le_trans HZ.out hb.size); replace HB := Aside0.mk (below_step z0_ hb); clear hb; have hcgb2_0 : w1.cell? ⟨gb2, 0, none⟩ = some (.slice A0_0 l0_0.length c0_0) := (blk_cell BK2.out 0).trans rfl; have hfgb2_0 := blk_frozen BK2.out 0; have hcgb2_1 : w1.cell? ⟨gb2, 1, none⟩ = some (.slice A0_1 l0_1.length c0_1) := (blk_cell BK2.out 1).trans rfl; have hfgb2_1 := blk_frozen BK2.out 1; skip))
  go_ret
  exact ⟨z3_, z0_⟩
 rw [if_neg q1] at H
 have qb1 : decide (t1 < 0) = false := decide_eq_false q1
 clear q1
 replace H := Option.bind_eq_some_iff.mp H
 obtain ⟨⟨t2, t3⟩, F20_, H⟩ := H
 have F2 := Aside0.mk F20_
 clear F20_
 dsimp only at H
 replace H := Option.bind_eq_some_iff.mp H
 obtain ⟨t4, F30_, H⟩ := H
 have F3 := Aside0.mk F30_
 clear F30_
 replace H := Option.bind_eq_some_iff.mp H
 obtain ⟨⟨t5, t6⟩, F40_, H⟩ := H
 have F4 := Aside0.mk F40_
 clear F40_
 dsimp only at H
 replace H := Option.bind_eq_some_iff.mp H
 obtain ⟨t7, F50_, H⟩ := H
 have F5 := Aside0.mk F50_
 clear F50_
 replace H := Option.bind_eq_some_iff.mp H
 obtain ⟨e1, F60_, H⟩ := H
 have F6 := Aside0.mk F60_
 clear F60_
 by_cases q7 : e1 = true
 rotate_left
 ·rw [if_neg q7] at H; cases H
 rw [if_pos q7] at H
 subst q7
 replace H := Option.bind_eq_some_iff.mp H
 obtain ⟨⟨t8, t9⟩, F70_, H⟩ := H
 have F7 := Aside0.mk F70_
 clear F70_
 dsimp only at H
 replace H := Option.bind_eq_some_iff.mp H
 obtain ⟨e2, F80_, H⟩ := H
 have F8 := Aside0.mk F80_
 clear F80_
 by_cases q10 : e2 = true
 rotate_left
 ·rw [if_neg q10] at H; cases H
 rw [if_pos q10] at H
 subst q10
 replace H := Option.bind_eq_some_iff.mp H
 obtain ⟨t10, F90_, H⟩ := H
 have F9 := Aside0.mk F90_
 clear F90_
 by_cases q12 : t10 < 0
 ·rw [if_pos q12] at H; cases H
 rw [if_neg q12] at H
 have qb12 : decide (t10 < 0) = false := decide_eq_false q12
 clear q12
 replace H := Option.bind_eq_some_iff.mp H
 obtain ⟨e3, F100_, H⟩ := H
 have F10 := Aside0.mk F100_
 clear F100_
 by_cases q14 : e3 = true
 rotate_left
 ·rw [if_neg q14] at H; cases H
 rw [if_pos q14] at H
 subst q14
 replace H := Option.bind_eq_some_iff.mp H
 obtain ⟨⟨t11, t12⟩, F110_, H⟩ := H
 have F11 := Aside0.mk F110_
 clear F110_
 dsimp only at H
 replace H := Option.bind_eq_some_iff.mp H
 obtain ⟨t13, F120_, H⟩ := H
 have F12 := Aside0.mk F120_
 clear F120_
 by_cases q17 : t13 < 0
 ·rw [if_pos q17] at H; cases H
 rw [if_neg q17] at H
 have qb17 : decide (t13 < 0) = false := decide_eq_false q17
 clear q17
 by_cases q18 : t13 = t11
 rotate_left
 ·rw [if_neg q18] at H; cases H
 rw [if_pos q18] at H
 have qb18 : (t13 != t11) = false := bne_eq_false_iff_eq.mpr q18
 have qc18 : (t13 == t11) = true := beq_iff_eq.mpr q18
 clear q18
 replace H := Option.bind_eq_some_iff.mp H
 obtain ⟨⟨t14, t15⟩, F130_, H⟩ := H
 have F13 := Aside0.mk F130_
 clear F130_
 dsimp only at H
 replace H := Option.bind_eq_some_iff.mp H
 obtain ⟨t16, F140_, H⟩ := H
 have F14 := Aside0.mk F140_
 clear F140_
 replace H := Option.bind_eq_some_iff.mp H
 obtain ⟨e4, F150_, H⟩ := H
 have F15 := Aside0.mk F150_
 clear F150_
 by_cases q22 : e4 = true
 rotate_left
 ·rw [if_neg q22] at H; cases H
 rw [if_pos q22] at H
 subst q22
 replace H := Option.bind_eq_some_iff.mp H
 obtain ⟨t17, F160_, H⟩ := H
 have F16 := Aside0.mk F160_
 clear F160_
 by_cases q24 : t17 < 0
 ·rw [if_pos q24] at H; cases H
 rw [if_neg q24] at H
 have qb24 : decide (t17 < 0) = false := decide_eq_false q24
 clear q24
 by_cases q25 : t17 = t11
 rotate_left
 ·rw [if_neg q25] at H; cases H
 rw [if_pos q25] at H
 have qb25 : (t17 != t11) = false := bne_eq_false_iff_eq.mpr q25
 have qc25 : (t17 == t11) = true := beq_iff_eq.mpr q25
 clear q25
 obtain rfl := Option.some.inj H
 go_enter Try.func4, Try.ntmps4
 go_wp2_with (first | ((with_reducible refine gate_dst (N := 2) rfl ?_); refine box_event ?hg (N := 2) ?hd (cs := #[.slice A0_0 l0_0.length c0_0, .slice A0_1 l0_1.length c0_1]) (t := 39) ?hr ?_; (case hd => rfl); (case hg => rfl); (case hr => exact z9_); intro gb2 hg wb2 hbox hb; have BK2 := Aside0.mk hbox; have GL2 := Aside0.mk ((by rw [hg]; exact HZ.out) : z0 ≤ gb2); replace HZ := Aside0.mk ((blk_lt BK2.out : gb2 < wb2.heap.size)); replace HB := Aside0.mk (below_step z0_ hb); clear hb hbox hg; have hcgb2_0 : wb2.cell? ⟨gb2, 0, none⟩ = some (.slice A0_0 l0_0.length c0_0) := (blk_cell BK2.out 0).trans rfl; have hfgb2_0 := blk_frozen BK2.out 0; have hcgb2_1 : wb2.cell? ⟨gb2, 1, none⟩ = some (.slice A0_1 l0_1.length c0_1) := (blk_cell BK2.out 1).trans rfl; have hfgb2_1 := blk_frozen BK2.out 1; skip) | ((with_reducible refine gate_callee (f := 20) rfl ?_); refine goesL_ (some 15) rfl rfl Try.func20 (by kernel_rfl) rfl #[.agg #[.slice A0_0 l0_0.length c0_0, .slice A0_1 l0_1.length c0_1], .int .i64 1048576] rfl z24_ ?_; (refine (laws_szHist.calls k _ _ l0_0 _ _ l0_1 1048576 t1 _ ?sd1 ?sd2 ?sd3 ?sd4 F1.out).mono ?_); (case sd1 => exact z12_); (case sd2 => exact HC0_0.out); (case sd3 => exact z8_); (case sd4 => exact HC0_1.out); rintro e w1 ⟨rfl, hb⟩; refine ⟨_, rfl, ?_⟩; replace BK2 := Aside0.mk (blk_below (g := gb2) (o := .cells #[.slice A0_0 l0_0.length c0_0, .slice A0_1 l0_1.length c0_1] 39 (0, 0)) z30_ hb); replace HZ := Aside0.mk (Nat.le_trans HZ.out hb.size); replace HB := Aside0.mk (below_step z0_ hb); clear hb; have hcgb2_0 : w1.cell? ⟨gb2, 0, none⟩ = some (.slice A0_0 l0_0.length c0_0) := (blk_cell BK2.out 0).trans rfl; have hfgb2_0 := blk_frozen BK2.out 0; have hcgb2_1 : w1.cell? ⟨gb2, 1, none⟩ = some (.slice A0_1 l0_1.length c0_1) := (blk_cell BK2.out 1).trans rfl; have hfgb2_1 := blk_frozen BK2.out 1; skip) | ((with_reducible refine gate_callee (f := 22) rfl ?_); refine goesL_ (some 19) rfl rfl Try.func22 (by kernel_rfl) rfl #[.agg #[.slice A0_0 l0_0.length c0_0, .slice A0_1 l0_1.length c0_1]] rfl z24_ ?_; (refine (laws_toHist.calls k _ _ l0_0 _ _ l0_1 t2 t3 _ ?sd5 ?sd6 ?sd7 ?sd8 F2.out).mono ?_); (case sd5 => exact z12_); (case sd6 => exact HC0_0.out); (case sd7 => exact z8_); (case sd8 => exact HC0_1.out); rintro e w2 ⟨v0_, v1_, rfl, ho0, ho1, hb⟩; refine ⟨_, rfl, ?_⟩; obtain ⟨z1, za_, zb_, hn0_, hn1_⟩ := iv2 ho0 ho1 (below_size z0_) HZ.out hb.size; have HZz1 := Aside0.mk za_; replace BK2 := Aside0.mk (blk_below (g := gb2) (o := .cells #[.slice A0_0 l0_0.length c0_0, .slice A0_1 l0_1.length c0_1] 39 (0, 0)) z30_ hb); replace HZ := Aside0.mk (zb_); replace HB := Aside0.mk (below_step z0_ hb); have HOy0 := Aside0.mk hn0_; obtain ⟨Aoy0, coy0, eo_⟩ := Kd.R_slice HOy0.out; subst eo_; clear hn0_ ho0; have HOy1 := Aside0.mk hn1_; obtain ⟨Aoy1, coy1, eo_⟩ := Kd.R_slice (Kd.S_R HOy1.out); subst eo_; clear hn1_ ho1; clear hb za_ zb_; have hcgb2_0 : w2.cell? ⟨gb2, 0, none⟩ = some (.slice A0_0 l0_0.length c0_0) := (blk_cell BK2.out 0).trans rfl; have hfgb2_0 := blk_frozen BK2.out 0; have hcgb2_1 : w2.cell? ⟨gb2, 1, none⟩ = some (.slice A0_1 l0_1.length c0_1) := (blk_cell BK2.out 1).trans rfl; have hfgb2_1 := blk_frozen BK2.out 1; skip) | ((with_reducible refine gate_callee (f := 21) rfl ?_); refine goesL_ (some 21) rfl rfl Try.func21 (by kernel_rfl) rfl #[.agg #[.slice Aoy0 t2.length coy0, .slice Aoy1 t3.length coy1], .int .i64 a1] rfl z24_ ?_; (refine (spec_HistAt.calls k _ _ t2 _ _ t3 a1 t4 _ ?sd9 ?sd10 ?sd11 ?sd12 F3.out).mono ?_); (case sd9 => repeat (first | exact (Kd.R_reads' HOy0.out).2.2 | (with_reducible refine Kd.C_alloc ?_ _) | (with_reducible refine Kd.C_drewN ?_ _) | (with_reducible refine Kd.C_drew ?_))); (case sd10 => exact (Kd.R_reads' HOy0.out).2.1); (case sd11 => repeat (first | exact (Kd.R_reads' (Kd.S_R HOy1.out)).2.2 | (with_reducible refine Kd.C_alloc ?_ _) | (with_reducible refine Kd.C_drewN ?_ _) | (with_reducible refine Kd.C_drew ?_))); (case sd12 => exact (Kd.R_reads' (Kd.S_R HOy1.out)).2.1); rintro e w3 ⟨v0_, rfl, ho0, hb⟩; refine ⟨_, rfl, ?_⟩; obtain ⟨z2, za_, zb_, hn0_⟩ := ivR ho0 (below_size z0_) HZ.out hb.size; have HZz2 := Aside0.mk za_; replace HOy0 := Aside0.mk (Kd.R_below (by (with_reducible repeat (first | apply Kd.R_alloc | apply Kd.R_drewN | apply Kd.R_drew)); exact HOy0.out) hb); replace HOy1 := Aside0.mk (Kd.S_below (by (with_reducible repeat (first | apply Kd.S_alloc | apply Kd.S_drewN | apply Kd.S_drew)); exact HOy1.out) hb); replace BK2 := Aside0.mk (blk_below (g := gb2) (o := .cells #[.slice A0_0 l0_0.length c0_0, .slice A0_1 l0_1.length c0_1] 39 (0, 0)) z30_ hb); replace HZ := Aside0.mk (zb_); replace HB := Aside0.mk (below_step z0_ hb); have HOw0 := Aside0.mk hn0_; obtain ⟨Aow0, cow0, eo_⟩ := Kd.R_slice HOw0.out; subst eo_; clear hn0_ ho0; clear hb za_ zb_; have hcgb2_0 : w3.cell? ⟨gb2, 0, none⟩ = some (.slice A0_0 l0_0.length c0_0) := (blk_cell BK2.out 0).trans rfl; have hfgb2_0 := blk_frozen BK2.out 0; have hcgb2_1 : w3.cell? ⟨gb2, 1, none⟩ = some (.slice A0_1 l0_1.length c0_1) := (blk_cell BK2.out 1).trans rfl; have hfgb2_1 := blk_frozen BK2.out 1; skip; clear HOy0 HOy1) | ((with_reducible refine gate_callee (f := 22) rfl ?_); refine goesL_ (some 23) rfl rfl Try.func22 (by kernel_rfl) rfl #[.agg #[.slice A0_0 l0_0.length c0_0, .slice A0_1 l0_1.length c0_1]] rfl z24_ ?_; (refine (laws_toHist.calls k _ _ l0_0 _ _ l0_1 t5 t6 _ ?sd13 ?sd14 ?sd15 ?sd16 F4.out).mono ?_); (case sd13 => exact z12_); (case sd14 => exact HC0_0.out); (case sd15 => exact z8_); (case sd16 => exact HC0_1.out); rintro e w4 ⟨v0_, v1_, rfl, ho0, ho1, hb⟩; refine ⟨_, rfl, ?_⟩; obtain ⟨z3, za_, zb_, hn0_, hn1_⟩ := iv2 ho0 ho1 (below_size z0_) HZ.out hb.size; have HZz3 := Aside0.mk za_; replace HOw0 := Aside0.mk (Kd.R_below z46_ hb); replace BK2 := Aside0.mk (blk_below (g := gb2) (o := .cells #[.slice A0_0 l0_0.length c0_0, .slice A0_1 l0_1.length c0_1] 39 (0, 0)) z30_ hb); replace HZ := Aside0.mk (zb_); replace HB := Aside0.mk (below_step z0_ hb); have HOx0 := Aside0.mk hn0_; obtain ⟨Aox0, cox0, eo_⟩ := Kd.R_slice HOx0.out; subst eo_; clear hn0_ ho0; have HOx1 := Aside0.mk hn1_; obtain ⟨Aox1, cox1, eo_⟩ := Kd.R_slice (Kd.S_R HOx1.out); subst eo_; clear hn1_ ho1; clear hb za_ zb_; have hcgb2_0 : w4.cell? ⟨gb2, 0, none⟩ = some (.slice A0_0 l0_0.length c0_0) := (blk_cell BK2.out 0).trans rfl; have hfgb2_0 := blk_frozen BK2.out 0; have hcgb2_1 : w4.cell? ⟨gb2, 1, none⟩ = some (.slice A0_1 l0_1.length c0_1) := (blk_cell BK2.out 1).trans rfl; have hfgb2_1 := blk_frozen BK2.out 1; skip) | ((with_reducible refine gate_dst (N := 7) rfl ?_); refine box_event ?hg (N := 7) ?hd (cs := #[.slice none 0 0, .slice none 0 0]) (t := 44) ?hr ?_; (case hd => rfl); (case hg => rfl); (case hr => exact z9_); intro gb7 hg wb7 hbox hb; have BK7 := Aside0.mk hbox; have GL7 := Aside0.mk ((by rw [hg]; exact HZ.out) : z3 ≤ gb7); have GE7 := Aside0.mk ((by rw [hg]; exact (below_size z0_)) : w.heap.size ≤ gb7); replace HOw0 := Aside0.mk (Kd.R_below z46_ hb); replace HOx0 := Aside0.mk (Kd.R_below z68_ hb); replace HOx1 := Aside0.mk (Kd.S_below z69_ hb); replace BK2 := Aside0.mk (blk_below (g := gb2) (o := .cells #[.slice A0_0 l0_0.length c0_0, .slice A0_1 l0_1.length c0_1] 39 (0, 0)) z30_ hb); replace HZ := Aside0.mk ((blk_lt BK7.out : gb7 < wb7.heap.size)); replace HB := Aside0.mk (below_step z0_ hb); clear hb hbox hg; have hcgb2_0 : wb7.cell? ⟨gb2, 0, none⟩ = some (.slice A0_0 l0_0.length c0_0) := (blk_cell BK2.out 0).trans rfl; have hfgb2_0 := blk_frozen BK2.out 0; have hcgb2_1 : wb7.cell? ⟨gb2, 1, none⟩ = some (.slice A0_1 l0_1.length c0_1) := (blk_cell BK2.out 1).trans rfl; have hfgb2_1 := blk_frozen BK2.out 1; have hcgb7_0 : wb7.cell? ⟨gb7, 0, none⟩ = some (.slice none 0 0) := (blk_cell BK7.out 0).trans rfl; have hfgb7_0 := blk_frozen BK7.out 0; have hcgb7_1 : wb7.cell? ⟨gb7, 1, none⟩ = some (.slice none 0 0) := (blk_cell BK7.out 1).trans rfl; have hfgb7_1 := blk_frozen BK7.out 1; skip) | ((with_reducible refine gate_store (t := 44) (p := 7) rfl ?_); refine store_event (t := 44) (p := 7) (v := ?vo7) (w1 := ((wb7.setCell ⟨gb7, 0, none⟩ (.slice Aox0 t5.length cox0)).setCell ⟨gb7, 1, none⟩ (.slice Aox1 t6.length cox1))) ?hg ?ho ?hn ?hr ?_; (case ho => rfl); (case hg => rfl); (case hn => rfl); (case hr => exact z9_); intro ws7 hw; have hkp : Kept wb7 ws7 (fun k_ => gb7 ≤ k_ ∧ k_ < gb7 + 1) := (by rw [hw]; exact Kept.setCell (Kept.setCell (Kept.refl _ _) (.inl ⟨Nat.le_refl _, Nat.lt_succ_self _⟩) _) (.inl ⟨Nat.le_refl _, Nat.lt_succ_self _⟩) _); replace HOw0 := Aside0.mk (Kd.R_kept z46_ hkp (fun k_ h1_ h2_ => iv_apart h1_ h2_ z99_)); replace HOx0 := Aside0.mk (Kd.R_kept z68_ hkp (fun k_ h1_ h2_ => iv_apart h1_ h2_ z99_)); replace HOx1 := Aside0.mk (Kd.S_kept z69_ hkp (fun k_ h1_ h2_ => iv_apart h1_ h2_ z99_)); replace BK2 := Aside0.mk (blk_kept (g := gb2) (o := .cells #[.slice A0_0 l0_0.length c0_0, .slice A0_1 l0_1.length c0_1] 39 (0, 0)) z30_ hkp (fun h2_ => iv_apart (k := gb2) (a := gb2) (b := gb2 + 1) ⟨Nat.le_refl _, Nat.lt_succ_self _⟩ h2_ z99_)); replace BK7 := Aside0.mk (((by rw [hw]; refine blk_put (cs := #[.slice Aox0 t5.length cox0, .slice none 0 0]) ?_ 1 _ rfl; refine blk_put (cs := #[.slice none 0 0, .slice none 0 0]) ?_ 0 _ rfl; exact BK7.out) : ws7.heap[gb7]? = some (.cells #[.slice Aox0 t5.length cox0, .slice Aox1 t6.length cox1] 44 (0, 0)))); replace HZ := Aside0.mk (Nat.le_trans HZ.out hkp.1); replace HB := Aside0.mk ((by rw [hw]; exact below_set (below_set (HB.out) GE7.out) GE7.out : Below w.heap.size w ws7)); clear hkp hw; have hcgb2_0 : ws7.cell? ⟨gb2, 0, none⟩ = some (.slice A0_0 l0_0.length c0_0) := (blk_cell BK2.out 0).trans rfl; have hfgb2_0 := blk_frozen BK2.out 0; have hcgb2_1 : ws7.cell? ⟨gb2, 1, none⟩ = some (.slice A0_1 l0_1.length c0_1) := (blk_cell BK2.out 1).trans rfl; have hfgb2_1 := blk_frozen BK2.out 1; have hcgb7_0 : ws7.cell? ⟨gb7, 0, none⟩ = some (.slice Aox0 t5.length cox0) := (blk_cell BK7.out 0).trans rfl; have hfgb7_0 := blk_frozen BK7.out 0; have hcgb7_1 : ws7.cell? ⟨gb7, 1, none⟩ = some (.slice Aox1 t6.length cox1) := (blk_cell BK7.out 1).trans rfl; have hfgb7_1 := blk_frozen BK7.out 1; skip) | ((with_reducible refine gate_callee (f := 23) rfl ?_); refine goesL_ (some 26) rfl rfl Try.func23 (by kernel_rfl) rfl #[.agg #[.slice Aox0 t5.length cox0, .slice Aox1 t6.length cox1], .int .i64 a1] rfl z24_ ?_; (refine (impl_HistAt.calls k _ _ t5 _ _ t6 a1 t7 _ ?sd17 ?sd18 ?sd19 ?sd20 F5.out).mono ?_); (case sd17 => exact z126_); (case sd18 => exact (Kd.R_reads' HOx0.out).2.1); (case sd19 => exact z111_); (case sd20 => exact (Kd.R_reads' (Kd.S_R HOx1.out)).2.1); rintro e w5 ⟨v0_, rfl, ho0, hb⟩; refine ⟨_, rfl, ?_⟩; obtain ⟨z4, za_, zb_, hn0_⟩ := ivR ho0 (below_size z0_) HZ.out hb.size; have HZz4 := Aside0.mk za_; replace HOw0 := Aside0.mk (Kd.R_below z46_ hb); replace HOx0 := Aside0.mk (Kd.R_below z68_ hb); replace HOx1 := Aside0.mk (Kd.S_below z69_ hb); replace BK2 := Aside0.mk (blk_below (g := gb2) (o := .cells #[.slice A0_0 l0_0.length c0_0, .slice A0_1 l0_1.length c0_1] 39 (0, 0)) z30_ hb); replace BK7 := Aside0.mk (blk_below (g := gb7) (o := .cells #[.slice Aox0 t5.length cox0, .slice Aox1 t6.length cox1] 44 (0, 0)) z100_ hb); replace HZ := Aside0.mk (zb_); replace HB := Aside0.mk (below_step z0_ hb); have HOg0 := Aside0.mk hn0_; obtain ⟨Aog0, cog0, eo_⟩ := Kd.R_slice HOg0.out; subst eo_; clear hn0_ ho0; clear hb za_ zb_; have hcgb2_0 : w5.cell? ⟨gb2, 0, none⟩ = some (.slice A0_0 l0_0.length c0_0) := (blk_cell BK2.out 0).trans rfl; have hfgb2_0 := blk_frozen BK2.out 0; have hcgb2_1 : w5.cell? ⟨gb2, 1, none⟩ = some (.slice A0_1 l0_1.length c0_1) := (blk_cell BK2.out 1).trans rfl; have hfgb2_1 := blk_frozen BK2.out 1; have hcgb7_0 : w5.cell? ⟨gb7, 0, none⟩ = some (.slice Aox0 t5.length cox0) := (blk_cell BK7.out 0).trans rfl; have hfgb7_0 := blk_frozen BK7.out 0; have hcgb7_1 : w5.cell? ⟨gb7, 1, none⟩ = some (.slice Aox1 t6.length cox1) := (blk_cell BK7.out 1).trans rfl; have hfgb7_1 := blk_frozen BK7.out 1; skip) | ((with_reducible refine gate_callee (f := 16) rfl ?_); refine goesL_ (some 29) rfl rfl Try.func16 (by kernel_rfl) rfl #[.slice Aog0 t7.length cog0, .slice Aow0 t4.length cow0] rfl z24_ ?_; (refine (laws_eqNodeS.calls k _ _ t7 _ _ t4 true _ ?sd21 ?sd22 ?sd23 ?sd24 F6.out).mono ?_); (case sd21 => exact z73_); (case sd22 => exact (Kd.R_reads' HOg0.out).2.1); (case sd23 => exact z92_); (case sd24 => exact (Kd.R_reads' HOw0.out).2.1); rintro e w6 ⟨rfl, hb⟩; refine ⟨_, rfl, ?_⟩; replace HOw0 := Aside0.mk (Kd.R_below z46_ hb); replace HOx0 := Aside0.mk (Kd.R_below z68_ hb); replace HOx1 := Aside0.mk (Kd.S_below z69_ hb); replace HOg0 := Aside0.mk (Kd.R_below z58_ hb); replace BK2 := Aside0.mk (blk_below (g := gb2) (o := .cells #[.slice A0_0 l0_0.length c0_0, .slice A0_1 l0_1.length c0_1] 39 (0, 0)) z30_ hb); replace BK7 := Aside0.mk (blk_below (g := gb7) (o := .cells #[.slice Aox0 t5.length cox0, .slice Aox1 t6.length cox1] 44 (0, 0)) z100_ hb); replace HZ := Aside0.mk (Nat.le_trans HZ.out hb.size); replace HB := Aside0.mk (below_step z0_ hb); clear hb; have hcgb2_0 : w6.cell? ⟨gb2, 0, none⟩ = some (.slice A0_0 l0_0.length c0_0) := (blk_cell BK2.out 0).trans rfl; have hfgb2_0 := blk_frozen BK2.out 0; have hcgb2_1 : w6.cell? ⟨gb2, 1, none⟩ = some (.slice A0_1 l0_1.length c0_1) := (blk_cell BK2.out 1).trans rfl; have hfgb2_1 := blk_frozen BK2.out 1; have hcgb7_0 : w6.cell? ⟨gb7, 0, none⟩ = some (.slice Aox0 t5.length cox0) := (blk_cell BK7.out 0).trans rfl; have hfgb7_0 := blk_frozen BK7.out 0; have hcgb7_1 : w6.cell? ⟨gb7, 1, none⟩ = some (.slice Aox1 t6.length cox1) := (blk_cell BK7.out 1).trans rfl; have hfgb7_1 := blk_frozen BK7.out 1; skip))
 have n0_ := Aside0.mk (Kd.R_drew HOw0.out)
 have n1_ := Aside0.mk (Kd.R_drew HOx0.out)
 have n2_ := Aside0.mk (Kd.S_drew HOx1.out)
 have n3_ := Aside0.mk (Kd.R_drew HOg0.out)
 have n4_ := Aside0.mk (blk_drew BK2.out)
 have n5_ := Aside0.mk (blk_drew BK7.out)
 have n6_ := Aside0.mk (below_drew1 HB.out)
 have n7_ := Aside0.mk ((show z4 ≤ w6.drew.heap.size from HZ.out))
 clear HOw0
 clear HOx0
 clear HOx1
 clear HOg0
 clear BK2
 clear BK7
 clear HB
 clear HZ
 have HOw0 := n0_
 have HOx0 := n1_
 have HOx1 := n2_
 have HOg0 := n3_
 have BK2 := n4_
 have BK7 := n5_
 have HB := n6_
 have HZ := n7_
 clear n0_ n1_ n2_ n3_ n4_ n5_ n6_ n7_
 refine start_ (n := 5) (S := fun w' => w'.cell? ⟨gb7, 0, none⟩ = some (.slice Aox0 t5.length cox0) ∧ w'.cell? ⟨gb7, 1, none⟩ = some (.slice Aox1 t6.length cox1) ∧ w'.cell? ⟨gb2, 0, none⟩ = some (.slice A0_0 l0_0.length c0_0) ∧ w'.cell? ⟨gb2, 1, none⟩ = some (.slice A0_1 l0_1.length c0_1)) (ds := []) (fl_ 5 0) (by kernel_rfl) rfl (fl_zero _) ⟨(blk_cell BK7.out 0).trans rfl, (blk_cell BK7.out 1).trans rfl, (blk_cell BK2.out 0).trans rfl, (blk_cell BK2.out 1).trans rfl⟩ (fun hHeld => ?_)
 generalize w6.drew = w7 at HOw0 HOx0 HOx1 HOg0 BK2 BK7 HB HZ hHeld ⊢
 refine take_ (i := 0) (N := some 31) (v := ?_) (a' := ?_) #[true, false, false, false, false] rfl rfl (by kernel_rfl) (fun _ _ _ h => h) (Or.inl ⟨by rfl, ?_⟩) hHeld ?_ ?_
 rotate_left
 ·rintro w' ⟨s0, s1, s2, s3⟩
  go_simp
  with_reducible rfl
 rotate_left
 ·simp only [Act.put, List.setIfInBounds_toArray, List.set_cons_zero, List.set_cons_succ, i64_w, i32_w]
  rfl
 refine take_ (i := 1) (N := some 32) (v := ?_) (a' := ?_) #[true, true, false, false, false] rfl rfl (by kernel_rfl) (fun _ _ _ h => h) (Or.inl ⟨by rfl, ?_⟩) hHeld ?_ ?_
 rotate_left
 ·rintro w' ⟨s0, s1, s2, s3⟩
  go_simp
  with_reducible rfl
 rotate_left
 ·simp only [Act.put, List.setIfInBounds_toArray, List.set_cons_zero, List.set_cons_succ, i64_w, i32_w]
  rfl
 refine one_ (i := 2) (N := some 33) (fl_ 5 3) rfl rfl (by kernel_rfl) (by decide) (fun K hK => ?_)
 refine goes_ Try.func22 (by kernel_rfl) rfl #[.agg #[.slice A0_0 l0_0.length c0_0, .slice A0_1 l0_1.length c0_1]] (by rfl) rfl rfl z24_ ?_
 (refine (laws_toHist.calls k _ _ l0_0 _ _ l0_1 t8 t9 _ ?sd25 ?sd26 ?sd27 ?sd28 F7.out).mono ?_)
 (case sd25 => exact z12_)
 (case sd26 => exact HC0_0.out)
 (case sd27 => exact z8_)
 (case sd28 => exact HC0_1.out)
 rintro e w8 ⟨v0_, v1_, rfl, ho0, ho1, hb⟩
 refine ⟨_, rfl, ?_⟩
 obtain ⟨z5, za_, zb_, hn0_, hn1_⟩ := iv2 ho0 ho1 (below_size z0_) HZ.out hb.size; have HZz5 := Aside0.mk za_; replace HOw0 := Aside0.mk (Kd.R_below z46_ hb); replace HOx0 := Aside0.mk (Kd.R_below z68_ hb); replace HOx1 := Aside0.mk (Kd.S_below z69_ hb); replace HOg0 := Aside0.mk (Kd.R_below z58_ hb); replace BK2 := Aside0.mk (blk_below (g := gb2) (o := .cells #[.slice A0_0 l0_0.length c0_0, .slice A0_1 l0_1.length c0_1] 39 (0, 0)) z30_ hb); replace BK7 := Aside0.mk (blk_below (g := gb7) (o := .cells #[.slice Aox0 t5.length cox0, .slice Aox1 t6.length cox1] 44 (0, 0)) z100_ hb); replace HZ := Aside0.mk (zb_); replace HB := Aside0.mk (below_step z0_ hb); have HOu0 := Aside0.mk hn0_; obtain ⟨Aou0, cou0, eo_⟩ := Kd.R_slice HOu0.out; subst eo_; clear hn0_ ho0; have HOu1 := Aside0.mk hn1_; obtain ⟨Aou1, cou1, eo_⟩ := Kd.R_slice (Kd.S_R HOu1.out); subst eo_; clear hn1_ ho1; clear hb za_ zb_; have hcgb2_0 : w8.cell? ⟨gb2, 0, none⟩ = some (.slice A0_0 l0_0.length c0_0) := (blk_cell BK2.out 0).trans rfl; have hfgb2_0 := blk_frozen BK2.out 0; have hcgb2_1 : w8.cell? ⟨gb2, 1, none⟩ = some (.slice A0_1 l0_1.length c0_1) := (blk_cell BK2.out 1).trans rfl; have hfgb2_1 := blk_frozen BK2.out 1; have hcgb7_0 : w8.cell? ⟨gb7, 0, none⟩ = some (.slice Aox0 t5.length cox0) := (blk_cell BK7.out 0).trans rfl; have hfgb7_0 := blk_frozen BK7.out 0; have hcgb7_1 : w8.cell? ⟨gb7, 1, none⟩ = some (.slice Aox1 t6.length cox1) := (blk_cell BK7.out 1).trans rfl; have hfgb7_1 := blk_frozen BK7.out 1; skip
 refine hK.out _ _ ⟨(blk_cell BK7.out 0).trans rfl, (blk_cell BK7.out 1).trans rfl, (blk_cell BK2.out 0).trans rfl, (blk_cell BK2.out 1).trans rfl⟩ (fun hHeld => ?_)
 clear hK K
 refine zn_ rfl ?_
 refine one_ (i := 3) (N := some 34) (fl_ 5 4) rfl rfl (by kernel_rfl) (by decide) (fun K hK => ?_)
 refine goes_ Try.func24 (by kernel_rfl) rfl #[.agg #[.slice Aox0 t5.length cox0, .slice Aox1 t6.length cox1], .agg #[.slice Aou0 t8.length cou0, .slice Aou1 t9.length cou1]] (by rfl) rfl rfl z24_ ?_
 (refine (laws_eqHist.calls k _ _ t5 _ _ t6 _ _ t8 _ _ t9 true _ ?sd29 ?sd30 ?sd31 ?sd32 ?sd33 ?sd34 ?sd35 ?sd36 F8.out).mono ?_)
 (case sd29 => exact z126_)
 (case sd30 => exact (Kd.R_reads' HOx0.out).2.1)
 (case sd31 => exact z111_)
 (case sd32 => exact (Kd.R_reads' (Kd.S_R HOx1.out)).2.1)
 (case sd33 => repeat (first | exact (Kd.R_reads' HOu0.out).2.2 | (with_reducible refine Kd.C_alloc ?_ _) | (with_reducible refine Kd.C_drewN ?_ _) | (with_reducible refine Kd.C_drew ?_)))
 (case sd34 => exact (Kd.R_reads' HOu0.out).2.1)
 (case sd35 => repeat (first | exact (Kd.R_reads' (Kd.S_R HOu1.out)).2.2 | (with_reducible refine Kd.C_alloc ?_ _) | (with_reducible refine Kd.C_drewN ?_ _) | (with_reducible refine Kd.C_drew ?_)))
 (case sd36 => exact (Kd.R_reads' (Kd.S_R HOu1.out)).2.1)
 rintro e w9 ⟨rfl, hb⟩
 refine ⟨_, rfl, ?_⟩
 replace HOw0 := Aside0.mk (Kd.R_below z46_ hb); replace HOx0 := Aside0.mk (Kd.R_below z68_ hb); replace HOx1 := Aside0.mk (Kd.S_below z69_ hb); replace HOg0 := Aside0.mk (Kd.R_below z58_ hb); replace HOu0 := Aside0.mk (Kd.R_below (by (with_reducible repeat (first | apply Kd.R_alloc | apply Kd.R_drewN | apply Kd.R_drew)); exact HOu0.out) hb); replace HOu1 := Aside0.mk (Kd.S_below (by (with_reducible repeat (first | apply Kd.S_alloc | apply Kd.S_drewN | apply Kd.S_drew)); exact HOu1.out) hb); replace BK2 := Aside0.mk (blk_below (g := gb2) (o := .cells #[.slice A0_0 l0_0.length c0_0, .slice A0_1 l0_1.length c0_1] 39 (0, 0)) z30_ hb); replace BK7 := Aside0.mk (blk_below (g := gb7) (o := .cells #[.slice Aox0 t5.length cox0, .slice Aox1 t6.length cox1] 44 (0, 0)) z100_ hb); replace HZ := Aside0.mk (Nat.le_trans HZ.out hb.size); replace HB := Aside0.mk (below_step z0_ hb); clear hb; have hcgb2_0 : w9.cell? ⟨gb2, 0, none⟩ = some (.slice A0_0 l0_0.length c0_0) := (blk_cell BK2.out 0).trans rfl; have hfgb2_0 := blk_frozen BK2.out 0; have hcgb2_1 : w9.cell? ⟨gb2, 1, none⟩ = some (.slice A0_1 l0_1.length c0_1) := (blk_cell BK2.out 1).trans rfl; have hfgb2_1 := blk_frozen BK2.out 1; have hcgb7_0 : w9.cell? ⟨gb7, 0, none⟩ = some (.slice Aox0 t5.length cox0) := (blk_cell BK7.out 0).trans rfl; have hfgb7_0 := blk_frozen BK7.out 0; have hcgb7_1 : w9.cell? ⟨gb7, 1, none⟩ = some (.slice Aox1 t6.length cox1) := (blk_cell BK7.out 1).trans rfl; have hfgb7_1 := blk_frozen BK7.out 1; skip; clear HOu0 HOu1
 refine hK.out _ _ ⟨(blk_cell BK7.out 0).trans rfl, (blk_cell BK7.out 1).trans rfl, (blk_cell BK2.out 0).trans rfl, (blk_cell BK2.out 1).trans rfl⟩ (fun hHeld => ?_)
 clear hK K
 refine zn_ rfl ?_
 refine pure_ (i := 4) (N := some 35) (v := ?_) (a' := ?_) #[true, true, true, true, true] rfl rfl (by kernel_rfl) (fun _ _ _ h => h) (Or.inl ⟨by rfl, ?_⟩) ?_ ?_
 rotate_left
 ·intro w'
  go_simp
  with_reducible rfl
 rotate_left
 ·simp only [Act.put, List.setIfInBounds_toArray, List.set_cons_zero, List.set_cons_succ, i64_w, i32_w]
  rfl
 refine done_ (by kernel_rfl) ?_
 have hcgb2_0 : w9.cell? ⟨gb2, 0, none⟩ = some (.slice A0_0 l0_0.length c0_0) := (blk_cell BK2.out 0).trans rfl
 have hfgb2_0 := blk_frozen BK2.out 0
 have hcgb2_1 : w9.cell? ⟨gb2, 1, none⟩ = some (.slice A0_1 l0_1.length c0_1) := (blk_cell BK2.out 1).trans rfl
 have hfgb2_1 := blk_frozen BK2.out 1
 have hcgb7_0 : w9.cell? ⟨gb7, 0, none⟩ = some (.slice Aox0 t5.length cox0) := (blk_cell BK7.out 0).trans rfl
 have hfgb7_0 := blk_frozen BK7.out 0
 have hcgb7_1 : w9.cell? ⟨gb7, 1, none⟩ = some (.slice Aox1 t6.length cox1) := (blk_cell BK7.out 1).trans rfl
 have hfgb7_1 := blk_frozen BK7.out 1
 go_wp2_with (first | ((with_reducible refine gate_callee (f := 25) rfl ?_); refine goesL_ (some 38) rfl rfl Try.func25 (by kernel_rfl) rfl #[.agg #[.slice Aox0 t5.length cox0, .slice Aox1 t6.length cox1], .int .i64 1] rfl z24_ ?_; (refine (laws_markHist.calls k (fun k_ => z2 ≤ k_ ∧ k_ < z3) _ _ t5 _ _ t6 1 t10 w _ ?sd37 ?sd38 ?sd39 F9.out).mono ?_); (case sd37 => exact z35_); (case sd38 => exact z68_); (case sd39 => exact z69_); rintro e w10 ⟨rfl, hb, hkp⟩; refine ⟨_, rfl, ?_⟩; replace HOw0 := Aside0.mk (Kd.R_kept z46_ hkp (fun k_ h1_ h2_ => iv_apart h1_ h2_ z65_)); replace HOg0 := Aside0.mk (Kd.R_kept z58_ hkp (fun k_ h1_ h2_ => iv_apart h1_ h2_ z65_)); replace BK2 := Aside0.mk (blk_kept (g := gb2) (o := .cells #[.slice A0_0 l0_0.length c0_0, .slice A0_1 l0_1.length c0_1] 39 (0, 0)) z30_ hkp (fun h2_ => iv_apart (k := gb2) (a := gb2) (b := gb2 + 1) ⟨Nat.le_refl _, Nat.lt_succ_self _⟩ h2_ z65_)); replace HZ := Aside0.mk (Nat.le_trans HZ.out hkp.1); clear HB; have HB := Aside0.mk hb; clear HOx0 HOx1 BK7 hb hkp; have hcgb2_0 : w10.cell? ⟨gb2, 0, none⟩ = some (.slice A0_0 l0_0.length c0_0) := (blk_cell BK2.out 0).trans rfl; have hfgb2_0 := blk_frozen BK2.out 0; have hcgb2_1 : w10.cell? ⟨gb2, 1, none⟩ = some (.slice A0_1 l0_1.length c0_1) := (blk_cell BK2.out 1).trans rfl; have hfgb2_1 := blk_frozen BK2.out 1; skip) | (go_at_call 16; (refine (laws_eqNodeS.calls k _ _ t7 _ _ t4 true _ ?sd40 ?sd41 ?sd42 ?sd43 F10.out).mono ?_); (case sd40 => exact z73_); (case sd41 => exact (Kd.R_reads' HOg0.out).2.1); (case sd42 => exact z92_); (case sd43 => exact (Kd.R_reads' HOw0.out).2.1); rintro e w11 ⟨rfl, hb⟩; replace HOw0 := Aside0.mk (Kd.R_below z46_ hb); replace HOg0 := Aside0.mk (Kd.R_below z58_ hb); replace BK2 := Aside0.mk (blk_below (g := gb2) (o := .cells #[.slice A0_0 l0_0.length c0_0, .slice A0_1 l0_1.length c0_1] 39 (0, 0)) z30_ hb); replace HZ := Aside0.mk (Nat.le_trans HZ.out hb.size); replace HB := Aside0.mk (below_step z0_ hb); clear hb; have hcgb2_0 : w11.cell? ⟨gb2, 0, none⟩ = some (.slice A0_0 l0_0.length c0_0) := (blk_cell BK2.out 0).trans rfl; have hfgb2_0 := blk_frozen BK2.out 0; have hcgb2_1 : w11.cell? ⟨gb2, 1, none⟩ = some (.slice A0_1 l0_1.length c0_1) := (blk_cell BK2.out 1).trans rfl; have hfgb2_1 := blk_frozen BK2.out 1; skip) | ((with_reducible refine gate_callee (f := 17) rfl ?_); refine goesL_ (some 49) rfl rfl Try.func17 (by kernel_rfl) rfl #[.slice Aog0 t7.length cog0, .int .i64 1] rfl z24_ ?_; (refine (laws_markNodeS.calls k (fun k_ => (gb7 + 1) ≤ k_ ∧ k_ < z4) _ t7 1 t11 t12 w _ ?sd44 ?sd45 F11.out).mono ?_); (case sd44 => exact z35_); (case sd45 => exact z58_); rintro e w12 ⟨rfl, ho0, hb, hkp⟩; refine ⟨_, rfl, ?_⟩; replace HOw0 := Aside0.mk (Kd.R_kept z46_ hkp (fun k_ h1_ h2_ => iv_apart h1_ h2_ z65_)); replace BK2 := Aside0.mk (blk_kept (g := gb2) (o := .cells #[.slice A0_0 l0_0.length c0_0, .slice A0_1 l0_1.length c0_1] 39 (0, 0)) z30_ hkp (fun h2_ => iv_apart (k := gb2) (a := gb2) (b := gb2 + 1) ⟨Nat.le_refl _, Nat.lt_succ_self _⟩ h2_ z65_)); replace HZ := Aside0.mk (Nat.le_trans HZ.out hkp.1); clear HB; have HB := Aside0.mk hb; clear HOg0; have HOg0 := Aside0.mk ho0; have HLg0 := Aside0.mk (Kd.R_reads' HOg0.out).1; clear ho0 hb hkp; have hcgb2_0 : w12.cell? ⟨gb2, 0, none⟩ = some (.slice A0_0 l0_0.length c0_0) := (blk_cell BK2.out 0).trans rfl; have hfgb2_0 := blk_frozen BK2.out 0; have hcgb2_1 : w12.cell? ⟨gb2, 1, none⟩ = some (.slice A0_1 l0_1.length c0_1) := (blk_cell BK2.out 1).trans rfl; have hfgb2_1 := blk_frozen BK2.out 1; skip) | ((with_reducible refine gate_callee (f := 26) rfl ?_); refine goesL_ (some 52) rfl rfl Try.func26 (by kernel_rfl) rfl #[.slice Aog0 t12.length cog0, .int .i64 1] rfl z132_ ?_; (refine (laws_heldNodeS.calls k _ _ t12 1 t13 _ ?sd46 ?sd47 F12.out).mono ?_); (case sd46 => exact z73_); (case sd47 => exact z160_); rintro e w' ⟨rfl, ⟨nd, rfl⟩⟩; refine ⟨_, rfl, ?_⟩) | ((with_reducible refine gate_callee (f := 22) rfl ?_); refine goesL_ (some 59) rfl rfl Try.func22 (by kernel_rfl) rfl #[.agg #[.slice A0_0 l0_0.length c0_0, .slice A0_1 l0_1.length c0_1]] rfl z24_ ?_; (refine (laws_toHist.calls k _ _ l0_0 _ _ l0_1 t14 t15 _ ?sd48 ?sd49 ?sd50 ?sd51 F13.out).mono ?_); (case sd48 => exact z12_); (case sd49 => exact HC0_0.out); (case sd50 => exact z8_); (case sd51 => exact HC0_1.out); rintro e w14 ⟨v0_, v1_, rfl, ho0, ho1, hb⟩; refine ⟨_, rfl, ?_⟩; obtain ⟨z6, za_, zb_, hn0_, hn1_⟩ := iv2 ho0 ho1 (below_size z0_) HZ.out hb.size; have HZz6 := Aside0.mk za_; replace HOw0 := Aside0.mk (Kd.R_below z46_ hb); replace HOg0 := Aside0.mk (Kd.R_below z58_ hb); replace BK2 := Aside0.mk (blk_below (g := gb2) (o := .cells #[.slice A0_0 l0_0.length c0_0, .slice A0_1 l0_1.length c0_1] 39 (0, 0)) z30_ hb); replace HZ := Aside0.mk (zb_); replace HB := Aside0.mk (below_step z0_ hb); have HOv0 := Aside0.mk hn0_; obtain ⟨Aov0, cov0, eo_⟩ := Kd.R_slice HOv0.out; subst eo_; clear hn0_ ho0; have HOv1 := Aside0.mk hn1_; obtain ⟨Aov1, cov1, eo_⟩ := Kd.R_slice (Kd.S_R HOv1.out); subst eo_; clear hn1_ ho1; clear hb za_ zb_; have hcgb2_0 : w14.cell? ⟨gb2, 0, none⟩ = some (.slice A0_0 l0_0.length c0_0) := (blk_cell BK2.out 0).trans rfl; have hfgb2_0 := blk_frozen BK2.out 0; have hcgb2_1 : w14.cell? ⟨gb2, 1, none⟩ = some (.slice A0_1 l0_1.length c0_1) := (blk_cell BK2.out 1).trans rfl; have hfgb2_1 := blk_frozen BK2.out 1; skip) | ((with_reducible refine gate_callee (f := 23) rfl ?_); refine goesL_ (some 61) rfl rfl Try.func23 (by kernel_rfl) rfl #[.agg #[.slice Aov0 t14.length cov0, .slice Aov1 t15.length cov1], .int .i64 a1] rfl z24_ ?_; (refine (impl_HistAt.calls k _ _ t14 _ _ t15 a1 t16 _ ?sd52 ?sd53 ?sd54 ?sd55 F14.out).mono ?_); (case sd52 => repeat (first | exact (Kd.R_reads' HOv0.out).2.2 | (with_reducible refine Kd.C_alloc ?_ _) | (with_reducible refine Kd.C_drewN ?_ _) | (with_reducible refine Kd.C_drew ?_))); (case sd53 => exact (Kd.R_reads' HOv0.out).2.1); (case sd54 => repeat (first | exact (Kd.R_reads' (Kd.S_R HOv1.out)).2.2 | (with_reducible refine Kd.C_alloc ?_ _) | (with_reducible refine Kd.C_drewN ?_ _) | (with_reducible refine Kd.C_drew ?_))); (case sd55 => exact (Kd.R_reads' (Kd.S_R HOv1.out)).2.1); rintro e w15 ⟨v0_, rfl, ho0, hb⟩; refine ⟨_, rfl, ?_⟩; obtain ⟨z7, za_, zb_, hn0_⟩ := ivR ho0 (below_size z0_) HZ.out hb.size; have HZz7 := Aside0.mk za_; replace HOw0 := Aside0.mk (Kd.R_below z46_ hb); replace HOg0 := Aside0.mk (Kd.R_below z58_ hb); replace HOv0 := Aside0.mk (Kd.R_below (by (with_reducible repeat (first | apply Kd.R_alloc | apply Kd.R_drewN | apply Kd.R_drew)); exact HOv0.out) hb); replace HOv1 := Aside0.mk (Kd.S_below (by (with_reducible repeat (first | apply Kd.S_alloc | apply Kd.S_drewN | apply Kd.S_drew)); exact HOv1.out) hb); replace BK2 := Aside0.mk (blk_below (g := gb2) (o := .cells #[.slice A0_0 l0_0.length c0_0, .slice A0_1 l0_1.length c0_1] 39 (0, 0)) z30_ hb); replace HZ := Aside0.mk (zb_); replace HB := Aside0.mk (below_step z0_ hb); have HOh0 := Aside0.mk hn0_; obtain ⟨Aoh0, coh0, eo_⟩ := Kd.R_slice HOh0.out; subst eo_; clear hn0_ ho0; clear hb za_ zb_; have hcgb2_0 : w15.cell? ⟨gb2, 0, none⟩ = some (.slice A0_0 l0_0.length c0_0) := (blk_cell BK2.out 0).trans rfl; have hfgb2_0 := blk_frozen BK2.out 0; have hcgb2_1 : w15.cell? ⟨gb2, 1, none⟩ = some (.slice A0_1 l0_1.length c0_1) := (blk_cell BK2.out 1).trans rfl; have hfgb2_1 := blk_frozen BK2.out 1; skip; clear HOv0 HOv1) | ((with_reducible refine gate_callee (f := 16) rfl ?_); refine goesL_ (some 64) rfl rfl Try.func16 (by kernel_rfl) rfl #[.slice Aoh0 t16.length coh0, .slice Aow0 t4.length cow0] rfl z24_ ?_; (refine (laws_eqNodeS.calls k _ _ t16 _ _ t4 true _ ?sd56 ?sd57 ?sd58 ?sd59 F15.out).mono ?_); (case sd56 => repeat (first | exact (Kd.R_reads' HOh0.out).2.2 | (with_reducible refine Kd.C_alloc ?_ _) | (with_reducible refine Kd.C_drewN ?_ _) | (with_reducible refine Kd.C_drew ?_))); (case sd57 => exact (Kd.R_reads' HOh0.out).2.1); (case sd58 => exact z92_); (case sd59 => exact (Kd.R_reads' HOw0.out).2.1); rintro e w16 ⟨rfl, hb⟩; refine ⟨_, rfl, ?_⟩; replace HOw0 := Aside0.mk (Kd.R_below z46_ hb); replace HOg0 := Aside0.mk (Kd.R_below z58_ hb); replace HOh0 := Aside0.mk (Kd.R_below (by (with_reducible repeat (first | apply Kd.R_alloc | apply Kd.R_drewN | apply Kd.R_drew)); exact HOh0.out) hb); replace BK2 := Aside0.mk (blk_below (g := gb2) (o := .cells #[.slice A0_0 l0_0.length c0_0, .slice A0_1 l0_1.length c0_1] 39 (0, 0)) z30_ hb); replace HZ := Aside0.mk (Nat.le_trans HZ.out hb.size); replace HB := Aside0.mk (below_step z0_ hb); clear hb; have hcgb2_0 : w16.cell? ⟨gb2, 0, none⟩ = some (.slice A0_0 l0_0.length c0_0) := (blk_cell BK2.out 0).trans rfl; have hfgb2_0 := blk_frozen BK2.out 0; have hcgb2_1 : w16.cell? ⟨gb2, 1, none⟩ = some (.slice A0_1 l0_1.length c0_1) := (blk_cell BK2.out 1).trans rfl; have hfgb2_1 := blk_frozen BK2.out 1; skip; clear HOh0) | ((with_reducible refine gate_callee (f := 26) rfl ?_); refine goesL_ (some 68) rfl rfl Try.func26 (by kernel_rfl) rfl #[.slice Aog0 t12.length cog0, .int .i64 1] rfl z132_ ?_; (refine (laws_heldNodeS.calls k _ _ t12 1 t17 _ ?sd60 ?sd61 F16.out).mono ?_); (case sd60 => exact z73_); (case sd61 => exact z160_); rintro e w' ⟨rfl, ⟨nd, rfl⟩⟩; refine ⟨_, rfl, ?_⟩))
 go_ret
 exact ⟨z3_, z0_⟩

end Go.Proofs.Ytdapeboajjidmaa.PFnExactHistAt
