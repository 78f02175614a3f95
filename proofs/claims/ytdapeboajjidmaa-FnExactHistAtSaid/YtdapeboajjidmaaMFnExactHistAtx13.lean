/- Laid by a program of this session out of the kit's print for the law FnExactHistAt: what it says of the machine is proved here, function by function; each contract under the conditions that it names. -/
import Derived.Test.YtdapeboajjidmaaMFnExactHistAtx0
import Derived.Test.YtdapeboajjidmaaMFnExactHistAtx9
import Derived.Test.YtdapeboajjidmaaMFnExactHistAtx10
import Derived.Test.YtdapeboajjidmaaMFnExactHistAtx11
import Derived.Test.YtdapeboajjidmaaMFnExactHistAtx12
namespace Go.Proofs.Ytdapeboajjidmaa.PFnExactHistAt
open Go.RowKit Go.Proofs.YtdapeboajjidmaaW.PrintWords Go.Proofs.YtdapeboajjidmaaW.PrintLast Go.Proofs.YtdapeboajjidmaaW.PrintMore
attribute [local go_sem] max2_int min2_int max_two min_two max_three min_three max_four min_four   -- for this text's walks alone
set_option linter.unusedVariables false
set_option linter.unusedSimpArgs false

/-! ### impl_ApplyOp: function 51 -/
mutual
def impl_ApplyOp.l0 : Nat → List (S80) → List (S80) → Int → Int → Option ((List (S80)) × Int)
 | 0, _, _, _, _ => none
 | k + 1, x0, x6, x7, x11 => (impl_endOf.f k x0 x7).bind fun t411 => (if x11 < t411 then (if 0 ≤ x11 then (if x11 < (x6.length : Int) then (impl_ApplyOp.l0 k x0 (x6.set (x11 : Int).toNat (⟨(rd_T80 x6 x11).f0, wrap64 (((rd_T80 x6 x11).f1) - 1)⟩ : S80)) x7 (wrap64 (x11 + 1))) else (none)) else (none)) else ((slices_Delete_Node.f x6 x7 (wrap64 (x7 + 1))).bind fun t414 => (some (t414, 0))))
def impl_ApplyOp.l1 : Nat → List (S80) → List (S80) → Int → Int → Int → Int → Int → List Int → Int → Int → Int → Option ((List (S80)) × Int)
 | 0, _, _, _, _, _, _, _, _, _, _, _ => none
 | k + 1, x0, x6, x7, x9, x10, x12, x399000, x399001, x399002, x399003, x399004 => if x12 < x10 then (if 0 ≤ x12 then (if x12 < (x6.length : Int) then (impl_ApplyOp.l1 k x0 (x6.set (x12 : Int).toNat (⟨(rd_T80 x6 x12).f0, wrap64 (((rd_T80 x6 x12).f1) + 1)⟩ : S80)) x7 x9 x10 (wrap64 (x12 + 1)) x399000 x399001 x399002 x399003 x399004) else (none)) else (none)) else (if 0 ≤ x7 then (if x7 < (x0.length : Int) then ((slices_Insert_Node.f x6 x9 (([(⟨x399002, wrap64 (((rd_T80 x0 x7).f1) + 1)⟩ : S80)] : List (S80)))).bind fun t423 => (some (t423, 0))) else (none)) else (none))
end
def impl_ApplyOp.f (k : Nat) (l0 : List (S80)) (a1_0 : Int) (l1_1 : List Int) (a1_2 : Int) (a1_3 : Int) (a1_4 : Int) : Option ((List (S80)) × Int) := (impl_TreeOk.f k l0).bind fun t399 => (if t399 = true then ((slices_Clone_Node.f l0).bind fun t403 => ((impl_NodeAt.f k l0 l1_1).bind fun t406 => ((impl_opCode.f k l0 a1_0 l1_1 a1_2 a1_3 a1_4 t406).bind fun bt407 => (if bt407.1 = 0 then (if a1_0 = 1 then (if 0 ≤ t406 then (if t406 < (t403.length : Int) then (some ((t403.set (t406 : Int).toNat (⟨a1_2, (rd_T80 t403 t406).f1⟩ : S80)), 0)) else (none)) else (none)) else (if a1_0 = 2 then (impl_ApplyOp.l0 k l0 t403 t406 (wrap64 (t406 + 1))) else (impl_ApplyOp.l1 k l0 t403 t406 bt407.2.1 bt407.2.2 bt407.2.1 a1_0 l1_1 a1_2 a1_3 a1_4))) else (some (t403, bt407.1)))))) else (some ((([] : List (S80))), 2)))
def impl_ApplyOp.T3 : Bool × List (List Nat × List Nat) := (true, [([], []), ([0], [0]), ([], []), ([], []), ([3], [3]), ([2, 4, 1], [2, 4]), ([1, 5, 0, 1], [1]), ([5, 6, 0, 1, 2, 3, 4, 5, 6], [5])])
def impl_ApplyOp.B3 : List Nat := [0, 1, 0, 0, 8, 31, 63, 127]
theorem impl_ApplyOp.tab3 : rtab .any (opsOf Try.f51 3) = impl_ApplyOp.T3 := by kernel_rfl
theorem impl_ApplyOp.bits3 : waitsOk impl_ApplyOp.T3.2 impl_ApplyOp.B3 = true := by kernel_rfl
def impl_ApplyOp.T12 : Bool × List (List Nat × List Nat) := (true, [([], []), ([], []), ([], []), ([2], [2]), ([], []), ([], []), ([4, 5], [4, 5]), ([6], [6]), ([7], [7]), ([8], [8]), ([3, 9], [3, 9]), ([10], [10]), ([0, 1, 11], [0, 1, 11]), ([12, 12, 0, 1, 2, 3, 4, 5, 6, 7, 8, 9, 10, 11, 12], [0, 12])])
def impl_ApplyOp.B12 : List Nat := [0, 0, 0, 4, 0, 0, 48, 112, 240, 496, 1020, 2044, 4095, 8191]
theorem impl_ApplyOp.tab12 : rtab .any (opsOf Try.f51 12) = impl_ApplyOp.T12 := by kernel_rfl
theorem impl_ApplyOp.bits12 : waitsOk impl_ApplyOp.T12.2 impl_ApplyOp.B12 = true := by kernel_rfl
set_option maxHeartbeats 8000000 in
set_option maxRecDepth 100000 in
theorem impl_ApplyOp.calls (k : Nat) (A0 : Option Addr) (c0 : Nat) (l0 : List (S80)) (a1_0 : Int) (A1_1 : Option Addr) (c1_1 : Nat) (l1_1 : List Int) (a1_2 : Int) (a1_3 : Int) (a1_4 : Int) (r1 : List (S80)) (r2 : Int) (w : World) (hr0 : Kd.C k80 w A0 l0.length l0) (hc0 : l0.length ≤ c0) (hr1_1 : Kd.C (Kd.int .i64) w A1_1 l1_1.length l1_1) (hc1_1 : l1_1.length ≤ c1_1) (h : impl_ApplyOp.f k l0 a1_0 l1_1 a1_2 a1_3 a1_4 = some (r1, r2)) :
  Calls Try.prog 51 #[.slice A0 l0.length c0, .agg #[.int .i64 a1_0, .slice A1_1 l1_1.length c1_1, .int .i64 a1_2, .int .i64 a1_3, .int .i64 a1_4]] w fun e w' => ∃ v0_ : Value, e = .returned (.tuple #[v0_, .int .i64 r2]) ∧ Kd.R k80 80 w' w.heap.size (fun _ => True) v0_ r1 ∧ Below w.heap.size w w' := by
 have hu78 := Try.underlying78
 have hu80 := Try.underlying80
 have HR0 := Aside0.mk hr0
 have HC0 := Aside0.mk hc0
 clear hr0 hc0
 have HR1_1 := Aside0.mk hr1_1
 have HC1_1 := Aside0.mk hc1_1
 clear hr1_1 hc1_1
 have HB := Aside0.mk (Below.refl w.heap.size w)
 have H : ((impl_TreeOk.f k l0).bind fun t399 => (if t399 = true then ((slices_Clone_Node.f l0).bind fun t403 => ((impl_NodeAt.f k l0 l1_1).bind fun t406 => ((impl_opCode.f k l0 a1_0 l1_1 a1_2 a1_3 a1_4 t406).bind fun bt407 => (if bt407.1 = 0 then (if a1_0 = 1 then (if 0 ≤ t406 then (if t406 < (t403.length : Int) then (some ((t403.set (t406 : Int).toNat (⟨a1_2, (rd_T80 t403 t406).f1⟩ : S80)), 0)) else (none)) else (none)) else (if a1_0 = 2 then (impl_ApplyOp.l0 k l0 t403 t406 (wrap64 (t406 + 1))) else (impl_ApplyOp.l1 k l0 t403 t406 bt407.2.1 bt407.2.2 bt407.2.1 a1_0 l1_1 a1_2 a1_3 a1_4))) else (some (t403, bt407.1)))))) else (some ((([] : List (S80))), 2)))) = some (r1, r2) := h
 clear h
 obtain ⟨t399, A3, H⟩ := bnd_ H
 by_cases c4 : t399 = true
 ·subst c4
  replace H := ift_ H
  obtain ⟨t403, A5, H⟩ := bnd_ H
  obtain ⟨t406, A6, H⟩ := bnd_ H
  replace H := Option.bind_eq_some_iff.mp H
  obtain ⟨⟨t407, t408, t409⟩, A70, H⟩ := H
  try dsimp only at H
  have A7 := Aside0.mk A70
  clear A70
  by_cases c8 : t407 = 0
  ·rw [if_pos c8] at H
   have c8b0 : (t407 == 0) = true := beq_iff_eq.mpr c8
   have c8b1 : (t407 != 0) = false := bne_eq_false_iff_eq.mpr c8
   clear c8
   by_cases c9 : a1_0 = 1
   ·rw [if_pos c9] at H
    have c9b0 : (a1_0 == 1) = true := beq_iff_eq.mpr c9
    have c9b1 : (a1_0 != 1) = false := bne_eq_false_iff_eq.mpr c9
    clear c9
    obtain ⟨c10b0, H⟩ := ifd_ H
    obtain ⟨c11b0, H⟩ := ifd_ H
    first | ((with_reducible have hz_ := gy_ H); obtain ⟨y410, Ny410, H⟩ := hz_) | (generalize hy_ : ((t403.set (t406 : Int).toNat (⟨a1_2, (rd_T80 t403 t406).f1⟩ : S80)) : List (S80)) = y410 at H; have Ny410 := Aside0.mk hy_.symm; clear hy_)
    simp only [Option.some.injEq, Prod.mk.injEq] at H
    obtain ⟨rfl, rfl⟩ := H
    go_enter Try.func51, Try.ntmps51
    try go_wp2_with (first | ((with_reducible refine gate_dst (N := 3) rfl ?_); refine box_event ?hg (N := 3) ?hd (cs := #[.int .i64 a1_0, .slice A1_1 l1_1.length c1_1, .int .i64 a1_2, .int .i64 a1_3, .int .i64 a1_4]) (t := 78) ?hr ?_; (case hd => rfl); (case hg => rfl); (case hr => exact z9_); intro gb398 hg w13 hbox hb; have BK398 := Aside0.mk (hbox); have GW398 := Aside0.mk ((by rw [hg]; exact (below_size z0_) : w.heap.size ≤ gb398)); have GE398 := Aside0.mk ((by rw [hg]; exact (below_size z0_) : w.heap.size ≤ gb398)); replace HB := Aside0.mk (below_step z0_ hb); clear hb hbox hg) | ((with_reducible refine gate_callee (f := 50) rfl ?_); refine goesL_ (some 14) rfl rfl Try.func50 (by kernel_rfl) rfl #[.slice A0 l0.length c0] rfl z1_ ?_; (with_reducible refine (impl_TreeOk.calls k _ _ l0 true _ ?side1 ?side2 A3.out).mono ?_); (case side1 => exact z2_); (case side2 => exact HC0.out); rintro e w14 ⟨rfl, hb⟩; refine ⟨_, rfl, ?_⟩; replace BK398 := Aside0.mk (blk_below (g := gb398) (o := .cells #[.int .i64 a1_0, .slice A1_1 l1_1.length c1_1, .int .i64 a1_2, .int .i64 a1_3, .int .i64 a1_4] 78 (0, 0)) z16_ hb); replace HB := Aside0.mk (below_step z7_ hb); (try clear hb)))
    have n0_ := Aside0.mk (blk_drew BK398.out)
    have n1_ := Aside0.mk (below_drew1 HB.out)
    clear BK398
    clear HB
    have BK398 := n0_
    have HB := n1_
    clear n0_ n1_
    refine start_ (n := 8) (S := fun w' => w'.cell? ⟨gb398, 0, none⟩ = some (.int .i64 a1_0) ∧ w'.cell? ⟨gb398, 1, none⟩ = some (.slice A1_1 l1_1.length c1_1) ∧ w'.cell? ⟨gb398, 2, none⟩ = some (.int .i64 a1_2) ∧ w'.cell? ⟨gb398, 3, none⟩ = some (.int .i64 a1_3) ∧ w'.cell? ⟨gb398, 4, none⟩ = some (.int .i64 a1_4)) (ds := []) (fl_ 8 0) (by kernel_rfl) rfl (fl_zero _) ⟨(blk_cell BK398.out 0).trans rfl, (blk_cell BK398.out 1).trans rfl, (blk_cell BK398.out 2).trans rfl, (blk_cell BK398.out 3).trans rfl, (blk_cell BK398.out 4).trans rfl⟩ (fun hHeld => ?_); refine with_tabW impl_ApplyOp.tab3 impl_ApplyOp.bits3 (fun HT_ HW_ => ?_)
    generalize w14.drew = w15 at BK398 HB hHeld ⊢
    refine zp_ HT_ rfl rfl (by kernel_rfl) (fun _ _ _ h => h) (by rfl) ?_
    refine zpg_ (i := 2) (ra_ [1, 1, 1, 5]) HT_ rfl rfl (by kernel_rfl) (fun _ _ _ h => h) (by rfl) ?_
    refine zpg_ (i := 3) (ra_ [1, 1, 2, 4]) HT_ rfl rfl (by kernel_rfl) (fun _ _ _ h => h) (by rfl) ?_
    refine ztg_ (i := 4) (ra_ [1, 1, 3, 3]) HT_ HW_ rfl rfl (by kernel_rfl) (fun _ _ _ h => h) (by rfl) hHeld ?_ z141_
    refine one_ (i := 1) (N := some 18) (fl_ 8 5) rfl rfl (one_of HT_.out (by kernel_rfl)) (by decide) (fun K hK => ?_)
    refine goes_ Try.func75 (by kernel_rfl) rfl #[.slice A0 l0.length c0] (by rfl) rfl rfl z1_ ?_
    with_reducible refine (slices_Clone_Node.calls _ _ l0 t403 _ ?side1 ?side2 A5.out).mono ?_
    (case side1 => exact z2_)
    (case side2 => exact HC0.out)
    rintro e w16 ⟨v404, rfl, ho0, hb⟩
    refine ⟨_, rfl, ?_⟩
    have n0_ := Aside0.mk (Kd.R_lower ho0 (below_size z7_))
    have n1_ := Aside0.mk (blk_below (g := gb398) (o := .cells #[.int .i64 a1_0, .slice A1_1 l1_1.length c1_1, .int .i64 a1_2, .int .i64 a1_3, .int .i64 a1_4] 78 (0, 0)) z16_ hb)
    have n2_ := Aside0.mk (below_step z7_ hb)
    clear BK398
    clear HB
    have HO405 := n0_
    have BK398 := n1_
    have HB := n2_
    clear n0_ n1_ n2_
    (try clear hb)
    (try clear hb2)
    (try clear hk)
    (try clear hi)
    (try clear ho0)
    refine hK.out _ _ ⟨(blk_cell BK398.out 0).trans rfl, (blk_cell BK398.out 1).trans rfl, (blk_cell BK398.out 2).trans rfl, (blk_cell BK398.out 3).trans rfl, (blk_cell BK398.out 4).trans rfl⟩ (fun hHeld => ?_)
    clear hK K
    refine zn_ rfl ?_
    refine one_ (i := 5) (N := some 22) (fl_ 8 6) rfl rfl (one_of HT_.out (by kernel_rfl)) (by decide) (fun K hK => ?_)
    refine goes_ Try.func78 (by kernel_rfl) rfl #[.slice A0 l0.length c0, .slice A1_1 l1_1.length c1_1] (by rfl) rfl rfl z1_ ?_
    with_reducible refine (impl_NodeAt.calls k _ _ l0 _ _ l1_1 t406 _ ?side1 ?side2 ?side3 ?side4 A6.out).mono ?_
    (case side1 => exact z2_)
    (case side2 => exact HC0.out)
    (case side3 => exact z14_)
    (case side4 => exact HC1_1.out)
    rintro e w17 ⟨rfl, hb⟩
    refine ⟨_, rfl, ?_⟩
    have n0_ := Aside0.mk (Kd.R_below z45_ hb)
    have n1_ := Aside0.mk (blk_below (g := gb398) (o := .cells #[.int .i64 a1_0, .slice A1_1 l1_1.length c1_1, .int .i64 a1_2, .int .i64 a1_3, .int .i64 a1_4] 78 (0, 0)) z16_ hb)
    have n2_ := Aside0.mk (below_step z7_ hb)
    clear HO405
    clear BK398
    clear HB
    have HO405 := n0_
    have BK398 := n1_
    have HB := n2_
    clear n0_ n1_ n2_
    (try clear hb)
    (try clear hb2)
    (try clear hk)
    (try clear hi)
    refine hK.out _ _ ⟨(blk_cell BK398.out 0).trans rfl, (blk_cell BK398.out 1).trans rfl, (blk_cell BK398.out 2).trans rfl, (blk_cell BK398.out 3).trans rfl, (blk_cell BK398.out 4).trans rfl⟩ (fun hHeld => ?_)
    clear hK K
    refine zn_ rfl ?_
    iterate 2 refine zp_ HT_ rfl rfl (by kernel_rfl) (fun _ _ _ h => h) (by rfl) ?_
    refine done_ (done_of HT_.out (by kernel_rfl)) ?_
    obtain ⟨hcz18_0, hcz18_1, hcz18_2, hcz18_3, hcz18_4, hfz18_0, hfz18_1, hfz18_2, hfz18_3, hfz18_4⟩ := bx5_ BK398.out
    try go_wp2_with (first | ((with_reducible refine gate_callee (f := 96) rfl ?_); refine goesL_ (some 27) rfl rfl Try.func96 (by kernel_rfl) rfl #[.slice A0 l0.length c0, .agg #[.int .i64 a1_0, .slice A1_1 l1_1.length c1_1, .int .i64 a1_2, .int .i64 a1_3, .int .i64 a1_4], .int .i64 t406] rfl z1_ ?_; (with_reducible refine (impl_opCode.calls k _ _ l0 a1_0 _ _ l1_1 a1_2 a1_3 a1_4 t406 t407 t408 t409 _ ?side1 ?side2 ?side3 ?side4 A7.out).mono ?_); (case side1 => exact z2_); (case side2 => exact HC0.out); (case side3 => exact z14_); (case side4 => exact HC1_1.out); rintro e w19 ⟨rfl, hb⟩; refine ⟨_, rfl, ?_⟩; replace HO405 := Aside0.mk (Kd.R_below z45_ hb); replace BK398 := Aside0.mk (blk_below (g := gb398) (o := .cells #[.int .i64 a1_0, .slice A1_1 l1_1.length c1_1, .int .i64 a1_2, .int .i64 a1_3, .int .i64 a1_4] 78 (0, 0)) z16_ hb); replace HB := Aside0.mk (below_step z7_ hb); (try clear hb); obtain ⟨hcz20_0, hcz20_1, hcz20_2, hcz20_3, hcz20_4, hfz20_0, hfz20_1, hfz20_2, hfz20_3, hfz20_4⟩ := bx5_ BK398.out; have p12 : 0 ≤ (t406 : Int) := odt_; have q12 : (t406 : Int) < ((t403.length : Int) : Int) := odt_; obtain ⟨go12, co12, eo12, gb12, gl12, cl12, HG12⟩ := Kd.R_form HO405.out (by omega); (first | cases eo12 | (injection eo12 with ea_ en_ ec_; (first | subst ea_ | (injection ea_ with ea_; subst ea_)); subst ec_; clear en_)); have GB12 := Aside0.mk gb12; have GG12 := Aside0.mk HG12; clear gb12 gl12 HG12; obtain ⟨ce12, hcl12, hM12, hcc12, hfr12⟩ := Kd.R_elem HO405.out z80 (t406 : Int) p12 q12; obtain rfl := k80_openM hM12; have hx12_0 : w19.cell? ⟨go12, (t406 : Int).toNat * 2, none⟩ = some (.int .i64 ((rd_T80 t403 t406).f0)) := hcc12 0 _ rfl; have hx12_1 : w19.cell? ⟨go12, (t406 : Int).toNat * 2 + 1, none⟩ = some (.int .i64 ((rd_T80 t403 t406).f1)) := hcc12 1 _ rfl; have hf12_0 : w19.frozen? ⟨go12, (t406 : Int).toNat * 2, none⟩ = false := hfr12 0; have hf12_1 : w19.frozen? ⟨go12, (t406 : Int).toNat * 2 + 1, none⟩ = false := hfr12 1; clear hcl12 hcc12 hfr12 hM12; replace p12 := eq_true p12; replace q12 := eq_true q12; have HX21 := Aside0.mk (show Kd.R k80 80 w19 w.heap.size (fun _ => True) (.slice (some ⟨go12, 0, none⟩) t403.length co12) t403 from z45_); obtain ⟨ce21, hcl21, hM21, hcc21, hfr21⟩ := Kd.R_elem HX21.out z80 (t406 : Int) (odt_) (by have h_ : (t406 : Int) < ((t403.length : Int) : Int) := odt_; first | exact h_ | (have e_ := (Kd.R_reads' HO405.out).1; omega) | simpa using h_); obtain rfl := k80_openM hM21; have HP21 := Kd.R_seg HX21.out (t406 : Int) (odt_) (by have h_ : (t406 : Int) < ((t403.length : Int) : Int) := odt_; first | exact h_ | (have e_ := (Kd.R_reads' HO405.out).1; omega) | simpa using h_) (seg := [.int .i64 a1_2]) (j := 0) hcl21 hcc21 (show 1 ≤ 2 from by decide) (x' := (⟨a1_2, (rd_T80 t403 t406).f1⟩ : S80)) (k80_mkM _ _ _ (⟨a1_2, (rd_T80 t403 t406).f1⟩ : S80) ) (fun _ hk => hk); have hx21_0 := hcc21 0 _ rfl; (try simp only [show (k80).sz = 2 from rfl, Nat.mul_one, Nat.add_zero] at hx21_0); have hf21_0 := hfr21 0; (try simp only [show (k80).sz = 2 from rfl, Nat.mul_one, Nat.add_zero] at hf21_0); clear hcl21 hcc21 hfr21 hM21) | ((with_reducible refine gate_store (t := 3) (p := 71) rfl ?_); refine store_event (t := 3) (p := 71) (v := ?vo_w22) (w1 := (w19.setCell ⟨go12, (t406 : Int).toNat * 2, none⟩ (.int .i64 a1_2))) ?hg ?ho ?hn ?hr ?_; (case ho => rfl); (case hg => rfl); (case hn => rfl); (case hr => exact z9_); intro w22 hw; have hg : w19.grownBy w22 (some go12) := (by rw [hw]; exact HP21.2); have hp_ : Kd.R k80 80 w22 w.heap.size (fun _ => True) (.slice (some ⟨go12, 0, none⟩) t403.length co12) y410 := (by rw [hw, Ny410.out]; exact HP21.1); clear HP21; replace BK398 := Aside0.mk (blk_grown (g := gb398) (o := .cells #[.int .i64 a1_0, .slice A1_1 l1_1.length c1_1, .int .i64 a1_2, .int .i64 a1_3, .int .i64 a1_4] 78 (0, 0)) z16_ hg (Kd.R_ne HO405.out BK398.out (by decide))); replace HO405 := Aside0.mk (hp_); replace HB := Aside0.mk ((by rw [hw]; exact below_set (HB.out) GB12.out : Below w.heap.size w w22)); clear hg hw hp_))
    go_ret2
    exact ⟨_, z3_, z45_, z7_⟩
   ·rw [if_neg c9] at H
    have c9b0 : (a1_0 == 1) = false := beq_eq_false_iff_ne.mpr c9
    have c9b1 : (a1_0 != 1) = true := bne_iff_ne.mpr c9
    by_cases c23 : a1_0 = 2
    ·rw [if_pos c23] at H
     have c23b0 : (a1_0 == 2) = true := beq_iff_eq.mpr c23
     have c23b1 : (a1_0 != 2) = false := bne_eq_false_iff_eq.mpr c23
     clear c23
     have H' := Aside0.mk H
     clear H
     go_enter Try.func51, Try.ntmps51
     try go_wp2_with (first | ((with_reducible refine gate_dst (N := 3) rfl ?_); refine box_event ?hg (N := 3) ?hd (cs := #[.int .i64 a1_0, .slice A1_1 l1_1.length c1_1, .int .i64 a1_2, .int .i64 a1_3, .int .i64 a1_4]) (t := 78) ?hr ?_; (case hd => rfl); (case hg => rfl); (case hr => exact z9_); intro gb398 hg w24 hbox hb; have BK398 := Aside0.mk (hbox); have GW398 := Aside0.mk ((by rw [hg]; exact (below_size z0_) : w.heap.size ≤ gb398)); have GE398 := Aside0.mk ((by rw [hg]; exact (below_size z0_) : w.heap.size ≤ gb398)); replace HB := Aside0.mk (below_step z0_ hb); clear hb hbox hg) | ((with_reducible refine gate_callee (f := 50) rfl ?_); refine goesL_ (some 14) rfl rfl Try.func50 (by kernel_rfl) rfl #[.slice A0 l0.length c0] rfl z1_ ?_; (with_reducible refine (impl_TreeOk.calls k _ _ l0 true _ ?side1 ?side2 A3.out).mono ?_); (case side1 => exact z2_); (case side2 => exact HC0.out); rintro e w25 ⟨rfl, hb⟩; refine ⟨_, rfl, ?_⟩; replace BK398 := Aside0.mk (blk_below (g := gb398) (o := .cells #[.int .i64 a1_0, .slice A1_1 l1_1.length c1_1, .int .i64 a1_2, .int .i64 a1_3, .int .i64 a1_4] 78 (0, 0)) z16_ hb); replace HB := Aside0.mk (below_step z7_ hb); (try clear hb)))
     have n0_ := Aside0.mk (blk_drew BK398.out)
     have n1_ := Aside0.mk (below_drew1 HB.out)
     clear BK398
     clear HB
     have BK398 := n0_
     have HB := n1_
     clear n0_ n1_
     refine start_ (n := 8) (S := fun w' => w'.cell? ⟨gb398, 0, none⟩ = some (.int .i64 a1_0) ∧ w'.cell? ⟨gb398, 1, none⟩ = some (.slice A1_1 l1_1.length c1_1) ∧ w'.cell? ⟨gb398, 2, none⟩ = some (.int .i64 a1_2) ∧ w'.cell? ⟨gb398, 3, none⟩ = some (.int .i64 a1_3) ∧ w'.cell? ⟨gb398, 4, none⟩ = some (.int .i64 a1_4)) (ds := []) (fl_ 8 0) (by kernel_rfl) rfl (fl_zero _) ⟨(blk_cell BK398.out 0).trans rfl, (blk_cell BK398.out 1).trans rfl, (blk_cell BK398.out 2).trans rfl, (blk_cell BK398.out 3).trans rfl, (blk_cell BK398.out 4).trans rfl⟩ (fun hHeld => ?_); refine with_tabW impl_ApplyOp.tab3 impl_ApplyOp.bits3 (fun HT_ HW_ => ?_)
     generalize w25.drew = w26 at BK398 HB hHeld ⊢
     refine zp_ HT_ rfl rfl (by kernel_rfl) (fun _ _ _ h => h) (by rfl) ?_
     refine zpg_ (i := 2) (ra_ [1, 1, 1, 5]) HT_ rfl rfl (by kernel_rfl) (fun _ _ _ h => h) (by rfl) ?_
     refine zpg_ (i := 3) (ra_ [1, 1, 2, 4]) HT_ rfl rfl (by kernel_rfl) (fun _ _ _ h => h) (by rfl) ?_
     refine ztg_ (i := 4) (ra_ [1, 1, 3, 3]) HT_ HW_ rfl rfl (by kernel_rfl) (fun _ _ _ h => h) (by rfl) hHeld ?_ z141_
     refine one_ (i := 1) (N := some 18) (fl_ 8 5) rfl rfl (one_of HT_.out (by kernel_rfl)) (by decide) (fun K hK => ?_)
     refine goes_ Try.func75 (by kernel_rfl) rfl #[.slice A0 l0.length c0] (by rfl) rfl rfl z1_ ?_
     with_reducible refine (slices_Clone_Node.calls _ _ l0 t403 _ ?side1 ?side2 A5.out).mono ?_
     (case side1 => exact z2_)
     (case side2 => exact HC0.out)
     rintro e w27 ⟨v404, rfl, ho0, hb⟩
     refine ⟨_, rfl, ?_⟩
     have n0_ := Aside0.mk (Kd.R_lower ho0 (below_size z7_))
     have n1_ := Aside0.mk (blk_below (g := gb398) (o := .cells #[.int .i64 a1_0, .slice A1_1 l1_1.length c1_1, .int .i64 a1_2, .int .i64 a1_3, .int .i64 a1_4] 78 (0, 0)) z16_ hb)
     have n2_ := Aside0.mk (below_step z7_ hb)
     clear BK398
     clear HB
     have HO405 := n0_
     have BK398 := n1_
     have HB := n2_
     clear n0_ n1_ n2_
     (try clear hb)
     (try clear hb2)
     (try clear hk)
     (try clear hi)
     (try clear ho0)
     refine hK.out _ _ ⟨(blk_cell BK398.out 0).trans rfl, (blk_cell BK398.out 1).trans rfl, (blk_cell BK398.out 2).trans rfl, (blk_cell BK398.out 3).trans rfl, (blk_cell BK398.out 4).trans rfl⟩ (fun hHeld => ?_)
     clear hK K
     refine zn_ rfl ?_
     refine one_ (i := 5) (N := some 22) (fl_ 8 6) rfl rfl (one_of HT_.out (by kernel_rfl)) (by decide) (fun K hK => ?_)
     refine goes_ Try.func78 (by kernel_rfl) rfl #[.slice A0 l0.length c0, .slice A1_1 l1_1.length c1_1] (by rfl) rfl rfl z1_ ?_
     with_reducible refine (impl_NodeAt.calls k _ _ l0 _ _ l1_1 t406 _ ?side1 ?side2 ?side3 ?side4 A6.out).mono ?_
     (case side1 => exact z2_)
     (case side2 => exact HC0.out)
     (case side3 => exact z14_)
     (case side4 => exact HC1_1.out)
     rintro e w28 ⟨rfl, hb⟩
     refine ⟨_, rfl, ?_⟩
     have n0_ := Aside0.mk (Kd.R_below z45_ hb)
     have n1_ := Aside0.mk (blk_below (g := gb398) (o := .cells #[.int .i64 a1_0, .slice A1_1 l1_1.length c1_1, .int .i64 a1_2, .int .i64 a1_3, .int .i64 a1_4] 78 (0, 0)) z16_ hb)
     have n2_ := Aside0.mk (below_step z7_ hb)
     clear HO405
     clear BK398
     clear HB
     have HO405 := n0_
     have BK398 := n1_
     have HB := n2_
     clear n0_ n1_ n2_
     (try clear hb)
     (try clear hb2)
     (try clear hk)
     (try clear hi)
     refine hK.out _ _ ⟨(blk_cell BK398.out 0).trans rfl, (blk_cell BK398.out 1).trans rfl, (blk_cell BK398.out 2).trans rfl, (blk_cell BK398.out 3).trans rfl, (blk_cell BK398.out 4).trans rfl⟩ (fun hHeld => ?_)
     clear hK K
     refine zn_ rfl ?_
     iterate 2 refine zp_ HT_ rfl rfl (by kernel_rfl) (fun _ _ _ h => h) (by rfl) ?_
     refine done_ (done_of HT_.out (by kernel_rfl)) ?_
     obtain ⟨hcz29_0, hcz29_1, hcz29_2, hcz29_3, hcz29_4, hfz29_0, hfz29_1, hfz29_2, hfz29_3, hfz29_4⟩ := bx5_ BK398.out
     try go_wp2_with (first | ((with_reducible refine gate_callee (f := 96) rfl ?_); refine goesL_ (some 27) rfl rfl Try.func96 (by kernel_rfl) rfl #[.slice A0 l0.length c0, .agg #[.int .i64 a1_0, .slice A1_1 l1_1.length c1_1, .int .i64 a1_2, .int .i64 a1_3, .int .i64 a1_4], .int .i64 t406] rfl z1_ ?_; (with_reducible refine (impl_opCode.calls k _ _ l0 a1_0 _ _ l1_1 a1_2 a1_3 a1_4 t406 t407 t408 t409 _ ?side1 ?side2 ?side3 ?side4 A7.out).mono ?_); (case side1 => exact z2_); (case side2 => exact HC0.out); (case side3 => exact z14_); (case side4 => exact HC1_1.out); rintro e w30 ⟨rfl, hb⟩; refine ⟨_, rfl, ?_⟩; replace HO405 := Aside0.mk (Kd.R_below z45_ hb); replace BK398 := Aside0.mk (blk_below (g := gb398) (o := .cells #[.int .i64 a1_0, .slice A1_1 l1_1.length c1_1, .int .i64 a1_2, .int .i64 a1_3, .int .i64 a1_4] 78 (0, 0)) z16_ hb); replace HB := Aside0.mk (below_step z7_ hb); (try clear hb); obtain ⟨hcz31_0, hcz31_1, hcz31_2, hcz31_3, hcz31_4, hfz31_0, hfz31_1, hfz31_2, hfz31_3, hfz31_4⟩ := bx5_ BK398.out))
     go_loopg [11] k (fun kq v11 w' => ∃ (x6_1 : List (S80)) (x11_1 : Int), v11 = .int .i64 x11_1 ∧ Aside0 (impl_ApplyOp.l0 kq l0 x6_1 t406 x11_1 = some (r1, r2)) ∧ Aside0 (kq ≤ k) ∧ Aside0 (Kd.R k80 80 w' w.heap.size (fun _ => True) v404 x6_1) ∧ Aside0 (w'.heap[gb398]? = some (.cells #[.int .i64 a1_0, (.slice A1_1 l1_1.length c1_1), .int .i64 a1_2, .int .i64 a1_3, .int .i64 a1_4] 78 (0, 0))) ∧ Aside0 (Below w.heap.size w w'))
     case atStart => exact ⟨(t403), (wrap64 (t406 + 1)), z5_, H', ⟨Nat.le_refl _⟩, ⟨z45_⟩, ⟨z16_⟩, ⟨z7_⟩⟩
     case round =>
      clear H'
      try clear c1
      try clear p1
      try clear q1
      try clear hx1
      try clear c2
      try clear p2
      try clear hx2
      try clear hf2
      try clear c4
      try clear c5
      try clear p6
      try clear c7
      try clear c8
      try clear c8b0
      try clear c8b1
      try clear c9
      try clear c9b0
      try clear c9b1
      try clear c10
      try clear c10b0
      try clear c11
      try clear c11b0
      try clear c12
      try clear p12
      try clear q12
      try clear hx12
      try clear hf12
      try clear c21
      try clear hx21
      try clear hf21
      try clear c23
      try clear c23b0
      try clear c23b1
      try clear hcz18_0
      try clear hcz18_1
      try clear hcz18_2
      try clear hcz18_3
      try clear hcz18_4
      try clear hcz20_0
      try clear hcz20_1
      try clear hcz20_2
      try clear hcz20_3
      try clear hcz20_4
      try clear hcz29_0
      try clear hcz29_1
      try clear hcz29_2
      try clear hcz29_3
      try clear hcz29_4
      try clear hcz31_0
      try clear hcz31_1
      try clear hcz31_2
      try clear hcz31_3
      try clear hcz31_4
      try clear hfz18_0
      try clear hfz18_1
      try clear hfz18_2
      try clear hfz18_3
      try clear hfz18_4
      try clear hfz20_0
      try clear hfz20_1
      try clear hfz20_2
      try clear hfz20_3
      try clear hfz20_4
      try clear hfz29_0
      try clear hfz29_1
      try clear hfz29_2
      try clear hfz29_3
      try clear hfz29_4
      try clear hfz31_0
      try clear hfz31_1
      try clear hfz31_2
      try clear hfz31_3
      try clear hfz31_4
      try clear hx12_0
      try clear hx12_1
      try clear hx21_0
      try clear p12
      try clear q12
      obtain ⟨x6_1, x11_1, rfl, HA, HK1, HO_6, BK398, HB⟩ := hrel
      cases gk with
      | zero => exact absurd HA.out (by simp [impl_ApplyOp.l0])
      | succ k1 =>
       have H := HA.out
       clear HA
       simp only [impl_ApplyOp.l0] at H
       obtain ⟨t411, A32, H⟩ := bnd_ H
       by_cases c33 : x11_1 < t411
       ·rw [if_pos c33] at H
        have c33b0 := decide_eq_true c33
        clear c33
        obtain ⟨c34b0, H⟩ := ifd_ H
        obtain ⟨c35b0, H⟩ := ifd_ H
        first | ((with_reducible have hz_ := gy_ H); obtain ⟨y413, Ny413, H⟩ := hz_) | (generalize hy_ : ((x6_1.set (x11_1 : Int).toNat (⟨(rd_T80 x6_1 x11_1).f0, wrap64 (((rd_T80 x6_1 x11_1).f1) - 1)⟩ : S80)) : List (S80)) = y413 at H; have Ny413 := Aside0.mk hy_.symm; clear hy_)
        have H' := Aside0.mk H
        clear H
        go_wp2_with (first | ((with_reducible refine gate_callee (f := 97) rfl ?_); refine goesL_ (some 79) rfl rfl Try.func97 (by kernel_rfl) rfl #[.slice A0 l0.length c0, .int .i64 t406] rfl z1_ ?_; (with_reducible refine (impl_endOf.calls k1 _ _ l0 t406 t411 _ ?side1 ?side2 A32.out).mono ?_); (case side1 => exact z2_); (case side2 => exact HC0.out); rintro e w' ⟨rfl, ⟨nd, rfl⟩⟩; refine ⟨_, rfl, ?_⟩; (try (rw [drewN_self wr]; generalize hq_ : World.drewN wr _ = wr; have n0_ : Aside0 (Kd.R k80 80 wr w.heap.size (fun _ => True) v404 x6_1) := ⟨by rw [← hq_]; exact z67_⟩; have n1_ : Aside0 (wr.heap[gb398]? = some (.cells #[.int .i64 a1_0, .slice A1_1 l1_1.length c1_1, .int .i64 a1_2, .int .i64 a1_3, .int .i64 a1_4] 78 (0, 0))) := ⟨by rw [← hq_]; exact z16_⟩; have n2_ : Aside0 (Below w.heap.size w wr) := ⟨by rw [← hq_]; exact z7_⟩; clear HO_6 BK398 HB hq_; have HO_6 := n0_; have BK398 := n1_; have HB := n2_; clear n0_ n1_ n2_)); obtain ⟨Ao37, co37, eo37⟩ := Kd.R_slice HO_6.out; subst eo37; have p412 : 0 ≤ (x11_1 : Int) := odt_; have q412 : x11_1 < (x6_1.length : Int) := odt_; obtain ⟨ad412, e412, hx412_0, hx412_1⟩ := at_T80 (Kd.R_reads' HO_6.out).2.2 x11_1 p412 q412; cases e412; replace p412 := eq_true p412; replace q412 := eq_true q412; have p36 : 0 ≤ (x11_1 : Int) := odt_; have q36 : (x11_1 : Int) < ((x6_1.length : Int) : Int) := odt_; obtain ⟨go36, co36, eo36, gb36, gl36, cl36, HG36⟩ := Kd.R_form HO_6.out (by omega); (first | cases eo36 | (injection eo36 with ea_ en_ ec_; (first | subst ea_ | (injection ea_ with ea_; subst ea_)); subst ec_; clear en_)); have GB36 := Aside0.mk gb36; have GG36 := Aside0.mk HG36; clear gb36 gl36 HG36; (first | simp only [add_plain] at hx412_0 | skip); (first | simp only [add_plain] at hx412_1 | skip); obtain ⟨ce36, hcl36, hM36, hcc36, hfr36⟩ := Kd.R_elem HO_6.out z80 (x11_1 : Int) p36 q36; obtain rfl := k80_openM hM36; have hx36_0 : wr.cell? ⟨go36, (x11_1 : Int).toNat * 2, none⟩ = some (.int .i64 ((rd_T80 x6_1 x11_1).f0)) := hcc36 0 _ rfl; have hx36_1 : wr.cell? ⟨go36, (x11_1 : Int).toNat * 2 + 1, none⟩ = some (.int .i64 ((rd_T80 x6_1 x11_1).f1)) := hcc36 1 _ rfl; have hf36_0 : wr.frozen? ⟨go36, (x11_1 : Int).toNat * 2, none⟩ = false := hfr36 0; have hf36_1 : wr.frozen? ⟨go36, (x11_1 : Int).toNat * 2 + 1, none⟩ = false := hfr36 1; clear hcl36 hcc36 hfr36 hM36; replace p36 := eq_true p36; replace q36 := eq_true q36; have HX38 := Aside0.mk (show Kd.R k80 80 wr w.heap.size (fun _ => True) (.slice (some ⟨go36, 0, none⟩) x6_1.length co37) x6_1 from z67_); obtain ⟨ce38, hcl38, hM38, hcc38, hfr38⟩ := Kd.R_elem HX38.out z80 (x11_1 : Int) (odt_) (by have h_ : (x11_1 : Int) < ((x6_1.length : Int) : Int) := odt_; first | exact h_ | (have e_ := (Kd.R_reads' HO_6.out).1; omega) | simpa using h_); obtain rfl := k80_openM hM38; have HP38 := Kd.R_seg HX38.out (x11_1 : Int) (odt_) (by have h_ : (x11_1 : Int) < ((x6_1.length : Int) : Int) := odt_; first | exact h_ | (have e_ := (Kd.R_reads' HO_6.out).1; omega) | simpa using h_) (seg := [.int .i64 (wrap64 (((rd_T80 x6_1 x11_1).f1) - 1))]) (j := 1) hcl38 hcc38 (show 2 ≤ 2 from by decide) (x' := (⟨(rd_T80 x6_1 x11_1).f0, wrap64 (((rd_T80 x6_1 x11_1).f1) - 1)⟩ : S80)) (k80_mkM _ _ _ (⟨(rd_T80 x6_1 x11_1).f0, wrap64 (((rd_T80 x6_1 x11_1).f1) - 1)⟩ : S80) ) (fun _ hk => hk); have hx38_1 := hcc38 1 _ rfl; (try simp only [show (k80).sz = 2 from rfl, Nat.mul_one, Nat.add_zero] at hx38_1); have hf38_1 := hfr38 1; (try simp only [show (k80).sz = 2 from rfl, Nat.mul_one, Nat.add_zero] at hf38_1); clear hcl38 hcc38 hfr38 hM38) | ((with_reducible refine gate_store (t := 3) (p := 90) rfl ?_); refine store_event (t := 3) (p := 90) (v := ?vo_w39) (w1 := (wr.setCell ⟨go36, (x11_1 : Int).toNat * 2 + 1, none⟩ (.int .i64 (wrap64 (((rd_T80 x6_1 x11_1).f1) - 1))))) ?hg ?ho ?hn ?hr ?_; (case ho => rfl); (case hg => rfl); (case hn => rfl); (case hr => exact z9_); intro w39 hw; have hg : wr.grownBy w39 (some go36) := (by rw [hw]; exact HP38.2); have hp_ : Kd.R k80 80 w39 w.heap.size (fun _ => True) (.slice (some ⟨go36, 0, none⟩) x6_1.length co37) y413 := (by rw [hw, Ny413.out]; exact HP38.1); clear HP38; replace BK398 := Aside0.mk (blk_grown (g := gb398) (o := .cells #[.int .i64 a1_0, .slice A1_1 l1_1.length c1_1, .int .i64 a1_2, .int .i64 a1_3, .int .i64 a1_4] 78 (0, 0)) z16_ hg (Kd.R_ne HO_6.out BK398.out (by decide))); replace HO_6 := Aside0.mk (hp_); replace HB := Aside0.mk ((by rw [hw]; exact below_set (HB.out) GB36.out : Below w.heap.size w w39)); clear hg hw hp_))
        go_roundg k1
        case measure => have := HK1.out; omega
        case rel => exact ⟨(y413), (wrap64 (x11_1 + 1)), z5_, H', ⟨z66_⟩, ⟨z67_⟩, ⟨z16_⟩, ⟨z7_⟩⟩
       ·rw [if_neg c33] at H
        have c33b0 := decide_eq_false c33
        clear c33
        obtain ⟨t414, A40, H⟩ := bnd_ H
        simp only [Option.some.injEq, Prod.mk.injEq] at H
        obtain ⟨rfl, rfl⟩ := H
        go_wp2_with (first | ((with_reducible refine gate_callee (f := 97) rfl ?_); refine goesL_ (some 79) rfl rfl Try.func97 (by kernel_rfl) rfl #[.slice A0 l0.length c0, .int .i64 t406] rfl z1_ ?_; (with_reducible refine (impl_endOf.calls k1 _ _ l0 t406 t411 _ ?side1 ?side2 A32.out).mono ?_); (case side1 => exact z2_); (case side2 => exact HC0.out); rintro e w' ⟨rfl, ⟨nd, rfl⟩⟩; refine ⟨_, rfl, ?_⟩; obtain ⟨Ao41, co41, eo41⟩ := Kd.R_slice HO_6.out; subst eo41) | ((with_reducible refine gate_callee (f := 98) rfl ?_); refine goesL_ (some 95) rfl rfl Try.func98 (by kernel_rfl) rfl #[.slice Ao41 x6_1.length co41, .int .i64 t406, .int .i64 (wrap64 (t406 + 1))] rfl z1_ ?_; (with_reducible refine (slices_Delete_Node.calls (fun k_ => some k_ = (.slice Ao41 x6_1.length co41 : Value).ownBlock) (.slice Ao41 x6_1.length co41) x6_1 t406 (wrap64 (t406 + 1)) t414 w _ ?side1 ?side2 A40.out).mono ?_); (case side1 => exact z7_); (case side2 => exact Kd.R_tight rfl HO_6.out); rintro e w42 ⟨v415, rfl, ho0, hb, hkp⟩; refine ⟨_, rfl, ?_⟩; replace BK398 := Aside0.mk (blk_kept z16_ hkp (fun hs_ => (fun e_ => (Kd.R_ne HO_6.out BK398.out (by decide)) e_) hs_)); have HO416 := Aside0.mk (Kd.R_mono (ok' := fun k_ => True) ho0 (fun k_ hk_ => trivial)); replace HB := Aside0.mk (hb); clear HO_6; (try clear hb hkp ho0)))
        go_ret2
        exact ⟨_, z3_, by (with_reducible repeat (first | apply Kd.R_alloc | apply Kd.R_drewN | apply Kd.R_drew)); exact HO416.out, z7_⟩
    ·rw [if_neg c23] at H
     have c23b0 : (a1_0 == 2) = false := beq_eq_false_iff_ne.mpr c23
     have c23b1 : (a1_0 != 2) = true := bne_iff_ne.mpr c23
     have H' := Aside0.mk H
     clear H
     go_enter Try.func51, Try.ntmps51
     try go_wp2_with (first | ((with_reducible refine gate_dst (N := 3) rfl ?_); refine box_event ?hg (N := 3) ?hd (cs := #[.int .i64 a1_0, .slice A1_1 l1_1.length c1_1, .int .i64 a1_2, .int .i64 a1_3, .int .i64 a1_4]) (t := 78) ?hr ?_; (case hd => rfl); (case hg => rfl); (case hr => exact z9_); intro gb398 hg w43 hbox hb; have BK398 := Aside0.mk (hbox); have GW398 := Aside0.mk ((by rw [hg]; exact (below_size z0_) : w.heap.size ≤ gb398)); have GE398 := Aside0.mk ((by rw [hg]; exact (below_size z0_) : w.heap.size ≤ gb398)); replace HB := Aside0.mk (below_step z0_ hb); clear hb hbox hg) | ((with_reducible refine gate_callee (f := 50) rfl ?_); refine goesL_ (some 14) rfl rfl Try.func50 (by kernel_rfl) rfl #[.slice A0 l0.length c0] rfl z1_ ?_; (with_reducible refine (impl_TreeOk.calls k _ _ l0 true _ ?side1 ?side2 A3.out).mono ?_); (case side1 => exact z2_); (case side2 => exact HC0.out); rintro e w44 ⟨rfl, hb⟩; refine ⟨_, rfl, ?_⟩; replace BK398 := Aside0.mk (blk_below (g := gb398) (o := .cells #[.int .i64 a1_0, .slice A1_1 l1_1.length c1_1, .int .i64 a1_2, .int .i64 a1_3, .int .i64 a1_4] 78 (0, 0)) z16_ hb); replace HB := Aside0.mk (below_step z7_ hb); (try clear hb)))
     have n0_ := Aside0.mk (blk_drew BK398.out)
     have n1_ := Aside0.mk (below_drew1 HB.out)
     clear BK398
     clear HB
     have BK398 := n0_
     have HB := n1_
     clear n0_ n1_
     refine start_ (n := 8) (S := fun w' => w'.cell? ⟨gb398, 0, none⟩ = some (.int .i64 a1_0) ∧ w'.cell? ⟨gb398, 1, none⟩ = some (.slice A1_1 l1_1.length c1_1) ∧ w'.cell? ⟨gb398, 2, none⟩ = some (.int .i64 a1_2) ∧ w'.cell? ⟨gb398, 3, none⟩ = some (.int .i64 a1_3) ∧ w'.cell? ⟨gb398, 4, none⟩ = some (.int .i64 a1_4)) (ds := []) (fl_ 8 0) (by kernel_rfl) rfl (fl_zero _) ⟨(blk_cell BK398.out 0).trans rfl, (blk_cell BK398.out 1).trans rfl, (blk_cell BK398.out 2).trans rfl, (blk_cell BK398.out 3).trans rfl, (blk_cell BK398.out 4).trans rfl⟩ (fun hHeld => ?_); refine with_tabW impl_ApplyOp.tab3 impl_ApplyOp.bits3 (fun HT_ HW_ => ?_)
     generalize w44.drew = w45 at BK398 HB hHeld ⊢
     refine zp_ HT_ rfl rfl (by kernel_rfl) (fun _ _ _ h => h) (by rfl) ?_
     refine zpg_ (i := 2) (ra_ [1, 1, 1, 5]) HT_ rfl rfl (by kernel_rfl) (fun _ _ _ h => h) (by rfl) ?_
     refine zpg_ (i := 3) (ra_ [1, 1, 2, 4]) HT_ rfl rfl (by kernel_rfl) (fun _ _ _ h => h) (by rfl) ?_
     refine ztg_ (i := 4) (ra_ [1, 1, 3, 3]) HT_ HW_ rfl rfl (by kernel_rfl) (fun _ _ _ h => h) (by rfl) hHeld ?_ z141_
     refine one_ (i := 1) (N := some 18) (fl_ 8 5) rfl rfl (one_of HT_.out (by kernel_rfl)) (by decide) (fun K hK => ?_)
     refine goes_ Try.func75 (by kernel_rfl) rfl #[.slice A0 l0.length c0] (by rfl) rfl rfl z1_ ?_
     with_reducible refine (slices_Clone_Node.calls _ _ l0 t403 _ ?side1 ?side2 A5.out).mono ?_
     (case side1 => exact z2_)
     (case side2 => exact HC0.out)
     rintro e w46 ⟨v404, rfl, ho0, hb⟩
     refine ⟨_, rfl, ?_⟩
     have n0_ := Aside0.mk (Kd.R_lower ho0 (below_size z7_))
     have n1_ := Aside0.mk (blk_below (g := gb398) (o := .cells #[.int .i64 a1_0, .slice A1_1 l1_1.length c1_1, .int .i64 a1_2, .int .i64 a1_3, .int .i64 a1_4] 78 (0, 0)) z16_ hb)
     have n2_ := Aside0.mk (below_step z7_ hb)
     clear BK398
     clear HB
     have HO405 := n0_
     have BK398 := n1_
     have HB := n2_
     clear n0_ n1_ n2_
     (try clear hb)
     (try clear hb2)
     (try clear hk)
     (try clear hi)
     (try clear ho0)
     refine hK.out _ _ ⟨(blk_cell BK398.out 0).trans rfl, (blk_cell BK398.out 1).trans rfl, (blk_cell BK398.out 2).trans rfl, (blk_cell BK398.out 3).trans rfl, (blk_cell BK398.out 4).trans rfl⟩ (fun hHeld => ?_)
     clear hK K
     refine zn_ rfl ?_
     refine one_ (i := 5) (N := some 22) (fl_ 8 6) rfl rfl (one_of HT_.out (by kernel_rfl)) (by decide) (fun K hK => ?_)
     refine goes_ Try.func78 (by kernel_rfl) rfl #[.slice A0 l0.length c0, .slice A1_1 l1_1.length c1_1] (by rfl) rfl rfl z1_ ?_
     with_reducible refine (impl_NodeAt.calls k _ _ l0 _ _ l1_1 t406 _ ?side1 ?side2 ?side3 ?side4 A6.out).mono ?_
     (case side1 => exact z2_)
     (case side2 => exact HC0.out)
     (case side3 => exact z14_)
     (case side4 => exact HC1_1.out)
     rintro e w47 ⟨rfl, hb⟩
     refine ⟨_, rfl, ?_⟩
     have n0_ := Aside0.mk (Kd.R_below z45_ hb)
     have n1_ := Aside0.mk (blk_below (g := gb398) (o := .cells #[.int .i64 a1_0, .slice A1_1 l1_1.length c1_1, .int .i64 a1_2, .int .i64 a1_3, .int .i64 a1_4] 78 (0, 0)) z16_ hb)
     have n2_ := Aside0.mk (below_step z7_ hb)
     clear HO405
     clear BK398
     clear HB
     have HO405 := n0_
     have BK398 := n1_
     have HB := n2_
     clear n0_ n1_ n2_
     (try clear hb)
     (try clear hb2)
     (try clear hk)
     (try clear hi)
     refine hK.out _ _ ⟨(blk_cell BK398.out 0).trans rfl, (blk_cell BK398.out 1).trans rfl, (blk_cell BK398.out 2).trans rfl, (blk_cell BK398.out 3).trans rfl, (blk_cell BK398.out 4).trans rfl⟩ (fun hHeld => ?_)
     clear hK K
     refine zn_ rfl ?_
     iterate 2 refine zp_ HT_ rfl rfl (by kernel_rfl) (fun _ _ _ h => h) (by rfl) ?_
     refine done_ (done_of HT_.out (by kernel_rfl)) ?_
     obtain ⟨hcz48_0, hcz48_1, hcz48_2, hcz48_3, hcz48_4, hfz48_0, hfz48_1, hfz48_2, hfz48_3, hfz48_4⟩ := bx5_ BK398.out
     try go_wp2_with (first | ((with_reducible refine gate_callee (f := 96) rfl ?_); refine goesL_ (some 27) rfl rfl Try.func96 (by kernel_rfl) rfl #[.slice A0 l0.length c0, .agg #[.int .i64 a1_0, .slice A1_1 l1_1.length c1_1, .int .i64 a1_2, .int .i64 a1_3, .int .i64 a1_4], .int .i64 t406] rfl z1_ ?_; (with_reducible refine (impl_opCode.calls k _ _ l0 a1_0 _ _ l1_1 a1_2 a1_3 a1_4 t406 t407 t408 t409 _ ?side1 ?side2 ?side3 ?side4 A7.out).mono ?_); (case side1 => exact z2_); (case side2 => exact HC0.out); (case side3 => exact z14_); (case side4 => exact HC1_1.out); rintro e w49 ⟨rfl, hb⟩; refine ⟨_, rfl, ?_⟩; replace HO405 := Aside0.mk (Kd.R_below z45_ hb); replace BK398 := Aside0.mk (blk_below (g := gb398) (o := .cells #[.int .i64 a1_0, .slice A1_1 l1_1.length c1_1, .int .i64 a1_2, .int .i64 a1_3, .int .i64 a1_4] 78 (0, 0)) z16_ hb); replace HB := Aside0.mk (below_step z7_ hb); (try clear hb); obtain ⟨hcz50_0, hcz50_1, hcz50_2, hcz50_3, hcz50_4, hfz50_0, hfz50_1, hfz50_2, hfz50_3, hfz50_4⟩ := bx5_ BK398.out))
     go_loopg [12] k (fun kq v12 w' => ∃ (x6_1 : List (S80)) (x12_1 : Int), v12 = .int .i64 x12_1 ∧ Aside0 (impl_ApplyOp.l1 kq l0 x6_1 t406 t408 t409 x12_1 a1_0 l1_1 a1_2 a1_3 a1_4 = some (r1, r2)) ∧ Aside0 (kq ≤ k) ∧ Aside0 (Kd.R k80 80 w' w.heap.size (fun _ => True) v404 x6_1) ∧ Aside0 (w'.heap[gb398]? = some (.cells #[.int .i64 a1_0, (.slice A1_1 l1_1.length c1_1), .int .i64 a1_2, .int .i64 a1_3, .int .i64 a1_4] 78 (0, 0))) ∧ Aside0 (Below w.heap.size w w'))
     case atStart => exact ⟨(t403), (t408), z5_, H', ⟨Nat.le_refl _⟩, ⟨z45_⟩, ⟨z16_⟩, ⟨z7_⟩⟩
     case round =>
      clear H'
      try clear c1
      try clear p1
      try clear q1
      try clear hx1
      try clear c2
      try clear p2
      try clear hx2
      try clear hf2
      try clear c3
      try clear p3
      try clear q3
      try clear hx3
      try clear hf3
      try clear c4
      try clear p4
      try clear q4
      try clear hx4
      try clear c5
      try clear p6
      try clear c7
      try clear c8
      try clear c8b0
      try clear c8b1
      try clear c9
      try clear c9b0
      try clear c9b1
      try clear c10
      try clear c10b0
      try clear c11
      try clear c11b0
      try clear c12
      try clear p12
      try clear q12
      try clear hx12
      try clear hf12
      try clear c21
      try clear hx21
      try clear hf21
      try clear c23
      try clear c23b0
      try clear c23b1
      try clear c33
      try clear c33b0
      try clear c34
      try clear c34b0
      try clear c35
      try clear c35b0
      try clear c36
      try clear p36
      try clear q36
      try clear hx36
      try clear hf36
      try clear c38
      try clear hx38
      try clear hf38
      try clear p41
      try clear q41
      try clear hx41
      try clear c50
      try clear hcz18_0
      try clear hcz18_1
      try clear hcz18_2
      try clear hcz18_3
      try clear hcz18_4
      try clear hcz20_0
      try clear hcz20_1
      try clear hcz20_2
      try clear hcz20_3
      try clear hcz20_4
      try clear hcz29_0
      try clear hcz29_1
      try clear hcz29_2
      try clear hcz29_3
      try clear hcz29_4
      try clear hcz31_0
      try clear hcz31_1
      try clear hcz31_2
      try clear hcz31_3
      try clear hcz31_4
      try clear hcz48_0
      try clear hcz48_1
      try clear hcz48_2
      try clear hcz48_3
      try clear hcz48_4
      try clear hcz50_0
      try clear hcz50_1
      try clear hcz50_2
      try clear hcz50_3
      try clear hcz50_4
      try clear hfz18_0
      try clear hfz18_1
      try clear hfz18_2
      try clear hfz18_3
      try clear hfz18_4
      try clear hfz20_0
      try clear hfz20_1
      try clear hfz20_2
      try clear hfz20_3
      try clear hfz20_4
      try clear hfz29_0
      try clear hfz29_1
      try clear hfz29_2
      try clear hfz29_3
      try clear hfz29_4
      try clear hfz31_0
      try clear hfz31_1
      try clear hfz31_2
      try clear hfz31_3
      try clear hfz31_4
      try clear hfz48_0
      try clear hfz48_1
      try clear hfz48_2
      try clear hfz48_3
      try clear hfz48_4
      try clear hfz50_0
      try clear hfz50_1
      try clear hfz50_2
      try clear hfz50_3
      try clear hfz50_4
      try clear hx12_0
      try clear hx12_1
      try clear hx21_0
      try clear hx36_0
      try clear hx36_1
      try clear hx38_1
      try clear hx412_0
      try clear hx412_1
      try clear p1
      try clear p12
      try clear p2
      try clear p36
      try clear p412
      try clear p6
      try clear q1
      try clear q12
      try clear q36
      try clear q412
      obtain ⟨x6_1, x12_1, rfl, HA, HK1, HO_6, BK398, HB⟩ := hrel
      cases gk with
      | zero => exact absurd HA.out (by simp [impl_ApplyOp.l1])
      | succ k1 =>
       have H := HA.out
       clear HA
       simp only [impl_ApplyOp.l1] at H
       by_cases c51 : x12_1 < t409
       ·rw [if_pos c51] at H
        have c51b0 := decide_eq_true c51
        clear c51
        obtain ⟨c52b0, H⟩ := ifd_ H
        obtain ⟨c53b0, H⟩ := ifd_ H
        first | ((with_reducible have hz_ := gy_ H); obtain ⟨y418, Ny418, H⟩ := hz_) | (generalize hy_ : ((x6_1.set (x12_1 : Int).toNat (⟨(rd_T80 x6_1 x12_1).f0, wrap64 (((rd_T80 x6_1 x12_1).f1) + 1)⟩ : S80)) : List (S80)) = y418 at H; have Ny418 := Aside0.mk hy_.symm; clear hy_)
        have H' := Aside0.mk H
        clear H
        obtain ⟨Ao55, co55, eo55⟩ := Kd.R_slice HO_6.out
        subst eo55
        have p417 : 0 ≤ (x12_1 : Int) := odt_
        have q417 : x12_1 < (x6_1.length : Int) := odt_
        obtain ⟨ad417, e417, hx417_0, hx417_1⟩ := at_T80 (Kd.R_reads' HO_6.out).2.2 x12_1 p417 q417
        cases e417
        replace p417 := eq_true p417
        replace q417 := eq_true q417
        have p54 : 0 ≤ (x12_1 : Int) := odt_
        have q54 : (x12_1 : Int) < ((x6_1.length : Int) : Int) := odt_
        obtain ⟨go54, co54, eo54, gb54, gl54, cl54, HG54⟩ := Kd.R_form HO_6.out (by omega)
        (first | cases eo54 | (injection eo54 with ea_ en_ ec_; (first | subst ea_ | (injection ea_ with ea_; subst ea_)); subst ec_; clear en_))
        have GB54 := Aside0.mk gb54
        have GG54 := Aside0.mk HG54
        clear gb54 gl54 HG54
        (first | simp only [add_plain] at hx417_0 | skip)
        (first | simp only [add_plain] at hx417_1 | skip)
        obtain ⟨ce54, hcl54, hM54, hcc54, hfr54⟩ := Kd.R_elem HO_6.out z80 (x12_1 : Int) p54 q54
        obtain rfl := k80_openM hM54
        have hx54_0 : wr.cell? ⟨go54, (x12_1 : Int).toNat * 2, none⟩ = some (.int .i64 ((rd_T80 x6_1 x12_1).f0)) := hcc54 0 _ rfl
        have hx54_1 : wr.cell? ⟨go54, (x12_1 : Int).toNat * 2 + 1, none⟩ = some (.int .i64 ((rd_T80 x6_1 x12_1).f1)) := hcc54 1 _ rfl
        have hf54_0 : wr.frozen? ⟨go54, (x12_1 : Int).toNat * 2, none⟩ = false := hfr54 0
        have hf54_1 : wr.frozen? ⟨go54, (x12_1 : Int).toNat * 2 + 1, none⟩ = false := hfr54 1
        clear hcl54 hcc54 hfr54 hM54
        replace p54 := eq_true p54
        replace q54 := eq_true q54
        have HX56 := Aside0.mk (show Kd.R k80 80 wr w.heap.size (fun _ => True) (.slice (some ⟨go54, 0, none⟩) x6_1.length co55) x6_1 from z67_)
        obtain ⟨ce56, hcl56, hM56, hcc56, hfr56⟩ := Kd.R_elem HX56.out z80 (x12_1 : Int) (odt_) (by have h_ : (x12_1 : Int) < ((x6_1.length : Int) : Int) := odt_; first | exact h_ | (have e_ := (Kd.R_reads' HO_6.out).1; omega) | simpa using h_)
        obtain rfl := k80_openM hM56
        have HP56 := Kd.R_seg HX56.out (x12_1 : Int) (odt_) (by have h_ : (x12_1 : Int) < ((x6_1.length : Int) : Int) := odt_; first | exact h_ | (have e_ := (Kd.R_reads' HO_6.out).1; omega) | simpa using h_) (seg := [.int .i64 (wrap64 (((rd_T80 x6_1 x12_1).f1) + 1))]) (j := 1) hcl56 hcc56 (show 2 ≤ 2 from by decide) (x' := (⟨(rd_T80 x6_1 x12_1).f0, wrap64 (((rd_T80 x6_1 x12_1).f1) + 1)⟩ : S80)) (k80_mkM _ _ _ (⟨(rd_T80 x6_1 x12_1).f0, wrap64 (((rd_T80 x6_1 x12_1).f1) + 1)⟩ : S80) ) (fun _ hk => hk)
        have hx56_1 := hcc56 1 _ rfl
        (try simp only [show (k80).sz = 2 from rfl, Nat.mul_one, Nat.add_zero] at hx56_1)
        have hf56_1 := hfr56 1
        (try simp only [show (k80).sz = 2 from rfl, Nat.mul_one, Nat.add_zero] at hf56_1)
        clear hcl56 hcc56 hfr56 hM56
        go_wp2_with (first | ((with_reducible refine gate_store (t := 3) (p := 50) rfl ?_); refine store_event (t := 3) (p := 50) (v := ?vo_w57) (w1 := (wr.setCell ⟨go54, (x12_1 : Int).toNat * 2 + 1, none⟩ (.int .i64 (wrap64 (((rd_T80 x6_1 x12_1).f1) + 1))))) ?hg ?ho ?hn ?hr ?_; (case ho => rfl); (case hg => rfl); (case hn => rfl); (case hr => exact z9_); intro w57 hw; have hg : wr.grownBy w57 (some go54) := (by rw [hw]; exact HP56.2); have hp_ : Kd.R k80 80 w57 w.heap.size (fun _ => True) (.slice (some ⟨go54, 0, none⟩) x6_1.length co55) y418 := (by rw [hw, Ny418.out]; exact HP56.1); clear HP56; replace BK398 := Aside0.mk (blk_grown (g := gb398) (o := .cells #[.int .i64 a1_0, .slice A1_1 l1_1.length c1_1, .int .i64 a1_2, .int .i64 a1_3, .int .i64 a1_4] 78 (0, 0)) z16_ hg (Kd.R_ne HO_6.out BK398.out (by decide))); replace HO_6 := Aside0.mk (hp_); replace HB := Aside0.mk ((by rw [hw]; exact below_set (HB.out) GB54.out : Below w.heap.size w w57)); clear hg hw hp_))
        go_roundg k1
        case measure => have := HK1.out; omega
        case rel => exact ⟨(y418), (wrap64 (x12_1 + 1)), z5_, H', ⟨z66_⟩, ⟨z67_⟩, ⟨z16_⟩, ⟨z7_⟩⟩
       ·rw [if_neg c51] at H
        have c51b0 := decide_eq_false c51
        clear c51
        obtain ⟨c58b0, H⟩ := ifd_ H
        obtain ⟨c59b0, H⟩ := ifd_ H
        first | ((with_reducible have hz_ := gy_ H); obtain ⟨y420, Ny420, H⟩ := hz_) | (generalize hy_ : ((([(⟨a1_2, wrap64 (((rd_T80 l0 t406).f1) + 1)⟩ : S80)] : List (S80))) : List (S80)) = y420 at H; have Ny420 := Aside0.mk hy_.symm; clear hy_)
        obtain ⟨t423, A60, H⟩ := bnd_ H
        simp only [Option.some.injEq, Prod.mk.injEq] at H
        obtain ⟨rfl, rfl⟩ := H
        try go_wp2
        have n0_ := Aside0.mk (Kd.R_drew HO_6.out)
        have n1_ := Aside0.mk (blk_drew BK398.out)
        have n2_ := Aside0.mk (below_drew1 HB.out)
        clear HO_6
        clear BK398
        clear HB
        have HO_6 := n0_
        have BK398 := n1_
        have HB := n2_
        clear n0_ n1_ n2_
        obtain ⟨p419, q419, ad419, e419, hw419_0, hw419_1, hx419_0, hx419_1⟩ := atw80_ HR0 HB t406
        cases e419
        refine start_ (n := 14) (S := fun w' => w'.cell? ⟨gb398, 0, none⟩ = some (.int .i64 a1_0) ∧ w'.cell? ⟨gb398, 1, none⟩ = some (.slice A1_1 l1_1.length c1_1) ∧ w'.cell? ⟨gb398, 2, none⟩ = some (.int .i64 a1_2) ∧ w'.cell? ⟨gb398, 3, none⟩ = some (.int .i64 a1_3) ∧ w'.cell? ⟨gb398, 4, none⟩ = some (.int .i64 a1_4) ∧ w'.cell? (ad419.add ((t406).toNat * 2)) = some (.int .i64 ((rd_T80 l0 t406).f0)) ∧ w'.cell? ⟨(ad419.add ((t406).toNat * 2)).block, (ad419.add ((t406).toNat * 2)).off + 1, none⟩ = some (.int .i64 ((rd_T80 l0 t406).f1))) (ds := []) (fl_ 14 0) (by kernel_rfl) rfl (fl_zero _) ⟨(blk_cell BK398.out 0).trans rfl, (blk_cell BK398.out 1).trans rfl, (blk_cell BK398.out 2).trans rfl, (blk_cell BK398.out 3).trans rfl, (blk_cell BK398.out 4).trans rfl, ((HB.out.cell (World.block_lt_of_cell? w _ hw419_0)).trans hw419_0), ((HB.out.cell (World.block_lt_of_cell? w _ hw419_1)).trans hw419_1)⟩ (fun hHeld => ?_); refine with_tabW impl_ApplyOp.tab12 impl_ApplyOp.bits12 (fun HT_ HW_ => ?_)
        generalize wr.drew = w61 at HO_6 BK398 HB hx419_0 hx419_1 hHeld ⊢
        iterate 3 refine zp_ HT_ rfl rfl (by kernel_rfl) (fun _ _ _ h => h) (by rfl) ?_
        refine zpg_ (i := 4) (ra_ [3, 1, 1, 9]) HT_ rfl rfl (by kernel_rfl) (fun _ _ _ h => h) (by rfl) ?_
        refine zpg_ (i := 5) (ra_ [3, 1, 2, 8]) HT_ rfl rfl (by kernel_rfl) (fun _ _ _ h => h) (by rfl) ?_
        refine zpg_ (i := 6) (ra_ [3, 1, 3, 7]) HT_ rfl rfl (by kernel_rfl) (fun _ _ _ h => h) (by rfl) ?_
        refine zpg_ (i := 7) (ra_ [3, 1, 4, 6]) HT_ rfl rfl (by kernel_rfl) (fun _ _ _ h => h) (by rfl) ?_
        refine ztg_ (i := 3) (fl_ 14 8) HT_ HW_ rfl rfl (by kernel_rfl) (fun _ _ _ h => h) (by rfl) hHeld ?_ z138_
        refine zt_ HT_ HW_ rfl rfl (by kernel_rfl) (fun _ _ _ h => h) (by rfl) hHeld ?_ z138_
        iterate 2 refine zp_ HT_ rfl rfl (by kernel_rfl) (fun _ _ _ h => h) (by rfl) ?_
        refine one_ (i := 11) (N := some 62) (fl_ 14 12) rfl rfl (one_of HT_.out (by kernel_rfl)) (by decide) (fun K hK => ?_)
        refine Kd.R_lit_step k80 _ 80 ?hg (N := 62) ?hd (xs := ([(⟨a1_2, wrap64 (((rd_T80 l0 t406).f1) + 1)⟩ : S80)] : List (S80))) (inner := [.int .i64 a1_2, .int .i64 (wrap64 (((rd_T80 l0 t406).f1) + 1))]) (ok := fun _ => True) (okp := fun _ => True) ?hr ?hp (fun _ hk => hk) trivial (Below.refl _ _) (Nat.le_refl _) (by simp) ?_; (case hd => rfl); (case hg => rfl); (case hr => exact z9_); (case hp => exact (Reps.c2 (show Kd.M k80 _ _ _ (⟨a1_2, wrap64 (((rd_T80 l0 t406).f1) + 1)⟩ : S80) [.int .i64 a1_2, .int .i64 (wrap64 (((rd_T80 l0 t406).f1) + 1))] from (k80_mkM _ _ _ (⟨a1_2, wrap64 (((rd_T80 l0 t406).f1) + 1)⟩ : S80) )) (Reps.none _ _)))
        intro v421 w62 ho63 hb hg_ hnew_
        clear hg_ hnew_
        (first | rw [← Ny420.out] at ho63 | (simp only [Int.reduceToNat] at ho63; rw [← Ny420.out] at ho63))
        have n0_ := Aside0.mk (Kd.R_elder' z67_ (Kd.R_base ho63) hb)
        have n1_ := Aside0.mk (Kd.R_lower (Kd.R_new' ho63 (Kd.R_lt z67_)) (below_size z7_))
        have n2_ := Aside0.mk (blk_below (g := gb398) (o := .cells #[.int .i64 a1_0, .slice A1_1 l1_1.length c1_1, .int .i64 a1_2, .int .i64 a1_3, .int .i64 a1_4] 78 (0, 0)) z16_ hb)
        have n3_ := Aside0.mk (below_step z7_ hb)
        clear HO_6
        clear BK398
        clear HB
        have HO_6 := n0_
        have HO422 := n1_
        have BK398 := n2_
        have HB := n3_
        clear n0_ n1_ n2_ n3_
        clear hb ho63
        obtain ⟨Ao64, co64, eo64⟩ := Kd.R_slice HO_6.out
        (first | subst eo64 | (injection eo64 with f1_ f2_ f3_; have f4_ := f1_.symm; have f5_ := f3_.symm; clear f1_ f2_ f3_; subst f4_; subst f5_))
        obtain ⟨Ao65, co65, eo65⟩ := Kd.R_slice HO422.out
        (first | subst eo65 | (injection eo65 with f1_ f2_ f3_; have f4_ := f1_.symm; have f5_ := f3_.symm; clear f1_ f2_ f3_; subst f4_; subst f5_))
        refine hK.out _ _ ⟨(blk_cell BK398.out 0).trans rfl, (blk_cell BK398.out 1).trans rfl, (blk_cell BK398.out 2).trans rfl, (blk_cell BK398.out 3).trans rfl, (blk_cell BK398.out 4).trans rfl, ((HB.out.cell (World.block_lt_of_cell? w _ hw419_0)).trans hw419_0), ((HB.out.cell (World.block_lt_of_cell? w _ hw419_1)).trans hw419_1)⟩ (fun hHeld => ?_)
        clear hK K
        refine zn_ rfl ?_
        refine one_ (i := 12) (N := some 63) (fl_ 14 13) rfl rfl (one_of HT_.out (by kernel_rfl)) (by decide) (fun K hK => ?_)
        refine goes_ Try.func99 (by kernel_rfl) rfl #[.slice Ao64 x6_1.length co64, .int .i64 t408, .slice Ao65 y420.length co65] (by rfl) rfl rfl z1_ ?_
        with_reducible refine (slices_Insert_Node.calls (fun k_ => some k_ = (.slice Ao64 x6_1.length co64 : Value).ownBlock) (.slice Ao64 x6_1.length co64) x6_1 t408 _ _ y420 t423 w _ ?side1 ?side2 ?side3 ?side4 A60.out).mono ?_
        (case side1 => exact z7_)
        (case side2 => exact Kd.R_tight rfl HO_6.out)
        (case side3 => exact ⟨_, _, HO422.out, fun k_ hk_ hs_ => (hk_.2) hs_⟩)
        (case side4 => exact (Kd.R_reads' HO422.out).2.1)
        rintro e w66 ⟨v424, rfl, ho0, hb, hkp⟩
        refine ⟨_, rfl, ?_⟩
        have n0_ := Aside0.mk (blk_kept z16_ hkp (fun hs_ => (fun e_ => (Kd.R_ne HO_6.out BK398.out (by decide)) e_) hs_))
        have n1_ := Aside0.mk (Kd.R_mono (ok' := fun k_ => some k_ ≠ (v424 : Value).ownBlock) (Kd.R_keptB (HO422.out) hkp (fun k_ hk_ hs_ => (hk_.2) hs_)) (fun k_ hk_ => fun e_ => Or.elim (ho0.1 k_ e_.symm) (fun hs_ => hk_.2.1 hs_) (fun hn_ => Nat.not_le.2 hk_.2.2 hn_)))
        have n2_ := Aside0.mk (Kd.R_mono (ok' := fun k_ => some k_ ≠ (.slice Ao65 y420.length co65 : Value).ownBlock) ho0 (fun k_ hk_ => Or.elim hk_ (fun hs_ => fun e_ => (((HO422.out).1 k_ e_.symm).2) hs_) (fun hn_ => (Kd.fresh' (Kd.R_lt (by (with_reducible repeat (first | apply Kd.R_alloc | apply Kd.R_drewN | apply Kd.R_drew)); exact HO422.out)) k_ hn_))))
        have n3_ := Aside0.mk (hb)
        clear BK398
        clear HO422
        clear HB
        clear HO_6
        have BK398 := n0_
        have HO422 := n1_
        have HO425 := n2_
        have HB := n3_
        clear n0_ n1_ n2_ n3_
        (try clear hb)
        (try clear hkp)
        (try clear ho0)
        refine hK.out _ _ ⟨(blk_cell BK398.out 0).trans rfl, (blk_cell BK398.out 1).trans rfl, (blk_cell BK398.out 2).trans rfl, (blk_cell BK398.out 3).trans rfl, (blk_cell BK398.out 4).trans rfl, ((HB.out.cell (World.block_lt_of_cell? w _ hw419_0)).trans hw419_0), ((HB.out.cell (World.block_lt_of_cell? w _ hw419_1)).trans hw419_1)⟩ (fun hHeld => ?_)
        clear hK K
        refine zn_ rfl ?_
        refine zp_ HT_ rfl rfl (by kernel_rfl) (fun _ _ _ h => h) (by rfl) ?_
        refine done_ (done_of HT_.out (by kernel_rfl)) ?_
        try go_wp2
        go_ret2
        exact ⟨_, z3_, by (with_reducible repeat (first | apply Kd.R_alloc | apply Kd.R_drewN | apply Kd.R_drew)); exact Kd.R_mono HO425.out (fun _ hk => trivial), z7_⟩
  ·rw [if_neg c8] at H
   have c8b0 : (t407 == 0) = false := beq_eq_false_iff_ne.mpr c8
   have c8b1 : (t407 != 0) = true := bne_iff_ne.mpr c8
   simp only [Option.some.injEq, Prod.mk.injEq] at H
   obtain ⟨rfl, rfl⟩ := H
   go_enter Try.func51, Try.ntmps51
   try go_wp2_with (first | ((with_reducible refine gate_dst (N := 3) rfl ?_); refine box_event ?hg (N := 3) ?hd (cs := #[.int .i64 a1_0, .slice A1_1 l1_1.length c1_1, .int .i64 a1_2, .int .i64 a1_3, .int .i64 a1_4]) (t := 78) ?hr ?_; (case hd => rfl); (case hg => rfl); (case hr => exact z9_); intro gb398 hg w67 hbox hb; have BK398 := Aside0.mk (hbox); have GW398 := Aside0.mk ((by rw [hg]; exact (below_size z0_) : w.heap.size ≤ gb398)); have GE398 := Aside0.mk ((by rw [hg]; exact (below_size z0_) : w.heap.size ≤ gb398)); replace HB := Aside0.mk (below_step z0_ hb); clear hb hbox hg) | ((with_reducible refine gate_callee (f := 50) rfl ?_); refine goesL_ (some 14) rfl rfl Try.func50 (by kernel_rfl) rfl #[.slice A0 l0.length c0] rfl z1_ ?_; (with_reducible refine (impl_TreeOk.calls k _ _ l0 true _ ?side1 ?side2 A3.out).mono ?_); (case side1 => exact z2_); (case side2 => exact HC0.out); rintro e w68 ⟨rfl, hb⟩; refine ⟨_, rfl, ?_⟩; replace BK398 := Aside0.mk (blk_below (g := gb398) (o := .cells #[.int .i64 a1_0, .slice A1_1 l1_1.length c1_1, .int .i64 a1_2, .int .i64 a1_3, .int .i64 a1_4] 78 (0, 0)) z16_ hb); replace HB := Aside0.mk (below_step z7_ hb); (try clear hb)))
   have n0_ := Aside0.mk (blk_drew BK398.out)
   have n1_ := Aside0.mk (below_drew1 HB.out)
   clear BK398
   clear HB
   have BK398 := n0_
   have HB := n1_
   clear n0_ n1_
   refine start_ (n := 8) (S := fun w' => w'.cell? ⟨gb398, 0, none⟩ = some (.int .i64 a1_0) ∧ w'.cell? ⟨gb398, 1, none⟩ = some (.slice A1_1 l1_1.length c1_1) ∧ w'.cell? ⟨gb398, 2, none⟩ = some (.int .i64 a1_2) ∧ w'.cell? ⟨gb398, 3, none⟩ = some (.int .i64 a1_3) ∧ w'.cell? ⟨gb398, 4, none⟩ = some (.int .i64 a1_4)) (ds := []) (fl_ 8 0) (by kernel_rfl) rfl (fl_zero _) ⟨(blk_cell BK398.out 0).trans rfl, (blk_cell BK398.out 1).trans rfl, (blk_cell BK398.out 2).trans rfl, (blk_cell BK398.out 3).trans rfl, (blk_cell BK398.out 4).trans rfl⟩ (fun hHeld => ?_); refine with_tabW impl_ApplyOp.tab3 impl_ApplyOp.bits3 (fun HT_ HW_ => ?_)
   generalize w68.drew = w69 at BK398 HB hHeld ⊢
   refine zp_ HT_ rfl rfl (by kernel_rfl) (fun _ _ _ h => h) (by rfl) ?_
   refine zpg_ (i := 2) (ra_ [1, 1, 1, 5]) HT_ rfl rfl (by kernel_rfl) (fun _ _ _ h => h) (by rfl) ?_
   refine zpg_ (i := 3) (ra_ [1, 1, 2, 4]) HT_ rfl rfl (by kernel_rfl) (fun _ _ _ h => h) (by rfl) ?_
   refine ztg_ (i := 4) (ra_ [1, 1, 3, 3]) HT_ HW_ rfl rfl (by kernel_rfl) (fun _ _ _ h => h) (by rfl) hHeld ?_ z141_
   refine one_ (i := 1) (N := some 18) (fl_ 8 5) rfl rfl (one_of HT_.out (by kernel_rfl)) (by decide) (fun K hK => ?_)
   refine goes_ Try.func75 (by kernel_rfl) rfl #[.slice A0 l0.length c0] (by rfl) rfl rfl z1_ ?_
   with_reducible refine (slices_Clone_Node.calls _ _ l0 t403 _ ?side1 ?side2 A5.out).mono ?_
   (case side1 => exact z2_)
   (case side2 => exact HC0.out)
   rintro e w70 ⟨v404, rfl, ho0, hb⟩
   refine ⟨_, rfl, ?_⟩
   have n0_ := Aside0.mk (Kd.R_lower ho0 (below_size z7_))
   have n1_ := Aside0.mk (blk_below (g := gb398) (o := .cells #[.int .i64 a1_0, .slice A1_1 l1_1.length c1_1, .int .i64 a1_2, .int .i64 a1_3, .int .i64 a1_4] 78 (0, 0)) z16_ hb)
   have n2_ := Aside0.mk (below_step z7_ hb)
   clear BK398
   clear HB
   have HO405 := n0_
   have BK398 := n1_
   have HB := n2_
   clear n0_ n1_ n2_
   (try clear hb)
   (try clear hb2)
   (try clear hk)
   (try clear hi)
   (try clear ho0)
   refine hK.out _ _ ⟨(blk_cell BK398.out 0).trans rfl, (blk_cell BK398.out 1).trans rfl, (blk_cell BK398.out 2).trans rfl, (blk_cell BK398.out 3).trans rfl, (blk_cell BK398.out 4).trans rfl⟩ (fun hHeld => ?_)
   clear hK K
   refine zn_ rfl ?_
   refine one_ (i := 5) (N := some 22) (fl_ 8 6) rfl rfl (one_of HT_.out (by kernel_rfl)) (by decide) (fun K hK => ?_)
   refine goes_ Try.func78 (by kernel_rfl) rfl #[.slice A0 l0.length c0, .slice A1_1 l1_1.length c1_1] (by rfl) rfl rfl z1_ ?_
   with_reducible refine (impl_NodeAt.calls k _ _ l0 _ _ l1_1 t406 _ ?side1 ?side2 ?side3 ?side4 A6.out).mono ?_
   (case side1 => exact z2_)
   (case side2 => exact HC0.out)
   (case side3 => exact z14_)
   (case side4 => exact HC1_1.out)
   rintro e w71 ⟨rfl, hb⟩
   refine ⟨_, rfl, ?_⟩
   have n0_ := Aside0.mk (Kd.R_below z45_ hb)
   have n1_ := Aside0.mk (blk_below (g := gb398) (o := .cells #[.int .i64 a1_0, .slice A1_1 l1_1.length c1_1, .int .i64 a1_2, .int .i64 a1_3, .int .i64 a1_4] 78 (0, 0)) z16_ hb)
   have n2_ := Aside0.mk (below_step z7_ hb)
   clear HO405
   clear BK398
   clear HB
   have HO405 := n0_
   have BK398 := n1_
   have HB := n2_
   clear n0_ n1_ n2_
   (try clear hb)
   (try clear hb2)
   (try clear hk)
   (try clear hi)
   refine hK.out _ _ ⟨(blk_cell BK398.out 0).trans rfl, (blk_cell BK398.out 1).trans rfl, (blk_cell BK398.out 2).trans rfl, (blk_cell BK398.out 3).trans rfl, (blk_cell BK398.out 4).trans rfl⟩ (fun hHeld => ?_)
   clear hK K
   refine zn_ rfl ?_
   iterate 2 refine zp_ HT_ rfl rfl (by kernel_rfl) (fun _ _ _ h => h) (by rfl) ?_
   refine done_ (done_of HT_.out (by kernel_rfl)) ?_
   obtain ⟨hcz72_0, hcz72_1, hcz72_2, hcz72_3, hcz72_4, hfz72_0, hfz72_1, hfz72_2, hfz72_3, hfz72_4⟩ := bx5_ BK398.out
   try go_wp2_with (first | ((with_reducible refine gate_callee (f := 96) rfl ?_); refine goesL_ (some 27) rfl rfl Try.func96 (by kernel_rfl) rfl #[.slice A0 l0.length c0, .agg #[.int .i64 a1_0, .slice A1_1 l1_1.length c1_1, .int .i64 a1_2, .int .i64 a1_3, .int .i64 a1_4], .int .i64 t406] rfl z1_ ?_; (with_reducible refine (impl_opCode.calls k _ _ l0 a1_0 _ _ l1_1 a1_2 a1_3 a1_4 t406 t407 t408 t409 _ ?side1 ?side2 ?side3 ?side4 A7.out).mono ?_); (case side1 => exact z2_); (case side2 => exact HC0.out); (case side3 => exact z14_); (case side4 => exact HC1_1.out); rintro e w73 ⟨rfl, hb⟩; refine ⟨_, rfl, ?_⟩; replace HO405 := Aside0.mk (Kd.R_below z45_ hb); replace BK398 := Aside0.mk (blk_below (g := gb398) (o := .cells #[.int .i64 a1_0, .slice A1_1 l1_1.length c1_1, .int .i64 a1_2, .int .i64 a1_3, .int .i64 a1_4] 78 (0, 0)) z16_ hb); replace HB := Aside0.mk (below_step z7_ hb); (try clear hb)))
   go_ret2
   exact ⟨_, z3_, z45_, z7_⟩
 ·replace c4 := Bool.eq_false_iff.mpr c4
  subst c4
  replace H := iff_ H
  first | ((with_reducible have hz_ := gy_ H); obtain ⟨y400, Ny400, H⟩ := hz_) | (generalize hy_ : ((([] : List (S80))) : List (S80)) = y400 at H; have Ny400 := Aside0.mk hy_.symm; clear hy_)
  simp only [Option.some.injEq, Prod.mk.injEq] at H
  obtain ⟨rfl, rfl⟩ := H
  go_enter Try.func51, Try.ntmps51
  go_wp2_with (first | ((with_reducible refine gate_dst (N := 3) rfl ?_); refine box_event ?hg (N := 3) ?hd (cs := #[.int .i64 a1_0, .slice A1_1 l1_1.length c1_1, .int .i64 a1_2, .int .i64 a1_3, .int .i64 a1_4]) (t := 78) ?hr ?_; (case hd => rfl); (case hg => rfl); (case hr => exact z9_); intro gb398 hg w74 hbox hb; have BK398 := Aside0.mk (hbox); have GW398 := Aside0.mk ((by rw [hg]; exact (below_size z0_) : w.heap.size ≤ gb398)); have GE398 := Aside0.mk ((by rw [hg]; exact (below_size z0_) : w.heap.size ≤ gb398)); replace HB := Aside0.mk (below_step z0_ hb); clear hb hbox hg) | ((with_reducible refine gate_callee (f := 50) rfl ?_); refine goesL_ (some 14) rfl rfl Try.func50 (by kernel_rfl) rfl #[.slice A0 l0.length c0] rfl z1_ ?_; (with_reducible refine (impl_TreeOk.calls k _ _ l0 false _ ?side1 ?side2 A3.out).mono ?_); (case side1 => exact z2_); (case side2 => exact HC0.out); rintro e w75 ⟨rfl, hb⟩; refine ⟨_, rfl, ?_⟩; replace BK398 := Aside0.mk (blk_below (g := gb398) (o := .cells #[.int .i64 a1_0, .slice A1_1 l1_1.length c1_1, .int .i64 a1_2, .int .i64 a1_3, .int .i64 a1_4] 78 (0, 0)) z16_ hb); replace HB := Aside0.mk (below_step z7_ hb); (try clear hb)) | ((with_reducible refine gate_dst (N := 16) rfl ?_); refine Kd.R_lit k80 _ 80 ?hg (N := 16) ?hd (xs := ([] : List (S80))) (inner := []) (ok := fun _ => True) (okp := fun _ => True) ?hr ?hp (fun _ hk => hk) trivial (Below.refl _ _) (Nat.le_refl _) (by simp) ?_; (case hd => rfl); (case hg => rfl); (case hr => exact z9_); (case hp => exact z108_); intro v401 w76 ho77 hb hg_ hnew_; clear hg_ hnew_; (first | rw [← Ny400.out] at ho77 | (simp only [Int.reduceToNat] at ho77; rw [← Ny400.out] at ho77)); have HO402 := Aside0.mk (Kd.R_lower ho77 (below_size z7_)); replace BK398 := Aside0.mk (blk_below (g := gb398) (o := .cells #[.int .i64 a1_0, .slice A1_1 l1_1.length c1_1, .int .i64 a1_2, .int .i64 a1_3, .int .i64 a1_4] 78 (0, 0)) z16_ hb); replace HB := Aside0.mk (below_step z7_ hb); clear hb ho77))
  go_ret2
  exact ⟨_, z3_, by (with_reducible repeat (first | apply Kd.R_alloc | apply Kd.R_drewN | apply Kd.R_drew)); exact HO402.out, z7_⟩

end Go.Proofs.Ytdapeboajjidmaa.PFnExactHistAt
