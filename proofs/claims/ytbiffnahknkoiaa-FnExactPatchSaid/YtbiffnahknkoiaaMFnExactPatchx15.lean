/- Laid by a program of this session out of the kit's print for the law FnExactPatch: what it says of the machine is proved here, function by function; each contract under the conditions that it names. -/
import Derived.Test.YtbiffnahknkoiaaMFnExactPatchx0
import Derived.Test.YtbiffnahknkoiaaMFnExactPatchx12
import Derived.Test.YtbiffnahknkoiaaMFnExactPatchx13
import Derived.Test.YtbiffnahknkoiaaMFnExactPatchx14
namespace Go.Proofs.Ytbiffnahknkoiaa.PFnExactPatch
open Go.RowKit Go.Proofs.YtbiffnahknkoiaaW.PrintWords Go.Proofs.YtbiffnahknkoiaaW.PrintLast Go.Proofs.YtbiffnahknkoiaaW.PrintMore
attribute [local go_sem] max2_int min2_int max_two min_two max_three min_three max_four min_four   -- for this text's walks alone
set_option linter.unusedVariables false
set_option linter.unusedSimpArgs false

/-! ### impl_ApplyOp: function 71 -/
mutual
def impl_ApplyOp.l0 : Nat → List (S45) → List (S45) → Int → Int → Option ((List (S45)) × Int)
 | 0, _, _, _, _ => none
 | k + 1, x0, x6, x7, x11 => (impl_endOf.f k x0 x7).bind fun t521 => (if x11 < t521 then (if 0 ≤ x11 then (if x11 < (x6.length : Int) then (impl_ApplyOp.l0 k x0 (x6.set (x11 : Int).toNat (⟨(rd_T45 x6 x11).f0, wrap64 (((rd_T45 x6 x11).f1) - 1)⟩ : S45)) x7 (wrap64 (x11 + 1))) else (none)) else (none)) else ((slices_Delete_Node.f x6 x7 (wrap64 (x7 + 1))).bind fun t524 => (some (t524, 0))))
def impl_ApplyOp.l1 : Nat → List (S45) → List (S45) → Int → Int → Int → Int → Int → List Int → Int → Int → Int → Option ((List (S45)) × Int)
 | 0, _, _, _, _, _, _, _, _, _, _, _ => none
 | k + 1, x0, x6, x7, x9, x10, x12, x509000, x509001, x509002, x509003, x509004 => if x12 < x10 then (if 0 ≤ x12 then (if x12 < (x6.length : Int) then (impl_ApplyOp.l1 k x0 (x6.set (x12 : Int).toNat (⟨(rd_T45 x6 x12).f0, wrap64 (((rd_T45 x6 x12).f1) + 1)⟩ : S45)) x7 x9 x10 (wrap64 (x12 + 1)) x509000 x509001 x509002 x509003 x509004) else (none)) else (none)) else (if 0 ≤ x7 then (if x7 < (x0.length : Int) then ((slices_Insert_Node.f x6 x9 (([(⟨x509002, wrap64 (((rd_T45 x0 x7).f1) + 1)⟩ : S45)] : List (S45)))).bind fun t533 => (some (t533, 0))) else (none)) else (none))
end
def impl_ApplyOp.f (k : Nat) (l0 : List (S45)) (a1_0 : Int) (l1_1 : List Int) (a1_2 : Int) (a1_3 : Int) (a1_4 : Int) : Option ((List (S45)) × Int) := (impl_TreeOk.f k l0).bind fun t509 => (if t509 = true then ((slices_Clone_Node.f l0).bind fun t513 => ((impl_NodeAt.f k l0 l1_1).bind fun t516 => ((impl_opCode.f k l0 a1_0 l1_1 a1_2 a1_3 a1_4 t516).bind fun bt517 => (if bt517.1 = 0 then (if a1_0 = 1 then (if 0 ≤ t516 then (if t516 < (t513.length : Int) then (some ((t513.set (t516 : Int).toNat (⟨a1_2, (rd_T45 t513 t516).f1⟩ : S45)), 0)) else (none)) else (none)) else (if a1_0 = 2 then (impl_ApplyOp.l0 k l0 t513 t516 (wrap64 (t516 + 1))) else (impl_ApplyOp.l1 k l0 t513 t516 bt517.2.1 bt517.2.2 bt517.2.1 a1_0 l1_1 a1_2 a1_3 a1_4))) else (some (t513, bt517.1)))))) else (some ((([] : List (S45))), 2)))
def impl_ApplyOp.T3 : Bool × List (List Nat × List Nat) := (true, [([], []), ([0], [0]), ([], []), ([], []), ([3], [3]), ([2, 4, 1], [2, 4]), ([1, 5, 0, 1], [1]), ([5, 6, 0, 1, 2, 3, 4, 5, 6], [5])])
def impl_ApplyOp.B3 : List Nat := [0, 1, 0, 0, 8, 31, 63, 127]
theorem impl_ApplyOp.tab3 : rtab .any (opsOf Try.f71 3) = impl_ApplyOp.T3 := by kernel_rfl
theorem impl_ApplyOp.bits3 : waitsOk impl_ApplyOp.T3.2 impl_ApplyOp.B3 = true := by kernel_rfl
def impl_ApplyOp.T12 : Bool × List (List Nat × List Nat) := (true, [([], []), ([], []), ([], []), ([2], [2]), ([], []), ([], []), ([4, 5], [4, 5]), ([6], [6]), ([7], [7]), ([8], [8]), ([3, 9], [3, 9]), ([10], [10]), ([0, 1, 11], [0, 1, 11]), ([12, 12, 0, 1, 2, 3, 4, 5, 6, 7, 8, 9, 10, 11, 12], [0, 12])])
def impl_ApplyOp.B12 : List Nat := [0, 0, 0, 4, 0, 0, 48, 112, 240, 496, 1020, 2044, 4095, 8191]
theorem impl_ApplyOp.tab12 : rtab .any (opsOf Try.f71 12) = impl_ApplyOp.T12 := by kernel_rfl
theorem impl_ApplyOp.bits12 : waitsOk impl_ApplyOp.T12.2 impl_ApplyOp.B12 = true := by kernel_rfl
set_option maxHeartbeats 8000000 in
set_option maxRecDepth 100000 in
theorem impl_ApplyOp.calls (k : Nat) (A0 : Option Addr) (c0 : Nat) (l0 : List (S45)) (a1_0 : Int) (A1_1 : Option Addr) (c1_1 : Nat) (l1_1 : List Int) (a1_2 : Int) (a1_3 : Int) (a1_4 : Int) (r1 : List (S45)) (r2 : Int) (w : World) (hr0 : Kd.C k45 w A0 l0.length l0) (hc0 : l0.length ≤ c0) (hr1_1 : Kd.C (Kd.int .i64) w A1_1 l1_1.length l1_1) (hc1_1 : l1_1.length ≤ c1_1) (h : impl_ApplyOp.f k l0 a1_0 l1_1 a1_2 a1_3 a1_4 = some (r1, r2)) :
  Calls Try.prog 71 #[.slice A0 l0.length c0, .agg #[.int .i64 a1_0, .slice A1_1 l1_1.length c1_1, .int .i64 a1_2, .int .i64 a1_3, .int .i64 a1_4]] w fun e w' => ∃ v0_ : Value, e = .returned (.tuple #[v0_, .int .i64 r2]) ∧ Kd.R k45 45 w' w.heap.size (fun _ => True) v0_ r1 ∧ Below w.heap.size w w' := by
 have hu100 := Try.underlying100
 have hu45 := Try.underlying45
 have HR0 := Aside0.mk hr0
 have HC0 := Aside0.mk hc0
 clear hr0 hc0
 have HR1_1 := Aside0.mk hr1_1
 have HC1_1 := Aside0.mk hc1_1
 clear hr1_1 hc1_1
 have HB := Aside0.mk (Below.refl w.heap.size w)
 have H : ((impl_TreeOk.f k l0).bind fun t509 => (if t509 = true then ((slices_Clone_Node.f l0).bind fun t513 => ((impl_NodeAt.f k l0 l1_1).bind fun t516 => ((impl_opCode.f k l0 a1_0 l1_1 a1_2 a1_3 a1_4 t516).bind fun bt517 => (if bt517.1 = 0 then (if a1_0 = 1 then (if 0 ≤ t516 then (if t516 < (t513.length : Int) then (some ((t513.set (t516 : Int).toNat (⟨a1_2, (rd_T45 t513 t516).f1⟩ : S45)), 0)) else (none)) else (none)) else (if a1_0 = 2 then (impl_ApplyOp.l0 k l0 t513 t516 (wrap64 (t516 + 1))) else (impl_ApplyOp.l1 k l0 t513 t516 bt517.2.1 bt517.2.2 bt517.2.1 a1_0 l1_1 a1_2 a1_3 a1_4))) else (some (t513, bt517.1)))))) else (some ((([] : List (S45))), 2)))) = some (r1, r2) := h
 clear h
 obtain ⟨t509, A3, H⟩ := bnd_ H
 by_cases c4 : t509 = true
 ·subst c4
  replace H := ift_ H
  obtain ⟨t513, A5, H⟩ := bnd_ H
  obtain ⟨t516, A6, H⟩ := bnd_ H
  replace H := Option.bind_eq_some_iff.mp H
  obtain ⟨⟨t517, t518, t519⟩, A70, H⟩ := H
  try dsimp only at H
  have A7 := Aside0.mk A70
  clear A70
  by_cases c8 : t517 = 0
  ·rw [if_pos c8] at H
   have c8b0 : (t517 == 0) = true := beq_iff_eq.mpr c8
   have c8b1 : (t517 != 0) = false := bne_eq_false_iff_eq.mpr c8
   clear c8
   by_cases c9 : a1_0 = 1
   ·rw [if_pos c9] at H
    have c9b0 : (a1_0 == 1) = true := beq_iff_eq.mpr c9
    have c9b1 : (a1_0 != 1) = false := bne_eq_false_iff_eq.mpr c9
    clear c9
    obtain ⟨c10b0, H⟩ := ifd_ H
    obtain ⟨c11b0, H⟩ := ifd_ H
    first | ((with_reducible have hz_ := gy_ H); obtain ⟨y520, Ny520, H⟩ := hz_) | (generalize hy_ : ((t513.set (t516 : Int).toNat (⟨a1_2, (rd_T45 t513 t516).f1⟩ : S45)) : List (S45)) = y520 at H; have Ny520 := Aside0.mk hy_.symm; clear hy_)
    simp only [Option.some.injEq, Prod.mk.injEq] at H
    obtain ⟨rfl, rfl⟩ := H
    go_enter Try.func71, Try.ntmps71
    try go_wp2_with (first | ((with_reducible refine gate_dst (N := 3) rfl ?_); refine box_event ?hg (N := 3) ?hd (cs := #[.int .i64 a1_0, .slice A1_1 l1_1.length c1_1, .int .i64 a1_2, .int .i64 a1_3, .int .i64 a1_4]) (t := 100) ?hr ?_; (case hd => rfl); (case hg => rfl); (case hr => exact z10_); intro gb508 hg w13 hbox hb; have BK508 := Aside0.mk (hbox); have GW508 := Aside0.mk ((by rw [hg]; exact (below_size z0_) : w.heap.size ≤ gb508)); have GE508 := Aside0.mk ((by rw [hg]; exact (below_size z0_) : w.heap.size ≤ gb508)); replace HB := Aside0.mk (below_step z0_ hb); clear hb hbox hg) | ((with_reducible refine gate_callee (f := 40) rfl ?_); refine goesL_ (some 14) rfl rfl Try.func40 (by kernel_rfl) rfl #[.slice A0 l0.length c0] rfl z1_ ?_; (with_reducible refine (impl_TreeOk.calls k _ _ l0 true _ ?side1 ?side2 A3.out).mono ?_); (case side1 => exact z2_); (case side2 => exact HC0.out); rintro e w14 ⟨rfl, hb⟩; refine ⟨_, rfl, ?_⟩; replace BK508 := Aside0.mk (blk_below (g := gb508) (o := .cells #[.int .i64 a1_0, .slice A1_1 l1_1.length c1_1, .int .i64 a1_2, .int .i64 a1_3, .int .i64 a1_4] 100 (0, 0)) z23_ hb); replace HB := Aside0.mk (below_step z6_ hb); (try clear hb)))
    have n0_ := Aside0.mk (blk_drew BK508.out)
    have n1_ := Aside0.mk (below_drew1 HB.out)
    clear BK508
    clear HB
    have BK508 := n0_
    have HB := n1_
    clear n0_ n1_
    refine start_ (n := 8) (S := fun w' => w'.cell? ⟨gb508, 0, none⟩ = some (.int .i64 a1_0) ∧ w'.cell? ⟨gb508, 1, none⟩ = some (.slice A1_1 l1_1.length c1_1) ∧ w'.cell? ⟨gb508, 2, none⟩ = some (.int .i64 a1_2) ∧ w'.cell? ⟨gb508, 3, none⟩ = some (.int .i64 a1_3) ∧ w'.cell? ⟨gb508, 4, none⟩ = some (.int .i64 a1_4)) (ds := []) (fl_ 8 0) (by kernel_rfl) rfl (fl_zero _) ⟨(blk_cell BK508.out 0).trans rfl, (blk_cell BK508.out 1).trans rfl, (blk_cell BK508.out 2).trans rfl, (blk_cell BK508.out 3).trans rfl, (blk_cell BK508.out 4).trans rfl⟩ (fun hHeld => ?_); refine with_tabW impl_ApplyOp.tab3 impl_ApplyOp.bits3 (fun HT_ HW_ => ?_)
    generalize w14.drew = w15 at BK508 HB hHeld ⊢
    refine zp_ HT_ rfl rfl (by kernel_rfl) (fun _ _ _ h => h) (by rfl) ?_
    refine zpg_ (i := 2) (ra_ [1, 1, 1, 5]) HT_ rfl rfl (by kernel_rfl) (fun _ _ _ h => h) (by rfl) ?_
    refine zpg_ (i := 3) (ra_ [1, 1, 2, 4]) HT_ rfl rfl (by kernel_rfl) (fun _ _ _ h => h) (by rfl) ?_
    refine ztg_ (i := 4) (ra_ [1, 1, 3, 3]) HT_ HW_ rfl rfl (by kernel_rfl) (fun _ _ _ h => h) (by rfl) hHeld ?_ z134_
    refine one_ (i := 1) (N := some 18) (fl_ 8 5) rfl rfl (one_of HT_.out (by kernel_rfl)) (by decide) (fun K hK => ?_)
    refine goes_ Try.func70 (by kernel_rfl) rfl #[.slice A0 l0.length c0] (by rfl) rfl rfl z1_ ?_
    with_reducible refine (slices_Clone_Node.calls _ _ l0 t513 _ ?side1 ?side2 A5.out).mono ?_
    (case side1 => exact z2_)
    (case side2 => exact HC0.out)
    rintro e w16 ⟨v514, rfl, ho0, hb⟩
    refine ⟨_, rfl, ?_⟩
    have n0_ := Aside0.mk (Kd.R_lower ho0 (below_size z6_))
    have n1_ := Aside0.mk (blk_below (g := gb508) (o := .cells #[.int .i64 a1_0, .slice A1_1 l1_1.length c1_1, .int .i64 a1_2, .int .i64 a1_3, .int .i64 a1_4] 100 (0, 0)) z23_ hb)
    have n2_ := Aside0.mk (below_step z6_ hb)
    clear BK508
    clear HB
    have HO515 := n0_
    have BK508 := n1_
    have HB := n2_
    clear n0_ n1_ n2_
    (try clear hb)
    (try clear hb2)
    (try clear hk)
    (try clear hi)
    (try clear ho0)
    refine hK.out _ _ ⟨(blk_cell BK508.out 0).trans rfl, (blk_cell BK508.out 1).trans rfl, (blk_cell BK508.out 2).trans rfl, (blk_cell BK508.out 3).trans rfl, (blk_cell BK508.out 4).trans rfl⟩ (fun hHeld => ?_)
    clear hK K
    refine zn_ rfl ?_
    refine one_ (i := 5) (N := some 22) (fl_ 8 6) rfl rfl (one_of HT_.out (by kernel_rfl)) (by decide) (fun K hK => ?_)
    refine goes_ Try.func93 (by kernel_rfl) rfl #[.slice A0 l0.length c0, .slice A1_1 l1_1.length c1_1] (by rfl) rfl rfl z1_ ?_
    with_reducible refine (impl_NodeAt.calls k _ _ l0 _ _ l1_1 t516 _ ?side1 ?side2 ?side3 ?side4 A6.out).mono ?_
    (case side1 => exact z2_)
    (case side2 => exact HC0.out)
    (case side3 => exact z31_)
    (case side4 => exact HC1_1.out)
    rintro e w17 ⟨rfl, hb⟩
    refine ⟨_, rfl, ?_⟩
    have n0_ := Aside0.mk (Kd.R_below z52_ hb)
    have n1_ := Aside0.mk (blk_below (g := gb508) (o := .cells #[.int .i64 a1_0, .slice A1_1 l1_1.length c1_1, .int .i64 a1_2, .int .i64 a1_3, .int .i64 a1_4] 100 (0, 0)) z23_ hb)
    have n2_ := Aside0.mk (below_step z6_ hb)
    clear HO515
    clear BK508
    clear HB
    have HO515 := n0_
    have BK508 := n1_
    have HB := n2_
    clear n0_ n1_ n2_
    (try clear hb)
    (try clear hb2)
    (try clear hk)
    (try clear hi)
    refine hK.out _ _ ⟨(blk_cell BK508.out 0).trans rfl, (blk_cell BK508.out 1).trans rfl, (blk_cell BK508.out 2).trans rfl, (blk_cell BK508.out 3).trans rfl, (blk_cell BK508.out 4).trans rfl⟩ (fun hHeld => ?_)
    clear hK K
    refine zn_ rfl ?_
    iterate 2 refine zp_ HT_ rfl rfl (by kernel_rfl) (fun _ _ _ h => h) (by rfl) ?_
    refine done_ (done_of HT_.out (by kernel_rfl)) ?_
    obtain ⟨hcz18_0, hcz18_1, hcz18_2, hcz18_3, hcz18_4, hfz18_0, hfz18_1, hfz18_2, hfz18_3, hfz18_4⟩ := bx5_ BK508.out
    try go_wp2_with (first | ((with_reducible refine gate_callee (f := 94) rfl ?_); refine goesL_ (some 27) rfl rfl Try.func94 (by kernel_rfl) rfl #[.slice A0 l0.length c0, .agg #[.int .i64 a1_0, .slice A1_1 l1_1.length c1_1, .int .i64 a1_2, .int .i64 a1_3, .int .i64 a1_4], .int .i64 t516] rfl z1_ ?_; (with_reducible refine (impl_opCode.calls k _ _ l0 a1_0 _ _ l1_1 a1_2 a1_3 a1_4 t516 t517 t518 t519 _ ?side1 ?side2 ?side3 ?side4 A7.out).mono ?_); (case side1 => exact z2_); (case side2 => exact HC0.out); (case side3 => exact z31_); (case side4 => exact HC1_1.out); rintro e w19 ⟨rfl, hb⟩; refine ⟨_, rfl, ?_⟩; replace HO515 := Aside0.mk (Kd.R_below z52_ hb); replace BK508 := Aside0.mk (blk_below (g := gb508) (o := .cells #[.int .i64 a1_0, .slice A1_1 l1_1.length c1_1, .int .i64 a1_2, .int .i64 a1_3, .int .i64 a1_4] 100 (0, 0)) z23_ hb); replace HB := Aside0.mk (below_step z6_ hb); (try clear hb); obtain ⟨hcz20_0, hcz20_1, hcz20_2, hcz20_3, hcz20_4, hfz20_0, hfz20_1, hfz20_2, hfz20_3, hfz20_4⟩ := bx5_ BK508.out; have p12 : 0 ≤ (t516 : Int) := odt_; have q12 : (t516 : Int) < ((t513.length : Int) : Int) := odt_; obtain ⟨go12, co12, eo12, gb12, gl12, cl12, HG12⟩ := Kd.R_form HO515.out (by omega); (first | cases eo12 | (injection eo12 with ea_ en_ ec_; (first | subst ea_ | (injection ea_ with ea_; subst ea_)); subst ec_; clear en_)); have GB12 := Aside0.mk gb12; have GG12 := Aside0.mk HG12; clear gb12 gl12 HG12; obtain ⟨ce12, hcl12, hM12, hcc12, hfr12⟩ := Kd.R_elem HO515.out z45 (t516 : Int) p12 q12; obtain rfl := k45_openM hM12; have hx12_0 : w19.cell? ⟨go12, (t516 : Int).toNat * 2, none⟩ = some (.int .i64 ((rd_T45 t513 t516).f0)) := hcc12 0 _ rfl; have hx12_1 : w19.cell? ⟨go12, (t516 : Int).toNat * 2 + 1, none⟩ = some (.int .i64 ((rd_T45 t513 t516).f1)) := hcc12 1 _ rfl; have hf12_0 : w19.frozen? ⟨go12, (t516 : Int).toNat * 2, none⟩ = false := hfr12 0; have hf12_1 : w19.frozen? ⟨go12, (t516 : Int).toNat * 2 + 1, none⟩ = false := hfr12 1; clear hcl12 hcc12 hfr12 hM12; replace p12 := eq_true p12; replace q12 := eq_true q12; have HX21 := Aside0.mk (show Kd.R k45 45 w19 w.heap.size (fun _ => True) (.slice (some ⟨go12, 0, none⟩) t513.length co12) t513 from z52_); obtain ⟨ce21, hcl21, hM21, hcc21, hfr21⟩ := Kd.R_elem HX21.out z45 (t516 : Int) (odt_) (by have h_ : (t516 : Int) < ((t513.length : Int) : Int) := odt_; first | exact h_ | (have e_ := (Kd.R_reads' HO515.out).1; omega) | simpa using h_); obtain rfl := k45_openM hM21; have HP21 := Kd.R_seg HX21.out (t516 : Int) (odt_) (by have h_ : (t516 : Int) < ((t513.length : Int) : Int) := odt_; first | exact h_ | (have e_ := (Kd.R_reads' HO515.out).1; omega) | simpa using h_) (seg := [.int .i64 a1_2]) (j := 0) hcl21 hcc21 (show 1 ≤ 2 from by decide) (x' := (⟨a1_2, (rd_T45 t513 t516).f1⟩ : S45)) (k45_mkM _ _ _ (⟨a1_2, (rd_T45 t513 t516).f1⟩ : S45) ) (fun _ hk => hk); have hx21_0 := hcc21 0 _ rfl; (try simp only [show (k45).sz = 2 from rfl, Nat.mul_one, Nat.add_zero] at hx21_0); have hf21_0 := hfr21 0; (try simp only [show (k45).sz = 2 from rfl, Nat.mul_one, Nat.add_zero] at hf21_0); clear hcl21 hcc21 hfr21 hM21) | ((with_reducible refine gate_store (t := 3) (p := 71) rfl ?_); refine store_event (t := 3) (p := 71) (v := ?vo_w22) (w1 := (w19.setCell ⟨go12, (t516 : Int).toNat * 2, none⟩ (.int .i64 a1_2))) ?hg ?ho ?hn ?hr ?_; (case ho => rfl); (case hg => rfl); (case hn => rfl); (case hr => exact z10_); intro w22 hw; have hg : w19.grownBy w22 (some go12) := (by rw [hw]; exact HP21.2); have hp_ : Kd.R k45 45 w22 w.heap.size (fun _ => True) (.slice (some ⟨go12, 0, none⟩) t513.length co12) y520 := (by rw [hw, Ny520.out]; exact HP21.1); clear HP21; replace BK508 := Aside0.mk (blk_grown (g := gb508) (o := .cells #[.int .i64 a1_0, .slice A1_1 l1_1.length c1_1, .int .i64 a1_2, .int .i64 a1_3, .int .i64 a1_4] 100 (0, 0)) z23_ hg (Kd.R_ne HO515.out BK508.out (by decide))); replace HO515 := Aside0.mk (hp_); replace HB := Aside0.mk ((by rw [hw]; exact below_set (HB.out) GB12.out : Below w.heap.size w w22)); clear hg hw hp_))
    go_ret2
    exact ⟨_, z3_, z52_, z6_⟩
   ·rw [if_neg c9] at H
    have c9b0 : (a1_0 == 1) = false := beq_eq_false_iff_ne.mpr c9
    have c9b1 : (a1_0 != 1) = true := bne_iff_ne.mpr c9
    by_cases c23 : a1_0 = 2
    ·rw [if_pos c23] at H
     have c23b0 : (a1_0 == 2) = true := beq_iff_eq.mpr c23
     have c23b1 : (a1_0 != 2) = false := bne_eq_false_iff_eq.mpr c23
     clear c23
     have H' := Aside0.mk H
     clear H
     go_enter Try.func71, Try.ntmps71
     try go_wp2_with (first | ((with_reducible refine gate_dst (N := 3) rfl ?_); refine box_event ?hg (N := 3) ?hd (cs := #[.int .i64 a1_0, .slice A1_1 l1_1.length c1_1, .int .i64 a1_2, .int .i64 a1_3, .int .i64 a1_4]) (t := 100) ?hr ?_; (case hd => rfl); (case hg => rfl); (case hr => exact z10_); intro gb508 hg w24 hbox hb; have BK508 := Aside0.mk (hbox); have GW508 := Aside0.mk ((by rw [hg]; exact (below_size z0_) : w.heap.size ≤ gb508)); have GE508 := Aside0.mk ((by rw [hg]; exact (below_size z0_) : w.heap.size ≤ gb508)); replace HB := Aside0.mk (below_step z0_ hb); clear hb hbox hg) | ((with_reducible refine gate_callee (f := 40) rfl ?_); refine goesL_ (some 14) rfl rfl Try.func40 (by kernel_rfl) rfl #[.slice A0 l0.length c0] rfl z1_ ?_; (with_reducible refine (impl_TreeOk.calls k _ _ l0 true _ ?side1 ?side2 A3.out).mono ?_); (case side1 => exact z2_); (case side2 => exact HC0.out); rintro e w25 ⟨rfl, hb⟩; refine ⟨_, rfl, ?_⟩; replace BK508 := Aside0.mk (blk_below (g := gb508) (o := .cells #[.int .i64 a1_0, .slice A1_1 l1_1.length c1_1, .int .i64 a1_2, .int .i64 a1_3, .int .i64 a1_4] 100 (0, 0)) z23_ hb); replace HB := Aside0.mk (below_step z6_ hb); (try clear hb)))
     have n0_ := Aside0.mk (blk_drew BK508.out)
     have n1_ := Aside0.mk (below_drew1 HB.out)
     clear BK508
     clear HB
     have BK508 := n0_
     have HB := n1_
     clear n0_ n1_
     refine start_ (n := 8) (S := fun w' => w'.cell? ⟨gb508, 0, none⟩ = some (.int .i64 a1_0) ∧ w'.cell? ⟨gb508, 1, none⟩ = some (.slice A1_1 l1_1.length c1_1) ∧ w'.cell? ⟨gb508, 2, none⟩ = some (.int .i64 a1_2) ∧ w'.cell? ⟨gb508, 3, none⟩ = some (.int .i64 a1_3) ∧ w'.cell? ⟨gb508, 4, none⟩ = some (.int .i64 a1_4)) (ds := []) (fl_ 8 0) (by kernel_rfl) rfl (fl_zero _) ⟨(blk_cell BK508.out 0).trans rfl, (blk_cell BK508.out 1).trans rfl, (blk_cell BK508.out 2).trans rfl, (blk_cell BK508.out 3).trans rfl, (blk_cell BK508.out 4).trans rfl⟩ (fun hHeld => ?_); refine with_tabW impl_ApplyOp.tab3 impl_ApplyOp.bits3 (fun HT_ HW_ => ?_)
     generalize w25.drew = w26 at BK508 HB hHeld ⊢
     refine zp_ HT_ rfl rfl (by kernel_rfl) (fun _ _ _ h => h) (by rfl) ?_
     refine zpg_ (i := 2) (ra_ [1, 1, 1, 5]) HT_ rfl rfl (by kernel_rfl) (fun _ _ _ h => h) (by rfl) ?_
     refine zpg_ (i := 3) (ra_ [1, 1, 2, 4]) HT_ rfl rfl (by kernel_rfl) (fun _ _ _ h => h) (by rfl) ?_
     refine ztg_ (i := 4) (ra_ [1, 1, 3, 3]) HT_ HW_ rfl rfl (by kernel_rfl) (fun _ _ _ h => h) (by rfl) hHeld ?_ z134_
     refine one_ (i := 1) (N := some 18) (fl_ 8 5) rfl rfl (one_of HT_.out (by kernel_rfl)) (by decide) (fun K hK => ?_)
     refine goes_ Try.func70 (by kernel_rfl) rfl #[.slice A0 l0.length c0] (by rfl) rfl rfl z1_ ?_
     with_reducible refine (slices_Clone_Node.calls _ _ l0 t513 _ ?side1 ?side2 A5.out).mono ?_
     (case side1 => exact z2_)
     (case side2 => exact HC0.out)
     rintro e w27 ⟨v514, rfl, ho0, hb⟩
     refine ⟨_, rfl, ?_⟩
     have n0_ := Aside0.mk (Kd.R_lower ho0 (below_size z6_))
     have n1_ := Aside0.mk (blk_below (g := gb508) (o := .cells #[.int .i64 a1_0, .slice A1_1 l1_1.length c1_1, .int .i64 a1_2, .int .i64 a1_3, .int .i64 a1_4] 100 (0, 0)) z23_ hb)
     have n2_ := Aside0.mk (below_step z6_ hb)
     clear BK508
     clear HB
     have HO515 := n0_
     have BK508 := n1_
     have HB := n2_
     clear n0_ n1_ n2_
     (try clear hb)
     (try clear hb2)
     (try clear hk)
     (try clear hi)
     (try clear ho0)
     refine hK.out _ _ ⟨(blk_cell BK508.out 0).trans rfl, (blk_cell BK508.out 1).trans rfl, (blk_cell BK508.out 2).trans rfl, (blk_cell BK508.out 3).trans rfl, (blk_cell BK508.out 4).trans rfl⟩ (fun hHeld => ?_)
     clear hK K
     refine zn_ rfl ?_
     refine one_ (i := 5) (N := some 22) (fl_ 8 6) rfl rfl (one_of HT_.out (by kernel_rfl)) (by decide) (fun K hK => ?_)
     refine goes_ Try.func93 (by kernel_rfl) rfl #[.slice A0 l0.length c0, .slice A1_1 l1_1.length c1_1] (by rfl) rfl rfl z1_ ?_
     with_reducible refine (impl_NodeAt.calls k _ _ l0 _ _ l1_1 t516 _ ?side1 ?side2 ?side3 ?side4 A6.out).mono ?_
     (case side1 => exact z2_)
     (case side2 => exact HC0.out)
     (case side3 => exact z31_)
     (case side4 => exact HC1_1.out)
     rintro e w28 ⟨rfl, hb⟩
     refine ⟨_, rfl, ?_⟩
     have n0_ := Aside0.mk (Kd.R_below z52_ hb)
     have n1_ := Aside0.mk (blk_below (g := gb508) (o := .cells #[.int .i64 a1_0, .slice A1_1 l1_1.length c1_1, .int .i64 a1_2, .int .i64 a1_3, .int .i64 a1_4] 100 (0, 0)) z23_ hb)
     have n2_ := Aside0.mk (below_step z6_ hb)
     clear HO515
     clear BK508
     clear HB
     have HO515 := n0_
     have BK508 := n1_
     have HB := n2_
     clear n0_ n1_ n2_
     (try clear hb)
     (try clear hb2)
     (try clear hk)
     (try clear hi)
     refine hK.out _ _ ⟨(blk_cell BK508.out 0).trans rfl, (blk_cell BK508.out 1).trans rfl, (blk_cell BK508.out 2).trans rfl, (blk_cell BK508.out 3).trans rfl, (blk_cell BK508.out 4).trans rfl⟩ (fun hHeld => ?_)
     clear hK K
     refine zn_ rfl ?_
     iterate 2 refine zp_ HT_ rfl rfl (by kernel_rfl) (fun _ _ _ h => h) (by rfl) ?_
     refine done_ (done_of HT_.out (by kernel_rfl)) ?_
     obtain ⟨hcz29_0, hcz29_1, hcz29_2, hcz29_3, hcz29_4, hfz29_0, hfz29_1, hfz29_2, hfz29_3, hfz29_4⟩ := bx5_ BK508.out
     try go_wp2_with (first | ((with_reducible refine gate_callee (f := 94) rfl ?_); refine goesL_ (some 27) rfl rfl Try.func94 (by kernel_rfl) rfl #[.slice A0 l0.length c0, .agg #[.int .i64 a1_0, .slice A1_1 l1_1.length c1_1, .int .i64 a1_2, .int .i64 a1_3, .int .i64 a1_4], .int .i64 t516] rfl z1_ ?_; (with_reducible refine (impl_opCode.calls k _ _ l0 a1_0 _ _ l1_1 a1_2 a1_3 a1_4 t516 t517 t518 t519 _ ?side1 ?side2 ?side3 ?side4 A7.out).mono ?_); (case side1 => exact z2_); (case side2 => exact HC0.out); (case side3 => exact z31_); (case side4 => exact HC1_1.out); rintro e w30 ⟨rfl, hb⟩; refine ⟨_, rfl, ?_⟩; replace HO515 := Aside0.mk (Kd.R_below z52_ hb); replace BK508 := Aside0.mk (blk_below (g := gb508) (o := .cells #[.int .i64 a1_0, .slice A1_1 l1_1.length c1_1, .int .i64 a1_2, .int .i64 a1_3, .int .i64 a1_4] 100 (0, 0)) z23_ hb); replace HB := Aside0.mk (below_step z6_ hb); (try clear hb); obtain ⟨hcz31_0, hcz31_1, hcz31_2, hcz31_3, hcz31_4, hfz31_0, hfz31_1, hfz31_2, hfz31_3, hfz31_4⟩ := bx5_ BK508.out))
     go_loopg [11] k (fun kq v11 w' => ∃ (x6_1 : List (S45)) (x11_1 : Int), v11 = .int .i64 x11_1 ∧ Aside0 (impl_ApplyOp.l0 kq l0 x6_1 t516 x11_1 = some (r1, r2)) ∧ Aside0 (kq ≤ k) ∧ Aside0 (Kd.R k45 45 w' w.heap.size (fun _ => True) v514 x6_1) ∧ Aside0 (w'.heap[gb508]? = some (.cells #[.int .i64 a1_0, (.slice A1_1 l1_1.length c1_1), .int .i64 a1_2, .int .i64 a1_3, .int .i64 a1_4] 100 (0, 0))) ∧ Aside0 (Below w.heap.size w w'))
     case atStart => exact ⟨(t513), (wrap64 (t516 + 1)), z8_, H', ⟨Nat.le_refl _⟩, ⟨z52_⟩, ⟨z23_⟩, ⟨z6_⟩⟩
     case round =>
      clear H'
      try clear c1
      try clear p1
      try clear q1
      try clear hx1
      try clear c2
      try clear p2
      try clear hx2
      try clear hf2
      try clear c4
      try clear p6
      try clear c7
      try clear c8
      try clear c8b0
      try clear c8b1
      try clear c9
      try clear c9b0
      try clear c9b1
      try clear c10
      try clear c10b0
      try clear c11
      try clear c11b0
      try clear c12
      try clear p12
      try clear q12
      try clear hx12
      try clear hf12
      try clear c21
      try clear hx21
      try clear hf21
      try clear c23
      try clear c23b0
      try clear c23b1
      try clear hcz18_0
      try clear hcz18_1
      try clear hcz18_2
      try clear hcz18_3
      try clear hcz18_4
      try clear hcz20_0
      try clear hcz20_1
      try clear hcz20_2
      try clear hcz20_3
      try clear hcz20_4
      try clear hcz29_0
      try clear hcz29_1
      try clear hcz29_2
      try clear hcz29_3
      try clear hcz29_4
      try clear hcz31_0
      try clear hcz31_1
      try clear hcz31_2
      try clear hcz31_3
      try clear hcz31_4
      try clear hfz18_0
      try clear hfz18_1
      try clear hfz18_2
      try clear hfz18_3
      try clear hfz18_4
      try clear hfz20_0
      try clear hfz20_1
      try clear hfz20_2
      try clear hfz20_3
      try clear hfz20_4
      try clear hfz29_0
      try clear hfz29_1
      try clear hfz29_2
      try clear hfz29_3
      try clear hfz29_4
      try clear hfz31_0
      try clear hfz31_1
      try clear hfz31_2
      try clear hfz31_3
      try clear hfz31_4
      try clear hx12_0
      try clear hx12_1
      try clear hx21_0
      try clear p12
      try clear q12
      obtain ⟨x6_1, x11_1, rfl, HA, HK1, HO_6, BK508, HB⟩ := hrel
      cases gk with
      | zero => exact absurd HA.out (by simp [impl_ApplyOp.l0])
      | succ k1 =>
       have H := HA.out
       clear HA
       simp only [impl_ApplyOp.l0] at H
       obtain ⟨t521, A32, H⟩ := bnd_ H
       by_cases c33 : x11_1 < t521
       ·rw [if_pos c33] at H
        have c33b0 := decide_eq_true c33
        clear c33
        obtain ⟨c34b0, H⟩ := ifd_ H
        obtain ⟨c35b0, H⟩ := ifd_ H
        first | ((with_reducible have hz_ := gy_ H); obtain ⟨y523, Ny523, H⟩ := hz_) | (generalize hy_ : ((x6_1.set (x11_1 : Int).toNat (⟨(rd_T45 x6_1 x11_1).f0, wrap64 (((rd_T45 x6_1 x11_1).f1) - 1)⟩ : S45)) : List (S45)) = y523 at H; have Ny523 := Aside0.mk hy_.symm; clear hy_)
        have H' := Aside0.mk H
        clear H
        go_wp2_with (first | ((with_reducible refine gate_callee (f := 80) rfl ?_); refine goesL_ (some 79) rfl rfl Try.func80 (by kernel_rfl) rfl #[.slice A0 l0.length c0, .int .i64 t516] rfl z1_ ?_; (with_reducible refine (impl_endOf.calls k1 _ _ l0 t516 t521 _ ?side1 ?side2 A32.out).mono ?_); (case side1 => exact z2_); (case side2 => exact HC0.out); rintro e w' ⟨rfl, ⟨nd, rfl⟩⟩; refine ⟨_, rfl, ?_⟩; (try (rw [drewN_self wr]; generalize hq_ : World.drewN wr _ = wr; have n0_ : Aside0 (Kd.R k45 45 wr w.heap.size (fun _ => True) v514 x6_1) := ⟨by rw [← hq_]; exact z62_⟩; have n1_ : Aside0 (wr.heap[gb508]? = some (.cells #[.int .i64 a1_0, .slice A1_1 l1_1.length c1_1, .int .i64 a1_2, .int .i64 a1_3, .int .i64 a1_4] 100 (0, 0))) := ⟨by rw [← hq_]; exact z23_⟩; have n2_ : Aside0 (Below w.heap.size w wr) := ⟨by rw [← hq_]; exact z6_⟩; clear HO_6 BK508 HB hq_; have HO_6 := n0_; have BK508 := n1_; have HB := n2_; clear n0_ n1_ n2_)); obtain ⟨Ao37, co37, eo37⟩ := Kd.R_slice HO_6.out; subst eo37; have p522 : 0 ≤ (x11_1 : Int) := odt_; have q522 : x11_1 < (x6_1.length : Int) := odt_; obtain ⟨ad522, e522, hx522_0, hx522_1⟩ := at_T45 (Kd.R_reads' HO_6.out).2.2 x11_1 p522 q522; cases e522; replace p522 := eq_true p522; replace q522 := eq_true q522; have p36 : 0 ≤ (x11_1 : Int) := odt_; have q36 : (x11_1 : Int) < ((x6_1.length : Int) : Int) := odt_; obtain ⟨go36, co36, eo36, gb36, gl36, cl36, HG36⟩ := Kd.R_form HO_6.out (by omega); (first | cases eo36 | (injection eo36 with ea_ en_ ec_; (first | subst ea_ | (injection ea_ with ea_; subst ea_)); subst ec_; clear en_)); have GB36 := Aside0.mk gb36; have GG36 := Aside0.mk HG36; clear gb36 gl36 HG36; (first | simp only [add_plain] at hx522_0 | skip); (first | simp only [add_plain] at hx522_1 | skip); obtain ⟨ce36, hcl36, hM36, hcc36, hfr36⟩ := Kd.R_elem HO_6.out z45 (x11_1 : Int) p36 q36; obtain rfl := k45_openM hM36; have hx36_0 : wr.cell? ⟨go36, (x11_1 : Int).toNat * 2, none⟩ = some (.int .i64 ((rd_T45 x6_1 x11_1).f0)) := hcc36 0 _ rfl; have hx36_1 : wr.cell? ⟨go36, (x11_1 : Int).toNat * 2 + 1, none⟩ = some (.int .i64 ((rd_T45 x6_1 x11_1).f1)) := hcc36 1 _ rfl; have hf36_0 : wr.frozen? ⟨go36, (x11_1 : Int).toNat * 2, none⟩ = false := hfr36 0; have hf36_1 : wr.frozen? ⟨go36, (x11_1 : Int).toNat * 2 + 1, none⟩ = false := hfr36 1; clear hcl36 hcc36 hfr36 hM36; replace p36 := eq_true p36; replace q36 := eq_true q36; have HX38 := Aside0.mk (show Kd.R k45 45 wr w.heap.size (fun _ => True) (.slice (some ⟨go36, 0, none⟩) x6_1.length co37) x6_1 from z62_); obtain ⟨ce38, hcl38, hM38, hcc38, hfr38⟩ := Kd.R_elem HX38.out z45 (x11_1 : Int) (odt_) (by have h_ : (x11_1 : Int) < ((x6_1.length : Int) : Int) := odt_; first | exact h_ | (have e_ := (Kd.R_reads' HO_6.out).1; omega) | simpa using h_); obtain rfl := k45_openM hM38; have HP38 := Kd.R_seg HX38.out (x11_1 : Int) (odt_) (by have h_ : (x11_1 : Int) < ((x6_1.length : Int) : Int) := odt_; first | exact h_ | (have e_ := (Kd.R_reads' HO_6.out).1; omega) | simpa using h_) (seg := [.int .i64 (wrap64 (((rd_T45 x6_1 x11_1).f1) - 1))]) (j := 1) hcl38 hcc38 (show 2 ≤ 2 from by decide) (x' := (⟨(rd_T45 x6_1 x11_1).f0, wrap64 (((rd_T45 x6_1 x11_1).f1) - 1)⟩ : S45)) (k45_mkM _ _ _ (⟨(rd_T45 x6_1 x11_1).f0, wrap64 (((rd_T45 x6_1 x11_1).f1) - 1)⟩ : S45) ) (fun _ hk => hk); have hx38_1 := hcc38 1 _ rfl; (try simp only [show (k45).sz = 2 from rfl, Nat.mul_one, Nat.add_zero] at hx38_1); have hf38_1 := hfr38 1; (try simp only [show (k45).sz = 2 from rfl, Nat.mul_one, Nat.add_zero] at hf38_1); clear hcl38 hcc38 hfr38 hM38) | ((with_reducible refine gate_store (t := 3) (p := 90) rfl ?_); refine store_event (t := 3) (p := 90) (v := ?vo_w39) (w1 := (wr.setCell ⟨go36, (x11_1 : Int).toNat * 2 + 1, none⟩ (.int .i64 (wrap64 (((rd_T45 x6_1 x11_1).f1) - 1))))) ?hg ?ho ?hn ?hr ?_; (case ho => rfl); (case hg => rfl); (case hn => rfl); (case hr => exact z10_); intro w39 hw; have hg : wr.grownBy w39 (some go36) := (by rw [hw]; exact HP38.2); have hp_ : Kd.R k45 45 w39 w.heap.size (fun _ => True) (.slice (some ⟨go36, 0, none⟩) x6_1.length co37) y523 := (by rw [hw, Ny523.out]; exact HP38.1); clear HP38; replace BK508 := Aside0.mk (blk_grown (g := gb508) (o := .cells #[.int .i64 a1_0, .slice A1_1 l1_1.length c1_1, .int .i64 a1_2, .int .i64 a1_3, .int .i64 a1_4] 100 (0, 0)) z23_ hg (Kd.R_ne HO_6.out BK508.out (by decide))); replace HO_6 := Aside0.mk (hp_); replace HB := Aside0.mk ((by rw [hw]; exact below_set (HB.out) GB36.out : Below w.heap.size w w39)); clear hg hw hp_))
        go_roundg k1
        case measure => have := HK1.out; omega
        case rel => exact ⟨(y523), (wrap64 (x11_1 + 1)), z8_, H', ⟨z93_⟩, ⟨z62_⟩, ⟨z23_⟩, ⟨z6_⟩⟩
       ·rw [if_neg c33] at H
        have c33b0 := decide_eq_false c33
        clear c33
        obtain ⟨t524, A40, H⟩ := bnd_ H
        simp only [Option.some.injEq, Prod.mk.injEq] at H
        obtain ⟨rfl, rfl⟩ := H
        go_wp2_with (first | ((with_reducible refine gate_callee (f := 80) rfl ?_); refine goesL_ (some 79) rfl rfl Try.func80 (by kernel_rfl) rfl #[.slice A0 l0.length c0, .int .i64 t516] rfl z1_ ?_; (with_reducible refine (impl_endOf.calls k1 _ _ l0 t516 t521 _ ?side1 ?side2 A32.out).mono ?_); (case side1 => exact z2_); (case side2 => exact HC0.out); rintro e w' ⟨rfl, ⟨nd, rfl⟩⟩; refine ⟨_, rfl, ?_⟩; obtain ⟨Ao41, co41, eo41⟩ := Kd.R_slice HO_6.out; subst eo41) | ((with_reducible refine gate_callee (f := 95) rfl ?_); refine goesL_ (some 95) rfl rfl Try.func95 (by kernel_rfl) rfl #[.slice Ao41 x6_1.length co41, .int .i64 t516, .int .i64 (wrap64 (t516 + 1))] rfl z1_ ?_; (with_reducible refine (slices_Delete_Node.calls (fun k_ => some k_ = (.slice Ao41 x6_1.length co41 : Value).ownBlock) (.slice Ao41 x6_1.length co41) x6_1 t516 (wrap64 (t516 + 1)) t524 w _ ?side1 ?side2 A40.out).mono ?_); (case side1 => exact z6_); (case side2 => exact z154_); rintro e w42 ⟨v525, rfl, ho0, hb, hkp⟩; refine ⟨_, rfl, ?_⟩; replace BK508 := Aside0.mk (blk_kept z23_ hkp (fun hs_ => (fun e_ => (Kd.R_ne HO_6.out BK508.out (by decide)) e_) hs_)); have HO526 := Aside0.mk (Kd.R_mono (ok' := fun k_ => True) ho0 (fun k_ hk_ => trivial)); replace HB := Aside0.mk (hb); clear HO_6; (try clear hb hkp ho0)))
        go_ret2
        exact ⟨_, z3_, by (with_reducible repeat (first | apply Kd.R_alloc | apply Kd.R_drewN | apply Kd.R_drew)); exact HO526.out, z6_⟩
    ·rw [if_neg c23] at H
     have c23b0 : (a1_0 == 2) = false := beq_eq_false_iff_ne.mpr c23
     have c23b1 : (a1_0 != 2) = true := bne_iff_ne.mpr c23
     have H' := Aside0.mk H
     clear H
     go_enter Try.func71, Try.ntmps71
     try go_wp2_with (first | ((with_reducible refine gate_dst (N := 3) rfl ?_); refine box_event ?hg (N := 3) ?hd (cs := #[.int .i64 a1_0, .slice A1_1 l1_1.length c1_1, .int .i64 a1_2, .int .i64 a1_3, .int .i64 a1_4]) (t := 100) ?hr ?_; (case hd => rfl); (case hg => rfl); (case hr => exact z10_); intro gb508 hg w43 hbox hb; have BK508 := Aside0.mk (hbox); have GW508 := Aside0.mk ((by rw [hg]; exact (below_size z0_) : w.heap.size ≤ gb508)); have GE508 := Aside0.mk ((by rw [hg]; exact (below_size z0_) : w.heap.size ≤ gb508)); replace HB := Aside0.mk (below_step z0_ hb); clear hb hbox hg) | ((with_reducible refine gate_callee (f := 40) rfl ?_); refine goesL_ (some 14) rfl rfl Try.func40 (by kernel_rfl) rfl #[.slice A0 l0.length c0] rfl z1_ ?_; (with_reducible refine (impl_TreeOk.calls k _ _ l0 true _ ?side1 ?side2 A3.out).mono ?_); (case side1 => exact z2_); (case side2 => exact HC0.out); rintro e w44 ⟨rfl, hb⟩; refine ⟨_, rfl, ?_⟩; replace BK508 := Aside0.mk (blk_below (g := gb508) (o := .cells #[.int .i64 a1_0, .slice A1_1 l1_1.length c1_1, .int .i64 a1_2, .int .i64 a1_3, .int .i64 a1_4] 100 (0, 0)) z23_ hb); replace HB := Aside0.mk (below_step z6_ hb); (try clear hb)))
     have n0_ := Aside0.mk (blk_drew BK508.out)
     have n1_ := Aside0.mk (below_drew1 HB.out)
     clear BK508
     clear HB
     have BK508 := n0_
     have HB := n1_
     clear n0_ n1_
     refine start_ (n := 8) (S := fun w' => w'.cell? ⟨gb508, 0, none⟩ = some (.int .i64 a1_0) ∧ w'.cell? ⟨gb508, 1, none⟩ = some (.slice A1_1 l1_1.length c1_1) ∧ w'.cell? ⟨gb508, 2, none⟩ = some (.int .i64 a1_2) ∧ w'.cell? ⟨gb508, 3, none⟩ = some (.int .i64 a1_3) ∧ w'.cell? ⟨gb508, 4, none⟩ = some (.int .i64 a1_4)) (ds := []) (fl_ 8 0) (by kernel_rfl) rfl (fl_zero _) ⟨(blk_cell BK508.out 0).trans rfl, (blk_cell BK508.out 1).trans rfl, (blk_cell BK508.out 2).trans rfl, (blk_cell BK508.out 3).trans rfl, (blk_cell BK508.out 4).trans rfl⟩ (fun hHeld => ?_); refine with_tabW impl_ApplyOp.tab3 impl_ApplyOp.bits3 (fun HT_ HW_ => ?_)
     generalize w44.drew = w45 at BK508 HB hHeld ⊢
     refine zp_ HT_ rfl rfl (by kernel_rfl) (fun _ _ _ h => h) (by rfl) ?_
     refine zpg_ (i := 2) (ra_ [1, 1, 1, 5]) HT_ rfl rfl (by kernel_rfl) (fun _ _ _ h => h) (by rfl) ?_
     refine zpg_ (i := 3) (ra_ [1, 1, 2, 4]) HT_ rfl rfl (by kernel_rfl) (fun _ _ _ h => h) (by rfl) ?_
     refine ztg_ (i := 4) (ra_ [1, 1, 3, 3]) HT_ HW_ rfl rfl (by kernel_rfl) (fun _ _ _ h => h) (by rfl) hHeld ?_ z134_
     refine one_ (i := 1) (N := some 18) (fl_ 8 5) rfl rfl (one_of HT_.out (by kernel_rfl)) (by decide) (fun K hK => ?_)
     refine goes_ Try.func70 (by kernel_rfl) rfl #[.slice A0 l0.length c0] (by rfl) rfl rfl z1_ ?_
     with_reducible refine (slices_Clone_Node.calls _ _ l0 t513 _ ?side1 ?side2 A5.out).mono ?_
     (case side1 => exact z2_)
     (case side2 => exact HC0.out)
     rintro e w46 ⟨v514, rfl, ho0, hb⟩
     refine ⟨_, rfl, ?_⟩
     have n0_ := Aside0.mk (Kd.R_lower ho0 (below_size z6_))
     have n1_ := Aside0.mk (blk_below (g := gb508) (o := .cells #[.int .i64 a1_0, .slice A1_1 l1_1.length c1_1, .int .i64 a1_2, .int .i64 a1_3, .int .i64 a1_4] 100 (0, 0)) z23_ hb)
     have n2_ := Aside0.mk (below_step z6_ hb)
     clear BK508
     clear HB
     have HO515 := n0_
     have BK508 := n1_
     have HB := n2_
     clear n0_ n1_ n2_
     (try clear hb)
     (try clear hb2)
     (try clear hk)
     (try clear hi)
     (try clear ho0)
     refine hK.out _ _ ⟨(blk_cell BK508.out 0).trans rfl, (blk_cell BK508.out 1).trans rfl, (blk_cell BK508.out 2).trans rfl, (blk_cell BK508.out 3).trans rfl, (blk_cell BK508.out 4).trans rfl⟩ (fun hHeld => ?_)
     clear hK K
     refine zn_ rfl ?_
     refine one_ (i := 5) (N := some 22) (fl_ 8 6) rfl rfl (one_of HT_.out (by kernel_rfl)) (by decide) (fun K hK => ?_)
     refine goes_ Try.func93 (by kernel_rfl) rfl #[.slice A0 l0.length c0, .slice A1_1 l1_1.length c1_1] (by rfl) rfl rfl z1_ ?_
     with_reducible refine (impl_NodeAt.calls k _ _ l0 _ _ l1_1 t516 _ ?side1 ?side2 ?side3 ?side4 A6.out).mono ?_
     (case side1 => exact z2_)
     (case side2 => exact HC0.out)
     (case side3 => exact z31_)
     (case side4 => exact HC1_1.out)
     rintro e w47 ⟨rfl, hb⟩
     refine ⟨_, rfl, ?_⟩
     have n0_ := Aside0.mk (Kd.R_below z52_ hb)
     have n1_ := Aside0.mk (blk_below (g := gb508) (o := .cells #[.int .i64 a1_0, .slice A1_1 l1_1.length c1_1, .int .i64 a1_2, .int .i64 a1_3, .int .i64 a1_4] 100 (0, 0)) z23_ hb)
     have n2_ := Aside0.mk (below_step z6_ hb)
     clear HO515
     clear BK508
     clear HB
     have HO515 := n0_
     have BK508 := n1_
     have HB := n2_
     clear n0_ n1_ n2_
     (try clear hb)
     (try clear hb2)
     (try clear hk)
     (try clear hi)
     refine hK.out _ _ ⟨(blk_cell BK508.out 0).trans rfl, (blk_cell BK508.out 1).trans rfl, (blk_cell BK508.out 2).trans rfl, (blk_cell BK508.out 3).trans rfl, (blk_cell BK508.out 4).trans rfl⟩ (fun hHeld => ?_)
     clear hK K
     refine zn_ rfl ?_
     iterate 2 refine zp_ HT_ rfl rfl (by kernel_rfl) (fun _ _ _ h => h) (by rfl) ?_
     refine done_ (done_of HT_.out (by kernel_rfl)) ?_
     obtain ⟨hcz48_0, hcz48_1, hcz48_2, hcz48_3, hcz48_4, hfz48_0, hfz48_1, hfz48_2, hfz48_3, hfz48_4⟩ := bx5_ BK508.out
     try go_wp2_with (first | ((with_reducible refine gate_callee (f := 94) rfl ?_); refine goesL_ (some 27) rfl rfl Try.func94 (by kernel_rfl) rfl #[.slice A0 l0.length c0, .agg #[.int .i64 a1_0, .slice A1_1 l1_1.length c1_1, .int .i64 a1_2, .int .i64 a1_3, .int .i64 a1_4], .int .i64 t516] rfl z1_ ?_; (with_reducible refine (impl_opCode.calls k _ _ l0 a1_0 _ _ l1_1 a1_2 a1_3 a1_4 t516 t517 t518 t519 _ ?side1 ?side2 ?side3 ?side4 A7.out).mono ?_); (case side1 => exact z2_); (case side2 => exact HC0.out); (case side3 => exact z31_); (case side4 => exact HC1_1.out); rintro e w49 ⟨rfl, hb⟩; refine ⟨_, rfl, ?_⟩; replace HO515 := Aside0.mk (Kd.R_below z52_ hb); replace BK508 := Aside0.mk (blk_below (g := gb508) (o := .cells #[.int .i64 a1_0, .slice A1_1 l1_1.length c1_1, .int .i64 a1_2, .int .i64 a1_3, .int .i64 a1_4] 100 (0, 0)) z23_ hb); replace HB := Aside0.mk (below_step z6_ hb); (try clear hb); obtain ⟨hcz50_0, hcz50_1, hcz50_2, hcz50_3, hcz50_4, hfz50_0, hfz50_1, hfz50_2, hfz50_3, hfz50_4⟩ := bx5_ BK508.out))
     go_loopg [12] k (fun kq v12 w' => ∃ (x6_1 : List (S45)) (x12_1 : Int), v12 = .int .i64 x12_1 ∧ Aside0 (impl_ApplyOp.l1 kq l0 x6_1 t516 t518 t519 x12_1 a1_0 l1_1 a1_2 a1_3 a1_4 = some (r1, r2)) ∧ Aside0 (kq ≤ k) ∧ Aside0 (Kd.R k45 45 w' w.heap.size (fun _ => True) v514 x6_1) ∧ Aside0 (w'.heap[gb508]? = some (.cells #[.int .i64 a1_0, (.slice A1_1 l1_1.length c1_1), .int .i64 a1_2, .int .i64 a1_3, .int .i64 a1_4] 100 (0, 0))) ∧ Aside0 (Below w.heap.size w w'))
     case atStart => exact ⟨(t513), (t518), z8_, H', ⟨Nat.le_refl _⟩, ⟨z52_⟩, ⟨z23_⟩, ⟨z6_⟩⟩
     case round =>
      clear H'
      try clear c1
      try clear p1
      try clear q1
      try clear hx1
      try clear c2
      try clear p2
      try clear hx2
      try clear hf2
      try clear c3
      try clear p3
      try clear q3
      try clear hx3
      try clear hf3
      try clear c4
      try clear p5
      try clear q5
      try clear hx5
      try clear p6
      try clear c7
      try clear c8
      try clear c8b0
      try clear c8b1
      try clear c9
      try clear c9b0
      try clear c9b1
      try clear c10
      try clear c10b0
      try clear c11
      try clear c11b0
      try clear c12
      try clear p12
      try clear q12
      try clear hx12
      try clear hf12
      try clear c21
      try clear hx21
      try clear hf21
      try clear c23
      try clear c23b0
      try clear c23b1
      try clear c33
      try clear c33b0
      try clear c34
      try clear c34b0
      try clear c35
      try clear c35b0
      try clear c36
      try clear p36
      try clear q36
      try clear hx36
      try clear hf36
      try clear c38
      try clear hx38
      try clear hf38
      try clear c40
      try clear hcz18_0
      try clear hcz18_1
      try clear hcz18_2
      try clear hcz18_3
      try clear hcz18_4
      try clear hcz20_0
      try clear hcz20_1
      try clear hcz20_2
      try clear hcz20_3
      try clear hcz20_4
      try clear hcz29_0
      try clear hcz29_1
      try clear hcz29_2
      try clear hcz29_3
      try clear hcz29_4
      try clear hcz31_0
      try clear hcz31_1
      try clear hcz31_2
      try clear hcz31_3
      try clear hcz31_4
      try clear hcz48_0
      try clear hcz48_1
      try clear hcz48_2
      try clear hcz48_3
      try clear hcz48_4
      try clear hcz50_0
      try clear hcz50_1
      try clear hcz50_2
      try clear hcz50_3
      try clear hcz50_4
      try clear hfz18_0
      try clear hfz18_1
      try clear hfz18_2
      try clear hfz18_3
      try clear hfz18_4
      try clear hfz20_0
      try clear hfz20_1
      try clear hfz20_2
      try clear hfz20_3
      try clear hfz20_4
      try clear hfz29_0
      try clear hfz29_1
      try clear hfz29_2
      try clear hfz29_3
      try clear hfz29_4
      try clear hfz31_0
      try clear hfz31_1
      try clear hfz31_2
      try clear hfz31_3
      try clear hfz31_4
      try clear hfz48_0
      try clear hfz48_1
      try clear hfz48_2
      try clear hfz48_3
      try clear hfz48_4
      try clear hfz50_0
      try clear hfz50_1
      try clear hfz50_2
      try clear hfz50_3
      try clear hfz50_4
      try clear hx12_0
      try clear hx12_1
      try clear hx21_0
      try clear hx36_0
      try clear hx36_1
      try clear hx38_1
      try clear hx522_0
      try clear hx522_1
      try clear p1
      try clear p12
      try clear p2
      try clear p36
      try clear p522
      try clear p6
      try clear q1
      try clear q12
      try clear q36
      try clear q522
      obtain ⟨x6_1, x12_1, rfl, HA, HK1, HO_6, BK508, HB⟩ := hrel
      cases gk with
      | zero => exact absurd HA.out (by simp [impl_ApplyOp.l1])
      | succ k1 =>
       have H := HA.out
       clear HA
       simp only [impl_ApplyOp.l1] at H
       by_cases c51 : x12_1 < t519
       ·rw [if_pos c51] at H
        have c51b0 := decide_eq_true c51
        clear c51
        obtain ⟨c52b0, H⟩ := ifd_ H
        obtain ⟨c53b0, H⟩ := ifd_ H
        first | ((with_reducible have hz_ := gy_ H); obtain ⟨y528, Ny528, H⟩ := hz_) | (generalize hy_ : ((x6_1.set (x12_1 : Int).toNat (⟨(rd_T45 x6_1 x12_1).f0, wrap64 (((rd_T45 x6_1 x12_1).f1) + 1)⟩ : S45)) : List (S45)) = y528 at H; have Ny528 := Aside0.mk hy_.symm; clear hy_)
        have H' := Aside0.mk H
        clear H
        obtain ⟨Ao55, co55, eo55⟩ := Kd.R_slice HO_6.out
        subst eo55
        have p527 : 0 ≤ (x12_1 : Int) := odt_
        have q527 : x12_1 < (x6_1.length : Int) := odt_
        obtain ⟨ad527, e527, hx527_0, hx527_1⟩ := at_T45 (Kd.R_reads' HO_6.out).2.2 x12_1 p527 q527
        cases e527
        replace p527 := eq_true p527
        replace q527 := eq_true q527
        have p54 : 0 ≤ (x12_1 : Int) := odt_
        have q54 : (x12_1 : Int) < ((x6_1.length : Int) : Int) := odt_
        obtain ⟨go54, co54, eo54, gb54, gl54, cl54, HG54⟩ := Kd.R_form HO_6.out (by omega)
        (first | cases eo54 | (injection eo54 with ea_ en_ ec_; (first | subst ea_ | (injection ea_ with ea_; subst ea_)); subst ec_; clear en_))
        have GB54 := Aside0.mk gb54
        have GG54 := Aside0.mk HG54
        clear gb54 gl54 HG54
        (first | simp only [add_plain] at hx527_0 | skip)
        (first | simp only [add_plain] at hx527_1 | skip)
        obtain ⟨ce54, hcl54, hM54, hcc54, hfr54⟩ := Kd.R_elem HO_6.out z45 (x12_1 : Int) p54 q54
        obtain rfl := k45_openM hM54
        have hx54_0 : wr.cell? ⟨go54, (x12_1 : Int).toNat * 2, none⟩ = some (.int .i64 ((rd_T45 x6_1 x12_1).f0)) := hcc54 0 _ rfl
        have hx54_1 : wr.cell? ⟨go54, (x12_1 : Int).toNat * 2 + 1, none⟩ = some (.int .i64 ((rd_T45 x6_1 x12_1).f1)) := hcc54 1 _ rfl
        have hf54_0 : wr.frozen? ⟨go54, (x12_1 : Int).toNat * 2, none⟩ = false := hfr54 0
        have hf54_1 : wr.frozen? ⟨go54, (x12_1 : Int).toNat * 2 + 1, none⟩ = false := hfr54 1
        clear hcl54 hcc54 hfr54 hM54
        replace p54 := eq_true p54
        replace q54 := eq_true q54
        have HX56 := Aside0.mk (show Kd.R k45 45 wr w.heap.size (fun _ => True) (.slice (some ⟨go54, 0, none⟩) x6_1.length co55) x6_1 from z62_)
        obtain ⟨ce56, hcl56, hM56, hcc56, hfr56⟩ := Kd.R_elem HX56.out z45 (x12_1 : Int) (odt_) (by have h_ : (x12_1 : Int) < ((x6_1.length : Int) : Int) := odt_; first | exact h_ | (have e_ := (Kd.R_reads' HO_6.out).1; omega) | simpa using h_)
        obtain rfl := k45_openM hM56
        have HP56 := Kd.R_seg HX56.out (x12_1 : Int) (odt_) (by have h_ : (x12_1 : Int) < ((x6_1.length : Int) : Int) := odt_; first | exact h_ | (have e_ := (Kd.R_reads' HO_6.out).1; omega) | simpa using h_) (seg := [.int .i64 (wrap64 (((rd_T45 x6_1 x12_1).f1) + 1))]) (j := 1) hcl56 hcc56 (show 2 ≤ 2 from by decide) (x' := (⟨(rd_T45 x6_1 x12_1).f0, wrap64 (((rd_T45 x6_1 x12_1).f1) + 1)⟩ : S45)) (k45_mkM _ _ _ (⟨(rd_T45 x6_1 x12_1).f0, wrap64 (((rd_T45 x6_1 x12_1).f1) + 1)⟩ : S45) ) (fun _ hk => hk)
        have hx56_1 := hcc56 1 _ rfl
        (try simp only [show (k45).sz = 2 from rfl, Nat.mul_one, Nat.add_zero] at hx56_1)
        have hf56_1 := hfr56 1
        (try simp only [show (k45).sz = 2 from rfl, Nat.mul_one, Nat.add_zero] at hf56_1)
        clear hcl56 hcc56 hfr56 hM56
        go_wp2_with (first | ((with_reducible refine gate_store (t := 3) (p := 50) rfl ?_); refine store_event (t := 3) (p := 50) (v := ?vo_w57) (w1 := (wr.setCell ⟨go54, (x12_1 : Int).toNat * 2 + 1, none⟩ (.int .i64 (wrap64 (((rd_T45 x6_1 x12_1).f1) + 1))))) ?hg ?ho ?hn ?hr ?_; (case ho => rfl); (case hg => rfl); (case hn => rfl); (case hr => exact z10_); intro w57 hw; have hg : wr.grownBy w57 (some go54) := (by rw [hw]; exact HP56.2); have hp_ : Kd.R k45 45 w57 w.heap.size (fun _ => True) (.slice (some ⟨go54, 0, none⟩) x6_1.length co55) y528 := (by rw [hw, Ny528.out]; exact HP56.1); clear HP56; replace BK508 := Aside0.mk (blk_grown (g := gb508) (o := .cells #[.int .i64 a1_0, .slice A1_1 l1_1.length c1_1, .int .i64 a1_2, .int .i64 a1_3, .int .i64 a1_4] 100 (0, 0)) z23_ hg (Kd.R_ne HO_6.out BK508.out (by decide))); replace HO_6 := Aside0.mk (hp_); replace HB := Aside0.mk ((by rw [hw]; exact below_set (HB.out) GB54.out : Below w.heap.size w w57)); clear hg hw hp_))
        go_roundg k1
        case measure => have := HK1.out; omega
        case rel => exact ⟨(y528), (wrap64 (x12_1 + 1)), z8_, H', ⟨z93_⟩, ⟨z62_⟩, ⟨z23_⟩, ⟨z6_⟩⟩
       ·rw [if_neg c51] at H
        have c51b0 := decide_eq_false c51
        clear c51
        obtain ⟨c58b0, H⟩ := ifd_ H
        obtain ⟨c59b0, H⟩ := ifd_ H
        first | ((with_reducible have hz_ := gy_ H); obtain ⟨y530, Ny530, H⟩ := hz_) | (generalize hy_ : ((([(⟨a1_2, wrap64 (((rd_T45 l0 t516).f1) + 1)⟩ : S45)] : List (S45))) : List (S45)) = y530 at H; have Ny530 := Aside0.mk hy_.symm; clear hy_)
        obtain ⟨t533, A60, H⟩ := bnd_ H
        simp only [Option.some.injEq, Prod.mk.injEq] at H
        obtain ⟨rfl, rfl⟩ := H
        try go_wp2
        have n0_ := Aside0.mk (Kd.R_drew HO_6.out)
        have n1_ := Aside0.mk (blk_drew BK508.out)
        have n2_ := Aside0.mk (below_drew1 HB.out)
        clear HO_6
        clear BK508
        clear HB
        have HO_6 := n0_
        have BK508 := n1_
        have HB := n2_
        clear n0_ n1_ n2_
        obtain ⟨p529, q529, ad529, e529, hw529_0, hw529_1, hx529_0, hx529_1⟩ := atw45_ HR0 HB t516
        cases e529
        refine start_ (n := 14) (S := fun w' => w'.cell? ⟨gb508, 0, none⟩ = some (.int .i64 a1_0) ∧ w'.cell? ⟨gb508, 1, none⟩ = some (.slice A1_1 l1_1.length c1_1) ∧ w'.cell? ⟨gb508, 2, none⟩ = some (.int .i64 a1_2) ∧ w'.cell? ⟨gb508, 3, none⟩ = some (.int .i64 a1_3) ∧ w'.cell? ⟨gb508, 4, none⟩ = some (.int .i64 a1_4) ∧ w'.cell? (ad529.add ((t516).toNat * 2)) = some (.int .i64 ((rd_T45 l0 t516).f0)) ∧ w'.cell? ⟨(ad529.add ((t516).toNat * 2)).block, (ad529.add ((t516).toNat * 2)).off + 1, none⟩ = some (.int .i64 ((rd_T45 l0 t516).f1))) (ds := []) (fl_ 14 0) (by kernel_rfl) rfl (fl_zero _) ⟨(blk_cell BK508.out 0).trans rfl, (blk_cell BK508.out 1).trans rfl, (blk_cell BK508.out 2).trans rfl, (blk_cell BK508.out 3).trans rfl, (blk_cell BK508.out 4).trans rfl, ((HB.out.cell (World.block_lt_of_cell? w _ hw529_0)).trans hw529_0), ((HB.out.cell (World.block_lt_of_cell? w _ hw529_1)).trans hw529_1)⟩ (fun hHeld => ?_); refine with_tabW impl_ApplyOp.tab12 impl_ApplyOp.bits12 (fun HT_ HW_ => ?_)
        generalize wr.drew = w61 at HO_6 BK508 HB hx529_0 hx529_1 hHeld ⊢
        iterate 3 refine zp_ HT_ rfl rfl (by kernel_rfl) (fun _ _ _ h => h) (by rfl) ?_
        refine zpg_ (i := 4) (ra_ [3, 1, 1, 9]) HT_ rfl rfl (by kernel_rfl) (fun _ _ _ h => h) (by rfl) ?_
        refine zpg_ (i := 5) (ra_ [3, 1, 2, 8]) HT_ rfl rfl (by kernel_rfl) (fun _ _ _ h => h) (by rfl) ?_
        refine zpg_ (i := 6) (ra_ [3, 1, 3, 7]) HT_ rfl rfl (by kernel_rfl) (fun _ _ _ h => h) (by rfl) ?_
        refine zpg_ (i := 7) (ra_ [3, 1, 4, 6]) HT_ rfl rfl (by kernel_rfl) (fun _ _ _ h => h) (by rfl) ?_
        refine ztg_ (i := 3) (fl_ 14 8) HT_ HW_ rfl rfl (by kernel_rfl) (fun _ _ _ h => h) (by rfl) hHeld ?_ z133_
        refine zt_ HT_ HW_ rfl rfl (by kernel_rfl) (fun _ _ _ h => h) (by rfl) hHeld ?_ z133_
        iterate 2 refine zp_ HT_ rfl rfl (by kernel_rfl) (fun _ _ _ h => h) (by rfl) ?_
        refine one_ (i := 11) (N := some 62) (fl_ 14 12) rfl rfl (one_of HT_.out (by kernel_rfl)) (by decide) (fun K hK => ?_)
        refine Kd.R_lit_step k45 _ 45 ?hg (N := 62) ?hd (xs := ([(⟨a1_2, wrap64 (((rd_T45 l0 t516).f1) + 1)⟩ : S45)] : List (S45))) (inner := [.int .i64 a1_2, .int .i64 (wrap64 (((rd_T45 l0 t516).f1) + 1))]) (ok := fun _ => True) (okp := fun _ => True) ?hr ?hp (fun _ hk => hk) trivial (Below.refl _ _) (Nat.le_refl _) (by simp) ?_; (case hd => rfl); (case hg => rfl); (case hr => exact z10_); (case hp => exact (Reps.c2 (show Kd.M k45 _ _ _ (⟨a1_2, wrap64 (((rd_T45 l0 t516).f1) + 1)⟩ : S45) [.int .i64 a1_2, .int .i64 (wrap64 (((rd_T45 l0 t516).f1) + 1))] from (k45_mkM _ _ _ (⟨a1_2, wrap64 (((rd_T45 l0 t516).f1) + 1)⟩ : S45) )) (Reps.none _ _)))
        intro v531 w62 ho63 hb hg_ hnew_
        clear hg_ hnew_
        (first | rw [← Ny530.out] at ho63 | (simp only [Int.reduceToNat] at ho63; rw [← Ny530.out] at ho63))
        have n0_ := Aside0.mk (Kd.R_elder' z62_ (Kd.R_base ho63) hb)
        have n1_ := Aside0.mk (Kd.R_lower (Kd.R_new' ho63 (Kd.R_lt z62_)) (below_size z6_))
        have n2_ := Aside0.mk (blk_below (g := gb508) (o := .cells #[.int .i64 a1_0, .slice A1_1 l1_1.length c1_1, .int .i64 a1_2, .int .i64 a1_3, .int .i64 a1_4] 100 (0, 0)) z23_ hb)
        have n3_ := Aside0.mk (below_step z6_ hb)
        clear HO_6
        clear BK508
        clear HB
        have HO_6 := n0_
        have HO532 := n1_
        have BK508 := n2_
        have HB := n3_
        clear n0_ n1_ n2_ n3_
        clear hb ho63
        obtain ⟨Ao64, co64, eo64⟩ := Kd.R_slice HO_6.out
        (first | subst eo64 | (injection eo64 with f1_ f2_ f3_; have f4_ := f1_.symm; have f5_ := f3_.symm; clear f1_ f2_ f3_; subst f4_; subst f5_))
        obtain ⟨Ao65, co65, eo65⟩ := Kd.R_slice HO532.out
        (first | subst eo65 | (injection eo65 with f1_ f2_ f3_; have f4_ := f1_.symm; have f5_ := f3_.symm; clear f1_ f2_ f3_; subst f4_; subst f5_))
        refine hK.out _ _ ⟨(blk_cell BK508.out 0).trans rfl, (blk_cell BK508.out 1).trans rfl, (blk_cell BK508.out 2).trans rfl, (blk_cell BK508.out 3).trans rfl, (blk_cell BK508.out 4).trans rfl, ((HB.out.cell (World.block_lt_of_cell? w _ hw529_0)).trans hw529_0), ((HB.out.cell (World.block_lt_of_cell? w _ hw529_1)).trans hw529_1)⟩ (fun hHeld => ?_)
        clear hK K
        refine zn_ rfl ?_
        refine one_ (i := 12) (N := some 63) (fl_ 14 13) rfl rfl (one_of HT_.out (by kernel_rfl)) (by decide) (fun K hK => ?_)
        refine goes_ Try.func96 (by kernel_rfl) rfl #[.slice Ao64 x6_1.length co64, .int .i64 t518, .slice Ao65 y530.length co65] (by rfl) rfl rfl z1_ ?_
        with_reducible refine (slices_Insert_Node.calls (fun k_ => some k_ = (.slice Ao64 x6_1.length co64 : Value).ownBlock) (.slice Ao64 x6_1.length co64) x6_1 t518 _ _ y530 t533 w _ ?side1 ?side2 ?side3 ?side4 A60.out).mono ?_
        (case side1 => exact z6_)
        (case side2 => exact z154_)
        (case side3 => exact ⟨_, _, HO532.out, fun k_ hk_ hs_ => (hk_.2) hs_⟩)
        (case side4 => exact (Kd.R_reads' HO532.out).2.1)
        rintro e w66 ⟨v534, rfl, ho0, hb, hkp⟩
        refine ⟨_, rfl, ?_⟩
        have n0_ := Aside0.mk (blk_kept z23_ hkp (fun hs_ => (fun e_ => (Kd.R_ne HO_6.out BK508.out (by decide)) e_) hs_))
        have n1_ := Aside0.mk (Kd.R_mono (ok' := fun k_ => some k_ ≠ (v534 : Value).ownBlock) (Kd.R_keptB (HO532.out) hkp (fun k_ hk_ hs_ => (hk_.2) hs_)) (fun k_ hk_ => fun e_ => Or.elim (ho0.1 k_ e_.symm) (fun hs_ => hk_.2.1 hs_) (fun hn_ => Nat.not_le.2 hk_.2.2 hn_)))
        have n2_ := Aside0.mk (Kd.R_mono (ok' := fun k_ => some k_ ≠ (.slice Ao65 y530.length co65 : Value).ownBlock) ho0 (fun k_ hk_ => Or.elim hk_ (fun hs_ => fun e_ => (((HO532.out).1 k_ e_.symm).2) hs_) (fun hn_ => (Kd.fresh' (Kd.R_lt (by (with_reducible repeat (first | apply Kd.R_alloc | apply Kd.R_drewN | apply Kd.R_drew)); exact HO532.out)) k_ hn_))))
        have n3_ := Aside0.mk (hb)
        clear BK508
        clear HO532
        clear HB
        clear HO_6
        have BK508 := n0_
        have HO532 := n1_
        have HO535 := n2_
        have HB := n3_
        clear n0_ n1_ n2_ n3_
        (try clear hb)
        (try clear hkp)
        (try clear ho0)
        refine hK.out _ _ ⟨(blk_cell BK508.out 0).trans rfl, (blk_cell BK508.out 1).trans rfl, (blk_cell BK508.out 2).trans rfl, (blk_cell BK508.out 3).trans rfl, (blk_cell BK508.out 4).trans rfl, ((HB.out.cell (World.block_lt_of_cell? w _ hw529_0)).trans hw529_0), ((HB.out.cell (World.block_lt_of_cell? w _ hw529_1)).trans hw529_1)⟩ (fun hHeld => ?_)
        clear hK K
        refine zn_ rfl ?_
        refine zp_ HT_ rfl rfl (by kernel_rfl) (fun _ _ _ h => h) (by rfl) ?_
        refine done_ (done_of HT_.out (by kernel_rfl)) ?_
        try go_wp2
        go_ret2
        exact ⟨_, z3_, by (with_reducible repeat (first | apply Kd.R_alloc | apply Kd.R_drewN | apply Kd.R_drew)); exact Kd.R_mono HO535.out (fun _ hk => trivial), z6_⟩
  ·rw [if_neg c8] at H
   have c8b0 : (t517 == 0) = false := beq_eq_false_iff_ne.mpr c8
   have c8b1 : (t517 != 0) = true := bne_iff_ne.mpr c8
   simp only [Option.some.injEq, Prod.mk.injEq] at H
   obtain ⟨rfl, rfl⟩ := H
   go_enter Try.func71, Try.ntmps71
   try go_wp2_with (first | ((with_reducible refine gate_dst (N := 3) rfl ?_); refine box_event ?hg (N := 3) ?hd (cs := #[.int .i64 a1_0, .slice A1_1 l1_1.length c1_1, .int .i64 a1_2, .int .i64 a1_3, .int .i64 a1_4]) (t := 100) ?hr ?_; (case hd => rfl); (case hg => rfl); (case hr => exact z10_); intro gb508 hg w67 hbox hb; have BK508 := Aside0.mk (hbox); have GW508 := Aside0.mk ((by rw [hg]; exact (below_size z0_) : w.heap.size ≤ gb508)); have GE508 := Aside0.mk ((by rw [hg]; exact (below_size z0_) : w.heap.size ≤ gb508)); replace HB := Aside0.mk (below_step z0_ hb); clear hb hbox hg) | ((with_reducible refine gate_callee (f := 40) rfl ?_); refine goesL_ (some 14) rfl rfl Try.func40 (by kernel_rfl) rfl #[.slice A0 l0.length c0] rfl z1_ ?_; (with_reducible refine (impl_TreeOk.calls k _ _ l0 true _ ?side1 ?side2 A3.out).mono ?_); (case side1 => exact z2_); (case side2 => exact HC0.out); rintro e w68 ⟨rfl, hb⟩; refine ⟨_, rfl, ?_⟩; replace BK508 := Aside0.mk (blk_below (g := gb508) (o := .cells #[.int .i64 a1_0, .slice A1_1 l1_1.length c1_1, .int .i64 a1_2, .int .i64 a1_3, .int .i64 a1_4] 100 (0, 0)) z23_ hb); replace HB := Aside0.mk (below_step z6_ hb); (try clear hb)))
   have n0_ := Aside0.mk (blk_drew BK508.out)
   have n1_ := Aside0.mk (below_drew1 HB.out)
   clear BK508
   clear HB
   have BK508 := n0_
   have HB := n1_
   clear n0_ n1_
   refine start_ (n := 8) (S := fun w' => w'.cell? ⟨gb508, 0, none⟩ = some (.int .i64 a1_0) ∧ w'.cell? ⟨gb508, 1, none⟩ = some (.slice A1_1 l1_1.length c1_1) ∧ w'.cell? ⟨gb508, 2, none⟩ = some (.int .i64 a1_2) ∧ w'.cell? ⟨gb508, 3, none⟩ = some (.int .i64 a1_3) ∧ w'.cell? ⟨gb508, 4, none⟩ = some (.int .i64 a1_4)) (ds := []) (fl_ 8 0) (by kernel_rfl) rfl (fl_zero _) ⟨(blk_cell BK508.out 0).trans rfl, (blk_cell BK508.out 1).trans rfl, (blk_cell BK508.out 2).trans rfl, (blk_cell BK508.out 3).trans rfl, (blk_cell BK508.out 4).trans rfl⟩ (fun hHeld => ?_); refine with_tabW impl_ApplyOp.tab3 impl_ApplyOp.bits3 (fun HT_ HW_ => ?_)
   generalize w68.drew = w69 at BK508 HB hHeld ⊢
   refine zp_ HT_ rfl rfl (by kernel_rfl) (fun _ _ _ h => h) (by rfl) ?_
   refine zpg_ (i := 2) (ra_ [1, 1, 1, 5]) HT_ rfl rfl (by kernel_rfl) (fun _ _ _ h => h) (by rfl) ?_
   refine zpg_ (i := 3) (ra_ [1, 1, 2, 4]) HT_ rfl rfl (by kernel_rfl) (fun _ _ _ h => h) (by rfl) ?_
   refine ztg_ (i := 4) (ra_ [1, 1, 3, 3]) HT_ HW_ rfl rfl (by kernel_rfl) (fun _ _ _ h => h) (by rfl) hHeld ?_ z134_
   refine one_ (i := 1) (N := some 18) (fl_ 8 5) rfl rfl (one_of HT_.out (by kernel_rfl)) (by decide) (fun K hK => ?_)
   refine goes_ Try.func70 (by kernel_rfl) rfl #[.slice A0 l0.length c0] (by rfl) rfl rfl z1_ ?_
   with_reducible refine (slices_Clone_Node.calls _ _ l0 t513 _ ?side1 ?side2 A5.out).mono ?_
   (case side1 => exact z2_)
   (case side2 => exact HC0.out)
   rintro e w70 ⟨v514, rfl, ho0, hb⟩
   refine ⟨_, rfl, ?_⟩
   have n0_ := Aside0.mk (Kd.R_lower ho0 (below_size z6_))
   have n1_ := Aside0.mk (blk_below (g := gb508) (o := .cells #[.int .i64 a1_0, .slice A1_1 l1_1.length c1_1, .int .i64 a1_2, .int .i64 a1_3, .int .i64 a1_4] 100 (0, 0)) z23_ hb)
   have n2_ := Aside0.mk (below_step z6_ hb)
   clear BK508
   clear HB
   have HO515 := n0_
   have BK508 := n1_
   have HB := n2_
   clear n0_ n1_ n2_
   (try clear hb)
   (try clear hb2)
   (try clear hk)
   (try clear hi)
   (try clear ho0)
   refine hK.out _ _ ⟨(blk_cell BK508.out 0).trans rfl, (blk_cell BK508.out 1).trans rfl, (blk_cell BK508.out 2).trans rfl, (blk_cell BK508.out 3).trans rfl, (blk_cell BK508.out 4).trans rfl⟩ (fun hHeld => ?_)
   clear hK K
   refine zn_ rfl ?_
   refine one_ (i := 5) (N := some 22) (fl_ 8 6) rfl rfl (one_of HT_.out (by kernel_rfl)) (by decide) (fun K hK => ?_)
   refine goes_ Try.func93 (by kernel_rfl) rfl #[.slice A0 l0.length c0, .slice A1_1 l1_1.length c1_1] (by rfl) rfl rfl z1_ ?_
   with_reducible refine (impl_NodeAt.calls k _ _ l0 _ _ l1_1 t516 _ ?side1 ?side2 ?side3 ?side4 A6.out).mono ?_
   (case side1 => exact z2_)
   (case side2 => exact HC0.out)
   (case side3 => exact z31_)
   (case side4 => exact HC1_1.out)
   rintro e w71 ⟨rfl, hb⟩
   refine ⟨_, rfl, ?_⟩
   have n0_ := Aside0.mk (Kd.R_below z52_ hb)
   have n1_ := Aside0.mk (blk_below (g := gb508) (o := .cells #[.int .i64 a1_0, .slice A1_1 l1_1.length c1_1, .int .i64 a1_2, .int .i64 a1_3, .int .i64 a1_4] 100 (0, 0)) z23_ hb)
   have n2_ := Aside0.mk (below_step z6_ hb)
   clear HO515
   clear BK508
   clear HB
   have HO515 := n0_
   have BK508 := n1_
   have HB := n2_
   clear n0_ n1_ n2_
   (try clear hb)
   (try clear hb2)
   (try clear hk)
   (try clear hi)
   refine hK.out _ _ ⟨(blk_cell BK508.out 0).trans rfl, (blk_cell BK508.out 1).trans rfl, (blk_cell BK508.out 2).trans rfl, (blk_cell BK508.out 3).trans rfl, (blk_cell BK508.out 4).trans rfl⟩ (fun hHeld => ?_)
   clear hK K
   refine zn_ rfl ?_
   iterate 2 refine zp_ HT_ rfl rfl (by kernel_rfl) (fun _ _ _ h => h) (by rfl) ?_
   refine done_ (done_of HT_.out (by kernel_rfl)) ?_
   obtain ⟨hcz72_0, hcz72_1, hcz72_2, hcz72_3, hcz72_4, hfz72_0, hfz72_1, hfz72_2, hfz72_3, hfz72_4⟩ := bx5_ BK508.out
   try go_wp2_with (first | ((with_reducible refine gate_callee (f := 94) rfl ?_); refine goesL_ (some 27) rfl rfl Try.func94 (by kernel_rfl) rfl #[.slice A0 l0.length c0, .agg #[.int .i64 a1_0, .slice A1_1 l1_1.length c1_1, .int .i64 a1_2, .int .i64 a1_3, .int .i64 a1_4], .int .i64 t516] rfl z1_ ?_; (with_reducible refine (impl_opCode.calls k _ _ l0 a1_0 _ _ l1_1 a1_2 a1_3 a1_4 t516 t517 t518 t519 _ ?side1 ?side2 ?side3 ?side4 A7.out).mono ?_); (case side1 => exact z2_); (case side2 => exact HC0.out); (case side3 => exact z31_); (case side4 => exact HC1_1.out); rintro e w73 ⟨rfl, hb⟩; refine ⟨_, rfl, ?_⟩; replace HO515 := Aside0.mk (Kd.R_below z52_ hb); replace BK508 := Aside0.mk (blk_below (g := gb508) (o := .cells #[.int .i64 a1_0, .slice A1_1 l1_1.length c1_1, .int .i64 a1_2, .int .i64 a1_3, .int .i64 a1_4] 100 (0, 0)) z23_ hb); replace HB := Aside0.mk (below_step z6_ hb); (try clear hb)))
   go_ret2
   exact ⟨_, z3_, z52_, z6_⟩
 ·replace c4 := Bool.eq_false_iff.mpr c4
  subst c4
  replace H := iff_ H
  first | ((with_reducible have hz_ := gy_ H); obtain ⟨y510, Ny510, H⟩ := hz_) | (generalize hy_ : ((([] : List (S45))) : List (S45)) = y510 at H; have Ny510 := Aside0.mk hy_.symm; clear hy_)
  simp only [Option.some.injEq, Prod.mk.injEq] at H
  obtain ⟨rfl, rfl⟩ := H
  go_enter Try.func71, Try.ntmps71
  go_wp2_with (first | ((with_reducible refine gate_dst (N := 3) rfl ?_); refine box_event ?hg (N := 3) ?hd (cs := #[.int .i64 a1_0, .slice A1_1 l1_1.length c1_1, .int .i64 a1_2, .int .i64 a1_3, .int .i64 a1_4]) (t := 100) ?hr ?_; (case hd => rfl); (case hg => rfl); (case hr => exact z10_); intro gb508 hg w74 hbox hb; have BK508 := Aside0.mk (hbox); have GW508 := Aside0.mk ((by rw [hg]; exact (below_size z0_) : w.heap.size ≤ gb508)); have GE508 := Aside0.mk ((by rw [hg]; exact (below_size z0_) : w.heap.size ≤ gb508)); replace HB := Aside0.mk (below_step z0_ hb); clear hb hbox hg) | ((with_reducible refine gate_callee (f := 40) rfl ?_); refine goesL_ (some 14) rfl rfl Try.func40 (by kernel_rfl) rfl #[.slice A0 l0.length c0] rfl z1_ ?_; (with_reducible refine (impl_TreeOk.calls k _ _ l0 false _ ?side1 ?side2 A3.out).mono ?_); (case side1 => exact z2_); (case side2 => exact HC0.out); rintro e w75 ⟨rfl, hb⟩; refine ⟨_, rfl, ?_⟩; replace BK508 := Aside0.mk (blk_below (g := gb508) (o := .cells #[.int .i64 a1_0, .slice A1_1 l1_1.length c1_1, .int .i64 a1_2, .int .i64 a1_3, .int .i64 a1_4] 100 (0, 0)) z23_ hb); replace HB := Aside0.mk (below_step z6_ hb); (try clear hb)) | ((with_reducible refine gate_dst (N := 16) rfl ?_); refine Kd.R_lit k45 _ 45 ?hg (N := 16) ?hd (xs := ([] : List (S45))) (inner := []) (ok := fun _ => True) (okp := fun _ => True) ?hr ?hp (fun _ hk => hk) trivial (Below.refl _ _) (Nat.le_refl _) (by simp) ?_; (case hd => rfl); (case hg => rfl); (case hr => exact z10_); (case hp => exact z75_); intro v511 w76 ho77 hb hg_ hnew_; clear hg_ hnew_; (first | rw [← Ny510.out] at ho77 | (simp only [Int.reduceToNat] at ho77; rw [← Ny510.out] at ho77)); have HO512 := Aside0.mk (Kd.R_lower ho77 (below_size z6_)); replace BK508 := Aside0.mk (blk_below (g := gb508) (o := .cells #[.int .i64 a1_0, .slice A1_1 l1_1.length c1_1, .int .i64 a1_2, .int .i64 a1_3, .int .i64 a1_4] 100 (0, 0)) z23_ hb); replace HB := Aside0.mk (below_step z6_ hb); clear hb ho77))
  go_ret2
  exact ⟨_, z3_, by (with_reducible repeat (first | apply Kd.R_alloc | apply Kd.R_drewN | apply Kd.R_drew)); exact HO512.out, z6_⟩

end Go.Proofs.Ytbiffnahknkoiaa.PFnExactPatch
