/- Laid by a program of this session out of the kit's print for the law FnExactPatch: what it says of the machine is proved here, function by function; each contract under the conditions that it names. -/
import Derived.Test.YtbiffnahknkoiaaMFnExactPatchx0
import Derived.Test.YtbiffnahknkoiaaMFnExactPatchx5
import Derived.Test.YtbiffnahknkoiaaMFnExactPatchx6
import Derived.Test.YtbiffnahknkoiaaMFnExactPatchx7
namespace Go.Proofs.Ytbiffnahknkoiaa.PFnExactPatch
open Go.RowKit Go.Proofs.YtbiffnahknkoiaaW.PrintWords Go.Proofs.YtbiffnahknkoiaaW.PrintLast Go.Proofs.YtbiffnahknkoiaaW.PrintMore
attribute [local go_sem] max2_int min2_int max_two min_two max_three min_three max_four min_four   -- for this text's walks alone
set_option linter.unusedVariables false
set_option linter.unusedSimpArgs false

/-! ### spec_l13Shift: function 92 -/
def spec_l13Shift.l0 : Nat → List (S45) → Int → Int → List (S45) → Int → Option ((List (S45)))
 | 0, _, _, _, _, _ => none
 | k + 1, x0, x2, x3, x9, x10 => if x10 < x2 then (if 0 ≤ x10 then (if x10 < (x0.length : Int) then (if x9.length < 8796093022208 then (spec_l13Shift.l0 k x0 x2 x3 (x9 ++ [(⟨(rd_T45 x0 x10).f0, wrap64 (((rd_T45 x0 x10).f1) + x3)⟩ : S45)]) (wrap64 (x10 + 1))) else (none)) else (none)) else (none)) else (some x9)
def spec_l13Shift.f (k : Nat) (l0 : List (S45)) (a1 : Int) (a2 : Int) (a3 : Int) : Option ((List (S45))) := spec_l13Shift.l0 k l0 a2 a3 (([] : List (S45))) a1
def spec_l13Shift.T5 : Bool × List (List Nat × List Nat) := (true, [([], []), ([], []), ([], []), ([1, 2], [1, 2]), ([3], [3]), ([4], [4]), ([], []), ([], []), ([6, 7], [6, 7]), ([8], [8]), ([9], [9]), ([], []), ([10, 11], [10, 11]), ([5, 12], [5, 12]), ([13], [13]), ([0, 14], [0, 14]), ([15, 15, 0, 1, 2, 3, 4, 5, 6, 7, 8, 9, 10, 11, 12, 13, 14, 15], [0, 15])])
def spec_l13Shift.B5 : List Nat := [0, 0, 0, 6, 14, 30, 0, 0, 192, 448, 960, 0, 4032, 8190, 16382, 32767, 65535]
theorem spec_l13Shift.tab5 : rtab .any (opsOf Try.f92 5) = spec_l13Shift.T5 := by kernel_rfl
theorem spec_l13Shift.bits5 : waitsOk spec_l13Shift.T5.2 spec_l13Shift.B5 = true := by kernel_rfl
set_option maxHeartbeats 8000000 in
set_option maxRecDepth 100000 in
theorem spec_l13Shift.calls (k : Nat) (A0 : Option Addr) (c0 : Nat) (l0 : List (S45)) (a1 : Int) (a2 : Int) (a3 : Int) (r : List (S45)) (w : World) (hr0 : Kd.C k45 w A0 l0.length l0) (hc0 : l0.length ≤ c0) (h : spec_l13Shift.f k l0 a1 a2 a3 = some r) :
  Calls Try.prog 92 #[.slice A0 l0.length c0, .int .i64 a1, .int .i64 a2, .int .i64 a3] w fun e w' => ∃ v0_ : Value, e = .returned (v0_) ∧ Kd.R k45 45 w' w.heap.size (fun _ => True) v0_ r ∧ Below w.heap.size w w' := by
 have hu45 := Try.underlying45
 have HR0 := Aside0.mk hr0
 have HC0 := Aside0.mk hc0
 clear hr0 hc0
 have HB := Aside0.mk (Below.refl w.heap.size w)
 have H : (spec_l13Shift.l0 k l0 a2 a3 (([] : List (S45))) a1) = some r := h
 clear h
 first | ((with_reducible have hz_ := gy_ H); obtain ⟨y269, Ny269, H⟩ := hz_) | (generalize hy_ : ((([] : List (S45))) : List (S45)) = y269 at H; have Ny269 := Aside0.mk hy_.symm; clear hy_)
 have H' := Aside0.mk H
 clear H
 go_enter Try.func92, Try.ntmps92
 go_wp2_with (first | ((with_reducible refine gate_dst (N := 11) rfl ?_); refine Kd.R_lit k45 _ 45 ?hg (N := 11) ?hd (xs := ([] : List (S45))) (inner := []) (ok := fun _ => True) (okp := fun _ => True) ?hr ?hp (fun _ hk => hk) trivial (Below.refl _ _) (Nat.le_refl _) (by simp) ?_; (case hd => rfl); (case hg => rfl); (case hr => exact z10_); (case hp => exact z75_); intro v270 w5 ho6 hb hg_ hnew_; clear hg_ hnew_; (first | rw [← Ny269.out] at ho6 | (simp only [Int.reduceToNat] at ho6; rw [← Ny269.out] at ho6)); have HO271 := Aside0.mk (Kd.R_lower ho6 (below_size z0_)); replace HB := Aside0.mk (below_step z0_ hb); clear hb ho6))
 go_loopg [9, 10] k (fun kq v9 v10 w' => ∃ (x9_1 : List (S45)) (x10_1 : Int), v10 = .int .i64 x10_1 ∧ Aside0 (spec_l13Shift.l0 kq l0 a2 a3 x9_1 x10_1 = some r) ∧ Aside0 (kq ≤ k) ∧ Aside0 (Kd.R k45 45 w' w.heap.size (fun _ => True) v9 x9_1) ∧ Aside0 (Below w.heap.size w w'))
 case atStart => exact ⟨(y269), (a1), z8_, H', ⟨Nat.le_refl _⟩, ⟨by (with_reducible repeat (first | apply Kd.R_alloc | apply Kd.R_drewN | apply Kd.R_drew)); exact HO271.out⟩, ⟨z0_⟩⟩
 case round =>
  clear H'
  try clear p2
  obtain ⟨x9_1, x10_1, rfl, HA, HK1, HO_9, HB⟩ := hrel
  cases gk with
  | zero => exact absurd HA.out (by simp [spec_l13Shift.l0])
  | succ k1 =>
   have H := HA.out
   clear HA
   simp only [spec_l13Shift.l0] at H
   by_cases c7 : x10_1 < a2
   ·rw [if_pos c7] at H
    have c7b0 := decide_eq_true c7
    clear c7
    obtain ⟨c8b0, H⟩ := ifd_ H
    obtain ⟨c9b0, H⟩ := ifd_ H
    obtain ⟨c10, H⟩ := ifs_ H
    have LMc10 := Aside0.mk c10
    clear c10
    first | ((with_reducible have hz_ := gy_ H); obtain ⟨y274, Ny274, H⟩ := hz_) | (generalize hy_ : ((x9_1 ++ [(⟨(rd_T45 l0 x10_1).f0, wrap64 (((rd_T45 l0 x10_1).f1) + a3)⟩ : S45)]) : List (S45)) = y274 at H; have Ny274 := Aside0.mk hy_.symm; clear hy_)
    have H' := Aside0.mk H
    clear H
    try go_wp2
    have n0_ := Aside0.mk (Kd.R_drew HO_9.out)
    have n1_ := Aside0.mk (below_drew1 HB.out)
    clear HO_9
    clear HB
    have HO_9 := n0_
    have HB := n1_
    clear n0_ n1_
    obtain ⟨p272, q272, ad272, e272, hw272_0, hw272_1, hx272_0, hx272_1⟩ := atw45_ HR0 HB x10_1
    cases e272
    obtain ⟨p273, q273, ad273, e273, hw273_0, hw273_1, hx273_0, hx273_1⟩ := atw45_ HR0 HB x10_1
    obtain rfl : ad272 = ad273 := (by injection e273)
    refine start_ (n := 17) (S := fun w' => w'.cell? (ad272.add ((x10_1).toNat * 2)) = some (.int .i64 ((rd_T45 l0 x10_1).f0)) ∧ w'.cell? ⟨(ad272.add ((x10_1).toNat * 2)).block, (ad272.add ((x10_1).toNat * 2)).off + 1, none⟩ = some (.int .i64 ((rd_T45 l0 x10_1).f1))) (ds := []) (fl_ 17 0) (by kernel_rfl) rfl (fl_zero _) ⟨((HB.out.cell (World.block_lt_of_cell? w _ hw272_0)).trans hw272_0), ((HB.out.cell (World.block_lt_of_cell? w _ hw272_1)).trans hw272_1)⟩ (fun hHeld => ?_); refine with_tabW spec_l13Shift.tab5 spec_l13Shift.bits5 (fun HT_ HW_ => ?_)
    generalize wr.drew = w11 at HO_9 HB hx272_0 hx272_1 hx273_0 hx273_1 hHeld ⊢
    iterate 5 refine zp_ HT_ rfl rfl (by kernel_rfl) (fun _ _ _ h => h) (by rfl) ?_
    refine zpg_ (i := 6) (ra_ [5, 1, 1, 10]) HT_ rfl rfl (by kernel_rfl) (fun _ _ _ h => h) (by rfl) ?_
    refine zpg_ (i := 7) (ra_ [5, 1, 2, 9]) HT_ rfl rfl (by kernel_rfl) (fun _ _ _ h => h) (by rfl) ?_
    refine zpg_ (i := 8) (ra_ [5, 1, 3, 8]) HT_ rfl rfl (by kernel_rfl) (fun _ _ _ h => h) (by rfl) ?_
    refine zpg_ (i := 9) (ra_ [5, 1, 4, 7]) HT_ rfl rfl (by kernel_rfl) (fun _ _ _ h => h) (by rfl) ?_
    refine zpg_ (i := 11) (ra_ [5, 1, 4, 1, 1, 5]) HT_ rfl rfl (by kernel_rfl) (fun _ _ _ h => h) (by rfl) ?_
    refine ztg_ (i := 5) (ra_ [10, 1, 1, 5]) HT_ HW_ rfl rfl (by kernel_rfl) (fun _ _ _ h => h) (by rfl) hHeld ?_ z79_
    refine ztg_ (i := 10) (fl_ 17 12) HT_ HW_ rfl rfl (by kernel_rfl) (fun _ _ _ h => h) (by rfl) hHeld ?_ z79_
    iterate 2 refine zp_ HT_ rfl rfl (by kernel_rfl) (fun _ _ _ h => h) (by rfl) ?_
    refine one_ (i := 14) (N := some 32) (fl_ 17 15) rfl rfl (one_of HT_.out (by kernel_rfl)) (by decide) (fun K hK => ?_)
    refine value_ (w1 := ?_) (v := ?_) (by rfl) rfl ?_ ?_
    rotate_left 2
    ·go_simp
     constructor
     ·rfl
     ·rfl
    refine hK.out _ _ ⟨(World.cell?_alloc_lt _ _ _ (World.block_lt_of_cell? _ _ (((HB.out.cell (World.block_lt_of_cell? w _ hw272_0)).trans hw272_0)))).trans (((HB.out.cell (World.block_lt_of_cell? w _ hw272_0)).trans hw272_0)), (World.cell?_alloc_lt _ _ _ (World.block_lt_of_cell? _ _ (((HB.out.cell (World.block_lt_of_cell? w _ hw272_1)).trans hw272_1)))).trans (((HB.out.cell (World.block_lt_of_cell? w _ hw272_1)).trans hw272_1))⟩ (fun hHeld => ?_)
    clear hK K
    refine zn_ rfl ?_
    refine one_ (i := 15) (N := some 33) (fl_ 17 16) rfl rfl (one_of HT_.out (by kernel_rfl)) (by decide) (fun K hK => ?_)
    refine Kd.R_append_step k45 (w0 := w) w.heap.size (by rfl) (.tmp 18) (.tmp 32) 30 45 (.agg #[(.int .i64 0), (.int .i64 0)]) 16 rfl Try.underlying30 info45 rfl (by decide) (by omega) u9 x9_1 (⟨(rd_T45 l0 x10_1).f0, wrap64 (((rd_T45 l0 x10_1).f1) + a3)⟩ : S45) [.int .i64 ((rd_T45 l0 x10_1).f0), .int .i64 (wrap64 (((rd_T45 l0 x10_1).f1) + a3))] (fun _ => True) (fun _ => False) rfl rfl ?aP (fun _ hk => hk.elim) ?aF ?aO ?aB ?aS ?aL ?_
    (case aP => exact k45_mkM _ _ _ (⟨(rd_T45 l0 x10_1).f0, wrap64 (((rd_T45 l0 x10_1).f1) + a3)⟩ : S45))
    (case aB => exact z16_)
    (case aF => exact z87_)
    (case aO => exact z82_)
    (case aS => exact z11_)
    (case aL => have := LMc10.out; omega)
    intro v275 w12 ho hb hg hat
    rw [← Ny274.out] at ho
    have n0_ := Aside0.mk (hb)
    have n1_ := Aside0.mk (ho)
    clear HB
    clear HO_9
    have HB := n0_
    have HO276 := n1_
    clear n0_ n1_
    clear ho hb hg hat
    refine hK.out _ _ ⟨((HB.out.cell (World.block_lt_of_cell? w _ hw272_0)).trans hw272_0), ((HB.out.cell (World.block_lt_of_cell? w _ hw272_1)).trans hw272_1)⟩ (fun hHeld => ?_)
    clear hK K
    refine zn_ rfl ?_
    refine zp_ HT_ rfl rfl (by kernel_rfl) (fun _ _ _ h => h) (by rfl) ?_
    refine done_ (done_of HT_.out (by kernel_rfl)) ?_
    try go_wp2
    go_roundg k1
    case measure => have := HK1.out; omega
    case rel => exact ⟨(y274), (wrap64 (x10_1 + 1)), z8_, H', ⟨z93_⟩, ⟨by (with_reducible repeat (first | apply Kd.R_alloc | apply Kd.R_drewN | apply Kd.R_drew)); exact HO276.out⟩, ⟨z0_⟩⟩
   ·rw [if_neg c7] at H
    have c7b0 := decide_eq_false c7
    clear c7
    obtain rfl := Option.some.inj H
    go_wp2
    go_ret
    exact ⟨_, z3_, z70_, z0_⟩

/-! ### spec_ApplyOp: function 64 -/
def spec_ApplyOp.f (k : Nat) (l0 : List (S45)) (a1_0 : Int) (l1_1 : List Int) (a1_2 : Int) (a1_3 : Int) (a1_4 : Int) : Option ((List (S45)) × Int) := (spec_TreeOk.f k l0).bind fun t278 => (if t278 = true then ((spec_NodeAt.f k l0 l1_1).bind fun t282 => ((spec_l3Copy.f l0).bind fun t283 => ((spec_l13Code.f k l0 a1_0 l1_1 a1_2 a1_3 a1_4 t282).bind fun bt286 => (if bt286.1 = 0 then (if a1_0 = 1 then (if 0 ≤ t282 then (if t282 < (t283.length : Int) then (some ((t283.set (t282 : Int).toNat (⟨a1_2, (rd_T45 t283 t282).f1⟩ : S45)), bt286.1)) else (none)) else (none)) else (if a1_0 = 2 then ((spec_EndOf.f k l0 t282).bind fun t290 => ((spec_l13Shift.f k l0 0 t282 0).bind fun t291 => ((spec_l13Shift.f k l0 (wrap64 (t282 + 1)) t290 (-1)).bind fun t294 => (if t291.length + t294.length < 8796093022208 then ((some (t291 ++ t294 : List (S45))).bind fun y297 => ((spec_l13Shift.f k l0 t290 (l0.length : Int) 0).bind fun t300 => (if y297.length + t300.length < 8796093022208 then (some ((y297 ++ t300), bt286.1)) else (none)))) else (none))))) else ((spec_l13Shift.f k l0 0 bt286.2.1 0).bind fun t306 => (if 0 ≤ t282 then (if t282 < (l0.length : Int) then ((some (([(⟨a1_2, wrap64 (((rd_T45 l0 t282).f1) + 1)⟩ : S45)] : List (S45)) : List (S45))).bind fun y310 => (if t306.length + y310.length < 8796093022208 then ((some (t306 ++ y310 : List (S45))).bind fun y313 => ((spec_l13Shift.f k l0 bt286.2.1 bt286.2.2 1).bind fun t316 => (if y313.length + t316.length < 8796093022208 then ((some (y313 ++ t316 : List (S45))).bind fun y319 => ((spec_l13Shift.f k l0 bt286.2.2 (l0.length : Int) 0).bind fun t322 => (if y319.length + t322.length < 8796093022208 then (some ((y319 ++ t322), bt286.1)) else (none)))) else (none)))) else (none))) else (none)) else (none))))) else (some (t283, bt286.1)))))) else (some ((([] : List (S45))), 2)))
def spec_ApplyOp.T16 : Bool × List (List Nat × List Nat) := (true, [([], []), ([], []), ([0, 1], [0, 1]), ([], []), ([3], [3]), ([], []), ([], []), ([5, 6], [5, 6]), ([7], [7]), ([8], [8]), ([9], [9]), ([4, 10], [4, 10]), ([11], [11]), ([2, 12, 2], [2, 12]), ([13, 13, 0, 1, 2, 3, 4, 5, 6, 7, 8, 9, 10, 11, 12, 13], [13])])
def spec_ApplyOp.B16 : List Nat := [0, 0, 3, 0, 8, 0, 0, 96, 224, 480, 992, 2040, 4088, 8191, 16383]
theorem spec_ApplyOp.tab16 : rtab .any (opsOf Try.f64 16) = spec_ApplyOp.T16 := by kernel_rfl
theorem spec_ApplyOp.bits16 : waitsOk spec_ApplyOp.T16.2 spec_ApplyOp.B16 = true := by kernel_rfl
set_option maxHeartbeats 8000000 in
set_option maxRecDepth 100000 in
theorem spec_ApplyOp.calls (k : Nat) (A0 : Option Addr) (c0 : Nat) (l0 : List (S45)) (a1_0 : Int) (A1_1 : Option Addr) (c1_1 : Nat) (l1_1 : List Int) (a1_2 : Int) (a1_3 : Int) (a1_4 : Int) (r1 : List (S45)) (r2 : Int) (w : World) (hr0 : Kd.C k45 w A0 l0.length l0) (hc0 : l0.length ≤ c0) (hr1_1 : Kd.C (Kd.int .i64) w A1_1 l1_1.length l1_1) (hc1_1 : l1_1.length ≤ c1_1) (h : spec_ApplyOp.f k l0 a1_0 l1_1 a1_2 a1_3 a1_4 = some (r1, r2)) :
  Calls Try.prog 64 #[.slice A0 l0.length c0, .agg #[.int .i64 a1_0, .slice A1_1 l1_1.length c1_1, .int .i64 a1_2, .int .i64 a1_3, .int .i64 a1_4]] w fun e w' => ∃ v0_ : Value, e = .returned (.tuple #[v0_, .int .i64 r2]) ∧ Kd.R k45 45 w' w.heap.size (fun _ => True) v0_ r1 ∧ Below w.heap.size w w' := by
 have hu100 := Try.underlying100
 have hu45 := Try.underlying45
 have HR0 := Aside0.mk hr0
 have HC0 := Aside0.mk hc0
 clear hr0 hc0
 have HR1_1 := Aside0.mk hr1_1
 have HC1_1 := Aside0.mk hc1_1
 clear hr1_1 hc1_1
 have HB := Aside0.mk (Below.refl w.heap.size w)
 have H : ((spec_TreeOk.f k l0).bind fun t278 => (if t278 = true then ((spec_NodeAt.f k l0 l1_1).bind fun t282 => ((spec_l3Copy.f l0).bind fun t283 => ((spec_l13Code.f k l0 a1_0 l1_1 a1_2 a1_3 a1_4 t282).bind fun bt286 => (if bt286.1 = 0 then (if a1_0 = 1 then (if 0 ≤ t282 then (if t282 < (t283.length : Int) then (some ((t283.set (t282 : Int).toNat (⟨a1_2, (rd_T45 t283 t282).f1⟩ : S45)), bt286.1)) else (none)) else (none)) else (if a1_0 = 2 then ((spec_EndOf.f k l0 t282).bind fun t290 => ((spec_l13Shift.f k l0 0 t282 0).bind fun t291 => ((spec_l13Shift.f k l0 (wrap64 (t282 + 1)) t290 (-1)).bind fun t294 => (if t291.length + t294.length < 8796093022208 then ((some (t291 ++ t294 : List (S45))).bind fun y297 => ((spec_l13Shift.f k l0 t290 (l0.length : Int) 0).bind fun t300 => (if y297.length + t300.length < 8796093022208 then (some ((y297 ++ t300), bt286.1)) else (none)))) else (none))))) else ((spec_l13Shift.f k l0 0 bt286.2.1 0).bind fun t306 => (if 0 ≤ t282 then (if t282 < (l0.length : Int) then ((some (([(⟨a1_2, wrap64 (((rd_T45 l0 t282).f1) + 1)⟩ : S45)] : List (S45)) : List (S45))).bind fun y310 => (if t306.length + y310.length < 8796093022208 then ((some (t306 ++ y310 : List (S45))).bind fun y313 => ((spec_l13Shift.f k l0 bt286.2.1 bt286.2.2 1).bind fun t316 => (if y313.length + t316.length < 8796093022208 then ((some (y313 ++ t316 : List (S45))).bind fun y319 => ((spec_l13Shift.f k l0 bt286.2.2 (l0.length : Int) 0).bind fun t322 => (if y319.length + t322.length < 8796093022208 then (some ((y319 ++ t322), bt286.1)) else (none)))) else (none)))) else (none))) else (none)) else (none))))) else (some (t283, bt286.1)))))) else (some ((([] : List (S45))), 2)))) = some (r1, r2) := h
 clear h
 obtain ⟨t278, A3, H⟩ := bnd_ H
 by_cases c4 : t278 = true
 ·subst c4
  replace H := ift_ H
  obtain ⟨t282, A5, H⟩ := bnd_ H
  obtain ⟨t283, A6, H⟩ := bnd_ H
  replace H := Option.bind_eq_some_iff.mp H
  obtain ⟨⟨t286, t287, t288⟩, A70, H⟩ := H
  try dsimp only at H
  have A7 := Aside0.mk A70
  clear A70
  by_cases c8 : t286 = 0
  ·rw [if_pos c8] at H
   have c8b0 : (t286 == 0) = true := beq_iff_eq.mpr c8
   have c8b1 : (t286 != 0) = false := bne_eq_false_iff_eq.mpr c8
   clear c8
   by_cases c9 : a1_0 = 1
   ·rw [if_pos c9] at H
    have c9b0 : (a1_0 == 1) = true := beq_iff_eq.mpr c9
    have c9b1 : (a1_0 != 1) = false := bne_eq_false_iff_eq.mpr c9
    clear c9
    obtain ⟨c10b0, H⟩ := ifd_ H
    obtain ⟨c11b0, H⟩ := ifd_ H
    first | ((with_reducible have hz_ := gy_ H); obtain ⟨y289, Ny289, H⟩ := hz_) | (generalize hy_ : ((t283.set (t282 : Int).toNat (⟨a1_2, (rd_T45 t283 t282).f1⟩ : S45)) : List (S45)) = y289 at H; have Ny289 := Aside0.mk hy_.symm; clear hy_)
    simp only [Option.some.injEq, Prod.mk.injEq] at H
    obtain ⟨rfl, rfl⟩ := H
    go_enter Try.func64, Try.ntmps64
    go_wp2_with (first | ((with_reducible refine gate_dst (N := 3) rfl ?_); refine box_event ?hg (N := 3) ?hd (cs := #[.int .i64 a1_0, .slice A1_1 l1_1.length c1_1, .int .i64 a1_2, .int .i64 a1_3, .int .i64 a1_4]) (t := 100) ?hr ?_; (case hd => rfl); (case hg => rfl); (case hr => exact z10_); intro gb277 hg w13 hbox hb; have BK277 := Aside0.mk (hbox); have GW277 := Aside0.mk ((by rw [hg]; exact (below_size z0_) : w.heap.size ≤ gb277)); have GE277 := Aside0.mk ((by rw [hg]; exact (below_size z0_) : w.heap.size ≤ gb277)); replace HB := Aside0.mk (below_step z0_ hb); clear hb hbox hg) | ((with_reducible refine gate_callee (f := 16) rfl ?_); refine goesL_ (some 13) rfl rfl Try.func16 (by kernel_rfl) rfl #[.slice A0 l0.length c0] rfl z1_ ?_; (with_reducible refine (spec_TreeOk.calls k _ _ l0 true _ ?side1 ?side2 A3.out).mono ?_); (case side1 => exact z2_); (case side2 => exact HC0.out); rintro e w14 ⟨rfl, hb⟩; refine ⟨_, rfl, ?_⟩; replace BK277 := Aside0.mk (blk_below (g := gb277) (o := .cells #[.int .i64 a1_0, .slice A1_1 l1_1.length c1_1, .int .i64 a1_2, .int .i64 a1_3, .int .i64 a1_4] 100 (0, 0)) z12_ hb); replace HB := Aside0.mk (below_step z4_ hb); (try clear hb); obtain ⟨hcz15_0, hcz15_1, hcz15_2, hcz15_3, hcz15_4, hfz15_0, hfz15_1, hfz15_2, hfz15_3, hfz15_4⟩ := bx5_ BK277.out) | ((with_reducible refine gate_callee (f := 90) rfl ?_); refine goesL_ (some 19) rfl rfl Try.func90 (by kernel_rfl) rfl #[.slice A0 l0.length c0, .slice A1_1 l1_1.length c1_1] rfl z1_ ?_; (with_reducible refine (spec_NodeAt.calls k _ _ l0 _ _ l1_1 t282 _ ?side1 ?side2 ?side3 ?side4 A5.out).mono ?_); (case side1 => exact z2_); (case side2 => exact HC0.out); (case side3 => exact z31_); (case side4 => exact HC1_1.out); rintro e w16 ⟨rfl, hb⟩; refine ⟨_, rfl, ?_⟩; replace BK277 := Aside0.mk (blk_below (g := gb277) (o := .cells #[.int .i64 a1_0, .slice A1_1 l1_1.length c1_1, .int .i64 a1_2, .int .i64 a1_3, .int .i64 a1_4] 100 (0, 0)) z12_ hb); replace HB := Aside0.mk (below_step z4_ hb); (try clear hb)) | ((with_reducible refine gate_callee (f := 45) rfl ?_); refine goesL_ (some 21) rfl rfl Try.func45 (by kernel_rfl) rfl #[.slice A0 l0.length c0] rfl z1_ ?_; (with_reducible refine (spec_l3Copy.calls _ _ l0 t283 _ ?side1 ?side2 A6.out).mono ?_); (case side1 => exact z2_); (case side2 => exact HC0.out); rintro e w17 ⟨v284, rfl, ho0, hb⟩; refine ⟨_, rfl, ?_⟩; have HO285 := Aside0.mk (Kd.R_lower ho0 (below_size z4_)); replace BK277 := Aside0.mk (blk_below (g := gb277) (o := .cells #[.int .i64 a1_0, .slice A1_1 l1_1.length c1_1, .int .i64 a1_2, .int .i64 a1_3, .int .i64 a1_4] 100 (0, 0)) z12_ hb); replace HB := Aside0.mk (below_step z4_ hb); (try clear hb ho0); obtain ⟨hcz18_0, hcz18_1, hcz18_2, hcz18_3, hcz18_4, hfz18_0, hfz18_1, hfz18_2, hfz18_3, hfz18_4⟩ := bx5_ BK277.out) | ((with_reducible refine gate_callee (f := 91) rfl ?_); refine goesL_ (some 26) rfl rfl Try.func91 (by kernel_rfl) rfl #[.slice A0 l0.length c0, .agg #[.int .i64 a1_0, .slice A1_1 l1_1.length c1_1, .int .i64 a1_2, .int .i64 a1_3, .int .i64 a1_4], .int .i64 t282] rfl z1_ ?_; (with_reducible refine (spec_l13Code.calls k _ _ l0 a1_0 _ _ l1_1 a1_2 a1_3 a1_4 t282 t286 t287 t288 _ ?side1 ?side2 ?side3 ?side4 A7.out).mono ?_); (case side1 => exact z2_); (case side2 => exact HC0.out); (case side3 => exact z31_); (case side4 => exact HC1_1.out); rintro e w19 ⟨rfl, hb⟩; refine ⟨_, rfl, ?_⟩; replace HO285 := Aside0.mk (Kd.R_below z26_ hb); replace BK277 := Aside0.mk (blk_below (g := gb277) (o := .cells #[.int .i64 a1_0, .slice A1_1 l1_1.length c1_1, .int .i64 a1_2, .int .i64 a1_3, .int .i64 a1_4] 100 (0, 0)) z12_ hb); replace HB := Aside0.mk (below_step z4_ hb); (try clear hb); obtain ⟨hcz20_0, hcz20_1, hcz20_2, hcz20_3, hcz20_4, hfz20_0, hfz20_1, hfz20_2, hfz20_3, hfz20_4⟩ := bx5_ BK277.out; have p12 : 0 ≤ (t282 : Int) := odt_; have q12 : (t282 : Int) < ((t283.length : Int) : Int) := odt_; obtain ⟨go12, co12, eo12, gb12, gl12, cl12, HG12⟩ := Kd.R_form HO285.out (by omega); (first | cases eo12 | (injection eo12 with ea_ en_ ec_; (first | subst ea_ | (injection ea_ with ea_; subst ea_)); subst ec_; clear en_)); have GB12 := Aside0.mk gb12; have GG12 := Aside0.mk HG12; clear gb12 gl12 HG12; obtain ⟨ce12, hcl12, hM12, hcc12, hfr12⟩ := Kd.R_elem HO285.out z45 (t282 : Int) p12 q12; obtain rfl := k45_openM hM12; have hx12_0 : w19.cell? ⟨go12, (t282 : Int).toNat * 2, none⟩ = some (.int .i64 ((rd_T45 t283 t282).f0)) := hcc12 0 _ rfl; have hx12_1 : w19.cell? ⟨go12, (t282 : Int).toNat * 2 + 1, none⟩ = some (.int .i64 ((rd_T45 t283 t282).f1)) := hcc12 1 _ rfl; have hf12_0 : w19.frozen? ⟨go12, (t282 : Int).toNat * 2, none⟩ = false := hfr12 0; have hf12_1 : w19.frozen? ⟨go12, (t282 : Int).toNat * 2 + 1, none⟩ = false := hfr12 1; clear hcl12 hcc12 hfr12 hM12; replace p12 := eq_true p12; replace q12 := eq_true q12; have HX21 := Aside0.mk (show Kd.R k45 45 w19 w.heap.size (fun _ => True) (.slice (some ⟨go12, 0, none⟩) t283.length co12) t283 from z26_); obtain ⟨ce21, hcl21, hM21, hcc21, hfr21⟩ := Kd.R_elem HX21.out z45 (t282 : Int) (odt_) (by have h_ : (t282 : Int) < ((t283.length : Int) : Int) := odt_; first | exact h_ | (have e_ := (Kd.R_reads' HO285.out).1; omega) | simpa using h_); obtain rfl := k45_openM hM21; have HP21 := Kd.R_seg HX21.out (t282 : Int) (odt_) (by have h_ : (t282 : Int) < ((t283.length : Int) : Int) := odt_; first | exact h_ | (have e_ := (Kd.R_reads' HO285.out).1; omega) | simpa using h_) (seg := [.int .i64 a1_2]) (j := 0) hcl21 hcc21 (show 1 ≤ 2 from by decide) (x' := (⟨a1_2, (rd_T45 t283 t282).f1⟩ : S45)) (k45_mkM _ _ _ (⟨a1_2, (rd_T45 t283 t282).f1⟩ : S45) ) (fun _ hk => hk); have hx21_0 := hcc21 0 _ rfl; (try simp only [show (k45).sz = 2 from rfl, Nat.mul_one, Nat.add_zero] at hx21_0); have hf21_0 := hfr21 0; (try simp only [show (k45).sz = 2 from rfl, Nat.mul_one, Nat.add_zero] at hf21_0); clear hcl21 hcc21 hfr21 hM21) | ((with_reducible refine gate_store (t := 3) (p := 43) rfl ?_); refine store_event (t := 3) (p := 43) (v := ?vo_w22) (w1 := (w19.setCell ⟨go12, (t282 : Int).toNat * 2, none⟩ (.int .i64 a1_2))) ?hg ?ho ?hn ?hr ?_; (case ho => rfl); (case hg => rfl); (case hn => rfl); (case hr => exact z10_); intro w22 hw; have hg : w19.grownBy w22 (some go12) := (by rw [hw]; exact HP21.2); have hp_ : Kd.R k45 45 w22 w.heap.size (fun _ => True) (.slice (some ⟨go12, 0, none⟩) t283.length co12) y289 := (by rw [hw, Ny289.out]; exact HP21.1); clear HP21; replace BK277 := Aside0.mk (blk_grown (g := gb277) (o := .cells #[.int .i64 a1_0, .slice A1_1 l1_1.length c1_1, .int .i64 a1_2, .int .i64 a1_3, .int .i64 a1_4] 100 (0, 0)) z12_ hg (Kd.R_ne HO285.out BK277.out (by decide))); replace HO285 := Aside0.mk (hp_); replace HB := Aside0.mk ((by rw [hw]; exact below_set (HB.out) GB12.out : Below w.heap.size w w22)); clear hg hw hp_))
    go_ret2
    exact ⟨_, z3_, z26_, z4_⟩
   ·rw [if_neg c9] at H
    have c9b0 : (a1_0 == 1) = false := beq_eq_false_iff_ne.mpr c9
    have c9b1 : (a1_0 != 1) = true := bne_iff_ne.mpr c9
    by_cases c23 : a1_0 = 2
    ·rw [if_pos c23] at H
     have c23b0 : (a1_0 == 2) = true := beq_iff_eq.mpr c23
     have c23b1 : (a1_0 != 2) = false := bne_eq_false_iff_eq.mpr c23
     clear c23
     obtain ⟨t290, A24, H⟩ := bnd_ H
     obtain ⟨t291, A25, H⟩ := bnd_ H
     obtain ⟨t294, A26, H⟩ := bnd_ H
     obtain ⟨c27, H⟩ := ifs_ H
     have LMc27 := Aside0.mk c27
     clear c27
     first | ((with_reducible have hz_ := gy_ H); obtain ⟨y297, Ny297, H⟩ := hz_) | (generalize hy_ : ((t291 ++ t294) : List (S45)) = y297 at H; have Ny297 := Aside0.mk hy_.symm; clear hy_)
     obtain ⟨t300, A28, H⟩ := bnd_ H
     obtain ⟨c29, H⟩ := ifs_ H
     have LMc29 := Aside0.mk c29
     clear c29
     first | ((with_reducible have hz_ := gy_ H); obtain ⟨y303, Ny303, H⟩ := hz_) | (generalize hy_ : ((y297 ++ t300) : List (S45)) = y303 at H; have Ny303 := Aside0.mk hy_.symm; clear hy_)
     simp only [Option.some.injEq, Prod.mk.injEq] at H
     obtain ⟨rfl, rfl⟩ := H
     go_enter Try.func64, Try.ntmps64
     go_wp2_with (first | ((with_reducible refine gate_dst (N := 3) rfl ?_); refine box_event ?hg (N := 3) ?hd (cs := #[.int .i64 a1_0, .slice A1_1 l1_1.length c1_1, .int .i64 a1_2, .int .i64 a1_3, .int .i64 a1_4]) (t := 100) ?hr ?_; (case hd => rfl); (case hg => rfl); (case hr => exact z10_); intro gb277 hg w30 hbox hb; have BK277 := Aside0.mk (hbox); have GW277 := Aside0.mk ((by rw [hg]; exact (below_size z0_) : w.heap.size ≤ gb277)); have GE277 := Aside0.mk ((by rw [hg]; exact (below_size z0_) : w.heap.size ≤ gb277)); replace HB := Aside0.mk (below_step z0_ hb); clear hb hbox hg) | ((with_reducible refine gate_callee (f := 16) rfl ?_); refine goesL_ (some 13) rfl rfl Try.func16 (by kernel_rfl) rfl #[.slice A0 l0.length c0] rfl z1_ ?_; (with_reducible refine (spec_TreeOk.calls k _ _ l0 true _ ?side1 ?side2 A3.out).mono ?_); (case side1 => exact z2_); (case side2 => exact HC0.out); rintro e w31 ⟨rfl, hb⟩; refine ⟨_, rfl, ?_⟩; replace BK277 := Aside0.mk (blk_below (g := gb277) (o := .cells #[.int .i64 a1_0, .slice A1_1 l1_1.length c1_1, .int .i64 a1_2, .int .i64 a1_3, .int .i64 a1_4] 100 (0, 0)) z12_ hb); replace HB := Aside0.mk (below_step z4_ hb); (try clear hb); obtain ⟨hcz32_0, hcz32_1, hcz32_2, hcz32_3, hcz32_4, hfz32_0, hfz32_1, hfz32_2, hfz32_3, hfz32_4⟩ := bx5_ BK277.out) | ((with_reducible refine gate_callee (f := 90) rfl ?_); refine goesL_ (some 19) rfl rfl Try.func90 (by kernel_rfl) rfl #[.slice A0 l0.length c0, .slice A1_1 l1_1.length c1_1] rfl z1_ ?_; (with_reducible refine (spec_NodeAt.calls k _ _ l0 _ _ l1_1 t282 _ ?side1 ?side2 ?side3 ?side4 A5.out).mono ?_); (case side1 => exact z2_); (case side2 => exact HC0.out); (case side3 => exact z31_); (case side4 => exact HC1_1.out); rintro e w33 ⟨rfl, hb⟩; refine ⟨_, rfl, ?_⟩; replace BK277 := Aside0.mk (blk_below (g := gb277) (o := .cells #[.int .i64 a1_0, .slice A1_1 l1_1.length c1_1, .int .i64 a1_2, .int .i64 a1_3, .int .i64 a1_4] 100 (0, 0)) z12_ hb); replace HB := Aside0.mk (below_step z4_ hb); (try clear hb)) | ((with_reducible refine gate_callee (f := 45) rfl ?_); refine goesL_ (some 21) rfl rfl Try.func45 (by kernel_rfl) rfl #[.slice A0 l0.length c0] rfl z1_ ?_; (with_reducible refine (spec_l3Copy.calls _ _ l0 t283 _ ?side1 ?side2 A6.out).mono ?_); (case side1 => exact z2_); (case side2 => exact HC0.out); rintro e w34 ⟨v284, rfl, ho0, hb⟩; refine ⟨_, rfl, ?_⟩; have HO285 := Aside0.mk (Kd.R_lower ho0 (below_size z4_)); replace BK277 := Aside0.mk (blk_below (g := gb277) (o := .cells #[.int .i64 a1_0, .slice A1_1 l1_1.length c1_1, .int .i64 a1_2, .int .i64 a1_3, .int .i64 a1_4] 100 (0, 0)) z12_ hb); replace HB := Aside0.mk (below_step z4_ hb); (try clear hb ho0); obtain ⟨hcz35_0, hcz35_1, hcz35_2, hcz35_3, hcz35_4, hfz35_0, hfz35_1, hfz35_2, hfz35_3, hfz35_4⟩ := bx5_ BK277.out) | ((with_reducible refine gate_callee (f := 91) rfl ?_); refine goesL_ (some 26) rfl rfl Try.func91 (by kernel_rfl) rfl #[.slice A0 l0.length c0, .agg #[.int .i64 a1_0, .slice A1_1 l1_1.length c1_1, .int .i64 a1_2, .int .i64 a1_3, .int .i64 a1_4], .int .i64 t282] rfl z1_ ?_; (with_reducible refine (spec_l13Code.calls k _ _ l0 a1_0 _ _ l1_1 a1_2 a1_3 a1_4 t282 t286 t287 t288 _ ?side1 ?side2 ?side3 ?side4 A7.out).mono ?_); (case side1 => exact z2_); (case side2 => exact HC0.out); (case side3 => exact z31_); (case side4 => exact HC1_1.out); rintro e w36 ⟨rfl, hb⟩; refine ⟨_, rfl, ?_⟩; replace HO285 := Aside0.mk (Kd.R_below z26_ hb); replace BK277 := Aside0.mk (blk_below (g := gb277) (o := .cells #[.int .i64 a1_0, .slice A1_1 l1_1.length c1_1, .int .i64 a1_2, .int .i64 a1_3, .int .i64 a1_4] 100 (0, 0)) z12_ hb); replace HB := Aside0.mk (below_step z4_ hb); (try clear hb); obtain ⟨hcz37_0, hcz37_1, hcz37_2, hcz37_3, hcz37_4, hfz37_0, hfz37_1, hfz37_2, hfz37_3, hfz37_4⟩ := bx5_ BK277.out) | ((with_reducible refine gate_callee (f := 81) rfl ?_); refine goesL_ (some 50) rfl rfl Try.func81 (by kernel_rfl) rfl #[.slice A0 l0.length c0, .int .i64 t282] rfl z1_ ?_; (with_reducible refine (spec_EndOf.calls k _ _ l0 t282 t290 _ ?side1 ?side2 A24.out).mono ?_); (case side1 => exact z2_); (case side2 => exact HC0.out); rintro e w38 ⟨rfl, hb⟩; refine ⟨_, rfl, ?_⟩; replace HO285 := Aside0.mk (Kd.R_below z26_ hb); replace BK277 := Aside0.mk (blk_below (g := gb277) (o := .cells #[.int .i64 a1_0, .slice A1_1 l1_1.length c1_1, .int .i64 a1_2, .int .i64 a1_3, .int .i64 a1_4] 100 (0, 0)) z12_ hb); replace HB := Aside0.mk (below_step z4_ hb); (try clear hb)) | ((with_reducible refine gate_callee (f := 92) rfl ?_); refine goesL_ (some 53) rfl rfl Try.func92 (by kernel_rfl) rfl #[.slice A0 l0.length c0, .int .i64 0, .int .i64 t282, .int .i64 0] rfl z1_ ?_; (with_reducible refine (spec_l13Shift.calls k _ _ l0 0 t282 0 t291 _ ?side1 ?side2 A25.out).mono ?_); (case side1 => exact z2_); (case side2 => exact HC0.out); rintro e w39 ⟨v292, rfl, ho0, hb⟩; refine ⟨_, rfl, ?_⟩; have HO293 := Aside0.mk (Kd.R_lower (Kd.R_new' ho0 (Kd.R_lt z26_)) (below_size z4_)); replace HO285 := Aside0.mk (Kd.R_elder' z26_ (Kd.R_base ho0) hb); replace BK277 := Aside0.mk (blk_below (g := gb277) (o := .cells #[.int .i64 a1_0, .slice A1_1 l1_1.length c1_1, .int .i64 a1_2, .int .i64 a1_3, .int .i64 a1_4] 100 (0, 0)) z12_ hb); replace HB := Aside0.mk (below_step z4_ hb); (try clear hb ho0)) | ((with_reducible refine gate_callee (f := 92) rfl ?_); refine goesL_ (some 58) rfl rfl Try.func92 (by kernel_rfl) rfl #[.slice A0 l0.length c0, .int .i64 (wrap64 (t282 + 1)), .int .i64 t290, .int .i64 (-1)] rfl z1_ ?_; (with_reducible refine (spec_l13Shift.calls k _ _ l0 (wrap64 (t282 + 1)) t290 (-1) t294 _ ?side1 ?side2 A26.out).mono ?_); (case side1 => exact z2_); (case side2 => exact HC0.out); rintro e w40 ⟨v295, rfl, ho0, hb⟩; refine ⟨_, rfl, ?_⟩; have HO296 := Aside0.mk (Kd.R_lower (Kd.R_new' (Kd.R_new' ho0 (Kd.R_lt z26_)) (Kd.R_lt z141_)) (below_size z4_)); replace HO285 := Aside0.mk (Kd.R_elder' z26_ (Kd.R_base ho0) hb); replace HO293 := Aside0.mk (Kd.R_elder' z141_ (Kd.R_base ho0) hb); replace BK277 := Aside0.mk (blk_below (g := gb277) (o := .cells #[.int .i64 a1_0, .slice A1_1 l1_1.length c1_1, .int .i64 a1_2, .int .i64 a1_3, .int .i64 a1_4] 100 (0, 0)) z12_ hb); replace HB := Aside0.mk (below_step z4_ hb); (try clear hb ho0); obtain ⟨Ao42, co42, eo42⟩ := Kd.R_slice HO296.out; subst eo42) | ((with_reducible refine gate_builtin (b := .append) (xs := #[.tmp 53, .tmp 58]) rfl ?_); at_builtin; refine Kd.R_append_rows k45 (w0 := w) w.heap.size rfl (.tmp 53) (.tmp 58) 30 45 (.agg #[(.int .i64 0), (.int .i64 0)]) 16 rfl Try.underlying30 info45 rfl (by decide) (by omega) v292 t291 t294 _ _ _ (fun k_ => some k_ ≠ (v284 : Value).ownBlock ∧ some k_ ≠ (.slice Ao42 t294.length co42 : Value).ownBlock) (fun _ => False) rfl rfl ?aO ?aR (fun _ _ h => h) (fun _ h => h.elim) ?aF ?aB ?aS ?aL ?_; (case aR => repeat (first | exact (Kd.R_reads' HO296.out).2.2 | (with_reducible refine Kd.C_alloc ?_ _) | (with_reducible refine Kd.C_drewN ?_ _) | (with_reducible refine Kd.C_drew ?_))); (case aB => exact z71_); (case aF => exact (fun k_ hk => ⟨Kd.fresh' (Kd.R_lt z26_) k_ hk, Kd.fresh' (Kd.R_lt z101_) k_ hk⟩)); (case aO => exact (by (with_reducible repeat (first | apply Kd.R_alloc | apply Kd.R_drewN | apply Kd.R_drew)); exact Kd.R_mono HO293.out (fun _ hk => ⟨hk.1.2, hk.2⟩))); (case aS => exact z66_); (case aL => have := LMc27.out; omega); intro v298 w41 ho hb hg hat; rw [← Ny297.out] at ho; replace BK277 := Aside0.mk (blk_grown (g := gb277) (o := .cells #[.int .i64 a1_0, .slice A1_1 l1_1.length c1_1, .int .i64 a1_2, .int .i64 a1_3, .int .i64 a1_4] 100 (0, 0)) z12_ hg (Kd.R_ne HO293.out BK277.out (by decide))); replace HO285 := Aside0.mk (Kd.R_after (ok := (fun k_ => some k_ ≠ (.slice Ao42 t294.length co42 : Value).ownBlock)) z127_ hg hat); replace HO296 := Aside0.mk (Kd.R_after (ok := (fun k_ => some k_ ≠ (v284 : Value).ownBlock)) (by (with_reducible repeat (first | apply Kd.R_alloc | apply Kd.R_drewN | apply Kd.R_drew)); exact Kd.R_mono HO296.out (fun _ hk => ⟨hk.1.2, hk.2⟩)) hg hat); replace HB := Aside0.mk (hb); have HO299 := Aside0.mk (ho); clear HO293; clear ho hb hg hat) | ((with_reducible refine gate_callee (f := 92) rfl ?_); refine goesL_ (some 65) rfl rfl Try.func92 (by kernel_rfl) rfl #[.slice A0 l0.length c0, .int .i64 t290, .int .i64 (l0.length : Int), .int .i64 0] rfl z1_ ?_; (with_reducible refine (spec_l13Shift.calls k _ _ l0 t290 (l0.length : Int) 0 t300 _ ?side1 ?side2 A28.out).mono ?_); (case side1 => exact z2_); (case side2 => exact HC0.out); rintro e w43 ⟨v301, rfl, ho0, hb⟩; refine ⟨_, rfl, ?_⟩; have HO302 := Aside0.mk (Kd.R_lower (Kd.R_new' (Kd.R_new' (Kd.R_new' ho0 (Kd.R_lt z26_)) (Kd.R_lt z101_)) (Kd.R_lt z142_)) (below_size z4_)); replace HO285 := Aside0.mk (Kd.R_elder' z26_ (Kd.R_base ho0) hb); replace HO296 := Aside0.mk (Kd.R_elder' z101_ (Kd.R_base ho0) hb); replace HO299 := Aside0.mk (Kd.R_elder' z142_ (Kd.R_base ho0) hb); replace BK277 := Aside0.mk (blk_below (g := gb277) (o := .cells #[.int .i64 a1_0, .slice A1_1 l1_1.length c1_1, .int .i64 a1_2, .int .i64 a1_3, .int .i64 a1_4] 100 (0, 0)) z12_ hb); replace HB := Aside0.mk (below_step z4_ hb); (try clear hb ho0); obtain ⟨Ao45, co45, eo45⟩ := Kd.R_slice HO302.out; subst eo45) | ((with_reducible refine gate_builtin (b := .append) (xs := #[.tmp 60, .tmp 65]) rfl ?_); at_builtin; refine Kd.R_append_rows k45 (w0 := w) w.heap.size rfl (.tmp 60) (.tmp 65) 30 45 (.agg #[(.int .i64 0), (.int .i64 0)]) 16 rfl Try.underlying30 info45 rfl (by decide) (by omega) v298 y297 t300 _ _ _ (fun k_ => some k_ ≠ (v284 : Value).ownBlock ∧ some k_ ≠ (.slice Ao42 t294.length co42 : Value).ownBlock ∧ some k_ ≠ (.slice Ao45 t300.length co45 : Value).ownBlock) (fun _ => False) rfl rfl ?aO ?aR (fun _ _ h => h) (fun _ h => h.elim) ?aF ?aB ?aS ?aL ?_; (case aR => repeat (first | exact (Kd.R_reads' HO302.out).2.2 | (with_reducible refine Kd.C_alloc ?_ _) | (with_reducible refine Kd.C_drewN ?_ _) | (with_reducible refine Kd.C_drew ?_))); (case aB => exact z71_); (case aF => exact (fun k_ hk => ⟨Kd.fresh' (Kd.R_lt z26_) k_ hk, Kd.fresh' (Kd.R_lt z101_) k_ hk, Kd.fresh' (Kd.R_lt (by (with_reducible repeat (first | apply Kd.R_alloc | apply Kd.R_drewN | apply Kd.R_drew)); exact HO302.out)) k_ hk⟩)); (case aO => exact (by (with_reducible repeat (first | apply Kd.R_alloc | apply Kd.R_drewN | apply Kd.R_drew)); exact Kd.R_mono HO299.out (fun _ hk => ⟨hk.1.1, ⟨hk.1.2, hk.2⟩⟩))); (case aS => exact z66_); (case aL => have := LMc29.out; omega); intro v304 w44 ho hb hg hat; rw [← Ny303.out] at ho; replace BK277 := Aside0.mk (blk_grown (g := gb277) (o := .cells #[.int .i64 a1_0, .slice A1_1 l1_1.length c1_1, .int .i64 a1_2, .int .i64 a1_3, .int .i64 a1_4] 100 (0, 0)) z12_ hg (Kd.R_ne HO299.out BK277.out (by decide))); replace HO285 := Aside0.mk (Kd.R_after (ok := (fun k_ => some k_ ≠ (.slice Ao42 t294.length co42 : Value).ownBlock ∧ some k_ ≠ (.slice Ao45 t300.length co45 : Value).ownBlock)) z125_ hg hat); replace HO296 := Aside0.mk (Kd.R_after (ok := (fun k_ => some k_ ≠ (v284 : Value).ownBlock ∧ some k_ ≠ (.slice Ao45 t300.length co45 : Value).ownBlock)) (by (with_reducible repeat (first | apply Kd.R_alloc | apply Kd.R_drewN | apply Kd.R_drew)); exact Kd.R_mono HO296.out (fun _ hk => ⟨⟨hk.1.1, hk.2⟩, hk.1.2⟩)) hg hat); replace HO302 := Aside0.mk (Kd.R_after (ok := (fun k_ => some k_ ≠ (v284 : Value).ownBlock ∧ some k_ ≠ (.slice Ao42 t294.length co42 : Value).ownBlock)) (by (with_reducible repeat (first | apply Kd.R_alloc | apply Kd.R_drewN | apply Kd.R_drew)); exact Kd.R_mono HO302.out (fun _ hk => ⟨⟨hk.1.1.2, hk.1.2⟩, hk.2⟩)) hg hat); replace HB := Aside0.mk (hb); have HO305 := Aside0.mk (ho); clear HO299; clear ho hb hg hat))
     go_ret2
     exact ⟨_, z3_, by (with_reducible repeat (first | apply Kd.R_alloc | apply Kd.R_drewN | apply Kd.R_drew)); exact Kd.R_mono HO305.out (fun _ hk => trivial), z4_⟩
    ·rw [if_neg c23] at H
     have c23b0 : (a1_0 == 2) = false := beq_eq_false_iff_ne.mpr c23
     have c23b1 : (a1_0 != 2) = true := bne_iff_ne.mpr c23
     obtain ⟨t306, A46, H⟩ := bnd_ H
     obtain ⟨c47b0, H⟩ := ifd_ H
     obtain ⟨c48b0, H⟩ := ifd_ H
     first | ((with_reducible have hz_ := gy_ H); obtain ⟨y310, Ny310, H⟩ := hz_) | (generalize hy_ : ((([(⟨a1_2, wrap64 (((rd_T45 l0 t282).f1) + 1)⟩ : S45)] : List (S45))) : List (S45)) = y310 at H; have Ny310 := Aside0.mk hy_.symm; clear hy_)
     obtain ⟨c49, H⟩ := ifs_ H
     have LMc49 := Aside0.mk c49
     clear c49
     first | ((with_reducible have hz_ := gy_ H); obtain ⟨y313, Ny313, H⟩ := hz_) | (generalize hy_ : ((t306 ++ y310) : List (S45)) = y313 at H; have Ny313 := Aside0.mk hy_.symm; clear hy_)
     obtain ⟨t316, A50, H⟩ := bnd_ H
     obtain ⟨c51, H⟩ := ifs_ H
     have LMc51 := Aside0.mk c51
     clear c51
     first | ((with_reducible have hz_ := gy_ H); obtain ⟨y319, Ny319, H⟩ := hz_) | (generalize hy_ : ((y313 ++ t316) : List (S45)) = y319 at H; have Ny319 := Aside0.mk hy_.symm; clear hy_)
     obtain ⟨t322, A52, H⟩ := bnd_ H
     obtain ⟨c53, H⟩ := ifs_ H
     have LMc53 := Aside0.mk c53
     clear c53
     first | ((with_reducible have hz_ := gy_ H); obtain ⟨y325, Ny325, H⟩ := hz_) | (generalize hy_ : ((y319 ++ t322) : List (S45)) = y325 at H; have Ny325 := Aside0.mk hy_.symm; clear hy_)
     simp only [Option.some.injEq, Prod.mk.injEq] at H
     obtain ⟨rfl, rfl⟩ := H
     go_enter Try.func64, Try.ntmps64
     try go_wp2_with (first | ((with_reducible refine gate_dst (N := 3) rfl ?_); refine box_event ?hg (N := 3) ?hd (cs := #[.int .i64 a1_0, .slice A1_1 l1_1.length c1_1, .int .i64 a1_2, .int .i64 a1_3, .int .i64 a1_4]) (t := 100) ?hr ?_; (case hd => rfl); (case hg => rfl); (case hr => exact z10_); intro gb277 hg w54 hbox hb; have BK277 := Aside0.mk (hbox); have GW277 := Aside0.mk ((by rw [hg]; exact (below_size z0_) : w.heap.size ≤ gb277)); have GE277 := Aside0.mk ((by rw [hg]; exact (below_size z0_) : w.heap.size ≤ gb277)); replace HB := Aside0.mk (below_step z0_ hb); clear hb hbox hg) | ((with_reducible refine gate_callee (f := 16) rfl ?_); refine goesL_ (some 13) rfl rfl Try.func16 (by kernel_rfl) rfl #[.slice A0 l0.length c0] rfl z1_ ?_; (with_reducible refine (spec_TreeOk.calls k _ _ l0 true _ ?side1 ?side2 A3.out).mono ?_); (case side1 => exact z2_); (case side2 => exact HC0.out); rintro e w55 ⟨rfl, hb⟩; refine ⟨_, rfl, ?_⟩; replace BK277 := Aside0.mk (blk_below (g := gb277) (o := .cells #[.int .i64 a1_0, .slice A1_1 l1_1.length c1_1, .int .i64 a1_2, .int .i64 a1_3, .int .i64 a1_4] 100 (0, 0)) z12_ hb); replace HB := Aside0.mk (below_step z4_ hb); (try clear hb); obtain ⟨hcz56_0, hcz56_1, hcz56_2, hcz56_3, hcz56_4, hfz56_0, hfz56_1, hfz56_2, hfz56_3, hfz56_4⟩ := bx5_ BK277.out) | ((with_reducible refine gate_callee (f := 90) rfl ?_); refine goesL_ (some 19) rfl rfl Try.func90 (by kernel_rfl) rfl #[.slice A0 l0.length c0, .slice A1_1 l1_1.length c1_1] rfl z1_ ?_; (with_reducible refine (spec_NodeAt.calls k _ _ l0 _ _ l1_1 t282 _ ?side1 ?side2 ?side3 ?side4 A5.out).mono ?_); (case side1 => exact z2_); (case side2 => exact HC0.out); (case side3 => exact z31_); (case side4 => exact HC1_1.out); rintro e w57 ⟨rfl, hb⟩; refine ⟨_, rfl, ?_⟩; replace BK277 := Aside0.mk (blk_below (g := gb277) (o := .cells #[.int .i64 a1_0, .slice A1_1 l1_1.length c1_1, .int .i64 a1_2, .int .i64 a1_3, .int .i64 a1_4] 100 (0, 0)) z12_ hb); replace HB := Aside0.mk (below_step z4_ hb); (try clear hb)) | ((with_reducible refine gate_callee (f := 45) rfl ?_); refine goesL_ (some 21) rfl rfl Try.func45 (by kernel_rfl) rfl #[.slice A0 l0.length c0] rfl z1_ ?_; (with_reducible refine (spec_l3Copy.calls _ _ l0 t283 _ ?side1 ?side2 A6.out).mono ?_); (case side1 => exact z2_); (case side2 => exact HC0.out); rintro e w58 ⟨v284, rfl, ho0, hb⟩; refine ⟨_, rfl, ?_⟩; have HO285 := Aside0.mk (Kd.R_lower ho0 (below_size z4_)); replace BK277 := Aside0.mk (blk_below (g := gb277) (o := .cells #[.int .i64 a1_0, .slice A1_1 l1_1.length c1_1, .int .i64 a1_2, .int .i64 a1_3, .int .i64 a1_4] 100 (0, 0)) z12_ hb); replace HB := Aside0.mk (below_step z4_ hb); (try clear hb ho0); obtain ⟨hcz59_0, hcz59_1, hcz59_2, hcz59_3, hcz59_4, hfz59_0, hfz59_1, hfz59_2, hfz59_3, hfz59_4⟩ := bx5_ BK277.out) | ((with_reducible refine gate_callee (f := 91) rfl ?_); refine goesL_ (some 26) rfl rfl Try.func91 (by kernel_rfl) rfl #[.slice A0 l0.length c0, .agg #[.int .i64 a1_0, .slice A1_1 l1_1.length c1_1, .int .i64 a1_2, .int .i64 a1_3, .int .i64 a1_4], .int .i64 t282] rfl z1_ ?_; (with_reducible refine (spec_l13Code.calls k _ _ l0 a1_0 _ _ l1_1 a1_2 a1_3 a1_4 t282 t286 t287 t288 _ ?side1 ?side2 ?side3 ?side4 A7.out).mono ?_); (case side1 => exact z2_); (case side2 => exact HC0.out); (case side3 => exact z31_); (case side4 => exact HC1_1.out); rintro e w60 ⟨rfl, hb⟩; refine ⟨_, rfl, ?_⟩; replace HO285 := Aside0.mk (Kd.R_below z26_ hb); replace BK277 := Aside0.mk (blk_below (g := gb277) (o := .cells #[.int .i64 a1_0, .slice A1_1 l1_1.length c1_1, .int .i64 a1_2, .int .i64 a1_3, .int .i64 a1_4] 100 (0, 0)) z12_ hb); replace HB := Aside0.mk (below_step z4_ hb); (try clear hb); obtain ⟨hcz61_0, hcz61_1, hcz61_2, hcz61_3, hcz61_4, hfz61_0, hfz61_1, hfz61_2, hfz61_3, hfz61_4⟩ := bx5_ BK277.out))
     have n0_ := Aside0.mk (Kd.R_drew HO285.out)
     have n1_ := Aside0.mk (blk_drew BK277.out)
     have n2_ := Aside0.mk (below_drew1 HB.out)
     clear HO285
     clear BK277
     clear HB
     have HO285 := n0_
     have BK277 := n1_
     have HB := n2_
     clear n0_ n1_ n2_
     obtain ⟨p309, q309, ad309, e309, hw309_0, hw309_1, hx309_0, hx309_1⟩ := atw45_ HR0 HB t282
     cases e309
     refine start_ (n := 15) (S := fun w' => w'.cell? ⟨gb277, 0, none⟩ = some (.int .i64 a1_0) ∧ w'.cell? ⟨gb277, 1, none⟩ = some (.slice A1_1 l1_1.length c1_1) ∧ w'.cell? ⟨gb277, 2, none⟩ = some (.int .i64 a1_2) ∧ w'.cell? ⟨gb277, 3, none⟩ = some (.int .i64 a1_3) ∧ w'.cell? ⟨gb277, 4, none⟩ = some (.int .i64 a1_4) ∧ w'.cell? (ad309.add ((t282).toNat * 2)) = some (.int .i64 ((rd_T45 l0 t282).f0)) ∧ w'.cell? ⟨(ad309.add ((t282).toNat * 2)).block, (ad309.add ((t282).toNat * 2)).off + 1, none⟩ = some (.int .i64 ((rd_T45 l0 t282).f1))) (ds := []) (fl_ 15 0) (by kernel_rfl) rfl (fl_zero _) ⟨(blk_cell BK277.out 0).trans rfl, (blk_cell BK277.out 1).trans rfl, (blk_cell BK277.out 2).trans rfl, (blk_cell BK277.out 3).trans rfl, (blk_cell BK277.out 4).trans rfl, ((HB.out.cell (World.block_lt_of_cell? w _ hw309_0)).trans hw309_0), ((HB.out.cell (World.block_lt_of_cell? w _ hw309_1)).trans hw309_1)⟩ (fun hHeld => ?_); refine with_tabW spec_ApplyOp.tab16 spec_ApplyOp.bits16 (fun HT_ HW_ => ?_)
     generalize w60.drew = w62 at HO285 BK277 HB hx309_0 hx309_1 hHeld ⊢
     iterate 2 refine zp_ HT_ rfl rfl (by kernel_rfl) (fun _ _ _ h => h) (by rfl) ?_
     refine zpg_ (i := 3) (ra_ [2, 1, 1, 11]) HT_ rfl rfl (by kernel_rfl) (fun _ _ _ h => h) (by rfl) ?_
     refine zpg_ (i := 5) (ra_ [2, 1, 1, 1, 1, 9]) HT_ rfl rfl (by kernel_rfl) (fun _ _ _ h => h) (by rfl) ?_
     refine zpg_ (i := 6) (ra_ [2, 1, 1, 1, 2, 8]) HT_ rfl rfl (by kernel_rfl) (fun _ _ _ h => h) (by rfl) ?_
     refine zpg_ (i := 7) (ra_ [2, 1, 1, 1, 3, 7]) HT_ rfl rfl (by kernel_rfl) (fun _ _ _ h => h) (by rfl) ?_
     refine zpg_ (i := 8) (ra_ [2, 1, 1, 1, 4, 6]) HT_ rfl rfl (by kernel_rfl) (fun _ _ _ h => h) (by rfl) ?_
     refine ztg_ (i := 4) (ra_ [2, 1, 6, 6]) HT_ HW_ rfl rfl (by kernel_rfl) (fun _ _ _ h => h) (by rfl) hHeld ?_ z133_
     refine ztg_ (i := 9) (ra_ [2, 1, 7, 5]) HT_ HW_ rfl rfl (by kernel_rfl) (fun _ _ _ h => h) (by rfl) hHeld ?_ z133_
     refine zpg_ (i := 10) (ra_ [2, 1, 8, 4]) HT_ rfl rfl (by kernel_rfl) (fun _ _ _ h => h) (by rfl) ?_
     refine zpg_ (i := 11) (ra_ [2, 1, 9, 3]) HT_ rfl rfl (by kernel_rfl) (fun _ _ _ h => h) (by rfl) ?_
     refine join_ (σ := Value × Value) 2 #[true, true, true, true, true, true, true, true, true, true, true, true, true, false, false] (fun s_ => [(70, s_.1), (80, s_.2)]) (fun s_ w' => (w'.cell? ⟨gb277, 0, none⟩ = some (.int .i64 a1_0) ∧ w'.cell? ⟨gb277, 1, none⟩ = some (.slice A1_1 l1_1.length c1_1) ∧ w'.cell? ⟨gb277, 2, none⟩ = some (.int .i64 a1_2) ∧ w'.cell? ⟨gb277, 3, none⟩ = some (.int .i64 a1_3) ∧ w'.cell? ⟨gb277, 4, none⟩ = some (.int .i64 a1_4) ∧ w'.cell? (ad309.add ((t282).toNat * 2)) = some (.int .i64 ((rd_T45 l0 t282).f0)) ∧ w'.cell? ⟨(ad309.add ((t282).toNat * 2)).block, (ad309.add ((t282).toNat * 2)).off + 1, none⟩ = some (.int .i64 ((rd_T45 l0 t282).f1))) ∧ (Kd.R k45 45 w' w.heap.size (fun k_ => some k_ ≠ (s_.1 : Value).ownBlock ∧ some k_ ≠ (s_.2 : Value).ownBlock) v284 t283) ∧ (Kd.R k45 45 w' w.heap.size (fun k_ => some k_ ≠ (v284 : Value).ownBlock ∧ some k_ ≠ (s_.2 : Value).ownBlock) s_.1 t306) ∧ (Kd.R k45 45 w' w.heap.size (fun k_ => some k_ ≠ (v284 : Value).ownBlock ∧ some k_ ≠ (s_.1 : Value).ownBlock) s_.2 y310) ∧ (w'.heap[gb277]? = some (.cells #[.int .i64 a1_0, .slice A1_1 l1_1.length c1_1, .int .i64 a1_2, .int .i64 a1_3, .int .i64 a1_4] 100 (0, 0))) ∧ (Below w.heap.size w w')) ?_ ?_
     rotate_left
     ·intro hCont
      refine two_ (i := 2) (j := 12) (Ni := some 70) (Nj := some 80) #[true, true, true, true, true, true, true, true, true, true, true, true, false, false, false] #[true, true, false, true, true, true, true, true, true, true, true, true, true, false, false] rfl rfl rfl rfl (two_of HT_.out (by kernel_rfl)) (by decide) (by decide) (fun K hK => ?_) (fun K hK => ?_)
      ·skip
       refine goes_ Try.func92 (by kernel_rfl) rfl #[.slice (some ad309) l0.length c0, .int .i64 0, .int .i64 t287, .int .i64 0] (by rfl) rfl rfl z1_ ?_
       with_reducible refine (spec_l13Shift.calls k _ _ l0 0 t287 0 t306 _ ?side1 ?side2 A46.out).mono ?_
       (case side1 => exact z2_)
       (case side2 => exact HC0.out)
       rintro e w63 ⟨v307, rfl, ho0, hb⟩
       refine ⟨_, rfl, ?_⟩
       have n0_ := Aside0.mk (Kd.R_elder' z26_ (Kd.R_base ho0) hb)
       have n1_ := Aside0.mk (Kd.R_lower (Kd.R_new' ho0 (Kd.R_lt z26_)) (below_size z4_))
       have n2_ := Aside0.mk (blk_below (g := gb277) (o := .cells #[.int .i64 a1_0, .slice A1_1 l1_1.length c1_1, .int .i64 a1_2, .int .i64 a1_3, .int .i64 a1_4] 100 (0, 0)) z12_ hb)
       have n3_ := Aside0.mk (below_step z4_ hb)
       clear HO285
       clear BK277
       clear HB
       have HO285 := n0_
       have HO308 := n1_
       have BK277 := n2_
       have HB := n3_
       clear n0_ n1_ n2_ n3_
       (try clear hb)
       (try clear hb2)
       (try clear hk)
       (try clear hi)
       (try clear ho0)
       refine hK.out _ _ ⟨(blk_cell BK277.out 0).trans rfl, (blk_cell BK277.out 1).trans rfl, (blk_cell BK277.out 2).trans rfl, (blk_cell BK277.out 3).trans rfl, (blk_cell BK277.out 4).trans rfl, ((HB.out.cell (World.block_lt_of_cell? w _ hw309_0)).trans hw309_0), ((HB.out.cell (World.block_lt_of_cell? w _ hw309_1)).trans hw309_1)⟩ (fun hHeld => ?_)
       clear hK K
       refine zn_ rfl ?_
       refine one_ (i := 12) (N := some 80) (fl_ 15 13) rfl rfl (one_of HT_.out (by kernel_rfl)) (by decide) (fun K hK => ?_)
       refine Kd.R_lit_step k45 _ 45 ?hg (N := 80) ?hd (xs := ([(⟨a1_2, wrap64 (((rd_T45 l0 t282).f1) + 1)⟩ : S45)] : List (S45))) (inner := [.int .i64 a1_2, .int .i64 (wrap64 (((rd_T45 l0 t282).f1) + 1))]) (ok := fun _ => True) (okp := fun _ => True) ?hr ?hp (fun _ hk => hk) trivial (Below.refl _ _) (Nat.le_refl _) (by simp) ?_; (case hd => rfl); (case hg => rfl); (case hr => exact z10_); (case hp => exact z94_)
       intro v311 w64 ho65 hb hg_ hnew_
       clear hg_ hnew_
       (first | rw [← Ny310.out] at ho65 | (simp only [Int.reduceToNat] at ho65; rw [← Ny310.out] at ho65))
       have n0_ := Aside0.mk (Kd.R_elder' z26_ (Kd.R_base ho65) hb)
       have n1_ := Aside0.mk (Kd.R_elder' z120_ (Kd.R_base ho65) hb)
       have n2_ := Aside0.mk (Kd.R_lower (Kd.R_new' (Kd.R_new' ho65 (Kd.R_lt z26_)) (Kd.R_lt z120_)) (below_size z4_))
       have n3_ := Aside0.mk (blk_below (g := gb277) (o := .cells #[.int .i64 a1_0, .slice A1_1 l1_1.length c1_1, .int .i64 a1_2, .int .i64 a1_3, .int .i64 a1_4] 100 (0, 0)) z12_ hb)
       have n4_ := Aside0.mk (below_step z4_ hb)
       clear HO285
       clear HO308
       clear BK277
       clear HB
       have HO285 := n0_
       have HO308 := n1_
       have HO312 := n2_
       have BK277 := n3_
       have HB := n4_
       clear n0_ n1_ n2_ n3_ n4_
       clear hb ho65
       refine hK.out _ _ ⟨(blk_cell BK277.out 0).trans rfl, (blk_cell BK277.out 1).trans rfl, (blk_cell BK277.out 2).trans rfl, (blk_cell BK277.out 3).trans rfl, (blk_cell BK277.out 4).trans rfl, ((HB.out.cell (World.block_lt_of_cell? w _ hw309_0)).trans hw309_0), ((HB.out.cell (World.block_lt_of_cell? w _ hw309_1)).trans hw309_1)⟩ (fun hHeld => ?_)
       clear hK K
       refine zn_ rfl ?_
       exact norm_ z148_ (hCont (v307, v311) _ ⟨hHeld, (by (with_reducible repeat (first | apply Kd.R_alloc | apply Kd.R_drewN | apply Kd.R_drew)); exact Kd.R_mono HO285.out (fun _ hk => ⟨hk.1.2, hk.2⟩)), z128_, z129_, z12_, z4_⟩)
      ·skip
       refine Kd.R_lit_step k45 _ 45 ?hg (N := 80) ?hd (xs := ([(⟨a1_2, wrap64 (((rd_T45 l0 t282).f1) + 1)⟩ : S45)] : List (S45))) (inner := [.int .i64 a1_2, .int .i64 (wrap64 (((rd_T45 l0 t282).f1) + 1))]) (ok := fun _ => True) (okp := fun _ => True) ?hr ?hp (fun _ hk => hk) trivial (Below.refl _ _) (Nat.le_refl _) (by simp) ?_; (case hd => rfl); (case hg => rfl); (case hr => exact z10_); (case hp => exact z94_)
       intro v311 w63 ho64 hb hg_ hnew_
       clear hg_ hnew_
       (first | rw [← Ny310.out] at ho64 | (simp only [Int.reduceToNat] at ho64; rw [← Ny310.out] at ho64))
       have n0_ := Aside0.mk (Kd.R_elder' z26_ (Kd.R_base ho64) hb)
       have n1_ := Aside0.mk (Kd.R_lower (Kd.R_new' ho64 (Kd.R_lt z26_)) (below_size z4_))
       have n2_ := Aside0.mk (blk_below (g := gb277) (o := .cells #[.int .i64 a1_0, .slice A1_1 l1_1.length c1_1, .int .i64 a1_2, .int .i64 a1_3, .int .i64 a1_4] 100 (0, 0)) z12_ hb)
       have n3_ := Aside0.mk (below_step z4_ hb)
       clear HO285
       clear BK277
       clear HB
       have HO285 := n0_
       have HO312 := n1_
       have BK277 := n2_
       have HB := n3_
       clear n0_ n1_ n2_ n3_
       clear hb ho64
       refine hK.out _ _ ⟨(blk_cell BK277.out 0).trans rfl, (blk_cell BK277.out 1).trans rfl, (blk_cell BK277.out 2).trans rfl, (blk_cell BK277.out 3).trans rfl, (blk_cell BK277.out 4).trans rfl, ((HB.out.cell (World.block_lt_of_cell? w _ hw309_0)).trans hw309_0), ((HB.out.cell (World.block_lt_of_cell? w _ hw309_1)).trans hw309_1)⟩ (fun hHeld => ?_)
       clear hK K
       refine zn_ rfl ?_
       refine one_ (i := 2) (N := some 70) (fl_ 15 13) rfl rfl (one_of HT_.out (by kernel_rfl)) (by decide) (fun K hK => ?_)
       refine goes_ Try.func92 (by kernel_rfl) rfl #[.slice (some ad309) l0.length c0, .int .i64 0, .int .i64 t287, .int .i64 0] (by rfl) rfl rfl z1_ ?_
       with_reducible refine (spec_l13Shift.calls k _ _ l0 0 t287 0 t306 _ ?side1 ?side2 A46.out).mono ?_
       (case side1 => exact z2_)
       (case side2 => exact HC0.out)
       rintro e w65 ⟨v307, rfl, ho0, hb⟩
       refine ⟨_, rfl, ?_⟩
       have n0_ := Aside0.mk (Kd.R_elder' z26_ (Kd.R_base ho0) hb)
       have n1_ := Aside0.mk (Kd.R_elder' z60_ (Kd.R_base ho0) hb)
       have n2_ := Aside0.mk (Kd.R_lower (Kd.R_new' (Kd.R_new' ho0 (Kd.R_lt z26_)) (Kd.R_lt z60_)) (below_size z4_))
       have n3_ := Aside0.mk (blk_below (g := gb277) (o := .cells #[.int .i64 a1_0, .slice A1_1 l1_1.length c1_1, .int .i64 a1_2, .int .i64 a1_3, .int .i64 a1_4] 100 (0, 0)) z12_ hb)
       have n4_ := Aside0.mk (below_step z4_ hb)
       clear HO285
       clear HO312
       clear BK277
       clear HB
       have HO285 := n0_
       have HO312 := n1_
       have HO308 := n2_
       have BK277 := n3_
       have HB := n4_
       clear n0_ n1_ n2_ n3_ n4_
       (try clear hb)
       (try clear hb2)
       (try clear hk)
       (try clear hi)
       (try clear ho0)
       refine hK.out _ _ ⟨(blk_cell BK277.out 0).trans rfl, (blk_cell BK277.out 1).trans rfl, (blk_cell BK277.out 2).trans rfl, (blk_cell BK277.out 3).trans rfl, (blk_cell BK277.out 4).trans rfl, ((HB.out.cell (World.block_lt_of_cell? w _ hw309_0)).trans hw309_0), ((HB.out.cell (World.block_lt_of_cell? w _ hw309_1)).trans hw309_1)⟩ (fun hHeld => ?_)
       clear hK K
       refine zn_ rfl ?_
       exact norm_ z148_ (hCont (v307, v311) _ ⟨hHeld, z127_, z128_, z129_, z12_, z4_⟩)
     rintro ⟨v307, v311⟩ w66 ⟨hS_, h0_, h1_, h2_, h3_, h4_⟩
     have n0_ : Aside0 (Kd.R k45 45 w66 w.heap.size (fun k_ => some k_ ≠ (v307 : Value).ownBlock ∧ some k_ ≠ (v311 : Value).ownBlock) v284 t283) := ⟨h0_⟩
     have n1_ : Aside0 (Kd.R k45 45 w66 w.heap.size (fun k_ => some k_ ≠ (v284 : Value).ownBlock ∧ some k_ ≠ (v311 : Value).ownBlock) v307 t306) := ⟨h1_⟩
     have n2_ : Aside0 (Kd.R k45 45 w66 w.heap.size (fun k_ => some k_ ≠ (v284 : Value).ownBlock ∧ some k_ ≠ (v307 : Value).ownBlock) v311 y310) := ⟨h2_⟩
     have n3_ : Aside0 (w66.heap[gb277]? = some (.cells #[.int .i64 a1_0, .slice A1_1 l1_1.length c1_1, .int .i64 a1_2, .int .i64 a1_3, .int .i64 a1_4] 100 (0, 0))) := ⟨h3_⟩
     have n4_ : Aside0 (Below w.heap.size w w66) := ⟨h4_⟩
     clear HO285
     clear BK277
     clear HB
     clear h0_ h1_ h2_ h3_ h4_
     have HO285 := n0_
     have HO308 := n1_
     have HO312 := n2_
     have BK277 := n3_
     have HB := n4_
     clear n0_ n1_ n2_ n3_ n4_
     have hHeld : w66.cell? ⟨gb277, 0, none⟩ = some (.int .i64 a1_0) ∧ w66.cell? ⟨gb277, 1, none⟩ = some (.slice A1_1 l1_1.length c1_1) ∧ w66.cell? ⟨gb277, 2, none⟩ = some (.int .i64 a1_2) ∧ w66.cell? ⟨gb277, 3, none⟩ = some (.int .i64 a1_3) ∧ w66.cell? ⟨gb277, 4, none⟩ = some (.int .i64 a1_4) ∧ w66.cell? (ad309.add ((t282).toNat * 2)) = some (.int .i64 ((rd_T45 l0 t282).f0)) ∧ w66.cell? ⟨(ad309.add ((t282).toNat * 2)).block, (ad309.add ((t282).toNat * 2)).off + 1, none⟩ = some (.int .i64 ((rd_T45 l0 t282).f1)) := hS_
     obtain ⟨Ao68, co68, eo68⟩ := Kd.R_slice HO312.out
     (first | subst eo68 | (injection eo68 with f1_ f2_ f3_; have f4_ := f1_.symm; have f5_ := f3_.symm; clear f1_ f2_ f3_; subst f4_; subst f5_))
     refine norm_ (a' := ?_) ?_ ?_
     rotate_left
     ·simp only [putAll, Act.put, List.setIfInBounds_toArray, List.set_cons_zero, List.set_cons_succ]
      rfl
     refine one_ (i := 13) (N := some 81) (fl_ 15 14) rfl rfl (one_of HT_.out (by kernel_rfl)) (by decide) (fun K hK => ?_)
     refine Kd.R_append_rows_step k45 (w0 := w) w.heap.size (by rfl) (.tmp 70) (.tmp 80) 30 45 (.agg #[(.int .i64 0), (.int .i64 0)]) 16 rfl Try.underlying30 info45 rfl (by decide) (by omega) v307 t306 y310 _ _ _ (fun k_ => some k_ ≠ (v284 : Value).ownBlock ∧ some k_ ≠ (.slice Ao68 y310.length co68 : Value).ownBlock) (fun _ => False) rfl rfl ?aO ?aR (fun _ _ h => h) (fun _ h => h.elim) ?aF ?aB ?aS ?aL ?_
     (case aR => repeat (first | exact (Kd.R_reads' HO312.out).2.2 | (with_reducible refine Kd.C_alloc ?_ _) | (with_reducible refine Kd.C_drewN ?_ _) | (with_reducible refine Kd.C_drew ?_)))
     (case aB => exact z71_)
     (case aF => exact (fun k_ hk => ⟨Kd.fresh' (Kd.R_lt z26_) k_ hk, Kd.fresh' (Kd.R_lt z60_) k_ hk⟩))
     (case aO => exact z120_)
     (case aS => exact z66_)
     (case aL => have := LMc49.out; omega)
     intro v314 w67 ho hb hg hat
     rw [← Ny313.out] at ho
     have n0_ := Aside0.mk (blk_grown (g := gb277) (o := .cells #[.int .i64 a1_0, .slice A1_1 l1_1.length c1_1, .int .i64 a1_2, .int .i64 a1_3, .int .i64 a1_4] 100 (0, 0)) z12_ hg (Kd.R_ne HO308.out BK277.out (by decide)))
     have n1_ := Aside0.mk (Kd.R_after (ok := (fun k_ => some k_ ≠ (.slice Ao68 y310.length co68 : Value).ownBlock)) (by (with_reducible repeat (first | apply Kd.R_alloc | apply Kd.R_drewN | apply Kd.R_drew)); exact Kd.R_mono HO285.out (fun _ hk => ⟨hk.2, hk.1⟩)) hg hat)
     have n2_ := Aside0.mk (Kd.R_after (ok := (fun k_ => some k_ ≠ (v284 : Value).ownBlock)) z60_ hg hat)
     have n3_ := Aside0.mk (hb)
     have n4_ := Aside0.mk (ho)
     clear BK277
     clear HO285
     clear HO312
     clear HB
     clear HO308
     have BK277 := n0_
     have HO285 := n1_
     have HO312 := n2_
     have HB := n3_
     have HO315 := n4_
     clear n0_ n1_ n2_ n3_ n4_
     clear ho hb hg hat
     refine hK.out _ _ ⟨(blk_cell BK277.out 0).trans rfl, (blk_cell BK277.out 1).trans rfl, (blk_cell BK277.out 2).trans rfl, (blk_cell BK277.out 3).trans rfl, (blk_cell BK277.out 4).trans rfl, ((HB.out.cell (World.block_lt_of_cell? w _ hw309_0)).trans hw309_0), ((HB.out.cell (World.block_lt_of_cell? w _ hw309_1)).trans hw309_1)⟩ (fun hHeld => ?_)
     clear hK K
     refine zn_ rfl ?_
     refine zp_ HT_ rfl rfl (by kernel_rfl) (fun _ _ _ h => h) (by rfl) ?_
     refine done_ (done_of HT_.out (by kernel_rfl)) ?_
     try go_wp2_with (first | ((with_reducible refine gate_callee (f := 92) rfl ?_); refine goesL_ (some 86) rfl rfl Try.func92 (by kernel_rfl) rfl #[.slice (some ad309) l0.length c0, .int .i64 t287, .int .i64 t288, .int .i64 1] rfl z1_ ?_; (with_reducible refine (spec_l13Shift.calls k _ _ l0 t287 t288 1 t316 _ ?side1 ?side2 A50.out).mono ?_); (case side1 => exact z2_); (case side2 => exact HC0.out); rintro e w69 ⟨v317, rfl, ho0, hb⟩; refine ⟨_, rfl, ?_⟩; have HO318 := Aside0.mk (Kd.R_lower (Kd.R_new' (Kd.R_new' (Kd.R_new' ho0 (Kd.R_lt z26_)) (Kd.R_lt z60_)) (Kd.R_lt z143_)) (below_size z4_)); replace HO285 := Aside0.mk (Kd.R_elder' z26_ (Kd.R_base ho0) hb); replace HO312 := Aside0.mk (Kd.R_elder' z60_ (Kd.R_base ho0) hb); replace HO315 := Aside0.mk (Kd.R_elder' z143_ (Kd.R_base ho0) hb); replace BK277 := Aside0.mk (blk_below (g := gb277) (o := .cells #[.int .i64 a1_0, .slice A1_1 l1_1.length c1_1, .int .i64 a1_2, .int .i64 a1_3, .int .i64 a1_4] 100 (0, 0)) z12_ hb); replace HB := Aside0.mk (below_step z4_ hb); (try clear hb ho0); obtain ⟨Ao71, co71, eo71⟩ := Kd.R_slice HO318.out; subst eo71) | ((with_reducible refine gate_builtin (b := .append) (xs := #[.tmp 82, .tmp 86]) rfl ?_); at_builtin; refine Kd.R_append_rows k45 (w0 := w) w.heap.size rfl (.tmp 82) (.tmp 86) 30 45 (.agg #[(.int .i64 0), (.int .i64 0)]) 16 rfl Try.underlying30 info45 rfl (by decide) (by omega) v314 y313 t316 _ _ _ (fun k_ => some k_ ≠ (v284 : Value).ownBlock ∧ some k_ ≠ (.slice Ao68 y310.length co68 : Value).ownBlock ∧ some k_ ≠ (.slice Ao71 t316.length co71 : Value).ownBlock) (fun _ => False) rfl rfl ?aO ?aR (fun _ _ h => h) (fun _ h => h.elim) ?aF ?aB ?aS ?aL ?_; (case aR => repeat (first | exact (Kd.R_reads' HO318.out).2.2 | (with_reducible refine Kd.C_alloc ?_ _) | (with_reducible refine Kd.C_drewN ?_ _) | (with_reducible refine Kd.C_drew ?_))); (case aB => exact z71_); (case aF => exact (fun k_ hk => ⟨Kd.fresh' (Kd.R_lt z26_) k_ hk, Kd.fresh' (Kd.R_lt z60_) k_ hk, Kd.fresh' (Kd.R_lt z102_) k_ hk⟩)); (case aO => exact (by (with_reducible repeat (first | apply Kd.R_alloc | apply Kd.R_drewN | apply Kd.R_drew)); exact Kd.R_mono HO315.out (fun _ hk => ⟨hk.1.1, ⟨hk.1.2, hk.2⟩⟩))); (case aS => exact z66_); (case aL => have := LMc51.out; omega); intro v320 w70 ho hb hg hat; rw [← Ny319.out] at ho; replace BK277 := Aside0.mk (blk_grown (g := gb277) (o := .cells #[.int .i64 a1_0, .slice A1_1 l1_1.length c1_1, .int .i64 a1_2, .int .i64 a1_3, .int .i64 a1_4] 100 (0, 0)) z12_ hg (Kd.R_ne HO315.out BK277.out (by decide))); replace HO285 := Aside0.mk (Kd.R_after (ok := (fun k_ => some k_ ≠ (.slice Ao68 y310.length co68 : Value).ownBlock ∧ some k_ ≠ (.slice Ao71 t316.length co71 : Value).ownBlock)) z125_ hg hat); replace HO312 := Aside0.mk (Kd.R_after (ok := (fun k_ => some k_ ≠ (v284 : Value).ownBlock ∧ some k_ ≠ (.slice Ao71 t316.length co71 : Value).ownBlock)) (by (with_reducible repeat (first | apply Kd.R_alloc | apply Kd.R_drewN | apply Kd.R_drew)); exact Kd.R_mono HO312.out (fun _ hk => ⟨⟨hk.1.1, hk.2⟩, hk.1.2⟩)) hg hat); replace HO318 := Aside0.mk (Kd.R_after (ok := (fun k_ => some k_ ≠ (v284 : Value).ownBlock ∧ some k_ ≠ (.slice Ao68 y310.length co68 : Value).ownBlock)) (by (with_reducible repeat (first | apply Kd.R_alloc | apply Kd.R_drewN | apply Kd.R_drew)); exact Kd.R_mono HO318.out (fun _ hk => ⟨⟨hk.1.1.2, hk.1.2⟩, hk.2⟩)) hg hat); replace HB := Aside0.mk (hb); have HO321 := Aside0.mk (ho); clear HO315; clear ho hb hg hat) | ((with_reducible refine gate_callee (f := 92) rfl ?_); refine goesL_ (some 93) rfl rfl Try.func92 (by kernel_rfl) rfl #[.slice (some ad309) l0.length c0, .int .i64 t288, .int .i64 (l0.length : Int), .int .i64 0] rfl z1_ ?_; (with_reducible refine (spec_l13Shift.calls k _ _ l0 t288 (l0.length : Int) 0 t322 _ ?side1 ?side2 A52.out).mono ?_); (case side1 => exact z2_); (case side2 => exact HC0.out); rintro e w72 ⟨v323, rfl, ho0, hb⟩; refine ⟨_, rfl, ?_⟩; have HO324 := Aside0.mk (Kd.R_lower (Kd.R_new' (Kd.R_new' (Kd.R_new' (Kd.R_new' ho0 (Kd.R_lt z26_)) (Kd.R_lt z60_)) (Kd.R_lt z102_)) (Kd.R_lt z144_)) (below_size z4_)); replace HO285 := Aside0.mk (Kd.R_elder' z26_ (Kd.R_base ho0) hb); replace HO312 := Aside0.mk (Kd.R_elder' z60_ (Kd.R_base ho0) hb); replace HO318 := Aside0.mk (Kd.R_elder' z102_ (Kd.R_base ho0) hb); replace HO321 := Aside0.mk (Kd.R_elder' z144_ (Kd.R_base ho0) hb); replace BK277 := Aside0.mk (blk_below (g := gb277) (o := .cells #[.int .i64 a1_0, .slice A1_1 l1_1.length c1_1, .int .i64 a1_2, .int .i64 a1_3, .int .i64 a1_4] 100 (0, 0)) z12_ hb); replace HB := Aside0.mk (below_step z4_ hb); (try clear hb ho0); obtain ⟨Ao74, co74, eo74⟩ := Kd.R_slice HO324.out; subst eo74) | ((with_reducible refine gate_builtin (b := .append) (xs := #[.tmp 88, .tmp 93]) rfl ?_); at_builtin; refine Kd.R_append_rows k45 (w0 := w) w.heap.size rfl (.tmp 88) (.tmp 93) 30 45 (.agg #[(.int .i64 0), (.int .i64 0)]) 16 rfl Try.underlying30 info45 rfl (by decide) (by omega) v320 y319 t322 _ _ _ (fun k_ => some k_ ≠ (v284 : Value).ownBlock ∧ some k_ ≠ (.slice Ao68 y310.length co68 : Value).ownBlock ∧ some k_ ≠ (.slice Ao71 t316.length co71 : Value).ownBlock ∧ some k_ ≠ (.slice Ao74 t322.length co74 : Value).ownBlock) (fun _ => False) rfl rfl ?aO ?aR (fun _ _ h => h) (fun _ h => h.elim) ?aF ?aB ?aS ?aL ?_; (case aR => repeat (first | exact (Kd.R_reads' HO324.out).2.2 | (with_reducible refine Kd.C_alloc ?_ _) | (with_reducible refine Kd.C_drewN ?_ _) | (with_reducible refine Kd.C_drew ?_))); (case aB => exact z71_); (case aF => exact (fun k_ hk => ⟨Kd.fresh' (Kd.R_lt z26_) k_ hk, Kd.fresh' (Kd.R_lt z60_) k_ hk, Kd.fresh' (Kd.R_lt z102_) k_ hk, Kd.fresh' (Kd.R_lt (by (with_reducible repeat (first | apply Kd.R_alloc | apply Kd.R_drewN | apply Kd.R_drew)); exact HO324.out)) k_ hk⟩)); (case aO => exact (by (with_reducible repeat (first | apply Kd.R_alloc | apply Kd.R_drewN | apply Kd.R_drew)); exact Kd.R_mono HO321.out (fun _ hk => ⟨hk.1.1, ⟨hk.1.2.1, ⟨hk.1.2.2, hk.2⟩⟩⟩))); (case aS => exact z66_); (case aL => have := LMc53.out; omega); intro v326 w73 ho hb hg hat; rw [← Ny325.out] at ho; replace BK277 := Aside0.mk (blk_grown (g := gb277) (o := .cells #[.int .i64 a1_0, .slice A1_1 l1_1.length c1_1, .int .i64 a1_2, .int .i64 a1_3, .int .i64 a1_4] 100 (0, 0)) z12_ hg (Kd.R_ne HO321.out BK277.out (by decide))); replace HO285 := Aside0.mk (Kd.R_after (ok := (fun k_ => some k_ ≠ (.slice Ao68 y310.length co68 : Value).ownBlock ∧ some k_ ≠ (.slice Ao71 t316.length co71 : Value).ownBlock ∧ some k_ ≠ (.slice Ao74 t322.length co74 : Value).ownBlock)) (by (with_reducible repeat (first | apply Kd.R_alloc | apply Kd.R_drewN | apply Kd.R_drew)); exact Kd.R_mono HO285.out (fun _ hk => ⟨⟨hk.1.1.1, ⟨hk.1.1.2, hk.2⟩⟩, hk.1.2⟩)) hg hat); replace HO312 := Aside0.mk (Kd.R_after (ok := (fun k_ => some k_ ≠ (v284 : Value).ownBlock ∧ some k_ ≠ (.slice Ao71 t316.length co71 : Value).ownBlock ∧ some k_ ≠ (.slice Ao74 t322.length co74 : Value).ownBlock)) (by (with_reducible repeat (first | apply Kd.R_alloc | apply Kd.R_drewN | apply Kd.R_drew)); exact Kd.R_mono HO312.out (fun _ hk => ⟨⟨hk.1.1.1, ⟨hk.1.1.2, hk.2⟩⟩, hk.1.2⟩)) hg hat); replace HO318 := Aside0.mk (Kd.R_after (ok := (fun k_ => some k_ ≠ (v284 : Value).ownBlock ∧ some k_ ≠ (.slice Ao68 y310.length co68 : Value).ownBlock ∧ some k_ ≠ (.slice Ao74 t322.length co74 : Value).ownBlock)) (by (with_reducible repeat (first | apply Kd.R_alloc | apply Kd.R_drewN | apply Kd.R_drew)); exact Kd.R_mono HO318.out (fun _ hk => ⟨⟨hk.1.1.1, ⟨hk.1.1.2, hk.2⟩⟩, hk.1.2⟩)) hg hat); replace HO324 := Aside0.mk (Kd.R_after (ok := (fun k_ => some k_ ≠ (v284 : Value).ownBlock ∧ some k_ ≠ (.slice Ao68 y310.length co68 : Value).ownBlock ∧ some k_ ≠ (.slice Ao71 t316.length co71 : Value).ownBlock)) (by (with_reducible repeat (first | apply Kd.R_alloc | apply Kd.R_drewN | apply Kd.R_drew)); exact Kd.R_mono HO324.out (fun _ hk => ⟨⟨hk.1.1.1.2, ⟨hk.1.1.2, hk.1.2⟩⟩, hk.2⟩)) hg hat); replace HB := Aside0.mk (hb); have HO327 := Aside0.mk (ho); clear HO321; clear ho hb hg hat))
     go_ret2
     exact ⟨_, z3_, by (with_reducible repeat (first | apply Kd.R_alloc | apply Kd.R_drewN | apply Kd.R_drew)); exact Kd.R_mono HO327.out (fun _ hk => trivial), z4_⟩
  ·rw [if_neg c8] at H
   have c8b0 : (t286 == 0) = false := beq_eq_false_iff_ne.mpr c8
   have c8b1 : (t286 != 0) = true := bne_iff_ne.mpr c8
   simp only [Option.some.injEq, Prod.mk.injEq] at H
   obtain ⟨rfl, rfl⟩ := H
   go_enter Try.func64, Try.ntmps64
   go_wp2_with (first | ((with_reducible refine gate_dst (N := 3) rfl ?_); refine box_event ?hg (N := 3) ?hd (cs := #[.int .i64 a1_0, .slice A1_1 l1_1.length c1_1, .int .i64 a1_2, .int .i64 a1_3, .int .i64 a1_4]) (t := 100) ?hr ?_; (case hd => rfl); (case hg => rfl); (case hr => exact z10_); intro gb277 hg w75 hbox hb; have BK277 := Aside0.mk (hbox); have GW277 := Aside0.mk ((by rw [hg]; exact (below_size z0_) : w.heap.size ≤ gb277)); have GE277 := Aside0.mk ((by rw [hg]; exact (below_size z0_) : w.heap.size ≤ gb277)); replace HB := Aside0.mk (below_step z0_ hb); clear hb hbox hg) | ((with_reducible refine gate_callee (f := 16) rfl ?_); refine goesL_ (some 13) rfl rfl Try.func16 (by kernel_rfl) rfl #[.slice A0 l0.length c0] rfl z1_ ?_; (with_reducible refine (spec_TreeOk.calls k _ _ l0 true _ ?side1 ?side2 A3.out).mono ?_); (case side1 => exact z2_); (case side2 => exact HC0.out); rintro e w76 ⟨rfl, hb⟩; refine ⟨_, rfl, ?_⟩; replace BK277 := Aside0.mk (blk_below (g := gb277) (o := .cells #[.int .i64 a1_0, .slice A1_1 l1_1.length c1_1, .int .i64 a1_2, .int .i64 a1_3, .int .i64 a1_4] 100 (0, 0)) z12_ hb); replace HB := Aside0.mk (below_step z4_ hb); (try clear hb); obtain ⟨hcz77_0, hcz77_1, hcz77_2, hcz77_3, hcz77_4, hfz77_0, hfz77_1, hfz77_2, hfz77_3, hfz77_4⟩ := bx5_ BK277.out) | ((with_reducible refine gate_callee (f := 90) rfl ?_); refine goesL_ (some 19) rfl rfl Try.func90 (by kernel_rfl) rfl #[.slice A0 l0.length c0, .slice A1_1 l1_1.length c1_1] rfl z1_ ?_; (with_reducible refine (spec_NodeAt.calls k _ _ l0 _ _ l1_1 t282 _ ?side1 ?side2 ?side3 ?side4 A5.out).mono ?_); (case side1 => exact z2_); (case side2 => exact HC0.out); (case side3 => exact z31_); (case side4 => exact HC1_1.out); rintro e w78 ⟨rfl, hb⟩; refine ⟨_, rfl, ?_⟩; replace BK277 := Aside0.mk (blk_below (g := gb277) (o := .cells #[.int .i64 a1_0, .slice A1_1 l1_1.length c1_1, .int .i64 a1_2, .int .i64 a1_3, .int .i64 a1_4] 100 (0, 0)) z12_ hb); replace HB := Aside0.mk (below_step z4_ hb); (try clear hb)) | ((with_reducible refine gate_callee (f := 45) rfl ?_); refine goesL_ (some 21) rfl rfl Try.func45 (by kernel_rfl) rfl #[.slice A0 l0.length c0] rfl z1_ ?_; (with_reducible refine (spec_l3Copy.calls _ _ l0 t283 _ ?side1 ?side2 A6.out).mono ?_); (case side1 => exact z2_); (case side2 => exact HC0.out); rintro e w79 ⟨v284, rfl, ho0, hb⟩; refine ⟨_, rfl, ?_⟩; have HO285 := Aside0.mk (Kd.R_lower ho0 (below_size z4_)); replace BK277 := Aside0.mk (blk_below (g := gb277) (o := .cells #[.int .i64 a1_0, .slice A1_1 l1_1.length c1_1, .int .i64 a1_2, .int .i64 a1_3, .int .i64 a1_4] 100 (0, 0)) z12_ hb); replace HB := Aside0.mk (below_step z4_ hb); (try clear hb ho0); obtain ⟨hcz80_0, hcz80_1, hcz80_2, hcz80_3, hcz80_4, hfz80_0, hfz80_1, hfz80_2, hfz80_3, hfz80_4⟩ := bx5_ BK277.out) | ((with_reducible refine gate_callee (f := 91) rfl ?_); refine goesL_ (some 26) rfl rfl Try.func91 (by kernel_rfl) rfl #[.slice A0 l0.length c0, .agg #[.int .i64 a1_0, .slice A1_1 l1_1.length c1_1, .int .i64 a1_2, .int .i64 a1_3, .int .i64 a1_4], .int .i64 t282] rfl z1_ ?_; (with_reducible refine (spec_l13Code.calls k _ _ l0 a1_0 _ _ l1_1 a1_2 a1_3 a1_4 t282 t286 t287 t288 _ ?side1 ?side2 ?side3 ?side4 A7.out).mono ?_); (case side1 => exact z2_); (case side2 => exact HC0.out); (case side3 => exact z31_); (case side4 => exact HC1_1.out); rintro e w81 ⟨rfl, hb⟩; refine ⟨_, rfl, ?_⟩; replace HO285 := Aside0.mk (Kd.R_below z26_ hb); replace BK277 := Aside0.mk (blk_below (g := gb277) (o := .cells #[.int .i64 a1_0, .slice A1_1 l1_1.length c1_1, .int .i64 a1_2, .int .i64 a1_3, .int .i64 a1_4] 100 (0, 0)) z12_ hb); replace HB := Aside0.mk (below_step z4_ hb); (try clear hb)))
   go_ret2
   exact ⟨_, z3_, z26_, z4_⟩
 ·replace c4 := Bool.eq_false_iff.mpr c4
  subst c4
  replace H := iff_ H
  first | ((with_reducible have hz_ := gy_ H); obtain ⟨y279, Ny279, H⟩ := hz_) | (generalize hy_ : ((([] : List (S45))) : List (S45)) = y279 at H; have Ny279 := Aside0.mk hy_.symm; clear hy_)
  simp only [Option.some.injEq, Prod.mk.injEq] at H
  obtain ⟨rfl, rfl⟩ := H
  go_enter Try.func64, Try.ntmps64
  go_wp2_with (first | ((with_reducible refine gate_dst (N := 3) rfl ?_); refine box_event ?hg (N := 3) ?hd (cs := #[.int .i64 a1_0, .slice A1_1 l1_1.length c1_1, .int .i64 a1_2, .int .i64 a1_3, .int .i64 a1_4]) (t := 100) ?hr ?_; (case hd => rfl); (case hg => rfl); (case hr => exact z10_); intro gb277 hg w82 hbox hb; have BK277 := Aside0.mk (hbox); have GW277 := Aside0.mk ((by rw [hg]; exact (below_size z0_) : w.heap.size ≤ gb277)); have GE277 := Aside0.mk ((by rw [hg]; exact (below_size z0_) : w.heap.size ≤ gb277)); replace HB := Aside0.mk (below_step z0_ hb); clear hb hbox hg) | ((with_reducible refine gate_callee (f := 16) rfl ?_); refine goesL_ (some 13) rfl rfl Try.func16 (by kernel_rfl) rfl #[.slice A0 l0.length c0] rfl z1_ ?_; (with_reducible refine (spec_TreeOk.calls k _ _ l0 false _ ?side1 ?side2 A3.out).mono ?_); (case side1 => exact z2_); (case side2 => exact HC0.out); rintro e w83 ⟨rfl, hb⟩; refine ⟨_, rfl, ?_⟩; replace BK277 := Aside0.mk (blk_below (g := gb277) (o := .cells #[.int .i64 a1_0, .slice A1_1 l1_1.length c1_1, .int .i64 a1_2, .int .i64 a1_3, .int .i64 a1_4] 100 (0, 0)) z12_ hb); replace HB := Aside0.mk (below_step z4_ hb); (try clear hb)) | ((with_reducible refine gate_dst (N := 15) rfl ?_); refine Kd.R_lit k45 _ 45 ?hg (N := 15) ?hd (xs := ([] : List (S45))) (inner := []) (ok := fun _ => True) (okp := fun _ => True) ?hr ?hp (fun _ hk => hk) trivial (Below.refl _ _) (Nat.le_refl _) (by simp) ?_; (case hd => rfl); (case hg => rfl); (case hr => exact z10_); (case hp => exact z75_); intro v280 w84 ho85 hb hg_ hnew_; clear hg_ hnew_; (first | rw [← Ny279.out] at ho85 | (simp only [Int.reduceToNat] at ho85; rw [← Ny279.out] at ho85)); have HO281 := Aside0.mk (Kd.R_lower ho85 (below_size z4_)); replace BK277 := Aside0.mk (blk_below (g := gb277) (o := .cells #[.int .i64 a1_0, .slice A1_1 l1_1.length c1_1, .int .i64 a1_2, .int .i64 a1_3, .int .i64 a1_4] 100 (0, 0)) z12_ hb); replace HB := Aside0.mk (below_step z4_ hb); clear hb ho85))
  go_ret2
  exact ⟨_, z3_, by (with_reducible repeat (first | apply Kd.R_alloc | apply Kd.R_drewN | apply Kd.R_drew)); exact HO281.out, z4_⟩

end Go.Proofs.Ytbiffnahknkoiaa.PFnExactPatch
