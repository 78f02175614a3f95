/- Laid by a program of this session out of the kit's print for the law FnIdle: what it says of the machine is proved here, function by function; each contract under the conditions that it names. -/
import Derived.Test.YtmbhlfcpdbbogaaMFnIdlex0
import Derived.Test.YtmbhlfcpdbbogaaMFnIdlex3
import Derived.Test.YtmbhlfcpdbbogaaMFnIdlex4
import Derived.Test.YtmbhlfcpdbbogaaMFnIdlex5
import Derived.Test.YtmbhlfcpdbbogaaMFnIdlex6
namespace Go.Proofs.Ytmbhlfcpdbbogaa.PFnIdle
open Go.RowKit Go.Proofs.YtmbhlfcpdbbogaaW.PrintWords Go.Proofs.YtmbhlfcpdbbogaaW.PrintLast Go.Proofs.YtmbhlfcpdbbogaaW.PrintMore
attribute [local go_sem] max2_int min2_int max_two min_two max_three min_three max_four min_four   -- for this text's walks alone
set_option linter.unusedVariables false
set_option linter.unusedSimpArgs false

/-! ### spec_l13Shift: function 89 -/
def spec_l13Shift.l0 : Nat → List (S63) → Int → Int → List (S63) → Int → Option ((List (S63)))
 | 0, _, _, _, _, _ => none
 | k + 1, x0, x2, x3, x9, x10 => if x10 < x2 then (if 0 ≤ x10 then (if x10 < (x0.length : Int) then (if x9.length < 8796093022208 then (spec_l13Shift.l0 k x0 x2 x3 (x9 ++ [(⟨(rd_T63 x0 x10).f0, wrap64 (((rd_T63 x0 x10).f1) + x3)⟩ : S63)]) (wrap64 (x10 + 1))) else (none)) else (none)) else (none)) else (some x9)
def spec_l13Shift.f (k : Nat) (l0 : List (S63)) (a1 : Int) (a2 : Int) (a3 : Int) : Option ((List (S63))) := spec_l13Shift.l0 k l0 a2 a3 (([] : List (S63))) a1
theorem spec_l13Shift.mono_l : ∀ k, (∀ y0 y1 y2 y3 y4, LeO (spec_l13Shift.l0 k y0 y1 y2 y3 y4) (spec_l13Shift.l0 (k + 1) y0 y1 y2 y3 y4))
 | 0 => fun _ _ _ _ _ r h => by simp [spec_l13Shift.l0] at h
 | k + 1 => by
  have ih0 := spec_l13Shift.mono_l k
  ·intro y0 y1 y2 y3 y4
   unfold spec_l13Shift.l0
   repeat' first | (with_reducible first | exact ih0 _ _ _ _ _ | exact LeO.refl _ | exact LeO.none _ | refine LeO.ite ?_ ?_ | refine LeO.bind ?_ (fun _ => ?_)) | exact ih0 _ _ _ _ _ | exact LeO.none _ | refine LeO.ite ?_ ?_ | refine LeO.bind ?_ (fun _ => ?_)
theorem spec_l13Shift.mono : ∀ a0 a1 a2 a3 k, LeO (spec_l13Shift.f k a0 a1 a2 a3) (spec_l13Shift.f (k + 1) a0 a1 a2 a3) := by
 intro a0 a1 a2 a3 k
 have ih0 := spec_l13Shift.mono_l k
 unfold spec_l13Shift.f
 repeat' first | (with_reducible first | exact ih0 _ _ _ _ _ | exact LeO.refl _ | exact LeO.none _ | refine LeO.ite ?_ ?_ | refine LeO.bind ?_ (fun _ => ?_)) | exact ih0 _ _ _ _ _ | exact LeO.none _ | refine LeO.ite ?_ ?_ | refine LeO.bind ?_ (fun _ => ?_)
def spec_l13Shift.T5 : Bool × List (List Nat × List Nat) := (true, [([], []), ([], []), ([], []), ([1, 2], [1, 2]), ([3], [3]), ([4], [4]), ([], []), ([], []), ([6, 7], [6, 7]), ([8], [8]), ([9], [9]), ([], []), ([10, 11], [10, 11]), ([5, 12], [5, 12]), ([13], [13]), ([0, 14], [0, 14]), ([15, 15, 0, 1, 2, 3, 4, 5, 6, 7, 8, 9, 10, 11, 12, 13, 14, 15], [0, 15])])
def spec_l13Shift.B5 : List Nat := [0, 0, 0, 6, 14, 30, 0, 0, 192, 448, 960, 0, 4032, 8190, 16382, 32767, 65535]
theorem spec_l13Shift.tab5 : rtab .any (opsOf Try.f89 5) = spec_l13Shift.T5 := by kernel_rfl
theorem spec_l13Shift.bits5 : waitsOk spec_l13Shift.T5.2 spec_l13Shift.B5 = true := by kernel_rfl
set_option maxHeartbeats 8000000 in
set_option maxRecDepth 100000 in
theorem spec_l13Shift.calls (k : Nat) (A0 : Option Addr) (c0 : Nat) (l0 : List (S63)) (a1 : Int) (a2 : Int) (a3 : Int) (r : List (S63)) (w : World) (hr0 : Kd.C k63 w A0 l0.length l0) (hc0 : l0.length ≤ c0) (h : spec_l13Shift.f k l0 a1 a2 a3 = some r) :
  Calls Try.prog 89 #[.slice A0 l0.length c0, .int .i64 a1, .int .i64 a2, .int .i64 a3] w fun e w' => ∃ v0_ : Value, e = .returned (v0_) ∧ Kd.R k63 63 w' w.heap.size (fun _ => True) v0_ r ∧ Below w.heap.size w w' := by
 have hu63 := Try.underlying63
 have HR0 := Aside0.mk hr0
 have HC0 := Aside0.mk hc0
 clear hr0 hc0
 have HB := Aside0.mk (Below.refl w.heap.size w)
 have H : (spec_l13Shift.l0 k l0 a2 a3 (([] : List (S63))) a1) = some r := h
 clear h
 obtain ⟨y271, hy271⟩ : ∃ y_ : List (S63), y_ = (([] : List (S63))) := ⟨_, rfl⟩
 replace H : (spec_l13Shift.l0 k l0 a2 a3 y271 a1) = some r := by first | (rw [hy271]; with_reducible exact H) | (have H2_ := (Option.bind_some _ _).symm.trans H; rw [hy271]; with_reducible exact H2_) | (have H2_ := (Option.bind_some _ _).symm.trans H; with_reducible exact H2_) | with_reducible exact H | (rw [hy271]; exact H) | exact H
 have Ny271 := Aside0.mk hy271
 clear hy271
 have H' := Aside0.mk H
 clear H
 go_enter Try.func89, Try.ntmps89
 go_wp2_with (first | ((with_reducible refine gate_dst (N := 11) rfl ?_); refine Kd.R_lit k63 _ 63 ?hg (N := 11) ?hd (xs := ([] : List (S63))) (inner := []) (ok := fun _ => True) (okp := fun _ => True) ?hr ?hp (fun _ hk => hk) trivial (Below.refl _ _) (Nat.le_refl _) (by simp) ?_; (case hd => rfl); (case hg => rfl); (case hr => exact z23_); (case hp => exact z110_); intro v272 w5 ho6 hb hg_ hnew_; clear hg_ hnew_; (first | rw [← Ny271.out] at ho6 | (simp only [Int.reduceToNat] at ho6; rw [← Ny271.out] at ho6)); have HO273 := Aside0.mk (Kd.R_lower ho6 (below_size z0_)); replace HB := Aside0.mk (below_step z0_ hb); clear hb ho6))
 go_loopg [9, 10] k (fun kq v9 v10 w' => ∃ (x9_1 : List (S63)) (x10_1 : Int), v10 = .int .i64 x10_1 ∧ Aside0 (spec_l13Shift.l0 kq l0 a2 a3 x9_1 x10_1 = some r) ∧ Aside0 (kq ≤ k) ∧ Aside0 (Kd.R k63 63 w' w.heap.size (fun _ => True) v9 x9_1) ∧ Aside0 (Below w.heap.size w w'))
 case atStart => exact ⟨(y271), (a1), z14_, H', ⟨Nat.le_refl _⟩, ⟨by (with_reducible repeat (first | apply Kd.R_alloc | apply Kd.R_drewN | apply Kd.R_drew)); exact HO273.out⟩, ⟨z0_⟩⟩
 case round =>
  clear H'
  try clear p2
  obtain ⟨x9_1, x10_1, rfl, HA, HK1, HO_9, HB⟩ := hrel
  cases gk with
  | zero => exact absurd HA.out (by simp [spec_l13Shift.l0])
  | succ k1 =>
   have H := HA.out
   clear HA
   simp only [spec_l13Shift.l0] at H
   by_cases c7 : x10_1 < a2
   ·rw [if_pos c7] at H
    have c7b0 : decide (x10_1 < a2) = true := decide_eq_true c7
    clear c7
    obtain ⟨c8b0, H⟩ := ifd_ H
    obtain ⟨c9b0, H⟩ := ifd_ H
    obtain ⟨c10, H⟩ := ifs_ H
    have LMc10 := Aside0.mk c10
    clear c10
    obtain ⟨y276, hy276⟩ : ∃ y_ : List (S63), y_ = (x9_1 ++ [(⟨(rd_T63 l0 x10_1).f0, wrap64 (((rd_T63 l0 x10_1).f1) + a3)⟩ : S63)]) := ⟨_, rfl⟩
    replace H : (spec_l13Shift.l0 k1 l0 a2 a3 y276 (wrap64 (x10_1 + 1))) = some r := by first | (rw [hy276]; with_reducible exact H) | (have H2_ := (Option.bind_some _ _).symm.trans H; rw [hy276]; with_reducible exact H2_) | (have H2_ := (Option.bind_some _ _).symm.trans H; with_reducible exact H2_) | with_reducible exact H | (rw [hy276]; exact H) | exact H
    have Ny276 := Aside0.mk hy276
    clear hy276
    have H' := Aside0.mk H
    clear H
    try go_wp2
    have n0_ := Aside0.mk (Kd.R_drew HO_9.out)
    have n1_ := Aside0.mk (below_drew1 HB.out)
    clear HO_9
    clear HB
    have HO_9 := n0_
    have HB := n1_
    clear n0_ n1_
    obtain ⟨p274, q274, ad274, e274, hw274_0, hw274_1, hx274_0, hx274_1⟩ := atw63_ HR0 HB x10_1
    cases e274
    obtain ⟨p275, q275, ad275, e275, hw275_0, hw275_1, hx275_0, hx275_1⟩ := atw63_ HR0 HB x10_1
    obtain rfl : ad274 = ad275 := (by injection e275)
    refine start_ (n := 17) (S := fun w' => w'.cell? (ad274.add ((x10_1).toNat * 2)) = some (.int .i64 ((rd_T63 l0 x10_1).f0)) ∧ w'.cell? ⟨(ad274.add ((x10_1).toNat * 2)).block, (ad274.add ((x10_1).toNat * 2)).off + 1, none⟩ = some (.int .i64 ((rd_T63 l0 x10_1).f1))) (ds := []) (fl_ 17 0) (by kernel_rfl) rfl (fl_zero _) ⟨((HB.out.cell (World.block_lt_of_cell? w _ hw274_0)).trans hw274_0), ((HB.out.cell (World.block_lt_of_cell? w _ hw274_1)).trans hw274_1)⟩ (fun hHeld => ?_); refine with_tabW spec_l13Shift.tab5 spec_l13Shift.bits5 (fun HT_ HW_ => ?_)
    generalize wr.drew = w11 at HO_9 HB hx274_0 hx274_1 hx275_0 hx275_1 hHeld ⊢
    iterate 5 refine zp_ HT_ rfl rfl (by kernel_rfl) (fun _ _ _ h => h) (by rfl) ?_
    refine zpg_ (i := 6) (ra_ [5, 1, 1, 10]) HT_ rfl rfl (by kernel_rfl) (fun _ _ _ h => h) (by rfl) ?_
    refine zpg_ (i := 7) (ra_ [5, 1, 2, 9]) HT_ rfl rfl (by kernel_rfl) (fun _ _ _ h => h) (by rfl) ?_
    refine zpg_ (i := 8) (ra_ [5, 1, 3, 8]) HT_ rfl rfl (by kernel_rfl) (fun _ _ _ h => h) (by rfl) ?_
    refine zpg_ (i := 9) (ra_ [5, 1, 4, 7]) HT_ rfl rfl (by kernel_rfl) (fun _ _ _ h => h) (by rfl) ?_
    refine zpg_ (i := 11) (ra_ [5, 1, 4, 1, 1, 5]) HT_ rfl rfl (by kernel_rfl) (fun _ _ _ h => h) (by rfl) ?_
    refine ztg_ (i := 5) (ra_ [10, 1, 1, 5]) HT_ HW_ rfl rfl (by kernel_rfl) (fun _ _ _ h => h) (by rfl) hHeld ?_ z102_
    refine ztg_ (i := 10) (fl_ 17 12) HT_ HW_ rfl rfl (by kernel_rfl) (fun _ _ _ h => h) (by rfl) hHeld ?_ z102_
    iterate 2 refine zp_ HT_ rfl rfl (by kernel_rfl) (fun _ _ _ h => h) (by rfl) ?_
    refine one_ (i := 14) (N := some 32) (fl_ 17 15) rfl rfl (one_of HT_.out (by kernel_rfl)) (by decide) (fun K hK => ?_)
    refine value_ (w1 := ?_) (v := ?_) (by rfl) rfl ?_ ?_
    rotate_left 2
    ·go_simp
     constructor
     ·rfl
     ·rfl
    refine hK.out _ _ ⟨(World.cell?_alloc_lt _ _ _ (World.block_lt_of_cell? _ _ (((HB.out.cell (World.block_lt_of_cell? w _ hw274_0)).trans hw274_0)))).trans (((HB.out.cell (World.block_lt_of_cell? w _ hw274_0)).trans hw274_0)), (World.cell?_alloc_lt _ _ _ (World.block_lt_of_cell? _ _ (((HB.out.cell (World.block_lt_of_cell? w _ hw274_1)).trans hw274_1)))).trans (((HB.out.cell (World.block_lt_of_cell? w _ hw274_1)).trans hw274_1))⟩ (fun hHeld => ?_)
    clear hK K
    refine zn_ rfl ?_
    refine one_ (i := 15) (N := some 33) (fl_ 17 16) rfl rfl (one_of HT_.out (by kernel_rfl)) (by decide) (fun K hK => ?_)
    refine Kd.R_append_step k63 (w0 := w) w.heap.size (by rfl) (.tmp 18) (.tmp 32) 24 63 (.agg #[(.int .i64 0), (.int .i64 0)]) 16 rfl Try.underlying24 info63 rfl (by decide) (by omega) u9 x9_1 (⟨(rd_T63 l0 x10_1).f0, wrap64 (((rd_T63 l0 x10_1).f1) + a3)⟩ : S63) [.int .i64 ((rd_T63 l0 x10_1).f0), .int .i64 (wrap64 (((rd_T63 l0 x10_1).f1) + a3))] (fun _ => True) (fun _ => False) rfl rfl ?aP (fun _ hk => hk.elim) ?aF ?aO ?aB ?aS ?aL ?_
    (case aP => exact k63_mkM _ _ _ (⟨(rd_T63 l0 x10_1).f0, wrap64 (((rd_T63 l0 x10_1).f1) + a3)⟩ : S63))
    (case aB => exact z50_)
    (case aF => exact z92_)
    (case aO => exact z81_)
    (case aS => exact z46_)
    (case aL => have := LMc10.out; omega)
    intro v277 w12 ho hb hg hat
    rw [← Ny276.out] at ho
    have n0_ := Aside0.mk (hb)
    have n1_ := Aside0.mk (ho)
    clear HB
    clear HO_9
    have HB := n0_
    have HO278 := n1_
    clear n0_ n1_
    clear ho hb hg hat
    refine hK.out _ _ ⟨((HB.out.cell (World.block_lt_of_cell? w _ hw274_0)).trans hw274_0), ((HB.out.cell (World.block_lt_of_cell? w _ hw274_1)).trans hw274_1)⟩ (fun hHeld => ?_)
    clear hK K
    refine zn_ rfl ?_
    refine zp_ HT_ rfl rfl (by kernel_rfl) (fun _ _ _ h => h) (by rfl) ?_
    refine done_ (done_of HT_.out (by kernel_rfl)) ?_
    try go_wp2
    go_roundg k1
    case measure => have := HK1.out; omega
    case rel => exact ⟨(y276), (wrap64 (x10_1 + 1)), z14_, H', ⟨z84_⟩, ⟨by (with_reducible repeat (first | apply Kd.R_alloc | apply Kd.R_drewN | apply Kd.R_drew)); exact HO278.out⟩, ⟨z0_⟩⟩
   ·rw [if_neg c7] at H
    have c7b0 : decide (x10_1 < a2) = false := decide_eq_false c7
    clear c7
    obtain rfl := Option.some.inj H
    go_wp2
    go_ret
    exact ⟨_, z6_, z66_, z0_⟩

/-! ### spec_ApplyOp: function 45 -/
def spec_ApplyOp.f (k : Nat) (l0 : List (S63)) (a1_0 : Int) (l1_1 : List Int) (a1_2 : Int) (a1_3 : Int) (a1_4 : Int) : Option ((List (S63)) × Int) := (spec_TreeOk.f k l0).bind fun t280 => (if t280 = true then ((spec_NodeAt.f k l0 l1_1).bind fun t284 => ((spec_l3Copy.f l0).bind fun t285 => ((spec_l13Code.f k l0 a1_0 l1_1 a1_2 a1_3 a1_4 t284).bind fun bt288 => (if bt288.1 = 0 then (if a1_0 = 1 then (if 0 ≤ t284 then (if t284 < (t285.length : Int) then (some ((t285.set (t284 : Int).toNat (⟨a1_2, (rd_T63 t285 t284).f1⟩ : S63)), bt288.1)) else (none)) else (none)) else (if a1_0 = 2 then ((spec_EndOf.f k l0 t284).bind fun t292 => ((spec_l13Shift.f k l0 0 t284 0).bind fun t293 => ((spec_l13Shift.f k l0 (wrap64 (t284 + 1)) t292 (-1)).bind fun t296 => (if t293.length + t296.length < 8796093022208 then ((some (t293 ++ t296 : List (S63))).bind fun y299 => ((spec_l13Shift.f k l0 t292 (l0.length : Int) 0).bind fun t302 => (if y299.length + t302.length < 8796093022208 then (some ((y299 ++ t302), bt288.1)) else (none)))) else (none))))) else ((spec_l13Shift.f k l0 0 bt288.2.1 0).bind fun t308 => (if 0 ≤ t284 then (if t284 < (l0.length : Int) then ((some (([(⟨a1_2, wrap64 (((rd_T63 l0 t284).f1) + 1)⟩ : S63)] : List (S63)) : List (S63))).bind fun y312 => (if t308.length + y312.length < 8796093022208 then ((some (t308 ++ y312 : List (S63))).bind fun y315 => ((spec_l13Shift.f k l0 bt288.2.1 bt288.2.2 1).bind fun t318 => (if y315.length + t318.length < 8796093022208 then ((some (y315 ++ t318 : List (S63))).bind fun y321 => ((spec_l13Shift.f k l0 bt288.2.2 (l0.length : Int) 0).bind fun t324 => (if y321.length + t324.length < 8796093022208 then (some ((y321 ++ t324), bt288.1)) else (none)))) else (none)))) else (none))) else (none)) else (none))))) else (some (t285, bt288.1)))))) else (some ((([] : List (S63))), 2)))
theorem spec_ApplyOp.mono : ∀ a0 a1 a2 a3 a4 a5 k, LeO (spec_ApplyOp.f k a0 a1 a2 a3 a4 a5) (spec_ApplyOp.f (k + 1) a0 a1 a2 a3 a4 a5) := by
 intro a0 a1 a2 a3 a4 a5 k
 unfold spec_ApplyOp.f
 repeat' first | (with_reducible first | exact spec_EndOf.mono _ _ _ | exact spec_NodeAt.mono _ _ _ | exact spec_TreeOk.mono _ _ | exact spec_l13Code.mono _ _ _ _ _ _ _ _ | exact spec_l13Shift.mono _ _ _ _ _ | exact LeO.refl _ | exact LeO.none _ | refine LeO.ite ?_ ?_ | refine LeO.bind ?_ (fun _ => ?_)) | exact spec_EndOf.mono _ _ _ | exact spec_NodeAt.mono _ _ _ | exact spec_TreeOk.mono _ _ | exact spec_l13Code.mono _ _ _ _ _ _ _ _ | exact spec_l13Shift.mono _ _ _ _ _ | exact LeO.none _ | refine LeO.ite ?_ ?_ | refine LeO.bind ?_ (fun _ => ?_)
def spec_ApplyOp.T16 : Bool × List (List Nat × List Nat) := (true, [([], []), ([], []), ([0, 1], [0, 1]), ([], []), ([3], [3]), ([], []), ([], []), ([5, 6], [5, 6]), ([7], [7]), ([8], [8]), ([9], [9]), ([4, 10], [4, 10]), ([11], [11]), ([2, 12, 2], [2, 12]), ([13, 13, 0, 1, 2, 3, 4, 5, 6, 7, 8, 9, 10, 11, 12, 13], [13])])
def spec_ApplyOp.B16 : List Nat := [0, 0, 3, 0, 8, 0, 0, 96, 224, 480, 992, 2040, 4088, 8191, 16383]
theorem spec_ApplyOp.tab16 : rtab .any (opsOf Try.f45 16) = spec_ApplyOp.T16 := by kernel_rfl
theorem spec_ApplyOp.bits16 : waitsOk spec_ApplyOp.T16.2 spec_ApplyOp.B16 = true := by kernel_rfl
set_option maxHeartbeats 8000000 in
set_option maxRecDepth 100000 in
theorem spec_ApplyOp.calls (k : Nat) (A0 : Option Addr) (c0 : Nat) (l0 : List (S63)) (a1_0 : Int) (A1_1 : Option Addr) (c1_1 : Nat) (l1_1 : List Int) (a1_2 : Int) (a1_3 : Int) (a1_4 : Int) (r1 : List (S63)) (r2 : Int) (w : World) (hr0 : Kd.C k63 w A0 l0.length l0) (hc0 : l0.length ≤ c0) (hr1_1 : Kd.C (Kd.int .i64) w A1_1 l1_1.length l1_1) (hc1_1 : l1_1.length ≤ c1_1) (h : spec_ApplyOp.f k l0 a1_0 l1_1 a1_2 a1_3 a1_4 = some (r1, r2)) :
  Calls Try.prog 45 #[.slice A0 l0.length c0, .agg #[.int .i64 a1_0, .slice A1_1 l1_1.length c1_1, .int .i64 a1_2, .int .i64 a1_3, .int .i64 a1_4]] w fun e w' => ∃ v0_ : Value, e = .returned (.tuple #[v0_, .int .i64 r2]) ∧ Kd.R k63 63 w' w.heap.size (fun _ => True) v0_ r1 ∧ Below w.heap.size w w' := by
 have hu65 := Try.underlying65
 have hu63 := Try.underlying63
 have HR0 := Aside0.mk hr0
 have HC0 := Aside0.mk hc0
 clear hr0 hc0
 have HR1_1 := Aside0.mk hr1_1
 have HC1_1 := Aside0.mk hc1_1
 clear hr1_1 hc1_1
 have HB := Aside0.mk (Below.refl w.heap.size w)
 have H : ((spec_TreeOk.f k l0).bind fun t280 => (if t280 = true then ((spec_NodeAt.f k l0 l1_1).bind fun t284 => ((spec_l3Copy.f l0).bind fun t285 => ((spec_l13Code.f k l0 a1_0 l1_1 a1_2 a1_3 a1_4 t284).bind fun bt288 => (if bt288.1 = 0 then (if a1_0 = 1 then (if 0 ≤ t284 then (if t284 < (t285.length : Int) then (some ((t285.set (t284 : Int).toNat (⟨a1_2, (rd_T63 t285 t284).f1⟩ : S63)), bt288.1)) else (none)) else (none)) else (if a1_0 = 2 then ((spec_EndOf.f k l0 t284).bind fun t292 => ((spec_l13Shift.f k l0 0 t284 0).bind fun t293 => ((spec_l13Shift.f k l0 (wrap64 (t284 + 1)) t292 (-1)).bind fun t296 => (if t293.length + t296.length < 8796093022208 then ((some (t293 ++ t296 : List (S63))).bind fun y299 => ((spec_l13Shift.f k l0 t292 (l0.length : Int) 0).bind fun t302 => (if y299.length + t302.length < 8796093022208 then (some ((y299 ++ t302), bt288.1)) else (none)))) else (none))))) else ((spec_l13Shift.f k l0 0 bt288.2.1 0).bind fun t308 => (if 0 ≤ t284 then (if t284 < (l0.length : Int) then ((some (([(⟨a1_2, wrap64 (((rd_T63 l0 t284).f1) + 1)⟩ : S63)] : List (S63)) : List (S63))).bind fun y312 => (if t308.length + y312.length < 8796093022208 then ((some (t308 ++ y312 : List (S63))).bind fun y315 => ((spec_l13Shift.f k l0 bt288.2.1 bt288.2.2 1).bind fun t318 => (if y315.length + t318.length < 8796093022208 then ((some (y315 ++ t318 : List (S63))).bind fun y321 => ((spec_l13Shift.f k l0 bt288.2.2 (l0.length : Int) 0).bind fun t324 => (if y321.length + t324.length < 8796093022208 then (some ((y321 ++ t324), bt288.1)) else (none)))) else (none)))) else (none))) else (none)) else (none))))) else (some (t285, bt288.1)))))) else (some ((([] : List (S63))), 2)))) = some (r1, r2) := h
 clear h
 obtain ⟨t280, A3, H⟩ := bnd_ H
 by_cases c4 : t280 = true
 ·subst c4
  replace H := ift_ H
  obtain ⟨t284, A5, H⟩ := bnd_ H
  obtain ⟨t285, A6, H⟩ := bnd_ H
  replace H := Option.bind_eq_some_iff.mp H
  obtain ⟨⟨t288, t289, t290⟩, A70, H⟩ := H
  replace H : (if t288 = 0 then (if a1_0 = 1 then (if 0 ≤ t284 then (if t284 < (t285.length : Int) then (some ((t285.set (t284 : Int).toNat (⟨a1_2, (rd_T63 t285 t284).f1⟩ : S63)), t288)) else (none)) else (none)) else (if a1_0 = 2 then ((spec_EndOf.f k l0 t284).bind fun t292 => ((spec_l13Shift.f k l0 0 t284 0).bind fun t293 => ((spec_l13Shift.f k l0 (wrap64 (t284 + 1)) t292 (-1)).bind fun t296 => (if t293.length + t296.length < 8796093022208 then ((some (t293 ++ t296 : List (S63))).bind fun y299 => ((spec_l13Shift.f k l0 t292 (l0.length : Int) 0).bind fun t302 => (if y299.length + t302.length < 8796093022208 then (some ((y299 ++ t302), t288)) else (none)))) else (none))))) else ((spec_l13Shift.f k l0 0 t289 0).bind fun t308 => (if 0 ≤ t284 then (if t284 < (l0.length : Int) then ((some (([(⟨a1_2, wrap64 (((rd_T63 l0 t284).f1) + 1)⟩ : S63)] : List (S63)) : List (S63))).bind fun y312 => (if t308.length + y312.length < 8796093022208 then ((some (t308 ++ y312 : List (S63))).bind fun y315 => ((spec_l13Shift.f k l0 t289 t290 1).bind fun t318 => (if y315.length + t318.length < 8796093022208 then ((some (y315 ++ t318 : List (S63))).bind fun y321 => ((spec_l13Shift.f k l0 t290 (l0.length : Int) 0).bind fun t324 => (if y321.length + t324.length < 8796093022208 then (some ((y321 ++ t324), t288)) else (none)))) else (none)))) else (none))) else (none)) else (none))))) else (some (t285, t288))) = some (r1, r2) := H
  have A7 := Aside0.mk A70
  clear A70
  by_cases c8 : t288 = 0
  ·rw [if_pos c8] at H
   have c8b0 : (t288 == 0) = true := beq_iff_eq.mpr c8
   have c8b1 : (t288 != 0) = false := bne_eq_false_iff_eq.mpr c8
   clear c8
   by_cases c9 : a1_0 = 1
   ·rw [if_pos c9] at H
    have c9b0 : (a1_0 == 1) = true := beq_iff_eq.mpr c9
    have c9b1 : (a1_0 != 1) = false := bne_eq_false_iff_eq.mpr c9
    clear c9
    obtain ⟨c10b0, H⟩ := ifd_ H
    obtain ⟨c11b0, H⟩ := ifd_ H
    obtain ⟨y291, hy291⟩ : ∃ y_ : List (S63), y_ = (t285.set (t284 : Int).toNat (⟨a1_2, (rd_T63 t285 t284).f1⟩ : S63)) := ⟨_, rfl⟩
    replace H : (some (y291, t288)) = some (r1, r2) := by first | (rw [hy291]; with_reducible exact H) | (have H2_ := (Option.bind_some _ _).symm.trans H; rw [hy291]; with_reducible exact H2_) | (have H2_ := (Option.bind_some _ _).symm.trans H; with_reducible exact H2_) | with_reducible exact H | (rw [hy291]; exact H) | exact H
    have Ny291 := Aside0.mk hy291
    clear hy291
    simp only [Option.some.injEq, Prod.mk.injEq] at H
    obtain ⟨rfl, rfl⟩ := H
    go_enter Try.func45, Try.ntmps45
    go_wp2_with (first | ((with_reducible refine gate_dst (N := 3) rfl ?_); refine box_event ?hg (N := 3) ?hd (cs := #[.int .i64 a1_0, .slice A1_1 l1_1.length c1_1, .int .i64 a1_2, .int .i64 a1_3, .int .i64 a1_4]) (t := 65) ?hr ?_; (case hd => rfl); (case hg => rfl); (case hr => exact z23_); intro gb279 hg w13 hbox hb; have BK279 := Aside0.mk (hbox); have GW279 := Aside0.mk ((by rw [hg]; exact (below_size z0_) : w.heap.size ≤ gb279)); have GE279 := Aside0.mk ((by rw [hg]; exact (below_size z0_) : w.heap.size ≤ gb279)); replace HB := Aside0.mk (below_step z0_ hb); clear hb hbox hg) | ((with_reducible refine gate_callee (f := 13) rfl ?_); refine goesL_ (some 13) rfl rfl Try.func13 (by kernel_rfl) rfl #[.slice A0 l0.length c0] rfl z1_ ?_; (with_reducible refine (spec_TreeOk.calls k _ _ l0 true _ ?side1 ?side2 A3.out).mono ?_); (case side1 => exact z3_); (case side2 => exact HC0.out); rintro e w14 ⟨rfl, hb⟩; refine ⟨_, rfl, ?_⟩; replace BK279 := Aside0.mk (blk_below (g := gb279) (o := .cells #[.int .i64 a1_0, .slice A1_1 l1_1.length c1_1, .int .i64 a1_2, .int .i64 a1_3, .int .i64 a1_4] 65 (0, 0)) z18_ hb); replace HB := Aside0.mk (below_step z7_ hb); (try clear hb); have hcz15_0 : w14.cell? ⟨gb279, 0, none⟩ = some (.int .i64 a1_0) := (blk_cell BK279.out 0).trans rfl; have hcz15_1 : w14.cell? ⟨gb279, 1, none⟩ = some (.slice A1_1 l1_1.length c1_1) := (blk_cell BK279.out 1).trans rfl; have hcz15_2 : w14.cell? ⟨gb279, 2, none⟩ = some (.int .i64 a1_2) := (blk_cell BK279.out 2).trans rfl; have hcz15_3 : w14.cell? ⟨gb279, 3, none⟩ = some (.int .i64 a1_3) := (blk_cell BK279.out 3).trans rfl; have hcz15_4 : w14.cell? ⟨gb279, 4, none⟩ = some (.int .i64 a1_4) := (blk_cell BK279.out 4).trans rfl; have hfz15_0 := blk_frozen BK279.out 0; have hfz15_1 := blk_frozen BK279.out 1; have hfz15_2 := blk_frozen BK279.out 2; have hfz15_3 := blk_frozen BK279.out 3; have hfz15_4 := blk_frozen BK279.out 4) | ((with_reducible refine gate_callee (f := 86) rfl ?_); refine goesL_ (some 19) rfl rfl Try.func86 (by kernel_rfl) rfl #[.slice A0 l0.length c0, .slice A1_1 l1_1.length c1_1] rfl z1_ ?_; (with_reducible refine (spec_NodeAt.calls k _ _ l0 _ _ l1_1 t284 _ ?side1 ?side2 ?side3 ?side4 A5.out).mono ?_); (case side1 => exact z3_); (case side2 => exact HC0.out); (case side3 => exact z24_); (case side4 => exact HC1_1.out); rintro e w16 ⟨rfl, hb⟩; refine ⟨_, rfl, ?_⟩; replace BK279 := Aside0.mk (blk_below (g := gb279) (o := .cells #[.int .i64 a1_0, .slice A1_1 l1_1.length c1_1, .int .i64 a1_2, .int .i64 a1_3, .int .i64 a1_4] 65 (0, 0)) z18_ hb); replace HB := Aside0.mk (below_step z7_ hb); (try clear hb)) | ((with_reducible refine gate_callee (f := 44) rfl ?_); refine goesL_ (some 21) rfl rfl Try.func44 (by kernel_rfl) rfl #[.slice A0 l0.length c0] rfl z1_ ?_; (with_reducible refine (spec_l3Copy.calls _ _ l0 t285 _ ?side1 ?side2 A6.out).mono ?_); (case side1 => exact z3_); (case side2 => exact HC0.out); rintro e w17 ⟨v286, rfl, ho0, hb⟩; refine ⟨_, rfl, ?_⟩; have HO287 := Aside0.mk (Kd.R_lower ho0 (below_size z7_)); replace BK279 := Aside0.mk (blk_below (g := gb279) (o := .cells #[.int .i64 a1_0, .slice A1_1 l1_1.length c1_1, .int .i64 a1_2, .int .i64 a1_3, .int .i64 a1_4] 65 (0, 0)) z18_ hb); replace HB := Aside0.mk (below_step z7_ hb); (try clear hb ho0); have hcz18_0 : w17.cell? ⟨gb279, 0, none⟩ = some (.int .i64 a1_0) := (blk_cell BK279.out 0).trans rfl; have hcz18_1 : w17.cell? ⟨gb279, 1, none⟩ = some (.slice A1_1 l1_1.length c1_1) := (blk_cell BK279.out 1).trans rfl; have hcz18_2 : w17.cell? ⟨gb279, 2, none⟩ = some (.int .i64 a1_2) := (blk_cell BK279.out 2).trans rfl; have hcz18_3 : w17.cell? ⟨gb279, 3, none⟩ = some (.int .i64 a1_3) := (blk_cell BK279.out 3).trans rfl; have hcz18_4 : w17.cell? ⟨gb279, 4, none⟩ = some (.int .i64 a1_4) := (blk_cell BK279.out 4).trans rfl; have hfz18_0 := blk_frozen BK279.out 0; have hfz18_1 := blk_frozen BK279.out 1; have hfz18_2 := blk_frozen BK279.out 2; have hfz18_3 := blk_frozen BK279.out 3; have hfz18_4 := blk_frozen BK279.out 4) | ((with_reducible refine gate_callee (f := 87) rfl ?_); refine goesL_ (some 26) rfl rfl Try.func87 (by kernel_rfl) rfl #[.slice A0 l0.length c0, .agg #[.int .i64 a1_0, .slice A1_1 l1_1.length c1_1, .int .i64 a1_2, .int .i64 a1_3, .int .i64 a1_4], .int .i64 t284] rfl z1_ ?_; (with_reducible refine (spec_l13Code.calls k _ _ l0 a1_0 _ _ l1_1 a1_2 a1_3 a1_4 t284 t288 t289 t290 _ ?side1 ?side2 ?side3 ?side4 A7.out).mono ?_); (case side1 => exact z3_); (case side2 => exact HC0.out); (case side3 => exact z24_); (case side4 => exact HC1_1.out); rintro e w19 ⟨rfl, hb⟩; refine ⟨_, rfl, ?_⟩; replace HO287 := Aside0.mk (Kd.R_below z27_ hb); replace BK279 := Aside0.mk (blk_below (g := gb279) (o := .cells #[.int .i64 a1_0, .slice A1_1 l1_1.length c1_1, .int .i64 a1_2, .int .i64 a1_3, .int .i64 a1_4] 65 (0, 0)) z18_ hb); replace HB := Aside0.mk (below_step z7_ hb); (try clear hb); have hcz20_0 : w19.cell? ⟨gb279, 0, none⟩ = some (.int .i64 a1_0) := (blk_cell BK279.out 0).trans rfl; have hcz20_1 : w19.cell? ⟨gb279, 1, none⟩ = some (.slice A1_1 l1_1.length c1_1) := (blk_cell BK279.out 1).trans rfl; have hcz20_2 : w19.cell? ⟨gb279, 2, none⟩ = some (.int .i64 a1_2) := (blk_cell BK279.out 2).trans rfl; have hcz20_3 : w19.cell? ⟨gb279, 3, none⟩ = some (.int .i64 a1_3) := (blk_cell BK279.out 3).trans rfl; have hcz20_4 : w19.cell? ⟨gb279, 4, none⟩ = some (.int .i64 a1_4) := (blk_cell BK279.out 4).trans rfl; have hfz20_0 := blk_frozen BK279.out 0; have hfz20_1 := blk_frozen BK279.out 1; have hfz20_2 := blk_frozen BK279.out 2; have hfz20_3 := blk_frozen BK279.out 3; have hfz20_4 := blk_frozen BK279.out 4; have p12 : 0 ≤ (t284 : Int) := odt_; have q12 : (t284 : Int) < ((t285.length : Int) : Int) := odt_; obtain ⟨go12, co12, eo12, gb12, gl12, cl12, HG12⟩ := Kd.R_form HO287.out (by omega); (first | cases eo12 | (injection eo12 with ea_ en_ ec_; (first | subst ea_ | (injection ea_ with ea_; subst ea_)); subst ec_; clear en_)); have GB12 := Aside0.mk gb12; have GG12 := Aside0.mk HG12; clear gb12 gl12 HG12; obtain ⟨ce12, hcl12, hM12, hcc12, hfr12⟩ := Kd.R_elem HO287.out z63 (t284 : Int) p12 q12; obtain rfl := k63_openM hM12; have hx12_0 : w19.cell? ⟨go12, (t284 : Int).toNat * 2, none⟩ = some (.int .i64 ((rd_T63 t285 t284).f0)) := hcc12 0 _ rfl; have hx12_1 : w19.cell? ⟨go12, (t284 : Int).toNat * 2 + 1, none⟩ = some (.int .i64 ((rd_T63 t285 t284).f1)) := hcc12 1 _ rfl; have hf12_0 : w19.frozen? ⟨go12, (t284 : Int).toNat * 2, none⟩ = false := hfr12 0; have hf12_1 : w19.frozen? ⟨go12, (t284 : Int).toNat * 2 + 1, none⟩ = false := hfr12 1; clear hcl12 hcc12 hfr12 hM12; replace p12 := eq_true p12; replace q12 := eq_true q12; have HX21 := Aside0.mk (show Kd.R k63 63 w19 w.heap.size (fun _ => True) (.slice (some ⟨go12, 0, none⟩) t285.length co12) t285 from z27_); obtain ⟨ce21, hcl21, hM21, hcc21, hfr21⟩ := Kd.R_elem HX21.out z63 (t284 : Int) (odt_) (by have h_ : (t284 : Int) < ((t285.length : Int) : Int) := odt_; first | exact h_ | (have e_ := (Kd.R_reads' HO287.out).1; omega) | simpa using h_); obtain rfl := k63_openM hM21; have HP21 := Kd.R_seg HX21.out (t284 : Int) (odt_) (by have h_ : (t284 : Int) < ((t285.length : Int) : Int) := odt_; first | exact h_ | (have e_ := (Kd.R_reads' HO287.out).1; omega) | simpa using h_) (seg := [.int .i64 a1_2]) (j := 0) hcl21 hcc21 (show 1 ≤ 2 from by decide) (x' := (⟨a1_2, (rd_T63 t285 t284).f1⟩ : S63)) (k63_mkM _ _ _ (⟨a1_2, (rd_T63 t285 t284).f1⟩ : S63) ) (fun _ hk => hk); have hx21_0 := hcc21 0 _ rfl; (try simp only [show (k63).sz = 2 from rfl, Nat.mul_one, Nat.add_zero] at hx21_0); have hf21_0 := hfr21 0; (try simp only [show (k63).sz = 2 from rfl, Nat.mul_one, Nat.add_zero] at hf21_0); clear hcl21 hcc21 hfr21 hM21) | ((with_reducible refine gate_store (t := 3) (p := 43) rfl ?_); refine store_event (t := 3) (p := 43) (v := ?vo_w22) (w1 := (w19.setCell ⟨go12, (t284 : Int).toNat * 2, none⟩ (.int .i64 a1_2))) ?hg ?ho ?hn ?hr ?_; (case ho => rfl); (case hg => rfl); (case hn => rfl); (case hr => exact z23_); intro w22 hw; have hg : w19.grownBy w22 (some go12) := (by rw [hw]; exact HP21.2); have hp_ : Kd.R k63 63 w22 w.heap.size (fun _ => True) (.slice (some ⟨go12, 0, none⟩) t285.length co12) y291 := (by rw [hw, Ny291.out]; exact HP21.1); clear HP21; replace BK279 := Aside0.mk (blk_grown (g := gb279) (o := .cells #[.int .i64 a1_0, .slice A1_1 l1_1.length c1_1, .int .i64 a1_2, .int .i64 a1_3, .int .i64 a1_4] 65 (0, 0)) z18_ hg (Kd.R_ne HO287.out BK279.out (by decide))); replace HO287 := Aside0.mk (hp_); replace HB := Aside0.mk ((by rw [hw]; exact below_set (HB.out) GB12.out : Below w.heap.size w w22)); clear hg hw hp_))
    go_ret2
    exact ⟨_, z6_, z27_, z7_⟩
   ·rw [if_neg c9] at H
    have c9b0 : (a1_0 == 1) = false := beq_eq_false_iff_ne.mpr c9
    have c9b1 : (a1_0 != 1) = true := bne_iff_ne.mpr c9
    by_cases c23 : a1_0 = 2
    ·rw [if_pos c23] at H
     have c23b0 : (a1_0 == 2) = true := beq_iff_eq.mpr c23
     have c23b1 : (a1_0 != 2) = false := bne_eq_false_iff_eq.mpr c23
     clear c23
     obtain ⟨t292, A24, H⟩ := bnd_ H
     obtain ⟨t293, A25, H⟩ := bnd_ H
     obtain ⟨t296, A26, H⟩ := bnd_ H
     obtain ⟨c27, H⟩ := ifs_ H
     have LMc27 := Aside0.mk c27
     clear c27
     obtain ⟨y299, hy299⟩ : ∃ y_ : List (S63), y_ = (t293 ++ t296) := ⟨_, rfl⟩
     replace H : ((spec_l13Shift.f k l0 t292 (l0.length : Int) 0).bind fun t302 => (if y299.length + t302.length < 8796093022208 then (some ((y299 ++ t302), t288)) else (none))) = some (r1, r2) := by first | (rw [hy299]; with_reducible exact H) | (have H2_ := (Option.bind_some _ _).symm.trans H; rw [hy299]; with_reducible exact H2_) | (have H2_ := (Option.bind_some _ _).symm.trans H; with_reducible exact H2_) | with_reducible exact H | (rw [hy299]; exact H) | exact H
     have Ny299 := Aside0.mk hy299
     clear hy299
     obtain ⟨t302, A28, H⟩ := bnd_ H
     obtain ⟨c29, H⟩ := ifs_ H
     have LMc29 := Aside0.mk c29
     clear c29
     obtain ⟨y305, hy305⟩ : ∃ y_ : List (S63), y_ = (y299 ++ t302) := ⟨_, rfl⟩
     replace H : (some (y305, t288)) = some (r1, r2) := by first | (rw [hy305]; with_reducible exact H) | (have H2_ := (Option.bind_some _ _).symm.trans H; rw [hy305]; with_reducible exact H2_) | (have H2_ := (Option.bind_some _ _).symm.trans H; with_reducible exact H2_) | with_reducible exact H | (rw [hy305]; exact H) | exact H
     have Ny305 := Aside0.mk hy305
     clear hy305
     simp only [Option.some.injEq, Prod.mk.injEq] at H
     obtain ⟨rfl, rfl⟩ := H
     go_enter Try.func45, Try.ntmps45
     go_wp2_with (first | ((with_reducible refine gate_dst (N := 3) rfl ?_); refine box_event ?hg (N := 3) ?hd (cs := #[.int .i64 a1_0, .slice A1_1 l1_1.length c1_1, .int .i64 a1_2, .int .i64 a1_3, .int .i64 a1_4]) (t := 65) ?hr ?_; (case hd => rfl); (case hg => rfl); (case hr => exact z23_); intro gb279 hg w30 hbox hb; have BK279 := Aside0.mk (hbox); have GW279 := Aside0.mk ((by rw [hg]; exact (below_size z0_) : w.heap.size ≤ gb279)); have GE279 := Aside0.mk ((by rw [hg]; exact (below_size z0_) : w.heap.size ≤ gb279)); replace HB := Aside0.mk (below_step z0_ hb); clear hb hbox hg) | ((with_reducible refine gate_callee (f := 13) rfl ?_); refine goesL_ (some 13) rfl rfl Try.func13 (by kernel_rfl) rfl #[.slice A0 l0.length c0] rfl z1_ ?_; (with_reducible refine (spec_TreeOk.calls k _ _ l0 true _ ?side1 ?side2 A3.out).mono ?_); (case side1 => exact z3_); (case side2 => exact HC0.out); rintro e w31 ⟨rfl, hb⟩; refine ⟨_, rfl, ?_⟩; replace BK279 := Aside0.mk (blk_below (g := gb279) (o := .cells #[.int .i64 a1_0, .slice A1_1 l1_1.length c1_1, .int .i64 a1_2, .int .i64 a1_3, .int .i64 a1_4] 65 (0, 0)) z18_ hb); replace HB := Aside0.mk (below_step z7_ hb); (try clear hb); have hcz32_0 : w31.cell? ⟨gb279, 0, none⟩ = some (.int .i64 a1_0) := (blk_cell BK279.out 0).trans rfl; have hcz32_1 : w31.cell? ⟨gb279, 1, none⟩ = some (.slice A1_1 l1_1.length c1_1) := (blk_cell BK279.out 1).trans rfl; have hcz32_2 : w31.cell? ⟨gb279, 2, none⟩ = some (.int .i64 a1_2) := (blk_cell BK279.out 2).trans rfl; have hcz32_3 : w31.cell? ⟨gb279, 3, none⟩ = some (.int .i64 a1_3) := (blk_cell BK279.out 3).trans rfl; have hcz32_4 : w31.cell? ⟨gb279, 4, none⟩ = some (.int .i64 a1_4) := (blk_cell BK279.out 4).trans rfl; have hfz32_0 := blk_frozen BK279.out 0; have hfz32_1 := blk_frozen BK279.out 1; have hfz32_2 := blk_frozen BK279.out 2; have hfz32_3 := blk_frozen BK279.out 3; have hfz32_4 := blk_frozen BK279.out 4) | ((with_reducible refine gate_callee (f := 86) rfl ?_); refine goesL_ (some 19) rfl rfl Try.func86 (by kernel_rfl) rfl #[.slice A0 l0.length c0, .slice A1_1 l1_1.length c1_1] rfl z1_ ?_; (with_reducible refine (spec_NodeAt.calls k _ _ l0 _ _ l1_1 t284 _ ?side1 ?side2 ?side3 ?side4 A5.out).mono ?_); (case side1 => exact z3_); (case side2 => exact HC0.out); (case side3 => exact z24_); (case side4 => exact HC1_1.out); rintro e w33 ⟨rfl, hb⟩; refine ⟨_, rfl, ?_⟩; replace BK279 := Aside0.mk (blk_below (g := gb279) (o := .cells #[.int .i64 a1_0, .slice A1_1 l1_1.length c1_1, .int .i64 a1_2, .int .i64 a1_3, .int .i64 a1_4] 65 (0, 0)) z18_ hb); replace HB := Aside0.mk (below_step z7_ hb); (try clear hb)) | ((with_reducible refine gate_callee (f := 44) rfl ?_); refine goesL_ (some 21) rfl rfl Try.func44 (by kernel_rfl) rfl #[.slice A0 l0.length c0] rfl z1_ ?_; (with_reducible refine (spec_l3Copy.calls _ _ l0 t285 _ ?side1 ?side2 A6.out).mono ?_); (case side1 => exact z3_); (case side2 => exact HC0.out); rintro e w34 ⟨v286, rfl, ho0, hb⟩; refine ⟨_, rfl, ?_⟩; have HO287 := Aside0.mk (Kd.R_lower ho0 (below_size z7_)); replace BK279 := Aside0.mk (blk_below (g := gb279) (o := .cells #[.int .i64 a1_0, .slice A1_1 l1_1.length c1_1, .int .i64 a1_2, .int .i64 a1_3, .int .i64 a1_4] 65 (0, 0)) z18_ hb); replace HB := Aside0.mk (below_step z7_ hb); (try clear hb ho0); have hcz35_0 : w34.cell? ⟨gb279, 0, none⟩ = some (.int .i64 a1_0) := (blk_cell BK279.out 0).trans rfl; have hcz35_1 : w34.cell? ⟨gb279, 1, none⟩ = some (.slice A1_1 l1_1.length c1_1) := (blk_cell BK279.out 1).trans rfl; have hcz35_2 : w34.cell? ⟨gb279, 2, none⟩ = some (.int .i64 a1_2) := (blk_cell BK279.out 2).trans rfl; have hcz35_3 : w34.cell? ⟨gb279, 3, none⟩ = some (.int .i64 a1_3) := (blk_cell BK279.out 3).trans rfl; have hcz35_4 : w34.cell? ⟨gb279, 4, none⟩ = some (.int .i64 a1_4) := (blk_cell BK279.out 4).trans rfl; have hfz35_0 := blk_frozen BK279.out 0; have hfz35_1 := blk_frozen BK279.out 1; have hfz35_2 := blk_frozen BK279.out 2; have hfz35_3 := blk_frozen BK279.out 3; have hfz35_4 := blk_frozen BK279.out 4) | ((with_reducible refine gate_callee (f := 87) rfl ?_); refine goesL_ (some 26) rfl rfl Try.func87 (by kernel_rfl) rfl #[.slice A0 l0.length c0, .agg #[.int .i64 a1_0, .slice A1_1 l1_1.length c1_1, .int .i64 a1_2, .int .i64 a1_3, .int .i64 a1_4], .int .i64 t284] rfl z1_ ?_; (with_reducible refine (spec_l13Code.calls k _ _ l0 a1_0 _ _ l1_1 a1_2 a1_3 a1_4 t284 t288 t289 t290 _ ?side1 ?side2 ?side3 ?side4 A7.out).mono ?_); (case side1 => exact z3_); (case side2 => exact HC0.out); (case side3 => exact z24_); (case side4 => exact HC1_1.out); rintro e w36 ⟨rfl, hb⟩; refine ⟨_, rfl, ?_⟩; replace HO287 := Aside0.mk (Kd.R_below z27_ hb); replace BK279 := Aside0.mk (blk_below (g := gb279) (o := .cells #[.int .i64 a1_0, .slice A1_1 l1_1.length c1_1, .int .i64 a1_2, .int .i64 a1_3, .int .i64 a1_4] 65 (0, 0)) z18_ hb); replace HB := Aside0.mk (below_step z7_ hb); (try clear hb); have hcz37_0 : w36.cell? ⟨gb279, 0, none⟩ = some (.int .i64 a1_0) := (blk_cell BK279.out 0).trans rfl; have hcz37_1 : w36.cell? ⟨gb279, 1, none⟩ = some (.slice A1_1 l1_1.length c1_1) := (blk_cell BK279.out 1).trans rfl; have hcz37_2 : w36.cell? ⟨gb279, 2, none⟩ = some (.int .i64 a1_2) := (blk_cell BK279.out 2).trans rfl; have hcz37_3 : w36.cell? ⟨gb279, 3, none⟩ = some (.int .i64 a1_3) := (blk_cell BK279.out 3).trans rfl; have hcz37_4 : w36.cell? ⟨gb279, 4, none⟩ = some (.int .i64 a1_4) := (blk_cell BK279.out 4).trans rfl; have hfz37_0 := blk_frozen BK279.out 0; have hfz37_1 := blk_frozen BK279.out 1; have hfz37_2 := blk_frozen BK279.out 2; have hfz37_3 := blk_frozen BK279.out 3; have hfz37_4 := blk_frozen BK279.out 4) | ((with_reducible refine gate_callee (f := 88) rfl ?_); refine goesL_ (some 50) rfl rfl Try.func88 (by kernel_rfl) rfl #[.slice A0 l0.length c0, .int .i64 t284] rfl z1_ ?_; (with_reducible refine (spec_EndOf.calls k _ _ l0 t284 t292 _ ?side1 ?side2 A24.out).mono ?_); (case side1 => exact z3_); (case side2 => exact HC0.out); rintro e w38 ⟨rfl, hb⟩; refine ⟨_, rfl, ?_⟩; replace HO287 := Aside0.mk (Kd.R_below z27_ hb); replace BK279 := Aside0.mk (blk_below (g := gb279) (o := .cells #[.int .i64 a1_0, .slice A1_1 l1_1.length c1_1, .int .i64 a1_2, .int .i64 a1_3, .int .i64 a1_4] 65 (0, 0)) z18_ hb); replace HB := Aside0.mk (below_step z7_ hb); (try clear hb)) | ((with_reducible refine gate_callee (f := 89) rfl ?_); refine goesL_ (some 53) rfl rfl Try.func89 (by kernel_rfl) rfl #[.slice A0 l0.length c0, .int .i64 0, .int .i64 t284, .int .i64 0] rfl z1_ ?_; (with_reducible refine (spec_l13Shift.calls k _ _ l0 0 t284 0 t293 _ ?side1 ?side2 A25.out).mono ?_); (case side1 => exact z3_); (case side2 => exact HC0.out); rintro e w39 ⟨v294, rfl, ho0, hb⟩; refine ⟨_, rfl, ?_⟩; have HO295 := Aside0.mk (Kd.R_lower (Kd.R_new' ho0 (Kd.R_lt z27_)) (below_size z7_)); replace HO287 := Aside0.mk (Kd.R_elder' z27_ (Kd.R_base ho0) hb); replace BK279 := Aside0.mk (blk_below (g := gb279) (o := .cells #[.int .i64 a1_0, .slice A1_1 l1_1.length c1_1, .int .i64 a1_2, .int .i64 a1_3, .int .i64 a1_4] 65 (0, 0)) z18_ hb); replace HB := Aside0.mk (below_step z7_ hb); (try clear hb ho0)) | ((with_reducible refine gate_callee (f := 89) rfl ?_); refine goesL_ (some 58) rfl rfl Try.func89 (by kernel_rfl) rfl #[.slice A0 l0.length c0, .int .i64 (wrap64 (t284 + 1)), .int .i64 t292, .int .i64 (-1)] rfl z1_ ?_; (with_reducible refine (spec_l13Shift.calls k _ _ l0 (wrap64 (t284 + 1)) t292 (-1) t296 _ ?side1 ?side2 A26.out).mono ?_); (case side1 => exact z3_); (case side2 => exact HC0.out); rintro e w40 ⟨v297, rfl, ho0, hb⟩; refine ⟨_, rfl, ?_⟩; have HO298 := Aside0.mk (Kd.R_lower (Kd.R_new' (Kd.R_new' ho0 (Kd.R_lt z27_)) (Kd.R_lt z162_)) (below_size z7_)); replace HO287 := Aside0.mk (Kd.R_elder' z27_ (Kd.R_base ho0) hb); replace HO295 := Aside0.mk (Kd.R_elder' z162_ (Kd.R_base ho0) hb); replace BK279 := Aside0.mk (blk_below (g := gb279) (o := .cells #[.int .i64 a1_0, .slice A1_1 l1_1.length c1_1, .int .i64 a1_2, .int .i64 a1_3, .int .i64 a1_4] 65 (0, 0)) z18_ hb); replace HB := Aside0.mk (below_step z7_ hb); (try clear hb ho0); obtain ⟨Ao42, co42, eo42⟩ := Kd.R_slice HO298.out; subst eo42) | ((with_reducible refine gate_builtin (b := .append) (xs := #[.tmp 53, .tmp 58]) rfl ?_); at_builtin; refine Kd.R_append_rows k63 (w0 := w) w.heap.size rfl (.tmp 53) (.tmp 58) 24 63 (.agg #[(.int .i64 0), (.int .i64 0)]) 16 rfl Try.underlying24 info63 rfl (by decide) (by omega) v294 t293 t296 _ _ _ (fun k_ => some k_ ≠ (v286 : Value).ownBlock ∧ some k_ ≠ (.slice Ao42 t296.length co42 : Value).ownBlock) (fun _ => False) rfl rfl ?aO ?aR (fun _ _ h => h) (fun _ h => h.elim) ?aF ?aB ?aS ?aL ?_; (case aR => repeat (first | exact (Kd.R_reads' HO298.out).2.2 | (with_reducible refine Kd.C_alloc ?_ _) | (with_reducible refine Kd.C_drewN ?_ _) | (with_reducible refine Kd.C_drew ?_))); (case aB => exact z67_); (case aF => exact (fun k_ hk => ⟨Kd.fresh' (Kd.R_lt z27_) k_ hk, Kd.fresh' (Kd.R_lt z111_) k_ hk⟩)); (case aO => exact (by (with_reducible repeat (first | apply Kd.R_alloc | apply Kd.R_drewN | apply Kd.R_drew)); exact Kd.R_mono HO295.out (fun _ hk => ⟨hk.1.2, hk.2⟩))); (case aS => exact z65_); (case aL => have := LMc27.out; omega); intro v300 w41 ho hb hg hat; rw [← Ny299.out] at ho; replace BK279 := Aside0.mk (blk_grown (g := gb279) (o := .cells #[.int .i64 a1_0, .slice A1_1 l1_1.length c1_1, .int .i64 a1_2, .int .i64 a1_3, .int .i64 a1_4] 65 (0, 0)) z18_ hg (Kd.R_ne HO295.out BK279.out (by decide))); replace HO287 := Aside0.mk (Kd.R_after (ok := (fun k_ => some k_ ≠ (.slice Ao42 t296.length co42 : Value).ownBlock)) z138_ hg hat); replace HO298 := Aside0.mk (Kd.R_after (ok := (fun k_ => some k_ ≠ (v286 : Value).ownBlock)) (by (with_reducible repeat (first | apply Kd.R_alloc | apply Kd.R_drewN | apply Kd.R_drew)); exact Kd.R_mono HO298.out (fun _ hk => ⟨hk.1.2, hk.2⟩)) hg hat); replace HB := Aside0.mk (hb); have HO301 := Aside0.mk (ho); clear HO295; clear ho hb hg hat) | ((with_reducible refine gate_callee (f := 89) rfl ?_); refine goesL_ (some 65) rfl rfl Try.func89 (by kernel_rfl) rfl #[.slice A0 l0.length c0, .int .i64 t292, .int .i64 (l0.length : Int), .int .i64 0] rfl z1_ ?_; (with_reducible refine (spec_l13Shift.calls k _ _ l0 t292 (l0.length : Int) 0 t302 _ ?side1 ?side2 A28.out).mono ?_); (case side1 => exact z3_); (case side2 => exact HC0.out); rintro e w43 ⟨v303, rfl, ho0, hb⟩; refine ⟨_, rfl, ?_⟩; have HO304 := Aside0.mk (Kd.R_lower (Kd.R_new' (Kd.R_new' (Kd.R_new' ho0 (Kd.R_lt z27_)) (Kd.R_lt z111_)) (Kd.R_lt z163_)) (below_size z7_)); replace HO287 := Aside0.mk (Kd.R_elder' z27_ (Kd.R_base ho0) hb); replace HO298 := Aside0.mk (Kd.R_elder' z111_ (Kd.R_base ho0) hb); replace HO301 := Aside0.mk (Kd.R_elder' z163_ (Kd.R_base ho0) hb); replace BK279 := Aside0.mk (blk_below (g := gb279) (o := .cells #[.int .i64 a1_0, .slice A1_1 l1_1.length c1_1, .int .i64 a1_2, .int .i64 a1_3, .int .i64 a1_4] 65 (0, 0)) z18_ hb); replace HB := Aside0.mk (below_step z7_ hb); (try clear hb ho0); obtain ⟨Ao45, co45, eo45⟩ := Kd.R_slice HO304.out; subst eo45) | ((with_reducible refine gate_builtin (b := .append) (xs := #[.tmp 60, .tmp 65]) rfl ?_); at_builtin; refine Kd.R_append_rows k63 (w0 := w) w.heap.size rfl (.tmp 60) (.tmp 65) 24 63 (.agg #[(.int .i64 0), (.int .i64 0)]) 16 rfl Try.underlying24 info63 rfl (by decide) (by omega) v300 y299 t302 _ _ _ (fun k_ => some k_ ≠ (v286 : Value).ownBlock ∧ some k_ ≠ (.slice Ao42 t296.length co42 : Value).ownBlock ∧ some k_ ≠ (.slice Ao45 t302.length co45 : Value).ownBlock) (fun _ => False) rfl rfl ?aO ?aR (fun _ _ h => h) (fun _ h => h.elim) ?aF ?aB ?aS ?aL ?_; (case aR => repeat (first | exact (Kd.R_reads' HO304.out).2.2 | (with_reducible refine Kd.C_alloc ?_ _) | (with_reducible refine Kd.C_drewN ?_ _) | (with_reducible refine Kd.C_drew ?_))); (case aB => exact z67_); (case aF => exact (fun k_ hk => ⟨Kd.fresh' (Kd.R_lt z27_) k_ hk, Kd.fresh' (Kd.R_lt z111_) k_ hk, Kd.fresh' (Kd.R_lt (by (with_reducible repeat (first | apply Kd.R_alloc | apply Kd.R_drewN | apply Kd.R_drew)); exact HO304.out)) k_ hk⟩)); (case aO => exact (by (with_reducible repeat (first | apply Kd.R_alloc | apply Kd.R_drewN | apply Kd.R_drew)); exact Kd.R_mono HO301.out (fun _ hk => ⟨hk.1.1, ⟨hk.1.2, hk.2⟩⟩))); (case aS => exact z65_); (case aL => have := LMc29.out; omega); intro v306 w44 ho hb hg hat; rw [← Ny305.out] at ho; replace BK279 := Aside0.mk (blk_grown (g := gb279) (o := .cells #[.int .i64 a1_0, .slice A1_1 l1_1.length c1_1, .int .i64 a1_2, .int .i64 a1_3, .int .i64 a1_4] 65 (0, 0)) z18_ hg (Kd.R_ne HO301.out BK279.out (by decide))); replace HO287 := Aside0.mk (Kd.R_after (ok := (fun k_ => some k_ ≠ (.slice Ao42 t296.length co42 : Value).ownBlock ∧ some k_ ≠ (.slice Ao45 t302.length co45 : Value).ownBlock)) z135_ hg hat); replace HO298 := Aside0.mk (Kd.R_after (ok := (fun k_ => some k_ ≠ (v286 : Value).ownBlock ∧ some k_ ≠ (.slice Ao45 t302.length co45 : Value).ownBlock)) (by (with_reducible repeat (first | apply Kd.R_alloc | apply Kd.R_drewN | apply Kd.R_drew)); exact Kd.R_mono HO298.out (fun _ hk => ⟨⟨hk.1.1, hk.2⟩, hk.1.2⟩)) hg hat); replace HO304 := Aside0.mk (Kd.R_after (ok := (fun k_ => some k_ ≠ (v286 : Value).ownBlock ∧ some k_ ≠ (.slice Ao42 t296.length co42 : Value).ownBlock)) (by (with_reducible repeat (first | apply Kd.R_alloc | apply Kd.R_drewN | apply Kd.R_drew)); exact Kd.R_mono HO304.out (fun _ hk => ⟨⟨hk.1.1.2, hk.1.2⟩, hk.2⟩)) hg hat); replace HB := Aside0.mk (hb); have HO307 := Aside0.mk (ho); clear HO301; clear ho hb hg hat))
     go_ret2
     exact ⟨_, z6_, by (with_reducible repeat (first | apply Kd.R_alloc | apply Kd.R_drewN | apply Kd.R_drew)); exact Kd.R_mono HO307.out (fun _ hk => trivial), z7_⟩
    ·rw [if_neg c23] at H
     have c23b0 : (a1_0 == 2) = false := beq_eq_false_iff_ne.mpr c23
     have c23b1 : (a1_0 != 2) = true := bne_iff_ne.mpr c23
     obtain ⟨t308, A46, H⟩ := bnd_ H
     obtain ⟨c47b0, H⟩ := ifd_ H
     obtain ⟨c48b0, H⟩ := ifd_ H
     obtain ⟨y312, hy312⟩ : ∃ y_ : List (S63), y_ = (([(⟨a1_2, wrap64 (((rd_T63 l0 t284).f1) + 1)⟩ : S63)] : List (S63))) := ⟨_, rfl⟩
     replace H : (if t308.length + y312.length < 8796093022208 then ((some (t308 ++ y312 : List (S63))).bind fun y315 => ((spec_l13Shift.f k l0 t289 t290 1).bind fun t318 => (if y315.length + t318.length < 8796093022208 then ((some (y315 ++ t318 : List (S63))).bind fun y321 => ((spec_l13Shift.f k l0 t290 (l0.length : Int) 0).bind fun t324 => (if y321.length + t324.length < 8796093022208 then (some ((y321 ++ t324), t288)) else (none)))) else (none)))) else (none)) = some (r1, r2) := by first | (rw [hy312]; with_reducible exact H) | (have H2_ := (Option.bind_some _ _).symm.trans H; rw [hy312]; with_reducible exact H2_) | (have H2_ := (Option.bind_some _ _).symm.trans H; with_reducible exact H2_) | with_reducible exact H | (rw [hy312]; exact H) | exact H
     have Ny312 := Aside0.mk hy312
     clear hy312
     obtain ⟨c49, H⟩ := ifs_ H
     have LMc49 := Aside0.mk c49
     clear c49
     obtain ⟨y315, hy315⟩ : ∃ y_ : List (S63), y_ = (t308 ++ y312) := ⟨_, rfl⟩
     replace H : ((spec_l13Shift.f k l0 t289 t290 1).bind fun t318 => (if y315.length + t318.length < 8796093022208 then ((some (y315 ++ t318 : List (S63))).bind fun y321 => ((spec_l13Shift.f k l0 t290 (l0.length : Int) 0).bind fun t324 => (if y321.length + t324.length < 8796093022208 then (some ((y321 ++ t324), t288)) else (none)))) else (none))) = some (r1, r2) := by first | (rw [hy315]; with_reducible exact H) | (have H2_ := (Option.bind_some _ _).symm.trans H; rw [hy315]; with_reducible exact H2_) | (have H2_ := (Option.bind_some _ _).symm.trans H; with_reducible exact H2_) | with_reducible exact H | (rw [hy315]; exact H) | exact H
     have Ny315 := Aside0.mk hy315
     clear hy315
     obtain ⟨t318, A50, H⟩ := bnd_ H
     obtain ⟨c51, H⟩ := ifs_ H
     have LMc51 := Aside0.mk c51
     clear c51
     obtain ⟨y321, hy321⟩ : ∃ y_ : List (S63), y_ = (y315 ++ t318) := ⟨_, rfl⟩
     replace H : ((spec_l13Shift.f k l0 t290 (l0.length : Int) 0).bind fun t324 => (if y321.length + t324.length < 8796093022208 then (some ((y321 ++ t324), t288)) else (none))) = some (r1, r2) := by first | (rw [hy321]; with_reducible exact H) | (have H2_ := (Option.bind_some _ _).symm.trans H; rw [hy321]; with_reducible exact H2_) | (have H2_ := (Option.bind_some _ _).symm.trans H; with_reducible exact H2_) | with_reducible exact H | (rw [hy321]; exact H) | exact H
     have Ny321 := Aside0.mk hy321
     clear hy321
     obtain ⟨t324, A52, H⟩ := bnd_ H
     obtain ⟨c53, H⟩ := ifs_ H
     have LMc53 := Aside0.mk c53
     clear c53
     obtain ⟨y327, hy327⟩ : ∃ y_ : List (S63), y_ = (y321 ++ t324) := ⟨_, rfl⟩
     replace H : (some (y327, t288)) = some (r1, r2) := by first | (rw [hy327]; with_reducible exact H) | (have H2_ := (Option.bind_some _ _).symm.trans H; rw [hy327]; with_reducible exact H2_) | (have H2_ := (Option.bind_some _ _).symm.trans H; with_reducible exact H2_) | with_reducible exact H | (rw [hy327]; exact H) | exact H
     have Ny327 := Aside0.mk hy327
     clear hy327
     simp only [Option.some.injEq, Prod.mk.injEq] at H
     obtain ⟨rfl, rfl⟩ := H
     go_enter Try.func45, Try.ntmps45
     try go_wp2_with (first | ((with_reducible refine gate_dst (N := 3) rfl ?_); refine box_event ?hg (N := 3) ?hd (cs := #[.int .i64 a1_0, .slice A1_1 l1_1.length c1_1, .int .i64 a1_2, .int .i64 a1_3, .int .i64 a1_4]) (t := 65) ?hr ?_; (case hd => rfl); (case hg => rfl); (case hr => exact z23_); intro gb279 hg w54 hbox hb; have BK279 := Aside0.mk (hbox); have GW279 := Aside0.mk ((by rw [hg]; exact (below_size z0_) : w.heap.size ≤ gb279)); have GE279 := Aside0.mk ((by rw [hg]; exact (below_size z0_) : w.heap.size ≤ gb279)); replace HB := Aside0.mk (below_step z0_ hb); clear hb hbox hg) | ((with_reducible refine gate_callee (f := 13) rfl ?_); refine goesL_ (some 13) rfl rfl Try.func13 (by kernel_rfl) rfl #[.slice A0 l0.length c0] rfl z1_ ?_; (with_reducible refine (spec_TreeOk.calls k _ _ l0 true _ ?side1 ?side2 A3.out).mono ?_); (case side1 => exact z3_); (case side2 => exact HC0.out); rintro e w55 ⟨rfl, hb⟩; refine ⟨_, rfl, ?_⟩; replace BK279 := Aside0.mk (blk_below (g := gb279) (o := .cells #[.int .i64 a1_0, .slice A1_1 l1_1.length c1_1, .int .i64 a1_2, .int .i64 a1_3, .int .i64 a1_4] 65 (0, 0)) z18_ hb); replace HB := Aside0.mk (below_step z7_ hb); (try clear hb); have hcz56_0 : w55.cell? ⟨gb279, 0, none⟩ = some (.int .i64 a1_0) := (blk_cell BK279.out 0).trans rfl; have hcz56_1 : w55.cell? ⟨gb279, 1, none⟩ = some (.slice A1_1 l1_1.length c1_1) := (blk_cell BK279.out 1).trans rfl; have hcz56_2 : w55.cell? ⟨gb279, 2, none⟩ = some (.int .i64 a1_2) := (blk_cell BK279.out 2).trans rfl; have hcz56_3 : w55.cell? ⟨gb279, 3, none⟩ = some (.int .i64 a1_3) := (blk_cell BK279.out 3).trans rfl; have hcz56_4 : w55.cell? ⟨gb279, 4, none⟩ = some (.int .i64 a1_4) := (blk_cell BK279.out 4).trans rfl; have hfz56_0 := blk_frozen BK279.out 0; have hfz56_1 := blk_frozen BK279.out 1; have hfz56_2 := blk_frozen BK279.out 2; have hfz56_3 := blk_frozen BK279.out 3; have hfz56_4 := blk_frozen BK279.out 4) | ((with_reducible refine gate_callee (f := 86) rfl ?_); refine goesL_ (some 19) rfl rfl Try.func86 (by kernel_rfl) rfl #[.slice A0 l0.length c0, .slice A1_1 l1_1.length c1_1] rfl z1_ ?_; (with_reducible refine (spec_NodeAt.calls k _ _ l0 _ _ l1_1 t284 _ ?side1 ?side2 ?side3 ?side4 A5.out).mono ?_); (case side1 => exact z3_); (case side2 => exact HC0.out); (case side3 => exact z24_); (case side4 => exact HC1_1.out); rintro e w57 ⟨rfl, hb⟩; refine ⟨_, rfl, ?_⟩; replace BK279 := Aside0.mk (blk_below (g := gb279) (o := .cells #[.int .i64 a1_0, .slice A1_1 l1_1.length c1_1, .int .i64 a1_2, .int .i64 a1_3, .int .i64 a1_4] 65 (0, 0)) z18_ hb); replace HB := Aside0.mk (below_step z7_ hb); (try clear hb)) | ((with_reducible refine gate_callee (f := 44) rfl ?_); refine goesL_ (some 21) rfl rfl Try.func44 (by kernel_rfl) rfl #[.slice A0 l0.length c0] rfl z1_ ?_; (with_reducible refine (spec_l3Copy.calls _ _ l0 t285 _ ?side1 ?side2 A6.out).mono ?_); (case side1 => exact z3_); (case side2 => exact HC0.out); rintro e w58 ⟨v286, rfl, ho0, hb⟩; refine ⟨_, rfl, ?_⟩; have HO287 := Aside0.mk (Kd.R_lower ho0 (below_size z7_)); replace BK279 := Aside0.mk (blk_below (g := gb279) (o := .cells #[.int .i64 a1_0, .slice A1_1 l1_1.length c1_1, .int .i64 a1_2, .int .i64 a1_3, .int .i64 a1_4] 65 (0, 0)) z18_ hb); replace HB := Aside0.mk (below_step z7_ hb); (try clear hb ho0); have hcz59_0 : w58.cell? ⟨gb279, 0, none⟩ = some (.int .i64 a1_0) := (blk_cell BK279.out 0).trans rfl; have hcz59_1 : w58.cell? ⟨gb279, 1, none⟩ = some (.slice A1_1 l1_1.length c1_1) := (blk_cell BK279.out 1).trans rfl; have hcz59_2 : w58.cell? ⟨gb279, 2, none⟩ = some (.int .i64 a1_2) := (blk_cell BK279.out 2).trans rfl; have hcz59_3 : w58.cell? ⟨gb279, 3, none⟩ = some (.int .i64 a1_3) := (blk_cell BK279.out 3).trans rfl; have hcz59_4 : w58.cell? ⟨gb279, 4, none⟩ = some (.int .i64 a1_4) := (blk_cell BK279.out 4).trans rfl; have hfz59_0 := blk_frozen BK279.out 0; have hfz59_1 := blk_frozen BK279.out 1; have hfz59_2 := blk_frozen BK279.out 2; have hfz59_3 := blk_frozen BK279.out 3; have hfz59_4 := blk_frozen BK279.out 4) | ((with_reducible refine gate_callee (f := 87) rfl ?_); refine goesL_ (some 26) rfl rfl Try.func87 (by kernel_rfl) rfl #[.slice A0 l0.length c0, .agg #[.int .i64 a1_0, .slice A1_1 l1_1.length c1_1, .int .i64 a1_2, .int .i64 a1_3, .int .i64 a1_4], .int .i64 t284] rfl z1_ ?_; (with_reducible refine (spec_l13Code.calls k _ _ l0 a1_0 _ _ l1_1 a1_2 a1_3 a1_4 t284 t288 t289 t290 _ ?side1 ?side2 ?side3 ?side4 A7.out).mono ?_); (case side1 => exact z3_); (case side2 => exact HC0.out); (case side3 => exact z24_); (case side4 => exact HC1_1.out); rintro e w60 ⟨rfl, hb⟩; refine ⟨_, rfl, ?_⟩; replace HO287 := Aside0.mk (Kd.R_below z27_ hb); replace BK279 := Aside0.mk (blk_below (g := gb279) (o := .cells #[.int .i64 a1_0, .slice A1_1 l1_1.length c1_1, .int .i64 a1_2, .int .i64 a1_3, .int .i64 a1_4] 65 (0, 0)) z18_ hb); replace HB := Aside0.mk (below_step z7_ hb); (try clear hb); have hcz61_0 : w60.cell? ⟨gb279, 0, none⟩ = some (.int .i64 a1_0) := (blk_cell BK279.out 0).trans rfl; have hcz61_1 : w60.cell? ⟨gb279, 1, none⟩ = some (.slice A1_1 l1_1.length c1_1) := (blk_cell BK279.out 1).trans rfl; have hcz61_2 : w60.cell? ⟨gb279, 2, none⟩ = some (.int .i64 a1_2) := (blk_cell BK279.out 2).trans rfl; have hcz61_3 : w60.cell? ⟨gb279, 3, none⟩ = some (.int .i64 a1_3) := (blk_cell BK279.out 3).trans rfl; have hcz61_4 : w60.cell? ⟨gb279, 4, none⟩ = some (.int .i64 a1_4) := (blk_cell BK279.out 4).trans rfl; have hfz61_0 := blk_frozen BK279.out 0; have hfz61_1 := blk_frozen BK279.out 1; have hfz61_2 := blk_frozen BK279.out 2; have hfz61_3 := blk_frozen BK279.out 3; have hfz61_4 := blk_frozen BK279.out 4))
     have n0_ := Aside0.mk (Kd.R_drew HO287.out)
     have n1_ := Aside0.mk (blk_drew BK279.out)
     have n2_ := Aside0.mk (below_drew1 HB.out)
     clear HO287
     clear BK279
     clear HB
     have HO287 := n0_
     have BK279 := n1_
     have HB := n2_
     clear n0_ n1_ n2_
     obtain ⟨p311, q311, ad311, e311, hw311_0, hw311_1, hx311_0, hx311_1⟩ := atw63_ HR0 HB t284
     cases e311
     refine start_ (n := 15) (S := fun w' => w'.cell? ⟨gb279, 0, none⟩ = some (.int .i64 a1_0) ∧ w'.cell? ⟨gb279, 1, none⟩ = some (.slice A1_1 l1_1.length c1_1) ∧ w'.cell? ⟨gb279, 2, none⟩ = some (.int .i64 a1_2) ∧ w'.cell? ⟨gb279, 3, none⟩ = some (.int .i64 a1_3) ∧ w'.cell? ⟨gb279, 4, none⟩ = some (.int .i64 a1_4) ∧ w'.cell? (ad311.add ((t284).toNat * 2)) = some (.int .i64 ((rd_T63 l0 t284).f0)) ∧ w'.cell? ⟨(ad311.add ((t284).toNat * 2)).block, (ad311.add ((t284).toNat * 2)).off + 1, none⟩ = some (.int .i64 ((rd_T63 l0 t284).f1))) (ds := []) (fl_ 15 0) (by kernel_rfl) rfl (fl_zero _) ⟨(blk_cell BK279.out 0).trans rfl, (blk_cell BK279.out 1).trans rfl, (blk_cell BK279.out 2).trans rfl, (blk_cell BK279.out 3).trans rfl, (blk_cell BK279.out 4).trans rfl, ((HB.out.cell (World.block_lt_of_cell? w _ hw311_0)).trans hw311_0), ((HB.out.cell (World.block_lt_of_cell? w _ hw311_1)).trans hw311_1)⟩ (fun hHeld => ?_); refine with_tabW spec_ApplyOp.tab16 spec_ApplyOp.bits16 (fun HT_ HW_ => ?_)
     generalize w60.drew = w62 at HO287 BK279 HB hx311_0 hx311_1 hHeld ⊢
     iterate 2 refine zp_ HT_ rfl rfl (by kernel_rfl) (fun _ _ _ h => h) (by rfl) ?_
     refine zpg_ (i := 3) (ra_ [2, 1, 1, 11]) HT_ rfl rfl (by kernel_rfl) (fun _ _ _ h => h) (by rfl) ?_
     refine zpg_ (i := 5) (ra_ [2, 1, 1, 1, 1, 9]) HT_ rfl rfl (by kernel_rfl) (fun _ _ _ h => h) (by rfl) ?_
     refine zpg_ (i := 6) (ra_ [2, 1, 1, 1, 2, 8]) HT_ rfl rfl (by kernel_rfl) (fun _ _ _ h => h) (by rfl) ?_
     refine zpg_ (i := 7) (ra_ [2, 1, 1, 1, 3, 7]) HT_ rfl rfl (by kernel_rfl) (fun _ _ _ h => h) (by rfl) ?_
     refine zpg_ (i := 8) (ra_ [2, 1, 1, 1, 4, 6]) HT_ rfl rfl (by kernel_rfl) (fun _ _ _ h => h) (by rfl) ?_
     refine ztg_ (i := 4) (ra_ [2, 1, 6, 6]) HT_ HW_ rfl rfl (by kernel_rfl) (fun _ _ _ h => h) (by rfl) hHeld ?_ z150_
     refine ztg_ (i := 9) (ra_ [2, 1, 7, 5]) HT_ HW_ rfl rfl (by kernel_rfl) (fun _ _ _ h => h) (by rfl) hHeld ?_ z150_
     refine zpg_ (i := 10) (ra_ [2, 1, 8, 4]) HT_ rfl rfl (by kernel_rfl) (fun _ _ _ h => h) (by rfl) ?_
     refine zpg_ (i := 11) (ra_ [2, 1, 9, 3]) HT_ rfl rfl (by kernel_rfl) (fun _ _ _ h => h) (by rfl) ?_
     refine join_ (σ := Value × Value) 2 #[true, true, true, true, true, true, true, true, true, true, true, true, true, false, false] (fun s_ => [(70, s_.1), (80, s_.2)]) (fun s_ w' => (w'.cell? ⟨gb279, 0, none⟩ = some (.int .i64 a1_0) ∧ w'.cell? ⟨gb279, 1, none⟩ = some (.slice A1_1 l1_1.length c1_1) ∧ w'.cell? ⟨gb279, 2, none⟩ = some (.int .i64 a1_2) ∧ w'.cell? ⟨gb279, 3, none⟩ = some (.int .i64 a1_3) ∧ w'.cell? ⟨gb279, 4, none⟩ = some (.int .i64 a1_4) ∧ w'.cell? (ad311.add ((t284).toNat * 2)) = some (.int .i64 ((rd_T63 l0 t284).f0)) ∧ w'.cell? ⟨(ad311.add ((t284).toNat * 2)).block, (ad311.add ((t284).toNat * 2)).off + 1, none⟩ = some (.int .i64 ((rd_T63 l0 t284).f1))) ∧ (Kd.R k63 63 w' w.heap.size (fun k_ => some k_ ≠ (s_.1 : Value).ownBlock ∧ some k_ ≠ (s_.2 : Value).ownBlock) v286 t285) ∧ (Kd.R k63 63 w' w.heap.size (fun k_ => some k_ ≠ (v286 : Value).ownBlock ∧ some k_ ≠ (s_.2 : Value).ownBlock) s_.1 t308) ∧ (Kd.R k63 63 w' w.heap.size (fun k_ => some k_ ≠ (v286 : Value).ownBlock ∧ some k_ ≠ (s_.1 : Value).ownBlock) s_.2 y312) ∧ (w'.heap[gb279]? = some (.cells #[.int .i64 a1_0, .slice A1_1 l1_1.length c1_1, .int .i64 a1_2, .int .i64 a1_3, .int .i64 a1_4] 65 (0, 0))) ∧ (Below w.heap.size w w')) ?_ ?_
     rotate_left
     ·intro hCont
      refine two_ (i := 2) (j := 12) (Ni := some 70) (Nj := some 80) #[true, true, true, true, true, true, true, true, true, true, true, true, false, false, false] #[true, true, false, true, true, true, true, true, true, true, true, true, true, false, false] rfl rfl rfl rfl (two_of HT_.out (by kernel_rfl)) (by decide) (by decide) (fun K hK => ?_) (fun K hK => ?_)
      ·skip
       refine goes_ Try.func89 (by kernel_rfl) rfl #[.slice (some ad311) l0.length c0, .int .i64 0, .int .i64 t289, .int .i64 0] (by rfl) rfl rfl z1_ ?_
       with_reducible refine (spec_l13Shift.calls k _ _ l0 0 t289 0 t308 _ ?side1 ?side2 A46.out).mono ?_
       (case side1 => exact z3_)
       (case side2 => exact HC0.out)
       rintro e w63 ⟨v309, rfl, ho0, hb⟩
       refine ⟨_, rfl, ?_⟩
       have n0_ := Aside0.mk (Kd.R_elder' z27_ (Kd.R_base ho0) hb)
       have n1_ := Aside0.mk (Kd.R_lower (Kd.R_new' ho0 (Kd.R_lt z27_)) (below_size z7_))
       have n2_ := Aside0.mk (blk_below (g := gb279) (o := .cells #[.int .i64 a1_0, .slice A1_1 l1_1.length c1_1, .int .i64 a1_2, .int .i64 a1_3, .int .i64 a1_4] 65 (0, 0)) z18_ hb)
       have n3_ := Aside0.mk (below_step z7_ hb)
       clear HO287
       clear BK279
       clear HB
       have HO287 := n0_
       have HO310 := n1_
       have BK279 := n2_
       have HB := n3_
       clear n0_ n1_ n2_ n3_
       (try clear hb)
       (try clear hb2)
       (try clear hk)
       (try clear hi)
       (try clear ho0)
       refine hK.out _ _ ⟨(blk_cell BK279.out 0).trans rfl, (blk_cell BK279.out 1).trans rfl, (blk_cell BK279.out 2).trans rfl, (blk_cell BK279.out 3).trans rfl, (blk_cell BK279.out 4).trans rfl, ((HB.out.cell (World.block_lt_of_cell? w _ hw311_0)).trans hw311_0), ((HB.out.cell (World.block_lt_of_cell? w _ hw311_1)).trans hw311_1)⟩ (fun hHeld => ?_)
       clear hK K
       refine zn_ rfl ?_
       refine one_ (i := 12) (N := some 80) (fl_ 15 13) rfl rfl (one_of HT_.out (by kernel_rfl)) (by decide) (fun K hK => ?_)
       refine Kd.R_lit_step k63 _ 63 ?hg (N := 80) ?hd (xs := ([(⟨a1_2, wrap64 (((rd_T63 l0 t284).f1) + 1)⟩ : S63)] : List (S63))) (inner := [.int .i64 a1_2, .int .i64 (wrap64 (((rd_T63 l0 t284).f1) + 1))]) (ok := fun _ => True) (okp := fun _ => True) ?hr ?hp (fun _ hk => hk) trivial (Below.refl _ _) (Nat.le_refl _) (by simp) ?_; (case hd => rfl); (case hg => rfl); (case hr => exact z23_); (case hp => exact z107_)
       intro v313 w64 ho65 hb hg_ hnew_
       clear hg_ hnew_
       (first | rw [← Ny312.out] at ho65 | (simp only [Int.reduceToNat] at ho65; rw [← Ny312.out] at ho65))
       have n0_ := Aside0.mk (Kd.R_elder' z27_ (Kd.R_base ho65) hb)
       have n1_ := Aside0.mk (Kd.R_elder' z130_ (Kd.R_base ho65) hb)
       have n2_ := Aside0.mk (Kd.R_lower (Kd.R_new' (Kd.R_new' ho65 (Kd.R_lt z27_)) (Kd.R_lt z130_)) (below_size z7_))
       have n3_ := Aside0.mk (blk_below (g := gb279) (o := .cells #[.int .i64 a1_0, .slice A1_1 l1_1.length c1_1, .int .i64 a1_2, .int .i64 a1_3, .int .i64 a1_4] 65 (0, 0)) z18_ hb)
       have n4_ := Aside0.mk (below_step z7_ hb)
       clear HO287
       clear HO310
       clear BK279
       clear HB
       have HO287 := n0_
       have HO310 := n1_
       have HO314 := n2_
       have BK279 := n3_
       have HB := n4_
       clear n0_ n1_ n2_ n3_ n4_
       clear hb ho65
       refine hK.out _ _ ⟨(blk_cell BK279.out 0).trans rfl, (blk_cell BK279.out 1).trans rfl, (blk_cell BK279.out 2).trans rfl, (blk_cell BK279.out 3).trans rfl, (blk_cell BK279.out 4).trans rfl, ((HB.out.cell (World.block_lt_of_cell? w _ hw311_0)).trans hw311_0), ((HB.out.cell (World.block_lt_of_cell? w _ hw311_1)).trans hw311_1)⟩ (fun hHeld => ?_)
       clear hK K
       refine zn_ rfl ?_
       exact norm_ z172_ (hCont (v309, v313) _ ⟨hHeld, (by (with_reducible repeat (first | apply Kd.R_alloc | apply Kd.R_drewN | apply Kd.R_drew)); exact Kd.R_mono HO287.out (fun _ hk => ⟨hk.1.2, hk.2⟩)), z139_, z140_, z18_, z7_⟩)
      ·skip
       refine Kd.R_lit_step k63 _ 63 ?hg (N := 80) ?hd (xs := ([(⟨a1_2, wrap64 (((rd_T63 l0 t284).f1) + 1)⟩ : S63)] : List (S63))) (inner := [.int .i64 a1_2, .int .i64 (wrap64 (((rd_T63 l0 t284).f1) + 1))]) (ok := fun _ => True) (okp := fun _ => True) ?hr ?hp (fun _ hk => hk) trivial (Below.refl _ _) (Nat.le_refl _) (by simp) ?_; (case hd => rfl); (case hg => rfl); (case hr => exact z23_); (case hp => exact z107_)
       intro v313 w63 ho64 hb hg_ hnew_
       clear hg_ hnew_
       (first | rw [← Ny312.out] at ho64 | (simp only [Int.reduceToNat] at ho64; rw [← Ny312.out] at ho64))
       have n0_ := Aside0.mk (Kd.R_elder' z27_ (Kd.R_base ho64) hb)
       have n1_ := Aside0.mk (Kd.R_lower (Kd.R_new' ho64 (Kd.R_lt z27_)) (below_size z7_))
       have n2_ := Aside0.mk (blk_below (g := gb279) (o := .cells #[.int .i64 a1_0, .slice A1_1 l1_1.length c1_1, .int .i64 a1_2, .int .i64 a1_3, .int .i64 a1_4] 65 (0, 0)) z18_ hb)
       have n3_ := Aside0.mk (below_step z7_ hb)
       clear HO287
       clear BK279
       clear HB
       have HO287 := n0_
       have HO314 := n1_
       have BK279 := n2_
       have HB := n3_
       clear n0_ n1_ n2_ n3_
       clear hb ho64
       refine hK.out _ _ ⟨(blk_cell BK279.out 0).trans rfl, (blk_cell BK279.out 1).trans rfl, (blk_cell BK279.out 2).trans rfl, (blk_cell BK279.out 3).trans rfl, (blk_cell BK279.out 4).trans rfl, ((HB.out.cell (World.block_lt_of_cell? w _ hw311_0)).trans hw311_0), ((HB.out.cell (World.block_lt_of_cell? w _ hw311_1)).trans hw311_1)⟩ (fun hHeld => ?_)
       clear hK K
       refine zn_ rfl ?_
       refine one_ (i := 2) (N := some 70) (fl_ 15 13) rfl rfl (one_of HT_.out (by kernel_rfl)) (by decide) (fun K hK => ?_)
       refine goes_ Try.func89 (by kernel_rfl) rfl #[.slice (some ad311) l0.length c0, .int .i64 0, .int .i64 t289, .int .i64 0] (by rfl) rfl rfl z1_ ?_
       with_reducible refine (spec_l13Shift.calls k _ _ l0 0 t289 0 t308 _ ?side1 ?side2 A46.out).mono ?_
       (case side1 => exact z3_)
       (case side2 => exact HC0.out)
       rintro e w65 ⟨v309, rfl, ho0, hb⟩
       refine ⟨_, rfl, ?_⟩
       have n0_ := Aside0.mk (Kd.R_elder' z27_ (Kd.R_base ho0) hb)
       have n1_ := Aside0.mk (Kd.R_elder' z59_ (Kd.R_base ho0) hb)
       have n2_ := Aside0.mk (Kd.R_lower (Kd.R_new' (Kd.R_new' ho0 (Kd.R_lt z27_)) (Kd.R_lt z59_)) (below_size z7_))
       have n3_ := Aside0.mk (blk_below (g := gb279) (o := .cells #[.int .i64 a1_0, .slice A1_1 l1_1.length c1_1, .int .i64 a1_2, .int .i64 a1_3, .int .i64 a1_4] 65 (0, 0)) z18_ hb)
       have n4_ := Aside0.mk (below_step z7_ hb)
       clear HO287
       clear HO314
       clear BK279
       clear HB
       have HO287 := n0_
       have HO314 := n1_
       have HO310 := n2_
       have BK279 := n3_
       have HB := n4_
       clear n0_ n1_ n2_ n3_ n4_
       (try clear hb)
       (try clear hb2)
       (try clear hk)
       (try clear hi)
       (try clear ho0)
       refine hK.out _ _ ⟨(blk_cell BK279.out 0).trans rfl, (blk_cell BK279.out 1).trans rfl, (blk_cell BK279.out 2).trans rfl, (blk_cell BK279.out 3).trans rfl, (blk_cell BK279.out 4).trans rfl, ((HB.out.cell (World.block_lt_of_cell? w _ hw311_0)).trans hw311_0), ((HB.out.cell (World.block_lt_of_cell? w _ hw311_1)).trans hw311_1)⟩ (fun hHeld => ?_)
       clear hK K
       refine zn_ rfl ?_
       exact norm_ z172_ (hCont (v309, v313) _ ⟨hHeld, z138_, z139_, z140_, z18_, z7_⟩)
     rintro ⟨v309, v313⟩ w66 ⟨hS_, h0_, h1_, h2_, h3_, h4_⟩
     have n0_ : Aside0 (Kd.R k63 63 w66 w.heap.size (fun k_ => some k_ ≠ (v309 : Value).ownBlock ∧ some k_ ≠ (v313 : Value).ownBlock) v286 t285) := ⟨h0_⟩
     have n1_ : Aside0 (Kd.R k63 63 w66 w.heap.size (fun k_ => some k_ ≠ (v286 : Value).ownBlock ∧ some k_ ≠ (v313 : Value).ownBlock) v309 t308) := ⟨h1_⟩
     have n2_ : Aside0 (Kd.R k63 63 w66 w.heap.size (fun k_ => some k_ ≠ (v286 : Value).ownBlock ∧ some k_ ≠ (v309 : Value).ownBlock) v313 y312) := ⟨h2_⟩
     have n3_ : Aside0 (w66.heap[gb279]? = some (.cells #[.int .i64 a1_0, .slice A1_1 l1_1.length c1_1, .int .i64 a1_2, .int .i64 a1_3, .int .i64 a1_4] 65 (0, 0))) := ⟨h3_⟩
     have n4_ : Aside0 (Below w.heap.size w w66) := ⟨h4_⟩
     clear HO287
     clear BK279
     clear HB
     clear h0_ h1_ h2_ h3_ h4_
     have HO287 := n0_
     have HO310 := n1_
     have HO314 := n2_
     have BK279 := n3_
     have HB := n4_
     clear n0_ n1_ n2_ n3_ n4_
     have hHeld : w66.cell? ⟨gb279, 0, none⟩ = some (.int .i64 a1_0) ∧ w66.cell? ⟨gb279, 1, none⟩ = some (.slice A1_1 l1_1.length c1_1) ∧ w66.cell? ⟨gb279, 2, none⟩ = some (.int .i64 a1_2) ∧ w66.cell? ⟨gb279, 3, none⟩ = some (.int .i64 a1_3) ∧ w66.cell? ⟨gb279, 4, none⟩ = some (.int .i64 a1_4) ∧ w66.cell? (ad311.add ((t284).toNat * 2)) = some (.int .i64 ((rd_T63 l0 t284).f0)) ∧ w66.cell? ⟨(ad311.add ((t284).toNat * 2)).block, (ad311.add ((t284).toNat * 2)).off + 1, none⟩ = some (.int .i64 ((rd_T63 l0 t284).f1)) := hS_
     obtain ⟨Ao68, co68, eo68⟩ := Kd.R_slice HO314.out
     (first | subst eo68 | (injection eo68 with f1_ f2_ f3_; have f4_ := f1_.symm; have f5_ := f3_.symm; clear f1_ f2_ f3_; subst f4_; subst f5_))
     refine norm_ (a' := ?_) ?_ ?_
     rotate_left
     ·simp only [putAll, Act.put, List.setIfInBounds_toArray, List.set_cons_zero, List.set_cons_succ]
      rfl
     refine one_ (i := 13) (N := some 81) (fl_ 15 14) rfl rfl (one_of HT_.out (by kernel_rfl)) (by decide) (fun K hK => ?_)
     refine Kd.R_append_rows_step k63 (w0 := w) w.heap.size (by rfl) (.tmp 70) (.tmp 80) 24 63 (.agg #[(.int .i64 0), (.int .i64 0)]) 16 rfl Try.underlying24 info63 rfl (by decide) (by omega) v309 t308 y312 _ _ _ (fun k_ => some k_ ≠ (v286 : Value).ownBlock ∧ some k_ ≠ (.slice Ao68 y312.length co68 : Value).ownBlock) (fun _ => False) rfl rfl ?aO ?aR (fun _ _ h => h) (fun _ h => h.elim) ?aF ?aB ?aS ?aL ?_
     (case aR => repeat (first | exact (Kd.R_reads' HO314.out).2.2 | (with_reducible refine Kd.C_alloc ?_ _) | (with_reducible refine Kd.C_drewN ?_ _) | (with_reducible refine Kd.C_drew ?_)))
     (case aB => exact z67_)
     (case aF => exact (fun k_ hk => ⟨Kd.fresh' (Kd.R_lt z27_) k_ hk, Kd.fresh' (Kd.R_lt z59_) k_ hk⟩))
     (case aO => exact z130_)
     (case aS => exact z65_)
     (case aL => have := LMc49.out; omega)
     intro v316 w67 ho hb hg hat
     rw [← Ny315.out] at ho
     have n0_ := Aside0.mk (blk_grown (g := gb279) (o := .cells #[.int .i64 a1_0, .slice A1_1 l1_1.length c1_1, .int .i64 a1_2, .int .i64 a1_3, .int .i64 a1_4] 65 (0, 0)) z18_ hg (Kd.R_ne HO310.out BK279.out (by decide)))
     have n1_ := Aside0.mk (Kd.R_after (ok := (fun k_ => some k_ ≠ (.slice Ao68 y312.length co68 : Value).ownBlock)) (by (with_reducible repeat (first | apply Kd.R_alloc | apply Kd.R_drewN | apply Kd.R_drew)); exact Kd.R_mono HO287.out (fun _ hk => ⟨hk.2, hk.1⟩)) hg hat)
     have n2_ := Aside0.mk (Kd.R_after (ok := (fun k_ => some k_ ≠ (v286 : Value).ownBlock)) z59_ hg hat)
     have n3_ := Aside0.mk (hb)
     have n4_ := Aside0.mk (ho)
     clear BK279
     clear HO287
     clear HO314
     clear HB
     clear HO310
     have BK279 := n0_
     have HO287 := n1_
     have HO314 := n2_
     have HB := n3_
     have HO317 := n4_
     clear n0_ n1_ n2_ n3_ n4_
     clear ho hb hg hat
     refine hK.out _ _ ⟨(blk_cell BK279.out 0).trans rfl, (blk_cell BK279.out 1).trans rfl, (blk_cell BK279.out 2).trans rfl, (blk_cell BK279.out 3).trans rfl, (blk_cell BK279.out 4).trans rfl, ((HB.out.cell (World.block_lt_of_cell? w _ hw311_0)).trans hw311_0), ((HB.out.cell (World.block_lt_of_cell? w _ hw311_1)).trans hw311_1)⟩ (fun hHeld => ?_)
     clear hK K
     refine zn_ rfl ?_
     refine zp_ HT_ rfl rfl (by kernel_rfl) (fun _ _ _ h => h) (by rfl) ?_
     refine done_ (done_of HT_.out (by kernel_rfl)) ?_
     try go_wp2_with (first | ((with_reducible refine gate_callee (f := 89) rfl ?_); refine goesL_ (some 86) rfl rfl Try.func89 (by kernel_rfl) rfl #[.slice (some ad311) l0.length c0, .int .i64 t289, .int .i64 t290, .int .i64 1] rfl z1_ ?_; (with_reducible refine (spec_l13Shift.calls k _ _ l0 t289 t290 1 t318 _ ?side1 ?side2 A50.out).mono ?_); (case side1 => exact z3_); (case side2 => exact HC0.out); rintro e w69 ⟨v319, rfl, ho0, hb⟩; refine ⟨_, rfl, ?_⟩; have HO320 := Aside0.mk (Kd.R_lower (Kd.R_new' (Kd.R_new' (Kd.R_new' ho0 (Kd.R_lt z27_)) (Kd.R_lt z59_)) (Kd.R_lt z164_)) (below_size z7_)); replace HO287 := Aside0.mk (Kd.R_elder' z27_ (Kd.R_base ho0) hb); replace HO314 := Aside0.mk (Kd.R_elder' z59_ (Kd.R_base ho0) hb); replace HO317 := Aside0.mk (Kd.R_elder' z164_ (Kd.R_base ho0) hb); replace BK279 := Aside0.mk (blk_below (g := gb279) (o := .cells #[.int .i64 a1_0, .slice A1_1 l1_1.length c1_1, .int .i64 a1_2, .int .i64 a1_3, .int .i64 a1_4] 65 (0, 0)) z18_ hb); replace HB := Aside0.mk (below_step z7_ hb); (try clear hb ho0); obtain ⟨Ao71, co71, eo71⟩ := Kd.R_slice HO320.out; subst eo71) | ((with_reducible refine gate_builtin (b := .append) (xs := #[.tmp 82, .tmp 86]) rfl ?_); at_builtin; refine Kd.R_append_rows k63 (w0 := w) w.heap.size rfl (.tmp 82) (.tmp 86) 24 63 (.agg #[(.int .i64 0), (.int .i64 0)]) 16 rfl Try.underlying24 info63 rfl (by decide) (by omega) v316 y315 t318 _ _ _ (fun k_ => some k_ ≠ (v286 : Value).ownBlock ∧ some k_ ≠ (.slice Ao68 y312.length co68 : Value).ownBlock ∧ some k_ ≠ (.slice Ao71 t318.length co71 : Value).ownBlock) (fun _ => False) rfl rfl ?aO ?aR (fun _ _ h => h) (fun _ h => h.elim) ?aF ?aB ?aS ?aL ?_; (case aR => repeat (first | exact (Kd.R_reads' HO320.out).2.2 | (with_reducible refine Kd.C_alloc ?_ _) | (with_reducible refine Kd.C_drewN ?_ _) | (with_reducible refine Kd.C_drew ?_))); (case aB => exact z67_); (case aF => exact (fun k_ hk => ⟨Kd.fresh' (Kd.R_lt z27_) k_ hk, Kd.fresh' (Kd.R_lt z59_) k_ hk, Kd.fresh' (Kd.R_lt z112_) k_ hk⟩)); (case aO => exact (by (with_reducible repeat (first | apply Kd.R_alloc | apply Kd.R_drewN | apply Kd.R_drew)); exact Kd.R_mono HO317.out (fun _ hk => ⟨hk.1.1, ⟨hk.1.2, hk.2⟩⟩))); (case aS => exact z65_); (case aL => have := LMc51.out; omega); intro v322 w70 ho hb hg hat; rw [← Ny321.out] at ho; replace BK279 := Aside0.mk (blk_grown (g := gb279) (o := .cells #[.int .i64 a1_0, .slice A1_1 l1_1.length c1_1, .int .i64 a1_2, .int .i64 a1_3, .int .i64 a1_4] 65 (0, 0)) z18_ hg (Kd.R_ne HO317.out BK279.out (by decide))); replace HO287 := Aside0.mk (Kd.R_after (ok := (fun k_ => some k_ ≠ (.slice Ao68 y312.length co68 : Value).ownBlock ∧ some k_ ≠ (.slice Ao71 t318.length co71 : Value).ownBlock)) z135_ hg hat); replace HO314 := Aside0.mk (Kd.R_after (ok := (fun k_ => some k_ ≠ (v286 : Value).ownBlock ∧ some k_ ≠ (.slice Ao71 t318.length co71 : Value).ownBlock)) (by (with_reducible repeat (first | apply Kd.R_alloc | apply Kd.R_drewN | apply Kd.R_drew)); exact Kd.R_mono HO314.out (fun _ hk => ⟨⟨hk.1.1, hk.2⟩, hk.1.2⟩)) hg hat); replace HO320 := Aside0.mk (Kd.R_after (ok := (fun k_ => some k_ ≠ (v286 : Value).ownBlock ∧ some k_ ≠ (.slice Ao68 y312.length co68 : Value).ownBlock)) (by (with_reducible repeat (first | apply Kd.R_alloc | apply Kd.R_drewN | apply Kd.R_drew)); exact Kd.R_mono HO320.out (fun _ hk => ⟨⟨hk.1.1.2, hk.1.2⟩, hk.2⟩)) hg hat); replace HB := Aside0.mk (hb); have HO323 := Aside0.mk (ho); clear HO317; clear ho hb hg hat) | ((with_reducible refine gate_callee (f := 89) rfl ?_); refine goesL_ (some 93) rfl rfl Try.func89 (by kernel_rfl) rfl #[.slice (some ad311) l0.length c0, .int .i64 t290, .int .i64 (l0.length : Int), .int .i64 0] rfl z1_ ?_; (with_reducible refine (spec_l13Shift.calls k _ _ l0 t290 (l0.length : Int) 0 t324 _ ?side1 ?side2 A52.out).mono ?_); (case side1 => exact z3_); (case side2 => exact HC0.out); rintro e w72 ⟨v325, rfl, ho0, hb⟩; refine ⟨_, rfl, ?_⟩; have HO326 := Aside0.mk (Kd.R_lower (Kd.R_new' (Kd.R_new' (Kd.R_new' (Kd.R_new' ho0 (Kd.R_lt z27_)) (Kd.R_lt z59_)) (Kd.R_lt z112_)) (Kd.R_lt z165_)) (below_size z7_)); replace HO287 := Aside0.mk (Kd.R_elder' z27_ (Kd.R_base ho0) hb); replace HO314 := Aside0.mk (Kd.R_elder' z59_ (Kd.R_base ho0) hb); replace HO320 := Aside0.mk (Kd.R_elder' z112_ (Kd.R_base ho0) hb); replace HO323 := Aside0.mk (Kd.R_elder' z165_ (Kd.R_base ho0) hb); replace BK279 := Aside0.mk (blk_below (g := gb279) (o := .cells #[.int .i64 a1_0, .slice A1_1 l1_1.length c1_1, .int .i64 a1_2, .int .i64 a1_3, .int .i64 a1_4] 65 (0, 0)) z18_ hb); replace HB := Aside0.mk (below_step z7_ hb); (try clear hb ho0); obtain ⟨Ao74, co74, eo74⟩ := Kd.R_slice HO326.out; subst eo74) | ((with_reducible refine gate_builtin (b := .append) (xs := #[.tmp 88, .tmp 93]) rfl ?_); at_builtin; refine Kd.R_append_rows k63 (w0 := w) w.heap.size rfl (.tmp 88) (.tmp 93) 24 63 (.agg #[(.int .i64 0), (.int .i64 0)]) 16 rfl Try.underlying24 info63 rfl (by decide) (by omega) v322 y321 t324 _ _ _ (fun k_ => some k_ ≠ (v286 : Value).ownBlock ∧ some k_ ≠ (.slice Ao68 y312.length co68 : Value).ownBlock ∧ some k_ ≠ (.slice Ao71 t318.length co71 : Value).ownBlock ∧ some k_ ≠ (.slice Ao74 t324.length co74 : Value).ownBlock) (fun _ => False) rfl rfl ?aO ?aR (fun _ _ h => h) (fun _ h => h.elim) ?aF ?aB ?aS ?aL ?_; (case aR => repeat (first | exact (Kd.R_reads' HO326.out).2.2 | (with_reducible refine Kd.C_alloc ?_ _) | (with_reducible refine Kd.C_drewN ?_ _) | (with_reducible refine Kd.C_drew ?_))); (case aB => exact z67_); (case aF => exact (fun k_ hk => ⟨Kd.fresh' (Kd.R_lt z27_) k_ hk, Kd.fresh' (Kd.R_lt z59_) k_ hk, Kd.fresh' (Kd.R_lt z112_) k_ hk, Kd.fresh' (Kd.R_lt (by (with_reducible repeat (first | apply Kd.R_alloc | apply Kd.R_drewN | apply Kd.R_drew)); exact HO326.out)) k_ hk⟩)); (case aO => exact (by (with_reducible repeat (first | apply Kd.R_alloc | apply Kd.R_drewN | apply Kd.R_drew)); exact Kd.R_mono HO323.out (fun _ hk => ⟨hk.1.1, ⟨hk.1.2.1, ⟨hk.1.2.2, hk.2⟩⟩⟩))); (case aS => exact z65_); (case aL => have := LMc53.out; omega); intro v328 w73 ho hb hg hat; rw [← Ny327.out] at ho; replace BK279 := Aside0.mk (blk_grown (g := gb279) (o := .cells #[.int .i64 a1_0, .slice A1_1 l1_1.length c1_1, .int .i64 a1_2, .int .i64 a1_3, .int .i64 a1_4] 65 (0, 0)) z18_ hg (Kd.R_ne HO323.out BK279.out (by decide))); replace HO287 := Aside0.mk (Kd.R_after (ok := (fun k_ => some k_ ≠ (.slice Ao68 y312.length co68 : Value).ownBlock ∧ some k_ ≠ (.slice Ao71 t318.length co71 : Value).ownBlock ∧ some k_ ≠ (.slice Ao74 t324.length co74 : Value).ownBlock)) (by (with_reducible repeat (first | apply Kd.R_alloc | apply Kd.R_drewN | apply Kd.R_drew)); exact Kd.R_mono HO287.out (fun _ hk => ⟨⟨hk.1.1.1, ⟨hk.1.1.2, hk.2⟩⟩, hk.1.2⟩)) hg hat); replace HO314 := Aside0.mk (Kd.R_after (ok := (fun k_ => some k_ ≠ (v286 : Value).ownBlock ∧ some k_ ≠ (.slice Ao71 t318.length co71 : Value).ownBlock ∧ some k_ ≠ (.slice Ao74 t324.length co74 : Value).ownBlock)) (by (with_reducible repeat (first | apply Kd.R_alloc | apply Kd.R_drewN | apply Kd.R_drew)); exact Kd.R_mono HO314.out (fun _ hk => ⟨⟨hk.1.1.1, ⟨hk.1.1.2, hk.2⟩⟩, hk.1.2⟩)) hg hat); replace HO320 := Aside0.mk (Kd.R_after (ok := (fun k_ => some k_ ≠ (v286 : Value).ownBlock ∧ some k_ ≠ (.slice Ao68 y312.length co68 : Value).ownBlock ∧ some k_ ≠ (.slice Ao74 t324.length co74 : Value).ownBlock)) (by (with_reducible repeat (first | apply Kd.R_alloc | apply Kd.R_drewN | apply Kd.R_drew)); exact Kd.R_mono HO320.out (fun _ hk => ⟨⟨hk.1.1.1, ⟨hk.1.1.2, hk.2⟩⟩, hk.1.2⟩)) hg hat); replace HO326 := Aside0.mk (Kd.R_after (ok := (fun k_ => some k_ ≠ (v286 : Value).ownBlock ∧ some k_ ≠ (.slice Ao68 y312.length co68 : Value).ownBlock ∧ some k_ ≠ (.slice Ao71 t318.length co71 : Value).ownBlock)) (by (with_reducible repeat (first | apply Kd.R_alloc | apply Kd.R_drewN | apply Kd.R_drew)); exact Kd.R_mono HO326.out (fun _ hk => ⟨⟨hk.1.1.1.2, ⟨hk.1.1.2, hk.1.2⟩⟩, hk.2⟩)) hg hat); replace HB := Aside0.mk (hb); have HO329 := Aside0.mk (ho); clear HO323; clear ho hb hg hat))
     go_ret2
     exact ⟨_, z6_, by (with_reducible repeat (first | apply Kd.R_alloc | apply Kd.R_drewN | apply Kd.R_drew)); exact Kd.R_mono HO329.out (fun _ hk => trivial), z7_⟩
  ·rw [if_neg c8] at H
   have c8b0 : (t288 == 0) = false := beq_eq_false_iff_ne.mpr c8
   have c8b1 : (t288 != 0) = true := bne_iff_ne.mpr c8
   simp only [Option.some.injEq, Prod.mk.injEq] at H
   obtain ⟨rfl, rfl⟩ := H
   go_enter Try.func45, Try.ntmps45
   go_wp2_with (first | ((with_reducible refine gate_dst (N := 3) rfl ?_); refine box_event ?hg (N := 3) ?hd (cs := #[.int .i64 a1_0, .slice A1_1 l1_1.length c1_1, .int .i64 a1_2, .int .i64 a1_3, .int .i64 a1_4]) (t := 65) ?hr ?_; (case hd => rfl); (case hg => rfl); (case hr => exact z23_); intro gb279 hg w75 hbox hb; have BK279 := Aside0.mk (hbox); have GW279 := Aside0.mk ((by rw [hg]; exact (below_size z0_) : w.heap.size ≤ gb279)); have GE279 := Aside0.mk ((by rw [hg]; exact (below_size z0_) : w.heap.size ≤ gb279)); replace HB := Aside0.mk (below_step z0_ hb); clear hb hbox hg) | ((with_reducible refine gate_callee (f := 13) rfl ?_); refine goesL_ (some 13) rfl rfl Try.func13 (by kernel_rfl) rfl #[.slice A0 l0.length c0] rfl z1_ ?_; (with_reducible refine (spec_TreeOk.calls k _ _ l0 true _ ?side1 ?side2 A3.out).mono ?_); (case side1 => exact z3_); (case side2 => exact HC0.out); rintro e w76 ⟨rfl, hb⟩; refine ⟨_, rfl, ?_⟩; replace BK279 := Aside0.mk (blk_below (g := gb279) (o := .cells #[.int .i64 a1_0, .slice A1_1 l1_1.length c1_1, .int .i64 a1_2, .int .i64 a1_3, .int .i64 a1_4] 65 (0, 0)) z18_ hb); replace HB := Aside0.mk (below_step z7_ hb); (try clear hb); have hcz77_0 : w76.cell? ⟨gb279, 0, none⟩ = some (.int .i64 a1_0) := (blk_cell BK279.out 0).trans rfl; have hcz77_1 : w76.cell? ⟨gb279, 1, none⟩ = some (.slice A1_1 l1_1.length c1_1) := (blk_cell BK279.out 1).trans rfl; have hcz77_2 : w76.cell? ⟨gb279, 2, none⟩ = some (.int .i64 a1_2) := (blk_cell BK279.out 2).trans rfl; have hcz77_3 : w76.cell? ⟨gb279, 3, none⟩ = some (.int .i64 a1_3) := (blk_cell BK279.out 3).trans rfl; have hcz77_4 : w76.cell? ⟨gb279, 4, none⟩ = some (.int .i64 a1_4) := (blk_cell BK279.out 4).trans rfl; have hfz77_0 := blk_frozen BK279.out 0; have hfz77_1 := blk_frozen BK279.out 1; have hfz77_2 := blk_frozen BK279.out 2; have hfz77_3 := blk_frozen BK279.out 3; have hfz77_4 := blk_frozen BK279.out 4) | ((with_reducible refine gate_callee (f := 86) rfl ?_); refine goesL_ (some 19) rfl rfl Try.func86 (by kernel_rfl) rfl #[.slice A0 l0.length c0, .slice A1_1 l1_1.length c1_1] rfl z1_ ?_; (with_reducible refine (spec_NodeAt.calls k _ _ l0 _ _ l1_1 t284 _ ?side1 ?side2 ?side3 ?side4 A5.out).mono ?_); (case side1 => exact z3_); (case side2 => exact HC0.out); (case side3 => exact z24_); (case side4 => exact HC1_1.out); rintro e w78 ⟨rfl, hb⟩; refine ⟨_, rfl, ?_⟩; replace BK279 := Aside0.mk (blk_below (g := gb279) (o := .cells #[.int .i64 a1_0, .slice A1_1 l1_1.length c1_1, .int .i64 a1_2, .int .i64 a1_3, .int .i64 a1_4] 65 (0, 0)) z18_ hb); replace HB := Aside0.mk (below_step z7_ hb); (try clear hb)) | ((with_reducible refine gate_callee (f := 44) rfl ?_); refine goesL_ (some 21) rfl rfl Try.func44 (by kernel_rfl) rfl #[.slice A0 l0.length c0] rfl z1_ ?_; (with_reducible refine (spec_l3Copy.calls _ _ l0 t285 _ ?side1 ?side2 A6.out).mono ?_); (case side1 => exact z3_); (case side2 => exact HC0.out); rintro e w79 ⟨v286, rfl, ho0, hb⟩; refine ⟨_, rfl, ?_⟩; have HO287 := Aside0.mk (Kd.R_lower ho0 (below_size z7_)); replace BK279 := Aside0.mk (blk_below (g := gb279) (o := .cells #[.int .i64 a1_0, .slice A1_1 l1_1.length c1_1, .int .i64 a1_2, .int .i64 a1_3, .int .i64 a1_4] 65 (0, 0)) z18_ hb); replace HB := Aside0.mk (below_step z7_ hb); (try clear hb ho0); have hcz80_0 : w79.cell? ⟨gb279, 0, none⟩ = some (.int .i64 a1_0) := (blk_cell BK279.out 0).trans rfl; have hcz80_1 : w79.cell? ⟨gb279, 1, none⟩ = some (.slice A1_1 l1_1.length c1_1) := (blk_cell BK279.out 1).trans rfl; have hcz80_2 : w79.cell? ⟨gb279, 2, none⟩ = some (.int .i64 a1_2) := (blk_cell BK279.out 2).trans rfl; have hcz80_3 : w79.cell? ⟨gb279, 3, none⟩ = some (.int .i64 a1_3) := (blk_cell BK279.out 3).trans rfl; have hcz80_4 : w79.cell? ⟨gb279, 4, none⟩ = some (.int .i64 a1_4) := (blk_cell BK279.out 4).trans rfl; have hfz80_0 := blk_frozen BK279.out 0; have hfz80_1 := blk_frozen BK279.out 1; have hfz80_2 := blk_frozen BK279.out 2; have hfz80_3 := blk_frozen BK279.out 3; have hfz80_4 := blk_frozen BK279.out 4) | ((with_reducible refine gate_callee (f := 87) rfl ?_); refine goesL_ (some 26) rfl rfl Try.func87 (by kernel_rfl) rfl #[.slice A0 l0.length c0, .agg #[.int .i64 a1_0, .slice A1_1 l1_1.length c1_1, .int .i64 a1_2, .int .i64 a1_3, .int .i64 a1_4], .int .i64 t284] rfl z1_ ?_; (with_reducible refine (spec_l13Code.calls k _ _ l0 a1_0 _ _ l1_1 a1_2 a1_3 a1_4 t284 t288 t289 t290 _ ?side1 ?side2 ?side3 ?side4 A7.out).mono ?_); (case side1 => exact z3_); (case side2 => exact HC0.out); (case side3 => exact z24_); (case side4 => exact HC1_1.out); rintro e w81 ⟨rfl, hb⟩; refine ⟨_, rfl, ?_⟩; replace HO287 := Aside0.mk (Kd.R_below z27_ hb); replace BK279 := Aside0.mk (blk_below (g := gb279) (o := .cells #[.int .i64 a1_0, .slice A1_1 l1_1.length c1_1, .int .i64 a1_2, .int .i64 a1_3, .int .i64 a1_4] 65 (0, 0)) z18_ hb); replace HB := Aside0.mk (below_step z7_ hb); (try clear hb)))
   go_ret2
   exact ⟨_, z6_, z27_, z7_⟩
 ·replace c4 := Bool.eq_false_iff.mpr c4
  subst c4
  replace H := iff_ H
  obtain ⟨y281, hy281⟩ : ∃ y_ : List (S63), y_ = (([] : List (S63))) := ⟨_, rfl⟩
  replace H : (some (y281, 2)) = some (r1, r2) := by first | (rw [hy281]; with_reducible exact H) | (have H2_ := (Option.bind_some _ _).symm.trans H; rw [hy281]; with_reducible exact H2_) | (have H2_ := (Option.bind_some _ _).symm.trans H; with_reducible exact H2_) | with_reducible exact H | (rw [hy281]; exact H) | exact H
  have Ny281 := Aside0.mk hy281
  clear hy281
  simp only [Option.some.injEq, Prod.mk.injEq] at H
  obtain ⟨rfl, rfl⟩ := H
  go_enter Try.func45, Try.ntmps45
  go_wp2_with (first | ((with_reducible refine gate_dst (N := 3) rfl ?_); refine box_event ?hg (N := 3) ?hd (cs := #[.int .i64 a1_0, .slice A1_1 l1_1.length c1_1, .int .i64 a1_2, .int .i64 a1_3, .int .i64 a1_4]) (t := 65) ?hr ?_; (case hd => rfl); (case hg => rfl); (case hr => exact z23_); intro gb279 hg w82 hbox hb; have BK279 := Aside0.mk (hbox); have GW279 := Aside0.mk ((by rw [hg]; exact (below_size z0_) : w.heap.size ≤ gb279)); have GE279 := Aside0.mk ((by rw [hg]; exact (below_size z0_) : w.heap.size ≤ gb279)); replace HB := Aside0.mk (below_step z0_ hb); clear hb hbox hg) | ((with_reducible refine gate_callee (f := 13) rfl ?_); refine goesL_ (some 13) rfl rfl Try.func13 (by kernel_rfl) rfl #[.slice A0 l0.length c0] rfl z1_ ?_; (with_reducible refine (spec_TreeOk.calls k _ _ l0 false _ ?side1 ?side2 A3.out).mono ?_); (case side1 => exact z3_); (case side2 => exact HC0.out); rintro e w83 ⟨rfl, hb⟩; refine ⟨_, rfl, ?_⟩; replace BK279 := Aside0.mk (blk_below (g := gb279) (o := .cells #[.int .i64 a1_0, .slice A1_1 l1_1.length c1_1, .int .i64 a1_2, .int .i64 a1_3, .int .i64 a1_4] 65 (0, 0)) z18_ hb); replace HB := Aside0.mk (below_step z7_ hb); (try clear hb)) | ((with_reducible refine gate_dst (N := 15) rfl ?_); refine Kd.R_lit k63 _ 63 ?hg (N := 15) ?hd (xs := ([] : List (S63))) (inner := []) (ok := fun _ => True) (okp := fun _ => True) ?hr ?hp (fun _ hk => hk) trivial (Below.refl _ _) (Nat.le_refl _) (by simp) ?_; (case hd => rfl); (case hg => rfl); (case hr => exact z23_); (case hp => exact z110_); intro v282 w84 ho85 hb hg_ hnew_; clear hg_ hnew_; (first | rw [← Ny281.out] at ho85 | (simp only [Int.reduceToNat] at ho85; rw [← Ny281.out] at ho85)); have HO283 := Aside0.mk (Kd.R_lower ho85 (below_size z7_)); replace BK279 := Aside0.mk (blk_below (g := gb279) (o := .cells #[.int .i64 a1_0, .slice A1_1 l1_1.length c1_1, .int .i64 a1_2, .int .i64 a1_3, .int .i64 a1_4] 65 (0, 0)) z18_ hb); replace HB := Aside0.mk (below_step z7_ hb); clear hb ho85))
  go_ret2
  exact ⟨_, z6_, by (with_reducible repeat (first | apply Kd.R_alloc | apply Kd.R_drewN | apply Kd.R_drew)); exact HO283.out, z7_⟩

end Go.Proofs.Ytmbhlfcpdbbogaa.PFnIdle
