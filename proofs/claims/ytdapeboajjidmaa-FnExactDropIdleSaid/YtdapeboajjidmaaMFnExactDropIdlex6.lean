/- Laid by a program of this session out of the kit's print for the law FnExactDropIdle: what it says of the machine is proved here, function by function; each contract under the conditions that it names. -/
import Derived.Test.YtdapeboajjidmaaMFnExactDropIdlex0
import Derived.Test.YtdapeboajjidmaaMFnExactDropIdlex3
import Derived.Test.YtdapeboajjidmaaMFnExactDropIdlex4
import Derived.Test.YtdapeboajjidmaaMFnExactDropIdlex5
namespace Go.Proofs.Ytdapeboajjidmaa.PFnExactDropIdle
open Go.RowKit Go.Proofs.YtdapeboajjidmaaW.PrintWords Go.Proofs.YtdapeboajjidmaaW.PrintLast Go.Proofs.YtdapeboajjidmaaW.PrintMore
attribute [local go_sem] max2_int min2_int max_two min_two max_three min_three max_four min_four   -- for this text's walks alone
set_option linter.unusedVariables false
set_option linter.unusedSimpArgs false

/-! ### spec_l13Shift: function 92 -/
def spec_l13Shift.l0 : Nat → List (S80) → Int → Int → List (S80) → Int → Option ((List (S80)))
 | 0, _, _, _, _, _ => none
 | k + 1, x0, x2, x3, x9, x10 => if x10 < x2 then (if 0 ≤ x10 then (if x10 < (x0.length : Int) then (if x9.length < 8796093022208 then (spec_l13Shift.l0 k x0 x2 x3 (x9 ++ [(⟨(rd_T80 x0 x10).f0, wrap64 (((rd_T80 x0 x10).f1) + x3)⟩ : S80)]) (wrap64 (x10 + 1))) else (none)) else (none)) else (none)) else (some x9)
def spec_l13Shift.f (k : Nat) (l0 : List (S80)) (a1 : Int) (a2 : Int) (a3 : Int) : Option ((List (S80))) := spec_l13Shift.l0 k l0 a2 a3 (([] : List (S80))) a1
theorem spec_l13Shift.mono_l : ∀ k, (∀ y0 y1 y2 y3 y4, LeO (spec_l13Shift.l0 k y0 y1 y2 y3 y4) (spec_l13Shift.l0 (k + 1) y0 y1 y2 y3 y4))
 | 0 => fun _ _ _ _ _ r h => by simp [spec_l13Shift.l0] at h
 | k + 1 => by
  have ih0 := spec_l13Shift.mono_l k
  ·intro y0 y1 y2 y3 y4
   unfold spec_l13Shift.l0
   repeat' first | (with_reducible first | exact ih0 _ _ _ _ _ | exact LeO.refl _ | exact LeO.none _ | refine LeO.ite ?_ ?_ | refine LeO.bind ?_ (fun _ => ?_)) | exact ih0 _ _ _ _ _ | exact LeO.none _ | refine LeO.ite ?_ ?_ | refine LeO.bind ?_ (fun _ => ?_)
theorem spec_l13Shift.mono : ∀ a0 a1 a2 a3 k, LeO (spec_l13Shift.f k a0 a1 a2 a3) (spec_l13Shift.f (k + 1) a0 a1 a2 a3) := by
 intro a0 a1 a2 a3 k
 have ih0 := spec_l13Shift.mono_l k
 unfold spec_l13Shift.f
 repeat' first | (with_reducible first | exact ih0 _ _ _ _ _ | exact LeO.refl _ | exact LeO.none _ | refine LeO.ite ?_ ?_ | refine LeO.bind ?_ (fun _ => ?_)) | exact ih0 _ _ _ _ _ | exact LeO.none _ | refine LeO.ite ?_ ?_ | refine LeO.bind ?_ (fun _ => ?_)
def spec_l13Shift.T5 : Bool × List (List Nat × List Nat) := (true, [([], []), ([], []), ([], []), ([1, 2], [1, 2]), ([3], [3]), ([4], [4]), ([], []), ([], []), ([6, 7], [6, 7]), ([8], [8]), ([9], [9]), ([], []), ([10, 11], [10, 11]), ([5, 12], [5, 12]), ([13], [13]), ([0, 14], [0, 14]), ([15, 15, 0, 1, 2, 3, 4, 5, 6, 7, 8, 9, 10, 11, 12, 13, 14, 15], [0, 15])])
def spec_l13Shift.B5 : List Nat := [0, 0, 0, 6, 14, 30, 0, 0, 192, 448, 960, 0, 4032, 8190, 16382, 32767, 65535]
theorem spec_l13Shift.tab5 : rtab .any (opsOf Try.f92 5) = spec_l13Shift.T5 := by kernel_rfl
theorem spec_l13Shift.bits5 : waitsOk spec_l13Shift.T5.2 spec_l13Shift.B5 = true := by kernel_rfl
set_option maxHeartbeats 8000000 in
set_option maxRecDepth 100000 in
theorem spec_l13Shift.calls (k : Nat) (A0 : Option Addr) (c0 : Nat) (l0 : List (S80)) (a1 : Int) (a2 : Int) (a3 : Int) (r : List (S80)) (w : World) (hr0 : Kd.C k80 w A0 l0.length l0) (hc0 : l0.length ≤ c0) (h : spec_l13Shift.f k l0 a1 a2 a3 = some r) :
  Calls Try.prog 92 #[.slice A0 l0.length c0, .int .i64 a1, .int .i64 a2, .int .i64 a3] w fun e w' => ∃ v0_ : Value, e = .returned (v0_) ∧ Kd.R k80 80 w' w.heap.size (fun _ => True) v0_ r ∧ Below w.heap.size w w' := by
 have hu80 := Try.underlying80
 have HR0 := Aside0.mk hr0
 have HC0 := Aside0.mk hc0
 clear hr0 hc0
 have HB := Aside0.mk (Below.refl w.heap.size w)
 have H : (spec_l13Shift.l0 k l0 a2 a3 (([] : List (S80))) a1) = some r := h
 clear h
 obtain ⟨y175, hy175⟩ : ∃ y_ : List (S80), y_ = (([] : List (S80))) := ⟨_, rfl⟩
 replace H : (spec_l13Shift.l0 k l0 a2 a3 y175 a1) = some r := by first | (rw [hy175]; with_reducible exact H) | (have H2_ := (Option.bind_some _ _).symm.trans H; rw [hy175]; with_reducible exact H2_) | (have H2_ := (Option.bind_some _ _).symm.trans H; with_reducible exact H2_) | with_reducible exact H | (rw [hy175]; exact H) | exact H
 have Ny175 := Aside0.mk hy175
 clear hy175
 have H' := Aside0.mk H
 clear H
 go_enter Try.func92, Try.ntmps92
 go_wp2_with (first | ((with_reducible refine gate_dst (N := 11) rfl ?_); refine Kd.R_lit k80 _ 80 ?hg (N := 11) ?hd (xs := ([] : List (S80))) (inner := []) (ok := fun _ => True) (okp := fun _ => True) ?hr ?hp (fun _ hk => hk) trivial (Below.refl _ _) (Nat.le_refl _) (by simp) ?_; (case hd => rfl); (case hg => rfl); (case hr => exact z12_); (case hp => exact z83_); intro v176 w5 ho6 hb hg_ hnew_; clear hg_ hnew_; (first | rw [← Ny175.out] at ho6 | (simp only [Int.reduceToNat] at ho6; rw [← Ny175.out] at ho6)); have HO177 := Aside0.mk (Kd.R_lower ho6 (below_size z0_)); replace HB := Aside0.mk (below_step z0_ hb); clear hb ho6))
 go_loopg [9, 10] k (fun kq v9 v10 w' => ∃ (x9_1 : List (S80)) (x10_1 : Int), v10 = .int .i64 x10_1 ∧ Aside0 (spec_l13Shift.l0 kq l0 a2 a3 x9_1 x10_1 = some r) ∧ Aside0 (kq ≤ k) ∧ Aside0 (Kd.R k80 80 w' w.heap.size (fun _ => True) v9 x9_1) ∧ Aside0 (Below w.heap.size w w'))
 case atStart => exact ⟨(y175), (a1), z7_, H', ⟨Nat.le_refl _⟩, ⟨by (with_reducible repeat (first | apply Kd.R_alloc | apply Kd.R_drewN | apply Kd.R_drew)); exact HO177.out⟩, ⟨z0_⟩⟩
 case round =>
  clear H'
  try clear p2
  obtain ⟨x9_1, x10_1, rfl, HA, HK1, HO_9, HB⟩ := hrel
  cases gk with
  | zero => exact absurd HA.out (by simp [spec_l13Shift.l0])
  | succ k1 =>
   have H := HA.out
   clear HA
   simp only [spec_l13Shift.l0] at H
   by_cases c7 : x10_1 < a2
   ·rw [if_pos c7] at H
    have c7b0 : decide (x10_1 < a2) = true := decide_eq_true c7
    clear c7
    obtain ⟨c8b0, H⟩ := ifd_ H
    obtain ⟨c9b0, H⟩ := ifd_ H
    obtain ⟨c10, H⟩ := ifs_ H
    have LMc10 := Aside0.mk c10
    clear c10
    obtain ⟨y180, hy180⟩ : ∃ y_ : List (S80), y_ = (x9_1 ++ [(⟨(rd_T80 l0 x10_1).f0, wrap64 (((rd_T80 l0 x10_1).f1) + a3)⟩ : S80)]) := ⟨_, rfl⟩
    replace H : (spec_l13Shift.l0 k1 l0 a2 a3 y180 (wrap64 (x10_1 + 1))) = some r := by first | (rw [hy180]; with_reducible exact H) | (have H2_ := (Option.bind_some _ _).symm.trans H; rw [hy180]; with_reducible exact H2_) | (have H2_ := (Option.bind_some _ _).symm.trans H; with_reducible exact H2_) | with_reducible exact H | (rw [hy180]; exact H) | exact H
    have Ny180 := Aside0.mk hy180
    clear hy180
    have H' := Aside0.mk H
    clear H
    try go_wp2
    have n0_ := Aside0.mk (Kd.R_drew HO_9.out)
    have n1_ := Aside0.mk (below_drew1 HB.out)
    clear HO_9
    clear HB
    have HO_9 := n0_
    have HB := n1_
    clear n0_ n1_
    obtain ⟨p178, q178, ad178, e178, hw178_0, hw178_1, hx178_0, hx178_1⟩ := atw80_ HR0 HB x10_1
    cases e178
    obtain ⟨p179, q179, ad179, e179, hw179_0, hw179_1, hx179_0, hx179_1⟩ := atw80_ HR0 HB x10_1
    obtain rfl : ad178 = ad179 := (by injection e179)
    refine start_ (n := 17) (S := fun w' => w'.cell? (ad178.add ((x10_1).toNat * 2)) = some (.int .i64 ((rd_T80 l0 x10_1).f0)) ∧ w'.cell? ⟨(ad178.add ((x10_1).toNat * 2)).block, (ad178.add ((x10_1).toNat * 2)).off + 1, none⟩ = some (.int .i64 ((rd_T80 l0 x10_1).f1))) (ds := []) (fl_ 17 0) (by kernel_rfl) rfl (fl_zero _) ⟨((HB.out.cell (World.block_lt_of_cell? w _ hw178_0)).trans hw178_0), ((HB.out.cell (World.block_lt_of_cell? w _ hw178_1)).trans hw178_1)⟩ (fun hHeld => ?_); refine with_tabW spec_l13Shift.tab5 spec_l13Shift.bits5 (fun HT_ HW_ => ?_)
    generalize wr.drew = w11 at HO_9 HB hx178_0 hx178_1 hx179_0 hx179_1 hHeld ⊢
    iterate 5 refine zp_ HT_ rfl rfl (by kernel_rfl) (fun _ _ _ h => h) (by rfl) ?_
    refine zpg_ (i := 6) (ra_ [5, 1, 1, 10]) HT_ rfl rfl (by kernel_rfl) (fun _ _ _ h => h) (by rfl) ?_
    refine zpg_ (i := 7) (ra_ [5, 1, 2, 9]) HT_ rfl rfl (by kernel_rfl) (fun _ _ _ h => h) (by rfl) ?_
    refine zpg_ (i := 8) (ra_ [5, 1, 3, 8]) HT_ rfl rfl (by kernel_rfl) (fun _ _ _ h => h) (by rfl) ?_
    refine zpg_ (i := 9) (ra_ [5, 1, 4, 7]) HT_ rfl rfl (by kernel_rfl) (fun _ _ _ h => h) (by rfl) ?_
    refine zpg_ (i := 11) (ra_ [5, 1, 4, 1, 1, 5]) HT_ rfl rfl (by kernel_rfl) (fun _ _ _ h => h) (by rfl) ?_
    refine ztg_ (i := 5) (ra_ [10, 1, 1, 5]) HT_ HW_ rfl rfl (by kernel_rfl) (fun _ _ _ h => h) (by rfl) hHeld ?_ z75_
    refine ztg_ (i := 10) (fl_ 17 12) HT_ HW_ rfl rfl (by kernel_rfl) (fun _ _ _ h => h) (by rfl) hHeld ?_ z75_
    iterate 2 refine zp_ HT_ rfl rfl (by kernel_rfl) (fun _ _ _ h => h) (by rfl) ?_
    refine one_ (i := 14) (N := some 32) (fl_ 17 15) rfl rfl (one_of HT_.out (by kernel_rfl)) (by decide) (fun K hK => ?_)
    refine value_ (w1 := ?_) (v := ?_) (by rfl) rfl ?_ ?_
    rotate_left 2
    ·go_simp
     constructor
     ·rfl
     ·rfl
    refine hK.out _ _ ⟨(World.cell?_alloc_lt _ _ _ (World.block_lt_of_cell? _ _ (((HB.out.cell (World.block_lt_of_cell? w _ hw178_0)).trans hw178_0)))).trans (((HB.out.cell (World.block_lt_of_cell? w _ hw178_0)).trans hw178_0)), (World.cell?_alloc_lt _ _ _ (World.block_lt_of_cell? _ _ (((HB.out.cell (World.block_lt_of_cell? w _ hw178_1)).trans hw178_1)))).trans (((HB.out.cell (World.block_lt_of_cell? w _ hw178_1)).trans hw178_1))⟩ (fun hHeld => ?_)
    clear hK K
    refine zn_ rfl ?_
    refine one_ (i := 15) (N := some 33) (fl_ 17 16) rfl rfl (one_of HT_.out (by kernel_rfl)) (by decide) (fun K hK => ?_)
    refine Kd.R_append_step k80 (w0 := w) w.heap.size (by rfl) (.tmp 18) (.tmp 32) 29 80 (.agg #[(.int .i64 0), (.int .i64 0)]) 16 rfl Try.underlying29 info80 rfl (by decide) (by omega) u9 x9_1 (⟨(rd_T80 l0 x10_1).f0, wrap64 (((rd_T80 l0 x10_1).f1) + a3)⟩ : S80) [.int .i64 ((rd_T80 l0 x10_1).f0), .int .i64 (wrap64 (((rd_T80 l0 x10_1).f1) + a3))] (fun _ => True) (fun _ => False) rfl rfl ?aP (fun _ hk => hk.elim) ?aF ?aO ?aB ?aS ?aL ?_
    (case aP => exact k80_mkM _ _ _ (⟨(rd_T80 l0 x10_1).f0, wrap64 (((rd_T80 l0 x10_1).f1) + a3)⟩ : S80))
    (case aB => exact z23_)
    (case aF => exact z87_)
    (case aO => exact z59_)
    (case aS => exact z25_)
    (case aL => have := LMc10.out; omega)
    intro v181 w12 ho hb hg hat
    rw [← Ny180.out] at ho
    have n0_ := Aside0.mk (hb)
    have n1_ := Aside0.mk (ho)
    clear HB
    clear HO_9
    have HB := n0_
    have HO182 := n1_
    clear n0_ n1_
    clear ho hb hg hat
    refine hK.out _ _ ⟨((HB.out.cell (World.block_lt_of_cell? w _ hw178_0)).trans hw178_0), ((HB.out.cell (World.block_lt_of_cell? w _ hw178_1)).trans hw178_1)⟩ (fun hHeld => ?_)
    clear hK K
    refine zn_ rfl ?_
    refine zp_ HT_ rfl rfl (by kernel_rfl) (fun _ _ _ h => h) (by rfl) ?_
    refine done_ (done_of HT_.out (by kernel_rfl)) ?_
    try go_wp2
    go_roundg k1
    case measure => have := HK1.out; omega
    case rel => exact ⟨(y180), (wrap64 (x10_1 + 1)), z7_, H', ⟨z60_⟩, ⟨by (with_reducible repeat (first | apply Kd.R_alloc | apply Kd.R_drewN | apply Kd.R_drew)); exact HO182.out⟩, ⟨z0_⟩⟩
   ·rw [if_neg c7] at H
    have c7b0 : decide (x10_1 < a2) = false := decide_eq_false c7
    clear c7
    obtain rfl := Option.some.inj H
    go_wp2
    go_ret
    exact ⟨_, z4_, z44_, z0_⟩

/-! ### spec_ApplyOp: function 47 -/
def spec_ApplyOp.f (k : Nat) (l0 : List (S80)) (a1_0 : Int) (l1_1 : List Int) (a1_2 : Int) (a1_3 : Int) (a1_4 : Int) : Option ((List (S80)) × Int) := (spec_TreeOk.f k l0).bind fun t184 => (if t184 = true then ((spec_NodeAt.f k l0 l1_1).bind fun t188 => ((spec_l3Copy.f l0).bind fun t189 => ((spec_l13Code.f k l0 a1_0 l1_1 a1_2 a1_3 a1_4 t188).bind fun bt192 => (if bt192.1 = 0 then (if a1_0 = 1 then (if 0 ≤ t188 then (if t188 < (t189.length : Int) then (some ((t189.set (t188 : Int).toNat (⟨a1_2, (rd_T80 t189 t188).f1⟩ : S80)), bt192.1)) else (none)) else (none)) else (if a1_0 = 2 then ((spec_EndOf.f k l0 t188).bind fun t196 => ((spec_l13Shift.f k l0 0 t188 0).bind fun t197 => ((spec_l13Shift.f k l0 (wrap64 (t188 + 1)) t196 (-1)).bind fun t200 => (if t197.length + t200.length < 8796093022208 then ((some (t197 ++ t200 : List (S80))).bind fun y203 => ((spec_l13Shift.f k l0 t196 (l0.length : Int) 0).bind fun t206 => (if y203.length + t206.length < 8796093022208 then (some ((y203 ++ t206), bt192.1)) else (none)))) else (none))))) else ((spec_l13Shift.f k l0 0 bt192.2.1 0).bind fun t212 => (if 0 ≤ t188 then (if t188 < (l0.length : Int) then ((some (([(⟨a1_2, wrap64 (((rd_T80 l0 t188).f1) + 1)⟩ : S80)] : List (S80)) : List (S80))).bind fun y216 => (if t212.length + y216.length < 8796093022208 then ((some (t212 ++ y216 : List (S80))).bind fun y219 => ((spec_l13Shift.f k l0 bt192.2.1 bt192.2.2 1).bind fun t222 => (if y219.length + t222.length < 8796093022208 then ((some (y219 ++ t222 : List (S80))).bind fun y225 => ((spec_l13Shift.f k l0 bt192.2.2 (l0.length : Int) 0).bind fun t228 => (if y225.length + t228.length < 8796093022208 then (some ((y225 ++ t228), bt192.1)) else (none)))) else (none)))) else (none))) else (none)) else (none))))) else (some (t189, bt192.1)))))) else (some ((([] : List (S80))), 2)))
theorem spec_ApplyOp.mono : ∀ a0 a1 a2 a3 a4 a5 k, LeO (spec_ApplyOp.f k a0 a1 a2 a3 a4 a5) (spec_ApplyOp.f (k + 1) a0 a1 a2 a3 a4 a5) := by
 intro a0 a1 a2 a3 a4 a5 k
 unfold spec_ApplyOp.f
 repeat' first | (with_reducible first | exact spec_EndOf.mono _ _ _ | exact spec_NodeAt.mono _ _ _ | exact spec_TreeOk.mono _ _ | exact spec_l13Code.mono _ _ _ _ _ _ _ _ | exact spec_l13Shift.mono _ _ _ _ _ | exact LeO.refl _ | exact LeO.none _ | refine LeO.ite ?_ ?_ | refine LeO.bind ?_ (fun _ => ?_)) | exact spec_EndOf.mono _ _ _ | exact spec_NodeAt.mono _ _ _ | exact spec_TreeOk.mono _ _ | exact spec_l13Code.mono _ _ _ _ _ _ _ _ | exact spec_l13Shift.mono _ _ _ _ _ | exact LeO.none _ | refine LeO.ite ?_ ?_ | refine LeO.bind ?_ (fun _ => ?_)
def spec_ApplyOp.T16 : Bool × List (List Nat × List Nat) := (true, [([], []), ([], []), ([0, 1], [0, 1]), ([], []), ([3], [3]), ([], []), ([], []), ([5, 6], [5, 6]), ([7], [7]), ([8], [8]), ([9], [9]), ([4, 10], [4, 10]), ([11], [11]), ([2, 12, 2], [2, 12]), ([13, 13, 0, 1, 2, 3, 4, 5, 6, 7, 8, 9, 10, 11, 12, 13], [13])])
def spec_ApplyOp.B16 : List Nat := [0, 0, 3, 0, 8, 0, 0, 96, 224, 480, 992, 2040, 4088, 8191, 16383]
theorem spec_ApplyOp.tab16 : rtab .any (opsOf Try.f47 16) = spec_ApplyOp.T16 := by kernel_rfl
theorem spec_ApplyOp.bits16 : waitsOk spec_ApplyOp.T16.2 spec_ApplyOp.B16 = true := by kernel_rfl
set_option maxHeartbeats 8000000 in
set_option maxRecDepth 100000 in
theorem spec_ApplyOp.calls (k : Nat) (A0 : Option Addr) (c0 : Nat) (l0 : List (S80)) (a1_0 : Int) (A1_1 : Option Addr) (c1_1 : Nat) (l1_1 : List Int) (a1_2 : Int) (a1_3 : Int) (a1_4 : Int) (r1 : List (S80)) (r2 : Int) (w : World) (hr0 : Kd.C k80 w A0 l0.length l0) (hc0 : l0.length ≤ c0) (hr1_1 : Kd.C (Kd.int .i64) w A1_1 l1_1.length l1_1) (hc1_1 : l1_1.length ≤ c1_1) (h : spec_ApplyOp.f k l0 a1_0 l1_1 a1_2 a1_3 a1_4 = some (r1, r2)) :
  Calls Try.prog 47 #[.slice A0 l0.length c0, .agg #[.int .i64 a1_0, .slice A1_1 l1_1.length c1_1, .int .i64 a1_2, .int .i64 a1_3, .int .i64 a1_4]] w fun e w' => ∃ v0_ : Value, e = .returned (.tuple #[v0_, .int .i64 r2]) ∧ Kd.R k80 80 w' w.heap.size (fun _ => True) v0_ r1 ∧ Below w.heap.size w w' := by
 have hu78 := Try.underlying78
 have hu80 := Try.underlying80
 have HR0 := Aside0.mk hr0
 have HC0 := Aside0.mk hc0
 clear hr0 hc0
 have HR1_1 := Aside0.mk hr1_1
 have HC1_1 := Aside0.mk hc1_1
 clear hr1_1 hc1_1
 have HB := Aside0.mk (Below.refl w.heap.size w)
 have H : ((spec_TreeOk.f k l0).bind fun t184 => (if t184 = true then ((spec_NodeAt.f k l0 l1_1).bind fun t188 => ((spec_l3Copy.f l0).bind fun t189 => ((spec_l13Code.f k l0 a1_0 l1_1 a1_2 a1_3 a1_4 t188).bind fun bt192 => (if bt192.1 = 0 then (if a1_0 = 1 then (if 0 ≤ t188 then (if t188 < (t189.length : Int) then (some ((t189.set (t188 : Int).toNat (⟨a1_2, (rd_T80 t189 t188).f1⟩ : S80)), bt192.1)) else (none)) else (none)) else (if a1_0 = 2 then ((spec_EndOf.f k l0 t188).bind fun t196 => ((spec_l13Shift.f k l0 0 t188 0).bind fun t197 => ((spec_l13Shift.f k l0 (wrap64 (t188 + 1)) t196 (-1)).bind fun t200 => (if t197.length + t200.length < 8796093022208 then ((some (t197 ++ t200 : List (S80))).bind fun y203 => ((spec_l13Shift.f k l0 t196 (l0.length : Int) 0).bind fun t206 => (if y203.length + t206.length < 8796093022208 then (some ((y203 ++ t206), bt192.1)) else (none)))) else (none))))) else ((spec_l13Shift.f k l0 0 bt192.2.1 0).bind fun t212 => (if 0 ≤ t188 then (if t188 < (l0.length : Int) then ((some (([(⟨a1_2, wrap64 (((rd_T80 l0 t188).f1) + 1)⟩ : S80)] : List (S80)) : List (S80))).bind fun y216 => (if t212.length + y216.length < 8796093022208 then ((some (t212 ++ y216 : List (S80))).bind fun y219 => ((spec_l13Shift.f k l0 bt192.2.1 bt192.2.2 1).bind fun t222 => (if y219.length + t222.length < 8796093022208 then ((some (y219 ++ t222 : List (S80))).bind fun y225 => ((spec_l13Shift.f k l0 bt192.2.2 (l0.length : Int) 0).bind fun t228 => (if y225.length + t228.length < 8796093022208 then (some ((y225 ++ t228), bt192.1)) else (none)))) else (none)))) else (none))) else (none)) else (none))))) else (some (t189, bt192.1)))))) else (some ((([] : List (S80))), 2)))) = some (r1, r2) := h
 clear h
 obtain ⟨t184, A3, H⟩ := bnd_ H
 by_cases c4 : t184 = true
 ·subst c4
  replace H := ift_ H
  obtain ⟨t188, A5, H⟩ := bnd_ H
  obtain ⟨t189, A6, H⟩ := bnd_ H
  replace H := Option.bind_eq_some_iff.mp H
  obtain ⟨⟨t192, t193, t194⟩, A70, H⟩ := H
  replace H : (if t192 = 0 then (if a1_0 = 1 then (if 0 ≤ t188 then (if t188 < (t189.length : Int) then (some ((t189.set (t188 : Int).toNat (⟨a1_2, (rd_T80 t189 t188).f1⟩ : S80)), t192)) else (none)) else (none)) else (if a1_0 = 2 then ((spec_EndOf.f k l0 t188).bind fun t196 => ((spec_l13Shift.f k l0 0 t188 0).bind fun t197 => ((spec_l13Shift.f k l0 (wrap64 (t188 + 1)) t196 (-1)).bind fun t200 => (if t197.length + t200.length < 8796093022208 then ((some (t197 ++ t200 : List (S80))).bind fun y203 => ((spec_l13Shift.f k l0 t196 (l0.length : Int) 0).bind fun t206 => (if y203.length + t206.length < 8796093022208 then (some ((y203 ++ t206), t192)) else (none)))) else (none))))) else ((spec_l13Shift.f k l0 0 t193 0).bind fun t212 => (if 0 ≤ t188 then (if t188 < (l0.length : Int) then ((some (([(⟨a1_2, wrap64 (((rd_T80 l0 t188).f1) + 1)⟩ : S80)] : List (S80)) : List (S80))).bind fun y216 => (if t212.length + y216.length < 8796093022208 then ((some (t212 ++ y216 : List (S80))).bind fun y219 => ((spec_l13Shift.f k l0 t193 t194 1).bind fun t222 => (if y219.length + t222.length < 8796093022208 then ((some (y219 ++ t222 : List (S80))).bind fun y225 => ((spec_l13Shift.f k l0 t194 (l0.length : Int) 0).bind fun t228 => (if y225.length + t228.length < 8796093022208 then (some ((y225 ++ t228), t192)) else (none)))) else (none)))) else (none))) else (none)) else (none))))) else (some (t189, t192))) = some (r1, r2) := H
  have A7 := Aside0.mk A70
  clear A70
  by_cases c8 : t192 = 0
  ·rw [if_pos c8] at H
   have c8b0 : (t192 == 0) = true := beq_iff_eq.mpr c8
   have c8b1 : (t192 != 0) = false := bne_eq_false_iff_eq.mpr c8
   clear c8
   by_cases c9 : a1_0 = 1
   ·rw [if_pos c9] at H
    have c9b0 : (a1_0 == 1) = true := beq_iff_eq.mpr c9
    have c9b1 : (a1_0 != 1) = false := bne_eq_false_iff_eq.mpr c9
    clear c9
    obtain ⟨c10b0, H⟩ := ifd_ H
    obtain ⟨c11b0, H⟩ := ifd_ H
    obtain ⟨y195, hy195⟩ : ∃ y_ : List (S80), y_ = (t189.set (t188 : Int).toNat (⟨a1_2, (rd_T80 t189 t188).f1⟩ : S80)) := ⟨_, rfl⟩
    replace H : (some (y195, t192)) = some (r1, r2) := by first | (rw [hy195]; with_reducible exact H) | (have H2_ := (Option.bind_some _ _).symm.trans H; rw [hy195]; with_reducible exact H2_) | (have H2_ := (Option.bind_some _ _).symm.trans H; with_reducible exact H2_) | with_reducible exact H | (rw [hy195]; exact H) | exact H
    have Ny195 := Aside0.mk hy195
    clear hy195
    simp only [Option.some.injEq, Prod.mk.injEq] at H
    obtain ⟨rfl, rfl⟩ := H
    go_enter Try.func47, Try.ntmps47
    go_wp2_with (first | ((with_reducible refine gate_dst (N := 3) rfl ?_); refine box_event ?hg (N := 3) ?hd (cs := #[.int .i64 a1_0, .slice A1_1 l1_1.length c1_1, .int .i64 a1_2, .int .i64 a1_3, .int .i64 a1_4]) (t := 78) ?hr ?_; (case hd => rfl); (case hg => rfl); (case hr => exact z12_); intro gb183 hg w13 hbox hb; have BK183 := Aside0.mk (hbox); have GW183 := Aside0.mk ((by rw [hg]; exact (below_size z0_) : w.heap.size ≤ gb183)); have GE183 := Aside0.mk ((by rw [hg]; exact (below_size z0_) : w.heap.size ≤ gb183)); replace HB := Aside0.mk (below_step z0_ hb); clear hb hbox hg) | ((with_reducible refine gate_callee (f := 38) rfl ?_); refine goesL_ (some 13) rfl rfl Try.func38 (by kernel_rfl) rfl #[.slice A0 l0.length c0] rfl z1_ ?_; (with_reducible refine (spec_TreeOk.calls k _ _ l0 true _ ?side1 ?side2 A3.out).mono ?_); (case side1 => exact z2_); (case side2 => exact HC0.out); rintro e w14 ⟨rfl, hb⟩; refine ⟨_, rfl, ?_⟩; replace BK183 := Aside0.mk (blk_below (g := gb183) (o := .cells #[.int .i64 a1_0, .slice A1_1 l1_1.length c1_1, .int .i64 a1_2, .int .i64 a1_3, .int .i64 a1_4] 78 (0, 0)) z9_ hb); replace HB := Aside0.mk (below_step z3_ hb); (try clear hb); have hcz15_0 : w14.cell? ⟨gb183, 0, none⟩ = some (.int .i64 a1_0) := (blk_cell BK183.out 0).trans rfl; have hcz15_1 : w14.cell? ⟨gb183, 1, none⟩ = some (.slice A1_1 l1_1.length c1_1) := (blk_cell BK183.out 1).trans rfl; have hcz15_2 : w14.cell? ⟨gb183, 2, none⟩ = some (.int .i64 a1_2) := (blk_cell BK183.out 2).trans rfl; have hcz15_3 : w14.cell? ⟨gb183, 3, none⟩ = some (.int .i64 a1_3) := (blk_cell BK183.out 3).trans rfl; have hcz15_4 : w14.cell? ⟨gb183, 4, none⟩ = some (.int .i64 a1_4) := (blk_cell BK183.out 4).trans rfl; have hfz15_0 := blk_frozen BK183.out 0; have hfz15_1 := blk_frozen BK183.out 1; have hfz15_2 := blk_frozen BK183.out 2; have hfz15_3 := blk_frozen BK183.out 3; have hfz15_4 := blk_frozen BK183.out 4) | ((with_reducible refine gate_callee (f := 89) rfl ?_); refine goesL_ (some 19) rfl rfl Try.func89 (by kernel_rfl) rfl #[.slice A0 l0.length c0, .slice A1_1 l1_1.length c1_1] rfl z1_ ?_; (with_reducible refine (spec_NodeAt.calls k _ _ l0 _ _ l1_1 t188 _ ?side1 ?side2 ?side3 ?side4 A5.out).mono ?_); (case side1 => exact z2_); (case side2 => exact HC0.out); (case side3 => exact z14_); (case side4 => exact HC1_1.out); rintro e w16 ⟨rfl, hb⟩; refine ⟨_, rfl, ?_⟩; replace BK183 := Aside0.mk (blk_below (g := gb183) (o := .cells #[.int .i64 a1_0, .slice A1_1 l1_1.length c1_1, .int .i64 a1_2, .int .i64 a1_3, .int .i64 a1_4] 78 (0, 0)) z9_ hb); replace HB := Aside0.mk (below_step z3_ hb); (try clear hb)) | ((with_reducible refine gate_callee (f := 45) rfl ?_); refine goesL_ (some 21) rfl rfl Try.func45 (by kernel_rfl) rfl #[.slice A0 l0.length c0] rfl z1_ ?_; (with_reducible refine (spec_l3Copy.calls _ _ l0 t189 _ ?side1 ?side2 A6.out).mono ?_); (case side1 => exact z2_); (case side2 => exact HC0.out); rintro e w17 ⟨v190, rfl, ho0, hb⟩; refine ⟨_, rfl, ?_⟩; have HO191 := Aside0.mk (Kd.R_lower ho0 (below_size z3_)); replace BK183 := Aside0.mk (blk_below (g := gb183) (o := .cells #[.int .i64 a1_0, .slice A1_1 l1_1.length c1_1, .int .i64 a1_2, .int .i64 a1_3, .int .i64 a1_4] 78 (0, 0)) z9_ hb); replace HB := Aside0.mk (below_step z3_ hb); (try clear hb ho0); have hcz18_0 : w17.cell? ⟨gb183, 0, none⟩ = some (.int .i64 a1_0) := (blk_cell BK183.out 0).trans rfl; have hcz18_1 : w17.cell? ⟨gb183, 1, none⟩ = some (.slice A1_1 l1_1.length c1_1) := (blk_cell BK183.out 1).trans rfl; have hcz18_2 : w17.cell? ⟨gb183, 2, none⟩ = some (.int .i64 a1_2) := (blk_cell BK183.out 2).trans rfl; have hcz18_3 : w17.cell? ⟨gb183, 3, none⟩ = some (.int .i64 a1_3) := (blk_cell BK183.out 3).trans rfl; have hcz18_4 : w17.cell? ⟨gb183, 4, none⟩ = some (.int .i64 a1_4) := (blk_cell BK183.out 4).trans rfl; have hfz18_0 := blk_frozen BK183.out 0; have hfz18_1 := blk_frozen BK183.out 1; have hfz18_2 := blk_frozen BK183.out 2; have hfz18_3 := blk_frozen BK183.out 3; have hfz18_4 := blk_frozen BK183.out 4) | ((with_reducible refine gate_callee (f := 90) rfl ?_); refine goesL_ (some 26) rfl rfl Try.func90 (by kernel_rfl) rfl #[.slice A0 l0.length c0, .agg #[.int .i64 a1_0, .slice A1_1 l1_1.length c1_1, .int .i64 a1_2, .int .i64 a1_3, .int .i64 a1_4], .int .i64 t188] rfl z1_ ?_; (with_reducible refine (spec_l13Code.calls k _ _ l0 a1_0 _ _ l1_1 a1_2 a1_3 a1_4 t188 t192 t193 t194 _ ?side1 ?side2 ?side3 ?side4 A7.out).mono ?_); (case side1 => exact z2_); (case side2 => exact HC0.out); (case side3 => exact z14_); (case side4 => exact HC1_1.out); rintro e w19 ⟨rfl, hb⟩; refine ⟨_, rfl, ?_⟩; replace HO191 := Aside0.mk (Kd.R_below z16_ hb); replace BK183 := Aside0.mk (blk_below (g := gb183) (o := .cells #[.int .i64 a1_0, .slice A1_1 l1_1.length c1_1, .int .i64 a1_2, .int .i64 a1_3, .int .i64 a1_4] 78 (0, 0)) z9_ hb); replace HB := Aside0.mk (below_step z3_ hb); (try clear hb); have hcz20_0 : w19.cell? ⟨gb183, 0, none⟩ = some (.int .i64 a1_0) := (blk_cell BK183.out 0).trans rfl; have hcz20_1 : w19.cell? ⟨gb183, 1, none⟩ = some (.slice A1_1 l1_1.length c1_1) := (blk_cell BK183.out 1).trans rfl; have hcz20_2 : w19.cell? ⟨gb183, 2, none⟩ = some (.int .i64 a1_2) := (blk_cell BK183.out 2).trans rfl; have hcz20_3 : w19.cell? ⟨gb183, 3, none⟩ = some (.int .i64 a1_3) := (blk_cell BK183.out 3).trans rfl; have hcz20_4 : w19.cell? ⟨gb183, 4, none⟩ = some (.int .i64 a1_4) := (blk_cell BK183.out 4).trans rfl; have hfz20_0 := blk_frozen BK183.out 0; have hfz20_1 := blk_frozen BK183.out 1; have hfz20_2 := blk_frozen BK183.out 2; have hfz20_3 := blk_frozen BK183.out 3; have hfz20_4 := blk_frozen BK183.out 4; have p12 : 0 ≤ (t188 : Int) := odt_; have q12 : (t188 : Int) < ((t189.length : Int) : Int) := odt_; obtain ⟨go12, co12, eo12, gb12, gl12, cl12, HG12⟩ := Kd.R_form HO191.out (by omega); (first | cases eo12 | (injection eo12 with ea_ en_ ec_; (first | subst ea_ | (injection ea_ with ea_; subst ea_)); subst ec_; clear en_)); have GB12 := Aside0.mk gb12; have GG12 := Aside0.mk HG12; clear gb12 gl12 HG12; obtain ⟨ce12, hcl12, hM12, hcc12, hfr12⟩ := Kd.R_elem HO191.out z80 (t188 : Int) p12 q12; obtain rfl := k80_openM hM12; have hx12_0 : w19.cell? ⟨go12, (t188 : Int).toNat * 2, none⟩ = some (.int .i64 ((rd_T80 t189 t188).f0)) := hcc12 0 _ rfl; have hx12_1 : w19.cell? ⟨go12, (t188 : Int).toNat * 2 + 1, none⟩ = some (.int .i64 ((rd_T80 t189 t188).f1)) := hcc12 1 _ rfl; have hf12_0 : w19.frozen? ⟨go12, (t188 : Int).toNat * 2, none⟩ = false := hfr12 0; have hf12_1 : w19.frozen? ⟨go12, (t188 : Int).toNat * 2 + 1, none⟩ = false := hfr12 1; clear hcl12 hcc12 hfr12 hM12; replace p12 := eq_true p12; replace q12 := eq_true q12; have HX21 := Aside0.mk (show Kd.R k80 80 w19 w.heap.size (fun _ => True) (.slice (some ⟨go12, 0, none⟩) t189.length co12) t189 from z16_); obtain ⟨ce21, hcl21, hM21, hcc21, hfr21⟩ := Kd.R_elem HX21.out z80 (t188 : Int) (odt_) (by have h_ : (t188 : Int) < ((t189.length : Int) : Int) := odt_; first | exact h_ | (have e_ := (Kd.R_reads' HO191.out).1; omega) | simpa using h_); obtain rfl := k80_openM hM21; have HP21 := Kd.R_seg HX21.out (t188 : Int) (odt_) (by have h_ : (t188 : Int) < ((t189.length : Int) : Int) := odt_; first | exact h_ | (have e_ := (Kd.R_reads' HO191.out).1; omega) | simpa using h_) (seg := [.int .i64 a1_2]) (j := 0) hcl21 hcc21 (show 1 ≤ 2 from by decide) (x' := (⟨a1_2, (rd_T80 t189 t188).f1⟩ : S80)) (k80_mkM _ _ _ (⟨a1_2, (rd_T80 t189 t188).f1⟩ : S80) ) (fun _ hk => hk); have hx21_0 := hcc21 0 _ rfl; (try simp only [show (k80).sz = 2 from rfl, Nat.mul_one, Nat.add_zero] at hx21_0); have hf21_0 := hfr21 0; (try simp only [show (k80).sz = 2 from rfl, Nat.mul_one, Nat.add_zero] at hf21_0); clear hcl21 hcc21 hfr21 hM21) | ((with_reducible refine gate_store (t := 3) (p := 43) rfl ?_); refine store_event (t := 3) (p := 43) (v := ?vo_w22) (w1 := (w19.setCell ⟨go12, (t188 : Int).toNat * 2, none⟩ (.int .i64 a1_2))) ?hg ?ho ?hn ?hr ?_; (case ho => rfl); (case hg => rfl); (case hn => rfl); (case hr => exact z12_); intro w22 hw; have hg : w19.grownBy w22 (some go12) := (by rw [hw]; exact HP21.2); have hp_ : Kd.R k80 80 w22 w.heap.size (fun _ => True) (.slice (some ⟨go12, 0, none⟩) t189.length co12) y195 := (by rw [hw, Ny195.out]; exact HP21.1); clear HP21; replace BK183 := Aside0.mk (blk_grown (g := gb183) (o := .cells #[.int .i64 a1_0, .slice A1_1 l1_1.length c1_1, .int .i64 a1_2, .int .i64 a1_3, .int .i64 a1_4] 78 (0, 0)) z9_ hg (Kd.R_ne HO191.out BK183.out (by decide))); replace HO191 := Aside0.mk (hp_); replace HB := Aside0.mk ((by rw [hw]; exact below_set (HB.out) GB12.out : Below w.heap.size w w22)); clear hg hw hp_))
    go_ret2
    exact ⟨_, z4_, z16_, z3_⟩
   ·rw [if_neg c9] at H
    have c9b0 : (a1_0 == 1) = false := beq_eq_false_iff_ne.mpr c9
    have c9b1 : (a1_0 != 1) = true := bne_iff_ne.mpr c9
    by_cases c23 : a1_0 = 2
    ·rw [if_pos c23] at H
     have c23b0 : (a1_0 == 2) = true := beq_iff_eq.mpr c23
     have c23b1 : (a1_0 != 2) = false := bne_eq_false_iff_eq.mpr c23
     clear c23
     obtain ⟨t196, A24, H⟩ := bnd_ H
     obtain ⟨t197, A25, H⟩ := bnd_ H
     obtain ⟨t200, A26, H⟩ := bnd_ H
     obtain ⟨c27, H⟩ := ifs_ H
     have LMc27 := Aside0.mk c27
     clear c27
     obtain ⟨y203, hy203⟩ : ∃ y_ : List (S80), y_ = (t197 ++ t200) := ⟨_, rfl⟩
     replace H : ((spec_l13Shift.f k l0 t196 (l0.length : Int) 0).bind fun t206 => (if y203.length + t206.length < 8796093022208 then (some ((y203 ++ t206), t192)) else (none))) = some (r1, r2) := by first | (rw [hy203]; with_reducible exact H) | (have H2_ := (Option.bind_some _ _).symm.trans H; rw [hy203]; with_reducible exact H2_) | (have H2_ := (Option.bind_some _ _).symm.trans H; with_reducible exact H2_) | with_reducible exact H | (rw [hy203]; exact H) | exact H
     have Ny203 := Aside0.mk hy203
     clear hy203
     obtain ⟨t206, A28, H⟩ := bnd_ H
     obtain ⟨c29, H⟩ := ifs_ H
     have LMc29 := Aside0.mk c29
     clear c29
     obtain ⟨y209, hy209⟩ : ∃ y_ : List (S80), y_ = (y203 ++ t206) := ⟨_, rfl⟩
     replace H : (some (y209, t192)) = some (r1, r2) := by first | (rw [hy209]; with_reducible exact H) | (have H2_ := (Option.bind_some _ _).symm.trans H; rw [hy209]; with_reducible exact H2_) | (have H2_ := (Option.bind_some _ _).symm.trans H; with_reducible exact H2_) | with_reducible exact H | (rw [hy209]; exact H) | exact H
     have Ny209 := Aside0.mk hy209
     clear hy209
     simp only [Option.some.injEq, Prod.mk.injEq] at H
     obtain ⟨rfl, rfl⟩ := H
     go_enter Try.func47, Try.ntmps47
     go_wp2_with (first | ((with_reducible refine gate_dst (N := 3) rfl ?_); refine box_event ?hg (N := 3) ?hd (cs := #[.int .i64 a1_0, .slice A1_1 l1_1.length c1_1, .int .i64 a1_2, .int .i64 a1_3, .int .i64 a1_4]) (t := 78) ?hr ?_; (case hd => rfl); (case hg => rfl); (case hr => exact z12_); intro gb183 hg w30 hbox hb; have BK183 := Aside0.mk (hbox); have GW183 := Aside0.mk ((by rw [hg]; exact (below_size z0_) : w.heap.size ≤ gb183)); have GE183 := Aside0.mk ((by rw [hg]; exact (below_size z0_) : w.heap.size ≤ gb183)); replace HB := Aside0.mk (below_step z0_ hb); clear hb hbox hg) | ((with_reducible refine gate_callee (f := 38) rfl ?_); refine goesL_ (some 13) rfl rfl Try.func38 (by kernel_rfl) rfl #[.slice A0 l0.length c0] rfl z1_ ?_; (with_reducible refine (spec_TreeOk.calls k _ _ l0 true _ ?side1 ?side2 A3.out).mono ?_); (case side1 => exact z2_); (case side2 => exact HC0.out); rintro e w31 ⟨rfl, hb⟩; refine ⟨_, rfl, ?_⟩; replace BK183 := Aside0.mk (blk_below (g := gb183) (o := .cells #[.int .i64 a1_0, .slice A1_1 l1_1.length c1_1, .int .i64 a1_2, .int .i64 a1_3, .int .i64 a1_4] 78 (0, 0)) z9_ hb); replace HB := Aside0.mk (below_step z3_ hb); (try clear hb); have hcz32_0 : w31.cell? ⟨gb183, 0, none⟩ = some (.int .i64 a1_0) := (blk_cell BK183.out 0).trans rfl; have hcz32_1 : w31.cell? ⟨gb183, 1, none⟩ = some (.slice A1_1 l1_1.length c1_1) := (blk_cell BK183.out 1).trans rfl; have hcz32_2 : w31.cell? ⟨gb183, 2, none⟩ = some (.int .i64 a1_2) := (blk_cell BK183.out 2).trans rfl; have hcz32_3 : w31.cell? ⟨gb183, 3, none⟩ = some (.int .i64 a1_3) := (blk_cell BK183.out 3).trans rfl; have hcz32_4 : w31.cell? ⟨gb183, 4, none⟩ = some (.int .i64 a1_4) := (blk_cell BK183.out 4).trans rfl; have hfz32_0 := blk_frozen BK183.out 0; have hfz32_1 := blk_frozen BK183.out 1; have hfz32_2 := blk_frozen BK183.out 2; have hfz32_3 := blk_frozen BK183.out 3; have hfz32_4 := blk_frozen BK183.out 4) | ((with_reducible refine gate_callee (f := 89) rfl ?_); refine goesL_ (some 19) rfl rfl Try.func89 (by kernel_rfl) rfl #[.slice A0 l0.length c0, .slice A1_1 l1_1.length c1_1] rfl z1_ ?_; (with_reducible refine (spec_NodeAt.calls k _ _ l0 _ _ l1_1 t188 _ ?side1 ?side2 ?side3 ?side4 A5.out).mono ?_); (case side1 => exact z2_); (case side2 => exact HC0.out); (case side3 => exact z14_); (case side4 => exact HC1_1.out); rintro e w33 ⟨rfl, hb⟩; refine ⟨_, rfl, ?_⟩; replace BK183 := Aside0.mk (blk_below (g := gb183) (o := .cells #[.int .i64 a1_0, .slice A1_1 l1_1.length c1_1, .int .i64 a1_2, .int .i64 a1_3, .int .i64 a1_4] 78 (0, 0)) z9_ hb); replace HB := Aside0.mk (below_step z3_ hb); (try clear hb)) | ((with_reducible refine gate_callee (f := 45) rfl ?_); refine goesL_ (some 21) rfl rfl Try.func45 (by kernel_rfl) rfl #[.slice A0 l0.length c0] rfl z1_ ?_; (with_reducible refine (spec_l3Copy.calls _ _ l0 t189 _ ?side1 ?side2 A6.out).mono ?_); (case side1 => exact z2_); (case side2 => exact HC0.out); rintro e w34 ⟨v190, rfl, ho0, hb⟩; refine ⟨_, rfl, ?_⟩; have HO191 := Aside0.mk (Kd.R_lower ho0 (below_size z3_)); replace BK183 := Aside0.mk (blk_below (g := gb183) (o := .cells #[.int .i64 a1_0, .slice A1_1 l1_1.length c1_1, .int .i64 a1_2, .int .i64 a1_3, .int .i64 a1_4] 78 (0, 0)) z9_ hb); replace HB := Aside0.mk (below_step z3_ hb); (try clear hb ho0); have hcz35_0 : w34.cell? ⟨gb183, 0, none⟩ = some (.int .i64 a1_0) := (blk_cell BK183.out 0).trans rfl; have hcz35_1 : w34.cell? ⟨gb183, 1, none⟩ = some (.slice A1_1 l1_1.length c1_1) := (blk_cell BK183.out 1).trans rfl; have hcz35_2 : w34.cell? ⟨gb183, 2, none⟩ = some (.int .i64 a1_2) := (blk_cell BK183.out 2).trans rfl; have hcz35_3 : w34.cell? ⟨gb183, 3, none⟩ = some (.int .i64 a1_3) := (blk_cell BK183.out 3).trans rfl; have hcz35_4 : w34.cell? ⟨gb183, 4, none⟩ = some (.int .i64 a1_4) := (blk_cell BK183.out 4).trans rfl; have hfz35_0 := blk_frozen BK183.out 0; have hfz35_1 := blk_frozen BK183.out 1; have hfz35_2 := blk_frozen BK183.out 2; have hfz35_3 := blk_frozen BK183.out 3; have hfz35_4 := blk_frozen BK183.out 4) | ((with_reducible refine gate_callee (f := 90) rfl ?_); refine goesL_ (some 26) rfl rfl Try.func90 (by kernel_rfl) rfl #[.slice A0 l0.length c0, .agg #[.int .i64 a1_0, .slice A1_1 l1_1.length c1_1, .int .i64 a1_2, .int .i64 a1_3, .int .i64 a1_4], .int .i64 t188] rfl z1_ ?_; (with_reducible refine (spec_l13Code.calls k _ _ l0 a1_0 _ _ l1_1 a1_2 a1_3 a1_4 t188 t192 t193 t194 _ ?side1 ?side2 ?side3 ?side4 A7.out).mono ?_); (case side1 => exact z2_); (case side2 => exact HC0.out); (case side3 => exact z14_); (case side4 => exact HC1_1.out); rintro e w36 ⟨rfl, hb⟩; refine ⟨_, rfl, ?_⟩; replace HO191 := Aside0.mk (Kd.R_below z16_ hb); replace BK183 := Aside0.mk (blk_below (g := gb183) (o := .cells #[.int .i64 a1_0, .slice A1_1 l1_1.length c1_1, .int .i64 a1_2, .int .i64 a1_3, .int .i64 a1_4] 78 (0, 0)) z9_ hb); replace HB := Aside0.mk (below_step z3_ hb); (try clear hb); have hcz37_0 : w36.cell? ⟨gb183, 0, none⟩ = some (.int .i64 a1_0) := (blk_cell BK183.out 0).trans rfl; have hcz37_1 : w36.cell? ⟨gb183, 1, none⟩ = some (.slice A1_1 l1_1.length c1_1) := (blk_cell BK183.out 1).trans rfl; have hcz37_2 : w36.cell? ⟨gb183, 2, none⟩ = some (.int .i64 a1_2) := (blk_cell BK183.out 2).trans rfl; have hcz37_3 : w36.cell? ⟨gb183, 3, none⟩ = some (.int .i64 a1_3) := (blk_cell BK183.out 3).trans rfl; have hcz37_4 : w36.cell? ⟨gb183, 4, none⟩ = some (.int .i64 a1_4) := (blk_cell BK183.out 4).trans rfl; have hfz37_0 := blk_frozen BK183.out 0; have hfz37_1 := blk_frozen BK183.out 1; have hfz37_2 := blk_frozen BK183.out 2; have hfz37_3 := blk_frozen BK183.out 3; have hfz37_4 := blk_frozen BK183.out 4) | ((with_reducible refine gate_callee (f := 91) rfl ?_); refine goesL_ (some 50) rfl rfl Try.func91 (by kernel_rfl) rfl #[.slice A0 l0.length c0, .int .i64 t188] rfl z1_ ?_; (with_reducible refine (spec_EndOf.calls k _ _ l0 t188 t196 _ ?side1 ?side2 A24.out).mono ?_); (case side1 => exact z2_); (case side2 => exact HC0.out); rintro e w38 ⟨rfl, hb⟩; refine ⟨_, rfl, ?_⟩; replace HO191 := Aside0.mk (Kd.R_below z16_ hb); replace BK183 := Aside0.mk (blk_below (g := gb183) (o := .cells #[.int .i64 a1_0, .slice A1_1 l1_1.length c1_1, .int .i64 a1_2, .int .i64 a1_3, .int .i64 a1_4] 78 (0, 0)) z9_ hb); replace HB := Aside0.mk (below_step z3_ hb); (try clear hb)) | ((with_reducible refine gate_callee (f := 92) rfl ?_); refine goesL_ (some 53) rfl rfl Try.func92 (by kernel_rfl) rfl #[.slice A0 l0.length c0, .int .i64 0, .int .i64 t188, .int .i64 0] rfl z1_ ?_; (with_reducible refine (spec_l13Shift.calls k _ _ l0 0 t188 0 t197 _ ?side1 ?side2 A25.out).mono ?_); (case side1 => exact z2_); (case side2 => exact HC0.out); rintro e w39 ⟨v198, rfl, ho0, hb⟩; refine ⟨_, rfl, ?_⟩; have HO199 := Aside0.mk (Kd.R_lower (Kd.R_new' ho0 (Kd.R_lt z16_)) (below_size z3_)); replace HO191 := Aside0.mk (Kd.R_elder' z16_ (Kd.R_base ho0) hb); replace BK183 := Aside0.mk (blk_below (g := gb183) (o := .cells #[.int .i64 a1_0, .slice A1_1 l1_1.length c1_1, .int .i64 a1_2, .int .i64 a1_3, .int .i64 a1_4] 78 (0, 0)) z9_ hb); replace HB := Aside0.mk (below_step z3_ hb); (try clear hb ho0)) | ((with_reducible refine gate_callee (f := 92) rfl ?_); refine goesL_ (some 58) rfl rfl Try.func92 (by kernel_rfl) rfl #[.slice A0 l0.length c0, .int .i64 (wrap64 (t188 + 1)), .int .i64 t196, .int .i64 (-1)] rfl z1_ ?_; (with_reducible refine (spec_l13Shift.calls k _ _ l0 (wrap64 (t188 + 1)) t196 (-1) t200 _ ?side1 ?side2 A26.out).mono ?_); (case side1 => exact z2_); (case side2 => exact HC0.out); rintro e w40 ⟨v201, rfl, ho0, hb⟩; refine ⟨_, rfl, ?_⟩; have HO202 := Aside0.mk (Kd.R_lower (Kd.R_new' (Kd.R_new' ho0 (Kd.R_lt z16_)) (Kd.R_lt z129_)) (below_size z3_)); replace HO191 := Aside0.mk (Kd.R_elder' z16_ (Kd.R_base ho0) hb); replace HO199 := Aside0.mk (Kd.R_elder' z129_ (Kd.R_base ho0) hb); replace BK183 := Aside0.mk (blk_below (g := gb183) (o := .cells #[.int .i64 a1_0, .slice A1_1 l1_1.length c1_1, .int .i64 a1_2, .int .i64 a1_3, .int .i64 a1_4] 78 (0, 0)) z9_ hb); replace HB := Aside0.mk (below_step z3_ hb); (try clear hb ho0); obtain ⟨Ao42, co42, eo42⟩ := Kd.R_slice HO202.out; subst eo42) | ((with_reducible refine gate_builtin (b := .append) (xs := #[.tmp 53, .tmp 58]) rfl ?_); at_builtin; refine Kd.R_append_rows k80 (w0 := w) w.heap.size rfl (.tmp 53) (.tmp 58) 29 80 (.agg #[(.int .i64 0), (.int .i64 0)]) 16 rfl Try.underlying29 info80 rfl (by decide) (by omega) v198 t197 t200 _ _ _ (fun k_ => some k_ ≠ (v190 : Value).ownBlock ∧ some k_ ≠ (.slice Ao42 t200.length co42 : Value).ownBlock) (fun _ => False) rfl rfl ?aO ?aR (fun _ _ h => h) (fun _ h => h.elim) ?aF ?aB ?aS ?aL ?_; (case aR => repeat (first | exact (Kd.R_reads' HO202.out).2.2 | (with_reducible refine Kd.C_alloc ?_ _) | (with_reducible refine Kd.C_drewN ?_ _) | (with_reducible refine Kd.C_drew ?_))); (case aB => exact z46_); (case aF => exact (fun k_ hk => ⟨Kd.fresh' (Kd.R_lt z16_) k_ hk, Kd.fresh' (Kd.R_lt z88_) k_ hk⟩)); (case aO => exact (by (with_reducible repeat (first | apply Kd.R_alloc | apply Kd.R_drewN | apply Kd.R_drew)); exact Kd.R_mono HO199.out (fun _ hk => ⟨hk.1.2, hk.2⟩))); (case aS => exact z43_); (case aL => have := LMc27.out; omega); intro v204 w41 ho hb hg hat; rw [← Ny203.out] at ho; replace BK183 := Aside0.mk (blk_grown (g := gb183) (o := .cells #[.int .i64 a1_0, .slice A1_1 l1_1.length c1_1, .int .i64 a1_2, .int .i64 a1_3, .int .i64 a1_4] 78 (0, 0)) z9_ hg (Kd.R_ne HO199.out BK183.out (by decide))); replace HO191 := Aside0.mk (Kd.R_after (ok := (fun k_ => some k_ ≠ (.slice Ao42 t200.length co42 : Value).ownBlock)) z115_ hg hat); replace HO202 := Aside0.mk (Kd.R_after (ok := (fun k_ => some k_ ≠ (v190 : Value).ownBlock)) (by (with_reducible repeat (first | apply Kd.R_alloc | apply Kd.R_drewN | apply Kd.R_drew)); exact Kd.R_mono HO202.out (fun _ hk => ⟨hk.1.2, hk.2⟩)) hg hat); replace HB := Aside0.mk (hb); have HO205 := Aside0.mk (ho); clear HO199; clear ho hb hg hat) | ((with_reducible refine gate_callee (f := 92) rfl ?_); refine goesL_ (some 65) rfl rfl Try.func92 (by kernel_rfl) rfl #[.slice A0 l0.length c0, .int .i64 t196, .int .i64 (l0.length : Int), .int .i64 0] rfl z1_ ?_; (with_reducible refine (spec_l13Shift.calls k _ _ l0 t196 (l0.length : Int) 0 t206 _ ?side1 ?side2 A28.out).mono ?_); (case side1 => exact z2_); (case side2 => exact HC0.out); rintro e w43 ⟨v207, rfl, ho0, hb⟩; refine ⟨_, rfl, ?_⟩; have HO208 := Aside0.mk (Kd.R_lower (Kd.R_new' (Kd.R_new' (Kd.R_new' ho0 (Kd.R_lt z16_)) (Kd.R_lt z88_)) (Kd.R_lt z130_)) (below_size z3_)); replace HO191 := Aside0.mk (Kd.R_elder' z16_ (Kd.R_base ho0) hb); replace HO202 := Aside0.mk (Kd.R_elder' z88_ (Kd.R_base ho0) hb); replace HO205 := Aside0.mk (Kd.R_elder' z130_ (Kd.R_base ho0) hb); replace BK183 := Aside0.mk (blk_below (g := gb183) (o := .cells #[.int .i64 a1_0, .slice A1_1 l1_1.length c1_1, .int .i64 a1_2, .int .i64 a1_3, .int .i64 a1_4] 78 (0, 0)) z9_ hb); replace HB := Aside0.mk (below_step z3_ hb); (try clear hb ho0); obtain ⟨Ao45, co45, eo45⟩ := Kd.R_slice HO208.out; subst eo45) | ((with_reducible refine gate_builtin (b := .append) (xs := #[.tmp 60, .tmp 65]) rfl ?_); at_builtin; refine Kd.R_append_rows k80 (w0 := w) w.heap.size rfl (.tmp 60) (.tmp 65) 29 80 (.agg #[(.int .i64 0), (.int .i64 0)]) 16 rfl Try.underlying29 info80 rfl (by decide) (by omega) v204 y203 t206 _ _ _ (fun k_ => some k_ ≠ (v190 : Value).ownBlock ∧ some k_ ≠ (.slice Ao42 t200.length co42 : Value).ownBlock ∧ some k_ ≠ (.slice Ao45 t206.length co45 : Value).ownBlock) (fun _ => False) rfl rfl ?aO ?aR (fun _ _ h => h) (fun _ h => h.elim) ?aF ?aB ?aS ?aL ?_; (case aR => repeat (first | exact (Kd.R_reads' HO208.out).2.2 | (with_reducible refine Kd.C_alloc ?_ _) | (with_reducible refine Kd.C_drewN ?_ _) | (with_reducible refine Kd.C_drew ?_))); (case aB => exact z46_); (case aF => exact (fun k_ hk => ⟨Kd.fresh' (Kd.R_lt z16_) k_ hk, Kd.fresh' (Kd.R_lt z88_) k_ hk, Kd.fresh' (Kd.R_lt (by (with_reducible repeat (first | apply Kd.R_alloc | apply Kd.R_drewN | apply Kd.R_drew)); exact HO208.out)) k_ hk⟩)); (case aO => exact (by (with_reducible repeat (first | apply Kd.R_alloc | apply Kd.R_drewN | apply Kd.R_drew)); exact Kd.R_mono HO205.out (fun _ hk => ⟨hk.1.1, ⟨hk.1.2, hk.2⟩⟩))); (case aS => exact z43_); (case aL => have := LMc29.out; omega); intro v210 w44 ho hb hg hat; rw [← Ny209.out] at ho; replace BK183 := Aside0.mk (blk_grown (g := gb183) (o := .cells #[.int .i64 a1_0, .slice A1_1 l1_1.length c1_1, .int .i64 a1_2, .int .i64 a1_3, .int .i64 a1_4] 78 (0, 0)) z9_ hg (Kd.R_ne HO205.out BK183.out (by decide))); replace HO191 := Aside0.mk (Kd.R_after (ok := (fun k_ => some k_ ≠ (.slice Ao42 t200.length co42 : Value).ownBlock ∧ some k_ ≠ (.slice Ao45 t206.length co45 : Value).ownBlock)) z114_ hg hat); replace HO202 := Aside0.mk (Kd.R_after (ok := (fun k_ => some k_ ≠ (v190 : Value).ownBlock ∧ some k_ ≠ (.slice Ao45 t206.length co45 : Value).ownBlock)) (by (with_reducible repeat (first | apply Kd.R_alloc | apply Kd.R_drewN | apply Kd.R_drew)); exact Kd.R_mono HO202.out (fun _ hk => ⟨⟨hk.1.1, hk.2⟩, hk.1.2⟩)) hg hat); replace HO208 := Aside0.mk (Kd.R_after (ok := (fun k_ => some k_ ≠ (v190 : Value).ownBlock ∧ some k_ ≠ (.slice Ao42 t200.length co42 : Value).ownBlock)) (by (with_reducible repeat (first | apply Kd.R_alloc | apply Kd.R_drewN | apply Kd.R_drew)); exact Kd.R_mono HO208.out (fun _ hk => ⟨⟨hk.1.1.2, hk.1.2⟩, hk.2⟩)) hg hat); replace HB := Aside0.mk (hb); have HO211 := Aside0.mk (ho); clear HO205; clear ho hb hg hat))
     go_ret2
     exact ⟨_, z4_, by (with_reducible repeat (first | apply Kd.R_alloc | apply Kd.R_drewN | apply Kd.R_drew)); exact Kd.R_mono HO211.out (fun _ hk => trivial), z3_⟩
    ·rw [if_neg c23] at H
     have c23b0 : (a1_0 == 2) = false := beq_eq_false_iff_ne.mpr c23
     have c23b1 : (a1_0 != 2) = true := bne_iff_ne.mpr c23
     obtain ⟨t212, A46, H⟩ := bnd_ H
     obtain ⟨c47b0, H⟩ := ifd_ H
     obtain ⟨c48b0, H⟩ := ifd_ H
     obtain ⟨y216, hy216⟩ : ∃ y_ : List (S80), y_ = (([(⟨a1_2, wrap64 (((rd_T80 l0 t188).f1) + 1)⟩ : S80)] : List (S80))) := ⟨_, rfl⟩
     replace H : (if t212.length + y216.length < 8796093022208 then ((some (t212 ++ y216 : List (S80))).bind fun y219 => ((spec_l13Shift.f k l0 t193 t194 1).bind fun t222 => (if y219.length + t222.length < 8796093022208 then ((some (y219 ++ t222 : List (S80))).bind fun y225 => ((spec_l13Shift.f k l0 t194 (l0.length : Int) 0).bind fun t228 => (if y225.length + t228.length < 8796093022208 then (some ((y225 ++ t228), t192)) else (none)))) else (none)))) else (none)) = some (r1, r2) := by first | (rw [hy216]; with_reducible exact H) | (have H2_ := (Option.bind_some _ _).symm.trans H; rw [hy216]; with_reducible exact H2_) | (have H2_ := (Option.bind_some _ _).symm.trans H; with_reducible exact H2_) | with_reducible exact H | (rw [hy216]; exact H) | exact H
     have Ny216 := Aside0.mk hy216
     clear hy216
     obtain ⟨c49, H⟩ := ifs_ H
     have LMc49 := Aside0.mk c49
     clear c49
     obtain ⟨y219, hy219⟩ : ∃ y_ : List (S80), y_ = (t212 ++ y216) := ⟨_, rfl⟩
     replace H : ((spec_l13Shift.f k l0 t193 t194 1).bind fun t222 => (if y219.length + t222.length < 8796093022208 then ((some (y219 ++ t222 : List (S80))).bind fun y225 => ((spec_l13Shift.f k l0 t194 (l0.length : Int) 0).bind fun t228 => (if y225.length + t228.length < 8796093022208 then (some ((y225 ++ t228), t192)) else (none)))) else (none))) = some (r1, r2) := by first | (rw [hy219]; with_reducible exact H) | (have H2_ := (Option.bind_some _ _).symm.trans H; rw [hy219]; with_reducible exact H2_) | (have H2_ := (Option.bind_some _ _).symm.trans H; with_reducible exact H2_) | with_reducible exact H | (rw [hy219]; exact H) | exact H
     have Ny219 := Aside0.mk hy219
     clear hy219
     obtain ⟨t222, A50, H⟩ := bnd_ H
     obtain ⟨c51, H⟩ := ifs_ H
     have LMc51 := Aside0.mk c51
     clear c51
     obtain ⟨y225, hy225⟩ : ∃ y_ : List (S80), y_ = (y219 ++ t222) := ⟨_, rfl⟩
     replace H : ((spec_l13Shift.f k l0 t194 (l0.length : Int) 0).bind fun t228 => (if y225.length + t228.length < 8796093022208 then (some ((y225 ++ t228), t192)) else (none))) = some (r1, r2) := by first | (rw [hy225]; with_reducible exact H) | (have H2_ := (Option.bind_some _ _).symm.trans H; rw [hy225]; with_reducible exact H2_) | (have H2_ := (Option.bind_some _ _).symm.trans H; with_reducible exact H2_) | with_reducible exact H | (rw [hy225]; exact H) | exact H
     have Ny225 := Aside0.mk hy225
     clear hy225
     obtain ⟨t228, A52, H⟩ := bnd_ H
     obtain ⟨c53, H⟩ := ifs_ H
     have LMc53 := Aside0.mk c53
     clear c53
     obtain ⟨y231, hy231⟩ : ∃ y_ : List (S80), y_ = (y225 ++ t228) := ⟨_, rfl⟩
     replace H : (some (y231, t192)) = some (r1, r2) := by first | (rw [hy231]; with_reducible exact H) | (have H2_ := (Option.bind_some _ _).symm.trans H; rw [hy231]; with_reducible exact H2_) | (have H2_ := (Option.bind_some _ _).symm.trans H; with_reducible exact H2_) | with_reducible exact H | (rw [hy231]; exact H) | exact H
     have Ny231 := Aside0.mk hy231
     clear hy231
     simp only [Option.some.injEq, Prod.mk.injEq] at H
     obtain ⟨rfl, rfl⟩ := H
     go_enter Try.func47, Try.ntmps47
     try go_wp2_with (first | ((with_reducible refine gate_dst (N := 3) rfl ?_); refine box_event ?hg (N := 3) ?hd (cs := #[.int .i64 a1_0, .slice A1_1 l1_1.length c1_1, .int .i64 a1_2, .int .i64 a1_3, .int .i64 a1_4]) (t := 78) ?hr ?_; (case hd => rfl); (case hg => rfl); (case hr => exact z12_); intro gb183 hg w54 hbox hb; have BK183 := Aside0.mk (hbox); have GW183 := Aside0.mk ((by rw [hg]; exact (below_size z0_) : w.heap.size ≤ gb183)); have GE183 := Aside0.mk ((by rw [hg]; exact (below_size z0_) : w.heap.size ≤ gb183)); replace HB := Aside0.mk (below_step z0_ hb); clear hb hbox hg) | ((with_reducible refine gate_callee (f := 38) rfl ?_); refine goesL_ (some 13) rfl rfl Try.func38 (by kernel_rfl) rfl #[.slice A0 l0.length c0] rfl z1_ ?_; (with_reducible refine (spec_TreeOk.calls k _ _ l0 true _ ?side1 ?side2 A3.out).mono ?_); (case side1 => exact z2_); (case side2 => exact HC0.out); rintro e w55 ⟨rfl, hb⟩; refine ⟨_, rfl, ?_⟩; replace BK183 := Aside0.mk (blk_below (g := gb183) (o := .cells #[.int .i64 a1_0, .slice A1_1 l1_1.length c1_1, .int .i64 a1_2, .int .i64 a1_3, .int .i64 a1_4] 78 (0, 0)) z9_ hb); replace HB := Aside0.mk (below_step z3_ hb); (try clear hb); have hcz56_0 : w55.cell? ⟨gb183, 0, none⟩ = some (.int .i64 a1_0) := (blk_cell BK183.out 0).trans rfl; have hcz56_1 : w55.cell? ⟨gb183, 1, none⟩ = some (.slice A1_1 l1_1.length c1_1) := (blk_cell BK183.out 1).trans rfl; have hcz56_2 : w55.cell? ⟨gb183, 2, none⟩ = some (.int .i64 a1_2) := (blk_cell BK183.out 2).trans rfl; have hcz56_3 : w55.cell? ⟨gb183, 3, none⟩ = some (.int .i64 a1_3) := (blk_cell BK183.out 3).trans rfl; have hcz56_4 : w55.cell? ⟨gb183, 4, none⟩ = some (.int .i64 a1_4) := (blk_cell BK183.out 4).trans rfl; have hfz56_0 := blk_frozen BK183.out 0; have hfz56_1 := blk_frozen BK183.out 1; have hfz56_2 := blk_frozen BK183.out 2; have hfz56_3 := blk_frozen BK183.out 3; have hfz56_4 := blk_frozen BK183.out 4) | ((with_reducible refine gate_callee (f := 89) rfl ?_); refine goesL_ (some 19) rfl rfl Try.func89 (by kernel_rfl) rfl #[.slice A0 l0.length c0, .slice A1_1 l1_1.length c1_1] rfl z1_ ?_; (with_reducible refine (spec_NodeAt.calls k _ _ l0 _ _ l1_1 t188 _ ?side1 ?side2 ?side3 ?side4 A5.out).mono ?_); (case side1 => exact z2_); (case side2 => exact HC0.out); (case side3 => exact z14_); (case side4 => exact HC1_1.out); rintro e w57 ⟨rfl, hb⟩; refine ⟨_, rfl, ?_⟩; replace BK183 := Aside0.mk (blk_below (g := gb183) (o := .cells #[.int .i64 a1_0, .slice A1_1 l1_1.length c1_1, .int .i64 a1_2, .int .i64 a1_3, .int .i64 a1_4] 78 (0, 0)) z9_ hb); replace HB := Aside0.mk (below_step z3_ hb); (try clear hb)) | ((with_reducible refine gate_callee (f := 45) rfl ?_); refine goesL_ (some 21) rfl rfl Try.func45 (by kernel_rfl) rfl #[.slice A0 l0.length c0] rfl z1_ ?_; (with_reducible refine (spec_l3Copy.calls _ _ l0 t189 _ ?side1 ?side2 A6.out).mono ?_); (case side1 => exact z2_); (case side2 => exact HC0.out); rintro e w58 ⟨v190, rfl, ho0, hb⟩; refine ⟨_, rfl, ?_⟩; have HO191 := Aside0.mk (Kd.R_lower ho0 (below_size z3_)); replace BK183 := Aside0.mk (blk_below (g := gb183) (o := .cells #[.int .i64 a1_0, .slice A1_1 l1_1.length c1_1, .int .i64 a1_2, .int .i64 a1_3, .int .i64 a1_4] 78 (0, 0)) z9_ hb); replace HB := Aside0.mk (below_step z3_ hb); (try clear hb ho0); have hcz59_0 : w58.cell? ⟨gb183, 0, none⟩ = some (.int .i64 a1_0) := (blk_cell BK183.out 0).trans rfl; have hcz59_1 : w58.cell? ⟨gb183, 1, none⟩ = some (.slice A1_1 l1_1.length c1_1) := (blk_cell BK183.out 1).trans rfl; have hcz59_2 : w58.cell? ⟨gb183, 2, none⟩ = some (.int .i64 a1_2) := (blk_cell BK183.out 2).trans rfl; have hcz59_3 : w58.cell? ⟨gb183, 3, none⟩ = some (.int .i64 a1_3) := (blk_cell BK183.out 3).trans rfl; have hcz59_4 : w58.cell? ⟨gb183, 4, none⟩ = some (.int .i64 a1_4) := (blk_cell BK183.out 4).trans rfl; have hfz59_0 := blk_frozen BK183.out 0; have hfz59_1 := blk_frozen BK183.out 1; have hfz59_2 := blk_frozen BK183.out 2; have hfz59_3 := blk_frozen BK183.out 3; have hfz59_4 := blk_frozen BK183.out 4) | ((with_reducible refine gate_callee (f := 90) rfl ?_); refine goesL_ (some 26) rfl rfl Try.func90 (by kernel_rfl) rfl #[.slice A0 l0.length c0, .agg #[.int .i64 a1_0, .slice A1_1 l1_1.length c1_1, .int .i64 a1_2, .int .i64 a1_3, .int .i64 a1_4], .int .i64 t188] rfl z1_ ?_; (with_reducible refine (spec_l13Code.calls k _ _ l0 a1_0 _ _ l1_1 a1_2 a1_3 a1_4 t188 t192 t193 t194 _ ?side1 ?side2 ?side3 ?side4 A7.out).mono ?_); (case side1 => exact z2_); (case side2 => exact HC0.out); (case side3 => exact z14_); (case side4 => exact HC1_1.out); rintro e w60 ⟨rfl, hb⟩; refine ⟨_, rfl, ?_⟩; replace HO191 := Aside0.mk (Kd.R_below z16_ hb); replace BK183 := Aside0.mk (blk_below (g := gb183) (o := .cells #[.int .i64 a1_0, .slice A1_1 l1_1.length c1_1, .int .i64 a1_2, .int .i64 a1_3, .int .i64 a1_4] 78 (0, 0)) z9_ hb); replace HB := Aside0.mk (below_step z3_ hb); (try clear hb); have hcz61_0 : w60.cell? ⟨gb183, 0, none⟩ = some (.int .i64 a1_0) := (blk_cell BK183.out 0).trans rfl; have hcz61_1 : w60.cell? ⟨gb183, 1, none⟩ = some (.slice A1_1 l1_1.length c1_1) := (blk_cell BK183.out 1).trans rfl; have hcz61_2 : w60.cell? ⟨gb183, 2, none⟩ = some (.int .i64 a1_2) := (blk_cell BK183.out 2).trans rfl; have hcz61_3 : w60.cell? ⟨gb183, 3, none⟩ = some (.int .i64 a1_3) := (blk_cell BK183.out 3).trans rfl; have hcz61_4 : w60.cell? ⟨gb183, 4, none⟩ = some (.int .i64 a1_4) := (blk_cell BK183.out 4).trans rfl; have hfz61_0 := blk_frozen BK183.out 0; have hfz61_1 := blk_frozen BK183.out 1; have hfz61_2 := blk_frozen BK183.out 2; have hfz61_3 := blk_frozen BK183.out 3; have hfz61_4 := blk_frozen BK183.out 4))
     have n0_ := Aside0.mk (Kd.R_drew HO191.out)
     have n1_ := Aside0.mk (blk_drew BK183.out)
     have n2_ := Aside0.mk (below_drew1 HB.out)
     clear HO191
     clear BK183
     clear HB
     have HO191 := n0_
     have BK183 := n1_
     have HB := n2_
     clear n0_ n1_ n2_
     obtain ⟨p215, q215, ad215, e215, hw215_0, hw215_1, hx215_0, hx215_1⟩ := atw80_ HR0 HB t188
     cases e215
     refine start_ (n := 15) (S := fun w' => w'.cell? ⟨gb183, 0, none⟩ = some (.int .i64 a1_0) ∧ w'.cell? ⟨gb183, 1, none⟩ = some (.slice A1_1 l1_1.length c1_1) ∧ w'.cell? ⟨gb183, 2, none⟩ = some (.int .i64 a1_2) ∧ w'.cell? ⟨gb183, 3, none⟩ = some (.int .i64 a1_3) ∧ w'.cell? ⟨gb183, 4, none⟩ = some (.int .i64 a1_4) ∧ w'.cell? (ad215.add ((t188).toNat * 2)) = some (.int .i64 ((rd_T80 l0 t188).f0)) ∧ w'.cell? ⟨(ad215.add ((t188).toNat * 2)).block, (ad215.add ((t188).toNat * 2)).off + 1, none⟩ = some (.int .i64 ((rd_T80 l0 t188).f1))) (ds := []) (fl_ 15 0) (by kernel_rfl) rfl (fl_zero _) ⟨(blk_cell BK183.out 0).trans rfl, (blk_cell BK183.out 1).trans rfl, (blk_cell BK183.out 2).trans rfl, (blk_cell BK183.out 3).trans rfl, (blk_cell BK183.out 4).trans rfl, ((HB.out.cell (World.block_lt_of_cell? w _ hw215_0)).trans hw215_0), ((HB.out.cell (World.block_lt_of_cell? w _ hw215_1)).trans hw215_1)⟩ (fun hHeld => ?_); refine with_tabW spec_ApplyOp.tab16 spec_ApplyOp.bits16 (fun HT_ HW_ => ?_)
     generalize w60.drew = w62 at HO191 BK183 HB hx215_0 hx215_1 hHeld ⊢
     iterate 2 refine zp_ HT_ rfl rfl (by kernel_rfl) (fun _ _ _ h => h) (by rfl) ?_
     refine zpg_ (i := 3) (ra_ [2, 1, 1, 11]) HT_ rfl rfl (by kernel_rfl) (fun _ _ _ h => h) (by rfl) ?_
     refine zpg_ (i := 5) (ra_ [2, 1, 1, 1, 1, 9]) HT_ rfl rfl (by kernel_rfl) (fun _ _ _ h => h) (by rfl) ?_
     refine zpg_ (i := 6) (ra_ [2, 1, 1, 1, 2, 8]) HT_ rfl rfl (by kernel_rfl) (fun _ _ _ h => h) (by rfl) ?_
     refine zpg_ (i := 7) (ra_ [2, 1, 1, 1, 3, 7]) HT_ rfl rfl (by kernel_rfl) (fun _ _ _ h => h) (by rfl) ?_
     refine zpg_ (i := 8) (ra_ [2, 1, 1, 1, 4, 6]) HT_ rfl rfl (by kernel_rfl) (fun _ _ _ h => h) (by rfl) ?_
     refine ztg_ (i := 4) (ra_ [2, 1, 6, 6]) HT_ HW_ rfl rfl (by kernel_rfl) (fun _ _ _ h => h) (by rfl) hHeld ?_ z120_
     refine ztg_ (i := 9) (ra_ [2, 1, 7, 5]) HT_ HW_ rfl rfl (by kernel_rfl) (fun _ _ _ h => h) (by rfl) hHeld ?_ z120_
     refine zpg_ (i := 10) (ra_ [2, 1, 8, 4]) HT_ rfl rfl (by kernel_rfl) (fun _ _ _ h => h) (by rfl) ?_
     refine zpg_ (i := 11) (ra_ [2, 1, 9, 3]) HT_ rfl rfl (by kernel_rfl) (fun _ _ _ h => h) (by rfl) ?_
     refine join_ (σ := Value × Value) 2 #[true, true, true, true, true, true, true, true, true, true, true, true, true, false, false] (fun s_ => [(70, s_.1), (80, s_.2)]) (fun s_ w' => (w'.cell? ⟨gb183, 0, none⟩ = some (.int .i64 a1_0) ∧ w'.cell? ⟨gb183, 1, none⟩ = some (.slice A1_1 l1_1.length c1_1) ∧ w'.cell? ⟨gb183, 2, none⟩ = some (.int .i64 a1_2) ∧ w'.cell? ⟨gb183, 3, none⟩ = some (.int .i64 a1_3) ∧ w'.cell? ⟨gb183, 4, none⟩ = some (.int .i64 a1_4) ∧ w'.cell? (ad215.add ((t188).toNat * 2)) = some (.int .i64 ((rd_T80 l0 t188).f0)) ∧ w'.cell? ⟨(ad215.add ((t188).toNat * 2)).block, (ad215.add ((t188).toNat * 2)).off + 1, none⟩ = some (.int .i64 ((rd_T80 l0 t188).f1))) ∧ (Kd.R k80 80 w' w.heap.size (fun k_ => some k_ ≠ (s_.1 : Value).ownBlock ∧ some k_ ≠ (s_.2 : Value).ownBlock) v190 t189) ∧ (Kd.R k80 80 w' w.heap.size (fun k_ => some k_ ≠ (v190 : Value).ownBlock ∧ some k_ ≠ (s_.2 : Value).ownBlock) s_.1 t212) ∧ (Kd.R k80 80 w' w.heap.size (fun k_ => some k_ ≠ (v190 : Value).ownBlock ∧ some k_ ≠ (s_.1 : Value).ownBlock) s_.2 y216) ∧ (w'.heap[gb183]? = some (.cells #[.int .i64 a1_0, .slice A1_1 l1_1.length c1_1, .int .i64 a1_2, .int .i64 a1_3, .int .i64 a1_4] 78 (0, 0))) ∧ (Below w.heap.size w w')) ?_ ?_
     rotate_left
     ·intro hCont
      refine two_ (i := 2) (j := 12) (Ni := some 70) (Nj := some 80) #[true, true, true, true, true, true, true, true, true, true, true, true, false, false, false] #[true, true, false, true, true, true, true, true, true, true, true, true, true, false, false] rfl rfl rfl rfl (two_of HT_.out (by kernel_rfl)) (by decide) (by decide) (fun K hK => ?_) (fun K hK => ?_)
      ·skip
       refine goes_ Try.func92 (by kernel_rfl) rfl #[.slice (some ad215) l0.length c0, .int .i64 0, .int .i64 t193, .int .i64 0] (by rfl) rfl rfl z1_ ?_
       with_reducible refine (spec_l13Shift.calls k _ _ l0 0 t193 0 t212 _ ?side1 ?side2 A46.out).mono ?_
       (case side1 => exact z2_)
       (case side2 => exact HC0.out)
       rintro e w63 ⟨v213, rfl, ho0, hb⟩
       refine ⟨_, rfl, ?_⟩
       have n0_ := Aside0.mk (Kd.R_elder' z16_ (Kd.R_base ho0) hb)
       have n1_ := Aside0.mk (Kd.R_lower (Kd.R_new' ho0 (Kd.R_lt z16_)) (below_size z3_))
       have n2_ := Aside0.mk (blk_below (g := gb183) (o := .cells #[.int .i64 a1_0, .slice A1_1 l1_1.length c1_1, .int .i64 a1_2, .int .i64 a1_3, .int .i64 a1_4] 78 (0, 0)) z9_ hb)
       have n3_ := Aside0.mk (below_step z3_ hb)
       clear HO191
       clear BK183
       clear HB
       have HO191 := n0_
       have HO214 := n1_
       have BK183 := n2_
       have HB := n3_
       clear n0_ n1_ n2_ n3_
       (try clear hb)
       (try clear hb2)
       (try clear hk)
       (try clear hi)
       (try clear ho0)
       refine hK.out _ _ ⟨(blk_cell BK183.out 0).trans rfl, (blk_cell BK183.out 1).trans rfl, (blk_cell BK183.out 2).trans rfl, (blk_cell BK183.out 3).trans rfl, (blk_cell BK183.out 4).trans rfl, ((HB.out.cell (World.block_lt_of_cell? w _ hw215_0)).trans hw215_0), ((HB.out.cell (World.block_lt_of_cell? w _ hw215_1)).trans hw215_1)⟩ (fun hHeld => ?_)
       clear hK K
       refine zn_ rfl ?_
       refine one_ (i := 12) (N := some 80) (fl_ 15 13) rfl rfl (one_of HT_.out (by kernel_rfl)) (by decide) (fun K hK => ?_)
       refine Kd.R_lit_step k80 _ 80 ?hg (N := 80) ?hd (xs := ([(⟨a1_2, wrap64 (((rd_T80 l0 t188).f1) + 1)⟩ : S80)] : List (S80))) (inner := [.int .i64 a1_2, .int .i64 (wrap64 (((rd_T80 l0 t188).f1) + 1))]) (ok := fun _ => True) (okp := fun _ => True) ?hr ?hp (fun _ hk => hk) trivial (Below.refl _ _) (Nat.le_refl _) (by simp) ?_; (case hd => rfl); (case hg => rfl); (case hr => exact z12_); (case hp => exact z82_)
       intro v217 w64 ho65 hb hg_ hnew_
       clear hg_ hnew_
       (first | rw [← Ny216.out] at ho65 | (simp only [Int.reduceToNat] at ho65; rw [← Ny216.out] at ho65))
       have n0_ := Aside0.mk (Kd.R_elder' z16_ (Kd.R_base ho65) hb)
       have n1_ := Aside0.mk (Kd.R_elder' z112_ (Kd.R_base ho65) hb)
       have n2_ := Aside0.mk (Kd.R_lower (Kd.R_new' (Kd.R_new' ho65 (Kd.R_lt z16_)) (Kd.R_lt z112_)) (below_size z3_))
       have n3_ := Aside0.mk (blk_below (g := gb183) (o := .cells #[.int .i64 a1_0, .slice A1_1 l1_1.length c1_1, .int .i64 a1_2, .int .i64 a1_3, .int .i64 a1_4] 78 (0, 0)) z9_ hb)
       have n4_ := Aside0.mk (below_step z3_ hb)
       clear HO191
       clear HO214
       clear BK183
       clear HB
       have HO191 := n0_
       have HO214 := n1_
       have HO218 := n2_
       have BK183 := n3_
       have HB := n4_
       clear n0_ n1_ n2_ n3_ n4_
       clear hb ho65
       refine hK.out _ _ ⟨(blk_cell BK183.out 0).trans rfl, (blk_cell BK183.out 1).trans rfl, (blk_cell BK183.out 2).trans rfl, (blk_cell BK183.out 3).trans rfl, (blk_cell BK183.out 4).trans rfl, ((HB.out.cell (World.block_lt_of_cell? w _ hw215_0)).trans hw215_0), ((HB.out.cell (World.block_lt_of_cell? w _ hw215_1)).trans hw215_1)⟩ (fun hHeld => ?_)
       clear hK K
       refine zn_ rfl ?_
       exact norm_ z142_ (hCont (v213, v217) _ ⟨hHeld, (by (with_reducible repeat (first | apply Kd.R_alloc | apply Kd.R_drewN | apply Kd.R_drew)); exact Kd.R_mono HO191.out (fun _ hk => ⟨hk.1.2, hk.2⟩)), z116_, z117_, z9_, z3_⟩)
      ·skip
       refine Kd.R_lit_step k80 _ 80 ?hg (N := 80) ?hd (xs := ([(⟨a1_2, wrap64 (((rd_T80 l0 t188).f1) + 1)⟩ : S80)] : List (S80))) (inner := [.int .i64 a1_2, .int .i64 (wrap64 (((rd_T80 l0 t188).f1) + 1))]) (ok := fun _ => True) (okp := fun _ => True) ?hr ?hp (fun _ hk => hk) trivial (Below.refl _ _) (Nat.le_refl _) (by simp) ?_; (case hd => rfl); (case hg => rfl); (case hr => exact z12_); (case hp => exact z82_)
       intro v217 w63 ho64 hb hg_ hnew_
       clear hg_ hnew_
       (first | rw [← Ny216.out] at ho64 | (simp only [Int.reduceToNat] at ho64; rw [← Ny216.out] at ho64))
       have n0_ := Aside0.mk (Kd.R_elder' z16_ (Kd.R_base ho64) hb)
       have n1_ := Aside0.mk (Kd.R_lower (Kd.R_new' ho64 (Kd.R_lt z16_)) (below_size z3_))
       have n2_ := Aside0.mk (blk_below (g := gb183) (o := .cells #[.int .i64 a1_0, .slice A1_1 l1_1.length c1_1, .int .i64 a1_2, .int .i64 a1_3, .int .i64 a1_4] 78 (0, 0)) z9_ hb)
       have n3_ := Aside0.mk (below_step z3_ hb)
       clear HO191
       clear BK183
       clear HB
       have HO191 := n0_
       have HO218 := n1_
       have BK183 := n2_
       have HB := n3_
       clear n0_ n1_ n2_ n3_
       clear hb ho64
       refine hK.out _ _ ⟨(blk_cell BK183.out 0).trans rfl, (blk_cell BK183.out 1).trans rfl, (blk_cell BK183.out 2).trans rfl, (blk_cell BK183.out 3).trans rfl, (blk_cell BK183.out 4).trans rfl, ((HB.out.cell (World.block_lt_of_cell? w _ hw215_0)).trans hw215_0), ((HB.out.cell (World.block_lt_of_cell? w _ hw215_1)).trans hw215_1)⟩ (fun hHeld => ?_)
       clear hK K
       refine zn_ rfl ?_
       refine one_ (i := 2) (N := some 70) (fl_ 15 13) rfl rfl (one_of HT_.out (by kernel_rfl)) (by decide) (fun K hK => ?_)
       refine goes_ Try.func92 (by kernel_rfl) rfl #[.slice (some ad215) l0.length c0, .int .i64 0, .int .i64 t193, .int .i64 0] (by rfl) rfl rfl z1_ ?_
       with_reducible refine (spec_l13Shift.calls k _ _ l0 0 t193 0 t212 _ ?side1 ?side2 A46.out).mono ?_
       (case side1 => exact z2_)
       (case side2 => exact HC0.out)
       rintro e w65 ⟨v213, rfl, ho0, hb⟩
       refine ⟨_, rfl, ?_⟩
       have n0_ := Aside0.mk (Kd.R_elder' z16_ (Kd.R_base ho0) hb)
       have n1_ := Aside0.mk (Kd.R_elder' z37_ (Kd.R_base ho0) hb)
       have n2_ := Aside0.mk (Kd.R_lower (Kd.R_new' (Kd.R_new' ho0 (Kd.R_lt z16_)) (Kd.R_lt z37_)) (below_size z3_))
       have n3_ := Aside0.mk (blk_below (g := gb183) (o := .cells #[.int .i64 a1_0, .slice A1_1 l1_1.length c1_1, .int .i64 a1_2, .int .i64 a1_3, .int .i64 a1_4] 78 (0, 0)) z9_ hb)
       have n4_ := Aside0.mk (below_step z3_ hb)
       clear HO191
       clear HO218
       clear BK183
       clear HB
       have HO191 := n0_
       have HO218 := n1_
       have HO214 := n2_
       have BK183 := n3_
       have HB := n4_
       clear n0_ n1_ n2_ n3_ n4_
       (try clear hb)
       (try clear hb2)
       (try clear hk)
       (try clear hi)
       (try clear ho0)
       refine hK.out _ _ ⟨(blk_cell BK183.out 0).trans rfl, (blk_cell BK183.out 1).trans rfl, (blk_cell BK183.out 2).trans rfl, (blk_cell BK183.out 3).trans rfl, (blk_cell BK183.out 4).trans rfl, ((HB.out.cell (World.block_lt_of_cell? w _ hw215_0)).trans hw215_0), ((HB.out.cell (World.block_lt_of_cell? w _ hw215_1)).trans hw215_1)⟩ (fun hHeld => ?_)
       clear hK K
       refine zn_ rfl ?_
       exact norm_ z142_ (hCont (v213, v217) _ ⟨hHeld, z115_, z116_, z117_, z9_, z3_⟩)
     rintro ⟨v213, v217⟩ w66 ⟨hS_, h0_, h1_, h2_, h3_, h4_⟩
     have n0_ : Aside0 (Kd.R k80 80 w66 w.heap.size (fun k_ => some k_ ≠ (v213 : Value).ownBlock ∧ some k_ ≠ (v217 : Value).ownBlock) v190 t189) := ⟨h0_⟩
     have n1_ : Aside0 (Kd.R k80 80 w66 w.heap.size (fun k_ => some k_ ≠ (v190 : Value).ownBlock ∧ some k_ ≠ (v217 : Value).ownBlock) v213 t212) := ⟨h1_⟩
     have n2_ : Aside0 (Kd.R k80 80 w66 w.heap.size (fun k_ => some k_ ≠ (v190 : Value).ownBlock ∧ some k_ ≠ (v213 : Value).ownBlock) v217 y216) := ⟨h2_⟩
     have n3_ : Aside0 (w66.heap[gb183]? = some (.cells #[.int .i64 a1_0, .slice A1_1 l1_1.length c1_1, .int .i64 a1_2, .int .i64 a1_3, .int .i64 a1_4] 78 (0, 0))) := ⟨h3_⟩
     have n4_ : Aside0 (Below w.heap.size w w66) := ⟨h4_⟩
     clear HO191
     clear BK183
     clear HB
     clear h0_ h1_ h2_ h3_ h4_
     have HO191 := n0_
     have HO214 := n1_
     have HO218 := n2_
     have BK183 := n3_
     have HB := n4_
     clear n0_ n1_ n2_ n3_ n4_
     have hHeld : w66.cell? ⟨gb183, 0, none⟩ = some (.int .i64 a1_0) ∧ w66.cell? ⟨gb183, 1, none⟩ = some (.slice A1_1 l1_1.length c1_1) ∧ w66.cell? ⟨gb183, 2, none⟩ = some (.int .i64 a1_2) ∧ w66.cell? ⟨gb183, 3, none⟩ = some (.int .i64 a1_3) ∧ w66.cell? ⟨gb183, 4, none⟩ = some (.int .i64 a1_4) ∧ w66.cell? (ad215.add ((t188).toNat * 2)) = some (.int .i64 ((rd_T80 l0 t188).f0)) ∧ w66.cell? ⟨(ad215.add ((t188).toNat * 2)).block, (ad215.add ((t188).toNat * 2)).off + 1, none⟩ = some (.int .i64 ((rd_T80 l0 t188).f1)) := hS_
     obtain ⟨Ao68, co68, eo68⟩ := Kd.R_slice HO218.out
     (first | subst eo68 | (injection eo68 with f1_ f2_ f3_; have f4_ := f1_.symm; have f5_ := f3_.symm; clear f1_ f2_ f3_; subst f4_; subst f5_))
     refine norm_ (a' := ?_) ?_ ?_
     rotate_left
     ·simp only [putAll, Act.put, List.setIfInBounds_toArray, List.set_cons_zero, List.set_cons_succ]
      rfl
     refine one_ (i := 13) (N := some 81) (fl_ 15 14) rfl rfl (one_of HT_.out (by kernel_rfl)) (by decide) (fun K hK => ?_)
     refine Kd.R_append_rows_step k80 (w0 := w) w.heap.size (by rfl) (.tmp 70) (.tmp 80) 29 80 (.agg #[(.int .i64 0), (.int .i64 0)]) 16 rfl Try.underlying29 info80 rfl (by decide) (by omega) v213 t212 y216 _ _ _ (fun k_ => some k_ ≠ (v190 : Value).ownBlock ∧ some k_ ≠ (.slice Ao68 y216.length co68 : Value).ownBlock) (fun _ => False) rfl rfl ?aO ?aR (fun _ _ h => h) (fun _ h => h.elim) ?aF ?aB ?aS ?aL ?_
     (case aR => repeat (first | exact (Kd.R_reads' HO218.out).2.2 | (with_reducible refine Kd.C_alloc ?_ _) | (with_reducible refine Kd.C_drewN ?_ _) | (with_reducible refine Kd.C_drew ?_)))
     (case aB => exact z46_)
     (case aF => exact (fun k_ hk => ⟨Kd.fresh' (Kd.R_lt z16_) k_ hk, Kd.fresh' (Kd.R_lt z37_) k_ hk⟩))
     (case aO => exact z112_)
     (case aS => exact z43_)
     (case aL => have := LMc49.out; omega)
     intro v220 w67 ho hb hg hat
     rw [← Ny219.out] at ho
     have n0_ := Aside0.mk (blk_grown (g := gb183) (o := .cells #[.int .i64 a1_0, .slice A1_1 l1_1.length c1_1, .int .i64 a1_2, .int .i64 a1_3, .int .i64 a1_4] 78 (0, 0)) z9_ hg (Kd.R_ne HO214.out BK183.out (by decide)))
     have n1_ := Aside0.mk (Kd.R_after (ok := (fun k_ => some k_ ≠ (.slice Ao68 y216.length co68 : Value).ownBlock)) (by (with_reducible repeat (first | apply Kd.R_alloc | apply Kd.R_drewN | apply Kd.R_drew)); exact Kd.R_mono HO191.out (fun _ hk => ⟨hk.2, hk.1⟩)) hg hat)
     have n2_ := Aside0.mk (Kd.R_after (ok := (fun k_ => some k_ ≠ (v190 : Value).ownBlock)) z37_ hg hat)
     have n3_ := Aside0.mk (hb)
     have n4_ := Aside0.mk (ho)
     clear BK183
     clear HO191
     clear HO218
     clear HB
     clear HO214
     have BK183 := n0_
     have HO191 := n1_
     have HO218 := n2_
     have HB := n3_
     have HO221 := n4_
     clear n0_ n1_ n2_ n3_ n4_
     clear ho hb hg hat
     refine hK.out _ _ ⟨(blk_cell BK183.out 0).trans rfl, (blk_cell BK183.out 1).trans rfl, (blk_cell BK183.out 2).trans rfl, (blk_cell BK183.out 3).trans rfl, (blk_cell BK183.out 4).trans rfl, ((HB.out.cell (World.block_lt_of_cell? w _ hw215_0)).trans hw215_0), ((HB.out.cell (World.block_lt_of_cell? w _ hw215_1)).trans hw215_1)⟩ (fun hHeld => ?_)
     clear hK K
     refine zn_ rfl ?_
     refine zp_ HT_ rfl rfl (by kernel_rfl) (fun _ _ _ h => h) (by rfl) ?_
     refine done_ (done_of HT_.out (by kernel_rfl)) ?_
     try go_wp2_with (first | ((with_reducible refine gate_callee (f := 92) rfl ?_); refine goesL_ (some 86) rfl rfl Try.func92 (by kernel_rfl) rfl #[.slice (some ad215) l0.length c0, .int .i64 t193, .int .i64 t194, .int .i64 1] rfl z1_ ?_; (with_reducible refine (spec_l13Shift.calls k _ _ l0 t193 t194 1 t222 _ ?side1 ?side2 A50.out).mono ?_); (case side1 => exact z2_); (case side2 => exact HC0.out); rintro e w69 ⟨v223, rfl, ho0, hb⟩; refine ⟨_, rfl, ?_⟩; have HO224 := Aside0.mk (Kd.R_lower (Kd.R_new' (Kd.R_new' (Kd.R_new' ho0 (Kd.R_lt z16_)) (Kd.R_lt z37_)) (Kd.R_lt z131_)) (below_size z3_)); replace HO191 := Aside0.mk (Kd.R_elder' z16_ (Kd.R_base ho0) hb); replace HO218 := Aside0.mk (Kd.R_elder' z37_ (Kd.R_base ho0) hb); replace HO221 := Aside0.mk (Kd.R_elder' z131_ (Kd.R_base ho0) hb); replace BK183 := Aside0.mk (blk_below (g := gb183) (o := .cells #[.int .i64 a1_0, .slice A1_1 l1_1.length c1_1, .int .i64 a1_2, .int .i64 a1_3, .int .i64 a1_4] 78 (0, 0)) z9_ hb); replace HB := Aside0.mk (below_step z3_ hb); (try clear hb ho0); obtain ⟨Ao71, co71, eo71⟩ := Kd.R_slice HO224.out; subst eo71) | ((with_reducible refine gate_builtin (b := .append) (xs := #[.tmp 82, .tmp 86]) rfl ?_); at_builtin; refine Kd.R_append_rows k80 (w0 := w) w.heap.size rfl (.tmp 82) (.tmp 86) 29 80 (.agg #[(.int .i64 0), (.int .i64 0)]) 16 rfl Try.underlying29 info80 rfl (by decide) (by omega) v220 y219 t222 _ _ _ (fun k_ => some k_ ≠ (v190 : Value).ownBlock ∧ some k_ ≠ (.slice Ao68 y216.length co68 : Value).ownBlock ∧ some k_ ≠ (.slice Ao71 t222.length co71 : Value).ownBlock) (fun _ => False) rfl rfl ?aO ?aR (fun _ _ h => h) (fun _ h => h.elim) ?aF ?aB ?aS ?aL ?_; (case aR => repeat (first | exact (Kd.R_reads' HO224.out).2.2 | (with_reducible refine Kd.C_alloc ?_ _) | (with_reducible refine Kd.C_drewN ?_ _) | (with_reducible refine Kd.C_drew ?_))); (case aB => exact z46_); (case aF => exact (fun k_ hk => ⟨Kd.fresh' (Kd.R_lt z16_) k_ hk, Kd.fresh' (Kd.R_lt z37_) k_ hk, Kd.fresh' (Kd.R_lt z89_) k_ hk⟩)); (case aO => exact (by (with_reducible repeat (first | apply Kd.R_alloc | apply Kd.R_drewN | apply Kd.R_drew)); exact Kd.R_mono HO221.out (fun _ hk => ⟨hk.1.1, ⟨hk.1.2, hk.2⟩⟩))); (case aS => exact z43_); (case aL => have := LMc51.out; omega); intro v226 w70 ho hb hg hat; rw [← Ny225.out] at ho; replace BK183 := Aside0.mk (blk_grown (g := gb183) (o := .cells #[.int .i64 a1_0, .slice A1_1 l1_1.length c1_1, .int .i64 a1_2, .int .i64 a1_3, .int .i64 a1_4] 78 (0, 0)) z9_ hg (Kd.R_ne HO221.out BK183.out (by decide))); replace HO191 := Aside0.mk (Kd.R_after (ok := (fun k_ => some k_ ≠ (.slice Ao68 y216.length co68 : Value).ownBlock ∧ some k_ ≠ (.slice Ao71 t222.length co71 : Value).ownBlock)) z114_ hg hat); replace HO218 := Aside0.mk (Kd.R_after (ok := (fun k_ => some k_ ≠ (v190 : Value).ownBlock ∧ some k_ ≠ (.slice Ao71 t222.length co71 : Value).ownBlock)) (by (with_reducible repeat (first | apply Kd.R_alloc | apply Kd.R_drewN | apply Kd.R_drew)); exact Kd.R_mono HO218.out (fun _ hk => ⟨⟨hk.1.1, hk.2⟩, hk.1.2⟩)) hg hat); replace HO224 := Aside0.mk (Kd.R_after (ok := (fun k_ => some k_ ≠ (v190 : Value).ownBlock ∧ some k_ ≠ (.slice Ao68 y216.length co68 : Value).ownBlock)) (by (with_reducible repeat (first | apply Kd.R_alloc | apply Kd.R_drewN | apply Kd.R_drew)); exact Kd.R_mono HO224.out (fun _ hk => ⟨⟨hk.1.1.2, hk.1.2⟩, hk.2⟩)) hg hat); replace HB := Aside0.mk (hb); have HO227 := Aside0.mk (ho); clear HO221; clear ho hb hg hat) | ((with_reducible refine gate_callee (f := 92) rfl ?_); refine goesL_ (some 93) rfl rfl Try.func92 (by kernel_rfl) rfl #[.slice (some ad215) l0.length c0, .int .i64 t194, .int .i64 (l0.length : Int), .int .i64 0] rfl z1_ ?_; (with_reducible refine (spec_l13Shift.calls k _ _ l0 t194 (l0.length : Int) 0 t228 _ ?side1 ?side2 A52.out).mono ?_); (case side1 => exact z2_); (case side2 => exact HC0.out); rintro e w72 ⟨v229, rfl, ho0, hb⟩; refine ⟨_, rfl, ?_⟩; have HO230 := Aside0.mk (Kd.R_lower (Kd.R_new' (Kd.R_new' (Kd.R_new' (Kd.R_new' ho0 (Kd.R_lt z16_)) (Kd.R_lt z37_)) (Kd.R_lt z89_)) (Kd.R_lt z132_)) (below_size z3_)); replace HO191 := Aside0.mk (Kd.R_elder' z16_ (Kd.R_base ho0) hb); replace HO218 := Aside0.mk (Kd.R_elder' z37_ (Kd.R_base ho0) hb); replace HO224 := Aside0.mk (Kd.R_elder' z89_ (Kd.R_base ho0) hb); replace HO227 := Aside0.mk (Kd.R_elder' z132_ (Kd.R_base ho0) hb); replace BK183 := Aside0.mk (blk_below (g := gb183) (o := .cells #[.int .i64 a1_0, .slice A1_1 l1_1.length c1_1, .int .i64 a1_2, .int .i64 a1_3, .int .i64 a1_4] 78 (0, 0)) z9_ hb); replace HB := Aside0.mk (below_step z3_ hb); (try clear hb ho0); obtain ⟨Ao74, co74, eo74⟩ := Kd.R_slice HO230.out; subst eo74) | ((with_reducible refine gate_builtin (b := .append) (xs := #[.tmp 88, .tmp 93]) rfl ?_); at_builtin; refine Kd.R_append_rows k80 (w0 := w) w.heap.size rfl (.tmp 88) (.tmp 93) 29 80 (.agg #[(.int .i64 0), (.int .i64 0)]) 16 rfl Try.underlying29 info80 rfl (by decide) (by omega) v226 y225 t228 _ _ _ (fun k_ => some k_ ≠ (v190 : Value).ownBlock ∧ some k_ ≠ (.slice Ao68 y216.length co68 : Value).ownBlock ∧ some k_ ≠ (.slice Ao71 t222.length co71 : Value).ownBlock ∧ some k_ ≠ (.slice Ao74 t228.length co74 : Value).ownBlock) (fun _ => False) rfl rfl ?aO ?aR (fun _ _ h => h) (fun _ h => h.elim) ?aF ?aB ?aS ?aL ?_; (case aR => repeat (first | exact (Kd.R_reads' HO230.out).2.2 | (with_reducible refine Kd.C_alloc ?_ _) | (with_reducible refine Kd.C_drewN ?_ _) | (with_reducible refine Kd.C_drew ?_))); (case aB => exact z46_); (case aF => exact (fun k_ hk => ⟨Kd.fresh' (Kd.R_lt z16_) k_ hk, Kd.fresh' (Kd.R_lt z37_) k_ hk, Kd.fresh' (Kd.R_lt z89_) k_ hk, Kd.fresh' (Kd.R_lt (by (with_reducible repeat (first | apply Kd.R_alloc | apply Kd.R_drewN | apply Kd.R_drew)); exact HO230.out)) k_ hk⟩)); (case aO => exact (by (with_reducible repeat (first | apply Kd.R_alloc | apply Kd.R_drewN | apply Kd.R_drew)); exact Kd.R_mono HO227.out (fun _ hk => ⟨hk.1.1, ⟨hk.1.2.1, ⟨hk.1.2.2, hk.2⟩⟩⟩))); (case aS => exact z43_); (case aL => have := LMc53.out; omega); intro v232 w73 ho hb hg hat; rw [← Ny231.out] at ho; replace BK183 := Aside0.mk (blk_grown (g := gb183) (o := .cells #[.int .i64 a1_0, .slice A1_1 l1_1.length c1_1, .int .i64 a1_2, .int .i64 a1_3, .int .i64 a1_4] 78 (0, 0)) z9_ hg (Kd.R_ne HO227.out BK183.out (by decide))); replace HO191 := Aside0.mk (Kd.R_after (ok := (fun k_ => some k_ ≠ (.slice Ao68 y216.length co68 : Value).ownBlock ∧ some k_ ≠ (.slice Ao71 t222.length co71 : Value).ownBlock ∧ some k_ ≠ (.slice Ao74 t228.length co74 : Value).ownBlock)) (by (with_reducible repeat (first | apply Kd.R_alloc | apply Kd.R_drewN | apply Kd.R_drew)); exact Kd.R_mono HO191.out (fun _ hk => ⟨⟨hk.1.1.1, ⟨hk.1.1.2, hk.2⟩⟩, hk.1.2⟩)) hg hat); replace HO218 := Aside0.mk (Kd.R_after (ok := (fun k_ => some k_ ≠ (v190 : Value).ownBlock ∧ some k_ ≠ (.slice Ao71 t222.length co71 : Value).ownBlock ∧ some k_ ≠ (.slice Ao74 t228.length co74 : Value).ownBlock)) (by (with_reducible repeat (first | apply Kd.R_alloc | apply Kd.R_drewN | apply Kd.R_drew)); exact Kd.R_mono HO218.out (fun _ hk => ⟨⟨hk.1.1.1, ⟨hk.1.1.2, hk.2⟩⟩, hk.1.2⟩)) hg hat); replace HO224 := Aside0.mk (Kd.R_after (ok := (fun k_ => some k_ ≠ (v190 : Value).ownBlock ∧ some k_ ≠ (.slice Ao68 y216.length co68 : Value).ownBlock ∧ some k_ ≠ (.slice Ao74 t228.length co74 : Value).ownBlock)) (by (with_reducible repeat (first | apply Kd.R_alloc | apply Kd.R_drewN | apply Kd.R_drew)); exact Kd.R_mono HO224.out (fun _ hk => ⟨⟨hk.1.1.1, ⟨hk.1.1.2, hk.2⟩⟩, hk.1.2⟩)) hg hat); replace HO230 := Aside0.mk (Kd.R_after (ok := (fun k_ => some k_ ≠ (v190 : Value).ownBlock ∧ some k_ ≠ (.slice Ao68 y216.length co68 : Value).ownBlock ∧ some k_ ≠ (.slice Ao71 t222.length co71 : Value).ownBlock)) (by (with_reducible repeat (first | apply Kd.R_alloc | apply Kd.R_drewN | apply Kd.R_drew)); exact Kd.R_mono HO230.out (fun _ hk => ⟨⟨hk.1.1.1.2, ⟨hk.1.1.2, hk.1.2⟩⟩, hk.2⟩)) hg hat); replace HB := Aside0.mk (hb); have HO233 := Aside0.mk (ho); clear HO227; clear ho hb hg hat))
     go_ret2
     exact ⟨_, z4_, by (with_reducible repeat (first | apply Kd.R_alloc | apply Kd.R_drewN | apply Kd.R_drew)); exact Kd.R_mono HO233.out (fun _ hk => trivial), z3_⟩
  ·rw [if_neg c8] at H
   have c8b0 : (t192 == 0) = false := beq_eq_false_iff_ne.mpr c8
   have c8b1 : (t192 != 0) = true := bne_iff_ne.mpr c8
   simp only [Option.some.injEq, Prod.mk.injEq] at H
   obtain ⟨rfl, rfl⟩ := H
   go_enter Try.func47, Try.ntmps47
   go_wp2_with (first | ((with_reducible refine gate_dst (N := 3) rfl ?_); refine box_event ?hg (N := 3) ?hd (cs := #[.int .i64 a1_0, .slice A1_1 l1_1.length c1_1, .int .i64 a1_2, .int .i64 a1_3, .int .i64 a1_4]) (t := 78) ?hr ?_; (case hd => rfl); (case hg => rfl); (case hr => exact z12_); intro gb183 hg w75 hbox hb; have BK183 := Aside0.mk (hbox); have GW183 := Aside0.mk ((by rw [hg]; exact (below_size z0_) : w.heap.size ≤ gb183)); have GE183 := Aside0.mk ((by rw [hg]; exact (below_size z0_) : w.heap.size ≤ gb183)); replace HB := Aside0.mk (below_step z0_ hb); clear hb hbox hg) | ((with_reducible refine gate_callee (f := 38) rfl ?_); refine goesL_ (some 13) rfl rfl Try.func38 (by kernel_rfl) rfl #[.slice A0 l0.length c0] rfl z1_ ?_; (with_reducible refine (spec_TreeOk.calls k _ _ l0 true _ ?side1 ?side2 A3.out).mono ?_); (case side1 => exact z2_); (case side2 => exact HC0.out); rintro e w76 ⟨rfl, hb⟩; refine ⟨_, rfl, ?_⟩; replace BK183 := Aside0.mk (blk_below (g := gb183) (o := .cells #[.int .i64 a1_0, .slice A1_1 l1_1.length c1_1, .int .i64 a1_2, .int .i64 a1_3, .int .i64 a1_4] 78 (0, 0)) z9_ hb); replace HB := Aside0.mk (below_step z3_ hb); (try clear hb); have hcz77_0 : w76.cell? ⟨gb183, 0, none⟩ = some (.int .i64 a1_0) := (blk_cell BK183.out 0).trans rfl; have hcz77_1 : w76.cell? ⟨gb183, 1, none⟩ = some (.slice A1_1 l1_1.length c1_1) := (blk_cell BK183.out 1).trans rfl; have hcz77_2 : w76.cell? ⟨gb183, 2, none⟩ = some (.int .i64 a1_2) := (blk_cell BK183.out 2).trans rfl; have hcz77_3 : w76.cell? ⟨gb183, 3, none⟩ = some (.int .i64 a1_3) := (blk_cell BK183.out 3).trans rfl; have hcz77_4 : w76.cell? ⟨gb183, 4, none⟩ = some (.int .i64 a1_4) := (blk_cell BK183.out 4).trans rfl; have hfz77_0 := blk_frozen BK183.out 0; have hfz77_1 := blk_frozen BK183.out 1; have hfz77_2 := blk_frozen BK183.out 2; have hfz77_3 := blk_frozen BK183.out 3; have hfz77_4 := blk_frozen BK183.out 4) | ((with_reducible refine gate_callee (f := 89) rfl ?_); refine goesL_ (some 19) rfl rfl Try.func89 (by kernel_rfl) rfl #[.slice A0 l0.length c0, .slice A1_1 l1_1.length c1_1] rfl z1_ ?_; (with_reducible refine (spec_NodeAt.calls k _ _ l0 _ _ l1_1 t188 _ ?side1 ?side2 ?side3 ?side4 A5.out).mono ?_); (case side1 => exact z2_); (case side2 => exact HC0.out); (case side3 => exact z14_); (case side4 => exact HC1_1.out); rintro e w78 ⟨rfl, hb⟩; refine ⟨_, rfl, ?_⟩; replace BK183 := Aside0.mk (blk_below (g := gb183) (o := .cells #[.int .i64 a1_0, .slice A1_1 l1_1.length c1_1, .int .i64 a1_2, .int .i64 a1_3, .int .i64 a1_4] 78 (0, 0)) z9_ hb); replace HB := Aside0.mk (below_step z3_ hb); (try clear hb)) | ((with_reducible refine gate_callee (f := 45) rfl ?_); refine goesL_ (some 21) rfl rfl Try.func45 (by kernel_rfl) rfl #[.slice A0 l0.length c0] rfl z1_ ?_; (with_reducible refine (spec_l3Copy.calls _ _ l0 t189 _ ?side1 ?side2 A6.out).mono ?_); (case side1 => exact z2_); (case side2 => exact HC0.out); rintro e w79 ⟨v190, rfl, ho0, hb⟩; refine ⟨_, rfl, ?_⟩; have HO191 := Aside0.mk (Kd.R_lower ho0 (below_size z3_)); replace BK183 := Aside0.mk (blk_below (g := gb183) (o := .cells #[.int .i64 a1_0, .slice A1_1 l1_1.length c1_1, .int .i64 a1_2, .int .i64 a1_3, .int .i64 a1_4] 78 (0, 0)) z9_ hb); replace HB := Aside0.mk (below_step z3_ hb); (try clear hb ho0); have hcz80_0 : w79.cell? ⟨gb183, 0, none⟩ = some (.int .i64 a1_0) := (blk_cell BK183.out 0).trans rfl; have hcz80_1 : w79.cell? ⟨gb183, 1, none⟩ = some (.slice A1_1 l1_1.length c1_1) := (blk_cell BK183.out 1).trans rfl; have hcz80_2 : w79.cell? ⟨gb183, 2, none⟩ = some (.int .i64 a1_2) := (blk_cell BK183.out 2).trans rfl; have hcz80_3 : w79.cell? ⟨gb183, 3, none⟩ = some (.int .i64 a1_3) := (blk_cell BK183.out 3).trans rfl; have hcz80_4 : w79.cell? ⟨gb183, 4, none⟩ = some (.int .i64 a1_4) := (blk_cell BK183.out 4).trans rfl; have hfz80_0 := blk_frozen BK183.out 0; have hfz80_1 := blk_frozen BK183.out 1; have hfz80_2 := blk_frozen BK183.out 2; have hfz80_3 := blk_frozen BK183.out 3; have hfz80_4 := blk_frozen BK183.out 4) | ((with_reducible refine gate_callee (f := 90) rfl ?_); refine goesL_ (some 26) rfl rfl Try.func90 (by kernel_rfl) rfl #[.slice A0 l0.length c0, .agg #[.int .i64 a1_0, .slice A1_1 l1_1.length c1_1, .int .i64 a1_2, .int .i64 a1_3, .int .i64 a1_4], .int .i64 t188] rfl z1_ ?_; (with_reducible refine (spec_l13Code.calls k _ _ l0 a1_0 _ _ l1_1 a1_2 a1_3 a1_4 t188 t192 t193 t194 _ ?side1 ?side2 ?side3 ?side4 A7.out).mono ?_); (case side1 => exact z2_); (case side2 => exact HC0.out); (case side3 => exact z14_); (case side4 => exact HC1_1.out); rintro e w81 ⟨rfl, hb⟩; refine ⟨_, rfl, ?_⟩; replace HO191 := Aside0.mk (Kd.R_below z16_ hb); replace BK183 := Aside0.mk (blk_below (g := gb183) (o := .cells #[.int .i64 a1_0, .slice A1_1 l1_1.length c1_1, .int .i64 a1_2, .int .i64 a1_3, .int .i64 a1_4] 78 (0, 0)) z9_ hb); replace HB := Aside0.mk (below_step z3_ hb); (try clear hb)))
   go_ret2
   exact ⟨_, z4_, z16_, z3_⟩
 ·replace c4 := Bool.eq_false_iff.mpr c4
  subst c4
  replace H := iff_ H
  obtain ⟨y185, hy185⟩ : ∃ y_ : List (S80), y_ = (([] : List (S80))) := ⟨_, rfl⟩
  replace H : (some (y185, 2)) = some (r1, r2) := by first | (rw [hy185]; with_reducible exact H) | (have H2_ := (Option.bind_some _ _).symm.trans H; rw [hy185]; with_reducible exact H2_) | (have H2_ := (Option.bind_some _ _).symm.trans H; with_reducible exact H2_) | with_reducible exact H | (rw [hy185]; exact H) | exact H
  have Ny185 := Aside0.mk hy185
  clear hy185
  simp only [Option.some.injEq, Prod.mk.injEq] at H
  obtain ⟨rfl, rfl⟩ := H
  go_enter Try.func47, Try.ntmps47
  go_wp2_with (first | ((with_reducible refine gate_dst (N := 3) rfl ?_); refine box_event ?hg (N := 3) ?hd (cs := #[.int .i64 a1_0, .slice A1_1 l1_1.length c1_1, .int .i64 a1_2, .int .i64 a1_3, .int .i64 a1_4]) (t := 78) ?hr ?_; (case hd => rfl); (case hg => rfl); (case hr => exact z12_); intro gb183 hg w82 hbox hb; have BK183 := Aside0.mk (hbox); have GW183 := Aside0.mk ((by rw [hg]; exact (below_size z0_) : w.heap.size ≤ gb183)); have GE183 := Aside0.mk ((by rw [hg]; exact (below_size z0_) : w.heap.size ≤ gb183)); replace HB := Aside0.mk (below_step z0_ hb); clear hb hbox hg) | ((with_reducible refine gate_callee (f := 38) rfl ?_); refine goesL_ (some 13) rfl rfl Try.func38 (by kernel_rfl) rfl #[.slice A0 l0.length c0] rfl z1_ ?_; (with_reducible refine (spec_TreeOk.calls k _ _ l0 false _ ?side1 ?side2 A3.out).mono ?_); (case side1 => exact z2_); (case side2 => exact HC0.out); rintro e w83 ⟨rfl, hb⟩; refine ⟨_, rfl, ?_⟩; replace BK183 := Aside0.mk (blk_below (g := gb183) (o := .cells #[.int .i64 a1_0, .slice A1_1 l1_1.length c1_1, .int .i64 a1_2, .int .i64 a1_3, .int .i64 a1_4] 78 (0, 0)) z9_ hb); replace HB := Aside0.mk (below_step z3_ hb); (try clear hb)) | ((with_reducible refine gate_dst (N := 15) rfl ?_); refine Kd.R_lit k80 _ 80 ?hg (N := 15) ?hd (xs := ([] : List (S80))) (inner := []) (ok := fun _ => True) (okp := fun _ => True) ?hr ?hp (fun _ hk => hk) trivial (Below.refl _ _) (Nat.le_refl _) (by simp) ?_; (case hd => rfl); (case hg => rfl); (case hr => exact z12_); (case hp => exact z83_); intro v186 w84 ho85 hb hg_ hnew_; clear hg_ hnew_; (first | rw [← Ny185.out] at ho85 | (simp only [Int.reduceToNat] at ho85; rw [← Ny185.out] at ho85)); have HO187 := Aside0.mk (Kd.R_lower ho85 (below_size z3_)); replace BK183 := Aside0.mk (blk_below (g := gb183) (o := .cells #[.int .i64 a1_0, .slice A1_1 l1_1.length c1_1, .int .i64 a1_2, .int .i64 a1_3, .int .i64 a1_4] 78 (0, 0)) z9_ hb); replace HB := Aside0.mk (below_step z3_ hb); clear hb ho85))
  go_ret2
  exact ⟨_, z4_, by (with_reducible repeat (first | apply Kd.R_alloc | apply Kd.R_drewN | apply Kd.R_drew)); exact HO187.out, z3_⟩

end Go.Proofs.Ytdapeboajjidmaa.PFnExactDropIdle
