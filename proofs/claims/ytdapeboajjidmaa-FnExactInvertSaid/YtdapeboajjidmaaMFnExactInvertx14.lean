/- Laid by a program of this session out of the kit's print for the law FnExactInvert: what it says of the machine is proved here, function by function; each contract under the conditions that it names. -/
import Derived.Test.YtdapeboajjidmaaMFnExactInvertx0
import Derived.Test.YtdapeboajjidmaaMFnExactInvertx10
import Derived.Deep.RegionLaw
import Derived.Lib.Overlaps
import Derived.Laws.Externs
import Derived.Lib.AppendZeros
import Derived.Lib.AppendZerosOnto
import Derived.Laws.NewBlocks
import Derived.Lib.SliceRun
import Derived.Test.YtdapeboajjidmaaSliceOps
namespace Go.Proofs.Ytdapeboajjidmaa.PFnExactInvert
open Go.RowKit Go.Proofs.YtdapeboajjidmaaW.PrintWords Go.Proofs.YtdapeboajjidmaaW.PrintLast Go.Proofs.YtdapeboajjidmaaW.PrintMore Go.Proofs.Ytdapeboajjidmaa.SliceOps
attribute [local go_sem] max2_int min2_int max_two min_two max_three min_three max_four min_four   -- for this text's walks alone
set_option linter.unusedVariables false
set_option linter.unusedSimpArgs false

/-! ### slices_Clone_int: function 101 -/
def slices_Clone_int.f (l0 : List Int) : Option (List Int) := (some (([] : List Int) : List Int)).bind fun y417 => (if y417.length + l0.length < 17592186044416 then (some (y417 ++ l0)) else (none))
set_option maxHeartbeats 8000000 in
set_option maxRecDepth 100000 in
theorem slices_Clone_int.calls (A0 : Option Addr) (c0 : Nat) (l0 : List Int) (r : List Int) (w : World) (hr0 : Kd.C (Kd.int .i64) w A0 l0.length l0) (hc0 : l0.length ≤ c0) (h : slices_Clone_int.f l0 = some r) :
  Calls Try.prog 101 #[.slice A0 l0.length c0] w fun e w' => ∃ v0_ : Value, e = .returned (v0_) ∧ Kd.R (Kd.int .i64) 3 w' w.heap.size (fun _ => True) v0_ r ∧ Below w.heap.size w w' := by
 have q_nil : ∀ (w : World) (a : Option Addr) (n c n' c' : Nat), (binOp .eql 61 (.slice a n c) (.slice none n' c')).run Try.prog w = .ok (.bool a.isNone) w := fun w a n c n' c' => Lib.run_eql_slice_nil w _ _ a n c n' c' Try.underlying61
 rcases A0 with _ | ad0
 ·have h0_ : l0 = [] := by
   rcases Nat.eq_zero_or_pos l0.length with h0 | h0
   ·exact List.eq_nil_of_length_eq_zero h0
   ·obtain ⟨ad, h, _⟩ := hr0.2.2 h0
    cases h
  subst h0_
  have hr_ : r = [] := by simpa [slices_Clone_int.f] using h.symm
  subst hr_
  clear hr0 h
  go_enter Try.func101, Try.ntmps101
  go_wp2
  go_ret
  exact ⟨_, rfl, Kd.R_nil _ _ _ _ _, Below.refl _ _⟩
 have HR0 := Aside0.mk hr0
 have HC0 := Aside0.mk hc0
 clear hr0 hc0
 have HB := Aside0.mk (Below.refl w.heap.size w)
 have H : ((some (([] : List Int) : List Int)).bind fun y417 => (if y417.length + l0.length < 17592186044416 then (some (y417 ++ l0)) else (none))) = some r := h
 clear h
 first | ((with_reducible have hz_ := gy_ H); obtain ⟨y417, Ny417, H⟩ := hz_) | (generalize hy_ : ((([] : List Int)) : List Int) = y417 at H; have Ny417 := Aside0.mk hy_.symm; clear hy_)
 obtain ⟨c2, H⟩ := ifs_ H
 have LMc2 := Aside0.mk c2
 clear c2
 first | ((with_reducible have hz_ := gy_ H); obtain ⟨y420, Ny420, H⟩ := hz_) | (generalize hy_ : ((y417 ++ l0) : List Int) = y420 at H; have Ny420 := Aside0.mk hy_.symm; clear hy_)
 obtain rfl := Option.some.inj H
 go_enter Try.func101, Try.ntmps101
 go_wp2_with (first | ((with_reducible refine gate_dst (N := 5) rfl ?_); refine Kd.R_lit (Kd.int .i64) _ 3 ?hg (N := 5) ?hd (xs := ([] : List Int)) (inner := []) (ok := fun _ => True) (okp := fun _ => True) ?hr ?hp (fun _ hk => hk) trivial (Below.refl _ _) (Nat.le_refl _) (by simp) ?_; (case hd => rfl); (case hg => rfl); (case hr => exact z10_); (case hp => exact z97_); intro v418 w3 ho4 hb hg_ hnew_; clear hg_ hnew_; (first | rw [← Ny417.out] at ho4 | (simp only [Int.reduceToNat] at ho4; rw [← Ny417.out] at ho4)); have HO419 := Aside0.mk (Kd.R_lower ho4 (below_size z0_)); replace HB := Aside0.mk (below_step z0_ hb); clear hb ho4) | ((with_reducible refine gate_builtin (b := .append) (xs := #[.tmp 5, .tmp 6]) rfl ?_); at_builtin; refine Kd.R_append_rows (Kd.int .i64) (w0 := w) w.heap.size rfl (.tmp 5) (.tmp 6) 61 3 (.int .i64 0) 8 rfl Try.underlying61 info3 rfl (by decide) (by omega) v418 y417 l0 _ _ _ (fun _ => True) (fun _ => False) rfl rfl ?aO ?aR (fun _ _ h => h) (fun _ h => h.elim) ?aF ?aB ?aS ?aL ?_; (case aR => exact z2_); (case aB => exact z31_); (case aF => exact z98_); (case aO => exact (by (with_reducible repeat (first | apply Kd.R_alloc | apply Kd.R_drewN | apply Kd.R_drew)); exact HO419.out)); (case aS => exact z42_); (case aL => have := LMc2.out; omega); intro v421 w5 ho hb hg hat; rw [← Ny420.out] at ho; replace HB := Aside0.mk (hb); have HO422 := Aside0.mk (ho); clear HO419; clear ho hb hg hat))
 go_ret
 exact ⟨_, z4_, by (with_reducible repeat (first | apply Kd.R_alloc | apply Kd.R_drewN | apply Kd.R_drew)); exact HO422.out, z0_⟩

/-! ### impl_undone: function 67 -/
def impl_undone.f (k : Nat) (l0 : List (S80)) (a1_0 : Int) (l1_1 : List Int) (a1_2 : Int) (a1_3 : Int) (a1_4 : Int) : Option (Int × List Int × Int × Int × Int) := (impl_NodeAt.f k l0 l1_1).bind fun t425 => (if a1_0 = 1 then ((slices_Clone_int.f l1_1).bind fun t426 => (if 0 ≤ t425 then (if t425 < (l0.length : Int) then (some (1, t426, (rd_T80 l0 t425).f0, 0, 0)) else (none)) else (none))) else (if a1_0 = 2 then (if 0 ≤ (wrap64 ((l1_1.length : Int) - 1)) then (if (wrap64 ((l1_1.length : Int) - 1)) ≤ (l1_1.length : Int) then ((slices_Clone_int.f (l1_1.take ((wrap64 ((l1_1.length : Int) - 1)) : Int).toNat)).bind fun t431 => (if 0 ≤ t425 then (if t425 < (l0.length : Int) then (if (wrap64 ((l1_1.length : Int) - 1)) < (l1_1.length : Int) then ((impl_KidsOf.f k l0 t425).bind fun t436 => (some (3, t431, (rd_T80 l0 t425).f0, rd l1_1 (wrap64 ((l1_1.length : Int) - 1)), (t436.length : Int)))) else (none)) else (none)) else (none))) else (none)) else (none)) else ((slices_Clone_int.f l1_1).bind fun t439 => ((some (([a1_3] : List Int) : List Int)).bind fun y442 => (if t439.length + y442.length < 17592186044416 then (some (2, (t439 ++ y442), 0, 0, 0)) else (none))))))
def impl_undone.T4 : Bool × List (List Nat × List Nat) := (true, [([], []), ([0], [0]), ([1], [1]), ([], []), ([], []), ([3, 4], [3, 4]), ([5], [5]), ([6], [6]), ([2, 7], [2, 7]), ([8, 2, 0, 1, 2, 3, 4, 5, 6, 7, 8], [8])])
def impl_undone.B4 : List Nat := [0, 1, 3, 0, 0, 24, 56, 120, 255, 511]
theorem impl_undone.tab4 : rtab .any (opsOf Try.f67 4) = impl_undone.T4 := by kernel_rfl
theorem impl_undone.bits4 : waitsOk impl_undone.T4.2 impl_undone.B4 = true := by kernel_rfl
def impl_undone.T7 : Bool × List (List Nat × List Nat) := (true, [([], []), ([0], [0]), ([], []), ([1, 2], [1, 2]), ([3], [3]), ([], []), ([], []), ([5, 6], [5, 6]), ([7], [7]), ([8], [8]), ([], []), ([10], [10]), ([], []), ([11, 12], [11, 12]), ([13], [13]), ([], []), ([], []), ([15, 16, 4], [15, 16]), ([17], [17]), ([4, 9, 14, 18], [4, 9, 14, 18]), ([19, 17, 0, 1, 2, 3, 4, 5, 6, 7, 8, 9, 10, 11, 12, 13, 14, 15, 16, 17, 18, 19], [19])])
def impl_undone.B7 : List Nat := [0, 1, 0, 7, 15, 0, 0, 96, 224, 480, 0, 1024, 0, 7168, 15360, 0, 0, 98335, 229407, 524287, 1048575]
theorem impl_undone.tab7 : rtab .any (opsOf Try.f67 7) = impl_undone.T7 := by kernel_rfl
theorem impl_undone.bits7 : waitsOk impl_undone.T7.2 impl_undone.B7 = true := by kernel_rfl
def impl_undone.T8 : Bool × List (List Nat × List Nat) := (true, [([], []), ([0], [0]), ([1], [1]), ([], []), ([3], [3]), ([4], [4]), ([2, 5, 2], [2, 5]), ([6], [6]), ([7, 6, 0, 1, 2, 3, 4, 5, 6, 7], [7])])
def impl_undone.B8 : List Nat := [0, 1, 3, 0, 8, 24, 63, 127, 255]
theorem impl_undone.tab8 : rtab .any (opsOf Try.f67 8) = impl_undone.T8 := by kernel_rfl
theorem impl_undone.bits8 : waitsOk impl_undone.T8.2 impl_undone.B8 = true := by kernel_rfl
set_option maxHeartbeats 8000000 in
set_option maxRecDepth 100000 in
theorem impl_undone.calls (k : Nat) (A0 : Option Addr) (c0 : Nat) (l0 : List (S80)) (a1_0 : Int) (A1_1 : Option Addr) (c1_1 : Nat) (l1_1 : List Int) (a1_2 : Int) (a1_3 : Int) (a1_4 : Int) (r1 : Int) (r2 : List Int) (r3 : Int) (r4 : Int) (r5 : Int) (w : World) (hr0 : Kd.C k80 w A0 l0.length l0) (hc0 : l0.length ≤ c0) (hr1_1 : Kd.C (Kd.int .i64) w A1_1 l1_1.length l1_1) (hc1_1 : l1_1.length ≤ c1_1) (h : impl_undone.f k l0 a1_0 l1_1 a1_2 a1_3 a1_4 = some (r1, r2, r3, r4, r5)) :
  Calls Try.prog 67 #[.slice A0 l0.length c0, .agg #[.int .i64 a1_0, .slice A1_1 l1_1.length c1_1, .int .i64 a1_2, .int .i64 a1_3, .int .i64 a1_4]] w fun e w' => ∃ v1_ : Value, e = .returned (.agg #[.int .i64 r1, v1_, .int .i64 r3, .int .i64 r4, .int .i64 r5]) ∧ Kd.R (Kd.int .i64) 3 w' w.heap.size (fun _ => True) v1_ r2 ∧ Below w.heap.size w w' := by
 have hu78 := Try.underlying78
 have HR0 := Aside0.mk hr0
 have HC0 := Aside0.mk hc0
 clear hr0 hc0
 have HR1_1 := Aside0.mk hr1_1
 have HC1_1 := Aside0.mk hc1_1
 clear hr1_1 hc1_1
 have HB := Aside0.mk (Below.refl w.heap.size w)
 have H : ((impl_NodeAt.f k l0 l1_1).bind fun t425 => (if a1_0 = 1 then ((slices_Clone_int.f l1_1).bind fun t426 => (if 0 ≤ t425 then (if t425 < (l0.length : Int) then (some (1, t426, (rd_T80 l0 t425).f0, 0, 0)) else (none)) else (none))) else (if a1_0 = 2 then (if 0 ≤ (wrap64 ((l1_1.length : Int) - 1)) then (if (wrap64 ((l1_1.length : Int) - 1)) ≤ (l1_1.length : Int) then ((slices_Clone_int.f (l1_1.take ((wrap64 ((l1_1.length : Int) - 1)) : Int).toNat)).bind fun t431 => (if 0 ≤ t425 then (if t425 < (l0.length : Int) then (if (wrap64 ((l1_1.length : Int) - 1)) < (l1_1.length : Int) then ((impl_KidsOf.f k l0 t425).bind fun t436 => (some (3, t431, (rd_T80 l0 t425).f0, rd l1_1 (wrap64 ((l1_1.length : Int) - 1)), (t436.length : Int)))) else (none)) else (none)) else (none))) else (none)) else (none)) else ((slices_Clone_int.f l1_1).bind fun t439 => ((some (([a1_3] : List Int) : List Int)).bind fun y442 => (if t439.length + y442.length < 17592186044416 then (some (2, (t439 ++ y442), 0, 0, 0)) else (none))))))) = some (r1, r2, r3, r4, r5) := h
 clear h
 obtain ⟨t425, A3, H⟩ := bnd_ H
 by_cases c4 : a1_0 = 1
 ·rw [if_pos c4] at H
  have c4b0 : (a1_0 == 1) = true := beq_iff_eq.mpr c4
  have c4b1 : (a1_0 != 1) = false := bne_eq_false_iff_eq.mpr c4
  clear c4
  obtain ⟨t426, A5, H⟩ := bnd_ H
  obtain ⟨c6b0, H⟩ := ifd_ H
  obtain ⟨c7b0, H⟩ := ifd_ H
  simp only [Option.some.injEq, Prod.mk.injEq] at H
  obtain ⟨rfl, rfl, rfl, rfl, rfl⟩ := H
  go_enter Try.func67, Try.ntmps67
  try go_wp2_with (first | ((with_reducible refine gate_dst (N := 3) rfl ?_); refine box_event ?hg (N := 3) ?hd (cs := #[.int .i64 a1_0, .slice A1_1 l1_1.length c1_1, .int .i64 a1_2, .int .i64 a1_3, .int .i64 a1_4]) (t := 78) ?hr ?_; (case hd => rfl); (case hg => rfl); (case hr => exact z10_); intro gb423 hg w8 hbox hb; have BK423 := Aside0.mk (hbox); have GW423 := Aside0.mk ((by rw [hg]; exact (below_size z0_) : w.heap.size ≤ gb423)); have GE423 := Aside0.mk ((by rw [hg]; exact (below_size z0_) : w.heap.size ≤ gb423)); replace HB := Aside0.mk (below_step z0_ hb); clear hb hbox hg) | ((with_reducible refine gate_dst (N := 4) rfl ?_); refine box_event ?hg (N := 4) ?hd (cs := #[.int .i64 0, .slice none 0 0, .int .i64 0, .int .i64 0, .int .i64 0]) (t := 78) ?hr ?_; (case hd => rfl); (case hg => rfl); (case hr => exact z10_); intro gb424 hg w9 hbox hb; have BK424 := Aside0.mk (hbox); have GW424 := Aside0.mk ((by rw [hg]; exact (below_size z50_) : w.heap.size ≤ gb424)); have GE424 := Aside0.mk ((by rw [hg]; exact (below_size z50_) : w.heap.size ≤ gb424)); replace HB := Aside0.mk (below_step z50_ hb); have NB423_424 := Aside0.mk ((by rw [hg]; exact Nat.ne_of_lt (blk_lt (g := gb423) (o := .cells #[.int .i64 a1_0, .slice A1_1 l1_1.length c1_1, .int .i64 a1_2, .int .i64 a1_3, .int .i64 a1_4] 78 (0, 0)) z28_) : gb423 ≠ gb424)); have NB424_423 := Aside0.mk ((by rw [hg]; exact Nat.ne_of_gt (blk_lt (g := gb423) (o := .cells #[.int .i64 a1_0, .slice A1_1 l1_1.length c1_1, .int .i64 a1_2, .int .i64 a1_3, .int .i64 a1_4] 78 (0, 0)) z28_) : gb424 ≠ gb423)); replace BK423 := Aside0.mk (blk_below (g := gb423) (o := .cells #[.int .i64 a1_0, .slice A1_1 l1_1.length c1_1, .int .i64 a1_2, .int .i64 a1_3, .int .i64 a1_4] 78 (0, 0)) z28_ hb); clear hb hbox hg; have hnb10 := NB423_424.out; have hnc10 := NB424_423.out; obtain ⟨hcz11_0, hcz11_1, hcz11_2, hcz11_3, hcz11_4, hfz11_0, hfz11_1, hfz11_2, hfz11_3, hfz11_4⟩ := bx5_ BK423.out) | ((with_reducible refine gate_callee (f := 78) rfl ?_); refine goesL_ (some 10) rfl rfl Try.func78 (by kernel_rfl) rfl #[.slice A0 l0.length c0, .slice A1_1 l1_1.length c1_1] rfl z1_ ?_; (with_reducible refine (impl_NodeAt.calls k _ _ l0 _ _ l1_1 t425 _ ?side1 ?side2 ?side3 ?side4 A3.out).mono ?_); (case side1 => exact z2_); (case side2 => exact HC0.out); (case side3 => exact z7_); (case side4 => exact HC1_1.out); rintro e w12 ⟨rfl, hb⟩; refine ⟨_, rfl, ?_⟩; replace BK423 := Aside0.mk (blk_below (g := gb423) (o := .cells #[.int .i64 a1_0, .slice A1_1 l1_1.length c1_1, .int .i64 a1_2, .int .i64 a1_3, .int .i64 a1_4] 78 (0, 0)) z28_ hb); replace BK424 := Aside0.mk (blk_below (g := gb424) (o := .cells #[.int .i64 0, .slice none 0 0, .int .i64 0, .int .i64 0, .int .i64 0] 78 (0, 0)) z46_ hb); replace HB := Aside0.mk (below_step z9_ hb); (try clear hb); obtain ⟨hcz13_0, hcz13_1, hcz13_2, hcz13_3, hcz13_4, hfz13_0, hfz13_1, hfz13_2, hfz13_3, hfz13_4⟩ := bx5_ BK423.out))
  have n0_ := Aside0.mk (blk_drew BK423.out)
  have n1_ := Aside0.mk (blk_drew BK424.out)
  have n2_ := Aside0.mk (below_drew1 HB.out)
  clear BK423
  clear BK424
  clear HB
  have BK423 := n0_
  have BK424 := n1_
  have HB := n2_
  clear n0_ n1_ n2_
  obtain ⟨p429, q429, ad429, e429, hw429_0, hw429_1, hx429_0, hx429_1⟩ := atw80_ HR0 HB t425
  cases e429
  refine start_ (n := 10) (S := fun w' => w'.cell? ⟨gb423, 0, none⟩ = some (.int .i64 a1_0) ∧ w'.cell? ⟨gb423, 1, none⟩ = some (.slice A1_1 l1_1.length c1_1) ∧ w'.cell? ⟨gb423, 2, none⟩ = some (.int .i64 a1_2) ∧ w'.cell? ⟨gb423, 3, none⟩ = some (.int .i64 a1_3) ∧ w'.cell? ⟨gb423, 4, none⟩ = some (.int .i64 a1_4) ∧ w'.cell? (ad429.add ((t425).toNat * 2)) = some (.int .i64 ((rd_T80 l0 t425).f0)) ∧ w'.cell? ⟨(ad429.add ((t425).toNat * 2)).block, (ad429.add ((t425).toNat * 2)).off + 1, none⟩ = some (.int .i64 ((rd_T80 l0 t425).f1))) (ds := []) (fl_ 10 0) (by kernel_rfl) rfl (fl_zero _) ⟨(blk_cell BK423.out 0).trans rfl, (blk_cell BK423.out 1).trans rfl, (blk_cell BK423.out 2).trans rfl, (blk_cell BK423.out 3).trans rfl, (blk_cell BK423.out 4).trans rfl, ((HB.out.cell (World.block_lt_of_cell? w _ hw429_0)).trans hw429_0), ((HB.out.cell (World.block_lt_of_cell? w _ hw429_1)).trans hw429_1)⟩ (fun hHeld => ?_); refine with_tabW impl_undone.tab4 impl_undone.bits4 (fun HT_ HW_ => ?_)
  generalize w12.drew = w14 at BK423 BK424 HB hx429_0 hx429_1 hHeld ⊢
  refine zp_ HT_ rfl rfl (by kernel_rfl) (fun _ _ _ h => h) (by rfl) ?_
  refine zpg_ (i := 3) (ra_ [1, 2, 1, 6]) HT_ rfl rfl (by kernel_rfl) (fun _ _ _ h => h) (by rfl) ?_
  refine zpg_ (i := 4) (ra_ [1, 2, 2, 5]) HT_ rfl rfl (by kernel_rfl) (fun _ _ _ h => h) (by rfl) ?_
  refine zpg_ (i := 5) (ra_ [1, 2, 3, 4]) HT_ rfl rfl (by kernel_rfl) (fun _ _ _ h => h) (by rfl) ?_
  refine zpg_ (i := 6) (ra_ [1, 2, 4, 3]) HT_ rfl rfl (by kernel_rfl) (fun _ _ _ h => h) (by rfl) ?_
  refine ztg_ (i := 1) (ra_ [2, 1, 4, 3]) HT_ HW_ rfl rfl (by kernel_rfl) (fun _ _ _ h => h) (by rfl) hHeld ?_ z107_
  refine ztg_ (i := 7) (ra_ [2, 1, 5, 2]) HT_ HW_ rfl rfl (by kernel_rfl) (fun _ _ _ h => h) (by rfl) hHeld ?_ z107_
  refine one_ (i := 2) (N := some 17) (fl_ 10 8) rfl rfl (one_of HT_.out (by kernel_rfl)) (by decide) (fun K hK => ?_)
  refine goes_ Try.func101 (by kernel_rfl) rfl #[.slice A1_1 l1_1.length c1_1] (by rfl) rfl rfl z1_ ?_
  with_reducible refine (slices_Clone_int.calls _ _ l1_1 t426 _ ?side1 ?side2 A5.out).mono ?_
  (case side1 => exact z7_)
  (case side2 => exact HC1_1.out)
  rintro e w15 ⟨v427, rfl, ho0, hb⟩
  refine ⟨_, rfl, ?_⟩
  have n0_ := Aside0.mk (Kd.R_lower ho0 (below_size z9_))
  have n1_ := Aside0.mk (blk_below (g := gb423) (o := .cells #[.int .i64 a1_0, .slice A1_1 l1_1.length c1_1, .int .i64 a1_2, .int .i64 a1_3, .int .i64 a1_4] 78 (0, 0)) z28_ hb)
  have n2_ := Aside0.mk (blk_below (g := gb424) (o := .cells #[.int .i64 0, .slice none 0 0, .int .i64 0, .int .i64 0, .int .i64 0] 78 (0, 0)) z46_ hb)
  have n3_ := Aside0.mk (below_step z9_ hb)
  clear BK423
  clear BK424
  clear HB
  have HO428 := n0_
  have BK423 := n1_
  have BK424 := n2_
  have HB := n3_
  clear n0_ n1_ n2_ n3_
  (try clear hb)
  (try clear hb2)
  (try clear hk)
  (try clear hi)
  (try clear ho0)
  obtain ⟨Ao16, co16, eo16⟩ := Kd.R_slice HO428.out
  (first | subst eo16 | (injection eo16 with f1_ f2_ f3_; have f4_ := f1_.symm; have f5_ := f3_.symm; clear f1_ f2_ f3_; subst f4_; subst f5_))
  refine hK.out _ _ ⟨(blk_cell BK423.out 0).trans rfl, (blk_cell BK423.out 1).trans rfl, (blk_cell BK423.out 2).trans rfl, (blk_cell BK423.out 3).trans rfl, (blk_cell BK423.out 4).trans rfl, ((HB.out.cell (World.block_lt_of_cell? w _ hw429_0)).trans hw429_0), ((HB.out.cell (World.block_lt_of_cell? w _ hw429_1)).trans hw429_1)⟩ (fun hHeld => ?_)
  clear hK K
  refine zn_ rfl ?_
  refine zp_ HT_ rfl rfl (by kernel_rfl) (fun _ _ _ h => h) (by rfl) ?_
  refine one_ (i := 9) (N := none) (fl_ 10 10) rfl rfl (one_of HT_.out (by kernel_rfl)) (by decide) (fun K hK => ?_)
  have hs17 : w15.cell? ⟨gb424, 0, none⟩ = some (.int .i64 0) := (blk_cell BK424.out 0).trans rfl
  have hfs17 := blk_frozen BK424.out 0
  have hns17_0 := NB423_424.out
  have hms17_0 := NB424_423.out
  have hs18 : w15.cell? ⟨gb424, 1, none⟩ = some (.slice none 0 0) := (blk_cell BK424.out 1).trans rfl
  have hfs18 := blk_frozen BK424.out 1
  have hns18_0 := NB423_424.out
  have hms18_0 := NB424_423.out
  have hs19 : w15.cell? ⟨gb424, 2, none⟩ = some (.int .i64 0) := (blk_cell BK424.out 2).trans rfl
  have hfs19 := blk_frozen BK424.out 2
  have hns19_0 := NB423_424.out
  have hms19_0 := NB424_423.out
  have hs20 : w15.cell? ⟨gb424, 3, none⟩ = some (.int .i64 0) := (blk_cell BK424.out 3).trans rfl
  have hfs20 := blk_frozen BK424.out 3
  have hns20_0 := NB423_424.out
  have hms20_0 := NB424_423.out
  have hs21 : w15.cell? ⟨gb424, 4, none⟩ = some (.int .i64 0) := (blk_cell BK424.out 4).trans rfl
  have hfs21 := blk_frozen BK424.out 4
  have hns21_0 := NB423_424.out
  have hms21_0 := NB424_423.out
  refine skip_ (w1 := ?_) (by rfl) rfl ?_ ?_
  rotate_left
  ·go_simp
   rfl
  refine hK.out _ _ ⟨((cell_far (p := ⟨gb424, _, none⟩) NB423_424.out _).trans (((cell_far (p := ⟨gb424, _, none⟩) NB423_424.out _).trans (((cell_far (p := ⟨gb424, _, none⟩) NB423_424.out _).trans (((cell_far (p := ⟨gb424, _, none⟩) NB423_424.out _).trans (((cell_far (p := ⟨gb424, _, none⟩) NB423_424.out _).trans (hHeld.1)))))))))), ((cell_far (p := ⟨gb424, _, none⟩) NB423_424.out _).trans (((cell_far (p := ⟨gb424, _, none⟩) NB423_424.out _).trans (((cell_far (p := ⟨gb424, _, none⟩) NB423_424.out _).trans (((cell_far (p := ⟨gb424, _, none⟩) NB423_424.out _).trans (((cell_far (p := ⟨gb424, _, none⟩) NB423_424.out _).trans (hHeld.2.1)))))))))), ((cell_far (p := ⟨gb424, _, none⟩) NB423_424.out _).trans (((cell_far (p := ⟨gb424, _, none⟩) NB423_424.out _).trans (((cell_far (p := ⟨gb424, _, none⟩) NB423_424.out _).trans (((cell_far (p := ⟨gb424, _, none⟩) NB423_424.out _).trans (((cell_far (p := ⟨gb424, _, none⟩) NB423_424.out _).trans (hHeld.2.2.1)))))))))), ((cell_far (p := ⟨gb424, _, none⟩) NB423_424.out _).trans (((cell_far (p := ⟨gb424, _, none⟩) NB423_424.out _).trans (((cell_far (p := ⟨gb424, _, none⟩) NB423_424.out _).trans (((cell_far (p := ⟨gb424, _, none⟩) NB423_424.out _).trans (((cell_far (p := ⟨gb424, _, none⟩) NB423_424.out _).trans (hHeld.2.2.2.1)))))))))), ((cell_far (p := ⟨gb424, _, none⟩) NB423_424.out _).trans (((cell_far (p := ⟨gb424, _, none⟩) NB423_424.out _).trans (((cell_far (p := ⟨gb424, _, none⟩) NB423_424.out _).trans (((cell_far (p := ⟨gb424, _, none⟩) NB423_424.out _).trans (((cell_far (p := ⟨gb424, _, none⟩) NB423_424.out _).trans (hHeld.2.2.2.2.1)))))))))), ((cell_far (p := ⟨gb424, _, none⟩) z17_ _).trans (((cell_far (p := ⟨gb424, _, none⟩) z17_ _).trans (((cell_far (p := ⟨gb424, _, none⟩) z17_ _).trans (((cell_far (p := ⟨gb424, _, none⟩) z17_ _).trans (((cell_far (p := ⟨gb424, _, none⟩) z17_ _).trans (hHeld.2.2.2.2.2.1)))))))))), ((cell_far (p := ⟨gb424, _, none⟩) z18_ _).trans (((cell_far (p := ⟨gb424, _, none⟩) z18_ _).trans (((cell_far (p := ⟨gb424, _, none⟩) z18_ _).trans (((cell_far (p := ⟨gb424, _, none⟩) z18_ _).trans (((cell_far (p := ⟨gb424, _, none⟩) z18_ _).trans (hHeld.2.2.2.2.2.2))))))))))⟩ (fun hHeld => ?_)
  clear hK K
  refine done_ (done_of HT_.out (by kernel_rfl)) ?_
  try go_wp2
  refine bodyPost_ret (results_cell_row rfl _ _ gb424 78 #[.int .i64 1, .slice Ao16 t426.length co16, .int .i64 ((rd_T80 l0 t425).f0), .int .i64 0, .int .i64 0] (0, 0) _ rfl (by (with_reducible repeat (first | refine blk_drewN ?_ _ | refine blk_drew ?_ | refine blk_alloc ?_ _)); refine blk_put (cs := #[.int .i64 1, .slice Ao16 t426.length co16, .int .i64 ((rd_T80 l0 t425).f0), .int .i64 0, .int .i64 0]) ?_ 4 _ rfl; (with_reducible repeat (first | refine blk_drewN ?_ _ | refine blk_drew ?_ | refine blk_alloc ?_ _)); refine blk_put (cs := #[.int .i64 1, .slice Ao16 t426.length co16, .int .i64 ((rd_T80 l0 t425).f0), .int .i64 0, .int .i64 0]) ?_ 3 _ rfl; (with_reducible repeat (first | refine blk_drewN ?_ _ | refine blk_drew ?_ | refine blk_alloc ?_ _)); refine blk_put (cs := #[.int .i64 1, .slice Ao16 t426.length co16, .int .i64 0, .int .i64 0, .int .i64 0]) ?_ 2 _ rfl; (with_reducible repeat (first | refine blk_drewN ?_ _ | refine blk_drew ?_ | refine blk_alloc ?_ _)); refine blk_put (cs := #[.int .i64 1, .slice none 0 0, .int .i64 0, .int .i64 0, .int .i64 0]) ?_ 1 _ rfl; (with_reducible repeat (first | refine blk_drewN ?_ _ | refine blk_drew ?_ | refine blk_alloc ?_ _)); refine blk_put (cs := #[.int .i64 0, .slice none 0 0, .int .i64 0, .int .i64 0, .int .i64 0]) ?_ 0 _ rfl; (with_reducible repeat (first | refine blk_drewN ?_ _ | refine blk_drew ?_ | refine blk_alloc ?_ _)); exact BK424.out) Try.underlying78 rfl (by kernel_rfl)) rfl ?_
  exact ⟨_, z4_, by (with_reducible repeat (first | apply Kd.R_alloc | apply Kd.R_drewN | apply Kd.R_drew)); exact Kd.R_mono (Kd.R_far (p := ⟨gb424, 4, none⟩) (Kd.R_far (p := ⟨gb424, 3, none⟩) (Kd.R_far (p := ⟨gb424, 2, none⟩) (Kd.R_far (p := ⟨gb424, 1, none⟩) (Kd.R_far (p := ⟨gb424, 0, none⟩) (Kd.R_types HO428.out BK424.out (by decide)) (fun _ hk => hk.2) (.int .i64 1)) (fun _ hk => hk.2) (.slice Ao16 t426.length co16)) (fun _ hk => hk.2) (.int .i64 ((rd_T80 l0 t425).f0))) (fun _ hk => hk.2) (.int .i64 0)) (fun _ hk => hk.2) (.int .i64 0)) (fun _ hk => trivial), z9_⟩
 ·rw [if_neg c4] at H
  have c4b0 : (a1_0 == 1) = false := beq_eq_false_iff_ne.mpr c4
  have c4b1 : (a1_0 != 1) = true := bne_iff_ne.mpr c4
  by_cases c22 : a1_0 = 2
  ·rw [if_pos c22] at H
   have c22b0 : (a1_0 == 2) = true := beq_iff_eq.mpr c22
   have c22b1 : (a1_0 != 2) = false := bne_eq_false_iff_eq.mpr c22
   clear c22
   obtain ⟨ji23, hji23⟩ : ∃ j_ : Int, (wrap64 ((l1_1.length : Int) - 1)) = j_ := ⟨_, rfl⟩
   first | rw [hji23] at H | simp only [hji23] at H
   (try rw [hji23] at A3)
   have hji23w : (IntKind.i64.wrap ((l1_1.length : Int) - 1)) = ji23 := (i64_w _).trans hji23
   obtain ⟨c24b0, c24b1, H⟩ := ife_ H
   obtain ⟨c25b0, c25b1, H⟩ := ife_ H
   obtain ⟨t431, A26, H⟩ := bnd_ H
   obtain ⟨c27b0, H⟩ := ifd_ H
   obtain ⟨c28b0, H⟩ := ifd_ H
   obtain ⟨c29b0, H⟩ := ifd_ H
   obtain ⟨t436, A30, H⟩ := bnd_ H
   simp only [Option.some.injEq, Prod.mk.injEq] at H
   obtain ⟨rfl, rfl, rfl, rfl, rfl⟩ := H
   go_enter Try.func67, Try.ntmps67
   try go_wp2_with (first | ((with_reducible refine gate_dst (N := 3) rfl ?_); refine box_event ?hg (N := 3) ?hd (cs := #[.int .i64 a1_0, .slice A1_1 l1_1.length c1_1, .int .i64 a1_2, .int .i64 a1_3, .int .i64 a1_4]) (t := 78) ?hr ?_; (case hd => rfl); (case hg => rfl); (case hr => exact z10_); intro gb423 hg w31 hbox hb; have BK423 := Aside0.mk (hbox); have GW423 := Aside0.mk ((by rw [hg]; exact (below_size z0_) : w.heap.size ≤ gb423)); have GE423 := Aside0.mk ((by rw [hg]; exact (below_size z0_) : w.heap.size ≤ gb423)); replace HB := Aside0.mk (below_step z0_ hb); clear hb hbox hg) | ((with_reducible refine gate_dst (N := 4) rfl ?_); refine box_event ?hg (N := 4) ?hd (cs := #[.int .i64 0, .slice none 0 0, .int .i64 0, .int .i64 0, .int .i64 0]) (t := 78) ?hr ?_; (case hd => rfl); (case hg => rfl); (case hr => exact z10_); intro gb424 hg w32 hbox hb; have BK424 := Aside0.mk (hbox); have GW424 := Aside0.mk ((by rw [hg]; exact (below_size z50_) : w.heap.size ≤ gb424)); have GE424 := Aside0.mk ((by rw [hg]; exact (below_size z50_) : w.heap.size ≤ gb424)); replace HB := Aside0.mk (below_step z50_ hb); have NB423_424 := Aside0.mk ((by rw [hg]; exact Nat.ne_of_lt (blk_lt (g := gb423) (o := .cells #[.int .i64 a1_0, .slice A1_1 l1_1.length c1_1, .int .i64 a1_2, .int .i64 a1_3, .int .i64 a1_4] 78 (0, 0)) z28_) : gb423 ≠ gb424)); have NB424_423 := Aside0.mk ((by rw [hg]; exact Nat.ne_of_gt (blk_lt (g := gb423) (o := .cells #[.int .i64 a1_0, .slice A1_1 l1_1.length c1_1, .int .i64 a1_2, .int .i64 a1_3, .int .i64 a1_4] 78 (0, 0)) z28_) : gb424 ≠ gb423)); replace BK423 := Aside0.mk (blk_below (g := gb423) (o := .cells #[.int .i64 a1_0, .slice A1_1 l1_1.length c1_1, .int .i64 a1_2, .int .i64 a1_3, .int .i64 a1_4] 78 (0, 0)) z28_ hb); clear hb hbox hg; have hnb33 := NB423_424.out; have hnc33 := NB424_423.out; obtain ⟨hcz34_0, hcz34_1, hcz34_2, hcz34_3, hcz34_4, hfz34_0, hfz34_1, hfz34_2, hfz34_3, hfz34_4⟩ := bx5_ BK423.out) | ((with_reducible refine gate_callee (f := 78) rfl ?_); refine goesL_ (some 10) rfl rfl Try.func78 (by kernel_rfl) rfl #[.slice A0 l0.length c0, .slice A1_1 l1_1.length c1_1] rfl z1_ ?_; (with_reducible refine (impl_NodeAt.calls k _ _ l0 _ _ l1_1 t425 _ ?side1 ?side2 ?side3 ?side4 A3.out).mono ?_); (case side1 => exact z2_); (case side2 => exact HC0.out); (case side3 => exact z7_); (case side4 => exact HC1_1.out); rintro e w35 ⟨rfl, hb⟩; refine ⟨_, rfl, ?_⟩; replace BK423 := Aside0.mk (blk_below (g := gb423) (o := .cells #[.int .i64 a1_0, .slice A1_1 l1_1.length c1_1, .int .i64 a1_2, .int .i64 a1_3, .int .i64 a1_4] 78 (0, 0)) z28_ hb); replace BK424 := Aside0.mk (blk_below (g := gb424) (o := .cells #[.int .i64 0, .slice none 0 0, .int .i64 0, .int .i64 0, .int .i64 0] 78 (0, 0)) z46_ hb); replace HB := Aside0.mk (below_step z9_ hb); (try clear hb); obtain ⟨hcz36_0, hcz36_1, hcz36_2, hcz36_3, hcz36_4, hfz36_0, hfz36_1, hfz36_2, hfz36_3, hfz36_4⟩ := bx5_ BK423.out))
   have n0_ := Aside0.mk (blk_drew BK423.out)
   have n1_ := Aside0.mk (blk_drew BK424.out)
   have n2_ := Aside0.mk (below_drew1 HB.out)
   clear BK423
   clear BK424
   clear HB
   have BK423 := n0_
   have BK424 := n1_
   have HB := n2_
   clear n0_ n1_ n2_
   obtain ⟨i038, hi038, _, hsz38, _⟩ := info_parts info3
   obtain ⟨hcut38, hA38, hC38⟩ := print_take_of (P := Try.prog) (Value.int .i64) 0 61 3 .i64 Try.underlying61 hi038 hsz38 A1_1 c1_1 l1_1 (ji23) (odt_) (odt_) HC1_1.out
   have HR430 := Aside0.mk (Kd.C_of_reads (h1 := fun _ => rfl) (hA38 _ (Kd.reads_of_C HR1_1.out)))
   have HC430 := Aside0.mk hC38
   clear hA38 hC38 hi038 hsz38
   obtain ⟨p434, q434, ad434, e434, hw434_0, hw434_1, hx434_0, hx434_1⟩ := atw80_ HR0 HB t425
   cases e434
   have p435 : 0 ≤ ((ji23) : Int) := odt_
   have q435 : (ji23) < (l1_1.length : Int) := odt_
   obtain ⟨ad435, e435, hx435_0⟩ := Kd.at_int HR1_1.out (ji23) p435 q435
   have hw435_0 := hx435_0
   cases e435
   replace hx435_0 := (HB.out.cell (World.block_lt_of_cell? w _ hx435_0)).trans hx435_0
   replace p435 := eq_true p435
   replace q435 := eq_true q435
   refine start_ (n := 21) (S := fun w' => w'.cell? ⟨gb423, 0, none⟩ = some (.int .i64 a1_0) ∧ w'.cell? ⟨gb423, 1, none⟩ = some (.slice (some ad435) l1_1.length c1_1) ∧ w'.cell? ⟨gb423, 2, none⟩ = some (.int .i64 a1_2) ∧ w'.cell? ⟨gb423, 3, none⟩ = some (.int .i64 a1_3) ∧ w'.cell? ⟨gb423, 4, none⟩ = some (.int .i64 a1_4) ∧ w'.cell? (ad434.add ((t425).toNat * 2)) = some (.int .i64 ((rd_T80 l0 t425).f0)) ∧ w'.cell? ⟨(ad434.add ((t425).toNat * 2)).block, (ad434.add ((t425).toNat * 2)).off + 1, none⟩ = some (.int .i64 ((rd_T80 l0 t425).f1)) ∧ w'.cell? (ad435.add ((ji23)).toNat) = some (.int .i64 (rd l1_1 (ji23)))) (ds := []) (fl_ 21 0) (by kernel_rfl) rfl (fl_zero _) ⟨(blk_cell BK423.out 0).trans rfl, (blk_cell BK423.out 1).trans rfl, (blk_cell BK423.out 2).trans rfl, (blk_cell BK423.out 3).trans rfl, (blk_cell BK423.out 4).trans rfl, ((HB.out.cell (World.block_lt_of_cell? w _ hw434_0)).trans hw434_0), ((HB.out.cell (World.block_lt_of_cell? w _ hw434_1)).trans hw434_1), ((HB.out.cell (World.block_lt_of_cell? w _ hw435_0)).trans hw435_0)⟩ (fun hHeld => ?_); refine with_tabW impl_undone.tab7 impl_undone.bits7 (fun HT_ HW_ => ?_)
   generalize w35.drew = w37 at BK423 BK424 HB HR430 hx434_0 hx434_1 hx435_0 hHeld ⊢
   refine zp_ HT_ rfl rfl (by kernel_rfl) (fun _ _ _ h => h) (by rfl) ?_
   refine zpg_ (i := 2) (ra_ [1, 1, 1, 18]) HT_ rfl rfl (by kernel_rfl) (fun _ _ _ h => h) (by rfl) ?_
   refine zpg_ (i := 5) (ra_ [1, 1, 1, 2, 1, 15]) HT_ rfl rfl (by kernel_rfl) (fun _ _ _ h => h) (by rfl) ?_
   refine zpg_ (i := 6) (ra_ [1, 1, 1, 2, 2, 14]) HT_ rfl rfl (by kernel_rfl) (fun _ _ _ h => h) (by rfl) ?_
   refine zpg_ (i := 7) (ra_ [1, 1, 1, 2, 3, 13]) HT_ rfl rfl (by kernel_rfl) (fun _ _ _ h => h) (by rfl) ?_
   refine zpg_ (i := 8) (ra_ [1, 1, 1, 2, 4, 12]) HT_ rfl rfl (by kernel_rfl) (fun _ _ _ h => h) (by rfl) ?_
   refine zpg_ (i := 10) (ra_ [1, 1, 1, 2, 4, 1, 1, 10]) HT_ rfl rfl (by kernel_rfl) (fun _ _ _ h => h) (by rfl) ?_
   refine zpg_ (i := 12) (ra_ [1, 1, 1, 2, 4, 1, 1, 1, 1, 8]) HT_ rfl rfl (by kernel_rfl) (fun _ _ _ h => h) (by rfl) ?_
   refine zpg_ (i := 15) (ra_ [1, 1, 1, 2, 4, 1, 1, 1, 1, 2, 1, 5]) HT_ rfl rfl (by kernel_rfl) (fun _ _ _ h => h) (by rfl) ?_
   refine zpg_ (i := 16) (ra_ [1, 1, 1, 2, 4, 1, 1, 1, 1, 2, 2, 4]) HT_ rfl rfl (by kernel_rfl) (fun _ _ _ h => h) (by rfl) ?_
   refine ztg_ (i := 1) (ra_ [3, 2, 4, 1, 1, 1, 1, 2, 2, 4]) HT_ HW_ rfl rfl (by kernel_rfl) (fun _ _ _ h => h) (by rfl) hHeld ?_ z139_
   refine zpg_ (i := 3) (ra_ [4, 1, 4, 1, 1, 1, 1, 2, 2, 4]) HT_ rfl rfl (by kernel_rfl) (fun _ _ _ h => h) (by rfl) ?_
   refine ztg_ (i := 9) (ra_ [4, 1, 6, 1, 1, 2, 2, 4]) HT_ HW_ rfl rfl (by kernel_rfl) (fun _ _ _ h => h) (by rfl) hHeld ?_ z139_
   refine ztg_ (i := 11) (ra_ [4, 1, 8, 2, 2, 4]) HT_ HW_ rfl rfl (by kernel_rfl) (fun _ _ _ h => h) (by rfl) hHeld ?_ z139_
   refine zpg_ (i := 13) (ra_ [4, 1, 9, 1, 2, 4]) HT_ rfl rfl (by kernel_rfl) (fun _ _ _ h => h) (by rfl) ?_
   refine ztg_ (i := 14) (ra_ [4, 1, 12, 4]) HT_ HW_ rfl rfl (by kernel_rfl) (fun _ _ _ h => h) (by rfl) hHeld ?_ z139_
   refine one_ (i := 4) (N := some 34) (fl_ 21 17) rfl rfl (one_of HT_.out (by kernel_rfl)) (by decide) (fun K hK => ?_)
   refine goes_ Try.func101 (by kernel_rfl) rfl #[.slice (some ad435) (l1_1.take ((ji23) : Int).toNat).length c1_1] (by rfl) rfl rfl (by (try simp only [List.map_toArray, List.map_cons, List.map_nil]); first | done | (rw [show (l1_1.take ((ji23) : Int).toNat).length = (ji23).toNat from (by rw [List.length_take]; have h_ : ((ji23) : Int) ≤ (l1_1.length : Int) := odt_; omega)] <;> rfl) | (simp only [hji23]; rfl) | rfl | (simp only [List.length_drop, List.length_take]; rfl)) ?_
   with_reducible refine (slices_Clone_int.calls _ _ (l1_1.take ((ji23) : Int).toNat) t431 _ ?side1 ?side2 A26.out).mono ?_
   (case side1 => repeat (first | exact (Kd.C_below HR430.out HB.out) | (with_reducible refine Kd.C_alloc ?_ _) | (with_reducible refine Kd.C_drewN ?_ _) | (with_reducible refine Kd.C_drew ?_)))
   (case side2 => exact HC430.out)
   rintro e w39 ⟨v432, rfl, ho0, hb⟩
   refine ⟨_, rfl, ?_⟩
   have n0_ := Aside0.mk (Kd.R_lower ho0 (below_size z9_))
   have n1_ := Aside0.mk (blk_below (g := gb423) (o := .cells #[.int .i64 a1_0, .slice (some ad435) l1_1.length c1_1, .int .i64 a1_2, .int .i64 a1_3, .int .i64 a1_4] 78 (0, 0)) z28_ hb)
   have n2_ := Aside0.mk (blk_below (g := gb424) (o := .cells #[.int .i64 0, .slice none 0 0, .int .i64 0, .int .i64 0, .int .i64 0] 78 (0, 0)) z46_ hb)
   have n3_ := Aside0.mk (below_step z9_ hb)
   clear BK423
   clear BK424
   clear HB
   have HO433 := n0_
   have BK423 := n1_
   have BK424 := n2_
   have HB := n3_
   clear n0_ n1_ n2_ n3_
   (try clear hb)
   (try clear hb2)
   (try clear hk)
   (try clear hi)
   (try clear ho0)
   refine hK.out _ _ ⟨(blk_cell BK423.out 0).trans rfl, (blk_cell BK423.out 1).trans rfl, (blk_cell BK423.out 2).trans rfl, (blk_cell BK423.out 3).trans rfl, (blk_cell BK423.out 4).trans rfl, ((HB.out.cell (World.block_lt_of_cell? w _ hw434_0)).trans hw434_0), ((HB.out.cell (World.block_lt_of_cell? w _ hw434_1)).trans hw434_1), ((HB.out.cell (World.block_lt_of_cell? w _ hw435_0)).trans hw435_0)⟩ (fun hHeld => ?_)
   clear hK K
   refine zn_ rfl ?_
   refine one_ (i := 17) (N := some 47) (fl_ 21 18) rfl rfl (one_of HT_.out (by kernel_rfl)) (by decide) (fun K hK => ?_)
   refine goes_ Try.func106 (by kernel_rfl) rfl #[.slice (some ad434) l0.length c0, .int .i64 t425] (by rfl) rfl rfl z1_ ?_
   with_reducible refine (impl_KidsOf.calls k _ _ l0 t425 t436 _ ?side1 ?side2 A30.out).mono ?_
   (case side1 => exact z2_)
   (case side2 => exact HC0.out)
   rintro e w40 ⟨v437, rfl, ho0, hb⟩
   refine ⟨_, rfl, ?_⟩
   have n0_ := Aside0.mk (Kd.R_elder' z155_ (Kd.R_base ho0) hb)
   have n1_ := Aside0.mk (Kd.R_lower (Kd.R_new' ho0 (Kd.R_lt z155_)) (below_size z9_))
   have n2_ := Aside0.mk (blk_below (g := gb423) (o := .cells #[.int .i64 a1_0, .slice (some ad435) l1_1.length c1_1, .int .i64 a1_2, .int .i64 a1_3, .int .i64 a1_4] 78 (0, 0)) z28_ hb)
   have n3_ := Aside0.mk (blk_below (g := gb424) (o := .cells #[.int .i64 0, .slice none 0 0, .int .i64 0, .int .i64 0, .int .i64 0] 78 (0, 0)) z46_ hb)
   have n4_ := Aside0.mk (below_step z9_ hb)
   clear HO433
   clear BK423
   clear BK424
   clear HB
   have HO433 := n0_
   have HO438 := n1_
   have BK423 := n2_
   have BK424 := n3_
   have HB := n4_
   clear n0_ n1_ n2_ n3_ n4_
   (try clear hb)
   (try clear hb2)
   (try clear hk)
   (try clear hi)
   (try clear ho0)
   obtain ⟨Ao41, co41, eo41⟩ := Kd.R_slice HO438.out
   (first | subst eo41 | (injection eo41 with f1_ f2_ f3_; have f4_ := f1_.symm; have f5_ := f3_.symm; clear f1_ f2_ f3_; subst f4_; subst f5_))
   obtain ⟨Ao42, co42, eo42⟩ := Kd.R_slice HO433.out
   (first | subst eo42 | (injection eo42 with f1_ f2_ f3_; have f4_ := f1_.symm; have f5_ := f3_.symm; clear f1_ f2_ f3_; subst f4_; subst f5_))
   refine hK.out _ _ ⟨(blk_cell BK423.out 0).trans rfl, (blk_cell BK423.out 1).trans rfl, (blk_cell BK423.out 2).trans rfl, (blk_cell BK423.out 3).trans rfl, (blk_cell BK423.out 4).trans rfl, ((HB.out.cell (World.block_lt_of_cell? w _ hw434_0)).trans hw434_0), ((HB.out.cell (World.block_lt_of_cell? w _ hw434_1)).trans hw434_1), ((HB.out.cell (World.block_lt_of_cell? w _ hw435_0)).trans hw435_0)⟩ (fun hHeld => ?_)
   clear hK K
   refine zn_ rfl ?_
   iterate 2 refine zp_ HT_ rfl rfl (by kernel_rfl) (fun _ _ _ h => h) (by rfl) ?_
   refine one_ (i := 20) (N := none) (fl_ 21 21) rfl rfl (one_of HT_.out (by kernel_rfl)) (by decide) (fun K hK => ?_)
   have hs43 : w40.cell? ⟨gb424, 0, none⟩ = some (.int .i64 0) := (blk_cell BK424.out 0).trans rfl
   have hfs43 := blk_frozen BK424.out 0
   have hns43_0 := NB423_424.out
   have hms43_0 := NB424_423.out
   have hs44 : w40.cell? ⟨gb424, 1, none⟩ = some (.slice none 0 0) := (blk_cell BK424.out 1).trans rfl
   have hfs44 := blk_frozen BK424.out 1
   have hns44_0 := NB423_424.out
   have hms44_0 := NB424_423.out
   have hs45 : w40.cell? ⟨gb424, 2, none⟩ = some (.int .i64 0) := (blk_cell BK424.out 2).trans rfl
   have hfs45 := blk_frozen BK424.out 2
   have hns45_0 := NB423_424.out
   have hms45_0 := NB424_423.out
   have hs46 : w40.cell? ⟨gb424, 3, none⟩ = some (.int .i64 0) := (blk_cell BK424.out 3).trans rfl
   have hfs46 := blk_frozen BK424.out 3
   have hns46_0 := NB423_424.out
   have hms46_0 := NB424_423.out
   have hs47 : w40.cell? ⟨gb424, 4, none⟩ = some (.int .i64 0) := (blk_cell BK424.out 4).trans rfl
   have hfs47 := blk_frozen BK424.out 4
   have hns47_0 := NB423_424.out
   have hms47_0 := NB424_423.out
   refine skip_ (w1 := ?_) (by rfl) rfl ?_ ?_
   rotate_left
   ·go_simp
    rfl
   refine hK.out _ _ ⟨((cell_far (p := ⟨gb424, _, none⟩) NB423_424.out _).trans (((cell_far (p := ⟨gb424, _, none⟩) NB423_424.out _).trans (((cell_far (p := ⟨gb424, _, none⟩) NB423_424.out _).trans (((cell_far (p := ⟨gb424, _, none⟩) NB423_424.out _).trans (((cell_far (p := ⟨gb424, _, none⟩) NB423_424.out _).trans (hHeld.1)))))))))), ((cell_far (p := ⟨gb424, _, none⟩) NB423_424.out _).trans (((cell_far (p := ⟨gb424, _, none⟩) NB423_424.out _).trans (((cell_far (p := ⟨gb424, _, none⟩) NB423_424.out _).trans (((cell_far (p := ⟨gb424, _, none⟩) NB423_424.out _).trans (((cell_far (p := ⟨gb424, _, none⟩) NB423_424.out _).trans (hHeld.2.1)))))))))), ((cell_far (p := ⟨gb424, _, none⟩) NB423_424.out _).trans (((cell_far (p := ⟨gb424, _, none⟩) NB423_424.out _).trans (((cell_far (p := ⟨gb424, _, none⟩) NB423_424.out _).trans (((cell_far (p := ⟨gb424, _, none⟩) NB423_424.out _).trans (((cell_far (p := ⟨gb424, _, none⟩) NB423_424.out _).trans (hHeld.2.2.1)))))))))), ((cell_far (p := ⟨gb424, _, none⟩) NB423_424.out _).trans (((cell_far (p := ⟨gb424, _, none⟩) NB423_424.out _).trans (((cell_far (p := ⟨gb424, _, none⟩) NB423_424.out _).trans (((cell_far (p := ⟨gb424, _, none⟩) NB423_424.out _).trans (((cell_far (p := ⟨gb424, _, none⟩) NB423_424.out _).trans (hHeld.2.2.2.1)))))))))), ((cell_far (p := ⟨gb424, _, none⟩) NB423_424.out _).trans (((cell_far (p := ⟨gb424, _, none⟩) NB423_424.out _).trans (((cell_far (p := ⟨gb424, _, none⟩) NB423_424.out _).trans (((cell_far (p := ⟨gb424, _, none⟩) NB423_424.out _).trans (((cell_far (p := ⟨gb424, _, none⟩) NB423_424.out _).trans (hHeld.2.2.2.2.1)))))))))), ((cell_far (p := ⟨gb424, _, none⟩) z19_ _).trans (((cell_far (p := ⟨gb424, _, none⟩) z19_ _).trans (((cell_far (p := ⟨gb424, _, none⟩) z19_ _).trans (((cell_far (p := ⟨gb424, _, none⟩) z19_ _).trans (((cell_far (p := ⟨gb424, _, none⟩) z19_ _).trans (hHeld.2.2.2.2.2.1)))))))))), ((cell_far (p := ⟨gb424, _, none⟩) z20_ _).trans (((cell_far (p := ⟨gb424, _, none⟩) z20_ _).trans (((cell_far (p := ⟨gb424, _, none⟩) z20_ _).trans (((cell_far (p := ⟨gb424, _, none⟩) z20_ _).trans (((cell_far (p := ⟨gb424, _, none⟩) z20_ _).trans (hHeld.2.2.2.2.2.2.1)))))))))), ((cell_far (p := ⟨gb424, _, none⟩) z21_ _).trans (((cell_far (p := ⟨gb424, _, none⟩) z21_ _).trans (((cell_far (p := ⟨gb424, _, none⟩) z21_ _).trans (((cell_far (p := ⟨gb424, _, none⟩) z21_ _).trans (((cell_far (p := ⟨gb424, _, none⟩) z21_ _).trans (hHeld.2.2.2.2.2.2.2))))))))))⟩ (fun hHeld => ?_)
   clear hK K
   refine done_ (done_of HT_.out (by kernel_rfl)) ?_
   try go_wp2
   refine bodyPost_ret (results_cell_row rfl _ _ gb424 78 #[.int .i64 3, .slice Ao42 t431.length co42, .int .i64 ((rd_T80 l0 t425).f0), .int .i64 (rd l1_1 (ji23)), .int .i64 (t436.length : Int)] (0, 0) _ rfl (by (with_reducible repeat (first | refine blk_drewN ?_ _ | refine blk_drew ?_ | refine blk_alloc ?_ _)); refine blk_put (cs := #[.int .i64 3, .slice Ao42 t431.length co42, .int .i64 ((rd_T80 l0 t425).f0), .int .i64 (rd l1_1 (ji23)), .int .i64 0]) ?_ 4 _ rfl; (with_reducible repeat (first | refine blk_drewN ?_ _ | refine blk_drew ?_ | refine blk_alloc ?_ _)); refine blk_put (cs := #[.int .i64 3, .slice Ao42 t431.length co42, .int .i64 ((rd_T80 l0 t425).f0), .int .i64 0, .int .i64 0]) ?_ 3 _ rfl; (with_reducible repeat (first | refine blk_drewN ?_ _ | refine blk_drew ?_ | refine blk_alloc ?_ _)); refine blk_put (cs := #[.int .i64 3, .slice Ao42 t431.length co42, .int .i64 0, .int .i64 0, .int .i64 0]) ?_ 2 _ rfl; (with_reducible repeat (first | refine blk_drewN ?_ _ | refine blk_drew ?_ | refine blk_alloc ?_ _)); refine blk_put (cs := #[.int .i64 3, .slice none 0 0, .int .i64 0, .int .i64 0, .int .i64 0]) ?_ 1 _ rfl; (with_reducible repeat (first | refine blk_drewN ?_ _ | refine blk_drew ?_ | refine blk_alloc ?_ _)); refine blk_put (cs := #[.int .i64 0, .slice none 0 0, .int .i64 0, .int .i64 0, .int .i64 0]) ?_ 0 _ rfl; (with_reducible repeat (first | refine blk_drewN ?_ _ | refine blk_drew ?_ | refine blk_alloc ?_ _)); exact BK424.out) Try.underlying78 rfl (by kernel_rfl)) rfl ?_
   exact ⟨_, z124_, by (with_reducible repeat (first | apply Kd.R_alloc | apply Kd.R_drewN | apply Kd.R_drew)); exact Kd.R_mono (Kd.R_far (p := ⟨gb424, 4, none⟩) (Kd.R_far (p := ⟨gb424, 3, none⟩) (Kd.R_far (p := ⟨gb424, 2, none⟩) (Kd.R_far (p := ⟨gb424, 1, none⟩) (Kd.R_far (p := ⟨gb424, 0, none⟩) (Kd.R_types HO433.out BK424.out (by decide)) (fun _ hk => hk.2) (.int .i64 3)) (fun _ hk => hk.2) (.slice Ao42 t431.length co42)) (fun _ hk => hk.2) (.int .i64 ((rd_T80 l0 t425).f0))) (fun _ hk => hk.2) (.int .i64 (rd l1_1 (ji23)))) (fun _ hk => hk.2) (.int .i64 (t436.length : Int))) (fun _ hk => trivial), z9_⟩
  ·rw [if_neg c22] at H
   have c22b0 : (a1_0 == 2) = false := beq_eq_false_iff_ne.mpr c22
   have c22b1 : (a1_0 != 2) = true := bne_iff_ne.mpr c22
   obtain ⟨t439, A48, H⟩ := bnd_ H
   first | ((with_reducible have hz_ := gy_ H); obtain ⟨y442, Ny442, H⟩ := hz_) | (generalize hy_ : ((([a1_3] : List Int)) : List Int) = y442 at H; have Ny442 := Aside0.mk hy_.symm; clear hy_)
   obtain ⟨c49, H⟩ := ifs_ H
   have LMc49 := Aside0.mk c49
   clear c49
   first | ((with_reducible have hz_ := gy_ H); obtain ⟨y445, Ny445, H⟩ := hz_) | (generalize hy_ : ((t439 ++ y442) : List Int) = y445 at H; have Ny445 := Aside0.mk hy_.symm; clear hy_)
   simp only [Option.some.injEq, Prod.mk.injEq] at H
   obtain ⟨rfl, rfl, rfl, rfl, rfl⟩ := H
   go_enter Try.func67, Try.ntmps67
   try go_wp2_with (first | ((with_reducible refine gate_dst (N := 3) rfl ?_); refine box_event ?hg (N := 3) ?hd (cs := #[.int .i64 a1_0, .slice A1_1 l1_1.length c1_1, .int .i64 a1_2, .int .i64 a1_3, .int .i64 a1_4]) (t := 78) ?hr ?_; (case hd => rfl); (case hg => rfl); (case hr => exact z10_); intro gb423 hg w50 hbox hb; have BK423 := Aside0.mk (hbox); have GW423 := Aside0.mk ((by rw [hg]; exact (below_size z0_) : w.heap.size ≤ gb423)); have GE423 := Aside0.mk ((by rw [hg]; exact (below_size z0_) : w.heap.size ≤ gb423)); replace HB := Aside0.mk (below_step z0_ hb); clear hb hbox hg) | ((with_reducible refine gate_dst (N := 4) rfl ?_); refine box_event ?hg (N := 4) ?hd (cs := #[.int .i64 0, .slice none 0 0, .int .i64 0, .int .i64 0, .int .i64 0]) (t := 78) ?hr ?_; (case hd => rfl); (case hg => rfl); (case hr => exact z10_); intro gb424 hg w51 hbox hb; have BK424 := Aside0.mk (hbox); have GW424 := Aside0.mk ((by rw [hg]; exact (below_size z50_) : w.heap.size ≤ gb424)); have GE424 := Aside0.mk ((by rw [hg]; exact (below_size z50_) : w.heap.size ≤ gb424)); replace HB := Aside0.mk (below_step z50_ hb); have NB423_424 := Aside0.mk ((by rw [hg]; exact Nat.ne_of_lt (blk_lt (g := gb423) (o := .cells #[.int .i64 a1_0, .slice A1_1 l1_1.length c1_1, .int .i64 a1_2, .int .i64 a1_3, .int .i64 a1_4] 78 (0, 0)) z28_) : gb423 ≠ gb424)); have NB424_423 := Aside0.mk ((by rw [hg]; exact Nat.ne_of_gt (blk_lt (g := gb423) (o := .cells #[.int .i64 a1_0, .slice A1_1 l1_1.length c1_1, .int .i64 a1_2, .int .i64 a1_3, .int .i64 a1_4] 78 (0, 0)) z28_) : gb424 ≠ gb423)); replace BK423 := Aside0.mk (blk_below (g := gb423) (o := .cells #[.int .i64 a1_0, .slice A1_1 l1_1.length c1_1, .int .i64 a1_2, .int .i64 a1_3, .int .i64 a1_4] 78 (0, 0)) z28_ hb); clear hb hbox hg; have hnb52 := NB423_424.out; have hnc52 := NB424_423.out; obtain ⟨hcz53_0, hcz53_1, hcz53_2, hcz53_3, hcz53_4, hfz53_0, hfz53_1, hfz53_2, hfz53_3, hfz53_4⟩ := bx5_ BK423.out) | ((with_reducible refine gate_callee (f := 78) rfl ?_); refine goesL_ (some 10) rfl rfl Try.func78 (by kernel_rfl) rfl #[.slice A0 l0.length c0, .slice A1_1 l1_1.length c1_1] rfl z1_ ?_; (with_reducible refine (impl_NodeAt.calls k _ _ l0 _ _ l1_1 t425 _ ?side1 ?side2 ?side3 ?side4 A3.out).mono ?_); (case side1 => exact z2_); (case side2 => exact HC0.out); (case side3 => exact z7_); (case side4 => exact HC1_1.out); rintro e w54 ⟨rfl, hb⟩; refine ⟨_, rfl, ?_⟩; replace BK423 := Aside0.mk (blk_below (g := gb423) (o := .cells #[.int .i64 a1_0, .slice A1_1 l1_1.length c1_1, .int .i64 a1_2, .int .i64 a1_3, .int .i64 a1_4] 78 (0, 0)) z28_ hb); replace BK424 := Aside0.mk (blk_below (g := gb424) (o := .cells #[.int .i64 0, .slice none 0 0, .int .i64 0, .int .i64 0, .int .i64 0] 78 (0, 0)) z46_ hb); replace HB := Aside0.mk (below_step z9_ hb); (try clear hb); obtain ⟨hcz55_0, hcz55_1, hcz55_2, hcz55_3, hcz55_4, hfz55_0, hfz55_1, hfz55_2, hfz55_3, hfz55_4⟩ := bx5_ BK423.out))
   have n0_ := Aside0.mk (blk_drew BK423.out)
   have n1_ := Aside0.mk (blk_drew BK424.out)
   have n2_ := Aside0.mk (below_drew1 HB.out)
   clear BK423
   clear BK424
   clear HB
   have BK423 := n0_
   have BK424 := n1_
   have HB := n2_
   clear n0_ n1_ n2_
   refine start_ (n := 9) (S := fun w' => w'.cell? ⟨gb423, 0, none⟩ = some (.int .i64 a1_0) ∧ w'.cell? ⟨gb423, 1, none⟩ = some (.slice A1_1 l1_1.length c1_1) ∧ w'.cell? ⟨gb423, 2, none⟩ = some (.int .i64 a1_2) ∧ w'.cell? ⟨gb423, 3, none⟩ = some (.int .i64 a1_3) ∧ w'.cell? ⟨gb423, 4, none⟩ = some (.int .i64 a1_4)) (ds := []) (fl_ 9 0) (by kernel_rfl) rfl (fl_zero _) ⟨(blk_cell BK423.out 0).trans rfl, (blk_cell BK423.out 1).trans rfl, (blk_cell BK423.out 2).trans rfl, (blk_cell BK423.out 3).trans rfl, (blk_cell BK423.out 4).trans rfl⟩ (fun hHeld => ?_); refine with_tabW impl_undone.tab8 impl_undone.bits8 (fun HT_ HW_ => ?_)
   generalize w54.drew = w56 at BK423 BK424 HB hHeld ⊢
   refine zp_ HT_ rfl rfl (by kernel_rfl) (fun _ _ _ h => h) (by rfl) ?_
   refine zpg_ (i := 3) (ra_ [1, 2, 1, 5]) HT_ rfl rfl (by kernel_rfl) (fun _ _ _ h => h) (by rfl) ?_
   refine ztg_ (i := 1) (ra_ [2, 1, 1, 5]) HT_ HW_ rfl rfl (by kernel_rfl) (fun _ _ _ h => h) (by rfl) hHeld ?_ z119_
   refine ztg_ (i := 4) (ra_ [2, 1, 2, 4]) HT_ HW_ rfl rfl (by kernel_rfl) (fun _ _ _ h => h) (by rfl) hHeld ?_ z119_
   refine join_ (σ := Value × Value) 3 #[true, true, true, true, true, true, false, false, false] (fun s_ => [(52, s_.1), (55, s_.2)]) (fun s_ w' => (w'.cell? ⟨gb423, 0, none⟩ = some (.int .i64 a1_0) ∧ w'.cell? ⟨gb423, 1, none⟩ = some (.slice A1_1 l1_1.length c1_1) ∧ w'.cell? ⟨gb423, 2, none⟩ = some (.int .i64 a1_2) ∧ w'.cell? ⟨gb423, 3, none⟩ = some (.int .i64 a1_3) ∧ w'.cell? ⟨gb423, 4, none⟩ = some (.int .i64 a1_4)) ∧ (Kd.R (Kd.int .i64) 3 w' w.heap.size (fun k_ => some k_ ≠ (s_.2 : Value).ownBlock) s_.1 t439) ∧ (Kd.R (Kd.int .i64) 3 w' w.heap.size (fun k_ => some k_ ≠ (s_.1 : Value).ownBlock) s_.2 y442) ∧ (w'.heap[gb423]? = some (.cells #[.int .i64 a1_0, .slice A1_1 l1_1.length c1_1, .int .i64 a1_2, .int .i64 a1_3, .int .i64 a1_4] 78 (0, 0))) ∧ (w'.heap[gb424]? = some (.cells #[.int .i64 0, .slice none 0 0, .int .i64 0, .int .i64 0, .int .i64 0] 78 (0, 0))) ∧ (Below w.heap.size w w')) ?_ ?_
   rotate_left
   ·intro hCont
    refine two_ (i := 2) (j := 5) (Ni := some 52) (Nj := some 55) #[true, true, true, true, true, false, false, false, false] #[true, true, false, true, true, true, false, false, false] rfl rfl rfl rfl (two_of HT_.out (by kernel_rfl)) (by decide) (by decide) (fun K hK => ?_) (fun K hK => ?_)
    ·skip
     refine goes_ Try.func101 (by kernel_rfl) rfl #[.slice A1_1 l1_1.length c1_1] (by rfl) rfl rfl z1_ ?_
     with_reducible refine (slices_Clone_int.calls _ _ l1_1 t439 _ ?side1 ?side2 A48.out).mono ?_
     (case side1 => exact z7_)
     (case side2 => exact HC1_1.out)
     rintro e w57 ⟨v440, rfl, ho0, hb⟩
     refine ⟨_, rfl, ?_⟩
     have n0_ := Aside0.mk (Kd.R_lower ho0 (below_size z9_))
     have n1_ := Aside0.mk (blk_below (g := gb423) (o := .cells #[.int .i64 a1_0, .slice A1_1 l1_1.length c1_1, .int .i64 a1_2, .int .i64 a1_3, .int .i64 a1_4] 78 (0, 0)) z28_ hb)
     have n2_ := Aside0.mk (blk_below (g := gb424) (o := .cells #[.int .i64 0, .slice none 0 0, .int .i64 0, .int .i64 0, .int .i64 0] 78 (0, 0)) z46_ hb)
     have n3_ := Aside0.mk (below_step z9_ hb)
     clear BK423
     clear BK424
     clear HB
     have HO441 := n0_
     have BK423 := n1_
     have BK424 := n2_
     have HB := n3_
     clear n0_ n1_ n2_ n3_
     (try clear hb)
     (try clear hb2)
     (try clear hk)
     (try clear hi)
     (try clear ho0)
     refine hK.out _ _ ⟨(blk_cell BK423.out 0).trans rfl, (blk_cell BK423.out 1).trans rfl, (blk_cell BK423.out 2).trans rfl, (blk_cell BK423.out 3).trans rfl, (blk_cell BK423.out 4).trans rfl⟩ (fun hHeld => ?_)
     clear hK K
     refine zn_ rfl ?_
     refine one_ (i := 5) (N := some 55) (fl_ 9 6) rfl rfl (one_of HT_.out (by kernel_rfl)) (by decide) (fun K hK => ?_)
     refine Kd.R_lit_step (Kd.int .i64) _ 3 ?hg (N := 55) ?hd (xs := ([a1_3] : List Int)) (inner := [.int .i64 a1_3]) (ok := fun _ => True) (okp := fun _ => True) ?hr ?hp (fun _ hk => hk) trivial (Below.refl _ _) (Nat.le_refl _) (by simp) ?_; (case hd => rfl); (case hg => rfl); (case hr => exact z10_); (case hp => exact z163_)
     intro v443 w58 ho59 hb hg_ hnew_
     clear hg_ hnew_
     (first | rw [← Ny442.out] at ho59 | (simp only [Int.reduceToNat] at ho59; rw [← Ny442.out] at ho59))
     have n0_ := Aside0.mk (Kd.R_elder' z131_ (Kd.R_base ho59) hb)
     have n1_ := Aside0.mk (Kd.R_lower (Kd.R_new' ho59 (Kd.R_lt z131_)) (below_size z9_))
     have n2_ := Aside0.mk (blk_below (g := gb423) (o := .cells #[.int .i64 a1_0, .slice A1_1 l1_1.length c1_1, .int .i64 a1_2, .int .i64 a1_3, .int .i64 a1_4] 78 (0, 0)) z28_ hb)
     have n3_ := Aside0.mk (blk_below (g := gb424) (o := .cells #[.int .i64 0, .slice none 0 0, .int .i64 0, .int .i64 0, .int .i64 0] 78 (0, 0)) z46_ hb)
     have n4_ := Aside0.mk (below_step z9_ hb)
     clear HO441
     clear BK423
     clear BK424
     clear HB
     have HO441 := n0_
     have HO444 := n1_
     have BK423 := n2_
     have BK424 := n3_
     have HB := n4_
     clear n0_ n1_ n2_ n3_ n4_
     clear hb ho59
     refine hK.out _ _ ⟨(blk_cell BK423.out 0).trans rfl, (blk_cell BK423.out 1).trans rfl, (blk_cell BK423.out 2).trans rfl, (blk_cell BK423.out 3).trans rfl, (blk_cell BK423.out 4).trans rfl⟩ (fun hHeld => ?_)
     clear hK K
     refine zn_ rfl ?_
     exact norm_ z110_ (hCont (v440, v443) _ ⟨hHeld, z141_, z142_, z28_, z46_, z9_⟩)
    ·skip
     refine Kd.R_lit_step (Kd.int .i64) _ 3 ?hg (N := 55) ?hd (xs := ([a1_3] : List Int)) (inner := [.int .i64 a1_3]) (ok := fun _ => True) (okp := fun _ => True) ?hr ?hp (fun _ hk => hk) trivial (Below.refl _ _) (Nat.le_refl _) (by simp) ?_; (case hd => rfl); (case hg => rfl); (case hr => exact z10_); (case hp => exact z163_)
     intro v443 w57 ho58 hb hg_ hnew_
     clear hg_ hnew_
     (first | rw [← Ny442.out] at ho58 | (simp only [Int.reduceToNat] at ho58; rw [← Ny442.out] at ho58))
     have n0_ := Aside0.mk (Kd.R_lower ho58 (below_size z9_))
     have n1_ := Aside0.mk (blk_below (g := gb423) (o := .cells #[.int .i64 a1_0, .slice A1_1 l1_1.length c1_1, .int .i64 a1_2, .int .i64 a1_3, .int .i64 a1_4] 78 (0, 0)) z28_ hb)
     have n2_ := Aside0.mk (blk_below (g := gb424) (o := .cells #[.int .i64 0, .slice none 0 0, .int .i64 0, .int .i64 0, .int .i64 0] 78 (0, 0)) z46_ hb)
     have n3_ := Aside0.mk (below_step z9_ hb)
     clear BK423
     clear BK424
     clear HB
     have HO444 := n0_
     have BK423 := n1_
     have BK424 := n2_
     have HB := n3_
     clear n0_ n1_ n2_ n3_
     clear hb ho58
     refine hK.out _ _ ⟨(blk_cell BK423.out 0).trans rfl, (blk_cell BK423.out 1).trans rfl, (blk_cell BK423.out 2).trans rfl, (blk_cell BK423.out 3).trans rfl, (blk_cell BK423.out 4).trans rfl⟩ (fun hHeld => ?_)
     clear hK K
     refine zn_ rfl ?_
     refine one_ (i := 2) (N := some 52) (fl_ 9 6) rfl rfl (one_of HT_.out (by kernel_rfl)) (by decide) (fun K hK => ?_)
     refine goes_ Try.func101 (by kernel_rfl) rfl #[.slice A1_1 l1_1.length c1_1] (by rfl) rfl rfl z1_ ?_
     with_reducible refine (slices_Clone_int.calls _ _ l1_1 t439 _ ?side1 ?side2 A48.out).mono ?_
     (case side1 => exact z7_)
     (case side2 => exact HC1_1.out)
     rintro e w59 ⟨v440, rfl, ho0, hb⟩
     refine ⟨_, rfl, ?_⟩
     have n0_ := Aside0.mk (Kd.R_elder' z132_ (Kd.R_base ho0) hb)
     have n1_ := Aside0.mk (Kd.R_lower (Kd.R_new' ho0 (Kd.R_lt z132_)) (below_size z9_))
     have n2_ := Aside0.mk (blk_below (g := gb423) (o := .cells #[.int .i64 a1_0, .slice A1_1 l1_1.length c1_1, .int .i64 a1_2, .int .i64 a1_3, .int .i64 a1_4] 78 (0, 0)) z28_ hb)
     have n3_ := Aside0.mk (blk_below (g := gb424) (o := .cells #[.int .i64 0, .slice none 0 0, .int .i64 0, .int .i64 0, .int .i64 0] 78 (0, 0)) z46_ hb)
     have n4_ := Aside0.mk (below_step z9_ hb)
     clear HO444
     clear BK423
     clear BK424
     clear HB
     have HO444 := n0_
     have HO441 := n1_
     have BK423 := n2_
     have BK424 := n3_
     have HB := n4_
     clear n0_ n1_ n2_ n3_ n4_
     (try clear hb)
     (try clear hb2)
     (try clear hk)
     (try clear hi)
     (try clear ho0)
     refine hK.out _ _ ⟨(blk_cell BK423.out 0).trans rfl, (blk_cell BK423.out 1).trans rfl, (blk_cell BK423.out 2).trans rfl, (blk_cell BK423.out 3).trans rfl, (blk_cell BK423.out 4).trans rfl⟩ (fun hHeld => ?_)
     clear hK K
     refine zn_ rfl ?_
     exact norm_ z110_ (hCont (v440, v443) _ ⟨hHeld, z141_, z142_, z28_, z46_, z9_⟩)
   rintro ⟨v440, v443⟩ w60 ⟨hS_, h0_, h1_, h2_, h3_, h4_⟩
   have n0_ : Aside0 (Kd.R (Kd.int .i64) 3 w60 w.heap.size (fun k_ => some k_ ≠ (v443 : Value).ownBlock) v440 t439) := ⟨h0_⟩
   have n1_ : Aside0 (Kd.R (Kd.int .i64) 3 w60 w.heap.size (fun k_ => some k_ ≠ (v440 : Value).ownBlock) v443 y442) := ⟨h1_⟩
   have n2_ : Aside0 (w60.heap[gb423]? = some (.cells #[.int .i64 a1_0, .slice A1_1 l1_1.length c1_1, .int .i64 a1_2, .int .i64 a1_3, .int .i64 a1_4] 78 (0, 0))) := ⟨h2_⟩
   have n3_ : Aside0 (w60.heap[gb424]? = some (.cells #[.int .i64 0, .slice none 0 0, .int .i64 0, .int .i64 0, .int .i64 0] 78 (0, 0))) := ⟨h3_⟩
   have n4_ : Aside0 (Below w.heap.size w w60) := ⟨h4_⟩
   clear BK423
   clear BK424
   clear HB
   clear h0_ h1_ h2_ h3_ h4_
   have HO441 := n0_
   have HO444 := n1_
   have BK423 := n2_
   have BK424 := n3_
   have HB := n4_
   clear n0_ n1_ n2_ n3_ n4_
   have hHeld : w60.cell? ⟨gb423, 0, none⟩ = some (.int .i64 a1_0) ∧ w60.cell? ⟨gb423, 1, none⟩ = some (.slice A1_1 l1_1.length c1_1) ∧ w60.cell? ⟨gb423, 2, none⟩ = some (.int .i64 a1_2) ∧ w60.cell? ⟨gb423, 3, none⟩ = some (.int .i64 a1_3) ∧ w60.cell? ⟨gb423, 4, none⟩ = some (.int .i64 a1_4) := hS_
   obtain ⟨Ao62, co62, eo62⟩ := Kd.R_slice HO444.out
   (first | subst eo62 | (injection eo62 with f1_ f2_ f3_; have f4_ := f1_.symm; have f5_ := f3_.symm; clear f1_ f2_ f3_; subst f4_; subst f5_))
   refine norm_ (a' := ?_) ?_ ?_
   rotate_left
   ·simp only [putAll, Act.put, List.setIfInBounds_toArray, List.set_cons_zero, List.set_cons_succ]
    rfl
   refine one_ (i := 6) (N := some 56) (fl_ 9 7) rfl rfl (one_of HT_.out (by kernel_rfl)) (by decide) (fun K hK => ?_)
   refine Kd.R_append_rows_step (Kd.int .i64) (w0 := w) w.heap.size (by rfl) (.tmp 52) (.tmp 55) 61 3 (.int .i64 0) 8 rfl Try.underlying61 info3 rfl (by decide) (by omega) v440 t439 y442 _ _ _ (fun k_ => some k_ ≠ (.slice Ao62 y442.length co62 : Value).ownBlock) (fun _ => False) rfl rfl ?aO ?aR (fun _ _ h => h) (fun _ h => h.elim) ?aF ?aB ?aS ?aL ?_
   (case aR => repeat (first | exact (Kd.R_reads' HO444.out).2.2 | (with_reducible refine Kd.C_alloc ?_ _) | (with_reducible refine Kd.C_drewN ?_ _) | (with_reducible refine Kd.C_drew ?_)))
   (case aB => exact z9_)
   (case aF => exact (fun k_ hk => Kd.fresh' (Kd.R_lt z132_) k_ hk))
   (case aO => exact z131_)
   (case aS => exact (below_size z9_))
   (case aL => have := LMc49.out; omega)
   intro v446 w61 ho hb hg hat
   rw [← Ny445.out] at ho
   have n0_ := Aside0.mk (blk_grown (g := gb423) (o := .cells #[.int .i64 a1_0, .slice A1_1 l1_1.length c1_1, .int .i64 a1_2, .int .i64 a1_3, .int .i64 a1_4] 78 (0, 0)) z28_ hg (Kd.R_ne HO441.out BK423.out (by decide)))
   have n1_ := Aside0.mk (blk_grown (g := gb424) (o := .cells #[.int .i64 0, .slice none 0 0, .int .i64 0, .int .i64 0, .int .i64 0] 78 (0, 0)) z46_ hg (Kd.R_ne HO441.out BK424.out (by decide)))
   have n2_ := Aside0.mk (Kd.R_after (ok := (fun _ => True)) (by (with_reducible repeat (first | apply Kd.R_alloc | apply Kd.R_drewN | apply Kd.R_drew)); exact Kd.R_mono HO444.out (fun _ hk => ⟨trivial, hk⟩)) hg hat)
   have n3_ := Aside0.mk (hb)
   have n4_ := Aside0.mk (ho)
   clear BK423
   clear BK424
   clear HO444
   clear HB
   clear HO441
   have BK423 := n0_
   have BK424 := n1_
   have HO444 := n2_
   have HB := n3_
   have HO447 := n4_
   clear n0_ n1_ n2_ n3_ n4_
   clear ho hb hg hat
   obtain ⟨Ao63, co63, eo63⟩ := Kd.R_slice HO447.out
   (first | subst eo63 | (injection eo63 with f1_ f2_ f3_; have f4_ := f1_.symm; have f5_ := f3_.symm; clear f1_ f2_ f3_; subst f4_; subst f5_))
   refine hK.out _ _ ⟨(blk_cell BK423.out 0).trans rfl, (blk_cell BK423.out 1).trans rfl, (blk_cell BK423.out 2).trans rfl, (blk_cell BK423.out 3).trans rfl, (blk_cell BK423.out 4).trans rfl⟩ (fun hHeld => ?_)
   clear hK K
   refine zn_ rfl ?_
   refine zp_ HT_ rfl rfl (by kernel_rfl) (fun _ _ _ h => h) (by rfl) ?_
   refine one_ (i := 8) (N := none) (fl_ 9 9) rfl rfl (one_of HT_.out (by kernel_rfl)) (by decide) (fun K hK => ?_)
   have hs64 : w61.cell? ⟨gb424, 0, none⟩ = some (.int .i64 0) := (blk_cell BK424.out 0).trans rfl
   have hfs64 := blk_frozen BK424.out 0
   have hns64_0 := NB423_424.out
   have hms64_0 := NB424_423.out
   have hs65 : w61.cell? ⟨gb424, 1, none⟩ = some (.slice none 0 0) := (blk_cell BK424.out 1).trans rfl
   have hfs65 := blk_frozen BK424.out 1
   have hns65_0 := NB423_424.out
   have hms65_0 := NB424_423.out
   have hs66 : w61.cell? ⟨gb424, 2, none⟩ = some (.int .i64 0) := (blk_cell BK424.out 2).trans rfl
   have hfs66 := blk_frozen BK424.out 2
   have hns66_0 := NB423_424.out
   have hms66_0 := NB424_423.out
   have hs67 : w61.cell? ⟨gb424, 3, none⟩ = some (.int .i64 0) := (blk_cell BK424.out 3).trans rfl
   have hfs67 := blk_frozen BK424.out 3
   have hns67_0 := NB423_424.out
   have hms67_0 := NB424_423.out
   have hs68 : w61.cell? ⟨gb424, 4, none⟩ = some (.int .i64 0) := (blk_cell BK424.out 4).trans rfl
   have hfs68 := blk_frozen BK424.out 4
   have hns68_0 := NB423_424.out
   have hms68_0 := NB424_423.out
   refine skip_ (w1 := ?_) (by rfl) rfl ?_ ?_
   rotate_left
   ·go_simp
    rfl
   refine hK.out _ _ ⟨((cell_far (p := ⟨gb424, _, none⟩) NB423_424.out _).trans (((cell_far (p := ⟨gb424, _, none⟩) NB423_424.out _).trans (((cell_far (p := ⟨gb424, _, none⟩) NB423_424.out _).trans (((cell_far (p := ⟨gb424, _, none⟩) NB423_424.out _).trans (((cell_far (p := ⟨gb424, _, none⟩) NB423_424.out _).trans (hHeld.1)))))))))), ((cell_far (p := ⟨gb424, _, none⟩) NB423_424.out _).trans (((cell_far (p := ⟨gb424, _, none⟩) NB423_424.out _).trans (((cell_far (p := ⟨gb424, _, none⟩) NB423_424.out _).trans (((cell_far (p := ⟨gb424, _, none⟩) NB423_424.out _).trans (((cell_far (p := ⟨gb424, _, none⟩) NB423_424.out _).trans (hHeld.2.1)))))))))), ((cell_far (p := ⟨gb424, _, none⟩) NB423_424.out _).trans (((cell_far (p := ⟨gb424, _, none⟩) NB423_424.out _).trans (((cell_far (p := ⟨gb424, _, none⟩) NB423_424.out _).trans (((cell_far (p := ⟨gb424, _, none⟩) NB423_424.out _).trans (((cell_far (p := ⟨gb424, _, none⟩) NB423_424.out _).trans (hHeld.2.2.1)))))))))), ((cell_far (p := ⟨gb424, _, none⟩) NB423_424.out _).trans (((cell_far (p := ⟨gb424, _, none⟩) NB423_424.out _).trans (((cell_far (p := ⟨gb424, _, none⟩) NB423_424.out _).trans (((cell_far (p := ⟨gb424, _, none⟩) NB423_424.out _).trans (((cell_far (p := ⟨gb424, _, none⟩) NB423_424.out _).trans (hHeld.2.2.2.1)))))))))), ((cell_far (p := ⟨gb424, _, none⟩) NB423_424.out _).trans (((cell_far (p := ⟨gb424, _, none⟩) NB423_424.out _).trans (((cell_far (p := ⟨gb424, _, none⟩) NB423_424.out _).trans (((cell_far (p := ⟨gb424, _, none⟩) NB423_424.out _).trans (((cell_far (p := ⟨gb424, _, none⟩) NB423_424.out _).trans (hHeld.2.2.2.2))))))))))⟩ (fun hHeld => ?_)
   clear hK K
   refine done_ (done_of HT_.out (by kernel_rfl)) ?_
   try go_wp2
   refine bodyPost_ret (results_cell_row rfl _ _ gb424 78 #[.int .i64 2, .slice Ao63 y445.length co63, .int .i64 0, .int .i64 0, .int .i64 0] (0, 0) _ rfl (by (with_reducible repeat (first | refine blk_drewN ?_ _ | refine blk_drew ?_ | refine blk_alloc ?_ _)); refine blk_put (cs := #[.int .i64 2, .slice Ao63 y445.length co63, .int .i64 0, .int .i64 0, .int .i64 0]) ?_ 4 _ rfl; (with_reducible repeat (first | refine blk_drewN ?_ _ | refine blk_drew ?_ | refine blk_alloc ?_ _)); refine blk_put (cs := #[.int .i64 2, .slice Ao63 y445.length co63, .int .i64 0, .int .i64 0, .int .i64 0]) ?_ 3 _ rfl; (with_reducible repeat (first | refine blk_drewN ?_ _ | refine blk_drew ?_ | refine blk_alloc ?_ _)); refine blk_put (cs := #[.int .i64 2, .slice Ao63 y445.length co63, .int .i64 0, .int .i64 0, .int .i64 0]) ?_ 2 _ rfl; (with_reducible repeat (first | refine blk_drewN ?_ _ | refine blk_drew ?_ | refine blk_alloc ?_ _)); refine blk_put (cs := #[.int .i64 2, .slice none 0 0, .int .i64 0, .int .i64 0, .int .i64 0]) ?_ 1 _ rfl; (with_reducible repeat (first | refine blk_drewN ?_ _ | refine blk_drew ?_ | refine blk_alloc ?_ _)); refine blk_put (cs := #[.int .i64 0, .slice none 0 0, .int .i64 0, .int .i64 0, .int .i64 0]) ?_ 0 _ rfl; (with_reducible repeat (first | refine blk_drewN ?_ _ | refine blk_drew ?_ | refine blk_alloc ?_ _)); exact BK424.out) Try.underlying78 rfl (by kernel_rfl)) rfl ?_
   exact ⟨_, z4_, by (with_reducible repeat (first | apply Kd.R_alloc | apply Kd.R_drewN | apply Kd.R_drew)); exact Kd.R_mono (Kd.R_far (p := ⟨gb424, 4, none⟩) (Kd.R_far (p := ⟨gb424, 3, none⟩) (Kd.R_far (p := ⟨gb424, 2, none⟩) (Kd.R_far (p := ⟨gb424, 1, none⟩) (Kd.R_far (p := ⟨gb424, 0, none⟩) (Kd.R_types HO447.out BK424.out (by decide)) (fun _ hk => hk.2) (.int .i64 2)) (fun _ hk => hk.2) (.slice Ao63 y445.length co63)) (fun _ hk => hk.2) (.int .i64 0)) (fun _ hk => hk.2) (.int .i64 0)) (fun _ hk => hk.2) (.int .i64 0)) (fun _ hk => trivial), z9_⟩

end Go.Proofs.Ytdapeboajjidmaa.PFnExactInvert
