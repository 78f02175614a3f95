/- Laid by a program of this session out of the kit's print for the law FnExactDomDelete: what it says of the machine is proved here, function by function; each contract under the conditions that it names. -/
import Derived.Test.YtdapeboajjidmabMFnExactDomDeletex0
import Derived.Test.YtdapeboajjidmabMFnExactDomDeletex1
import Derived.Test.YtdapeboajjidmabMFnExactDomDeletex8
import Derived.Test.YtdapeboajjidmabMFnExactDomDeletex9
import Derived.Test.YtdapeboajjidmabMFnExactDomDeletex10
namespace Go.Proofs.Ytdapeboajjidmab.PFnExactDomDelete
open Go.RowKit Go.Proofs.YtdapeboajjidmabW.PrintWords Go.Proofs.YtdapeboajjidmabW.PrintLast Go.Proofs.YtdapeboajjidmabW.PrintMore
attribute [local go_sem] max2_int min2_int max_two min_two max_three min_three max_four min_four   -- for this text's walks alone
set_option linter.unusedVariables false
set_option linter.unusedSimpArgs false

attribute [local go_sem high] eqA72
/-! ### impl_Dom_walked: function 59 -/
mutual
def impl_Dom_walked.j0 : Nat → Bool → List (S72) → Option ((List (S62)) × List Int × Bool)
 | 0, _, _ => none
 | k + 1, x32, x313000 => if x32 = true then (some (([] : List (S62)), ([] : List Int), false)) else ((impl_Dom_visit.f k x313000 0 0 ([] : List (S62)) ([] : List Int)).bind fun bt316 => (impl_Dom_walked.l0 k bt316.1 bt316.2.1 bt316.2.2 x313000 (x313000.length : Int) 0))
def impl_Dom_walked.l0 : Nat → List (S62) → List Int → Bool → List (S72) → Int → Int → Option ((List (S62)) × List Int × Bool)
 | 0, _, _, _, _, _, _ => none
 | k + 1, x6, x7, x8, x40, x41, x42 => if x42 < x41 then (if 0 ≤ x42 then (if x42 < (x40.length : Int) then (if x8 = true then ((slices_Contains_int_int.f k x7 x42).bind fun t325 => (if t325 = true then (impl_Dom_walked.l0 k x6 x7 x8 x40 x41 (wrap64 (x42 + 1))) else ((impl_unused.f).bind fun bt326 => (if (!(((rd_T72 x40 x42).f0) == bt326.1) || (!(((rd_T72 x40 x42).f1) == bt326.2.1) || (!(((rd_T72 x40 x42).f2) == bt326.2.2.1) || (!(((rd_T72 x40 x42).f3) == bt326.2.2.2.1) || (!(((rd_T72 x40 x42).f4) == bt326.2.2.2.2.1) || (!(((rd_T72 x40 x42).f5) == bt326.2.2.2.2.2.1) || (!(((rd_T72 x40 x42).f6) == bt326.2.2.2.2.2.2)))))))) = true then (impl_Dom_walked.l0 k x6 x7 false x40 x41 (wrap64 (x42 + 1))) else (impl_Dom_walked.l0 k x6 x7 x8 x40 x41 (wrap64 (x42 + 1))))))) else (impl_Dom_walked.l0 k x6 x7 x8 x40 x41 (wrap64 (x42 + 1)))) else (none)) else (none)) else (some (x6, x7, x8))
end
def impl_Dom_walked.f (k : Nat) (l0_0 : List (S72)) : Option ((List (S62)) × List Int × Bool) := (impl_within.f (l0_0.length : Int) 1 24).bind fun t313 => (if t313 = true then (if 0 < (l0_0.length : Int) then (if ((rd_T72 l0_0 0).f2) = (-1) then (if ((rd_T72 l0_0 0).f5) = (-1) then (impl_Dom_walked.j0 k (((rd_T72 l0_0 0).f6) != (-1)) l0_0) else (impl_Dom_walked.j0 k true l0_0)) else (impl_Dom_walked.j0 k true l0_0)) else (none)) else (some (([] : List (S62)), ([] : List Int), false)))
def impl_Dom_walked.T10 : Bool × List (List Nat × List Nat) := (true, [([], []), ([0], [0]), ([1], [1]), ([1], [1]), ([2, 3, 1, 1], [1, 2, 3]), ([4, 1], [1, 4]), ([1, 5], [1, 5]), ([6, 4], [6]), ([7], [7]), ([7, 7], [7]), ([8, 9, 7], [7, 8, 9]), ([7, 10], [7, 10])])
def impl_Dom_walked.B10 : List Nat := [0, 1, 3, 3, 15, 31, 63, 127, 255, 255, 1023, 2047]
theorem impl_Dom_walked.tab10 : rtab .any (opsOf Try.f59 10) = impl_Dom_walked.T10 := by kernel_rfl
theorem impl_Dom_walked.bits10 : waitsOk impl_Dom_walked.T10.2 impl_Dom_walked.B10 = true := by kernel_rfl
set_option maxHeartbeats 8000000 in
set_option maxRecDepth 100000 in
theorem impl_Dom_walked.calls (k : Nat) (A0_0 : Option Addr) (c0_0 : Nat) (l0_0 : List (S72)) (r1 : List (S62)) (r2 : List Int) (r3 : Bool) (w : World) (hr0_0 : Kd.C k72 w A0_0 l0_0.length l0_0) (hc0_0 : l0_0.length ≤ c0_0) (h : impl_Dom_walked.f k l0_0 = some (r1, r2, r3)) :
  Calls Try.prog 59 #[.agg #[.slice A0_0 l0_0.length c0_0]] w fun e w' => ∃ v0_ v1_ : Value, e = .returned (.tuple #[v0_, v1_, .bool r3]) ∧ Kd.R k62 62 w' w.heap.size (fun _ => True) v0_ r1 ∧ Kd.R (Kd.int .i64) 3 w' w.heap.size (fun _ => True) v1_ r2 ∧ Below w.heap.size w w' := by
 have hu28 := Try.underlying28
 have hu72 := Try.underlying72
 have HR0_0 := Aside0.mk hr0_0
 have HC0_0 := Aside0.mk hc0_0
 clear hr0_0 hc0_0
 have HB := Aside0.mk (Below.refl w.heap.size w)
 have H : ((impl_within.f (l0_0.length : Int) 1 24).bind fun t313 => (if t313 = true then (if 0 < (l0_0.length : Int) then (if ((rd_T72 l0_0 0).f2) = (-1) then (if ((rd_T72 l0_0 0).f5) = (-1) then (impl_Dom_walked.j0 k (((rd_T72 l0_0 0).f6) != (-1)) l0_0) else (impl_Dom_walked.j0 k true l0_0)) else (impl_Dom_walked.j0 k true l0_0)) else (none)) else (some (([] : List (S62)), ([] : List Int), false)))) = some (r1, r2, r3) := h
 clear h
 obtain ⟨t313, A2, H⟩ := bnd_ H
 by_cases c3 : t313 = true
 ·subst c3
  replace H := ift_ H
  obtain ⟨c4, H⟩ := ifs_ H
  have c4b0 : decide (0 < (l0_0.length : Int)) = true := decide_eq_true c4
  have c4b1 : decide (0 < l0_0.length) = true := decide_eq_true (by omega)
  clear c4
  have HC5 := Aside0.mk H
  clear H
  go_enter Try.func59, Try.ntmps59
  go_upto_region 4 with (first | ((with_reducible refine gate_dst (N := 1) rfl ?_); refine box_event ?hg (N := 1) ?hd (cs := #[.slice A0_0 l0_0.length c0_0]) (t := 28) ?hr ?_; (case hd => rfl); (case hg => rfl); (case hr => exact z25_); intro gb312 hg w6 hbox hb; have BK312 := Aside0.mk (hbox); have GW312 := Aside0.mk ((by rw [hg]; exact (below_size z0_) : w.heap.size ≤ gb312)); have GE312 := Aside0.mk ((by rw [hg]; exact (below_size z0_) : w.heap.size ≤ gb312)); replace HB := Aside0.mk (below_step z0_ hb); clear hb hbox hg; have hcz7_0 : w6.cell? ⟨gb312, 0, none⟩ = some (.slice A0_0 l0_0.length c0_0) := (blk_cell BK312.out 0).trans rfl; have hfz7_0 := blk_frozen BK312.out 0) | ((with_reducible refine gate_callee (f := 81) rfl ?_); refine goesL_ (some 14) rfl rfl Try.func81 (by kernel_rfl) rfl #[.int .i64 (l0_0.length : Int), .int .i64 1, .int .i64 24] rfl z1_ ?_; (with_reducible refine (impl_within.calls (l0_0.length : Int) 1 24 true _ A2.out).mono ?_); rintro e w' ⟨rfl, ⟨nd, rfl⟩⟩; refine ⟨_, rfl, ?_⟩; (try (rw [drewN_self w6]; generalize hq_ : World.drewN w6 _ = w6; have n0_ : Aside0 (w6.heap[gb312]? = some (.cells #[.slice A0_0 l0_0.length c0_0] 28 (0, 0))) := ⟨by rw [← hq_]; exact z35_⟩; have n1_ : Aside0 (Below w.heap.size w w6) := ⟨by rw [← hq_]; exact z93_⟩; clear BK312 HB hq_; have BK312 := n0_; have HB := n1_; clear n0_ n1_; have hcz7_0 : w6.cell? ⟨gb312, 0, none⟩ = some (.slice A0_0 l0_0.length c0_0) := (blk_cell BK312.out 0).trans rfl; have hfz7_0 := blk_frozen BK312.out 0)); have p314 : 0 ≤ (0 : Int) := (by omega); have q314 : 0 < (l0_0.length : Int) := odt_; obtain ⟨ad314, e314, hx314_0, hx314_1, hx314_2, hx314_3, hx314_4, hx314_5, hx314_6⟩ := at_T72 HR0_0.out 0 p314 q314; cases e314; have qi314 : (0 < l0_0.length) = True := eq_true (by omega); (try rw [show ((0 : Int)).toNat = 0 from rfl] at hx314_0); (try rw [show 0 * 7 = 0 from rfl] at hx314_0); (try rw [Addr.add_zero'] at hx314_0); (try rw [show ((0 : Int)).toNat = 0 from rfl] at hx314_1); (try rw [show 0 * 7 = 0 from rfl] at hx314_1); (try rw [Addr.add_zero'] at hx314_1); (try rw [show ((0 : Int)).toNat = 0 from rfl] at hx314_2); (try rw [show 0 * 7 = 0 from rfl] at hx314_2); (try rw [Addr.add_zero'] at hx314_2); (try rw [show ((0 : Int)).toNat = 0 from rfl] at hx314_3); (try rw [show 0 * 7 = 0 from rfl] at hx314_3); (try rw [Addr.add_zero'] at hx314_3); (try rw [show ((0 : Int)).toNat = 0 from rfl] at hx314_4); (try rw [show 0 * 7 = 0 from rfl] at hx314_4); (try rw [Addr.add_zero'] at hx314_4); (try rw [show ((0 : Int)).toNat = 0 from rfl] at hx314_5); (try rw [show 0 * 7 = 0 from rfl] at hx314_5); (try rw [Addr.add_zero'] at hx314_5); (try rw [show ((0 : Int)).toNat = 0 from rfl] at hx314_6); (try rw [show 0 * 7 = 0 from rfl] at hx314_6); (try rw [Addr.add_zero'] at hx314_6); replace hx314_0 := (HB.out.cell (World.block_lt_of_cell? w _ hx314_0)).trans hx314_0; replace hx314_1 := (HB.out.cell (World.block_lt_of_cell? w _ hx314_1)).trans hx314_1; replace hx314_2 := (HB.out.cell (World.block_lt_of_cell? w _ hx314_2)).trans hx314_2; replace hx314_3 := (HB.out.cell (World.block_lt_of_cell? w _ hx314_3)).trans hx314_3; replace hx314_4 := (HB.out.cell (World.block_lt_of_cell? w _ hx314_4)).trans hx314_4; replace hx314_5 := (HB.out.cell (World.block_lt_of_cell? w _ hx314_5)).trans hx314_5; replace hx314_6 := (HB.out.cell (World.block_lt_of_cell? w _ hx314_6)).trans hx314_6; replace p314 := eq_true p314; replace q314 := eq_true q314) | ((with_reducible refine gate_dst (N := 5) rfl ?_); refine box_event ?hg (N := 5) ?hd (cs := #[.bool false, .int .i64 0, .int .i64 0, .int .i64 0, .int .i64 0, .int .i64 0, .int .i64 0]) (t := 72) ?hr ?_; (case hd => rfl); (case hg => rfl); (case hr => exact z25_); intro gb315 hg w8 hbox hb; have BK315 := Aside0.mk (hbox); have GW315 := Aside0.mk ((by rw [hg]; exact (below_size z93_) : w.heap.size ≤ gb315)); have GE315 := Aside0.mk ((by rw [hg]; exact (below_size z93_) : w.heap.size ≤ gb315)); replace HB := Aside0.mk (below_step z93_ hb); have NB312_315 := Aside0.mk ((by rw [hg]; exact Nat.ne_of_lt (blk_lt (g := gb312) (o := .cells #[.slice (some ad314) l0_0.length c0_0] 28 (0, 0)) z35_) : gb312 ≠ gb315)); have NB315_312 := Aside0.mk ((by rw [hg]; exact Nat.ne_of_gt (blk_lt (g := gb312) (o := .cells #[.slice (some ad314) l0_0.length c0_0] 28 (0, 0)) z35_) : gb315 ≠ gb312)); replace BK312 := Aside0.mk (blk_below (g := gb312) (o := .cells #[.slice (some ad314) l0_0.length c0_0] 28 (0, 0)) z35_ hb); clear hb hbox hg; have hnb9 := NB315_312.out; have hnc9 := NB312_315.out; have hcz10_0 : w8.cell? ⟨gb315, 0, none⟩ = some (.bool false) := (blk_cell BK315.out 0).trans rfl; have hcz10_1 : w8.cell? ⟨gb315, 1, none⟩ = some (.int .i64 0) := (blk_cell BK315.out 1).trans rfl; have hcz10_2 : w8.cell? ⟨gb315, 2, none⟩ = some (.int .i64 0) := (blk_cell BK315.out 2).trans rfl; have hcz10_3 : w8.cell? ⟨gb315, 3, none⟩ = some (.int .i64 0) := (blk_cell BK315.out 3).trans rfl; have hcz10_4 : w8.cell? ⟨gb315, 4, none⟩ = some (.int .i64 0) := (blk_cell BK315.out 4).trans rfl; have hcz10_5 : w8.cell? ⟨gb315, 5, none⟩ = some (.int .i64 0) := (blk_cell BK315.out 5).trans rfl; have hcz10_6 : w8.cell? ⟨gb315, 6, none⟩ = some (.int .i64 0) := (blk_cell BK315.out 6).trans rfl; have hfz10_0 := blk_frozen BK315.out 0; have hfz10_1 := blk_frozen BK315.out 1; have hfz10_2 := blk_frozen BK315.out 2; have hfz10_3 := blk_frozen BK315.out 3; have hfz10_4 := blk_frozen BK315.out 4; have hfz10_5 := blk_frozen BK315.out 5; have hfz10_6 := blk_frozen BK315.out 6))
  (try simp only [Act.put, List.setIfInBounds_toArray, List.set_cons_zero, List.set_cons_succ])
  go_cut [32] (fun v32 wc => ∃ (kq : Nat) (x32_4 : Bool), v32 = .bool x32_4 ∧ Aside0 (impl_Dom_walked.j0 kq x32_4 l0_0 = some (r1, r2, r3)) ∧ Aside0 (kq ≤ k) ∧ Aside0 (wc.heap[gb312]? = some (.cells #[(.slice (some ad314) l0_0.length c0_0)] 28 (0, 0))) ∧ Aside0 (wc.heap[gb315]? = some (.cells #[.bool ((rd_T72 l0_0 0).f0), .int .i64 ((rd_T72 l0_0 0).f1), .int .i64 ((rd_T72 l0_0 0).f2), .int .i64 ((rd_T72 l0_0 0).f3), .int .i64 ((rd_T72 l0_0 0).f4), .int .i64 ((rd_T72 l0_0 0).f5), .int .i64 ((rd_T72 l0_0 0).f6)] 72 (0, 0))) ∧ Aside0 (Below w.heap.size w wc))
  case first =>
   have H := HC5.out
   clear HC5
   by_cases c11 : ((rd_T72 l0_0 0).f2) = (-1)
   ·rw [if_pos c11] at H
    have c11b0 : (((rd_T72 l0_0 0).f2) == (-1)) = true := beq_iff_eq.mpr c11
    have c11b1 : (((rd_T72 l0_0 0).f2) != (-1)) = false := bne_eq_false_iff_eq.mpr c11
    clear c11
    (first | rw [c11b0] | rw [c11b1] | (simp only [i64_w, i32_w]; rw [c11b0]) | skip)
    by_cases c12 : ((rd_T72 l0_0 0).f5) = (-1)
    ·rw [if_pos c12] at H
     have c12b0 : (((rd_T72 l0_0 0).f5) == (-1)) = true := beq_iff_eq.mpr c12
     have c12b1 : (((rd_T72 l0_0 0).f5) != (-1)) = false := bne_eq_false_iff_eq.mpr c12
     clear c12
     have H' := Aside0.mk H
     clear H
     have hnb13 := NB315_312.out
     have hnc13 := NB312_315.out
     have hcz14_0 : w8.cell? ⟨gb315, 0, none⟩ = some (.bool false) := (blk_cell BK315.out 0).trans rfl
     have hcz14_1 : w8.cell? ⟨gb315, 1, none⟩ = some (.int .i64 0) := (blk_cell BK315.out 1).trans rfl
     have hcz14_2 : w8.cell? ⟨gb315, 2, none⟩ = some (.int .i64 0) := (blk_cell BK315.out 2).trans rfl
     have hcz14_3 : w8.cell? ⟨gb315, 3, none⟩ = some (.int .i64 0) := (blk_cell BK315.out 3).trans rfl
     have hcz14_4 : w8.cell? ⟨gb315, 4, none⟩ = some (.int .i64 0) := (blk_cell BK315.out 4).trans rfl
     have hcz14_5 : w8.cell? ⟨gb315, 5, none⟩ = some (.int .i64 0) := (blk_cell BK315.out 5).trans rfl
     have hcz14_6 : w8.cell? ⟨gb315, 6, none⟩ = some (.int .i64 0) := (blk_cell BK315.out 6).trans rfl
     have hfz14_0 := blk_frozen BK315.out 0
     have hfz14_1 := blk_frozen BK315.out 1
     have hfz14_2 := blk_frozen BK315.out 2
     have hfz14_3 := blk_frozen BK315.out 3
     have hfz14_4 := blk_frozen BK315.out 4
     have hfz14_5 := blk_frozen BK315.out 5
     have hfz14_6 := blk_frozen BK315.out 6
     go_wp2
     go_meet
     case rel => exact ⟨_, ((((rd_T72 l0_0 0).f6) != (-1))), z12_, H', ⟨z103_⟩, ⟨z28_⟩, ⟨z6_⟩, ⟨z23_⟩⟩
    ·rw [if_neg c12] at H
     have c12b0 : (((rd_T72 l0_0 0).f5) == (-1)) = false := beq_eq_false_iff_ne.mpr c12
     have c12b1 : (((rd_T72 l0_0 0).f5) != (-1)) = true := bne_iff_ne.mpr c12
     have H' := Aside0.mk H
     clear H
     have hnb15 := NB315_312.out
     have hnc15 := NB312_315.out
     have hcz16_0 : w8.cell? ⟨gb315, 0, none⟩ = some (.bool false) := (blk_cell BK315.out 0).trans rfl
     have hcz16_1 : w8.cell? ⟨gb315, 1, none⟩ = some (.int .i64 0) := (blk_cell BK315.out 1).trans rfl
     have hcz16_2 : w8.cell? ⟨gb315, 2, none⟩ = some (.int .i64 0) := (blk_cell BK315.out 2).trans rfl
     have hcz16_3 : w8.cell? ⟨gb315, 3, none⟩ = some (.int .i64 0) := (blk_cell BK315.out 3).trans rfl
     have hcz16_4 : w8.cell? ⟨gb315, 4, none⟩ = some (.int .i64 0) := (blk_cell BK315.out 4).trans rfl
     have hcz16_5 : w8.cell? ⟨gb315, 5, none⟩ = some (.int .i64 0) := (blk_cell BK315.out 5).trans rfl
     have hcz16_6 : w8.cell? ⟨gb315, 6, none⟩ = some (.int .i64 0) := (blk_cell BK315.out 6).trans rfl
     have hfz16_0 := blk_frozen BK315.out 0
     have hfz16_1 := blk_frozen BK315.out 1
     have hfz16_2 := blk_frozen BK315.out 2
     have hfz16_3 := blk_frozen BK315.out 3
     have hfz16_4 := blk_frozen BK315.out 4
     have hfz16_5 := blk_frozen BK315.out 5
     have hfz16_6 := blk_frozen BK315.out 6
     go_wp2
     go_meet
     case rel => exact ⟨_, (true), z12_, H', ⟨z103_⟩, ⟨z28_⟩, ⟨z6_⟩, ⟨z23_⟩⟩
   ·rw [if_neg c11] at H
    have c11b0 : (((rd_T72 l0_0 0).f2) == (-1)) = false := beq_eq_false_iff_ne.mpr c11
    have c11b1 : (((rd_T72 l0_0 0).f2) != (-1)) = true := bne_iff_ne.mpr c11
    (first | rw [c11b0] | rw [c11b1] | (simp only [i64_w, i32_w]; rw [c11b0]) | skip)
    have H' := Aside0.mk H
    clear H
    have hnb17 := NB315_312.out
    have hnc17 := NB312_315.out
    have hcz18_0 : w8.cell? ⟨gb315, 0, none⟩ = some (.bool false) := (blk_cell BK315.out 0).trans rfl
    have hcz18_1 : w8.cell? ⟨gb315, 1, none⟩ = some (.int .i64 0) := (blk_cell BK315.out 1).trans rfl
    have hcz18_2 : w8.cell? ⟨gb315, 2, none⟩ = some (.int .i64 0) := (blk_cell BK315.out 2).trans rfl
    have hcz18_3 : w8.cell? ⟨gb315, 3, none⟩ = some (.int .i64 0) := (blk_cell BK315.out 3).trans rfl
    have hcz18_4 : w8.cell? ⟨gb315, 4, none⟩ = some (.int .i64 0) := (blk_cell BK315.out 4).trans rfl
    have hcz18_5 : w8.cell? ⟨gb315, 5, none⟩ = some (.int .i64 0) := (blk_cell BK315.out 5).trans rfl
    have hcz18_6 : w8.cell? ⟨gb315, 6, none⟩ = some (.int .i64 0) := (blk_cell BK315.out 6).trans rfl
    have hfz18_0 := blk_frozen BK315.out 0
    have hfz18_1 := blk_frozen BK315.out 1
    have hfz18_2 := blk_frozen BK315.out 2
    have hfz18_3 := blk_frozen BK315.out 3
    have hfz18_4 := blk_frozen BK315.out 4
    have hfz18_5 := blk_frozen BK315.out 5
    have hfz18_6 := blk_frozen BK315.out 6
    go_wp2
    go_meet
    case rel => exact ⟨_, (true), z12_, H', ⟨z103_⟩, ⟨z28_⟩, ⟨z6_⟩, ⟨z23_⟩⟩
  case rest =>
   clear HC5
   try clear c1
   try clear p2
   try clear c3
   try clear p3
   try clear q3
   try clear hx3
   try clear qi3
   try clear c4
   try clear c4b0
   try clear c4b1
   try clear c5
   try clear c8
   try clear c9
   try clear c11
   try clear c11b0
   try clear c11b1
   try clear c12
   try clear c12b0
   try clear c12b1
   try clear c13
   try clear c15
   try clear c17
   try clear hcz10_0
   try clear hcz10_1
   try clear hcz10_2
   try clear hcz10_3
   try clear hcz10_4
   try clear hcz10_5
   try clear hcz10_6
   try clear hcz14_0
   try clear hcz14_1
   try clear hcz14_2
   try clear hcz14_3
   try clear hcz14_4
   try clear hcz14_5
   try clear hcz14_6
   try clear hcz16_0
   try clear hcz16_1
   try clear hcz16_2
   try clear hcz16_3
   try clear hcz16_4
   try clear hcz16_5
   try clear hcz16_6
   try clear hcz18_0
   try clear hcz18_1
   try clear hcz18_2
   try clear hcz18_3
   try clear hcz18_4
   try clear hcz18_5
   try clear hcz18_6
   try clear hcz7_0
   try clear hfz10_0
   try clear hfz10_1
   try clear hfz10_2
   try clear hfz10_3
   try clear hfz10_4
   try clear hfz10_5
   try clear hfz10_6
   try clear hfz14_0
   try clear hfz14_1
   try clear hfz14_2
   try clear hfz14_3
   try clear hfz14_4
   try clear hfz14_5
   try clear hfz14_6
   try clear hfz16_0
   try clear hfz16_1
   try clear hfz16_2
   try clear hfz16_3
   try clear hfz16_4
   try clear hfz16_5
   try clear hfz16_6
   try clear hfz18_0
   try clear hfz18_1
   try clear hfz18_2
   try clear hfz18_3
   try clear hfz18_4
   try clear hfz18_5
   try clear hfz18_6
   try clear hfz7_0
   try clear hx314_0
   try clear hx314_1
   try clear hx314_2
   try clear hx314_3
   try clear hx314_4
   try clear hx314_5
   try clear hx314_6
   try clear p314
   try clear q314
   obtain ⟨kq, x32_4, rfl, HA, HJ4, BK312, BK315, HB⟩ := hcut
   cases kq with
   | zero => exact absurd HA.out (by simp [impl_Dom_walked.j0])
   | succ kj4 =>
    have H := HA.out
    clear HA
    simp only [impl_Dom_walked.j0] at H
    by_cases c19 : x32_4 = true
    ·subst c19
     replace H := ift_ H
     simp only [Option.some.injEq, Prod.mk.injEq] at H
     obtain ⟨rfl, rfl, rfl⟩ := H
     go_wp2
     go_ret3
     exact ⟨_, _, z4_, z118_, z118_, z23_⟩
    ·replace c19 := Bool.eq_false_iff.mpr c19
     subst c19
     replace H := iff_ H
     replace H := Option.bind_eq_some_iff.mp H
     obtain ⟨⟨t316, t319, t322⟩, A200, H⟩ := H
     replace H : (impl_Dom_walked.l0 kj4 t316 t319 t322 l0_0 (l0_0.length : Int) 0) = some (r1, r2, r3) := H
     have A20 := Aside0.mk A200
     clear A200
     have H' := Aside0.mk H
     clear H
     have hnb21 := NB312_315.out
     have hnc21 := NB315_312.out
     have hcz22_0 : wc.cell? ⟨gb312, 0, none⟩ = some (.slice (some ad314) l0_0.length c0_0) := (blk_cell BK312.out 0).trans rfl
     have hfz22_0 := blk_frozen BK312.out 0
     go_wp2_with (first | ((with_reducible refine gate_callee (f := 112) rfl ?_); refine goesL_ (some 35) rfl rfl Try.func112 (by kernel_rfl) rfl #[.agg #[.slice (some ad314) l0_0.length c0_0], .int .i64 0, .int .i64 0, .slice none 0 0, .slice none 0 0] rfl z1_ ?_; (refine (impl_Dom_visit.calls kj4 _ _ l0_0 0 0 (fun k_ => some k_ = (.slice none 0 0 : Value).ownBlock) (.slice none 0 0) ([] : List (S62)) (fun k_ => some k_ = (.slice none 0 0 : Value).ownBlock) (.slice none 0 0) ([] : List Int) t316 t319 t322 w _ ?side1 ?side2 ?side3 ?side4 ?side5 A20.out).mono ?_); (case side1 => exact z23_); (case side2 => exact Kd.C_kept_came k72_heap HR0_0.out z23_ (fun k_ hs_ => Or.elim hs_ (fun e_ => (fun e_ => by simp [Value.ownBlock] at e_) e_) (fun e_ => (fun e_ => by simp [Value.ownBlock] at e_) e_))); (case side3 => exact HC0_0.out); (case side4 => exact z258_); (case side5 => exact z258_); rintro e w23 ⟨v317, v320, rfl, ho0, ho1, hb, hkp⟩; refine ⟨_, rfl, ?_⟩; replace BK312 := Aside0.mk (blk_kept z35_ hkp (fun hs_ => Or.elim hs_ (fun e_ => (fun e_ => by simp [Value.ownBlock] at e_) e_) (fun e_ => (fun e_ => by simp [Value.ownBlock] at e_) e_))); replace BK315 := Aside0.mk (blk_kept z38_ hkp (fun hs_ => Or.elim hs_ (fun e_ => (fun e_ => by simp [Value.ownBlock] at e_) e_) (fun e_ => (fun e_ => by simp [Value.ownBlock] at e_) e_))); have HO318 := Aside0.mk (Kd.R_mono (ok' := fun k_ => True) ho0 (fun k_ hk_ => trivial)); have HO321 := Aside0.mk (Kd.R_mono (ok' := fun k_ => True) ho1 (fun k_ hk_ => trivial)); replace HB := Aside0.mk (hb); (try clear hb hkp ho0 ho1); have hcz24_0 : w23.cell? ⟨gb312, 0, none⟩ = some (.slice (some ad314) l0_0.length c0_0) := (blk_cell BK312.out 0).trans rfl; have hfz24_0 := blk_frozen BK312.out 0))
     go_loopg [8, 42] kj4 (fun kq v8 v42 w' => ∃ (x8_2 : Bool) (x42_2 : Int), v8 = .bool x8_2 ∧ v42 = .int .i64 x42_2 ∧ Aside0 (impl_Dom_walked.l0 kq t316 t319 x8_2 l0_0 (l0_0.length : Int) x42_2 = some (r1, r2, r3)) ∧ Aside0 (kq ≤ kj4) ∧ Aside0 (Kd.R k62 62 w' w.heap.size (fun _ => True) v317 t316) ∧ Aside0 (Kd.R (Kd.int .i64) 3 w' w.heap.size (fun _ => True) v320 t319) ∧ Aside0 (w'.heap[gb312]? = some (.cells #[(.slice (some ad314) l0_0.length c0_0)] 28 (0, 0))) ∧ Aside0 (w'.heap[gb315]? = some (.cells #[.bool ((rd_T72 l0_0 0).f0), .int .i64 ((rd_T72 l0_0 0).f1), .int .i64 ((rd_T72 l0_0 0).f2), .int .i64 ((rd_T72 l0_0 0).f3), .int .i64 ((rd_T72 l0_0 0).f4), .int .i64 ((rd_T72 l0_0 0).f5), .int .i64 ((rd_T72 l0_0 0).f6)] 72 (0, 0))) ∧ Aside0 (Below w.heap.size w w'))
     case atStart => exact ⟨(t322), (0), z12_, z12_, H', ⟨Nat.le_refl _⟩, ⟨by (with_reducible repeat (first | apply Kd.R_alloc | apply Kd.R_drewN | apply Kd.R_drew)); exact HO318.out⟩, ⟨by (with_reducible repeat (first | apply Kd.R_alloc | apply Kd.R_drewN | apply Kd.R_drew)); exact HO321.out⟩, ⟨z35_⟩, ⟨z38_⟩, ⟨z23_⟩⟩
     case round =>
      clear H'
      try clear c1
      try clear c2
      try clear p2
      try clear c3
      try clear p3
      try clear q3
      try clear hx3
      try clear qi3
      try clear c4
      try clear c4b0
      try clear c4b1
      try clear c5
      try clear c8
      try clear c9
      try clear c11
      try clear c11b0
      try clear c11b1
      try clear c12
      try clear c12b0
      try clear c12b1
      try clear c13
      try clear c15
      try clear c17
      try clear c19
      try clear c21
      try clear hcz10_0
      try clear hcz10_1
      try clear hcz10_2
      try clear hcz10_3
      try clear hcz10_4
      try clear hcz10_5
      try clear hcz10_6
      try clear hcz14_0
      try clear hcz14_1
      try clear hcz14_2
      try clear hcz14_3
      try clear hcz14_4
      try clear hcz14_5
      try clear hcz14_6
      try clear hcz16_0
      try clear hcz16_1
      try clear hcz16_2
      try clear hcz16_3
      try clear hcz16_4
      try clear hcz16_5
      try clear hcz16_6
      try clear hcz18_0
      try clear hcz18_1
      try clear hcz18_2
      try clear hcz18_3
      try clear hcz18_4
      try clear hcz18_5
      try clear hcz18_6
      try clear hcz22_0
      try clear hcz24_0
      try clear hcz7_0
      try clear hfz10_0
      try clear hfz10_1
      try clear hfz10_2
      try clear hfz10_3
      try clear hfz10_4
      try clear hfz10_5
      try clear hfz10_6
      try clear hfz14_0
      try clear hfz14_1
      try clear hfz14_2
      try clear hfz14_3
      try clear hfz14_4
      try clear hfz14_5
      try clear hfz14_6
      try clear hfz16_0
      try clear hfz16_1
      try clear hfz16_2
      try clear hfz16_3
      try clear hfz16_4
      try clear hfz16_5
      try clear hfz16_6
      try clear hfz18_0
      try clear hfz18_1
      try clear hfz18_2
      try clear hfz18_3
      try clear hfz18_4
      try clear hfz18_5
      try clear hfz18_6
      try clear hfz22_0
      try clear hfz24_0
      try clear hfz7_0
      try clear hx314_0
      try clear hx314_1
      try clear hx314_2
      try clear hx314_3
      try clear hx314_4
      try clear hx314_5
      try clear hx314_6
      try clear p2
      try clear p3
      try clear p314
      try clear q3
      try clear q314
      obtain ⟨x8_2, x42_2, rfl, rfl, HA, HK2, HO_6, HO_7, BK312, BK315, HB⟩ := hrel
      cases gk with
      | zero => exact absurd HA.out (by simp [impl_Dom_walked.l0])
      | succ k2 =>
       have H := HA.out
       clear HA
       simp only [impl_Dom_walked.l0] at H
       by_cases c25 : x42_2 < (l0_0.length : Int)
       ·rw [if_pos c25] at H
        have c25b0 : decide (x42_2 < (l0_0.length : Int)) = true := decide_eq_true c25
        clear c25
        obtain ⟨c26b0, H⟩ := ifd_ H
        obtain ⟨c27b0, H⟩ := ifd_ H
        by_cases c28 : x8_2 = true
        ·subst c28
         replace H := ift_ H
         obtain ⟨t325, A29, H⟩ := bnd_ H
         by_cases c30 : t325 = true
         ·subst c30
          replace H := ift_ H
          have H' := Aside0.mk H
          clear H
          obtain ⟨p323, q323, ad323, e323, hx323_0, hx323_1, hx323_2, hx323_3, hx323_4, hx323_5, hx323_6⟩ := atb72_ HR0_0 HB x42_2
          obtain rfl : ad314 = ad323 := (by injection e323)
          try go_wp2_with (first | ((with_reducible refine gate_dst (N := 10) rfl ?_); refine box_event ?hg (N := 10) ?hd (cs := #[.bool false, .int .i64 0, .int .i64 0, .int .i64 0, .int .i64 0, .int .i64 0, .int .i64 0]) (t := 72) ?hr ?_; (case hd => rfl); (case hg => rfl); (case hr => exact z25_); intro gb324 hg w31 hbox hb; replace HO_6 := Aside0.mk (Kd.R_below z60_ hb); replace HO_7 := Aside0.mk (Kd.R_below z74_ hb); have BK324 := Aside0.mk (hbox); have GW324 := Aside0.mk ((by rw [hg]; exact (below_size z23_) : w.heap.size ≤ gb324)); have GE324 := Aside0.mk ((by rw [hg]; exact (below_size z23_) : w.heap.size ≤ gb324)); replace HB := Aside0.mk (below_step z23_ hb); have NB312_324 := Aside0.mk ((by rw [hg]; exact Nat.ne_of_lt (blk_lt (g := gb312) (o := .cells #[.slice (some ad314) l0_0.length c0_0] 28 (0, 0)) z35_) : gb312 ≠ gb324)); have NB324_312 := Aside0.mk ((by rw [hg]; exact Nat.ne_of_gt (blk_lt (g := gb312) (o := .cells #[.slice (some ad314) l0_0.length c0_0] 28 (0, 0)) z35_) : gb324 ≠ gb312)); replace BK312 := Aside0.mk (blk_below (g := gb312) (o := .cells #[.slice (some ad314) l0_0.length c0_0] 28 (0, 0)) z35_ hb); have NB315_324 := Aside0.mk ((by rw [hg]; exact Nat.ne_of_lt (blk_lt (g := gb315) (o := .cells #[.bool ((rd_T72 l0_0 0).f0), .int .i64 ((rd_T72 l0_0 0).f1), .int .i64 ((rd_T72 l0_0 0).f2), .int .i64 ((rd_T72 l0_0 0).f3), .int .i64 ((rd_T72 l0_0 0).f4), .int .i64 ((rd_T72 l0_0 0).f5), .int .i64 ((rd_T72 l0_0 0).f6)] 72 (0, 0)) z38_) : gb315 ≠ gb324)); have NB324_315 := Aside0.mk ((by rw [hg]; exact Nat.ne_of_gt (blk_lt (g := gb315) (o := .cells #[.bool ((rd_T72 l0_0 0).f0), .int .i64 ((rd_T72 l0_0 0).f1), .int .i64 ((rd_T72 l0_0 0).f2), .int .i64 ((rd_T72 l0_0 0).f3), .int .i64 ((rd_T72 l0_0 0).f4), .int .i64 ((rd_T72 l0_0 0).f5), .int .i64 ((rd_T72 l0_0 0).f6)] 72 (0, 0)) z38_) : gb324 ≠ gb315)); replace BK315 := Aside0.mk (blk_below (g := gb315) (o := .cells #[.bool ((rd_T72 l0_0 0).f0), .int .i64 ((rd_T72 l0_0 0).f1), .int .i64 ((rd_T72 l0_0 0).f2), .int .i64 ((rd_T72 l0_0 0).f3), .int .i64 ((rd_T72 l0_0 0).f4), .int .i64 ((rd_T72 l0_0 0).f5), .int .i64 ((rd_T72 l0_0 0).f6)] 72 (0, 0)) z38_ hb); clear hb hbox hg; have hnb32 := NB324_312.out; have hnc32 := NB312_324.out; have hnb33 := NB324_315.out; have hnc33 := NB315_324.out; have hcz34_0 : w31.cell? ⟨gb324, 0, none⟩ = some (.bool false) := (blk_cell BK324.out 0).trans rfl; have hcz34_1 : w31.cell? ⟨gb324, 1, none⟩ = some (.int .i64 0) := (blk_cell BK324.out 1).trans rfl; have hcz34_2 : w31.cell? ⟨gb324, 2, none⟩ = some (.int .i64 0) := (blk_cell BK324.out 2).trans rfl; have hcz34_3 : w31.cell? ⟨gb324, 3, none⟩ = some (.int .i64 0) := (blk_cell BK324.out 3).trans rfl; have hcz34_4 : w31.cell? ⟨gb324, 4, none⟩ = some (.int .i64 0) := (blk_cell BK324.out 4).trans rfl; have hcz34_5 : w31.cell? ⟨gb324, 5, none⟩ = some (.int .i64 0) := (blk_cell BK324.out 5).trans rfl; have hcz34_6 : w31.cell? ⟨gb324, 6, none⟩ = some (.int .i64 0) := (blk_cell BK324.out 6).trans rfl; have hfz34_0 := blk_frozen BK324.out 0; have hfz34_1 := blk_frozen BK324.out 1; have hfz34_2 := blk_frozen BK324.out 2; have hfz34_3 := blk_frozen BK324.out 3; have hfz34_4 := blk_frozen BK324.out 4; have hfz34_5 := blk_frozen BK324.out 5; have hfz34_6 := blk_frozen BK324.out 6))
          have n0_ : Aside0 (Kd.R k62 62 (((((((w31.setCell ⟨gb324, 0, none⟩ (.bool ((rd_T72 l0_0 x42_2).f0))).setCell ⟨gb324, 1, none⟩ (.int .i64 ((rd_T72 l0_0 x42_2).f1))).setCell ⟨gb324, 2, none⟩ (.int .i64 ((rd_T72 l0_0 x42_2).f2))).setCell ⟨gb324, 3, none⟩ (.int .i64 ((rd_T72 l0_0 x42_2).f3))).setCell ⟨gb324, 4, none⟩ (.int .i64 ((rd_T72 l0_0 x42_2).f4))).setCell ⟨gb324, 5, none⟩ (.int .i64 ((rd_T72 l0_0 x42_2).f5))).setCell ⟨gb324, 6, none⟩ (.int .i64 ((rd_T72 l0_0 x42_2).f6))) w.heap.size (fun _ => True) v317 t316) := ⟨z29_⟩
          have n1_ : Aside0 (Kd.R (Kd.int .i64) 3 (((((((w31.setCell ⟨gb324, 0, none⟩ (.bool ((rd_T72 l0_0 x42_2).f0))).setCell ⟨gb324, 1, none⟩ (.int .i64 ((rd_T72 l0_0 x42_2).f1))).setCell ⟨gb324, 2, none⟩ (.int .i64 ((rd_T72 l0_0 x42_2).f2))).setCell ⟨gb324, 3, none⟩ (.int .i64 ((rd_T72 l0_0 x42_2).f3))).setCell ⟨gb324, 4, none⟩ (.int .i64 ((rd_T72 l0_0 x42_2).f4))).setCell ⟨gb324, 5, none⟩ (.int .i64 ((rd_T72 l0_0 x42_2).f5))).setCell ⟨gb324, 6, none⟩ (.int .i64 ((rd_T72 l0_0 x42_2).f6))) w.heap.size (fun _ => True) v320 t319) := ⟨z30_⟩
          have n2_ : Aside0 ((((((((w31.setCell ⟨gb324, 0, none⟩ (.bool ((rd_T72 l0_0 x42_2).f0))).setCell ⟨gb324, 1, none⟩ (.int .i64 ((rd_T72 l0_0 x42_2).f1))).setCell ⟨gb324, 2, none⟩ (.int .i64 ((rd_T72 l0_0 x42_2).f2))).setCell ⟨gb324, 3, none⟩ (.int .i64 ((rd_T72 l0_0 x42_2).f3))).setCell ⟨gb324, 4, none⟩ (.int .i64 ((rd_T72 l0_0 x42_2).f4))).setCell ⟨gb324, 5, none⟩ (.int .i64 ((rd_T72 l0_0 x42_2).f5))).setCell ⟨gb324, 6, none⟩ (.int .i64 ((rd_T72 l0_0 x42_2).f6))).heap[gb312]? = some (.cells #[.slice (some ad314) l0_0.length c0_0] 28 (0, 0))) := ⟨z17_⟩
          have n3_ : Aside0 ((((((((w31.setCell ⟨gb324, 0, none⟩ (.bool ((rd_T72 l0_0 x42_2).f0))).setCell ⟨gb324, 1, none⟩ (.int .i64 ((rd_T72 l0_0 x42_2).f1))).setCell ⟨gb324, 2, none⟩ (.int .i64 ((rd_T72 l0_0 x42_2).f2))).setCell ⟨gb324, 3, none⟩ (.int .i64 ((rd_T72 l0_0 x42_2).f3))).setCell ⟨gb324, 4, none⟩ (.int .i64 ((rd_T72 l0_0 x42_2).f4))).setCell ⟨gb324, 5, none⟩ (.int .i64 ((rd_T72 l0_0 x42_2).f5))).setCell ⟨gb324, 6, none⟩ (.int .i64 ((rd_T72 l0_0 x42_2).f6))).heap[gb315]? = some (.cells #[.bool ((rd_T72 l0_0 0).f0), .int .i64 ((rd_T72 l0_0 0).f1), .int .i64 ((rd_T72 l0_0 0).f2), .int .i64 ((rd_T72 l0_0 0).f3), .int .i64 ((rd_T72 l0_0 0).f4), .int .i64 ((rd_T72 l0_0 0).f5), .int .i64 ((rd_T72 l0_0 0).f6)] 72 (0, 0))) := ⟨z18_⟩
          have n4_ : Aside0 ((((((((w31.setCell ⟨gb324, 0, none⟩ (.bool ((rd_T72 l0_0 x42_2).f0))).setCell ⟨gb324, 1, none⟩ (.int .i64 ((rd_T72 l0_0 x42_2).f1))).setCell ⟨gb324, 2, none⟩ (.int .i64 ((rd_T72 l0_0 x42_2).f2))).setCell ⟨gb324, 3, none⟩ (.int .i64 ((rd_T72 l0_0 x42_2).f3))).setCell ⟨gb324, 4, none⟩ (.int .i64 ((rd_T72 l0_0 x42_2).f4))).setCell ⟨gb324, 5, none⟩ (.int .i64 ((rd_T72 l0_0 x42_2).f5))).setCell ⟨gb324, 6, none⟩ (.int .i64 ((rd_T72 l0_0 x42_2).f6))).heap[gb324]? = some (.cells #[.bool ((rd_T72 l0_0 x42_2).f0), .int .i64 ((rd_T72 l0_0 x42_2).f1), .int .i64 ((rd_T72 l0_0 x42_2).f2), .int .i64 ((rd_T72 l0_0 x42_2).f3), .int .i64 ((rd_T72 l0_0 x42_2).f4), .int .i64 ((rd_T72 l0_0 x42_2).f5), .int .i64 ((rd_T72 l0_0 x42_2).f6)] 72 (0, 0))) := ⟨z3_⟩
          have n5_ : Aside0 (Below w.heap.size w (((((((w31.setCell ⟨gb324, 0, none⟩ (.bool ((rd_T72 l0_0 x42_2).f0))).setCell ⟨gb324, 1, none⟩ (.int .i64 ((rd_T72 l0_0 x42_2).f1))).setCell ⟨gb324, 2, none⟩ (.int .i64 ((rd_T72 l0_0 x42_2).f2))).setCell ⟨gb324, 3, none⟩ (.int .i64 ((rd_T72 l0_0 x42_2).f3))).setCell ⟨gb324, 4, none⟩ (.int .i64 ((rd_T72 l0_0 x42_2).f4))).setCell ⟨gb324, 5, none⟩ (.int .i64 ((rd_T72 l0_0 x42_2).f5))).setCell ⟨gb324, 6, none⟩ (.int .i64 ((rd_T72 l0_0 x42_2).f6)))) := ⟨z39_⟩
          (try clear HO_6)
          (try clear HO_7)
          (try clear BK312)
          (try clear BK315)
          (try clear BK324)
          (try clear HB)
          generalize (((((((w31.setCell ⟨gb324, 0, none⟩ (.bool ((rd_T72 l0_0 x42_2).f0))).setCell ⟨gb324, 1, none⟩ (.int .i64 ((rd_T72 l0_0 x42_2).f1))).setCell ⟨gb324, 2, none⟩ (.int .i64 ((rd_T72 l0_0 x42_2).f2))).setCell ⟨gb324, 3, none⟩ (.int .i64 ((rd_T72 l0_0 x42_2).f3))).setCell ⟨gb324, 4, none⟩ (.int .i64 ((rd_T72 l0_0 x42_2).f4))).setCell ⟨gb324, 5, none⟩ (.int .i64 ((rd_T72 l0_0 x42_2).f5))).setCell ⟨gb324, 6, none⟩ (.int .i64 ((rd_T72 l0_0 x42_2).f6))) = w35 at n0_ n1_ n2_ n3_ n4_ n5_ ⊢
          have HO_6 := n0_
          have HO_7 := n1_
          have BK312 := n2_
          have BK315 := n3_
          have BK324 := n4_
          have HB := n5_
          clear n0_ n1_ n2_ n3_ n4_ n5_
          have n0_ := Aside0.mk (Kd.R_drew HO_6.out)
          have n1_ := Aside0.mk (Kd.R_drew HO_7.out)
          have n2_ := Aside0.mk (blk_drew BK312.out)
          have n3_ := Aside0.mk (blk_drew BK315.out)
          have n4_ := Aside0.mk (blk_drew BK324.out)
          have n5_ := Aside0.mk (below_drew1 HB.out)
          clear HO_6
          clear HO_7
          clear BK312
          clear BK315
          clear BK324
          clear HB
          have HO_6 := n0_
          have HO_7 := n1_
          have BK312 := n2_
          have BK315 := n3_
          have BK324 := n4_
          have HB := n5_
          clear n0_ n1_ n2_ n3_ n4_ n5_
          obtain ⟨Ao37, co37, eo37⟩ := Kd.R_slice HO_7.out
          (first | subst eo37 | (injection eo37 with f1_ f2_ f3_; have f4_ := f1_.symm; have f5_ := f3_.symm; clear f1_ f2_ f3_; subst f4_; subst f5_))
          refine start_ (n := 12) (S := fun w' => True) (ds := []) (fl_ 12 0) (by kernel_rfl) rfl (fl_zero _) trivial (fun hHeld => ?_); refine with_tabW impl_Dom_walked.tab10 impl_Dom_walked.bits10 (fun HT_ HW_ => ?_)
          generalize w35.drew = w36 at HO_6 HO_7 BK312 BK315 BK324 HB hHeld ⊢
          iterate 4 refine zp_ HT_ rfl rfl (by kernel_rfl) (fun _ _ _ h => h) (by rfl) ?_
          refine one_ (i := 4) (N := some 51) (fl_ 12 5) rfl rfl (one_of HT_.out (by kernel_rfl)) (by decide) (fun K hK => ?_)
          refine goes_ Try.func86 (by kernel_rfl) rfl #[.slice Ao37 t319.length co37, .int .i64 x42_2] (by rfl) rfl rfl z1_ ?_
          with_reducible refine (slices_Contains_int_int.calls k2 _ _ t319 x42_2 true _ ?side1 ?side2 A29.out).mono ?_
          (case side1 => exact z130_)
          (case side2 => exact (Kd.R_reads' HO_7.out).2.1)
          rintro e w' ⟨rfl, ⟨nd, rfl⟩⟩
          refine ⟨_, rfl, ?_⟩
          refine hK.out _ _ trivial (fun hHeld => ?_)
          clear hK K
          refine zn_ rfl ?_
          iterate 3 refine zp_ HT_ rfl rfl (by kernel_rfl) (fun _ _ _ h => h) (by rfl) ?_
          iterate 3 refine zu_ HT_ rfl rfl (by kernel_rfl) (fun _ _ _ h => h) (by rfl) ?_
          refine zp_ HT_ rfl rfl (by kernel_rfl) (fun _ _ _ h => h) (by rfl) ?_
          refine done_ (done_of HT_.out (by kernel_rfl)) ?_
          try go_wp2
          go_roundg k2
          case measure => have := HJ4.out; have := HK2.out; omega
          case rel => exact ⟨(true), (wrap64 (x42_2 + 1)), z12_, z12_, H', ⟨z255_⟩, ⟨z60_⟩, ⟨z74_⟩, ⟨z35_⟩, ⟨z38_⟩, ⟨z39_⟩⟩
         ·replace c30 := Bool.eq_false_iff.mpr c30
          subst c30
          replace H := iff_ H
          replace H := Option.bind_eq_some_iff.mp H
          obtain ⟨⟨t326, t327, t328, t329, t330, t331, t332⟩, A380, H⟩ := H
          replace H : (if (!(((rd_T72 l0_0 x42_2).f0) == t326) || (!(((rd_T72 l0_0 x42_2).f1) == t327) || (!(((rd_T72 l0_0 x42_2).f2) == t328) || (!(((rd_T72 l0_0 x42_2).f3) == t329) || (!(((rd_T72 l0_0 x42_2).f4) == t330) || (!(((rd_T72 l0_0 x42_2).f5) == t331) || (!(((rd_T72 l0_0 x42_2).f6) == t332)))))))) = true then (impl_Dom_walked.l0 k2 t316 t319 false l0_0 (l0_0.length : Int) (wrap64 (x42_2 + 1))) else (impl_Dom_walked.l0 k2 t316 t319 true l0_0 (l0_0.length : Int) (wrap64 (x42_2 + 1)))) = some (r1, r2, r3) := H
          have A38 := Aside0.mk A380
          clear A380
          by_cases c39 : (!(((rd_T72 l0_0 x42_2).f0) == t326) || (!(((rd_T72 l0_0 x42_2).f1) == t327) || (!(((rd_T72 l0_0 x42_2).f2) == t328) || (!(((rd_T72 l0_0 x42_2).f3) == t329) || (!(((rd_T72 l0_0 x42_2).f4) == t330) || (!(((rd_T72 l0_0 x42_2).f5) == t331) || (!(((rd_T72 l0_0 x42_2).f6) == t332)))))))) = true
          ·rw [if_pos c39] at H
           have c39b0 : (!(((rd_T72 l0_0 x42_2).f0) == t326) || (!(((rd_T72 l0_0 x42_2).f1) == t327) || (!(((rd_T72 l0_0 x42_2).f2) == t328) || (!(((rd_T72 l0_0 x42_2).f3) == t329) || (!(((rd_T72 l0_0 x42_2).f4) == t330) || (!(((rd_T72 l0_0 x42_2).f5) == t331) || (!(((rd_T72 l0_0 x42_2).f6) == t332)))))))) = true := c39
           clear c39
           have H' := Aside0.mk H
           clear H
           obtain ⟨p323, q323, ad323, e323, hx323_0, hx323_1, hx323_2, hx323_3, hx323_4, hx323_5, hx323_6⟩ := atb72_ HR0_0 HB x42_2
           obtain rfl : ad314 = ad323 := (by injection e323)
           try go_wp2_with (first | ((with_reducible refine gate_dst (N := 10) rfl ?_); refine box_event ?hg (N := 10) ?hd (cs := #[.bool false, .int .i64 0, .int .i64 0, .int .i64 0, .int .i64 0, .int .i64 0, .int .i64 0]) (t := 72) ?hr ?_; (case hd => rfl); (case hg => rfl); (case hr => exact z25_); intro gb324 hg w40 hbox hb; replace HO_6 := Aside0.mk (Kd.R_below z60_ hb); replace HO_7 := Aside0.mk (Kd.R_below z74_ hb); have BK324 := Aside0.mk (hbox); have GW324 := Aside0.mk ((by rw [hg]; exact (below_size z23_) : w.heap.size ≤ gb324)); have GE324 := Aside0.mk ((by rw [hg]; exact (below_size z23_) : w.heap.size ≤ gb324)); replace HB := Aside0.mk (below_step z23_ hb); have NB312_324 := Aside0.mk ((by rw [hg]; exact Nat.ne_of_lt (blk_lt (g := gb312) (o := .cells #[.slice (some ad314) l0_0.length c0_0] 28 (0, 0)) z35_) : gb312 ≠ gb324)); have NB324_312 := Aside0.mk ((by rw [hg]; exact Nat.ne_of_gt (blk_lt (g := gb312) (o := .cells #[.slice (some ad314) l0_0.length c0_0] 28 (0, 0)) z35_) : gb324 ≠ gb312)); replace BK312 := Aside0.mk (blk_below (g := gb312) (o := .cells #[.slice (some ad314) l0_0.length c0_0] 28 (0, 0)) z35_ hb); have NB315_324 := Aside0.mk ((by rw [hg]; exact Nat.ne_of_lt (blk_lt (g := gb315) (o := .cells #[.bool ((rd_T72 l0_0 0).f0), .int .i64 ((rd_T72 l0_0 0).f1), .int .i64 ((rd_T72 l0_0 0).f2), .int .i64 ((rd_T72 l0_0 0).f3), .int .i64 ((rd_T72 l0_0 0).f4), .int .i64 ((rd_T72 l0_0 0).f5), .int .i64 ((rd_T72 l0_0 0).f6)] 72 (0, 0)) z38_) : gb315 ≠ gb324)); have NB324_315 := Aside0.mk ((by rw [hg]; exact Nat.ne_of_gt (blk_lt (g := gb315) (o := .cells #[.bool ((rd_T72 l0_0 0).f0), .int .i64 ((rd_T72 l0_0 0).f1), .int .i64 ((rd_T72 l0_0 0).f2), .int .i64 ((rd_T72 l0_0 0).f3), .int .i64 ((rd_T72 l0_0 0).f4), .int .i64 ((rd_T72 l0_0 0).f5), .int .i64 ((rd_T72 l0_0 0).f6)] 72 (0, 0)) z38_) : gb324 ≠ gb315)); replace BK315 := Aside0.mk (blk_below (g := gb315) (o := .cells #[.bool ((rd_T72 l0_0 0).f0), .int .i64 ((rd_T72 l0_0 0).f1), .int .i64 ((rd_T72 l0_0 0).f2), .int .i64 ((rd_T72 l0_0 0).f3), .int .i64 ((rd_T72 l0_0 0).f4), .int .i64 ((rd_T72 l0_0 0).f5), .int .i64 ((rd_T72 l0_0 0).f6)] 72 (0, 0)) z38_ hb); clear hb hbox hg; have hnb41 := NB324_312.out; have hnc41 := NB312_324.out; have hnb42 := NB324_315.out; have hnc42 := NB315_324.out; have hcz43_0 : w40.cell? ⟨gb324, 0, none⟩ = some (.bool false) := (blk_cell BK324.out 0).trans rfl; have hcz43_1 : w40.cell? ⟨gb324, 1, none⟩ = some (.int .i64 0) := (blk_cell BK324.out 1).trans rfl; have hcz43_2 : w40.cell? ⟨gb324, 2, none⟩ = some (.int .i64 0) := (blk_cell BK324.out 2).trans rfl; have hcz43_3 : w40.cell? ⟨gb324, 3, none⟩ = some (.int .i64 0) := (blk_cell BK324.out 3).trans rfl; have hcz43_4 : w40.cell? ⟨gb324, 4, none⟩ = some (.int .i64 0) := (blk_cell BK324.out 4).trans rfl; have hcz43_5 : w40.cell? ⟨gb324, 5, none⟩ = some (.int .i64 0) := (blk_cell BK324.out 5).trans rfl; have hcz43_6 : w40.cell? ⟨gb324, 6, none⟩ = some (.int .i64 0) := (blk_cell BK324.out 6).trans rfl; have hfz43_0 := blk_frozen BK324.out 0; have hfz43_1 := blk_frozen BK324.out 1; have hfz43_2 := blk_frozen BK324.out 2; have hfz43_3 := blk_frozen BK324.out 3; have hfz43_4 := blk_frozen BK324.out 4; have hfz43_5 := blk_frozen BK324.out 5; have hfz43_6 := blk_frozen BK324.out 6))
           have n0_ : Aside0 (Kd.R k62 62 (((((((w40.setCell ⟨gb324, 0, none⟩ (.bool ((rd_T72 l0_0 x42_2).f0))).setCell ⟨gb324, 1, none⟩ (.int .i64 ((rd_T72 l0_0 x42_2).f1))).setCell ⟨gb324, 2, none⟩ (.int .i64 ((rd_T72 l0_0 x42_2).f2))).setCell ⟨gb324, 3, none⟩ (.int .i64 ((rd_T72 l0_0 x42_2).f3))).setCell ⟨gb324, 4, none⟩ (.int .i64 ((rd_T72 l0_0 x42_2).f4))).setCell ⟨gb324, 5, none⟩ (.int .i64 ((rd_T72 l0_0 x42_2).f5))).setCell ⟨gb324, 6, none⟩ (.int .i64 ((rd_T72 l0_0 x42_2).f6))) w.heap.size (fun _ => True) v317 t316) := ⟨z29_⟩
           have n1_ : Aside0 (Kd.R (Kd.int .i64) 3 (((((((w40.setCell ⟨gb324, 0, none⟩ (.bool ((rd_T72 l0_0 x42_2).f0))).setCell ⟨gb324, 1, none⟩ (.int .i64 ((rd_T72 l0_0 x42_2).f1))).setCell ⟨gb324, 2, none⟩ (.int .i64 ((rd_T72 l0_0 x42_2).f2))).setCell ⟨gb324, 3, none⟩ (.int .i64 ((rd_T72 l0_0 x42_2).f3))).setCell ⟨gb324, 4, none⟩ (.int .i64 ((rd_T72 l0_0 x42_2).f4))).setCell ⟨gb324, 5, none⟩ (.int .i64 ((rd_T72 l0_0 x42_2).f5))).setCell ⟨gb324, 6, none⟩ (.int .i64 ((rd_T72 l0_0 x42_2).f6))) w.heap.size (fun _ => True) v320 t319) := ⟨z30_⟩
           have n2_ : Aside0 ((((((((w40.setCell ⟨gb324, 0, none⟩ (.bool ((rd_T72 l0_0 x42_2).f0))).setCell ⟨gb324, 1, none⟩ (.int .i64 ((rd_T72 l0_0 x42_2).f1))).setCell ⟨gb324, 2, none⟩ (.int .i64 ((rd_T72 l0_0 x42_2).f2))).setCell ⟨gb324, 3, none⟩ (.int .i64 ((rd_T72 l0_0 x42_2).f3))).setCell ⟨gb324, 4, none⟩ (.int .i64 ((rd_T72 l0_0 x42_2).f4))).setCell ⟨gb324, 5, none⟩ (.int .i64 ((rd_T72 l0_0 x42_2).f5))).setCell ⟨gb324, 6, none⟩ (.int .i64 ((rd_T72 l0_0 x42_2).f6))).heap[gb312]? = some (.cells #[.slice (some ad314) l0_0.length c0_0] 28 (0, 0))) := ⟨z17_⟩
           have n3_ : Aside0 ((((((((w40.setCell ⟨gb324, 0, none⟩ (.bool ((rd_T72 l0_0 x42_2).f0))).setCell ⟨gb324, 1, none⟩ (.int .i64 ((rd_T72 l0_0 x42_2).f1))).setCell ⟨gb324, 2, none⟩ (.int .i64 ((rd_T72 l0_0 x42_2).f2))).setCell ⟨gb324, 3, none⟩ (.int .i64 ((rd_T72 l0_0 x42_2).f3))).setCell ⟨gb324, 4, none⟩ (.int .i64 ((rd_T72 l0_0 x42_2).f4))).setCell ⟨gb324, 5, none⟩ (.int .i64 ((rd_T72 l0_0 x42_2).f5))).setCell ⟨gb324, 6, none⟩ (.int .i64 ((rd_T72 l0_0 x42_2).f6))).heap[gb315]? = some (.cells #[.bool ((rd_T72 l0_0 0).f0), .int .i64 ((rd_T72 l0_0 0).f1), .int .i64 ((rd_T72 l0_0 0).f2), .int .i64 ((rd_T72 l0_0 0).f3), .int .i64 ((rd_T72 l0_0 0).f4), .int .i64 ((rd_T72 l0_0 0).f5), .int .i64 ((rd_T72 l0_0 0).f6)] 72 (0, 0))) := ⟨z18_⟩
           have n4_ : Aside0 ((((((((w40.setCell ⟨gb324, 0, none⟩ (.bool ((rd_T72 l0_0 x42_2).f0))).setCell ⟨gb324, 1, none⟩ (.int .i64 ((rd_T72 l0_0 x42_2).f1))).setCell ⟨gb324, 2, none⟩ (.int .i64 ((rd_T72 l0_0 x42_2).f2))).setCell ⟨gb324, 3, none⟩ (.int .i64 ((rd_T72 l0_0 x42_2).f3))).setCell ⟨gb324, 4, none⟩ (.int .i64 ((rd_T72 l0_0 x42_2).f4))).setCell ⟨gb324, 5, none⟩ (.int .i64 ((rd_T72 l0_0 x42_2).f5))).setCell ⟨gb324, 6, none⟩ (.int .i64 ((rd_T72 l0_0 x42_2).f6))).heap[gb324]? = some (.cells #[.bool ((rd_T72 l0_0 x42_2).f0), .int .i64 ((rd_T72 l0_0 x42_2).f1), .int .i64 ((rd_T72 l0_0 x42_2).f2), .int .i64 ((rd_T72 l0_0 x42_2).f3), .int .i64 ((rd_T72 l0_0 x42_2).f4), .int .i64 ((rd_T72 l0_0 x42_2).f5), .int .i64 ((rd_T72 l0_0 x42_2).f6)] 72 (0, 0))) := ⟨z3_⟩
           have n5_ : Aside0 (Below w.heap.size w (((((((w40.setCell ⟨gb324, 0, none⟩ (.bool ((rd_T72 l0_0 x42_2).f0))).setCell ⟨gb324, 1, none⟩ (.int .i64 ((rd_T72 l0_0 x42_2).f1))).setCell ⟨gb324, 2, none⟩ (.int .i64 ((rd_T72 l0_0 x42_2).f2))).setCell ⟨gb324, 3, none⟩ (.int .i64 ((rd_T72 l0_0 x42_2).f3))).setCell ⟨gb324, 4, none⟩ (.int .i64 ((rd_T72 l0_0 x42_2).f4))).setCell ⟨gb324, 5, none⟩ (.int .i64 ((rd_T72 l0_0 x42_2).f5))).setCell ⟨gb324, 6, none⟩ (.int .i64 ((rd_T72 l0_0 x42_2).f6)))) := ⟨z39_⟩
           (try clear HO_6)
           (try clear HO_7)
           (try clear BK312)
           (try clear BK315)
           (try clear BK324)
           (try clear HB)
           generalize (((((((w40.setCell ⟨gb324, 0, none⟩ (.bool ((rd_T72 l0_0 x42_2).f0))).setCell ⟨gb324, 1, none⟩ (.int .i64 ((rd_T72 l0_0 x42_2).f1))).setCell ⟨gb324, 2, none⟩ (.int .i64 ((rd_T72 l0_0 x42_2).f2))).setCell ⟨gb324, 3, none⟩ (.int .i64 ((rd_T72 l0_0 x42_2).f3))).setCell ⟨gb324, 4, none⟩ (.int .i64 ((rd_T72 l0_0 x42_2).f4))).setCell ⟨gb324, 5, none⟩ (.int .i64 ((rd_T72 l0_0 x42_2).f5))).setCell ⟨gb324, 6, none⟩ (.int .i64 ((rd_T72 l0_0 x42_2).f6))) = w44 at n0_ n1_ n2_ n3_ n4_ n5_ ⊢
           have HO_6 := n0_
           have HO_7 := n1_
           have BK312 := n2_
           have BK315 := n3_
           have BK324 := n4_
           have HB := n5_
           clear n0_ n1_ n2_ n3_ n4_ n5_
           have n0_ := Aside0.mk (Kd.R_drew HO_6.out)
           have n1_ := Aside0.mk (Kd.R_drew HO_7.out)
           have n2_ := Aside0.mk (blk_drew BK312.out)
           have n3_ := Aside0.mk (blk_drew BK315.out)
           have n4_ := Aside0.mk (blk_drew BK324.out)
           have n5_ := Aside0.mk (below_drew1 HB.out)
           clear HO_6
           clear HO_7
           clear BK312
           clear BK315
           clear BK324
           clear HB
           have HO_6 := n0_
           have HO_7 := n1_
           have BK312 := n2_
           have BK315 := n3_
           have BK324 := n4_
           have HB := n5_
           clear n0_ n1_ n2_ n3_ n4_ n5_
           obtain ⟨Ao46, co46, eo46⟩ := Kd.R_slice HO_7.out
           (first | subst eo46 | (injection eo46 with f1_ f2_ f3_; have f4_ := f1_.symm; have f5_ := f3_.symm; clear f1_ f2_ f3_; subst f4_; subst f5_))
           refine start_ (n := 12) (S := fun w' => w'.cell? ⟨gb324, 0, none⟩ = some (.bool ((rd_T72 l0_0 x42_2).f0)) ∧ w'.cell? ⟨gb324, 1, none⟩ = some (.int .i64 ((rd_T72 l0_0 x42_2).f1)) ∧ w'.cell? ⟨gb324, 2, none⟩ = some (.int .i64 ((rd_T72 l0_0 x42_2).f2)) ∧ w'.cell? ⟨gb324, 3, none⟩ = some (.int .i64 ((rd_T72 l0_0 x42_2).f3)) ∧ w'.cell? ⟨gb324, 4, none⟩ = some (.int .i64 ((rd_T72 l0_0 x42_2).f4)) ∧ w'.cell? ⟨gb324, 5, none⟩ = some (.int .i64 ((rd_T72 l0_0 x42_2).f5)) ∧ w'.cell? ⟨gb324, 6, none⟩ = some (.int .i64 ((rd_T72 l0_0 x42_2).f6))) (ds := []) (fl_ 12 0) (by kernel_rfl) rfl (fl_zero _) ⟨(blk_cell BK324.out 0).trans rfl, (blk_cell BK324.out 1).trans rfl, (blk_cell BK324.out 2).trans rfl, (blk_cell BK324.out 3).trans rfl, (blk_cell BK324.out 4).trans rfl, (blk_cell BK324.out 5).trans rfl, (blk_cell BK324.out 6).trans rfl⟩ (fun hHeld => ?_); refine with_tabW impl_Dom_walked.tab10 impl_Dom_walked.bits10 (fun HT_ HW_ => ?_)
           generalize w44.drew = w45 at HO_6 HO_7 BK312 BK315 BK324 HB hHeld ⊢
           iterate 4 refine zp_ HT_ rfl rfl (by kernel_rfl) (fun _ _ _ h => h) (by rfl) ?_
           refine one_ (i := 4) (N := some 51) (fl_ 12 5) rfl rfl (one_of HT_.out (by kernel_rfl)) (by decide) (fun K hK => ?_)
           refine goes_ Try.func86 (by kernel_rfl) rfl #[.slice Ao46 t319.length co46, .int .i64 x42_2] (by rfl) rfl rfl z1_ ?_
           with_reducible refine (slices_Contains_int_int.calls k2 _ _ t319 x42_2 false _ ?side1 ?side2 A29.out).mono ?_
           (case side1 => exact z130_)
           (case side2 => exact (Kd.R_reads' HO_7.out).2.1)
           rintro e w' ⟨rfl, ⟨nd, rfl⟩⟩
           refine ⟨_, rfl, ?_⟩
           refine hK.out _ _ ⟨(blk_cell BK324.out 0).trans rfl, (blk_cell BK324.out 1).trans rfl, (blk_cell BK324.out 2).trans rfl, (blk_cell BK324.out 3).trans rfl, (blk_cell BK324.out 4).trans rfl, (blk_cell BK324.out 5).trans rfl, (blk_cell BK324.out 6).trans rfl⟩ (fun hHeld => ?_)
           clear hK K
           refine zn_ rfl ?_
           iterate 3 refine zp_ HT_ rfl rfl (by kernel_rfl) (fun _ _ _ h => h) (by rfl) ?_
           refine zt_ HT_ HW_ rfl rfl (by kernel_rfl) (fun _ _ _ h => h) (by rfl) hHeld ?_ (by rintro w' ⟨s0, s1, s2, s3, s4, s5, s6⟩; go_simp; with_reducible rfl)
           refine one_ (i := 9) (N := some 56) (fl_ 12 10) rfl rfl (one_of HT_.out (by kernel_rfl)) (by decide) (fun K hK => ?_)
           refine goes_ Try.func53 (by kernel_rfl) rfl #[] (by rfl) rfl rfl z1_ ?_
           with_reducible refine (impl_unused.calls  t326 t327 t328 t329 t330 t331 t332 _ A38.out).mono ?_
           rintro e w47 ⟨rfl, hb⟩
           refine ⟨_, rfl, ?_⟩
           have n0_ := Aside0.mk (Kd.R_below z60_ hb)
           have n1_ := Aside0.mk (Kd.R_below z74_ hb)
           have n2_ := Aside0.mk (blk_below (g := gb312) (o := .cells #[.slice (some ad314) l0_0.length c0_0] 28 (0, 0)) z35_ hb)
           have n3_ := Aside0.mk (blk_below (g := gb315) (o := .cells #[.bool ((rd_T72 l0_0 0).f0), .int .i64 ((rd_T72 l0_0 0).f1), .int .i64 ((rd_T72 l0_0 0).f2), .int .i64 ((rd_T72 l0_0 0).f3), .int .i64 ((rd_T72 l0_0 0).f4), .int .i64 ((rd_T72 l0_0 0).f5), .int .i64 ((rd_T72 l0_0 0).f6)] 72 (0, 0)) z38_ hb)
           have n4_ := Aside0.mk (blk_below (g := gb324) (o := .cells #[.bool ((rd_T72 l0_0 x42_2).f0), .int .i64 ((rd_T72 l0_0 x42_2).f1), .int .i64 ((rd_T72 l0_0 x42_2).f2), .int .i64 ((rd_T72 l0_0 x42_2).f3), .int .i64 ((rd_T72 l0_0 x42_2).f4), .int .i64 ((rd_T72 l0_0 x42_2).f5), .int .i64 ((rd_T72 l0_0 x42_2).f6)] 72 (0, 0)) z234_ hb)
           have n5_ := Aside0.mk (below_step z39_ hb)
           clear HO_6
           clear HO_7
           clear BK312
           clear BK315
           clear BK324
           clear HB
           have HO_6 := n0_
           have HO_7 := n1_
           have BK312 := n2_
           have BK315 := n3_
           have BK324 := n4_
           have HB := n5_
           clear n0_ n1_ n2_ n3_ n4_ n5_
           (try clear hb)
           (try clear hb2)
           (try clear hk)
           (try clear hi)
           refine hK.out _ _ ⟨(blk_cell BK324.out 0).trans rfl, (blk_cell BK324.out 1).trans rfl, (blk_cell BK324.out 2).trans rfl, (blk_cell BK324.out 3).trans rfl, (blk_cell BK324.out 4).trans rfl, (blk_cell BK324.out 5).trans rfl, (blk_cell BK324.out 6).trans rfl⟩ (fun hHeld => ?_)
           clear hK K
           refine zn_ rfl ?_
           iterate 2 refine zp_ HT_ rfl rfl (by kernel_rfl) (fun _ _ _ h => h) (by rfl) ?_
           refine done_ (done_of HT_.out (by kernel_rfl)) ?_
           try go_wp2
           go_roundg k2
           case measure => have := HJ4.out; have := HK2.out; omega
           case rel => exact ⟨(false), (wrap64 (x42_2 + 1)), z12_, z12_, H', ⟨z255_⟩, ⟨z60_⟩, ⟨z74_⟩, ⟨z35_⟩, ⟨z38_⟩, ⟨z39_⟩⟩
          ·rw [if_neg c39] at H
           have c39b0 : (!(((rd_T72 l0_0 x42_2).f0) == t326) || (!(((rd_T72 l0_0 x42_2).f1) == t327) || (!(((rd_T72 l0_0 x42_2).f2) == t328) || (!(((rd_T72 l0_0 x42_2).f3) == t329) || (!(((rd_T72 l0_0 x42_2).f4) == t330) || (!(((rd_T72 l0_0 x42_2).f5) == t331) || (!(((rd_T72 l0_0 x42_2).f6) == t332)))))))) = false := by simpa using c39
           clear c39
           have H' := Aside0.mk H
           clear H
           obtain ⟨p323, q323, ad323, e323, hx323_0, hx323_1, hx323_2, hx323_3, hx323_4, hx323_5, hx323_6⟩ := atb72_ HR0_0 HB x42_2
           obtain rfl : ad314 = ad323 := (by injection e323)
           try go_wp2_with (first | ((with_reducible refine gate_dst (N := 10) rfl ?_); refine box_event ?hg (N := 10) ?hd (cs := #[.bool false, .int .i64 0, .int .i64 0, .int .i64 0, .int .i64 0, .int .i64 0, .int .i64 0]) (t := 72) ?hr ?_; (case hd => rfl); (case hg => rfl); (case hr => exact z25_); intro gb324 hg w48 hbox hb; replace HO_6 := Aside0.mk (Kd.R_below z60_ hb); replace HO_7 := Aside0.mk (Kd.R_below z74_ hb); have BK324 := Aside0.mk (hbox); have GW324 := Aside0.mk ((by rw [hg]; exact (below_size z23_) : w.heap.size ≤ gb324)); have GE324 := Aside0.mk ((by rw [hg]; exact (below_size z23_) : w.heap.size ≤ gb324)); replace HB := Aside0.mk (below_step z23_ hb); have NB312_324 := Aside0.mk ((by rw [hg]; exact Nat.ne_of_lt (blk_lt (g := gb312) (o := .cells #[.slice (some ad314) l0_0.length c0_0] 28 (0, 0)) z35_) : gb312 ≠ gb324)); have NB324_312 := Aside0.mk ((by rw [hg]; exact Nat.ne_of_gt (blk_lt (g := gb312) (o := .cells #[.slice (some ad314) l0_0.length c0_0] 28 (0, 0)) z35_) : gb324 ≠ gb312)); replace BK312 := Aside0.mk (blk_below (g := gb312) (o := .cells #[.slice (some ad314) l0_0.length c0_0] 28 (0, 0)) z35_ hb); have NB315_324 := Aside0.mk ((by rw [hg]; exact Nat.ne_of_lt (blk_lt (g := gb315) (o := .cells #[.bool ((rd_T72 l0_0 0).f0), .int .i64 ((rd_T72 l0_0 0).f1), .int .i64 ((rd_T72 l0_0 0).f2), .int .i64 ((rd_T72 l0_0 0).f3), .int .i64 ((rd_T72 l0_0 0).f4), .int .i64 ((rd_T72 l0_0 0).f5), .int .i64 ((rd_T72 l0_0 0).f6)] 72 (0, 0)) z38_) : gb315 ≠ gb324)); have NB324_315 := Aside0.mk ((by rw [hg]; exact Nat.ne_of_gt (blk_lt (g := gb315) (o := .cells #[.bool ((rd_T72 l0_0 0).f0), .int .i64 ((rd_T72 l0_0 0).f1), .int .i64 ((rd_T72 l0_0 0).f2), .int .i64 ((rd_T72 l0_0 0).f3), .int .i64 ((rd_T72 l0_0 0).f4), .int .i64 ((rd_T72 l0_0 0).f5), .int .i64 ((rd_T72 l0_0 0).f6)] 72 (0, 0)) z38_) : gb324 ≠ gb315)); replace BK315 := Aside0.mk (blk_below (g := gb315) (o := .cells #[.bool ((rd_T72 l0_0 0).f0), .int .i64 ((rd_T72 l0_0 0).f1), .int .i64 ((rd_T72 l0_0 0).f2), .int .i64 ((rd_T72 l0_0 0).f3), .int .i64 ((rd_T72 l0_0 0).f4), .int .i64 ((rd_T72 l0_0 0).f5), .int .i64 ((rd_T72 l0_0 0).f6)] 72 (0, 0)) z38_ hb); clear hb hbox hg; have hnb49 := NB324_312.out; have hnc49 := NB312_324.out; have hnb50 := NB324_315.out; have hnc50 := NB315_324.out; have hcz51_0 : w48.cell? ⟨gb324, 0, none⟩ = some (.bool false) := (blk_cell BK324.out 0).trans rfl; have hcz51_1 : w48.cell? ⟨gb324, 1, none⟩ = some (.int .i64 0) := (blk_cell BK324.out 1).trans rfl; have hcz51_2 : w48.cell? ⟨gb324, 2, none⟩ = some (.int .i64 0) := (blk_cell BK324.out 2).trans rfl; have hcz51_3 : w48.cell? ⟨gb324, 3, none⟩ = some (.int .i64 0) := (blk_cell BK324.out 3).trans rfl; have hcz51_4 : w48.cell? ⟨gb324, 4, none⟩ = some (.int .i64 0) := (blk_cell BK324.out 4).trans rfl; have hcz51_5 : w48.cell? ⟨gb324, 5, none⟩ = some (.int .i64 0) := (blk_cell BK324.out 5).trans rfl; have hcz51_6 : w48.cell? ⟨gb324, 6, none⟩ = some (.int .i64 0) := (blk_cell BK324.out 6).trans rfl; have hfz51_0 := blk_frozen BK324.out 0; have hfz51_1 := blk_frozen BK324.out 1; have hfz51_2 := blk_frozen BK324.out 2; have hfz51_3 := blk_frozen BK324.out 3; have hfz51_4 := blk_frozen BK324.out 4; have hfz51_5 := blk_frozen BK324.out 5; have hfz51_6 := blk_frozen BK324.out 6))
           have n0_ : Aside0 (Kd.R k62 62 (((((((w48.setCell ⟨gb324, 0, none⟩ (.bool ((rd_T72 l0_0 x42_2).f0))).setCell ⟨gb324, 1, none⟩ (.int .i64 ((rd_T72 l0_0 x42_2).f1))).setCell ⟨gb324, 2, none⟩ (.int .i64 ((rd_T72 l0_0 x42_2).f2))).setCell ⟨gb324, 3, none⟩ (.int .i64 ((rd_T72 l0_0 x42_2).f3))).setCell ⟨gb324, 4, none⟩ (.int .i64 ((rd_T72 l0_0 x42_2).f4))).setCell ⟨gb324, 5, none⟩ (.int .i64 ((rd_T72 l0_0 x42_2).f5))).setCell ⟨gb324, 6, none⟩ (.int .i64 ((rd_T72 l0_0 x42_2).f6))) w.heap.size (fun _ => True) v317 t316) := ⟨z29_⟩
           have n1_ : Aside0 (Kd.R (Kd.int .i64) 3 (((((((w48.setCell ⟨gb324, 0, none⟩ (.bool ((rd_T72 l0_0 x42_2).f0))).setCell ⟨gb324, 1, none⟩ (.int .i64 ((rd_T72 l0_0 x42_2).f1))).setCell ⟨gb324, 2, none⟩ (.int .i64 ((rd_T72 l0_0 x42_2).f2))).setCell ⟨gb324, 3, none⟩ (.int .i64 ((rd_T72 l0_0 x42_2).f3))).setCell ⟨gb324, 4, none⟩ (.int .i64 ((rd_T72 l0_0 x42_2).f4))).setCell ⟨gb324, 5, none⟩ (.int .i64 ((rd_T72 l0_0 x42_2).f5))).setCell ⟨gb324, 6, none⟩ (.int .i64 ((rd_T72 l0_0 x42_2).f6))) w.heap.size (fun _ => True) v320 t319) := ⟨z30_⟩
           have n2_ : Aside0 ((((((((w48.setCell ⟨gb324, 0, none⟩ (.bool ((rd_T72 l0_0 x42_2).f0))).setCell ⟨gb324, 1, none⟩ (.int .i64 ((rd_T72 l0_0 x42_2).f1))).setCell ⟨gb324, 2, none⟩ (.int .i64 ((rd_T72 l0_0 x42_2).f2))).setCell ⟨gb324, 3, none⟩ (.int .i64 ((rd_T72 l0_0 x42_2).f3))).setCell ⟨gb324, 4, none⟩ (.int .i64 ((rd_T72 l0_0 x42_2).f4))).setCell ⟨gb324, 5, none⟩ (.int .i64 ((rd_T72 l0_0 x42_2).f5))).setCell ⟨gb324, 6, none⟩ (.int .i64 ((rd_T72 l0_0 x42_2).f6))).heap[gb312]? = some (.cells #[.slice (some ad314) l0_0.length c0_0] 28 (0, 0))) := ⟨z17_⟩
           have n3_ : Aside0 ((((((((w48.setCell ⟨gb324, 0, none⟩ (.bool ((rd_T72 l0_0 x42_2).f0))).setCell ⟨gb324, 1, none⟩ (.int .i64 ((rd_T72 l0_0 x42_2).f1))).setCell ⟨gb324, 2, none⟩ (.int .i64 ((rd_T72 l0_0 x42_2).f2))).setCell ⟨gb324, 3, none⟩ (.int .i64 ((rd_T72 l0_0 x42_2).f3))).setCell ⟨gb324, 4, none⟩ (.int .i64 ((rd_T72 l0_0 x42_2).f4))).setCell ⟨gb324, 5, none⟩ (.int .i64 ((rd_T72 l0_0 x42_2).f5))).setCell ⟨gb324, 6, none⟩ (.int .i64 ((rd_T72 l0_0 x42_2).f6))).heap[gb315]? = some (.cells #[.bool ((rd_T72 l0_0 0).f0), .int .i64 ((rd_T72 l0_0 0).f1), .int .i64 ((rd_T72 l0_0 0).f2), .int .i64 ((rd_T72 l0_0 0).f3), .int .i64 ((rd_T72 l0_0 0).f4), .int .i64 ((rd_T72 l0_0 0).f5), .int .i64 ((rd_T72 l0_0 0).f6)] 72 (0, 0))) := ⟨z18_⟩
           have n4_ : Aside0 ((((((((w48.setCell ⟨gb324, 0, none⟩ (.bool ((rd_T72 l0_0 x42_2).f0))).setCell ⟨gb324, 1, none⟩ (.int .i64 ((rd_T72 l0_0 x42_2).f1))).setCell ⟨gb324, 2, none⟩ (.int .i64 ((rd_T72 l0_0 x42_2).f2))).setCell ⟨gb324, 3, none⟩ (.int .i64 ((rd_T72 l0_0 x42_2).f3))).setCell ⟨gb324, 4, none⟩ (.int .i64 ((rd_T72 l0_0 x42_2).f4))).setCell ⟨gb324, 5, none⟩ (.int .i64 ((rd_T72 l0_0 x42_2).f5))).setCell ⟨gb324, 6, none⟩ (.int .i64 ((rd_T72 l0_0 x42_2).f6))).heap[gb324]? = some (.cells #[.bool ((rd_T72 l0_0 x42_2).f0), .int .i64 ((rd_T72 l0_0 x42_2).f1), .int .i64 ((rd_T72 l0_0 x42_2).f2), .int .i64 ((rd_T72 l0_0 x42_2).f3), .int .i64 ((rd_T72 l0_0 x42_2).f4), .int .i64 ((rd_T72 l0_0 x42_2).f5), .int .i64 ((rd_T72 l0_0 x42_2).f6)] 72 (0, 0))) := ⟨z3_⟩
           have n5_ : Aside0 (Below w.heap.size w (((((((w48.setCell ⟨gb324, 0, none⟩ (.bool ((rd_T72 l0_0 x42_2).f0))).setCell ⟨gb324, 1, none⟩ (.int .i64 ((rd_T72 l0_0 x42_2).f1))).setCell ⟨gb324, 2, none⟩ (.int .i64 ((rd_T72 l0_0 x42_2).f2))).setCell ⟨gb324, 3, none⟩ (.int .i64 ((rd_T72 l0_0 x42_2).f3))).setCell ⟨gb324, 4, none⟩ (.int .i64 ((rd_T72 l0_0 x42_2).f4))).setCell ⟨gb324, 5, none⟩ (.int .i64 ((rd_T72 l0_0 x42_2).f5))).setCell ⟨gb324, 6, none⟩ (.int .i64 ((rd_T72 l0_0 x42_2).f6)))) := ⟨z39_⟩
           (try clear HO_6)
           (try clear HO_7)
           (try clear BK312)
           (try clear BK315)
           (try clear BK324)
           (try clear HB)
           generalize (((((((w48.setCell ⟨gb324, 0, none⟩ (.bool ((rd_T72 l0_0 x42_2).f0))).setCell ⟨gb324, 1, none⟩ (.int .i64 ((rd_T72 l0_0 x42_2).f1))).setCell ⟨gb324, 2, none⟩ (.int .i64 ((rd_T72 l0_0 x42_2).f2))).setCell ⟨gb324, 3, none⟩ (.int .i64 ((rd_T72 l0_0 x42_2).f3))).setCell ⟨gb324, 4, none⟩ (.int .i64 ((rd_T72 l0_0 x42_2).f4))).setCell ⟨gb324, 5, none⟩ (.int .i64 ((rd_T72 l0_0 x42_2).f5))).setCell ⟨gb324, 6, none⟩ (.int .i64 ((rd_T72 l0_0 x42_2).f6))) = w52 at n0_ n1_ n2_ n3_ n4_ n5_ ⊢
           have HO_6 := n0_
           have HO_7 := n1_
           have BK312 := n2_
           have BK315 := n3_
           have BK324 := n4_
           have HB := n5_
           clear n0_ n1_ n2_ n3_ n4_ n5_
           have n0_ := Aside0.mk (Kd.R_drew HO_6.out)
           have n1_ := Aside0.mk (Kd.R_drew HO_7.out)
           have n2_ := Aside0.mk (blk_drew BK312.out)
           have n3_ := Aside0.mk (blk_drew BK315.out)
           have n4_ := Aside0.mk (blk_drew BK324.out)
           have n5_ := Aside0.mk (below_drew1 HB.out)
           clear HO_6
           clear HO_7
           clear BK312
           clear BK315
           clear BK324
           clear HB
           have HO_6 := n0_
           have HO_7 := n1_
           have BK312 := n2_
           have BK315 := n3_
           have BK324 := n4_
           have HB := n5_
           clear n0_ n1_ n2_ n3_ n4_ n5_
           obtain ⟨Ao54, co54, eo54⟩ := Kd.R_slice HO_7.out
           (first | subst eo54 | (injection eo54 with f1_ f2_ f3_; have f4_ := f1_.symm; have f5_ := f3_.symm; clear f1_ f2_ f3_; subst f4_; subst f5_))
           refine start_ (n := 12) (S := fun w' => w'.cell? ⟨gb324, 0, none⟩ = some (.bool ((rd_T72 l0_0 x42_2).f0)) ∧ w'.cell? ⟨gb324, 1, none⟩ = some (.int .i64 ((rd_T72 l0_0 x42_2).f1)) ∧ w'.cell? ⟨gb324, 2, none⟩ = some (.int .i64 ((rd_T72 l0_0 x42_2).f2)) ∧ w'.cell? ⟨gb324, 3, none⟩ = some (.int .i64 ((rd_T72 l0_0 x42_2).f3)) ∧ w'.cell? ⟨gb324, 4, none⟩ = some (.int .i64 ((rd_T72 l0_0 x42_2).f4)) ∧ w'.cell? ⟨gb324, 5, none⟩ = some (.int .i64 ((rd_T72 l0_0 x42_2).f5)) ∧ w'.cell? ⟨gb324, 6, none⟩ = some (.int .i64 ((rd_T72 l0_0 x42_2).f6))) (ds := []) (fl_ 12 0) (by kernel_rfl) rfl (fl_zero _) ⟨(blk_cell BK324.out 0).trans rfl, (blk_cell BK324.out 1).trans rfl, (blk_cell BK324.out 2).trans rfl, (blk_cell BK324.out 3).trans rfl, (blk_cell BK324.out 4).trans rfl, (blk_cell BK324.out 5).trans rfl, (blk_cell BK324.out 6).trans rfl⟩ (fun hHeld => ?_); refine with_tabW impl_Dom_walked.tab10 impl_Dom_walked.bits10 (fun HT_ HW_ => ?_)
           generalize w52.drew = w53 at HO_6 HO_7 BK312 BK315 BK324 HB hHeld ⊢
           iterate 4 refine zp_ HT_ rfl rfl (by kernel_rfl) (fun _ _ _ h => h) (by rfl) ?_
           refine one_ (i := 4) (N := some 51) (fl_ 12 5) rfl rfl (one_of HT_.out (by kernel_rfl)) (by decide) (fun K hK => ?_)
           refine goes_ Try.func86 (by kernel_rfl) rfl #[.slice Ao54 t319.length co54, .int .i64 x42_2] (by rfl) rfl rfl z1_ ?_
           with_reducible refine (slices_Contains_int_int.calls k2 _ _ t319 x42_2 false _ ?side1 ?side2 A29.out).mono ?_
           (case side1 => exact z130_)
           (case side2 => exact (Kd.R_reads' HO_7.out).2.1)
           rintro e w' ⟨rfl, ⟨nd, rfl⟩⟩
           refine ⟨_, rfl, ?_⟩
           refine hK.out _ _ ⟨(blk_cell BK324.out 0).trans rfl, (blk_cell BK324.out 1).trans rfl, (blk_cell BK324.out 2).trans rfl, (blk_cell BK324.out 3).trans rfl, (blk_cell BK324.out 4).trans rfl, (blk_cell BK324.out 5).trans rfl, (blk_cell BK324.out 6).trans rfl⟩ (fun hHeld => ?_)
           clear hK K
           refine zn_ rfl ?_
           iterate 3 refine zp_ HT_ rfl rfl (by kernel_rfl) (fun _ _ _ h => h) (by rfl) ?_
           refine zt_ HT_ HW_ rfl rfl (by kernel_rfl) (fun _ _ _ h => h) (by rfl) hHeld ?_ (by rintro w' ⟨s0, s1, s2, s3, s4, s5, s6⟩; go_simp; with_reducible rfl)
           refine one_ (i := 9) (N := some 56) (fl_ 12 10) rfl rfl (one_of HT_.out (by kernel_rfl)) (by decide) (fun K hK => ?_)
           refine goes_ Try.func53 (by kernel_rfl) rfl #[] (by rfl) rfl rfl z1_ ?_
           with_reducible refine (impl_unused.calls  t326 t327 t328 t329 t330 t331 t332 _ A38.out).mono ?_
           rintro e w55 ⟨rfl, hb⟩
           refine ⟨_, rfl, ?_⟩
           have n0_ := Aside0.mk (Kd.R_below z60_ hb)
           have n1_ := Aside0.mk (Kd.R_below z74_ hb)
           have n2_ := Aside0.mk (blk_below (g := gb312) (o := .cells #[.slice (some ad314) l0_0.length c0_0] 28 (0, 0)) z35_ hb)
           have n3_ := Aside0.mk (blk_below (g := gb315) (o := .cells #[.bool ((rd_T72 l0_0 0).f0), .int .i64 ((rd_T72 l0_0 0).f1), .int .i64 ((rd_T72 l0_0 0).f2), .int .i64 ((rd_T72 l0_0 0).f3), .int .i64 ((rd_T72 l0_0 0).f4), .int .i64 ((rd_T72 l0_0 0).f5), .int .i64 ((rd_T72 l0_0 0).f6)] 72 (0, 0)) z38_ hb)
           have n4_ := Aside0.mk (blk_below (g := gb324) (o := .cells #[.bool ((rd_T72 l0_0 x42_2).f0), .int .i64 ((rd_T72 l0_0 x42_2).f1), .int .i64 ((rd_T72 l0_0 x42_2).f2), .int .i64 ((rd_T72 l0_0 x42_2).f3), .int .i64 ((rd_T72 l0_0 x42_2).f4), .int .i64 ((rd_T72 l0_0 x42_2).f5), .int .i64 ((rd_T72 l0_0 x42_2).f6)] 72 (0, 0)) z234_ hb)
           have n5_ := Aside0.mk (below_step z39_ hb)
           clear HO_6
           clear HO_7
           clear BK312
           clear BK315
           clear BK324
           clear HB
           have HO_6 := n0_
           have HO_7 := n1_
           have BK312 := n2_
           have BK315 := n3_
           have BK324 := n4_
           have HB := n5_
           clear n0_ n1_ n2_ n3_ n4_ n5_
           (try clear hb)
           (try clear hb2)
           (try clear hk)
           (try clear hi)
           refine hK.out _ _ ⟨(blk_cell BK324.out 0).trans rfl, (blk_cell BK324.out 1).trans rfl, (blk_cell BK324.out 2).trans rfl, (blk_cell BK324.out 3).trans rfl, (blk_cell BK324.out 4).trans rfl, (blk_cell BK324.out 5).trans rfl, (blk_cell BK324.out 6).trans rfl⟩ (fun hHeld => ?_)
           clear hK K
           refine zn_ rfl ?_
           iterate 2 refine zp_ HT_ rfl rfl (by kernel_rfl) (fun _ _ _ h => h) (by rfl) ?_
           refine done_ (done_of HT_.out (by kernel_rfl)) ?_
           try go_wp2
           go_roundg k2
           case measure => have := HJ4.out; have := HK2.out; omega
           case rel => exact ⟨(true), (wrap64 (x42_2 + 1)), z12_, z12_, H', ⟨z255_⟩, ⟨z60_⟩, ⟨z74_⟩, ⟨z35_⟩, ⟨z38_⟩, ⟨z39_⟩⟩
        ·replace c28 := Bool.eq_false_iff.mpr c28
         subst c28
         replace H := iff_ H
         have H' := Aside0.mk H
         clear H
         obtain ⟨p323, q323, ad323, e323, hx323_0, hx323_1, hx323_2, hx323_3, hx323_4, hx323_5, hx323_6⟩ := atb72_ HR0_0 HB x42_2
         obtain rfl : ad314 = ad323 := (by injection e323)
         try go_wp2_with (first | ((with_reducible refine gate_dst (N := 10) rfl ?_); refine box_event ?hg (N := 10) ?hd (cs := #[.bool false, .int .i64 0, .int .i64 0, .int .i64 0, .int .i64 0, .int .i64 0, .int .i64 0]) (t := 72) ?hr ?_; (case hd => rfl); (case hg => rfl); (case hr => exact z25_); intro gb324 hg w56 hbox hb; replace HO_6 := Aside0.mk (Kd.R_below z60_ hb); replace HO_7 := Aside0.mk (Kd.R_below z74_ hb); have BK324 := Aside0.mk (hbox); have GW324 := Aside0.mk ((by rw [hg]; exact (below_size z23_) : w.heap.size ≤ gb324)); have GE324 := Aside0.mk ((by rw [hg]; exact (below_size z23_) : w.heap.size ≤ gb324)); replace HB := Aside0.mk (below_step z23_ hb); have NB312_324 := Aside0.mk ((by rw [hg]; exact Nat.ne_of_lt (blk_lt (g := gb312) (o := .cells #[.slice (some ad314) l0_0.length c0_0] 28 (0, 0)) z35_) : gb312 ≠ gb324)); have NB324_312 := Aside0.mk ((by rw [hg]; exact Nat.ne_of_gt (blk_lt (g := gb312) (o := .cells #[.slice (some ad314) l0_0.length c0_0] 28 (0, 0)) z35_) : gb324 ≠ gb312)); replace BK312 := Aside0.mk (blk_below (g := gb312) (o := .cells #[.slice (some ad314) l0_0.length c0_0] 28 (0, 0)) z35_ hb); have NB315_324 := Aside0.mk ((by rw [hg]; exact Nat.ne_of_lt (blk_lt (g := gb315) (o := .cells #[.bool ((rd_T72 l0_0 0).f0), .int .i64 ((rd_T72 l0_0 0).f1), .int .i64 ((rd_T72 l0_0 0).f2), .int .i64 ((rd_T72 l0_0 0).f3), .int .i64 ((rd_T72 l0_0 0).f4), .int .i64 ((rd_T72 l0_0 0).f5), .int .i64 ((rd_T72 l0_0 0).f6)] 72 (0, 0)) z38_) : gb315 ≠ gb324)); have NB324_315 := Aside0.mk ((by rw [hg]; exact Nat.ne_of_gt (blk_lt (g := gb315) (o := .cells #[.bool ((rd_T72 l0_0 0).f0), .int .i64 ((rd_T72 l0_0 0).f1), .int .i64 ((rd_T72 l0_0 0).f2), .int .i64 ((rd_T72 l0_0 0).f3), .int .i64 ((rd_T72 l0_0 0).f4), .int .i64 ((rd_T72 l0_0 0).f5), .int .i64 ((rd_T72 l0_0 0).f6)] 72 (0, 0)) z38_) : gb324 ≠ gb315)); replace BK315 := Aside0.mk (blk_below (g := gb315) (o := .cells #[.bool ((rd_T72 l0_0 0).f0), .int .i64 ((rd_T72 l0_0 0).f1), .int .i64 ((rd_T72 l0_0 0).f2), .int .i64 ((rd_T72 l0_0 0).f3), .int .i64 ((rd_T72 l0_0 0).f4), .int .i64 ((rd_T72 l0_0 0).f5), .int .i64 ((rd_T72 l0_0 0).f6)] 72 (0, 0)) z38_ hb); clear hb hbox hg; have hnb57 := NB324_312.out; have hnc57 := NB312_324.out; have hnb58 := NB324_315.out; have hnc58 := NB315_324.out; have hcz59_0 : w56.cell? ⟨gb324, 0, none⟩ = some (.bool false) := (blk_cell BK324.out 0).trans rfl; have hcz59_1 : w56.cell? ⟨gb324, 1, none⟩ = some (.int .i64 0) := (blk_cell BK324.out 1).trans rfl; have hcz59_2 : w56.cell? ⟨gb324, 2, none⟩ = some (.int .i64 0) := (blk_cell BK324.out 2).trans rfl; have hcz59_3 : w56.cell? ⟨gb324, 3, none⟩ = some (.int .i64 0) := (blk_cell BK324.out 3).trans rfl; have hcz59_4 : w56.cell? ⟨gb324, 4, none⟩ = some (.int .i64 0) := (blk_cell BK324.out 4).trans rfl; have hcz59_5 : w56.cell? ⟨gb324, 5, none⟩ = some (.int .i64 0) := (blk_cell BK324.out 5).trans rfl; have hcz59_6 : w56.cell? ⟨gb324, 6, none⟩ = some (.int .i64 0) := (blk_cell BK324.out 6).trans rfl; have hfz59_0 := blk_frozen BK324.out 0; have hfz59_1 := blk_frozen BK324.out 1; have hfz59_2 := blk_frozen BK324.out 2; have hfz59_3 := blk_frozen BK324.out 3; have hfz59_4 := blk_frozen BK324.out 4; have hfz59_5 := blk_frozen BK324.out 5; have hfz59_6 := blk_frozen BK324.out 6))
         have n0_ : Aside0 (Kd.R k62 62 (((((((w56.setCell ⟨gb324, 0, none⟩ (.bool ((rd_T72 l0_0 x42_2).f0))).setCell ⟨gb324, 1, none⟩ (.int .i64 ((rd_T72 l0_0 x42_2).f1))).setCell ⟨gb324, 2, none⟩ (.int .i64 ((rd_T72 l0_0 x42_2).f2))).setCell ⟨gb324, 3, none⟩ (.int .i64 ((rd_T72 l0_0 x42_2).f3))).setCell ⟨gb324, 4, none⟩ (.int .i64 ((rd_T72 l0_0 x42_2).f4))).setCell ⟨gb324, 5, none⟩ (.int .i64 ((rd_T72 l0_0 x42_2).f5))).setCell ⟨gb324, 6, none⟩ (.int .i64 ((rd_T72 l0_0 x42_2).f6))) w.heap.size (fun _ => True) v317 t316) := ⟨z29_⟩
         have n1_ : Aside0 (Kd.R (Kd.int .i64) 3 (((((((w56.setCell ⟨gb324, 0, none⟩ (.bool ((rd_T72 l0_0 x42_2).f0))).setCell ⟨gb324, 1, none⟩ (.int .i64 ((rd_T72 l0_0 x42_2).f1))).setCell ⟨gb324, 2, none⟩ (.int .i64 ((rd_T72 l0_0 x42_2).f2))).setCell ⟨gb324, 3, none⟩ (.int .i64 ((rd_T72 l0_0 x42_2).f3))).setCell ⟨gb324, 4, none⟩ (.int .i64 ((rd_T72 l0_0 x42_2).f4))).setCell ⟨gb324, 5, none⟩ (.int .i64 ((rd_T72 l0_0 x42_2).f5))).setCell ⟨gb324, 6, none⟩ (.int .i64 ((rd_T72 l0_0 x42_2).f6))) w.heap.size (fun _ => True) v320 t319) := ⟨z30_⟩
         have n2_ : Aside0 ((((((((w56.setCell ⟨gb324, 0, none⟩ (.bool ((rd_T72 l0_0 x42_2).f0))).setCell ⟨gb324, 1, none⟩ (.int .i64 ((rd_T72 l0_0 x42_2).f1))).setCell ⟨gb324, 2, none⟩ (.int .i64 ((rd_T72 l0_0 x42_2).f2))).setCell ⟨gb324, 3, none⟩ (.int .i64 ((rd_T72 l0_0 x42_2).f3))).setCell ⟨gb324, 4, none⟩ (.int .i64 ((rd_T72 l0_0 x42_2).f4))).setCell ⟨gb324, 5, none⟩ (.int .i64 ((rd_T72 l0_0 x42_2).f5))).setCell ⟨gb324, 6, none⟩ (.int .i64 ((rd_T72 l0_0 x42_2).f6))).heap[gb312]? = some (.cells #[.slice (some ad314) l0_0.length c0_0] 28 (0, 0))) := ⟨z17_⟩
         have n3_ : Aside0 ((((((((w56.setCell ⟨gb324, 0, none⟩ (.bool ((rd_T72 l0_0 x42_2).f0))).setCell ⟨gb324, 1, none⟩ (.int .i64 ((rd_T72 l0_0 x42_2).f1))).setCell ⟨gb324, 2, none⟩ (.int .i64 ((rd_T72 l0_0 x42_2).f2))).setCell ⟨gb324, 3, none⟩ (.int .i64 ((rd_T72 l0_0 x42_2).f3))).setCell ⟨gb324, 4, none⟩ (.int .i64 ((rd_T72 l0_0 x42_2).f4))).setCell ⟨gb324, 5, none⟩ (.int .i64 ((rd_T72 l0_0 x42_2).f5))).setCell ⟨gb324, 6, none⟩ (.int .i64 ((rd_T72 l0_0 x42_2).f6))).heap[gb315]? = some (.cells #[.bool ((rd_T72 l0_0 0).f0), .int .i64 ((rd_T72 l0_0 0).f1), .int .i64 ((rd_T72 l0_0 0).f2), .int .i64 ((rd_T72 l0_0 0).f3), .int .i64 ((rd_T72 l0_0 0).f4), .int .i64 ((rd_T72 l0_0 0).f5), .int .i64 ((rd_T72 l0_0 0).f6)] 72 (0, 0))) := ⟨z18_⟩
         have n4_ : Aside0 ((((((((w56.setCell ⟨gb324, 0, none⟩ (.bool ((rd_T72 l0_0 x42_2).f0))).setCell ⟨gb324, 1, none⟩ (.int .i64 ((rd_T72 l0_0 x42_2).f1))).setCell ⟨gb324, 2, none⟩ (.int .i64 ((rd_T72 l0_0 x42_2).f2))).setCell ⟨gb324, 3, none⟩ (.int .i64 ((rd_T72 l0_0 x42_2).f3))).setCell ⟨gb324, 4, none⟩ (.int .i64 ((rd_T72 l0_0 x42_2).f4))).setCell ⟨gb324, 5, none⟩ (.int .i64 ((rd_T72 l0_0 x42_2).f5))).setCell ⟨gb324, 6, none⟩ (.int .i64 ((rd_T72 l0_0 x42_2).f6))).heap[gb324]? = some (.cells #[.bool ((rd_T72 l0_0 x42_2).f0), .int .i64 ((rd_T72 l0_0 x42_2).f1), .int .i64 ((rd_T72 l0_0 x42_2).f2), .int .i64 ((rd_T72 l0_0 x42_2).f3), .int .i64 ((rd_T72 l0_0 x42_2).f4), .int .i64 ((rd_T72 l0_0 x42_2).f5), .int .i64 ((rd_T72 l0_0 x42_2).f6)] 72 (0, 0))) := ⟨z3_⟩
         have n5_ : Aside0 (Below w.heap.size w (((((((w56.setCell ⟨gb324, 0, none⟩ (.bool ((rd_T72 l0_0 x42_2).f0))).setCell ⟨gb324, 1, none⟩ (.int .i64 ((rd_T72 l0_0 x42_2).f1))).setCell ⟨gb324, 2, none⟩ (.int .i64 ((rd_T72 l0_0 x42_2).f2))).setCell ⟨gb324, 3, none⟩ (.int .i64 ((rd_T72 l0_0 x42_2).f3))).setCell ⟨gb324, 4, none⟩ (.int .i64 ((rd_T72 l0_0 x42_2).f4))).setCell ⟨gb324, 5, none⟩ (.int .i64 ((rd_T72 l0_0 x42_2).f5))).setCell ⟨gb324, 6, none⟩ (.int .i64 ((rd_T72 l0_0 x42_2).f6)))) := ⟨z39_⟩
         (try clear HO_6)
         (try clear HO_7)
         (try clear BK312)
         (try clear BK315)
         (try clear BK324)
         (try clear HB)
         generalize (((((((w56.setCell ⟨gb324, 0, none⟩ (.bool ((rd_T72 l0_0 x42_2).f0))).setCell ⟨gb324, 1, none⟩ (.int .i64 ((rd_T72 l0_0 x42_2).f1))).setCell ⟨gb324, 2, none⟩ (.int .i64 ((rd_T72 l0_0 x42_2).f2))).setCell ⟨gb324, 3, none⟩ (.int .i64 ((rd_T72 l0_0 x42_2).f3))).setCell ⟨gb324, 4, none⟩ (.int .i64 ((rd_T72 l0_0 x42_2).f4))).setCell ⟨gb324, 5, none⟩ (.int .i64 ((rd_T72 l0_0 x42_2).f5))).setCell ⟨gb324, 6, none⟩ (.int .i64 ((rd_T72 l0_0 x42_2).f6))) = w60 at n0_ n1_ n2_ n3_ n4_ n5_ ⊢
         have HO_6 := n0_
         have HO_7 := n1_
         have BK312 := n2_
         have BK315 := n3_
         have BK324 := n4_
         have HB := n5_
         clear n0_ n1_ n2_ n3_ n4_ n5_
         have n0_ := Aside0.mk (Kd.R_drew HO_6.out)
         have n1_ := Aside0.mk (Kd.R_drew HO_7.out)
         have n2_ := Aside0.mk (blk_drew BK312.out)
         have n3_ := Aside0.mk (blk_drew BK315.out)
         have n4_ := Aside0.mk (blk_drew BK324.out)
         have n5_ := Aside0.mk (below_drew1 HB.out)
         clear HO_6
         clear HO_7
         clear BK312
         clear BK315
         clear BK324
         clear HB
         have HO_6 := n0_
         have HO_7 := n1_
         have BK312 := n2_
         have BK315 := n3_
         have BK324 := n4_
         have HB := n5_
         clear n0_ n1_ n2_ n3_ n4_ n5_
         refine start_ (n := 12) (S := fun w' => True) (ds := []) (fl_ 12 0) (by kernel_rfl) rfl (fl_zero _) trivial (fun hHeld => ?_); refine with_tabW impl_Dom_walked.tab10 impl_Dom_walked.bits10 (fun HT_ HW_ => ?_)
         generalize w60.drew = w61 at HO_6 HO_7 BK312 BK315 BK324 HB hHeld ⊢
         iterate 2 refine zp_ HT_ rfl rfl (by kernel_rfl) (fun _ _ _ h => h) (by rfl) ?_
         iterate 4 refine zu_ HT_ rfl rfl (by kernel_rfl) (fun _ _ _ h => h) (by rfl) ?_
         iterate 2 refine zp_ HT_ rfl rfl (by kernel_rfl) (fun _ _ _ h => h) (by rfl) ?_
         iterate 3 refine zu_ HT_ rfl rfl (by kernel_rfl) (fun _ _ _ h => h) (by rfl) ?_
         refine zp_ HT_ rfl rfl (by kernel_rfl) (fun _ _ _ h => h) (by rfl) ?_
         refine done_ (done_of HT_.out (by kernel_rfl)) ?_
         try go_wp2
         go_roundg k2
         case measure => have := HJ4.out; have := HK2.out; omega
         case rel => exact ⟨(false), (wrap64 (x42_2 + 1)), z12_, z12_, H', ⟨z255_⟩, ⟨z60_⟩, ⟨z74_⟩, ⟨z35_⟩, ⟨z38_⟩, ⟨z39_⟩⟩
       ·rw [if_neg c25] at H
        have c25b0 : decide (x42_2 < (l0_0.length : Int)) = false := decide_eq_false c25
        clear c25
        simp only [Option.some.injEq, Prod.mk.injEq] at H
        obtain ⟨rfl, rfl, rfl⟩ := H
        go_wp2
        go_ret3
        exact ⟨_, _, z4_, z60_, z74_, z23_⟩
 ·replace c3 := Bool.eq_false_iff.mpr c3
  subst c3
  replace H := iff_ H
  simp only [Option.some.injEq, Prod.mk.injEq] at H
  obtain ⟨rfl, rfl, rfl⟩ := H
  go_enter Try.func59, Try.ntmps59
  go_wp2_with (first | ((with_reducible refine gate_dst (N := 1) rfl ?_); refine box_event ?hg (N := 1) ?hd (cs := #[.slice A0_0 l0_0.length c0_0]) (t := 28) ?hr ?_; (case hd => rfl); (case hg => rfl); (case hr => exact z25_); intro gb312 hg w62 hbox hb; have BK312 := Aside0.mk (hbox); have GW312 := Aside0.mk ((by rw [hg]; exact (below_size z0_) : w.heap.size ≤ gb312)); have GE312 := Aside0.mk ((by rw [hg]; exact (below_size z0_) : w.heap.size ≤ gb312)); replace HB := Aside0.mk (below_step z0_ hb); clear hb hbox hg; have hcz63_0 : w62.cell? ⟨gb312, 0, none⟩ = some (.slice A0_0 l0_0.length c0_0) := (blk_cell BK312.out 0).trans rfl; have hfz63_0 := blk_frozen BK312.out 0) | ((with_reducible refine gate_callee (f := 81) rfl ?_); refine goesL_ (some 14) rfl rfl Try.func81 (by kernel_rfl) rfl #[.int .i64 (l0_0.length : Int), .int .i64 1, .int .i64 24] rfl z1_ ?_; (with_reducible refine (impl_within.calls (l0_0.length : Int) 1 24 false _ A2.out).mono ?_); rintro e w' ⟨rfl, ⟨nd, rfl⟩⟩; refine ⟨_, rfl, ?_⟩))
  go_ret3
  exact ⟨_, _, z4_, z118_, z118_, z93_⟩

end Go.Proofs.Ytdapeboajjidmab.PFnExactDomDelete
