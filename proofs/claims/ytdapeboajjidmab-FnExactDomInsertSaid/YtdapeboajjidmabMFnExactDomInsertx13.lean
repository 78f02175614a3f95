/- Laid by a program of this session out of the kit's print for the law FnExactDomInsert: what it says of the machine is proved here, function by function; each contract under the conditions that it names. -/
import Derived.Test.YtdapeboajjidmabMFnExactDomInsertx0
import Derived.Test.YtdapeboajjidmabMFnExactDomInsertx1
import Derived.Test.YtdapeboajjidmabMFnExactDomInsertx11
import Derived.Test.YtdapeboajjidmabMFnExactDomInsertx12
namespace Go.Proofs.Ytdapeboajjidmab.PFnExactDomInsert
open Go.RowKit Go.Proofs.YtdapeboajjidmabW.PrintWords Go.Proofs.YtdapeboajjidmabW.PrintLast Go.Proofs.YtdapeboajjidmabW.PrintMore
attribute [local go_sem] max2_int min2_int max_two min_two max_three min_three max_four min_four   -- for this text's walks alone
set_option linter.unusedVariables false
set_option linter.unusedSimpArgs false

attribute [local go_sem high] eqA72
/-! ### impl_Dom_walked: function 59 -/
mutual
def impl_Dom_walked.j0 : Nat → Bool → List (S72) → Option ((List (S62)) × List Int × Bool)
 | 0, _, _ => none
 | k + 1, x32, x355000 => if x32 = true then (some (([] : List (S62)), ([] : List Int), false)) else ((impl_Dom_visit.f k x355000 0 0 ([] : List (S62)) ([] : List Int)).bind fun bt358 => (impl_Dom_walked.l0 k bt358.1 bt358.2.1 bt358.2.2 x355000 (x355000.length : Int) 0))
def impl_Dom_walked.l0 : Nat → List (S62) → List Int → Bool → List (S72) → Int → Int → Option ((List (S62)) × List Int × Bool)
 | 0, _, _, _, _, _, _ => none
 | k + 1, x6, x7, x8, x40, x41, x42 => if x42 < x41 then (if 0 ≤ x42 then (if x42 < (x40.length : Int) then (if x8 = true then ((slices_Contains_int_int.f k x7 x42).bind fun t367 => (if t367 = true then (impl_Dom_walked.l0 k x6 x7 x8 x40 x41 (wrap64 (x42 + 1))) else ((impl_unused.f).bind fun bt368 => (if (!(((rd_T72 x40 x42).f0) == bt368.1) || (!(((rd_T72 x40 x42).f1) == bt368.2.1) || (!(((rd_T72 x40 x42).f2) == bt368.2.2.1) || (!(((rd_T72 x40 x42).f3) == bt368.2.2.2.1) || (!(((rd_T72 x40 x42).f4) == bt368.2.2.2.2.1) || (!(((rd_T72 x40 x42).f5) == bt368.2.2.2.2.2.1) || (!(((rd_T72 x40 x42).f6) == bt368.2.2.2.2.2.2)))))))) = true then (impl_Dom_walked.l0 k x6 x7 false x40 x41 (wrap64 (x42 + 1))) else (impl_Dom_walked.l0 k x6 x7 x8 x40 x41 (wrap64 (x42 + 1))))))) else (impl_Dom_walked.l0 k x6 x7 x8 x40 x41 (wrap64 (x42 + 1)))) else (none)) else (none)) else (some (x6, x7, x8))
end
def impl_Dom_walked.f (k : Nat) (l0_0 : List (S72)) : Option ((List (S62)) × List Int × Bool) := (impl_within.f (l0_0.length : Int) 1 24).bind fun t355 => (if t355 = true then (if 0 < (l0_0.length : Int) then (if ((rd_T72 l0_0 0).f2) = (-1) then (if ((rd_T72 l0_0 0).f5) = (-1) then (impl_Dom_walked.j0 k (((rd_T72 l0_0 0).f6) != (-1)) l0_0) else (impl_Dom_walked.j0 k true l0_0)) else (impl_Dom_walked.j0 k true l0_0)) else (none)) else (some (([] : List (S62)), ([] : List Int), false)))
def impl_Dom_walked.T10 : Bool × List (List Nat × List Nat) := (true, [([], []), ([0], [0]), ([1], [1]), ([1], [1]), ([2, 3, 1, 1], [1, 2, 3]), ([4, 1], [1, 4]), ([1, 5], [1, 5]), ([6, 4], [6]), ([7], [7]), ([7, 7], [7]), ([8, 9, 7], [7, 8, 9]), ([7, 10], [7, 10])])
def impl_Dom_walked.B10 : List Nat := [0, 1, 3, 3, 15, 31, 63, 127, 255, 255, 1023, 2047]
theorem impl_Dom_walked.tab10 : rtab .any (opsOf Try.f59 10) = impl_Dom_walked.T10 := by kernel_rfl
theorem impl_Dom_walked.bits10 : waitsOk impl_Dom_walked.T10.2 impl_Dom_walked.B10 = true := by kernel_rfl
set_option maxHeartbeats 8000000 in
set_option maxRecDepth 100000 in
theorem impl_Dom_walked.calls (k : Nat) (A0_0 : Option Addr) (c0_0 : Nat) (l0_0 : List (S72)) (r1 : List (S62)) (r2 : List Int) (r3 : Bool) (w : World) (hr0_0 : Kd.C k72 w A0_0 l0_0.length l0_0) (hc0_0 : l0_0.length ≤ c0_0) (h : impl_Dom_walked.f k l0_0 = some (r1, r2, r3)) :
  Calls Try.prog 59 #[.agg #[.slice A0_0 l0_0.length c0_0]] w fun e w' => ∃ v0_ v1_ : Value, e = .returned (.tuple #[v0_, v1_, .bool r3]) ∧ Kd.R k62 62 w' w.heap.size (fun _ => True) v0_ r1 ∧ Kd.R (Kd.int .i64) 3 w' w.heap.size (fun _ => True) v1_ r2 ∧ Below w.heap.size w w' := by
 have hu28 := Try.underlying28
 have hu72 := Try.underlying72
 have HR0_0 := Aside0.mk hr0_0
 have HC0_0 := Aside0.mk hc0_0
 clear hr0_0 hc0_0
 have HB := Aside0.mk (Below.refl w.heap.size w)
 have H : ((impl_within.f (l0_0.length : Int) 1 24).bind fun t355 => (if t355 = true then (if 0 < (l0_0.length : Int) then (if ((rd_T72 l0_0 0).f2) = (-1) then (if ((rd_T72 l0_0 0).f5) = (-1) then (impl_Dom_walked.j0 k (((rd_T72 l0_0 0).f6) != (-1)) l0_0) else (impl_Dom_walked.j0 k true l0_0)) else (impl_Dom_walked.j0 k true l0_0)) else (none)) else (some (([] : List (S62)), ([] : List Int), false)))) = some (r1, r2, r3) := h
 clear h
 obtain ⟨t355, A2, H⟩ := bnd_ H
 by_cases c3 : t355 = true
 ·subst c3
  replace H := ift_ H
  obtain ⟨c4, H⟩ := ifs_ H
  have c4b0 := decide_eq_true c4
  have c4b1 : decide (0 < l0_0.length) = true := decide_eq_true (by omega)
  clear c4
  have HC5 := Aside0.mk H
  clear H
  go_enter Try.func59, Try.ntmps59
  go_upto_region 4 with (first | ((with_reducible refine gate_dst (N := 1) rfl ?_); refine box_event ?hg (N := 1) ?hd (cs := #[.slice A0_0 l0_0.length c0_0]) (t := 28) ?hr ?_; (case hd => rfl); (case hg => rfl); (case hr => exact z19_); intro gb354 hg w6 hbox hb; have BK354 := Aside0.mk (hbox); have GW354 := Aside0.mk ((by rw [hg]; exact (below_size z0_) : w.heap.size ≤ gb354)); have GE354 := Aside0.mk ((by rw [hg]; exact (below_size z0_) : w.heap.size ≤ gb354)); replace HB := Aside0.mk (below_step z0_ hb); clear hb hbox hg; have hcz7_0 : w6.cell? ⟨gb354, 0, none⟩ = some (.slice A0_0 l0_0.length c0_0) := (blk_cell BK354.out 0).trans rfl; have hfz7_0 := blk_frozen BK354.out 0) | ((with_reducible refine gate_callee (f := 81) rfl ?_); refine goesL_ (some 14) rfl rfl Try.func81 (by kernel_rfl) rfl #[.int .i64 (l0_0.length : Int), .int .i64 1, .int .i64 24] rfl z2_ ?_; (with_reducible refine (impl_within.calls (l0_0.length : Int) 1 24 true _ A2.out).mono ?_); rintro e w' ⟨rfl, ⟨nd, rfl⟩⟩; refine ⟨_, rfl, ?_⟩; (try (rw [drewN_self w6]; generalize hq_ : World.drewN w6 _ = w6; have n0_ : Aside0 (w6.heap[gb354]? = some (.cells #[.slice A0_0 l0_0.length c0_0] 28 (0, 0))) := ⟨by rw [← hq_]; exact z45_⟩; have n1_ : Aside0 (Below w.heap.size w w6) := ⟨by rw [← hq_]; exact z113_⟩; clear BK354 HB hq_; have BK354 := n0_; have HB := n1_; clear n0_ n1_; have hcz7_0 : w6.cell? ⟨gb354, 0, none⟩ = some (.slice A0_0 l0_0.length c0_0) := (blk_cell BK354.out 0).trans rfl; have hfz7_0 := blk_frozen BK354.out 0)); have p356 : 0 ≤ (0 : Int) := (by omega); have q356 : 0 < (l0_0.length : Int) := odt_; obtain ⟨ad356, e356, hx356_0, hx356_1, hx356_2, hx356_3, hx356_4, hx356_5, hx356_6⟩ := at_T72 HR0_0.out 0 p356 q356; cases e356; have qi356 : (0 < l0_0.length) = True := eq_true (by omega); (try rw [show ((0 : Int)).toNat = 0 from rfl] at hx356_0); (try rw [show 0 * 7 = 0 from rfl] at hx356_0); (try rw [Addr.add_zero'] at hx356_0); (try rw [show ((0 : Int)).toNat = 0 from rfl] at hx356_1); (try rw [show 0 * 7 = 0 from rfl] at hx356_1); (try rw [Addr.add_zero'] at hx356_1); (try rw [show ((0 : Int)).toNat = 0 from rfl] at hx356_2); (try rw [show 0 * 7 = 0 from rfl] at hx356_2); (try rw [Addr.add_zero'] at hx356_2); (try rw [show ((0 : Int)).toNat = 0 from rfl] at hx356_3); (try rw [show 0 * 7 = 0 from rfl] at hx356_3); (try rw [Addr.add_zero'] at hx356_3); (try rw [show ((0 : Int)).toNat = 0 from rfl] at hx356_4); (try rw [show 0 * 7 = 0 from rfl] at hx356_4); (try rw [Addr.add_zero'] at hx356_4); (try rw [show ((0 : Int)).toNat = 0 from rfl] at hx356_5); (try rw [show 0 * 7 = 0 from rfl] at hx356_5); (try rw [Addr.add_zero'] at hx356_5); (try rw [show ((0 : Int)).toNat = 0 from rfl] at hx356_6); (try rw [show 0 * 7 = 0 from rfl] at hx356_6); (try rw [Addr.add_zero'] at hx356_6); replace hx356_0 := (HB.out.cell (World.block_lt_of_cell? w _ hx356_0)).trans hx356_0; replace hx356_1 := (HB.out.cell (World.block_lt_of_cell? w _ hx356_1)).trans hx356_1; replace hx356_2 := (HB.out.cell (World.block_lt_of_cell? w _ hx356_2)).trans hx356_2; replace hx356_3 := (HB.out.cell (World.block_lt_of_cell? w _ hx356_3)).trans hx356_3; replace hx356_4 := (HB.out.cell (World.block_lt_of_cell? w _ hx356_4)).trans hx356_4; replace hx356_5 := (HB.out.cell (World.block_lt_of_cell? w _ hx356_5)).trans hx356_5; replace hx356_6 := (HB.out.cell (World.block_lt_of_cell? w _ hx356_6)).trans hx356_6; replace p356 := eq_true p356; replace q356 := eq_true q356) | ((with_reducible refine gate_dst (N := 5) rfl ?_); refine box_event ?hg (N := 5) ?hd (cs := #[.bool false, .int .i64 0, .int .i64 0, .int .i64 0, .int .i64 0, .int .i64 0, .int .i64 0]) (t := 72) ?hr ?_; (case hd => rfl); (case hg => rfl); (case hr => exact z19_); intro gb357 hg w8 hbox hb; have BK357 := Aside0.mk (hbox); have GW357 := Aside0.mk ((by rw [hg]; exact (below_size z113_) : w.heap.size ≤ gb357)); have GE357 := Aside0.mk ((by rw [hg]; exact (below_size z113_) : w.heap.size ≤ gb357)); replace HB := Aside0.mk (below_step z113_ hb); have NB354_357 := Aside0.mk ((by rw [hg]; exact Nat.ne_of_lt (blk_lt (g := gb354) (o := .cells #[.slice (some ad356) l0_0.length c0_0] 28 (0, 0)) z45_) : gb354 ≠ gb357)); have NB357_354 := Aside0.mk ((by rw [hg]; exact Nat.ne_of_gt (blk_lt (g := gb354) (o := .cells #[.slice (some ad356) l0_0.length c0_0] 28 (0, 0)) z45_) : gb357 ≠ gb354)); replace BK354 := Aside0.mk (blk_below (g := gb354) (o := .cells #[.slice (some ad356) l0_0.length c0_0] 28 (0, 0)) z45_ hb); clear hb hbox hg; have hnb9 := NB357_354.out; have hnc9 := NB354_357.out; obtain ⟨hcz10_0, hcz10_1, hcz10_2, hcz10_3, hcz10_4, hcz10_5, hcz10_6, hfz10_0, hfz10_1, hfz10_2, hfz10_3, hfz10_4, hfz10_5, hfz10_6⟩ := bx7_ BK357.out))
  go_cut [32] (fun v32 wc => ∃ (kq : Nat) (x32_4 : Bool), v32 = .bool x32_4 ∧ Aside0 (impl_Dom_walked.j0 kq x32_4 l0_0 = some (r1, r2, r3)) ∧ Aside0 (kq ≤ k) ∧ Aside0 (wc.heap[gb354]? = some (.cells #[(.slice (some ad356) l0_0.length c0_0)] 28 (0, 0))) ∧ Aside0 (wc.heap[gb357]? = some (.cells #[.bool ((rd_T72 l0_0 0).f0), .int .i64 ((rd_T72 l0_0 0).f1), .int .i64 ((rd_T72 l0_0 0).f2), .int .i64 ((rd_T72 l0_0 0).f3), .int .i64 ((rd_T72 l0_0 0).f4), .int .i64 ((rd_T72 l0_0 0).f5), .int .i64 ((rd_T72 l0_0 0).f6)] 72 (0, 0))) ∧ Aside0 (Below w.heap.size w wc))
  case first =>
   have H := HC5.out
   clear HC5
   by_cases c11 : ((rd_T72 l0_0 0).f2) = (-1)
   ·rw [if_pos c11] at H
    have c11b0 : (((rd_T72 l0_0 0).f2) == (-1)) = true := beq_iff_eq.mpr c11
    have c11b1 : (((rd_T72 l0_0 0).f2) != (-1)) = false := bne_eq_false_iff_eq.mpr c11
    clear c11
    by_cases c12 : ((rd_T72 l0_0 0).f5) = (-1)
    ·rw [if_pos c12] at H
     have c12b0 : (((rd_T72 l0_0 0).f5) == (-1)) = true := beq_iff_eq.mpr c12
     have c12b1 : (((rd_T72 l0_0 0).f5) != (-1)) = false := bne_eq_false_iff_eq.mpr c12
     clear c12
     have H' := Aside0.mk H
     clear H
     have hnb13 := NB357_354.out
     have hnc13 := NB354_357.out
     obtain ⟨hcz14_0, hcz14_1, hcz14_2, hcz14_3, hcz14_4, hcz14_5, hcz14_6, hfz14_0, hfz14_1, hfz14_2, hfz14_3, hfz14_4, hfz14_5, hfz14_6⟩ := bx7_ BK357.out
     go_wp2
     go_meet
     case rel => exact ⟨_, ((((rd_T72 l0_0 0).f6) != (-1))), z17_, H', ⟨z124_⟩, ⟨z36_⟩, ⟨z7_⟩, ⟨z30_⟩⟩
    ·rw [if_neg c12] at H
     have c12b0 : (((rd_T72 l0_0 0).f5) == (-1)) = false := beq_eq_false_iff_ne.mpr c12
     have c12b1 : (((rd_T72 l0_0 0).f5) != (-1)) = true := bne_iff_ne.mpr c12
     have H' := Aside0.mk H
     clear H
     have hnb15 := NB357_354.out
     have hnc15 := NB354_357.out
     obtain ⟨hcz16_0, hcz16_1, hcz16_2, hcz16_3, hcz16_4, hcz16_5, hcz16_6, hfz16_0, hfz16_1, hfz16_2, hfz16_3, hfz16_4, hfz16_5, hfz16_6⟩ := bx7_ BK357.out
     go_wp2
     go_meet
     case rel => exact ⟨_, (true), z17_, H', ⟨z124_⟩, ⟨z36_⟩, ⟨z7_⟩, ⟨z30_⟩⟩
   ·rw [if_neg c11] at H
    have c11b0 : (((rd_T72 l0_0 0).f2) == (-1)) = false := beq_eq_false_iff_ne.mpr c11
    have c11b1 : (((rd_T72 l0_0 0).f2) != (-1)) = true := bne_iff_ne.mpr c11
    have H' := Aside0.mk H
    clear H
    have hnb17 := NB357_354.out
    have hnc17 := NB354_357.out
    obtain ⟨hcz18_0, hcz18_1, hcz18_2, hcz18_3, hcz18_4, hcz18_5, hcz18_6, hfz18_0, hfz18_1, hfz18_2, hfz18_3, hfz18_4, hfz18_5, hfz18_6⟩ := bx7_ BK357.out
    go_wp2
    go_meet
    case rel => exact ⟨_, (true), z17_, H', ⟨z124_⟩, ⟨z36_⟩, ⟨z7_⟩, ⟨z30_⟩⟩
  case rest =>
   clear HC5 c4b0 c4b1 hcz10_0 hcz10_1 hcz10_2 hcz10_3 hcz10_4 hcz10_5 hcz10_6 hcz7_0 hfz10_0 hfz10_1 hfz10_2 hfz10_3 hfz10_4 hfz10_5 hfz10_6 hfz7_0 hx356_0 hx356_1 hx356_2 hx356_3 hx356_4 hx356_5 hx356_6 p356 q356
   obtain ⟨kq, x32_4, rfl, HA, HJ4, BK354, BK357, HB⟩ := hcut
   cases kq with
   | zero => exact absurd HA.out (by simp [impl_Dom_walked.j0])
   | succ kj4 =>
    have H := HA.out
    clear HA
    simp only [impl_Dom_walked.j0] at H
    by_cases c19 : x32_4 = true
    ·subst c19
     replace H := ift_ H
     simp only [Option.some.injEq, Prod.mk.injEq] at H
     obtain ⟨rfl, rfl, rfl⟩ := H
     go_wp2
     go_ret3
     exact ⟨_, _, z4_, z145_, z145_, z30_⟩
    ·replace c19 := Bool.eq_false_iff.mpr c19
     subst c19
     replace H := iff_ H
     replace H := Option.bind_eq_some_iff.mp H
     obtain ⟨⟨t358, t361, t364⟩, A200, H⟩ := H
     try dsimp only at H
     have A20 := Aside0.mk A200
     clear A200
     have H' := Aside0.mk H
     clear H
     have hnb21 := NB354_357.out
     have hnc21 := NB357_354.out
     have hcz22_0 : wc.cell? ⟨gb354, 0, none⟩ = some (.slice (some ad356) l0_0.length c0_0) := (blk_cell BK354.out 0).trans rfl
     have hfz22_0 := blk_frozen BK354.out 0
     go_wp2_with (((with_reducible refine gate_callee (f := 112) rfl ?_); refine goesL_ (some 35) rfl rfl Try.func112 (by kernel_rfl) rfl #[.agg #[.slice (some ad356) l0_0.length c0_0], .int .i64 0, .int .i64 0, .slice none 0 0, .slice none 0 0] rfl z2_ ?_; (refine (impl_Dom_visit.calls kj4 _ _ l0_0 0 0 (fun k_ => some k_ = (.slice none 0 0 : Value).ownBlock) (.slice none 0 0) ([] : List (S62)) (fun k_ => some k_ = (.slice none 0 0 : Value).ownBlock) (.slice none 0 0) ([] : List Int) t358 t361 t364 w _ ?side1 ?side2 ?side3 ?side4 ?side5 A20.out).mono ?_); (case side1 => exact z30_); (case side2 => exact Kd.C_kept_came k72_heap HR0_0.out z30_ (fun k_ hs_ => Or.elim hs_ (fun e_ => (fun e_ => by simp [Value.ownBlock] at e_) e_) (fun e_ => (fun e_ => by simp [Value.ownBlock] at e_) e_))); (case side3 => exact HC0_0.out); (case side4 => exact z306_); (case side5 => exact z306_); rintro e w23 ⟨v359, v362, rfl, ho0, ho1, hb, hkp⟩; refine ⟨_, rfl, ?_⟩; replace BK354 := Aside0.mk (blk_kept z45_ hkp (fun hs_ => Or.elim hs_ (fun e_ => (fun e_ => by simp [Value.ownBlock] at e_) e_) (fun e_ => (fun e_ => by simp [Value.ownBlock] at e_) e_))); replace BK357 := Aside0.mk (blk_kept z49_ hkp (fun hs_ => Or.elim hs_ (fun e_ => (fun e_ => by simp [Value.ownBlock] at e_) e_) (fun e_ => (fun e_ => by simp [Value.ownBlock] at e_) e_))); have HO360 := Aside0.mk (Kd.R_mono (ok' := fun k_ => True) ho0 (fun k_ hk_ => trivial)); have HO363 := Aside0.mk (Kd.R_mono (ok' := fun k_ => True) ho1 (fun k_ hk_ => trivial)); replace HB := Aside0.mk (hb); (try clear hb hkp ho0 ho1); have hcz24_0 : w23.cell? ⟨gb354, 0, none⟩ = some (.slice (some ad356) l0_0.length c0_0) := (blk_cell BK354.out 0).trans rfl; have hfz24_0 := blk_frozen BK354.out 0))
     go_loopg [8, 42] kj4 (fun kq v8 v42 w' => ∃ (x8_2 : Bool) (x42_2 : Int), v8 = .bool x8_2 ∧ v42 = .int .i64 x42_2 ∧ Aside0 (impl_Dom_walked.l0 kq t358 t361 x8_2 l0_0 (l0_0.length : Int) x42_2 = some (r1, r2, r3)) ∧ Aside0 (kq ≤ kj4) ∧ Aside0 (Kd.R k62 62 w' w.heap.size (fun _ => True) v359 t358) ∧ Aside0 (Kd.R (Kd.int .i64) 3 w' w.heap.size (fun _ => True) v362 t361) ∧ Aside0 (w'.heap[gb354]? = some (.cells #[(.slice (some ad356) l0_0.length c0_0)] 28 (0, 0))) ∧ Aside0 (w'.heap[gb357]? = some (.cells #[.bool ((rd_T72 l0_0 0).f0), .int .i64 ((rd_T72 l0_0 0).f1), .int .i64 ((rd_T72 l0_0 0).f2), .int .i64 ((rd_T72 l0_0 0).f3), .int .i64 ((rd_T72 l0_0 0).f4), .int .i64 ((rd_T72 l0_0 0).f5), .int .i64 ((rd_T72 l0_0 0).f6)] 72 (0, 0))) ∧ Aside0 (Below w.heap.size w w'))
     case atStart => exact ⟨(t364), (0), z17_, z17_, H', ⟨Nat.le_refl _⟩, ⟨by exact HO360.out⟩, ⟨by exact HO363.out⟩, ⟨z45_⟩, ⟨z49_⟩, ⟨z30_⟩⟩
     case round =>
      clear H' hcz22_0 hcz24_0 hcz7_0 hfz22_0 hfz24_0 hfz7_0
      obtain ⟨x8_2, x42_2, rfl, rfl, HA, HK2, HO_6, HO_7, BK354, BK357, HB⟩ := hrel
      cases gk with
      | zero => exact absurd HA.out (by simp [impl_Dom_walked.l0])
      | succ k2 =>
       have H := HA.out
       clear HA
       simp only [impl_Dom_walked.l0] at H
       by_cases c25 : x42_2 < (l0_0.length : Int)
       ·rw [if_pos c25] at H
        have c25b0 := decide_eq_true c25
        clear c25
        obtain ⟨c26b0, H⟩ := ifd_ H
        obtain ⟨c27b0, H⟩ := ifd_ H
        by_cases c28 : x8_2 = true
        ·subst c28
         replace H := ift_ H
         obtain ⟨t367, A29, H⟩ := bnd_ H
         by_cases c30 : t367 = true
         ·subst c30
          replace H := ift_ H
          have H' := Aside0.mk H
          clear H
          obtain ⟨p365, q365, ad365, e365, hx365_0, hx365_1, hx365_2, hx365_3, hx365_4, hx365_5, hx365_6⟩ := atb72_ HR0_0 HB x42_2
          obtain rfl : ad356 = ad365 := (by injection e365)
          try go_wp2_with (((with_reducible refine gate_dst (N := 10) rfl ?_); refine box_event ?hg (N := 10) ?hd (cs := #[.bool false, .int .i64 0, .int .i64 0, .int .i64 0, .int .i64 0, .int .i64 0, .int .i64 0]) (t := 72) ?hr ?_; (case hd => rfl); (case hg => rfl); (case hr => exact z19_); intro gb366 hg w31 hbox hb; replace HO_6 := Aside0.mk (Kd.R_below z71_ hb); replace HO_7 := Aside0.mk (Kd.R_below z90_ hb); have BK366 := Aside0.mk (hbox); have GW366 := Aside0.mk ((by rw [hg]; exact (below_size z30_) : w.heap.size ≤ gb366)); have GE366 := Aside0.mk ((by rw [hg]; exact (below_size z30_) : w.heap.size ≤ gb366)); replace HB := Aside0.mk (below_step z30_ hb); have NB354_366 := Aside0.mk ((by rw [hg]; exact Nat.ne_of_lt (blk_lt (g := gb354) (o := .cells #[.slice (some ad356) l0_0.length c0_0] 28 (0, 0)) z45_) : gb354 ≠ gb366)); have NB366_354 := Aside0.mk ((by rw [hg]; exact Nat.ne_of_gt (blk_lt (g := gb354) (o := .cells #[.slice (some ad356) l0_0.length c0_0] 28 (0, 0)) z45_) : gb366 ≠ gb354)); replace BK354 := Aside0.mk (blk_below (g := gb354) (o := .cells #[.slice (some ad356) l0_0.length c0_0] 28 (0, 0)) z45_ hb); have NB357_366 := Aside0.mk ((by rw [hg]; exact Nat.ne_of_lt (blk_lt (g := gb357) (o := .cells #[.bool ((rd_T72 l0_0 0).f0), .int .i64 ((rd_T72 l0_0 0).f1), .int .i64 ((rd_T72 l0_0 0).f2), .int .i64 ((rd_T72 l0_0 0).f3), .int .i64 ((rd_T72 l0_0 0).f4), .int .i64 ((rd_T72 l0_0 0).f5), .int .i64 ((rd_T72 l0_0 0).f6)] 72 (0, 0)) z49_) : gb357 ≠ gb366)); have NB366_357 := Aside0.mk ((by rw [hg]; exact Nat.ne_of_gt (blk_lt (g := gb357) (o := .cells #[.bool ((rd_T72 l0_0 0).f0), .int .i64 ((rd_T72 l0_0 0).f1), .int .i64 ((rd_T72 l0_0 0).f2), .int .i64 ((rd_T72 l0_0 0).f3), .int .i64 ((rd_T72 l0_0 0).f4), .int .i64 ((rd_T72 l0_0 0).f5), .int .i64 ((rd_T72 l0_0 0).f6)] 72 (0, 0)) z49_) : gb366 ≠ gb357)); replace BK357 := Aside0.mk (blk_below (g := gb357) (o := .cells #[.bool ((rd_T72 l0_0 0).f0), .int .i64 ((rd_T72 l0_0 0).f1), .int .i64 ((rd_T72 l0_0 0).f2), .int .i64 ((rd_T72 l0_0 0).f3), .int .i64 ((rd_T72 l0_0 0).f4), .int .i64 ((rd_T72 l0_0 0).f5), .int .i64 ((rd_T72 l0_0 0).f6)] 72 (0, 0)) z49_ hb); clear hb hbox hg; have hnb32 := NB366_354.out; have hnc32 := NB354_366.out; have hnb33 := NB366_357.out; have hnc33 := NB357_366.out; obtain ⟨hcz34_0, hcz34_1, hcz34_2, hcz34_3, hcz34_4, hcz34_5, hcz34_6, hfz34_0, hfz34_1, hfz34_2, hfz34_3, hfz34_4, hfz34_5, hfz34_6⟩ := bx7_ BK366.out))
          have n0_ : Aside0 (Kd.R k62 62 (((((((w31.setCell ⟨gb366, 0, none⟩ (.bool ((rd_T72 l0_0 x42_2).f0))).setCell ⟨gb366, 1, none⟩ (.int .i64 ((rd_T72 l0_0 x42_2).f1))).setCell ⟨gb366, 2, none⟩ (.int .i64 ((rd_T72 l0_0 x42_2).f2))).setCell ⟨gb366, 3, none⟩ (.int .i64 ((rd_T72 l0_0 x42_2).f3))).setCell ⟨gb366, 4, none⟩ (.int .i64 ((rd_T72 l0_0 x42_2).f4))).setCell ⟨gb366, 5, none⟩ (.int .i64 ((rd_T72 l0_0 x42_2).f5))).setCell ⟨gb366, 6, none⟩ (.int .i64 ((rd_T72 l0_0 x42_2).f6))) w.heap.size (fun _ => True) v359 t358) := ⟨z37_⟩
          have n1_ : Aside0 (Kd.R (Kd.int .i64) 3 (((((((w31.setCell ⟨gb366, 0, none⟩ (.bool ((rd_T72 l0_0 x42_2).f0))).setCell ⟨gb366, 1, none⟩ (.int .i64 ((rd_T72 l0_0 x42_2).f1))).setCell ⟨gb366, 2, none⟩ (.int .i64 ((rd_T72 l0_0 x42_2).f2))).setCell ⟨gb366, 3, none⟩ (.int .i64 ((rd_T72 l0_0 x42_2).f3))).setCell ⟨gb366, 4, none⟩ (.int .i64 ((rd_T72 l0_0 x42_2).f4))).setCell ⟨gb366, 5, none⟩ (.int .i64 ((rd_T72 l0_0 x42_2).f5))).setCell ⟨gb366, 6, none⟩ (.int .i64 ((rd_T72 l0_0 x42_2).f6))) w.heap.size (fun _ => True) v362 t361) := ⟨z38_⟩
          have n2_ : Aside0 ((((((((w31.setCell ⟨gb366, 0, none⟩ (.bool ((rd_T72 l0_0 x42_2).f0))).setCell ⟨gb366, 1, none⟩ (.int .i64 ((rd_T72 l0_0 x42_2).f1))).setCell ⟨gb366, 2, none⟩ (.int .i64 ((rd_T72 l0_0 x42_2).f2))).setCell ⟨gb366, 3, none⟩ (.int .i64 ((rd_T72 l0_0 x42_2).f3))).setCell ⟨gb366, 4, none⟩ (.int .i64 ((rd_T72 l0_0 x42_2).f4))).setCell ⟨gb366, 5, none⟩ (.int .i64 ((rd_T72 l0_0 x42_2).f5))).setCell ⟨gb366, 6, none⟩ (.int .i64 ((rd_T72 l0_0 x42_2).f6))).heap[gb354]? = some (.cells #[.slice (some ad356) l0_0.length c0_0] 28 (0, 0))) := ⟨z22_⟩
          have n3_ : Aside0 ((((((((w31.setCell ⟨gb366, 0, none⟩ (.bool ((rd_T72 l0_0 x42_2).f0))).setCell ⟨gb366, 1, none⟩ (.int .i64 ((rd_T72 l0_0 x42_2).f1))).setCell ⟨gb366, 2, none⟩ (.int .i64 ((rd_T72 l0_0 x42_2).f2))).setCell ⟨gb366, 3, none⟩ (.int .i64 ((rd_T72 l0_0 x42_2).f3))).setCell ⟨gb366, 4, none⟩ (.int .i64 ((rd_T72 l0_0 x42_2).f4))).setCell ⟨gb366, 5, none⟩ (.int .i64 ((rd_T72 l0_0 x42_2).f5))).setCell ⟨gb366, 6, none⟩ (.int .i64 ((rd_T72 l0_0 x42_2).f6))).heap[gb357]? = some (.cells #[.bool ((rd_T72 l0_0 0).f0), .int .i64 ((rd_T72 l0_0 0).f1), .int .i64 ((rd_T72 l0_0 0).f2), .int .i64 ((rd_T72 l0_0 0).f3), .int .i64 ((rd_T72 l0_0 0).f4), .int .i64 ((rd_T72 l0_0 0).f5), .int .i64 ((rd_T72 l0_0 0).f6)] 72 (0, 0))) := ⟨z23_⟩
          have n4_ : Aside0 ((((((((w31.setCell ⟨gb366, 0, none⟩ (.bool ((rd_T72 l0_0 x42_2).f0))).setCell ⟨gb366, 1, none⟩ (.int .i64 ((rd_T72 l0_0 x42_2).f1))).setCell ⟨gb366, 2, none⟩ (.int .i64 ((rd_T72 l0_0 x42_2).f2))).setCell ⟨gb366, 3, none⟩ (.int .i64 ((rd_T72 l0_0 x42_2).f3))).setCell ⟨gb366, 4, none⟩ (.int .i64 ((rd_T72 l0_0 x42_2).f4))).setCell ⟨gb366, 5, none⟩ (.int .i64 ((rd_T72 l0_0 x42_2).f5))).setCell ⟨gb366, 6, none⟩ (.int .i64 ((rd_T72 l0_0 x42_2).f6))).heap[gb366]? = some (.cells #[.bool ((rd_T72 l0_0 x42_2).f0), .int .i64 ((rd_T72 l0_0 x42_2).f1), .int .i64 ((rd_T72 l0_0 x42_2).f2), .int .i64 ((rd_T72 l0_0 x42_2).f3), .int .i64 ((rd_T72 l0_0 x42_2).f4), .int .i64 ((rd_T72 l0_0 x42_2).f5), .int .i64 ((rd_T72 l0_0 x42_2).f6)] 72 (0, 0))) := ⟨z3_⟩
          have n5_ : Aside0 (Below w.heap.size w (((((((w31.setCell ⟨gb366, 0, none⟩ (.bool ((rd_T72 l0_0 x42_2).f0))).setCell ⟨gb366, 1, none⟩ (.int .i64 ((rd_T72 l0_0 x42_2).f1))).setCell ⟨gb366, 2, none⟩ (.int .i64 ((rd_T72 l0_0 x42_2).f2))).setCell ⟨gb366, 3, none⟩ (.int .i64 ((rd_T72 l0_0 x42_2).f3))).setCell ⟨gb366, 4, none⟩ (.int .i64 ((rd_T72 l0_0 x42_2).f4))).setCell ⟨gb366, 5, none⟩ (.int .i64 ((rd_T72 l0_0 x42_2).f5))).setCell ⟨gb366, 6, none⟩ (.int .i64 ((rd_T72 l0_0 x42_2).f6)))) := ⟨z52_⟩
          (try clear HO_6)
          (try clear HO_7)
          (try clear BK354)
          (try clear BK357)
          (try clear BK366)
          (try clear HB)
          generalize (((((((w31.setCell ⟨gb366, 0, none⟩ (.bool ((rd_T72 l0_0 x42_2).f0))).setCell ⟨gb366, 1, none⟩ (.int .i64 ((rd_T72 l0_0 x42_2).f1))).setCell ⟨gb366, 2, none⟩ (.int .i64 ((rd_T72 l0_0 x42_2).f2))).setCell ⟨gb366, 3, none⟩ (.int .i64 ((rd_T72 l0_0 x42_2).f3))).setCell ⟨gb366, 4, none⟩ (.int .i64 ((rd_T72 l0_0 x42_2).f4))).setCell ⟨gb366, 5, none⟩ (.int .i64 ((rd_T72 l0_0 x42_2).f5))).setCell ⟨gb366, 6, none⟩ (.int .i64 ((rd_T72 l0_0 x42_2).f6))) = w35 at n0_ n1_ n2_ n3_ n4_ n5_ ⊢
          have HO_6 := n0_
          have HO_7 := n1_
          have BK354 := n2_
          have BK357 := n3_
          have BK366 := n4_
          have HB := n5_
          clear n0_ n1_ n2_ n3_ n4_ n5_
          have n0_ := Aside0.mk (Kd.R_drew HO_6.out)
          have n1_ := Aside0.mk (Kd.R_drew HO_7.out)
          have n2_ := Aside0.mk (blk_drew BK354.out)
          have n3_ := Aside0.mk (blk_drew BK357.out)
          have n4_ := Aside0.mk (blk_drew BK366.out)
          have n5_ := Aside0.mk (below_drew1 HB.out)
          clear HO_6
          clear HO_7
          clear BK354
          clear BK357
          clear BK366
          clear HB
          have HO_6 := n0_
          have HO_7 := n1_
          have BK354 := n2_
          have BK357 := n3_
          have BK366 := n4_
          have HB := n5_
          clear n0_ n1_ n2_ n3_ n4_ n5_
          obtain ⟨Ao37, co37, eo37⟩ := Kd.R_slice HO_7.out
          (subst eo37)
          refine start_ (n := 12) (S := fun w' => True) (ds := []) (fl_ 12 0) (by kernel_rfl) rfl (fl_zero _) trivial (fun hHeld => ?_); refine with_tabW impl_Dom_walked.tab10 impl_Dom_walked.bits10 (fun HT_ HW_ => ?_)
          generalize w35.drew = w36 at HO_6 HO_7 BK354 BK357 BK366 HB hHeld ⊢
          iterate 4 refine zp_ HT_ rfl rfl (by kernel_rfl) (fun _ _ _ h => h) (by rfl) ?_
          refine one_ (i := 4) (N := some 51) (fl_ 12 5) rfl rfl (one_of HT_.out (by kernel_rfl)) (by decide) (fun K hK => ?_)
          refine goes_ Try.func86 (by kernel_rfl) rfl #[.slice Ao37 t361.length co37, .int .i64 x42_2] (by rfl) rfl rfl z2_ ?_
          with_reducible refine (slices_Contains_int_int.calls k2 _ _ t361 x42_2 true _ ?side1 ?side2 A29.out).mono ?_
          (case side1 => exact z155_)
          (case side2 => exact (Kd.R_reads' HO_7.out).2.1)
          rintro e w' ⟨rfl, ⟨nd, rfl⟩⟩
          refine ⟨_, rfl, ?_⟩
          refine hK.out _ _ trivial (fun hHeld => ?_)
          clear hK K
          refine zn_ rfl ?_
          iterate 3 refine zp_ HT_ rfl rfl (by kernel_rfl) (fun _ _ _ h => h) (by rfl) ?_
          iterate 3 refine zu_ HT_ rfl rfl (by kernel_rfl) (fun _ _ _ h => h) (by rfl) ?_
          refine zp_ HT_ rfl rfl (by kernel_rfl) (fun _ _ _ h => h) (by rfl) ?_
          refine done_ (done_of HT_.out (by kernel_rfl)) ?_
          try go_wp2
          go_roundg k2
          case measure => have := HJ4.out; have := HK2.out; omega
          case rel => exact ⟨(true), (wrap64 (x42_2 + 1)), z17_, z17_, H', ⟨z303_⟩, ⟨z71_⟩, ⟨z90_⟩, ⟨z45_⟩, ⟨z49_⟩, ⟨z52_⟩⟩
         ·replace c30 := Bool.eq_false_iff.mpr c30
          subst c30
          replace H := iff_ H
          replace H := Option.bind_eq_some_iff.mp H
          obtain ⟨⟨t368, t369, t370, t371, t372, t373, t374⟩, A380, H⟩ := H
          try dsimp only at H
          have A38 := Aside0.mk A380
          clear A380
          by_cases c39 : (!(((rd_T72 l0_0 x42_2).f0) == t368) || (!(((rd_T72 l0_0 x42_2).f1) == t369) || (!(((rd_T72 l0_0 x42_2).f2) == t370) || (!(((rd_T72 l0_0 x42_2).f3) == t371) || (!(((rd_T72 l0_0 x42_2).f4) == t372) || (!(((rd_T72 l0_0 x42_2).f5) == t373) || (!(((rd_T72 l0_0 x42_2).f6) == t374)))))))) = true
          ·rw [if_pos c39] at H
           have c39b0 : (!(((rd_T72 l0_0 x42_2).f0) == t368) || (!(((rd_T72 l0_0 x42_2).f1) == t369) || (!(((rd_T72 l0_0 x42_2).f2) == t370) || (!(((rd_T72 l0_0 x42_2).f3) == t371) || (!(((rd_T72 l0_0 x42_2).f4) == t372) || (!(((rd_T72 l0_0 x42_2).f5) == t373) || (!(((rd_T72 l0_0 x42_2).f6) == t374)))))))) = true := c39
           clear c39
           have H' := Aside0.mk H
           clear H
           obtain ⟨p365, q365, ad365, e365, hx365_0, hx365_1, hx365_2, hx365_3, hx365_4, hx365_5, hx365_6⟩ := atb72_ HR0_0 HB x42_2
           obtain rfl : ad356 = ad365 := (by injection e365)
           try go_wp2_with (((with_reducible refine gate_dst (N := 10) rfl ?_); refine box_event ?hg (N := 10) ?hd (cs := #[.bool false, .int .i64 0, .int .i64 0, .int .i64 0, .int .i64 0, .int .i64 0, .int .i64 0]) (t := 72) ?hr ?_; (case hd => rfl); (case hg => rfl); (case hr => exact z19_); intro gb366 hg w40 hbox hb; replace HO_6 := Aside0.mk (Kd.R_below z71_ hb); replace HO_7 := Aside0.mk (Kd.R_below z90_ hb); have BK366 := Aside0.mk (hbox); have GW366 := Aside0.mk ((by rw [hg]; exact (below_size z30_) : w.heap.size ≤ gb366)); have GE366 := Aside0.mk ((by rw [hg]; exact (below_size z30_) : w.heap.size ≤ gb366)); replace HB := Aside0.mk (below_step z30_ hb); have NB354_366 := Aside0.mk ((by rw [hg]; exact Nat.ne_of_lt (blk_lt (g := gb354) (o := .cells #[.slice (some ad356) l0_0.length c0_0] 28 (0, 0)) z45_) : gb354 ≠ gb366)); have NB366_354 := Aside0.mk ((by rw [hg]; exact Nat.ne_of_gt (blk_lt (g := gb354) (o := .cells #[.slice (some ad356) l0_0.length c0_0] 28 (0, 0)) z45_) : gb366 ≠ gb354)); replace BK354 := Aside0.mk (blk_below (g := gb354) (o := .cells #[.slice (some ad356) l0_0.length c0_0] 28 (0, 0)) z45_ hb); have NB357_366 := Aside0.mk ((by rw [hg]; exact Nat.ne_of_lt (blk_lt (g := gb357) (o := .cells #[.bool ((rd_T72 l0_0 0).f0), .int .i64 ((rd_T72 l0_0 0).f1), .int .i64 ((rd_T72 l0_0 0).f2), .int .i64 ((rd_T72 l0_0 0).f3), .int .i64 ((rd_T72 l0_0 0).f4), .int .i64 ((rd_T72 l0_0 0).f5), .int .i64 ((rd_T72 l0_0 0).f6)] 72 (0, 0)) z49_) : gb357 ≠ gb366)); have NB366_357 := Aside0.mk ((by rw [hg]; exact Nat.ne_of_gt (blk_lt (g := gb357) (o := .cells #[.bool ((rd_T72 l0_0 0).f0), .int .i64 ((rd_T72 l0_0 0).f1), .int .i64 ((rd_T72 l0_0 0).f2), .int .i64 ((rd_T72 l0_0 0).f3), .int .i64 ((rd_T72 l0_0 0).f4), .int .i64 ((rd_T72 l0_0 0).f5), .int .i64 ((rd_T72 l0_0 0).f6)] 72 (0, 0)) z49_) : gb366 ≠ gb357)); replace BK357 := Aside0.mk (blk_below (g := gb357) (o := .cells #[.bool ((rd_T72 l0_0 0).f0), .int .i64 ((rd_T72 l0_0 0).f1), .int .i64 ((rd_T72 l0_0 0).f2), .int .i64 ((rd_T72 l0_0 0).f3), .int .i64 ((rd_T72 l0_0 0).f4), .int .i64 ((rd_T72 l0_0 0).f5), .int .i64 ((rd_T72 l0_0 0).f6)] 72 (0, 0)) z49_ hb); clear hb hbox hg; have hnb41 := NB366_354.out; have hnc41 := NB354_366.out; have hnb42 := NB366_357.out; have hnc42 := NB357_366.out; obtain ⟨hcz43_0, hcz43_1, hcz43_2, hcz43_3, hcz43_4, hcz43_5, hcz43_6, hfz43_0, hfz43_1, hfz43_2, hfz43_3, hfz43_4, hfz43_5, hfz43_6⟩ := bx7_ BK366.out))
           have n0_ : Aside0 (Kd.R k62 62 (((((((w40.setCell ⟨gb366, 0, none⟩ (.bool ((rd_T72 l0_0 x42_2).f0))).setCell ⟨gb366, 1, none⟩ (.int .i64 ((rd_T72 l0_0 x42_2).f1))).setCell ⟨gb366, 2, none⟩ (.int .i64 ((rd_T72 l0_0 x42_2).f2))).setCell ⟨gb366, 3, none⟩ (.int .i64 ((rd_T72 l0_0 x42_2).f3))).setCell ⟨gb366, 4, none⟩ (.int .i64 ((rd_T72 l0_0 x42_2).f4))).setCell ⟨gb366, 5, none⟩ (.int .i64 ((rd_T72 l0_0 x42_2).f5))).setCell ⟨gb366, 6, none⟩ (.int .i64 ((rd_T72 l0_0 x42_2).f6))) w.heap.size (fun _ => True) v359 t358) := ⟨z37_⟩
           have n1_ : Aside0 (Kd.R (Kd.int .i64) 3 (((((((w40.setCell ⟨gb366, 0, none⟩ (.bool ((rd_T72 l0_0 x42_2).f0))).setCell ⟨gb366, 1, none⟩ (.int .i64 ((rd_T72 l0_0 x42_2).f1))).setCell ⟨gb366, 2, none⟩ (.int .i64 ((rd_T72 l0_0 x42_2).f2))).setCell ⟨gb366, 3, none⟩ (.int .i64 ((rd_T72 l0_0 x42_2).f3))).setCell ⟨gb366, 4, none⟩ (.int .i64 ((rd_T72 l0_0 x42_2).f4))).setCell ⟨gb366, 5, none⟩ (.int .i64 ((rd_T72 l0_0 x42_2).f5))).setCell ⟨gb366, 6, none⟩ (.int .i64 ((rd_T72 l0_0 x42_2).f6))) w.heap.size (fun _ => True) v362 t361) := ⟨z38_⟩
           have n2_ : Aside0 ((((((((w40.setCell ⟨gb366, 0, none⟩ (.bool ((rd_T72 l0_0 x42_2).f0))).setCell ⟨gb366, 1, none⟩ (.int .i64 ((rd_T72 l0_0 x42_2).f1))).setCell ⟨gb366, 2, none⟩ (.int .i64 ((rd_T72 l0_0 x42_2).f2))).setCell ⟨gb366, 3, none⟩ (.int .i64 ((rd_T72 l0_0 x42_2).f3))).setCell ⟨gb366, 4, none⟩ (.int .i64 ((rd_T72 l0_0 x42_2).f4))).setCell ⟨gb366, 5, none⟩ (.int .i64 ((rd_T72 l0_0 x42_2).f5))).setCell ⟨gb366, 6, none⟩ (.int .i64 ((rd_T72 l0_0 x42_2).f6))).heap[gb354]? = some (.cells #[.slice (some ad356) l0_0.length c0_0] 28 (0, 0))) := ⟨z22_⟩
           have n3_ : Aside0 ((((((((w40.setCell ⟨gb366, 0, none⟩ (.bool ((rd_T72 l0_0 x42_2).f0))).setCell ⟨gb366, 1, none⟩ (.int .i64 ((rd_T72 l0_0 x42_2).f1))).setCell ⟨gb366, 2, none⟩ (.int .i64 ((rd_T72 l0_0 x42_2).f2))).setCell ⟨gb366, 3, none⟩ (.int .i64 ((rd_T72 l0_0 x42_2).f3))).setCell ⟨gb366, 4, none⟩ (.int .i64 ((rd_T72 l0_0 x42_2).f4))).setCell ⟨gb366, 5, none⟩ (.int .i64 ((rd_T72 l0_0 x42_2).f5))).setCell ⟨gb366, 6, none⟩ (.int .i64 ((rd_T72 l0_0 x42_2).f6))).heap[gb357]? = some (.cells #[.bool ((rd_T72 l0_0 0).f0), .int .i64 ((rd_T72 l0_0 0).f1), .int .i64 ((rd_T72 l0_0 0).f2), .int .i64 ((rd_T72 l0_0 0).f3), .int .i64 ((rd_T72 l0_0 0).f4), .int .i64 ((rd_T72 l0_0 0).f5), .int .i64 ((rd_T72 l0_0 0).f6)] 72 (0, 0))) := ⟨z23_⟩
           have n4_ : Aside0 ((((((((w40.setCell ⟨gb366, 0, none⟩ (.bool ((rd_T72 l0_0 x42_2).f0))).setCell ⟨gb366, 1, none⟩ (.int .i64 ((rd_T72 l0_0 x42_2).f1))).setCell ⟨gb366, 2, none⟩ (.int .i64 ((rd_T72 l0_0 x42_2).f2))).setCell ⟨gb366, 3, none⟩ (.int .i64 ((rd_T72 l0_0 x42_2).f3))).setCell ⟨gb366, 4, none⟩ (.int .i64 ((rd_T72 l0_0 x42_2).f4))).setCell ⟨gb366, 5, none⟩ (.int .i64 ((rd_T72 l0_0 x42_2).f5))).setCell ⟨gb366, 6, none⟩ (.int .i64 ((rd_T72 l0_0 x42_2).f6))).heap[gb366]? = some (.cells #[.bool ((rd_T72 l0_0 x42_2).f0), .int .i64 ((rd_T72 l0_0 x42_2).f1), .int .i64 ((rd_T72 l0_0 x42_2).f2), .int .i64 ((rd_T72 l0_0 x42_2).f3), .int .i64 ((rd_T72 l0_0 x42_2).f4), .int .i64 ((rd_T72 l0_0 x42_2).f5), .int .i64 ((rd_T72 l0_0 x42_2).f6)] 72 (0, 0))) := ⟨z3_⟩
           have n5_ : Aside0 (Below w.heap.size w (((((((w40.setCell ⟨gb366, 0, none⟩ (.bool ((rd_T72 l0_0 x42_2).f0))).setCell ⟨gb366, 1, none⟩ (.int .i64 ((rd_T72 l0_0 x42_2).f1))).setCell ⟨gb366, 2, none⟩ (.int .i64 ((rd_T72 l0_0 x42_2).f2))).setCell ⟨gb366, 3, none⟩ (.int .i64 ((rd_T72 l0_0 x42_2).f3))).setCell ⟨gb366, 4, none⟩ (.int .i64 ((rd_T72 l0_0 x42_2).f4))).setCell ⟨gb366, 5, none⟩ (.int .i64 ((rd_T72 l0_0 x42_2).f5))).setCell ⟨gb366, 6, none⟩ (.int .i64 ((rd_T72 l0_0 x42_2).f6)))) := ⟨z52_⟩
           (try clear HO_6)
           (try clear HO_7)
           (try clear BK354)
           (try clear BK357)
           (try clear BK366)
           (try clear HB)
           generalize (((((((w40.setCell ⟨gb366, 0, none⟩ (.bool ((rd_T72 l0_0 x42_2).f0))).setCell ⟨gb366, 1, none⟩ (.int .i64 ((rd_T72 l0_0 x42_2).f1))).setCell ⟨gb366, 2, none⟩ (.int .i64 ((rd_T72 l0_0 x42_2).f2))).setCell ⟨gb366, 3, none⟩ (.int .i64 ((rd_T72 l0_0 x42_2).f3))).setCell ⟨gb366, 4, none⟩ (.int .i64 ((rd_T72 l0_0 x42_2).f4))).setCell ⟨gb366, 5, none⟩ (.int .i64 ((rd_T72 l0_0 x42_2).f5))).setCell ⟨gb366, 6, none⟩ (.int .i64 ((rd_T72 l0_0 x42_2).f6))) = w44 at n0_ n1_ n2_ n3_ n4_ n5_ ⊢
           have HO_6 := n0_
           have HO_7 := n1_
           have BK354 := n2_
           have BK357 := n3_
           have BK366 := n4_
           have HB := n5_
           clear n0_ n1_ n2_ n3_ n4_ n5_
           have n0_ := Aside0.mk (Kd.R_drew HO_6.out)
           have n1_ := Aside0.mk (Kd.R_drew HO_7.out)
           have n2_ := Aside0.mk (blk_drew BK354.out)
           have n3_ := Aside0.mk (blk_drew BK357.out)
           have n4_ := Aside0.mk (blk_drew BK366.out)
           have n5_ := Aside0.mk (below_drew1 HB.out)
           clear HO_6
           clear HO_7
           clear BK354
           clear BK357
           clear BK366
           clear HB
           have HO_6 := n0_
           have HO_7 := n1_
           have BK354 := n2_
           have BK357 := n3_
           have BK366 := n4_
           have HB := n5_
           clear n0_ n1_ n2_ n3_ n4_ n5_
           obtain ⟨Ao46, co46, eo46⟩ := Kd.R_slice HO_7.out
           (subst eo46)
           refine start_ (n := 12) (S := fun w' => w'.cell? ⟨gb366, 0, none⟩ = some (.bool ((rd_T72 l0_0 x42_2).f0)) ∧ w'.cell? ⟨gb366, 1, none⟩ = some (.int .i64 ((rd_T72 l0_0 x42_2).f1)) ∧ w'.cell? ⟨gb366, 2, none⟩ = some (.int .i64 ((rd_T72 l0_0 x42_2).f2)) ∧ w'.cell? ⟨gb366, 3, none⟩ = some (.int .i64 ((rd_T72 l0_0 x42_2).f3)) ∧ w'.cell? ⟨gb366, 4, none⟩ = some (.int .i64 ((rd_T72 l0_0 x42_2).f4)) ∧ w'.cell? ⟨gb366, 5, none⟩ = some (.int .i64 ((rd_T72 l0_0 x42_2).f5)) ∧ w'.cell? ⟨gb366, 6, none⟩ = some (.int .i64 ((rd_T72 l0_0 x42_2).f6))) (ds := []) (fl_ 12 0) (by kernel_rfl) rfl (fl_zero _) ⟨(blk_cell BK366.out 0).trans rfl, (blk_cell BK366.out 1).trans rfl, (blk_cell BK366.out 2).trans rfl, (blk_cell BK366.out 3).trans rfl, (blk_cell BK366.out 4).trans rfl, (blk_cell BK366.out 5).trans rfl, (blk_cell BK366.out 6).trans rfl⟩ (fun hHeld => ?_); refine with_tabW impl_Dom_walked.tab10 impl_Dom_walked.bits10 (fun HT_ HW_ => ?_)
           generalize w44.drew = w45 at HO_6 HO_7 BK354 BK357 BK366 HB hHeld ⊢
           iterate 4 refine zp_ HT_ rfl rfl (by kernel_rfl) (fun _ _ _ h => h) (by rfl) ?_
           refine one_ (i := 4) (N := some 51) (fl_ 12 5) rfl rfl (one_of HT_.out (by kernel_rfl)) (by decide) (fun K hK => ?_)
           refine goes_ Try.func86 (by kernel_rfl) rfl #[.slice Ao46 t361.length co46, .int .i64 x42_2] (by rfl) rfl rfl z2_ ?_
           with_reducible refine (slices_Contains_int_int.calls k2 _ _ t361 x42_2 false _ ?side1 ?side2 A29.out).mono ?_
           (case side1 => exact z155_)
           (case side2 => exact (Kd.R_reads' HO_7.out).2.1)
           rintro e w' ⟨rfl, ⟨nd, rfl⟩⟩
           refine ⟨_, rfl, ?_⟩
           refine hK.out _ _ ⟨(blk_cell BK366.out 0).trans rfl, (blk_cell BK366.out 1).trans rfl, (blk_cell BK366.out 2).trans rfl, (blk_cell BK366.out 3).trans rfl, (blk_cell BK366.out 4).trans rfl, (blk_cell BK366.out 5).trans rfl, (blk_cell BK366.out 6).trans rfl⟩ (fun hHeld => ?_)
           clear hK K
           refine zn_ rfl ?_
           iterate 3 refine zp_ HT_ rfl rfl (by kernel_rfl) (fun _ _ _ h => h) (by rfl) ?_
           refine zt_ HT_ HW_ rfl rfl (by kernel_rfl) (fun _ _ _ h => h) (by rfl) hHeld ?_ (by rintro w' ⟨s0, s1, s2, s3, s4, s5, s6⟩; go_simp; with_reducible rfl)
           refine one_ (i := 9) (N := some 56) (fl_ 12 10) rfl rfl (one_of HT_.out (by kernel_rfl)) (by decide) (fun K hK => ?_)
           refine goes_ Try.func53 (by kernel_rfl) rfl #[] (by rfl) rfl rfl z2_ ?_
           with_reducible refine (impl_unused.calls  t368 t369 t370 t371 t372 t373 t374 _ A38.out).mono ?_
           rintro e w47 ⟨rfl, hb⟩
           refine ⟨_, rfl, ?_⟩
           have n0_ := Aside0.mk (Kd.R_below z71_ hb)
           have n1_ := Aside0.mk (Kd.R_below z90_ hb)
           have n2_ := Aside0.mk (blk_below (g := gb354) (o := .cells #[.slice (some ad356) l0_0.length c0_0] 28 (0, 0)) z45_ hb)
           have n3_ := Aside0.mk (blk_below (g := gb357) (o := .cells #[.bool ((rd_T72 l0_0 0).f0), .int .i64 ((rd_T72 l0_0 0).f1), .int .i64 ((rd_T72 l0_0 0).f2), .int .i64 ((rd_T72 l0_0 0).f3), .int .i64 ((rd_T72 l0_0 0).f4), .int .i64 ((rd_T72 l0_0 0).f5), .int .i64 ((rd_T72 l0_0 0).f6)] 72 (0, 0)) z49_ hb)
           have n4_ := Aside0.mk (blk_below (g := gb366) (o := .cells #[.bool ((rd_T72 l0_0 x42_2).f0), .int .i64 ((rd_T72 l0_0 x42_2).f1), .int .i64 ((rd_T72 l0_0 x42_2).f2), .int .i64 ((rd_T72 l0_0 x42_2).f3), .int .i64 ((rd_T72 l0_0 x42_2).f4), .int .i64 ((rd_T72 l0_0 x42_2).f5), .int .i64 ((rd_T72 l0_0 x42_2).f6)] 72 (0, 0)) z274_ hb)
           have n5_ := Aside0.mk (below_step z52_ hb)
           clear HO_6
           clear HO_7
           clear BK354
           clear BK357
           clear BK366
           clear HB
           have HO_6 := n0_
           have HO_7 := n1_
           have BK354 := n2_
           have BK357 := n3_
           have BK366 := n4_
           have HB := n5_
           clear n0_ n1_ n2_ n3_ n4_ n5_
           (try clear hb)
           refine hK.out _ _ ⟨(blk_cell BK366.out 0).trans rfl, (blk_cell BK366.out 1).trans rfl, (blk_cell BK366.out 2).trans rfl, (blk_cell BK366.out 3).trans rfl, (blk_cell BK366.out 4).trans rfl, (blk_cell BK366.out 5).trans rfl, (blk_cell BK366.out 6).trans rfl⟩ (fun hHeld => ?_)
           clear hK K
           refine zn_ rfl ?_
           iterate 2 refine zp_ HT_ rfl rfl (by kernel_rfl) (fun _ _ _ h => h) (by rfl) ?_
           refine done_ (done_of HT_.out (by kernel_rfl)) ?_
           try go_wp2
           go_roundg k2
           case measure => have := HJ4.out; have := HK2.out; omega
           case rel => exact ⟨(false), (wrap64 (x42_2 + 1)), z17_, z17_, H', ⟨z303_⟩, ⟨z71_⟩, ⟨z90_⟩, ⟨z45_⟩, ⟨z49_⟩, ⟨z52_⟩⟩
          ·rw [if_neg c39] at H
           have c39b0 : (!(((rd_T72 l0_0 x42_2).f0) == t368) || (!(((rd_T72 l0_0 x42_2).f1) == t369) || (!(((rd_T72 l0_0 x42_2).f2) == t370) || (!(((rd_T72 l0_0 x42_2).f3) == t371) || (!(((rd_T72 l0_0 x42_2).f4) == t372) || (!(((rd_T72 l0_0 x42_2).f5) == t373) || (!(((rd_T72 l0_0 x42_2).f6) == t374)))))))) = false := by simpa using c39
           clear c39
           have H' := Aside0.mk H
           clear H
           obtain ⟨p365, q365, ad365, e365, hx365_0, hx365_1, hx365_2, hx365_3, hx365_4, hx365_5, hx365_6⟩ := atb72_ HR0_0 HB x42_2
           obtain rfl : ad356 = ad365 := (by injection e365)
           try go_wp2_with (((with_reducible refine gate_dst (N := 10) rfl ?_); refine box_event ?hg (N := 10) ?hd (cs := #[.bool false, .int .i64 0, .int .i64 0, .int .i64 0, .int .i64 0, .int .i64 0, .int .i64 0]) (t := 72) ?hr ?_; (case hd => rfl); (case hg => rfl); (case hr => exact z19_); intro gb366 hg w48 hbox hb; replace HO_6 := Aside0.mk (Kd.R_below z71_ hb); replace HO_7 := Aside0.mk (Kd.R_below z90_ hb); have BK366 := Aside0.mk (hbox); have GW366 := Aside0.mk ((by rw [hg]; exact (below_size z30_) : w.heap.size ≤ gb366)); have GE366 := Aside0.mk ((by rw [hg]; exact (below_size z30_) : w.heap.size ≤ gb366)); replace HB := Aside0.mk (below_step z30_ hb); have NB354_366 := Aside0.mk ((by rw [hg]; exact Nat.ne_of_lt (blk_lt (g := gb354) (o := .cells #[.slice (some ad356) l0_0.length c0_0] 28 (0, 0)) z45_) : gb354 ≠ gb366)); have NB366_354 := Aside0.mk ((by rw [hg]; exact Nat.ne_of_gt (blk_lt (g := gb354) (o := .cells #[.slice (some ad356) l0_0.length c0_0] 28 (0, 0)) z45_) : gb366 ≠ gb354)); replace BK354 := Aside0.mk (blk_below (g := gb354) (o := .cells #[.slice (some ad356) l0_0.length c0_0] 28 (0, 0)) z45_ hb); have NB357_366 := Aside0.mk ((by rw [hg]; exact Nat.ne_of_lt (blk_lt (g := gb357) (o := .cells #[.bool ((rd_T72 l0_0 0).f0), .int .i64 ((rd_T72 l0_0 0).f1), .int .i64 ((rd_T72 l0_0 0).f2), .int .i64 ((rd_T72 l0_0 0).f3), .int .i64 ((rd_T72 l0_0 0).f4), .int .i64 ((rd_T72 l0_0 0).f5), .int .i64 ((rd_T72 l0_0 0).f6)] 72 (0, 0)) z49_) : gb357 ≠ gb366)); have NB366_357 := Aside0.mk ((by rw [hg]; exact Nat.ne_of_gt (blk_lt (g := gb357) (o := .cells #[.bool ((rd_T72 l0_0 0).f0), .int .i64 ((rd_T72 l0_0 0).f1), .int .i64 ((rd_T72 l0_0 0).f2), .int .i64 ((rd_T72 l0_0 0).f3), .int .i64 ((rd_T72 l0_0 0).f4), .int .i64 ((rd_T72 l0_0 0).f5), .int .i64 ((rd_T72 l0_0 0).f6)] 72 (0, 0)) z49_) : gb366 ≠ gb357)); replace BK357 := Aside0.mk (blk_below (g := gb357) (o := .cells #[.bool ((rd_T72 l0_0 0).f0), .int .i64 ((rd_T72 l0_0 0).f1), .int .i64 ((rd_T72 l0_0 0).f2), .int .i64 ((rd_T72 l0_0 0).f3), .int .i64 ((rd_T72 l0_0 0).f4), .int .i64 ((rd_T72 l0_0 0).f5), .int .i64 ((rd_T72 l0_0 0).f6)] 72 (0, 0)) z49_ hb); clear hb hbox hg; have hnb49 := NB366_354.out; have hnc49 := NB354_366.out; have hnb50 := NB366_357.out; have hnc50 := NB357_366.out; obtain ⟨hcz51_0, hcz51_1, hcz51_2, hcz51_3, hcz51_4, hcz51_5, hcz51_6, hfz51_0, hfz51_1, hfz51_2, hfz51_3, hfz51_4, hfz51_5, hfz51_6⟩ := bx7_ BK366.out))
           have n0_ : Aside0 (Kd.R k62 62 (((((((w48.setCell ⟨gb366, 0, none⟩ (.bool ((rd_T72 l0_0 x42_2).f0))).setCell ⟨gb366, 1, none⟩ (.int .i64 ((rd_T72 l0_0 x42_2).f1))).setCell ⟨gb366, 2, none⟩ (.int .i64 ((rd_T72 l0_0 x42_2).f2))).setCell ⟨gb366, 3, none⟩ (.int .i64 ((rd_T72 l0_0 x42_2).f3))).setCell ⟨gb366, 4, none⟩ (.int .i64 ((rd_T72 l0_0 x42_2).f4))).setCell ⟨gb366, 5, none⟩ (.int .i64 ((rd_T72 l0_0 x42_2).f5))).setCell ⟨gb366, 6, none⟩ (.int .i64 ((rd_T72 l0_0 x42_2).f6))) w.heap.size (fun _ => True) v359 t358) := ⟨z37_⟩
           have n1_ : Aside0 (Kd.R (Kd.int .i64) 3 (((((((w48.setCell ⟨gb366, 0, none⟩ (.bool ((rd_T72 l0_0 x42_2).f0))).setCell ⟨gb366, 1, none⟩ (.int .i64 ((rd_T72 l0_0 x42_2).f1))).setCell ⟨gb366, 2, none⟩ (.int .i64 ((rd_T72 l0_0 x42_2).f2))).setCell ⟨gb366, 3, none⟩ (.int .i64 ((rd_T72 l0_0 x42_2).f3))).setCell ⟨gb366, 4, none⟩ (.int .i64 ((rd_T72 l0_0 x42_2).f4))).setCell ⟨gb366, 5, none⟩ (.int .i64 ((rd_T72 l0_0 x42_2).f5))).setCell ⟨gb366, 6, none⟩ (.int .i64 ((rd_T72 l0_0 x42_2).f6))) w.heap.size (fun _ => True) v362 t361) := ⟨z38_⟩
           have n2_ : Aside0 ((((((((w48.setCell ⟨gb366, 0, none⟩ (.bool ((rd_T72 l0_0 x42_2).f0))).setCell ⟨gb366, 1, none⟩ (.int .i64 ((rd_T72 l0_0 x42_2).f1))).setCell ⟨gb366, 2, none⟩ (.int .i64 ((rd_T72 l0_0 x42_2).f2))).setCell ⟨gb366, 3, none⟩ (.int .i64 ((rd_T72 l0_0 x42_2).f3))).setCell ⟨gb366, 4, none⟩ (.int .i64 ((rd_T72 l0_0 x42_2).f4))).setCell ⟨gb366, 5, none⟩ (.int .i64 ((rd_T72 l0_0 x42_2).f5))).setCell ⟨gb366, 6, none⟩ (.int .i64 ((rd_T72 l0_0 x42_2).f6))).heap[gb354]? = some (.cells #[.slice (some ad356) l0_0.length c0_0] 28 (0, 0))) := ⟨z22_⟩
           have n3_ : Aside0 ((((((((w48.setCell ⟨gb366, 0, none⟩ (.bool ((rd_T72 l0_0 x42_2).f0))).setCell ⟨gb366, 1, none⟩ (.int .i64 ((rd_T72 l0_0 x42_2).f1))).setCell ⟨gb366, 2, none⟩ (.int .i64 ((rd_T72 l0_0 x42_2).f2))).setCell ⟨gb366, 3, none⟩ (.int .i64 ((rd_T72 l0_0 x42_2).f3))).setCell ⟨gb366, 4, none⟩ (.int .i64 ((rd_T72 l0_0 x42_2).f4))).setCell ⟨gb366, 5, none⟩ (.int .i64 ((rd_T72 l0_0 x42_2).f5))).setCell ⟨gb366, 6, none⟩ (.int .i64 ((rd_T72 l0_0 x42_2).f6))).heap[gb357]? = some (.cells #[.bool ((rd_T72 l0_0 0).f0), .int .i64 ((rd_T72 l0_0 0).f1), .int .i64 ((rd_T72 l0_0 0).f2), .int .i64 ((rd_T72 l0_0 0).f3), .int .i64 ((rd_T72 l0_0 0).f4), .int .i64 ((rd_T72 l0_0 0).f5), .int .i64 ((rd_T72 l0_0 0).f6)] 72 (0, 0))) := ⟨z23_⟩
           have n4_ : Aside0 ((((((((w48.setCell ⟨gb366, 0, none⟩ (.bool ((rd_T72 l0_0 x42_2).f0))).setCell ⟨gb366, 1, none⟩ (.int .i64 ((rd_T72 l0_0 x42_2).f1))).setCell ⟨gb366, 2, none⟩ (.int .i64 ((rd_T72 l0_0 x42_2).f2))).setCell ⟨gb366, 3, none⟩ (.int .i64 ((rd_T72 l0_0 x42_2).f3))).setCell ⟨gb366, 4, none⟩ (.int .i64 ((rd_T72 l0_0 x42_2).f4))).setCell ⟨gb366, 5, none⟩ (.int .i64 ((rd_T72 l0_0 x42_2).f5))).setCell ⟨gb366, 6, none⟩ (.int .i64 ((rd_T72 l0_0 x42_2).f6))).heap[gb366]? = some (.cells #[.bool ((rd_T72 l0_0 x42_2).f0), .int .i64 ((rd_T72 l0_0 x42_2).f1), .int .i64 ((rd_T72 l0_0 x42_2).f2), .int .i64 ((rd_T72 l0_0 x42_2).f3), .int .i64 ((rd_T72 l0_0 x42_2).f4), .int .i64 ((rd_T72 l0_0 x42_2).f5), .int .i64 ((rd_T72 l0_0 x42_2).f6)] 72 (0, 0))) := ⟨z3_⟩
           have n5_ : Aside0 (Below w.heap.size w (((((((w48.setCell ⟨gb366, 0, none⟩ (.bool ((rd_T72 l0_0 x42_2).f0))).setCell ⟨gb366, 1, none⟩ (.int .i64 ((rd_T72 l0_0 x42_2).f1))).setCell ⟨gb366, 2, none⟩ (.int .i64 ((rd_T72 l0_0 x42_2).f2))).setCell ⟨gb366, 3, none⟩ (.int .i64 ((rd_T72 l0_0 x42_2).f3))).setCell ⟨gb366, 4, none⟩ (.int .i64 ((rd_T72 l0_0 x42_2).f4))).setCell ⟨gb366, 5, none⟩ (.int .i64 ((rd_T72 l0_0 x42_2).f5))).setCell ⟨gb366, 6, none⟩ (.int .i64 ((rd_T72 l0_0 x42_2).f6)))) := ⟨z52_⟩
           (try clear HO_6)
           (try clear HO_7)
           (try clear BK354)
           (try clear BK357)
           (try clear BK366)
           (try clear HB)
           generalize (((((((w48.setCell ⟨gb366, 0, none⟩ (.bool ((rd_T72 l0_0 x42_2).f0))).setCell ⟨gb366, 1, none⟩ (.int .i64 ((rd_T72 l0_0 x42_2).f1))).setCell ⟨gb366, 2, none⟩ (.int .i64 ((rd_T72 l0_0 x42_2).f2))).setCell ⟨gb366, 3, none⟩ (.int .i64 ((rd_T72 l0_0 x42_2).f3))).setCell ⟨gb366, 4, none⟩ (.int .i64 ((rd_T72 l0_0 x42_2).f4))).setCell ⟨gb366, 5, none⟩ (.int .i64 ((rd_T72 l0_0 x42_2).f5))).setCell ⟨gb366, 6, none⟩ (.int .i64 ((rd_T72 l0_0 x42_2).f6))) = w52 at n0_ n1_ n2_ n3_ n4_ n5_ ⊢
           have HO_6 := n0_
           have HO_7 := n1_
           have BK354 := n2_
           have BK357 := n3_
           have BK366 := n4_
           have HB := n5_
           clear n0_ n1_ n2_ n3_ n4_ n5_
           have n0_ := Aside0.mk (Kd.R_drew HO_6.out)
           have n1_ := Aside0.mk (Kd.R_drew HO_7.out)
           have n2_ := Aside0.mk (blk_drew BK354.out)
           have n3_ := Aside0.mk (blk_drew BK357.out)
           have n4_ := Aside0.mk (blk_drew BK366.out)
           have n5_ := Aside0.mk (below_drew1 HB.out)
           clear HO_6
           clear HO_7
           clear BK354
           clear BK357
           clear BK366
           clear HB
           have HO_6 := n0_
           have HO_7 := n1_
           have BK354 := n2_
           have BK357 := n3_
           have BK366 := n4_
           have HB := n5_
           clear n0_ n1_ n2_ n3_ n4_ n5_
           obtain ⟨Ao54, co54, eo54⟩ := Kd.R_slice HO_7.out
           (subst eo54)
           refine start_ (n := 12) (S := fun w' => w'.cell? ⟨gb366, 0, none⟩ = some (.bool ((rd_T72 l0_0 x42_2).f0)) ∧ w'.cell? ⟨gb366, 1, none⟩ = some (.int .i64 ((rd_T72 l0_0 x42_2).f1)) ∧ w'.cell? ⟨gb366, 2, none⟩ = some (.int .i64 ((rd_T72 l0_0 x42_2).f2)) ∧ w'.cell? ⟨gb366, 3, none⟩ = some (.int .i64 ((rd_T72 l0_0 x42_2).f3)) ∧ w'.cell? ⟨gb366, 4, none⟩ = some (.int .i64 ((rd_T72 l0_0 x42_2).f4)) ∧ w'.cell? ⟨gb366, 5, none⟩ = some (.int .i64 ((rd_T72 l0_0 x42_2).f5)) ∧ w'.cell? ⟨gb366, 6, none⟩ = some (.int .i64 ((rd_T72 l0_0 x42_2).f6))) (ds := []) (fl_ 12 0) (by kernel_rfl) rfl (fl_zero _) ⟨(blk_cell BK366.out 0).trans rfl, (blk_cell BK366.out 1).trans rfl, (blk_cell BK366.out 2).trans rfl, (blk_cell BK366.out 3).trans rfl, (blk_cell BK366.out 4).trans rfl, (blk_cell BK366.out 5).trans rfl, (blk_cell BK366.out 6).trans rfl⟩ (fun hHeld => ?_); refine with_tabW impl_Dom_walked.tab10 impl_Dom_walked.bits10 (fun HT_ HW_ => ?_)
           generalize w52.drew = w53 at HO_6 HO_7 BK354 BK357 BK366 HB hHeld ⊢
           iterate 4 refine zp_ HT_ rfl rfl (by kernel_rfl) (fun _ _ _ h => h) (by rfl) ?_
           refine one_ (i := 4) (N := some 51) (fl_ 12 5) rfl rfl (one_of HT_.out (by kernel_rfl)) (by decide) (fun K hK => ?_)
           refine goes_ Try.func86 (by kernel_rfl) rfl #[.slice Ao54 t361.length co54, .int .i64 x42_2] (by rfl) rfl rfl z2_ ?_
           with_reducible refine (slices_Contains_int_int.calls k2 _ _ t361 x42_2 false _ ?side1 ?side2 A29.out).mono ?_
           (case side1 => exact z155_)
           (case side2 => exact (Kd.R_reads' HO_7.out).2.1)
           rintro e w' ⟨rfl, ⟨nd, rfl⟩⟩
           refine ⟨_, rfl, ?_⟩
           refine hK.out _ _ ⟨(blk_cell BK366.out 0).trans rfl, (blk_cell BK366.out 1).trans rfl, (blk_cell BK366.out 2).trans rfl, (blk_cell BK366.out 3).trans rfl, (blk_cell BK366.out 4).trans rfl, (blk_cell BK366.out 5).trans rfl, (blk_cell BK366.out 6).trans rfl⟩ (fun hHeld => ?_)
           clear hK K
           refine zn_ rfl ?_
           iterate 3 refine zp_ HT_ rfl rfl (by kernel_rfl) (fun _ _ _ h => h) (by rfl) ?_
           refine zt_ HT_ HW_ rfl rfl (by kernel_rfl) (fun _ _ _ h => h) (by rfl) hHeld ?_ (by rintro w' ⟨s0, s1, s2, s3, s4, s5, s6⟩; go_simp; with_reducible rfl)
           refine one_ (i := 9) (N := some 56) (fl_ 12 10) rfl rfl (one_of HT_.out (by kernel_rfl)) (by decide) (fun K hK => ?_)
           refine goes_ Try.func53 (by kernel_rfl) rfl #[] (by rfl) rfl rfl z2_ ?_
           with_reducible refine (impl_unused.calls  t368 t369 t370 t371 t372 t373 t374 _ A38.out).mono ?_
           rintro e w55 ⟨rfl, hb⟩
           refine ⟨_, rfl, ?_⟩
           have n0_ := Aside0.mk (Kd.R_below z71_ hb)
           have n1_ := Aside0.mk (Kd.R_below z90_ hb)
           have n2_ := Aside0.mk (blk_below (g := gb354) (o := .cells #[.slice (some ad356) l0_0.length c0_0] 28 (0, 0)) z45_ hb)
           have n3_ := Aside0.mk (blk_below (g := gb357) (o := .cells #[.bool ((rd_T72 l0_0 0).f0), .int .i64 ((rd_T72 l0_0 0).f1), .int .i64 ((rd_T72 l0_0 0).f2), .int .i64 ((rd_T72 l0_0 0).f3), .int .i64 ((rd_T72 l0_0 0).f4), .int .i64 ((rd_T72 l0_0 0).f5), .int .i64 ((rd_T72 l0_0 0).f6)] 72 (0, 0)) z49_ hb)
           have n4_ := Aside0.mk (blk_below (g := gb366) (o := .cells #[.bool ((rd_T72 l0_0 x42_2).f0), .int .i64 ((rd_T72 l0_0 x42_2).f1), .int .i64 ((rd_T72 l0_0 x42_2).f2), .int .i64 ((rd_T72 l0_0 x42_2).f3), .int .i64 ((rd_T72 l0_0 x42_2).f4), .int .i64 ((rd_T72 l0_0 x42_2).f5), .int .i64 ((rd_T72 l0_0 x42_2).f6)] 72 (0, 0)) z274_ hb)
           have n5_ := Aside0.mk (below_step z52_ hb)
           clear HO_6
           clear HO_7
           clear BK354
           clear BK357
           clear BK366
           clear HB
           have HO_6 := n0_
           have HO_7 := n1_
           have BK354 := n2_
           have BK357 := n3_
           have BK366 := n4_
           have HB := n5_
           clear n0_ n1_ n2_ n3_ n4_ n5_
           (try clear hb)
           refine hK.out _ _ ⟨(blk_cell BK366.out 0).trans rfl, (blk_cell BK366.out 1).trans rfl, (blk_cell BK366.out 2).trans rfl, (blk_cell BK366.out 3).trans rfl, (blk_cell BK366.out 4).trans rfl, (blk_cell BK366.out 5).trans rfl, (blk_cell BK366.out 6).trans rfl⟩ (fun hHeld => ?_)
           clear hK K
           refine zn_ rfl ?_
           iterate 2 refine zp_ HT_ rfl rfl (by kernel_rfl) (fun _ _ _ h => h) (by rfl) ?_
           refine done_ (done_of HT_.out (by kernel_rfl)) ?_
           try go_wp2
           go_roundg k2
           case measure => have := HJ4.out; have := HK2.out; omega
           case rel => exact ⟨(true), (wrap64 (x42_2 + 1)), z17_, z17_, H', ⟨z303_⟩, ⟨z71_⟩, ⟨z90_⟩, ⟨z45_⟩, ⟨z49_⟩, ⟨z52_⟩⟩
        ·replace c28 := Bool.eq_false_iff.mpr c28
         subst c28
         replace H := iff_ H
         have H' := Aside0.mk H
         clear H
         obtain ⟨p365, q365, ad365, e365, hx365_0, hx365_1, hx365_2, hx365_3, hx365_4, hx365_5, hx365_6⟩ := atb72_ HR0_0 HB x42_2
         obtain rfl : ad356 = ad365 := (by injection e365)
         try go_wp2_with (((with_reducible refine gate_dst (N := 10) rfl ?_); refine box_event ?hg (N := 10) ?hd (cs := #[.bool false, .int .i64 0, .int .i64 0, .int .i64 0, .int .i64 0, .int .i64 0, .int .i64 0]) (t := 72) ?hr ?_; (case hd => rfl); (case hg => rfl); (case hr => exact z19_); intro gb366 hg w56 hbox hb; replace HO_6 := Aside0.mk (Kd.R_below z71_ hb); replace HO_7 := Aside0.mk (Kd.R_below z90_ hb); have BK366 := Aside0.mk (hbox); have GW366 := Aside0.mk ((by rw [hg]; exact (below_size z30_) : w.heap.size ≤ gb366)); have GE366 := Aside0.mk ((by rw [hg]; exact (below_size z30_) : w.heap.size ≤ gb366)); replace HB := Aside0.mk (below_step z30_ hb); have NB354_366 := Aside0.mk ((by rw [hg]; exact Nat.ne_of_lt (blk_lt (g := gb354) (o := .cells #[.slice (some ad356) l0_0.length c0_0] 28 (0, 0)) z45_) : gb354 ≠ gb366)); have NB366_354 := Aside0.mk ((by rw [hg]; exact Nat.ne_of_gt (blk_lt (g := gb354) (o := .cells #[.slice (some ad356) l0_0.length c0_0] 28 (0, 0)) z45_) : gb366 ≠ gb354)); replace BK354 := Aside0.mk (blk_below (g := gb354) (o := .cells #[.slice (some ad356) l0_0.length c0_0] 28 (0, 0)) z45_ hb); have NB357_366 := Aside0.mk ((by rw [hg]; exact Nat.ne_of_lt (blk_lt (g := gb357) (o := .cells #[.bool ((rd_T72 l0_0 0).f0), .int .i64 ((rd_T72 l0_0 0).f1), .int .i64 ((rd_T72 l0_0 0).f2), .int .i64 ((rd_T72 l0_0 0).f3), .int .i64 ((rd_T72 l0_0 0).f4), .int .i64 ((rd_T72 l0_0 0).f5), .int .i64 ((rd_T72 l0_0 0).f6)] 72 (0, 0)) z49_) : gb357 ≠ gb366)); have NB366_357 := Aside0.mk ((by rw [hg]; exact Nat.ne_of_gt (blk_lt (g := gb357) (o := .cells #[.bool ((rd_T72 l0_0 0).f0), .int .i64 ((rd_T72 l0_0 0).f1), .int .i64 ((rd_T72 l0_0 0).f2), .int .i64 ((rd_T72 l0_0 0).f3), .int .i64 ((rd_T72 l0_0 0).f4), .int .i64 ((rd_T72 l0_0 0).f5), .int .i64 ((rd_T72 l0_0 0).f6)] 72 (0, 0)) z49_) : gb366 ≠ gb357)); replace BK357 := Aside0.mk (blk_below (g := gb357) (o := .cells #[.bool ((rd_T72 l0_0 0).f0), .int .i64 ((rd_T72 l0_0 0).f1), .int .i64 ((rd_T72 l0_0 0).f2), .int .i64 ((rd_T72 l0_0 0).f3), .int .i64 ((rd_T72 l0_0 0).f4), .int .i64 ((rd_T72 l0_0 0).f5), .int .i64 ((rd_T72 l0_0 0).f6)] 72 (0, 0)) z49_ hb); clear hb hbox hg; have hnb57 := NB366_354.out; have hnc57 := NB354_366.out; have hnb58 := NB366_357.out; have hnc58 := NB357_366.out; obtain ⟨hcz59_0, hcz59_1, hcz59_2, hcz59_3, hcz59_4, hcz59_5, hcz59_6, hfz59_0, hfz59_1, hfz59_2, hfz59_3, hfz59_4, hfz59_5, hfz59_6⟩ := bx7_ BK366.out))
         have n0_ : Aside0 (Kd.R k62 62 (((((((w56.setCell ⟨gb366, 0, none⟩ (.bool ((rd_T72 l0_0 x42_2).f0))).setCell ⟨gb366, 1, none⟩ (.int .i64 ((rd_T72 l0_0 x42_2).f1))).setCell ⟨gb366, 2, none⟩ (.int .i64 ((rd_T72 l0_0 x42_2).f2))).setCell ⟨gb366, 3, none⟩ (.int .i64 ((rd_T72 l0_0 x42_2).f3))).setCell ⟨gb366, 4, none⟩ (.int .i64 ((rd_T72 l0_0 x42_2).f4))).setCell ⟨gb366, 5, none⟩ (.int .i64 ((rd_T72 l0_0 x42_2).f5))).setCell ⟨gb366, 6, none⟩ (.int .i64 ((rd_T72 l0_0 x42_2).f6))) w.heap.size (fun _ => True) v359 t358) := ⟨z37_⟩
         have n1_ : Aside0 (Kd.R (Kd.int .i64) 3 (((((((w56.setCell ⟨gb366, 0, none⟩ (.bool ((rd_T72 l0_0 x42_2).f0))).setCell ⟨gb366, 1, none⟩ (.int .i64 ((rd_T72 l0_0 x42_2).f1))).setCell ⟨gb366, 2, none⟩ (.int .i64 ((rd_T72 l0_0 x42_2).f2))).setCell ⟨gb366, 3, none⟩ (.int .i64 ((rd_T72 l0_0 x42_2).f3))).setCell ⟨gb366, 4, none⟩ (.int .i64 ((rd_T72 l0_0 x42_2).f4))).setCell ⟨gb366, 5, none⟩ (.int .i64 ((rd_T72 l0_0 x42_2).f5))).setCell ⟨gb366, 6, none⟩ (.int .i64 ((rd_T72 l0_0 x42_2).f6))) w.heap.size (fun _ => True) v362 t361) := ⟨z38_⟩
         have n2_ : Aside0 ((((((((w56.setCell ⟨gb366, 0, none⟩ (.bool ((rd_T72 l0_0 x42_2).f0))).setCell ⟨gb366, 1, none⟩ (.int .i64 ((rd_T72 l0_0 x42_2).f1))).setCell ⟨gb366, 2, none⟩ (.int .i64 ((rd_T72 l0_0 x42_2).f2))).setCell ⟨gb366, 3, none⟩ (.int .i64 ((rd_T72 l0_0 x42_2).f3))).setCell ⟨gb366, 4, none⟩ (.int .i64 ((rd_T72 l0_0 x42_2).f4))).setCell ⟨gb366, 5, none⟩ (.int .i64 ((rd_T72 l0_0 x42_2).f5))).setCell ⟨gb366, 6, none⟩ (.int .i64 ((rd_T72 l0_0 x42_2).f6))).heap[gb354]? = some (.cells #[.slice (some ad356) l0_0.length c0_0] 28 (0, 0))) := ⟨z22_⟩
         have n3_ : Aside0 ((((((((w56.setCell ⟨gb366, 0, none⟩ (.bool ((rd_T72 l0_0 x42_2).f0))).setCell ⟨gb366, 1, none⟩ (.int .i64 ((rd_T72 l0_0 x42_2).f1))).setCell ⟨gb366, 2, none⟩ (.int .i64 ((rd_T72 l0_0 x42_2).f2))).setCell ⟨gb366, 3, none⟩ (.int .i64 ((rd_T72 l0_0 x42_2).f3))).setCell ⟨gb366, 4, none⟩ (.int .i64 ((rd_T72 l0_0 x42_2).f4))).setCell ⟨gb366, 5, none⟩ (.int .i64 ((rd_T72 l0_0 x42_2).f5))).setCell ⟨gb366, 6, none⟩ (.int .i64 ((rd_T72 l0_0 x42_2).f6))).heap[gb357]? = some (.cells #[.bool ((rd_T72 l0_0 0).f0), .int .i64 ((rd_T72 l0_0 0).f1), .int .i64 ((rd_T72 l0_0 0).f2), .int .i64 ((rd_T72 l0_0 0).f3), .int .i64 ((rd_T72 l0_0 0).f4), .int .i64 ((rd_T72 l0_0 0).f5), .int .i64 ((rd_T72 l0_0 0).f6)] 72 (0, 0))) := ⟨z23_⟩
         have n4_ : Aside0 ((((((((w56.setCell ⟨gb366, 0, none⟩ (.bool ((rd_T72 l0_0 x42_2).f0))).setCell ⟨gb366, 1, none⟩ (.int .i64 ((rd_T72 l0_0 x42_2).f1))).setCell ⟨gb366, 2, none⟩ (.int .i64 ((rd_T72 l0_0 x42_2).f2))).setCell ⟨gb366, 3, none⟩ (.int .i64 ((rd_T72 l0_0 x42_2).f3))).setCell ⟨gb366, 4, none⟩ (.int .i64 ((rd_T72 l0_0 x42_2).f4))).setCell ⟨gb366, 5, none⟩ (.int .i64 ((rd_T72 l0_0 x42_2).f5))).setCell ⟨gb366, 6, none⟩ (.int .i64 ((rd_T72 l0_0 x42_2).f6))).heap[gb366]? = some (.cells #[.bool ((rd_T72 l0_0 x42_2).f0), .int .i64 ((rd_T72 l0_0 x42_2).f1), .int .i64 ((rd_T72 l0_0 x42_2).f2), .int .i64 ((rd_T72 l0_0 x42_2).f3), .int .i64 ((rd_T72 l0_0 x42_2).f4), .int .i64 ((rd_T72 l0_0 x42_2).f5), .int .i64 ((rd_T72 l0_0 x42_2).f6)] 72 (0, 0))) := ⟨z3_⟩
         have n5_ : Aside0 (Below w.heap.size w (((((((w56.setCell ⟨gb366, 0, none⟩ (.bool ((rd_T72 l0_0 x42_2).f0))).setCell ⟨gb366, 1, none⟩ (.int .i64 ((rd_T72 l0_0 x42_2).f1))).setCell ⟨gb366, 2, none⟩ (.int .i64 ((rd_T72 l0_0 x42_2).f2))).setCell ⟨gb366, 3, none⟩ (.int .i64 ((rd_T72 l0_0 x42_2).f3))).setCell ⟨gb366, 4, none⟩ (.int .i64 ((rd_T72 l0_0 x42_2).f4))).setCell ⟨gb366, 5, none⟩ (.int .i64 ((rd_T72 l0_0 x42_2).f5))).setCell ⟨gb366, 6, none⟩ (.int .i64 ((rd_T72 l0_0 x42_2).f6)))) := ⟨z52_⟩
         (try clear HO_6)
         (try clear HO_7)
         (try clear BK354)
         (try clear BK357)
         (try clear BK366)
         (try clear HB)
         generalize (((((((w56.setCell ⟨gb366, 0, none⟩ (.bool ((rd_T72 l0_0 x42_2).f0))).setCell ⟨gb366, 1, none⟩ (.int .i64 ((rd_T72 l0_0 x42_2).f1))).setCell ⟨gb366, 2, none⟩ (.int .i64 ((rd_T72 l0_0 x42_2).f2))).setCell ⟨gb366, 3, none⟩ (.int .i64 ((rd_T72 l0_0 x42_2).f3))).setCell ⟨gb366, 4, none⟩ (.int .i64 ((rd_T72 l0_0 x42_2).f4))).setCell ⟨gb366, 5, none⟩ (.int .i64 ((rd_T72 l0_0 x42_2).f5))).setCell ⟨gb366, 6, none⟩ (.int .i64 ((rd_T72 l0_0 x42_2).f6))) = w60 at n0_ n1_ n2_ n3_ n4_ n5_ ⊢
         have HO_6 := n0_
         have HO_7 := n1_
         have BK354 := n2_
         have BK357 := n3_
         have BK366 := n4_
         have HB := n5_
         clear n0_ n1_ n2_ n3_ n4_ n5_
         have n0_ := Aside0.mk (Kd.R_drew HO_6.out)
         have n1_ := Aside0.mk (Kd.R_drew HO_7.out)
         have n2_ := Aside0.mk (blk_drew BK354.out)
         have n3_ := Aside0.mk (blk_drew BK357.out)
         have n4_ := Aside0.mk (blk_drew BK366.out)
         have n5_ := Aside0.mk (below_drew1 HB.out)
         clear HO_6
         clear HO_7
         clear BK354
         clear BK357
         clear BK366
         clear HB
         have HO_6 := n0_
         have HO_7 := n1_
         have BK354 := n2_
         have BK357 := n3_
         have BK366 := n4_
         have HB := n5_
         clear n0_ n1_ n2_ n3_ n4_ n5_
         refine start_ (n := 12) (S := fun w' => True) (ds := []) (fl_ 12 0) (by kernel_rfl) rfl (fl_zero _) trivial (fun hHeld => ?_); refine with_tabW impl_Dom_walked.tab10 impl_Dom_walked.bits10 (fun HT_ HW_ => ?_)
         generalize w60.drew = w61 at HO_6 HO_7 BK354 BK357 BK366 HB hHeld ⊢
         iterate 2 refine zp_ HT_ rfl rfl (by kernel_rfl) (fun _ _ _ h => h) (by rfl) ?_
         iterate 4 refine zu_ HT_ rfl rfl (by kernel_rfl) (fun _ _ _ h => h) (by rfl) ?_
         iterate 2 refine zp_ HT_ rfl rfl (by kernel_rfl) (fun _ _ _ h => h) (by rfl) ?_
         iterate 3 refine zu_ HT_ rfl rfl (by kernel_rfl) (fun _ _ _ h => h) (by rfl) ?_
         refine zp_ HT_ rfl rfl (by kernel_rfl) (fun _ _ _ h => h) (by rfl) ?_
         refine done_ (done_of HT_.out (by kernel_rfl)) ?_
         try go_wp2
         go_roundg k2
         case measure => have := HJ4.out; have := HK2.out; omega
         case rel => exact ⟨(false), (wrap64 (x42_2 + 1)), z17_, z17_, H', ⟨z303_⟩, ⟨z71_⟩, ⟨z90_⟩, ⟨z45_⟩, ⟨z49_⟩, ⟨z52_⟩⟩
       ·rw [if_neg c25] at H
        have c25b0 := decide_eq_false c25
        clear c25
        simp only [Option.some.injEq, Prod.mk.injEq] at H
        obtain ⟨rfl, rfl, rfl⟩ := H
        go_wp2
        go_ret3
        exact ⟨_, _, z4_, z71_, z90_, z30_⟩
 ·replace c3 := Bool.eq_false_iff.mpr c3
  subst c3
  replace H := iff_ H
  simp only [Option.some.injEq, Prod.mk.injEq] at H
  obtain ⟨rfl, rfl, rfl⟩ := H
  go_enter Try.func59, Try.ntmps59
  go_wp2_with (first | ((with_reducible refine gate_dst (N := 1) rfl ?_); refine box_event ?hg (N := 1) ?hd (cs := #[.slice A0_0 l0_0.length c0_0]) (t := 28) ?hr ?_; (case hd => rfl); (case hg => rfl); (case hr => exact z19_); intro gb354 hg w62 hbox hb; have BK354 := Aside0.mk (hbox); have GW354 := Aside0.mk ((by rw [hg]; exact (below_size z0_) : w.heap.size ≤ gb354)); have GE354 := Aside0.mk ((by rw [hg]; exact (below_size z0_) : w.heap.size ≤ gb354)); replace HB := Aside0.mk (below_step z0_ hb); clear hb hbox hg; have hcz63_0 : w62.cell? ⟨gb354, 0, none⟩ = some (.slice A0_0 l0_0.length c0_0) := (blk_cell BK354.out 0).trans rfl; have hfz63_0 := blk_frozen BK354.out 0) | ((with_reducible refine gate_callee (f := 81) rfl ?_); refine goesL_ (some 14) rfl rfl Try.func81 (by kernel_rfl) rfl #[.int .i64 (l0_0.length : Int), .int .i64 1, .int .i64 24] rfl z2_ ?_; (with_reducible refine (impl_within.calls (l0_0.length : Int) 1 24 false _ A2.out).mono ?_); rintro e w' ⟨rfl, ⟨nd, rfl⟩⟩; refine ⟨_, rfl, ?_⟩))
  go_ret3
  exact ⟨_, _, z4_, z145_, z145_, z113_⟩

end Go.Proofs.Ytdapeboajjidmab.PFnExactDomInsert
