/- Laid by a program of this session out of the kit's print for the law FnExactDomDelete: what it says of the machine is proved here, function by function; each contract under the conditions that it names. -/
import Derived.Test.YtdapeboajjidmabMFnExactDomDeletex0
import Derived.Test.YtdapeboajjidmabMFnExactDomDeletex9
import Derived.Test.YtdapeboajjidmabMFnExactDomDeletex11
namespace Go.Proofs.Ytdapeboajjidmab.PFnExactDomDelete
open Go.RowKit Go.Proofs.YtdapeboajjidmabW.PrintWords Go.Proofs.YtdapeboajjidmabW.PrintLast Go.Proofs.YtdapeboajjidmabW.PrintMore
attribute [local go_sem] max2_int min2_int max_two min_two max_three min_three max_four min_four   -- for this text's walks alone
set_option linter.unusedVariables false
set_option linter.unusedSimpArgs false

/-! ### impl_DomOk: function 13 -/
def impl_DomOk.f (k : Nat) (l0_0 : List (S72)) : Option (Bool) := (impl_Dom_walked.f k l0_0).bind fun bt334 => (some bt334.2.2)
set_option maxHeartbeats 8000000 in
set_option maxRecDepth 100000 in
theorem impl_DomOk.calls (k : Nat) (A0_0 : Option Addr) (c0_0 : Nat) (l0_0 : List (S72)) (r : Bool) (w : World) (hr0_0 : Kd.C k72 w A0_0 l0_0.length l0_0) (hc0_0 : l0_0.length ≤ c0_0) (h : impl_DomOk.f k l0_0 = some r) :
  Calls Try.prog 13 #[.agg #[.slice A0_0 l0_0.length c0_0]] w fun e w' => e = .returned (.bool r) ∧ Below w.heap.size w w' := by
 have hu28 := Try.underlying28
 have HR0_0 := Aside0.mk hr0_0
 have HC0_0 := Aside0.mk hc0_0
 clear hr0_0 hc0_0
 have HB := Aside0.mk (Below.refl w.heap.size w)
 have H : ((impl_Dom_walked.f k l0_0).bind fun bt334 => (some bt334.2.2)) = some r := h
 clear h
 replace H := Option.bind_eq_some_iff.mp H
 obtain ⟨⟨t334, t337, t340⟩, A20, H⟩ := H
 replace H : (some t340) = some r := H
 have A2 := Aside0.mk A20
 clear A20
 obtain rfl := Option.some.inj H
 go_enter Try.func13, Try.ntmps13
 go_wp2_with (first | ((with_reducible refine gate_dst (N := 1) rfl ?_); refine box_event ?hg (N := 1) ?hd (cs := #[.slice A0_0 l0_0.length c0_0]) (t := 28) ?hr ?_; (case hd => rfl); (case hg => rfl); (case hr => exact z25_); intro gb333 hg w3 hbox hb; have BK333 := Aside0.mk (hbox); have GW333 := Aside0.mk ((by rw [hg]; exact (below_size z0_) : w.heap.size ≤ gb333)); have GE333 := Aside0.mk ((by rw [hg]; exact (below_size z0_) : w.heap.size ≤ gb333)); replace HB := Aside0.mk (below_step z0_ hb); clear hb hbox hg; have hcz4_0 : w3.cell? ⟨gb333, 0, none⟩ = some (.slice A0_0 l0_0.length c0_0) := (blk_cell BK333.out 0).trans rfl; have hfz4_0 := blk_frozen BK333.out 0) | ((with_reducible refine gate_callee (f := 59) rfl ?_); refine goesL_ (some 8) rfl rfl Try.func59 (by kernel_rfl) rfl #[.agg #[.slice A0_0 l0_0.length c0_0]] rfl z1_ ?_; (with_reducible refine (impl_Dom_walked.calls k _ _ l0_0 t334 t337 t340 _ ?side1 ?side2 A2.out).mono ?_); (case side1 => exact z10_); (case side2 => exact HC0_0.out); rintro e w5 ⟨v335, v338, rfl, ho0, ho1, hb⟩; refine ⟨_, rfl, ?_⟩; have HO336 := Aside0.mk (Kd.R_lower ho0 (below_size z106_)); have HO339 := Aside0.mk (Kd.R_lower ho1 (below_size z106_)); replace BK333 := Aside0.mk (blk_below (g := gb333) (o := .cells #[.slice A0_0 l0_0.length c0_0] 28 (0, 0)) (by (with_reducible repeat (first | refine blk_drewN ?_ _ | refine blk_drew ?_ | refine blk_alloc ?_ _)); exact BK333.out) hb); replace HB := Aside0.mk (below_step z106_ hb); (try clear hb ho0 ho1)))
 go_ret
 exact ⟨z4_, z106_⟩

/-! ### impl_Dom_isLive: function 72 -/
def impl_Dom_isLive.f (k : Nat) (l0_0 : List (S72)) (a1 : Int) : Option (Bool) := (impl_DomOk.f k l0_0).bind fun t342 => (if t342 = true then ((impl_within.f a1 0 (wrap64 ((l0_0.length : Int) - 1))).bind fun t343 => (if t343 = true then (if 0 ≤ a1 then (if a1 < (l0_0.length : Int) then (some ((rd_T72 l0_0 a1).f0)) else (none)) else (none)) else (some false))) else (some false))
set_option maxHeartbeats 8000000 in
set_option maxRecDepth 100000 in
theorem impl_Dom_isLive.calls (k : Nat) (A0_0 : Option Addr) (c0_0 : Nat) (l0_0 : List (S72)) (a1 : Int) (r : Bool) (w : World) (hr0_0 : Kd.C k72 w A0_0 l0_0.length l0_0) (hc0_0 : l0_0.length ≤ c0_0) (h : impl_Dom_isLive.f k l0_0 a1 = some r) :
  Calls Try.prog 72 #[.agg #[.slice A0_0 l0_0.length c0_0], .int .i64 a1] w fun e w' => e = .returned (.bool r) ∧ Below w.heap.size w w' := by
 have hu28 := Try.underlying28
 have HR0_0 := Aside0.mk hr0_0
 have HC0_0 := Aside0.mk hc0_0
 clear hr0_0 hc0_0
 have HB := Aside0.mk (Below.refl w.heap.size w)
 have H : ((impl_DomOk.f k l0_0).bind fun t342 => (if t342 = true then ((impl_within.f a1 0 (wrap64 ((l0_0.length : Int) - 1))).bind fun t343 => (if t343 = true then (if 0 ≤ a1 then (if a1 < (l0_0.length : Int) then (some ((rd_T72 l0_0 a1).f0)) else (none)) else (none)) else (some false))) else (some false))) = some r := h
 clear h
 obtain ⟨t342, A3, H⟩ := bnd_ H
 by_cases c4 : t342 = true
 ·subst c4
  replace H := ift_ H
  obtain ⟨t343, A5, H⟩ := bnd_ H
  by_cases c6 : t343 = true
  ·subst c6
   replace H := ift_ H
   obtain ⟨c7b0, H⟩ := ifd_ H
   obtain ⟨c8b0, H⟩ := ifd_ H
   obtain rfl := Option.some.inj H
   go_enter Try.func72, Try.ntmps72
   go_wp2_with (first | ((with_reducible refine gate_dst (N := 2) rfl ?_); (try (refine gate_guard (by rfl) ?_; dsimp only)); refine box_event ?hg (N := 2) ?hd (cs := #[.slice A0_0 l0_0.length c0_0]) (t := 28) ?hr ?_; (case hd => rfl); (case hg => rfl); (case hr => exact z25_); intro gb341 hg w9 hbox hb; have BK341 := Aside0.mk (hbox); have GW341 := Aside0.mk ((by rw [hg]; exact (below_size z0_) : w.heap.size ≤ gb341)); have GE341 := Aside0.mk ((by rw [hg]; exact (below_size z0_) : w.heap.size ≤ gb341)); replace HB := Aside0.mk (below_step z0_ hb); clear hb hbox hg; have hcz10_0 : w9.cell? ⟨gb341, 0, none⟩ = some (.slice A0_0 l0_0.length c0_0) := (blk_cell BK341.out 0).trans rfl; have hfz10_0 := blk_frozen BK341.out 0) | ((with_reducible refine gate_callee (f := 13) rfl ?_); refine goesL_ (some 6) rfl rfl Try.func13 (by kernel_rfl) rfl #[.agg #[.slice A0_0 l0_0.length c0_0]] rfl z1_ ?_; (with_reducible refine (impl_DomOk.calls k _ _ l0_0 true _ ?side1 ?side2 A3.out).mono ?_); (case side1 => exact z10_); (case side2 => exact HC0_0.out); rintro e w11 ⟨rfl, hb⟩; refine ⟨_, rfl, ?_⟩; replace BK341 := Aside0.mk (blk_below (g := gb341) (o := .cells #[.slice A0_0 l0_0.length c0_0] 28 (0, 0)) z189_ hb); replace HB := Aside0.mk (below_step z83_ hb); (try clear hb); have hcz12_0 : w11.cell? ⟨gb341, 0, none⟩ = some (.slice A0_0 l0_0.length c0_0) := (blk_cell BK341.out 0).trans rfl; have hfz12_0 := blk_frozen BK341.out 0) | (go_at_call 81; (with_reducible refine (impl_within.calls a1 0 (wrap64 ((l0_0.length : Int) - 1)) true _ A5.out).mono ?_); rintro e w' ⟨rfl, ⟨nd, rfl⟩⟩; have p344 : 0 ≤ (a1 : Int) := odt_; have q344 : a1 < (l0_0.length : Int) := odt_; obtain ⟨ad344, e344, hx344_0, hx344_1, hx344_2, hx344_3, hx344_4, hx344_5, hx344_6⟩ := at_T72 HR0_0.out a1 p344 q344; cases e344; replace hx344_0 := (HB.out.cell (World.block_lt_of_cell? w _ hx344_0)).trans hx344_0; replace hx344_1 := (HB.out.cell (World.block_lt_of_cell? w _ hx344_1)).trans hx344_1; replace hx344_2 := (HB.out.cell (World.block_lt_of_cell? w _ hx344_2)).trans hx344_2; replace hx344_3 := (HB.out.cell (World.block_lt_of_cell? w _ hx344_3)).trans hx344_3; replace hx344_4 := (HB.out.cell (World.block_lt_of_cell? w _ hx344_4)).trans hx344_4; replace hx344_5 := (HB.out.cell (World.block_lt_of_cell? w _ hx344_5)).trans hx344_5; replace hx344_6 := (HB.out.cell (World.block_lt_of_cell? w _ hx344_6)).trans hx344_6; replace p344 := eq_true p344; replace q344 := eq_true q344))
   go_ret
   exact ⟨z4_, z83_⟩
  ·replace c6 := Bool.eq_false_iff.mpr c6
   subst c6
   replace H := iff_ H
   obtain rfl := Option.some.inj H
   go_enter Try.func72, Try.ntmps72
   go_wp2_with (first | ((with_reducible refine gate_dst (N := 2) rfl ?_); (try (refine gate_guard (by rfl) ?_; dsimp only)); refine box_event ?hg (N := 2) ?hd (cs := #[.slice A0_0 l0_0.length c0_0]) (t := 28) ?hr ?_; (case hd => rfl); (case hg => rfl); (case hr => exact z25_); intro gb341 hg w13 hbox hb; have BK341 := Aside0.mk (hbox); have GW341 := Aside0.mk ((by rw [hg]; exact (below_size z0_) : w.heap.size ≤ gb341)); have GE341 := Aside0.mk ((by rw [hg]; exact (below_size z0_) : w.heap.size ≤ gb341)); replace HB := Aside0.mk (below_step z0_ hb); clear hb hbox hg; have hcz14_0 : w13.cell? ⟨gb341, 0, none⟩ = some (.slice A0_0 l0_0.length c0_0) := (blk_cell BK341.out 0).trans rfl; have hfz14_0 := blk_frozen BK341.out 0) | ((with_reducible refine gate_callee (f := 13) rfl ?_); refine goesL_ (some 6) rfl rfl Try.func13 (by kernel_rfl) rfl #[.agg #[.slice A0_0 l0_0.length c0_0]] rfl z1_ ?_; (with_reducible refine (impl_DomOk.calls k _ _ l0_0 true _ ?side1 ?side2 A3.out).mono ?_); (case side1 => exact z10_); (case side2 => exact HC0_0.out); rintro e w15 ⟨rfl, hb⟩; refine ⟨_, rfl, ?_⟩; replace BK341 := Aside0.mk (blk_below (g := gb341) (o := .cells #[.slice A0_0 l0_0.length c0_0] 28 (0, 0)) z189_ hb); replace HB := Aside0.mk (below_step z83_ hb); (try clear hb); have hcz16_0 : w15.cell? ⟨gb341, 0, none⟩ = some (.slice A0_0 l0_0.length c0_0) := (blk_cell BK341.out 0).trans rfl; have hfz16_0 := blk_frozen BK341.out 0) | (go_at_call 81; (with_reducible refine (impl_within.calls a1 0 (wrap64 ((l0_0.length : Int) - 1)) false _ A5.out).mono ?_); rintro e w' ⟨rfl, ⟨nd, rfl⟩⟩))
   go_ret
   exact ⟨z4_, z83_⟩
 ·replace c4 := Bool.eq_false_iff.mpr c4
  subst c4
  replace H := iff_ H
  obtain rfl := Option.some.inj H
  go_enter Try.func72, Try.ntmps72
  go_wp2_with (first | ((with_reducible refine gate_dst (N := 2) rfl ?_); (try (refine gate_guard (by rfl) ?_; dsimp only)); refine box_event ?hg (N := 2) ?hd (cs := #[.slice A0_0 l0_0.length c0_0]) (t := 28) ?hr ?_; (case hd => rfl); (case hg => rfl); (case hr => exact z25_); intro gb341 hg w17 hbox hb; have BK341 := Aside0.mk (hbox); have GW341 := Aside0.mk ((by rw [hg]; exact (below_size z0_) : w.heap.size ≤ gb341)); have GE341 := Aside0.mk ((by rw [hg]; exact (below_size z0_) : w.heap.size ≤ gb341)); replace HB := Aside0.mk (below_step z0_ hb); clear hb hbox hg; have hcz18_0 : w17.cell? ⟨gb341, 0, none⟩ = some (.slice A0_0 l0_0.length c0_0) := (blk_cell BK341.out 0).trans rfl; have hfz18_0 := blk_frozen BK341.out 0) | ((with_reducible refine gate_callee (f := 13) rfl ?_); refine goesL_ (some 6) rfl rfl Try.func13 (by kernel_rfl) rfl #[.agg #[.slice A0_0 l0_0.length c0_0]] rfl z1_ ?_; (with_reducible refine (impl_DomOk.calls k _ _ l0_0 false _ ?side1 ?side2 A3.out).mono ?_); (case side1 => exact z10_); (case side2 => exact HC0_0.out); rintro e w19 ⟨rfl, hb⟩; refine ⟨_, rfl, ?_⟩; replace BK341 := Aside0.mk (blk_below (g := gb341) (o := .cells #[.slice A0_0 l0_0.length c0_0] 28 (0, 0)) z189_ hb); replace HB := Aside0.mk (below_step z83_ hb); (try clear hb)))
  go_ret
  exact ⟨z4_, z83_⟩

/-! ### impl_Dom_kids: function 73 -/
def impl_Dom_kids.l0 : Nat → List Int → Int → List (S72) → Option (List Int)
 | 0, _, _, _ => none
 | k + 1, x5, x6, x346000 => if x6 = (-1) then (some x5) else (if x5.length < 17592186044416 then (if 0 ≤ x6 then (if x6 < (x346000.length : Int) then (impl_Dom_kids.l0 k (x5 ++ [x6]) ((rd_T72 x346000 x6).f6) x346000) else (none)) else (none)) else (none))
def impl_Dom_kids.f (k : Nat) (l0_0 : List (S72)) (a1 : Int) : Option (List Int) := if 0 ≤ a1 then (if a1 < (l0_0.length : Int) then (impl_Dom_kids.l0 k (([] : List Int)) ((rd_T72 l0_0 a1).f3) l0_0) else (none)) else (none)
set_option maxHeartbeats 8000000 in
set_option maxRecDepth 100000 in
theorem impl_Dom_kids.calls (k : Nat) (A0_0 : Option Addr) (c0_0 : Nat) (l0_0 : List (S72)) (a1 : Int) (r : List Int) (w : World) (hr0_0 : Kd.C k72 w A0_0 l0_0.length l0_0) (hc0_0 : l0_0.length ≤ c0_0) (h : impl_Dom_kids.f k l0_0 a1 = some r) :
  Calls Try.prog 73 #[.agg #[.slice A0_0 l0_0.length c0_0], .int .i64 a1] w fun e w' => ∃ v0_ : Value, e = .returned (v0_) ∧ Kd.R (Kd.int .i64) 3 w' w.heap.size (fun _ => True) v0_ r ∧ Below w.heap.size w w' := by
 have hu28 := Try.underlying28
 have HR0_0 := Aside0.mk hr0_0
 have HC0_0 := Aside0.mk hc0_0
 clear hr0_0 hc0_0
 have HB := Aside0.mk (Below.refl w.heap.size w)
 have H : (if 0 ≤ a1 then (if a1 < (l0_0.length : Int) then (impl_Dom_kids.l0 k (([] : List Int)) ((rd_T72 l0_0 a1).f3) l0_0) else (none)) else (none)) = some r := h
 clear h
 obtain ⟨y346, hy346⟩ : ∃ y_ : List Int, y_ = (([] : List Int)) := ⟨_, rfl⟩
 replace H : (if 0 ≤ a1 then (if a1 < (l0_0.length : Int) then (impl_Dom_kids.l0 k y346 ((rd_T72 l0_0 a1).f3) l0_0) else (none)) else (none)) = some r := by first | (rw [hy346]; with_reducible exact H) | (have H2_ := (Option.bind_some _ _).symm.trans H; rw [hy346]; with_reducible exact H2_) | (have H2_ := (Option.bind_some _ _).symm.trans H; with_reducible exact H2_) | with_reducible exact H | (rw [hy346]; exact H) | exact H
 have Ny346 := Aside0.mk hy346
 clear hy346
 obtain ⟨c3b0, H⟩ := ifd_ H
 obtain ⟨c4b0, H⟩ := ifd_ H
 have H' := Aside0.mk H
 clear H
 go_enter Try.func73, Try.ntmps73
 go_wp2_with (first | ((with_reducible refine gate_dst (N := 2) rfl ?_); refine box_event ?hg (N := 2) ?hd (cs := #[.slice A0_0 l0_0.length c0_0]) (t := 28) ?hr ?_; (case hd => rfl); (case hg => rfl); (case hr => exact z25_); intro gb345 hg w5 hbox hb; have BK345 := Aside0.mk (hbox); have GW345 := Aside0.mk ((by rw [hg]; exact (below_size z0_) : w.heap.size ≤ gb345)); have GE345 := Aside0.mk ((by rw [hg]; exact (below_size z0_) : w.heap.size ≤ gb345)); replace HB := Aside0.mk (below_step z0_ hb); clear hb hbox hg) | ((with_reducible refine gate_dst (N := 7) rfl ?_); refine Kd.R_lit (Kd.int .i64) _ 3 ?hg (N := 7) ?hd (xs := ([] : List Int)) (inner := []) (ok := fun _ => True) (okp := fun _ => True) ?hr ?hp (fun _ hk => hk) trivial (Below.refl _ _) (Nat.le_refl _) (by simp) ?_; (case hd => rfl); (case hg => rfl); (case hr => exact z25_); (case hp => exact (Reps.none _ _)); intro v347 w6 ho7 hb hg_ hnew_; clear hg_ hnew_; (first | rw [← Ny346.out] at ho7 | (simp only [Int.reduceToNat] at ho7; rw [← Ny346.out] at ho7)); have HO348 := Aside0.mk (Kd.R_lower ho7 (below_size z70_)); replace BK345 := Aside0.mk (blk_below (g := gb345) (o := .cells #[.slice A0_0 l0_0.length c0_0] 28 (0, 0)) z167_ hb); replace HB := Aside0.mk (below_step z70_ hb); clear hb ho7; have hcz8_0 : w6.cell? ⟨gb345, 0, none⟩ = some (.slice A0_0 l0_0.length c0_0) := (blk_cell BK345.out 0).trans rfl; have hfz8_0 := blk_frozen BK345.out 0; have p349 : 0 ≤ (a1 : Int) := odt_; have q349 : a1 < (l0_0.length : Int) := odt_; obtain ⟨ad349, e349, hx349_0, hx349_1, hx349_2, hx349_3, hx349_4, hx349_5, hx349_6⟩ := at_T72 HR0_0.out a1 p349 q349; cases e349; replace hx349_0 := (HB.out.cell (World.block_lt_of_cell? w _ hx349_0)).trans hx349_0; replace hx349_1 := (HB.out.cell (World.block_lt_of_cell? w _ hx349_1)).trans hx349_1; replace hx349_2 := (HB.out.cell (World.block_lt_of_cell? w _ hx349_2)).trans hx349_2; replace hx349_3 := (HB.out.cell (World.block_lt_of_cell? w _ hx349_3)).trans hx349_3; replace hx349_4 := (HB.out.cell (World.block_lt_of_cell? w _ hx349_4)).trans hx349_4; replace hx349_5 := (HB.out.cell (World.block_lt_of_cell? w _ hx349_5)).trans hx349_5; replace hx349_6 := (HB.out.cell (World.block_lt_of_cell? w _ hx349_6)).trans hx349_6; replace p349 := eq_true p349; replace q349 := eq_true q349))
 go_loopg [5, 6] k (fun kq v5 v6 w' => ∃ (x5_1 : List Int) (x6_1 : Int), v6 = .int .i64 x6_1 ∧ Aside0 (impl_Dom_kids.l0 kq x5_1 x6_1 l0_0 = some r) ∧ Aside0 (kq ≤ k) ∧ Aside0 (Kd.R (Kd.int .i64) 3 w' w.heap.size (fun _ => True) v5 x5_1) ∧ Aside0 (w'.heap[gb345]? = some (.cells #[(.slice (some ad349) l0_0.length c0_0)] 28 (0, 0))) ∧ Aside0 (Below w.heap.size w w'))
 case atStart => exact ⟨(y346), ((rd_T72 l0_0 a1).f3), z12_, H', ⟨Nat.le_refl _⟩, ⟨by (with_reducible repeat (first | apply Kd.R_alloc | apply Kd.R_drewN | apply Kd.R_drew)); exact HO348.out⟩, ⟨z167_⟩, ⟨z70_⟩⟩
 case round =>
  clear H'
  try clear p2
  try clear c3
  try clear c3b0
  try clear p3
  try clear q3
  try clear hx3
  try clear c4
  try clear c4b0
  try clear c7
  try clear hcz8_0
  try clear hfz8_0
  try clear hx349_0
  try clear hx349_1
  try clear hx349_2
  try clear hx349_3
  try clear hx349_4
  try clear hx349_5
  try clear hx349_6
  try clear p349
  try clear q349
  obtain ⟨x5_1, x6_1, rfl, HA, HK1, HO_5, BK345, HB⟩ := hrel
  cases gk with
  | zero => exact absurd HA.out (by simp [impl_Dom_kids.l0])
  | succ k1 =>
   have H := HA.out
   clear HA
   simp only [impl_Dom_kids.l0] at H
   by_cases c9 : x6_1 = (-1)
   ·rw [if_pos c9] at H
    have c9b0 : (x6_1 == (-1)) = true := beq_iff_eq.mpr c9
    have c9b1 : (x6_1 != (-1)) = false := bne_eq_false_iff_eq.mpr c9
    clear c9
    obtain rfl := Option.some.inj H
    go_wp2
    go_ret
    exact ⟨_, z4_, z66_, z70_⟩
   ·rw [if_neg c9] at H
    have c9b0 : (x6_1 == (-1)) = false := beq_eq_false_iff_ne.mpr c9
    have c9b1 : (x6_1 != (-1)) = true := bne_iff_ne.mpr c9
    obtain ⟨c10, H⟩ := ifs_ H
    have LMc10 := Aside0.mk c10
    clear c10
    obtain ⟨y350, hy350⟩ : ∃ y_ : List Int, y_ = (x5_1 ++ [x6_1]) := ⟨_, rfl⟩
    replace H : (if 0 ≤ x6_1 then (if x6_1 < (l0_0.length : Int) then (impl_Dom_kids.l0 k1 y350 ((rd_T72 l0_0 x6_1).f6) l0_0) else (none)) else (none)) = some r := by first | (rw [hy350]; with_reducible exact H) | (have H2_ := (Option.bind_some _ _).symm.trans H; rw [hy350]; with_reducible exact H2_) | (have H2_ := (Option.bind_some _ _).symm.trans H; with_reducible exact H2_) | with_reducible exact H | (rw [hy350]; exact H) | exact H
    have Ny350 := Aside0.mk hy350
    clear hy350
    obtain ⟨c11b0, H⟩ := ifd_ H
    obtain ⟨c12b0, H⟩ := ifd_ H
    have H' := Aside0.mk H
    clear H
    go_wp2_with (first | ((with_reducible refine gate_builtin (b := .append) (xs := #[.tmp 22, .tmp 24]) rfl ?_); at_builtin; refine Kd.R_append (Kd.int .i64) (w0 := w) w.heap.size rfl (.tmp 22) (.tmp 24) 49 3 (.int .i64 0) 8 rfl Try.underlying49 info3 rfl (by decide) (by omega) u5 x5_1 x6_1 [.int .i64 x6_1] (fun _ => True) (fun _ => False) rfl rfl ?aP (fun _ hk => hk.elim) ?aF ?aO ?aB ?aS ?aL ?_; (case aP => exact rfl); (case aB => exact z70_); (case aF => exact z259_); (case aO => exact z236_); (case aS => exact (below_size z70_)); (case aL => have := LMc10.out; omega); intro v351 w13 ho hb hg hat; rw [← Ny350.out] at ho; replace BK345 := Aside0.mk (blk_grown (g := gb345) (o := .cells #[.slice (some ad349) l0_0.length c0_0] 28 (0, 0)) z167_ hg (Kd.R_ne HO_5.out BK345.out (by decide))); replace HB := Aside0.mk (hb); have HO352 := Aside0.mk (ho); clear HO_5; clear ho hb hg hat; have hcz14_0 : w13.cell? ⟨gb345, 0, none⟩ = some (.slice (some ad349) l0_0.length c0_0) := (blk_cell BK345.out 0).trans rfl; have hfz14_0 := blk_frozen BK345.out 0; have p353 : 0 ≤ (x6_1 : Int) := odt_; have q353 : x6_1 < (l0_0.length : Int) := odt_; obtain ⟨ad353, e353, hx353_0, hx353_1, hx353_2, hx353_3, hx353_4, hx353_5, hx353_6⟩ := at_T72 HR0_0.out x6_1 p353 q353; obtain rfl : ad349 = ad353 := (by injection e353); replace hx353_0 := (HB.out.cell (World.block_lt_of_cell? w _ hx353_0)).trans hx353_0; replace hx353_1 := (HB.out.cell (World.block_lt_of_cell? w _ hx353_1)).trans hx353_1; replace hx353_2 := (HB.out.cell (World.block_lt_of_cell? w _ hx353_2)).trans hx353_2; replace hx353_3 := (HB.out.cell (World.block_lt_of_cell? w _ hx353_3)).trans hx353_3; replace hx353_4 := (HB.out.cell (World.block_lt_of_cell? w _ hx353_4)).trans hx353_4; replace hx353_5 := (HB.out.cell (World.block_lt_of_cell? w _ hx353_5)).trans hx353_5; replace hx353_6 := (HB.out.cell (World.block_lt_of_cell? w _ hx353_6)).trans hx353_6; replace p353 := eq_true p353; replace q353 := eq_true q353))
    go_roundg k1
    case measure => have := HK1.out; omega
    case rel => exact ⟨(y350), ((rd_T72 l0_0 x6_1).f6), z12_, H', ⟨z232_⟩, ⟨by (with_reducible repeat (first | apply Kd.R_alloc | apply Kd.R_drewN | apply Kd.R_drew)); exact HO352.out⟩, ⟨z167_⟩, ⟨z70_⟩⟩

end Go.Proofs.Ytdapeboajjidmab.PFnExactDomDelete
