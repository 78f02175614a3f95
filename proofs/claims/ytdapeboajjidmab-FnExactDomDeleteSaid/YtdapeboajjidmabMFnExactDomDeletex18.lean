/- Laid by a program of this session out of the kit's print for the law FnExactDomDelete: what it says of the machine is proved here, function by function; each contract under the conditions that it names. -/
import Derived.Test.YtdapeboajjidmabMFnExactDomDeletex0
import Derived.Test.YtdapeboajjidmabMFnExactDomDeletex2
import Derived.Test.YtdapeboajjidmabMFnExactDomDeletex8
import Derived.Test.YtdapeboajjidmabMFnExactDomDeletex15
import Derived.Test.YtdapeboajjidmabMFnExactDomDeletex16
import Derived.Test.YtdapeboajjidmabMFnExactDomDeletex17
namespace Go.Proofs.Ytdapeboajjidmab.PFnExactDomDelete
open Go.RowKit Go.Proofs.YtdapeboajjidmabW.PrintWords Go.Proofs.YtdapeboajjidmabW.PrintLast Go.Proofs.YtdapeboajjidmabW.PrintMore
attribute [local go_sem] max2_int min2_int max_two min_two max_three min_three max_four min_four   -- for this text's walks alone
set_option linter.unusedVariables false
set_option linter.unusedSimpArgs false

/-! ### laws_FnExactDomDelete: function 4 -/
mutual
def laws_FnExactDomDelete.j0 : Nat → Int → Bool → Bool → Bool → List (S135) → List (S72) → List (S72) → List (S72) → Option (Bool)
 | 0, _, _, _, _, _, _, _, _ => none
 | k + 1, x1, x7, x10, x44, x460000, x469000, x473000, x478000 => if x44 = true then (some false) else ((laws_toDom.f k x460000).bind fun t479 => ((laws_eqDom.f k x473000 t479).bind fun t482 => (if t482 = true then ((laws_markDom.f k x473000 1).bind fun bt483 => (if bt483.1 < 0 then (laws_FnExactDomDelete.j1 k x1 x7 true x460000 x469000 x478000) else ((laws_eqDom.f k x478000 x469000).bind fun t485 => (if t485 = true then (laws_FnExactDomDelete.j1 k x1 x7 (x10 != x7) x460000 x469000 x478000) else (laws_FnExactDomDelete.j1 k x1 x7 true x460000 x469000 x478000))))) else (some false))))
def laws_FnExactDomDelete.j1 : Nat → Int → Bool → Bool → List (S135) → List (S72) → List (S72) → Option (Bool)
 | 0, _, _, _, _, _, _ => none
 | k + 1, x1, x7, x65, x460000, x469000, x478000 => if x65 = true then (some false) else ((laws_markDom.f k x478000 1).bind fun bt486 => ((laws_heldDom.f k bt486.2 1).bind fun t488 => (if t488 < 0 then (some false) else (if t488 = bt486.1 then ((laws_toDom.f k x460000).bind fun t489 => ((impl_DomDelete.f k t489 x1).bind fun bt492 => ((laws_eqDom.f k bt492.1 x469000).bind fun t497 => (if t497 = true then (laws_FnExactDomDelete.j2 k bt486.1 (bt492.2 != x7) bt486.2) else (laws_FnExactDomDelete.j2 k bt486.1 true bt486.2))))) else (some false)))))
def laws_FnExactDomDelete.j2 : Nat → Int → Bool → List (S72) → Option (Bool)
 | 0, _, _, _ => none
 | k + 1, x12, x92, x478000 => if x92 = true then (some false) else ((laws_heldDom.f k x478000 1).bind fun t498 => (if t498 < 0 then (some false) else (if t498 = x12 then (some true) else (some false))))
end
def laws_FnExactDomDelete.f (k : Nat) (l0_0 : List (S135)) (a1 : Int) : Option (Bool) := (laws_szDom.f l0_0 1048576).bind fun t460 => (if t460 < 0 then (some true) else ((laws_toDom.f k l0_0).bind fun t461 => ((spec_DomDelete.f k t461 a1).bind fun bt464 => ((laws_toDom.f k l0_0).bind fun t469 => ((impl_DomDelete.f k t469 a1).bind fun bt473 => ((laws_eqDom.f k bt473.1 bt464.1).bind fun t478 => (if t478 = true then (laws_FnExactDomDelete.j0 k a1 bt464.2 bt473.2 (bt473.2 != bt464.2) l0_0 bt464.1 t469 bt473.1) else (laws_FnExactDomDelete.j0 k a1 bt464.2 bt473.2 true l0_0 bt464.1 t469 bt473.1))))))))
set_option maxHeartbeats 8000000 in
set_option maxRecDepth 100000 in
theorem laws_FnExactDomDelete.calls (k : Nat) (A0_0 : Option Addr) (c0_0 : Nat) (l0_0 : List (S135)) (a1 : Int) (r : Bool) (w : World) (hr0_0 : Kd.C k135 w A0_0 l0_0.length l0_0) (hc0_0 : l0_0.length ≤ c0_0) (h : laws_FnExactDomDelete.f k l0_0 a1 = some r) :
  Calls Try.prog 4 #[.agg #[.slice A0_0 l0_0.length c0_0], .int .i64 a1] w fun e w' => e = .returned (.bool r) ∧ Below w.heap.size w w' := by
 have hu39 := Try.underlying39
 have hu28 := Try.underlying28
 have HR0_0 := Aside0.mk hr0_0
 have HC0_0 := Aside0.mk hc0_0
 clear hr0_0 hc0_0
 have HB := Aside0.mk (Below.refl w.heap.size w)
 have H : ((laws_szDom.f l0_0 1048576).bind fun t460 => (if t460 < 0 then (some true) else ((laws_toDom.f k l0_0).bind fun t461 => ((spec_DomDelete.f k t461 a1).bind fun bt464 => ((laws_toDom.f k l0_0).bind fun t469 => ((impl_DomDelete.f k t469 a1).bind fun bt473 => ((laws_eqDom.f k bt473.1 bt464.1).bind fun t478 => (if t478 = true then (laws_FnExactDomDelete.j0 k a1 bt464.2 bt473.2 (bt473.2 != bt464.2) l0_0 bt464.1 t469 bt473.1) else (laws_FnExactDomDelete.j0 k a1 bt464.2 bt473.2 true l0_0 bt464.1 t469 bt473.1))))))))) = some r := h
 clear h
 obtain ⟨t460, A3, H⟩ := bnd_ H
 by_cases c4 : t460 < 0
 ·rw [if_pos c4] at H
  have c4b0 : decide (t460 < 0) = true := decide_eq_true c4
  clear c4
  obtain rfl := Option.some.inj H
  go_enter Try.func4, Try.ntmps4
  go_wp2_with (first | ((with_reducible refine gate_dst (N := 2) rfl ?_); refine box_event ?hg (N := 2) ?hd (cs := #[.slice A0_0 l0_0.length c0_0]) (t := 39) ?hr ?_; (case hd => rfl); (case hg => rfl); (case hr => exact z25_); intro gb459 hg w5 hbox hb; have BK459 := Aside0.mk (hbox); have GW459 := Aside0.mk ((by rw [hg]; exact (below_size z0_) : w.heap.size ≤ gb459)); have GE459 := Aside0.mk ((by rw [hg]; exact (below_size z0_) : w.heap.size ≤ gb459)); replace HB := Aside0.mk (below_step z0_ hb); clear hb hbox hg; have hcz6_0 : w5.cell? ⟨gb459, 0, none⟩ = some (.slice A0_0 l0_0.length c0_0) := (blk_cell BK459.out 0).trans rfl; have hfz6_0 := blk_frozen BK459.out 0) | ((with_reducible refine gate_callee (f := 21) rfl ?_); refine goesL_ (some 18) rfl rfl Try.func21 (by kernel_rfl) rfl #[.agg #[.slice A0_0 l0_0.length c0_0], .int .i64 1048576] rfl z1_ ?_; (with_reducible refine (laws_szDom.calls _ _ l0_0 1048576 t460 _ ?side1 ?side2 A3.out).mono ?_); (case side1 => exact z10_); (case side2 => exact HC0_0.out); rintro e w7 ⟨rfl, hb⟩; refine ⟨_, rfl, ?_⟩; replace BK459 := Aside0.mk (blk_below (g := gb459) (o := .cells #[.slice A0_0 l0_0.length c0_0] 39 (0, 0)) z15_ hb); replace HB := Aside0.mk (below_step z51_ hb); (try clear hb)))
  go_ret
  exact ⟨z4_, z51_⟩
 ·rw [if_neg c4] at H
  have c4b0 : decide (t460 < 0) = false := decide_eq_false c4
  clear c4
  obtain ⟨t461, A8, H⟩ := bnd_ H
  replace H := Option.bind_eq_some_iff.mp H
  obtain ⟨⟨t464, t467⟩, A90, H⟩ := H
  replace H : ((laws_toDom.f k l0_0).bind fun t469 => ((impl_DomDelete.f k t469 a1).bind fun bt473 => ((laws_eqDom.f k bt473.1 t464).bind fun t478 => (if t478 = true then (laws_FnExactDomDelete.j0 k a1 t467 bt473.2 (bt473.2 != t467) l0_0 t464 t469 bt473.1) else (laws_FnExactDomDelete.j0 k a1 t467 bt473.2 true l0_0 t464 t469 bt473.1))))) = some r := H
  have A9 := Aside0.mk A90
  clear A90
  obtain ⟨t469, A10, H⟩ := bnd_ H
  replace H := Option.bind_eq_some_iff.mp H
  obtain ⟨⟨t473, t476⟩, A110, H⟩ := H
  replace H : ((laws_eqDom.f k t473 t464).bind fun t478 => (if t478 = true then (laws_FnExactDomDelete.j0 k a1 t467 t476 (t476 != t467) l0_0 t464 t469 t473) else (laws_FnExactDomDelete.j0 k a1 t467 t476 true l0_0 t464 t469 t473))) = some r := H
  have A11 := Aside0.mk A110
  clear A110
  have HC12 := Aside0.mk H
  clear H
  go_enter Try.func4, Try.ntmps4
  go_upto_region 8 with (first | ((with_reducible refine gate_dst (N := 2) rfl ?_); refine box_event ?hg (N := 2) ?hd (cs := #[.slice A0_0 l0_0.length c0_0]) (t := 39) ?hr ?_; (case hd => rfl); (case hg => rfl); (case hr => exact z25_); intro gb459 hg w13 hbox hb; have BK459 := Aside0.mk (hbox); have GW459 := Aside0.mk ((by rw [hg]; exact (below_size z0_) : w.heap.size ≤ gb459)); have GE459 := Aside0.mk ((by rw [hg]; exact (below_size z0_) : w.heap.size ≤ gb459)); replace HB := Aside0.mk (below_step z0_ hb); clear hb hbox hg; have hcz14_0 : w13.cell? ⟨gb459, 0, none⟩ = some (.slice A0_0 l0_0.length c0_0) := (blk_cell BK459.out 0).trans rfl; have hfz14_0 := blk_frozen BK459.out 0) | ((with_reducible refine gate_callee (f := 21) rfl ?_); refine goesL_ (some 18) rfl rfl Try.func21 (by kernel_rfl) rfl #[.agg #[.slice A0_0 l0_0.length c0_0], .int .i64 1048576] rfl z1_ ?_; (with_reducible refine (laws_szDom.calls _ _ l0_0 1048576 t460 _ ?side1 ?side2 A3.out).mono ?_); (case side1 => exact z10_); (case side2 => exact HC0_0.out); rintro e w15 ⟨rfl, hb⟩; refine ⟨_, rfl, ?_⟩; replace BK459 := Aside0.mk (blk_below (g := gb459) (o := .cells #[.slice A0_0 l0_0.length c0_0] 39 (0, 0)) z15_ hb); replace HB := Aside0.mk (below_step z51_ hb); (try clear hb); have hcz16_0 : w15.cell? ⟨gb459, 0, none⟩ = some (.slice A0_0 l0_0.length c0_0) := (blk_cell BK459.out 0).trans rfl; have hfz16_0 := blk_frozen BK459.out 0) | ((with_reducible refine gate_callee (f := 23) rfl ?_); refine goesL_ (some 23) rfl rfl Try.func23 (by kernel_rfl) rfl #[.agg #[.slice A0_0 l0_0.length c0_0]] rfl z1_ ?_; (with_reducible refine (laws_toDom.calls k _ _ l0_0 t461 _ ?side1 ?side2 A8.out).mono ?_); (case side1 => exact z10_); (case side2 => exact HC0_0.out); rintro e w17 ⟨v462, rfl, ho0, hb⟩; refine ⟨_, rfl, ?_⟩; have HO463 := Aside0.mk (Kd.R_lower ho0 (below_size z51_)); replace BK459 := Aside0.mk (blk_below (g := gb459) (o := .cells #[.slice A0_0 l0_0.length c0_0] 39 (0, 0)) z15_ hb); replace HB := Aside0.mk (below_step z51_ hb); (try clear hb ho0); obtain ⟨Ao18, co18, eo18⟩ := Kd.R_slice HO463.out; subst eo18) | ((with_reducible refine gate_callee (f := 22) rfl ?_); refine goesL_ (some 25) rfl rfl Try.func22 (by kernel_rfl) rfl #[.agg #[.slice Ao18 t461.length co18], .int .i64 a1] rfl z1_ ?_; (with_reducible refine (spec_DomDelete.calls k _ _ t461 a1 t464 t467 _ ?side1 ?side2 A9.out).mono ?_); (case side1 => repeat (first | exact (Kd.R_reads' HO463.out).2.2 | (with_reducible refine Kd.C_alloc ?_ _) | (with_reducible refine Kd.C_drewN ?_ _) | (with_reducible refine Kd.C_drew ?_))); (case side2 => exact (Kd.R_reads' HO463.out).2.1); rintro e w19 ⟨v465, rfl, ho0, hb⟩; refine ⟨_, rfl, ?_⟩; have HO466 := Aside0.mk (Kd.R_lower (Kd.R_new' ho0 (Kd.R_lt z129_)) (below_size z51_)); replace HO463 := Aside0.mk (Kd.R_elder' z129_ (Kd.R_base ho0) hb); replace BK459 := Aside0.mk (blk_below (g := gb459) (o := .cells #[.slice A0_0 l0_0.length c0_0] 39 (0, 0)) z15_ hb); replace HB := Aside0.mk (below_step z51_ hb); (try clear hb ho0)) | ((with_reducible refine gate_dst (N := 6) rfl ?_); refine box_event ?hg (N := 6) ?hd (cs := #[.slice none 0 0]) (t := 28) ?hr ?_; (case hd => rfl); (case hg => rfl); (case hr => exact z25_); intro gb468 hg w20 hbox hb; replace HO463 := Aside0.mk (Kd.R_below z129_ hb); replace HO466 := Aside0.mk (Kd.R_below z215_ hb); have BK468 := Aside0.mk (hbox); have GW468 := Aside0.mk ((by rw [hg]; exact (below_size z51_) : w.heap.size ≤ gb468)); have GE468 := Aside0.mk ((by rw [hg]; exact (below_size z51_) : w.heap.size ≤ gb468)); replace HB := Aside0.mk (below_step z51_ hb); have NB459_468 := Aside0.mk ((by rw [hg]; exact Nat.ne_of_lt (blk_lt (g := gb459) (o := .cells #[.slice A0_0 l0_0.length c0_0] 39 (0, 0)) z15_) : gb459 ≠ gb468)); have NB468_459 := Aside0.mk ((by rw [hg]; exact Nat.ne_of_gt (blk_lt (g := gb459) (o := .cells #[.slice A0_0 l0_0.length c0_0] 39 (0, 0)) z15_) : gb468 ≠ gb459)); replace BK459 := Aside0.mk (blk_below (g := gb459) (o := .cells #[.slice A0_0 l0_0.length c0_0] 39 (0, 0)) z15_ hb); clear hb hbox hg; obtain ⟨Ao21, co21, eo21⟩ := Kd.R_slice HO466.out; subst eo21; have hnb22 := NB468_459.out; have hnc22 := NB459_468.out; have hcz23_0 : w20.cell? ⟨gb468, 0, none⟩ = some (.slice none 0 0) := (blk_cell BK468.out 0).trans rfl; have hfz23_0 := blk_frozen BK468.out 0; have hcz24_0 : w20.cell? ⟨gb459, 0, none⟩ = some (.slice A0_0 l0_0.length c0_0) := (blk_cell BK459.out 0).trans rfl; have hfz24_0 := blk_frozen BK459.out 0) | ((with_reducible refine gate_callee (f := 23) rfl ?_); refine goesL_ (some 29) rfl rfl Try.func23 (by kernel_rfl) rfl #[.agg #[.slice A0_0 l0_0.length c0_0]] rfl z1_ ?_; (with_reducible refine (laws_toDom.calls k _ _ l0_0 t469 _ ?side1 ?side2 A10.out).mono ?_); (case side1 => exact Kd.C_below HR0_0.out z67_); (case side2 => exact HC0_0.out); rintro e w25 ⟨v470, rfl, ho0, hb⟩; refine ⟨_, rfl, ?_⟩; have HO471 := Aside0.mk (Kd.R_lower (Kd.R_new' (Kd.R_new' ho0 (Kd.R_lt z135_)) (Kd.R_lt z136_)) (below_size z67_)); replace HO463 := Aside0.mk (Kd.R_elder' z135_ (Kd.R_base ho0) hb); replace HO466 := Aside0.mk (Kd.R_elder' z136_ (Kd.R_base ho0) hb); replace BK459 := Aside0.mk (blk_below (g := gb459) (o := .cells #[.slice A0_0 l0_0.length c0_0] 39 (0, 0)) (by (with_reducible repeat (first | refine blk_drewN ?_ _ | refine blk_drew ?_ | refine blk_alloc ?_ _)); refine blk_far ?_ NB459_468.out _; (with_reducible repeat (first | refine blk_drewN ?_ _ | refine blk_drew ?_ | refine blk_alloc ?_ _)); exact BK459.out) hb); replace BK468 := Aside0.mk (blk_below (g := gb468) (o := .cells #[.slice Ao21 t464.length co21] 28 (0, 0)) (by (with_reducible repeat (first | refine blk_drewN ?_ _ | refine blk_drew ?_ | refine blk_alloc ?_ _)); refine blk_put (cs := #[.slice none 0 0]) ?_ 0 _ rfl; (with_reducible repeat (first | refine blk_drewN ?_ _ | refine blk_drew ?_ | refine blk_alloc ?_ _)); exact BK468.out) hb); replace HB := Aside0.mk (below_step z67_ hb); (try clear hb ho0)) | ((with_reducible refine gate_dst (N := 8) rfl ?_); refine box_event ?hg (N := 8) ?hd (cs := #[.slice none 0 0]) (t := 28) ?hr ?_; (case hd => rfl); (case hg => rfl); (case hr => exact z25_); intro gb472 hg w26 hbox hb; replace HO463 := Aside0.mk (Kd.R_below z129_ hb); replace HO466 := Aside0.mk (Kd.R_below z215_ hb); replace HO471 := Aside0.mk (Kd.R_below z246_ hb); have BK472 := Aside0.mk (hbox); have GW472 := Aside0.mk ((by rw [hg]; exact (below_size z67_) : w.heap.size ≤ gb472)); have GE472 := Aside0.mk ((by rw [hg]; exact (below_size z67_) : w.heap.size ≤ gb472)); replace HB := Aside0.mk (below_step z67_ hb); have NB459_472 := Aside0.mk ((by rw [hg]; exact Nat.ne_of_lt (blk_lt (g := gb459) (o := .cells #[.slice A0_0 l0_0.length c0_0] 39 (0, 0)) z15_) : gb459 ≠ gb472)); have NB472_459 := Aside0.mk ((by rw [hg]; exact Nat.ne_of_gt (blk_lt (g := gb459) (o := .cells #[.slice A0_0 l0_0.length c0_0] 39 (0, 0)) z15_) : gb472 ≠ gb459)); replace BK459 := Aside0.mk (blk_below (g := gb459) (o := .cells #[.slice A0_0 l0_0.length c0_0] 39 (0, 0)) z15_ hb); have NB468_472 := Aside0.mk ((by rw [hg]; exact Nat.ne_of_lt (blk_lt (g := gb468) (o := .cells #[.slice Ao21 t464.length co21] 28 (0, 0)) z24_) : gb468 ≠ gb472)); have NB472_468 := Aside0.mk ((by rw [hg]; exact Nat.ne_of_gt (blk_lt (g := gb468) (o := .cells #[.slice Ao21 t464.length co21] 28 (0, 0)) z24_) : gb472 ≠ gb468)); replace BK468 := Aside0.mk (blk_below (g := gb468) (o := .cells #[.slice Ao21 t464.length co21] 28 (0, 0)) z24_ hb); clear hb hbox hg; obtain ⟨Ao27, co27, eo27⟩ := Kd.R_slice HO471.out; subst eo27; have hnb28 := NB472_459.out; have hnc28 := NB459_472.out; have hnb29 := NB472_468.out; have hnc29 := NB468_472.out; have hcz30_0 : w26.cell? ⟨gb472, 0, none⟩ = some (.slice none 0 0) := (blk_cell BK472.out 0).trans rfl; have hfz30_0 := blk_frozen BK472.out 0) | ((with_reducible refine gate_callee (f := 24) rfl ?_); refine goesL_ (some 33) rfl rfl Try.func24 (by kernel_rfl) rfl #[.agg #[.slice Ao27 t469.length co27], .int .i64 a1] rfl z1_ ?_; (with_reducible refine (impl_DomDelete.calls k _ _ t469 a1 t473 t476 _ ?side1 ?side2 A11.out).mono ?_); (case side1 => refine (Kd.R_reads' (e := 72) (base := w.heap.size) (ok := fun k_ => ((True ∧ some k_ ≠ (.slice Ao18 t461.length co18 : Value).ownBlock) ∧ some k_ ≠ (.slice Ao21 t464.length co21 : Value).ownBlock)) (n := t469.length) (c := co27) ?_).2.2; exact z96_); (case side2 => exact (Kd.R_reads' HO471.out).2.1); rintro e w31 ⟨v474, rfl, ho0, hb⟩; refine ⟨_, rfl, ?_⟩; have HO475 := Aside0.mk (Kd.R_lower (Kd.R_new' (Kd.R_new' (Kd.R_new' ho0 (Kd.R_lt z137_)) (Kd.R_lt z138_)) (Kd.R_lt z96_)) (below_size z71_)); replace HO463 := Aside0.mk (Kd.R_elder' z137_ (Kd.R_base ho0) hb); replace HO466 := Aside0.mk (Kd.R_elder' z138_ (Kd.R_base ho0) hb); replace HO471 := Aside0.mk (Kd.R_elder' z96_ (Kd.R_base ho0) hb); replace BK459 := Aside0.mk (blk_below (g := gb459) (o := .cells #[.slice A0_0 l0_0.length c0_0] 39 (0, 0)) (by (with_reducible repeat (first | refine blk_drewN ?_ _ | refine blk_drew ?_ | refine blk_alloc ?_ _)); refine blk_far ?_ NB459_472.out _; (with_reducible repeat (first | refine blk_drewN ?_ _ | refine blk_drew ?_ | refine blk_alloc ?_ _)); exact BK459.out) hb); replace BK468 := Aside0.mk (blk_below (g := gb468) (o := .cells #[.slice Ao21 t464.length co21] 28 (0, 0)) (by (with_reducible repeat (first | refine blk_drewN ?_ _ | refine blk_drew ?_ | refine blk_alloc ?_ _)); refine blk_far ?_ NB468_472.out _; (with_reducible repeat (first | refine blk_drewN ?_ _ | refine blk_drew ?_ | refine blk_alloc ?_ _)); exact BK468.out) hb); replace BK472 := Aside0.mk (blk_below (g := gb472) (o := .cells #[.slice Ao27 t469.length co27] 28 (0, 0)) (by (with_reducible repeat (first | refine blk_drewN ?_ _ | refine blk_drew ?_ | refine blk_alloc ?_ _)); refine blk_put (cs := #[.slice none 0 0]) ?_ 0 _ rfl; (with_reducible repeat (first | refine blk_drewN ?_ _ | refine blk_drew ?_ | refine blk_alloc ?_ _)); exact BK472.out) hb); replace HB := Aside0.mk (below_step z71_ hb); (try clear hb ho0)) | ((with_reducible refine gate_dst (N := 9) rfl ?_); refine box_event ?hg (N := 9) ?hd (cs := #[.slice none 0 0]) (t := 28) ?hr ?_; (case hd => rfl); (case hg => rfl); (case hr => exact z25_); intro gb477 hg w32 hbox hb; replace HO463 := Aside0.mk (Kd.R_below z129_ hb); replace HO466 := Aside0.mk (Kd.R_below z215_ hb); replace HO471 := Aside0.mk (Kd.R_below z246_ hb); replace HO475 := Aside0.mk (Kd.R_below (by (with_reducible repeat (first | apply Kd.R_alloc | apply Kd.R_drewN | apply Kd.R_drew)); exact HO475.out) hb); have BK477 := Aside0.mk (hbox); have GW477 := Aside0.mk ((by rw [hg]; exact (below_size z71_) : w.heap.size ≤ gb477)); have GE477 := Aside0.mk ((by rw [hg]; exact (below_size z71_) : w.heap.size ≤ gb477)); replace HB := Aside0.mk (below_step z71_ hb); have NB459_477 := Aside0.mk ((by rw [hg]; exact Nat.ne_of_lt (blk_lt (g := gb459) (o := .cells #[.slice A0_0 l0_0.length c0_0] 39 (0, 0)) z15_) : gb459 ≠ gb477)); have NB477_459 := Aside0.mk ((by rw [hg]; exact Nat.ne_of_gt (blk_lt (g := gb459) (o := .cells #[.slice A0_0 l0_0.length c0_0] 39 (0, 0)) z15_) : gb477 ≠ gb459)); replace BK459 := Aside0.mk (blk_below (g := gb459) (o := .cells #[.slice A0_0 l0_0.length c0_0] 39 (0, 0)) z15_ hb); have NB468_477 := Aside0.mk ((by rw [hg]; exact Nat.ne_of_lt (blk_lt (g := gb468) (o := .cells #[.slice Ao21 t464.length co21] 28 (0, 0)) z24_) : gb468 ≠ gb477)); have NB477_468 := Aside0.mk ((by rw [hg]; exact Nat.ne_of_gt (blk_lt (g := gb468) (o := .cells #[.slice Ao21 t464.length co21] 28 (0, 0)) z24_) : gb477 ≠ gb468)); replace BK468 := Aside0.mk (blk_below (g := gb468) (o := .cells #[.slice Ao21 t464.length co21] 28 (0, 0)) z24_ hb); have NB472_477 := Aside0.mk ((by rw [hg]; exact Nat.ne_of_lt (blk_lt (g := gb472) (o := .cells #[.slice Ao27 t469.length co27] 28 (0, 0)) z26_) : gb472 ≠ gb477)); have NB477_472 := Aside0.mk ((by rw [hg]; exact Nat.ne_of_gt (blk_lt (g := gb472) (o := .cells #[.slice Ao27 t469.length co27] 28 (0, 0)) z26_) : gb477 ≠ gb472)); replace BK472 := Aside0.mk (blk_below (g := gb472) (o := .cells #[.slice Ao27 t469.length co27] 28 (0, 0)) z26_ hb); clear hb hbox hg; obtain ⟨Ao33, co33, eo33⟩ := Kd.R_slice HO475.out; subst eo33; have hnb34 := NB477_459.out; have hnc34 := NB459_477.out; have hnb35 := NB477_468.out; have hnc35 := NB468_477.out; have hnb36 := NB477_472.out; have hnc36 := NB472_477.out; have hcz37_0 : w32.cell? ⟨gb477, 0, none⟩ = some (.slice none 0 0) := (blk_cell BK477.out 0).trans rfl; have hfz37_0 := blk_frozen BK477.out 0))
  (try simp only [Act.put, List.setIfInBounds_toArray, List.set_cons_zero, List.set_cons_succ])
  go_cut [44] (fun v44 wc => ∃ (kq : Nat) (x44_11 : Bool), v44 = .bool x44_11 ∧ Aside0 (laws_FnExactDomDelete.j0 kq a1 t467 t476 x44_11 l0_0 t464 t469 t473 = some r) ∧ Aside0 (kq ≤ k) ∧ Aside0 (Kd.R k72 72 wc w.heap.size (fun k_ => some k_ ≠ ((.slice Ao27 t469.length co27) : Value).ownBlock ∧ some k_ ≠ ((.slice Ao33 t473.length co33) : Value).ownBlock) (.slice Ao21 t464.length co21) t464) ∧ Aside0 (Kd.R k72 72 wc w.heap.size (fun k_ => some k_ ≠ ((.slice Ao21 t464.length co21) : Value).ownBlock ∧ some k_ ≠ ((.slice Ao33 t473.length co33) : Value).ownBlock) (.slice Ao27 t469.length co27) t469) ∧ Aside0 (Kd.R k72 72 wc w.heap.size (fun k_ => some k_ ≠ ((.slice Ao21 t464.length co21) : Value).ownBlock ∧ some k_ ≠ ((.slice Ao27 t469.length co27) : Value).ownBlock) (.slice Ao33 t473.length co33) t473) ∧ Aside0 (wc.heap[gb459]? = some (.cells #[(.slice A0_0 l0_0.length c0_0)] 39 (0, 0))) ∧ Aside0 (wc.heap[gb468]? = some (.cells #[(.slice Ao21 t464.length co21)] 28 (0, 0))) ∧ Aside0 (wc.heap[gb472]? = some (.cells #[(.slice Ao27 t469.length co27)] 28 (0, 0))) ∧ Aside0 (wc.heap[gb477]? = some (.cells #[(.slice Ao33 t473.length co33)] 28 (0, 0))) ∧ Aside0 (Below w.heap.size w wc))
  case first =>
   have H := HC12.out
   clear HC12
   obtain ⟨t478, A38, H⟩ := bnd_ H
   by_cases c39 : t478 = true
   ·subst c39
    replace H := ift_ H
    have H' := Aside0.mk H
    clear H
    have hnb40 := NB477_459.out
    have hnc40 := NB459_477.out
    have hnb41 := NB477_468.out
    have hnc41 := NB468_477.out
    have hnb42 := NB477_472.out
    have hnc42 := NB472_477.out
    have hcz43_0 : w32.cell? ⟨gb477, 0, none⟩ = some (.slice none 0 0) := (blk_cell BK477.out 0).trans rfl
    have hfz43_0 := blk_frozen BK477.out 0
    have hnb44 := NB468_459.out
    have hnc44 := NB459_468.out
    have hnb45 := NB468_472.out
    have hnc45 := NB472_468.out
    have hcz46_0 : w32.cell? ⟨gb468, 0, none⟩ = some (.slice Ao21 t464.length co21) := (blk_cell BK468.out 0).trans rfl
    have hfz46_0 := blk_frozen BK468.out 0
    go_wp2_with (first | ((with_reducible refine gate_callee (f := 25) rfl ?_); refine goesL_ (some 38) rfl rfl Try.func25 (by kernel_rfl) rfl #[.agg #[.slice Ao33 t473.length co33], .agg #[.slice Ao21 t464.length co21]] rfl z1_ ?_; (with_reducible refine (laws_eqDom.calls k _ _ t473 _ _ t464 true _ ?side1 ?side2 ?side3 ?side4 A38.out).mono ?_); (case side1 => exact z72_); (case side2 => exact (Kd.R_reads' HO475.out).2.1); (case side3 => exact z73_); (case side4 => exact (Kd.R_reads' HO466.out).2.1); rintro e w47 ⟨rfl, hb⟩; refine ⟨_, rfl, ?_⟩; replace HO463 := Aside0.mk (Kd.R_below z139_ hb); replace HO466 := Aside0.mk (Kd.R_below z80_ hb); replace HO471 := Aside0.mk (Kd.R_below z140_ hb); replace HO475 := Aside0.mk (Kd.R_below z79_ hb); replace BK459 := Aside0.mk (blk_below (g := gb459) (o := .cells #[.slice A0_0 l0_0.length c0_0] 39 (0, 0)) z145_ hb); replace BK468 := Aside0.mk (blk_below (g := gb468) (o := .cells #[.slice Ao21 t464.length co21] 28 (0, 0)) z146_ hb); replace BK472 := Aside0.mk (blk_below (g := gb472) (o := .cells #[.slice Ao27 t469.length co27] 28 (0, 0)) z147_ hb); replace BK477 := Aside0.mk (blk_below (g := gb477) (o := .cells #[.slice Ao33 t473.length co33] 28 (0, 0)) z123_ hb); replace HB := Aside0.mk (below_step z2_ hb); (try clear hb)))
    go_meet
    case rel => exact ⟨_, ((t476 != t467)), z12_, H', ⟨z103_⟩, ⟨z226_⟩, ⟨z227_⟩, ⟨z228_⟩, ⟨z15_⟩, ⟨z24_⟩, ⟨z26_⟩, ⟨z34_⟩, ⟨z2_⟩⟩
   ·replace c39 := Bool.eq_false_iff.mpr c39
    subst c39
    replace H := iff_ H
    have H' := Aside0.mk H
    clear H
    have hnb48 := NB477_459.out
    have hnc48 := NB459_477.out
    have hnb49 := NB477_468.out
    have hnc49 := NB468_477.out
    have hnb50 := NB477_472.out
    have hnc50 := NB472_477.out
    have hcz51_0 : w32.cell? ⟨gb477, 0, none⟩ = some (.slice none 0 0) := (blk_cell BK477.out 0).trans rfl
    have hfz51_0 := blk_frozen BK477.out 0
    have hnb52 := NB468_459.out
    have hnc52 := NB459_468.out
    have hnb53 := NB468_472.out
    have hnc53 := NB472_468.out
    have hcz54_0 : w32.cell? ⟨gb468, 0, none⟩ = some (.slice Ao21 t464.length co21) := (blk_cell BK468.out 0).trans rfl
    have hfz54_0 := blk_frozen BK468.out 0
    go_wp2_with (first | ((with_reducible refine gate_callee (f := 25) rfl ?_); refine goesL_ (some 38) rfl rfl Try.func25 (by kernel_rfl) rfl #[.agg #[.slice Ao33 t473.length co33], .agg #[.slice Ao21 t464.length co21]] rfl z1_ ?_; (with_reducible refine (laws_eqDom.calls k _ _ t473 _ _ t464 false _ ?side1 ?side2 ?side3 ?side4 A38.out).mono ?_); (case side1 => exact z72_); (case side2 => exact (Kd.R_reads' HO475.out).2.1); (case side3 => exact z73_); (case side4 => exact (Kd.R_reads' HO466.out).2.1); rintro e w55 ⟨rfl, hb⟩; refine ⟨_, rfl, ?_⟩; replace HO463 := Aside0.mk (Kd.R_below z139_ hb); replace HO466 := Aside0.mk (Kd.R_below z80_ hb); replace HO471 := Aside0.mk (Kd.R_below z140_ hb); replace HO475 := Aside0.mk (Kd.R_below z79_ hb); replace BK459 := Aside0.mk (blk_below (g := gb459) (o := .cells #[.slice A0_0 l0_0.length c0_0] 39 (0, 0)) z145_ hb); replace BK468 := Aside0.mk (blk_below (g := gb468) (o := .cells #[.slice Ao21 t464.length co21] 28 (0, 0)) z146_ hb); replace BK472 := Aside0.mk (blk_below (g := gb472) (o := .cells #[.slice Ao27 t469.length co27] 28 (0, 0)) z147_ hb); replace BK477 := Aside0.mk (blk_below (g := gb477) (o := .cells #[.slice Ao33 t473.length co33] 28 (0, 0)) z123_ hb); replace HB := Aside0.mk (below_step z2_ hb); (try clear hb)))
    go_meet
    case rel => exact ⟨_, (true), z12_, H', ⟨z103_⟩, ⟨z226_⟩, ⟨z227_⟩, ⟨z228_⟩, ⟨z15_⟩, ⟨z24_⟩, ⟨z26_⟩, ⟨z34_⟩, ⟨z2_⟩⟩
  case rest =>
   clear HC12
   try clear c2
   try clear p2
   try clear c3
   try clear c4
   try clear c4b0
   try clear c5
   try clear c21
   try clear c22
   try clear c23
   try clear c24
   try clear c25
   try clear c28
   try clear c29
   try clear c34
   try clear c35
   try clear c36
   try clear c39
   try clear c40
   try clear c41
   try clear c42
   try clear c44
   try clear c45
   try clear c48
   try clear c49
   try clear c50
   try clear c52
   try clear c53
   try clear hcz14_0
   try clear hcz16_0
   try clear hcz23_0
   try clear hcz24_0
   try clear hcz30_0
   try clear hcz37_0
   try clear hcz43_0
   try clear hcz46_0
   try clear hcz51_0
   try clear hcz54_0
   try clear hcz6_0
   try clear hfz14_0
   try clear hfz16_0
   try clear hfz23_0
   try clear hfz24_0
   try clear hfz30_0
   try clear hfz37_0
   try clear hfz43_0
   try clear hfz46_0
   try clear hfz51_0
   try clear hfz54_0
   try clear hfz6_0
   obtain ⟨kq, x44_11, rfl, HA, HJ11, HO_469000, HO_473000, HO_478000, BK459, BK468, BK472, BK477, HB⟩ := hcut
   cases kq with
   | zero => exact absurd HA.out (by simp [laws_FnExactDomDelete.j0])
   | succ kj11 =>
    have H := HA.out
    clear HA
    simp only [laws_FnExactDomDelete.j0] at H
    by_cases c56 : x44_11 = true
    ·subst c56
     replace H := ift_ H
     obtain rfl := Option.some.inj H
     go_wp2
     go_ret
     exact ⟨z4_, z2_⟩
    ·replace c56 := Bool.eq_false_iff.mpr c56
     subst c56
     replace H := iff_ H
     obtain ⟨t479, A57, H⟩ := bnd_ H
     obtain ⟨t482, A58, H⟩ := bnd_ H
     by_cases c59 : t482 = true
     ·subst c59
      replace H := ift_ H
      replace H := Option.bind_eq_some_iff.mp H
      obtain ⟨⟨t483, t484⟩, A600, H⟩ := H
      replace H : (if t483 < 0 then (laws_FnExactDomDelete.j1 kj11 a1 t467 true l0_0 t464 t473) else ((laws_eqDom.f kj11 t473 t464).bind fun t485 => (if t485 = true then (laws_FnExactDomDelete.j1 kj11 a1 t467 (t476 != t467) l0_0 t464 t473) else (laws_FnExactDomDelete.j1 kj11 a1 t467 true l0_0 t464 t473)))) = some r := H
      have A60 := Aside0.mk A600
      clear A600
      have HC61 := Aside0.mk H
      clear H
      try go_wp2
      have n0_ := Aside0.mk (Kd.R_drew HO_469000.out)
      have n1_ := Aside0.mk (Kd.R_drew HO_473000.out)
      have n2_ := Aside0.mk (Kd.R_drew HO_478000.out)
      have n3_ := Aside0.mk (blk_drew BK459.out)
      have n4_ := Aside0.mk (blk_drew BK468.out)
      have n5_ := Aside0.mk (blk_drew BK472.out)
      have n6_ := Aside0.mk (blk_drew BK477.out)
      have n7_ := Aside0.mk (below_drew1 HB.out)
      clear HO_469000
      clear HO_473000
      clear HO_478000
      clear BK459
      clear BK468
      clear BK472
      clear BK477
      clear HB
      have HO_469000 := n0_
      have HO_473000 := n1_
      have HO_478000 := n2_
      have BK459 := n3_
      have BK468 := n4_
      have BK472 := n5_
      have BK477 := n6_
      have HB := n7_
      clear n0_ n1_ n2_ n3_ n4_ n5_ n6_ n7_
      refine start_ (n := 5) (S := fun w' => w'.cell? ⟨gb472, 0, none⟩ = some (.slice Ao27 t469.length co27) ∧ w'.cell? ⟨gb459, 0, none⟩ = some (.slice A0_0 l0_0.length c0_0)) (ds := []) (fl_ 5 0) (by kernel_rfl) rfl (fl_zero _) ⟨(blk_cell BK472.out 0).trans rfl, (blk_cell BK459.out 0).trans rfl⟩ (fun hHeld => ?_)
      generalize wc.drew = w62 at HO_469000 HO_473000 HO_478000 BK459 BK468 BK472 BK477 HB hHeld ⊢
      refine take_ (i := 0) (N := some 45) (v := ?_) (a' := ?_) #[true, false, false, false, false] rfl rfl (by kernel_rfl) (fun _ _ _ h => h) (Or.inl ⟨by rfl, ?_⟩) hHeld ?_ ?_
      rotate_left
      ·rintro w' ⟨s0, s1⟩
       go_simp
       with_reducible rfl
      rotate_left
      ·simp only [Act.put, List.setIfInBounds_toArray, List.set_cons_zero, List.set_cons_succ, i64_w, i32_w]
       rfl
      refine take_ (i := 1) (N := some 46) (v := ?_) (a' := ?_) #[true, true, false, false, false] rfl rfl (by kernel_rfl) (fun _ _ _ h => h) (Or.inl ⟨by rfl, ?_⟩) hHeld ?_ ?_
      rotate_left
      ·rintro w' ⟨s0, s1⟩
       go_simp
       with_reducible rfl
      rotate_left
      ·simp only [Act.put, List.setIfInBounds_toArray, List.set_cons_zero, List.set_cons_succ, i64_w, i32_w]
       rfl
      refine one_ (i := 2) (N := some 47) (fl_ 5 3) rfl rfl (by kernel_rfl) (by decide) (fun K hK => ?_)
      refine goes_ Try.func23 (by kernel_rfl) rfl #[.agg #[.slice A0_0 l0_0.length c0_0]] (by rfl) rfl rfl z1_ ?_
      with_reducible refine (laws_toDom.calls kj11 _ _ l0_0 t479 _ ?side1 ?side2 A57.out).mono ?_
      (case side1 => exact z10_)
      (case side2 => exact HC0_0.out)
      rintro e w63 ⟨v480, rfl, ho0, hb⟩
      refine ⟨_, rfl, ?_⟩
      have n0_ := Aside0.mk (Kd.R_elder' z45_ (Kd.R_base ho0) hb)
      have n1_ := Aside0.mk (Kd.R_elder' z46_ (Kd.R_base ho0) hb)
      have n2_ := Aside0.mk (Kd.R_elder' z47_ (Kd.R_base ho0) hb)
      have n3_ := Aside0.mk (Kd.R_lower (Kd.R_new' (Kd.R_new' (Kd.R_new' ho0 (Kd.R_lt z45_)) (Kd.R_lt z46_)) (Kd.R_lt z47_)) (below_size z2_))
      have n4_ := Aside0.mk (blk_below (g := gb459) (o := .cells #[.slice A0_0 l0_0.length c0_0] 39 (0, 0)) z15_ hb)
      have n5_ := Aside0.mk (blk_below (g := gb468) (o := .cells #[.slice Ao21 t464.length co21] 28 (0, 0)) z24_ hb)
      have n6_ := Aside0.mk (blk_below (g := gb472) (o := .cells #[.slice Ao27 t469.length co27] 28 (0, 0)) z26_ hb)
      have n7_ := Aside0.mk (blk_below (g := gb477) (o := .cells #[.slice Ao33 t473.length co33] 28 (0, 0)) z34_ hb)
      have n8_ := Aside0.mk (below_step z2_ hb)
      clear HO_469000
      clear HO_473000
      clear HO_478000
      clear BK459
      clear BK468
      clear BK472
      clear BK477
      clear HB
      have HO_469000 := n0_
      have HO_473000 := n1_
      have HO_478000 := n2_
      have HO481 := n3_
      have BK459 := n4_
      have BK468 := n5_
      have BK472 := n6_
      have BK477 := n7_
      have HB := n8_
      clear n0_ n1_ n2_ n3_ n4_ n5_ n6_ n7_ n8_
      (try clear hb)
      (try clear hb2)
      (try clear hk)
      (try clear hi)
      (try clear ho0)
      obtain ⟨Ao64, co64, eo64⟩ := Kd.R_slice HO481.out
      (first | subst eo64 | (injection eo64 with f1_ f2_ f3_; have f4_ := f1_.symm; have f5_ := f3_.symm; clear f1_ f2_ f3_; subst f4_; subst f5_))
      refine hK.out _ _ ⟨(blk_cell BK472.out 0).trans rfl, (blk_cell BK459.out 0).trans rfl⟩ (fun hHeld => ?_)
      clear hK K
      refine zn_ rfl ?_
      refine one_ (i := 3) (N := some 48) (fl_ 5 4) rfl rfl (by kernel_rfl) (by decide) (fun K hK => ?_)
      refine goes_ Try.func25 (by kernel_rfl) rfl #[.agg #[.slice Ao27 t469.length co27], .agg #[.slice Ao64 t479.length co64]] (by rfl) rfl rfl z1_ ?_
      with_reducible refine (laws_eqDom.calls kj11 _ _ t469 _ _ t479 true _ ?side1 ?side2 ?side3 ?side4 A58.out).mono ?_
      (case side1 => exact z185_)
      (case side2 => exact (Kd.R_reads' HO_473000.out).2.1)
      (case side3 => exact z193_)
      (case side4 => exact (Kd.R_reads' HO481.out).2.1)
      rintro e w65 ⟨rfl, hb⟩
      refine ⟨_, rfl, ?_⟩
      have n0_ := Aside0.mk (Kd.R_below z45_ hb)
      have n1_ := Aside0.mk (Kd.R_below z46_ hb)
      have n2_ := Aside0.mk (Kd.R_below z47_ hb)
      have n3_ := Aside0.mk (Kd.R_below z174_ hb)
      have n4_ := Aside0.mk (blk_below (g := gb459) (o := .cells #[.slice A0_0 l0_0.length c0_0] 39 (0, 0)) z15_ hb)
      have n5_ := Aside0.mk (blk_below (g := gb468) (o := .cells #[.slice Ao21 t464.length co21] 28 (0, 0)) z24_ hb)
      have n6_ := Aside0.mk (blk_below (g := gb472) (o := .cells #[.slice Ao27 t469.length co27] 28 (0, 0)) z26_ hb)
      have n7_ := Aside0.mk (blk_below (g := gb477) (o := .cells #[.slice Ao33 t473.length co33] 28 (0, 0)) z34_ hb)
      have n8_ := Aside0.mk (below_step z2_ hb)
      clear HO_469000
      clear HO_473000
      clear HO_478000
      clear HO481
      clear BK459
      clear BK468
      clear BK472
      clear BK477
      clear HB
      have HO_469000 := n0_
      have HO_473000 := n1_
      have HO_478000 := n2_
      have HO481 := n3_
      have BK459 := n4_
      have BK468 := n5_
      have BK472 := n6_
      have BK477 := n7_
      have HB := n8_
      clear n0_ n1_ n2_ n3_ n4_ n5_ n6_ n7_ n8_
      (try clear hb)
      (try clear hb2)
      (try clear hk)
      (try clear hi)
      refine hK.out _ _ ⟨(blk_cell BK472.out 0).trans rfl, (blk_cell BK459.out 0).trans rfl⟩ (fun hHeld => ?_)
      clear hK K
      refine zn_ rfl ?_
      refine pure_ (i := 4) (N := some 49) (v := ?_) (a' := ?_) #[true, true, true, true, true] rfl rfl (by kernel_rfl) (fun _ _ _ h => h) (Or.inl ⟨by rfl, ?_⟩) ?_ ?_
      rotate_left
      ·intro w'
       go_simp
       with_reducible rfl
      rotate_left
      ·simp only [Act.put, List.setIfInBounds_toArray, List.set_cons_zero, List.set_cons_succ, i64_w, i32_w]
       rfl
      refine done_ (by kernel_rfl) ?_
      have hnb66 := NB472_459.out
      have hnc66 := NB459_472.out
      have hnb67 := NB472_468.out
      have hnc67 := NB468_472.out
      have hnb68 := NB472_477.out
      have hnc68 := NB477_472.out
      have hcz69_0 : w65.cell? ⟨gb472, 0, none⟩ = some (.slice Ao27 t469.length co27) := (blk_cell BK472.out 0).trans rfl
      have hfz69_0 := blk_frozen BK472.out 0
      go_upto_region 14 with (first | ((with_reducible refine gate_callee (f := 26) rfl ?_); refine goesL_ (some 52) rfl rfl Try.func26 (by kernel_rfl) rfl #[.agg #[.slice Ao27 t469.length co27], .int .i64 1] rfl z1_ ?_; (with_reducible refine (laws_markDom.calls kj11 (fun k_ => some k_ = (.slice Ao27 t469.length co27 : Value).ownBlock) (.slice Ao27 t469.length co27) t469 1 t483 t484 w _ ?side1 ?side2 A60.out).mono ?_); (case side1 => exact z2_); (case side2 => exact Kd.R_tight rfl HO_473000.out); rintro e w70 ⟨rfl, hy0, hb, hkp⟩; refine ⟨_, rfl, ?_⟩; replace HO_469000 := Aside0.mk (Kd.R_mono (ok' := fun k_ => some k_ ≠ (.slice Ao27 t469.length co27 : Value).ownBlock ∧ some k_ ≠ (.slice Ao33 t473.length co33 : Value).ownBlock ∧ some k_ ≠ (.slice Ao64 t479.length co64 : Value).ownBlock) (Kd.R_keptB (HO_469000.out) hkp (fun k_ hk_ hs_ => (hk_.1.1) hs_)) (fun k_ hk_ => ⟨hk_.1.1.1, hk_.1.1.2, hk_.1.2⟩)); replace HO_478000 := Aside0.mk (Kd.R_mono (ok' := fun k_ => some k_ ≠ (.slice Ao21 t464.length co21 : Value).ownBlock ∧ some k_ ≠ (.slice Ao27 t469.length co27 : Value).ownBlock ∧ some k_ ≠ (.slice Ao64 t479.length co64 : Value).ownBlock) (Kd.R_keptB (HO_478000.out) hkp (fun k_ hk_ hs_ => (hk_.1.2) hs_)) (fun k_ hk_ => ⟨hk_.1.1.1, hk_.1.1.2, hk_.1.2⟩)); replace BK459 := Aside0.mk (blk_kept z15_ hkp (fun hs_ => (fun e_ => (Kd.R_ne HO_473000.out BK459.out (by decide)) e_) hs_)); replace BK468 := Aside0.mk (blk_kept z24_ hkp (fun hs_ => (fun e_ => (Kd.R_ne HO_473000.out BK468.out (by decide)) e_) hs_)); replace BK472 := Aside0.mk (blk_kept z26_ hkp (fun hs_ => (fun e_ => (Kd.R_ne HO_473000.out BK472.out (by decide)) e_) hs_)); replace BK477 := Aside0.mk (blk_kept z34_ hkp (fun hs_ => (fun e_ => (Kd.R_ne HO_473000.out BK477.out (by decide)) e_) hs_)); replace HO_473000 := Aside0.mk (Kd.R_reok rfl hy0 (fun k_ e_ => HO_473000.out.1 k_ e_)); replace HO481 := Aside0.mk (Kd.R_mono (ok' := fun k_ => some k_ ≠ (.slice Ao21 t464.length co21 : Value).ownBlock ∧ some k_ ≠ (.slice Ao27 t469.length co27 : Value).ownBlock ∧ some k_ ≠ (.slice Ao33 t473.length co33 : Value).ownBlock) (Kd.R_keptB (HO481.out) hkp (fun k_ hk_ hs_ => (hk_.1.2) hs_)) (fun k_ hk_ => ⟨hk_.1.1.1.2, hk_.1.1.2, hk_.1.2⟩)); replace HB := Aside0.mk (hb); (try clear hb hkp hy0)))
      (try simp only [Act.put, List.setIfInBounds_toArray, List.set_cons_zero, List.set_cons_succ])
      go_cut [65] (fun v65 wc => ∃ (kq : Nat) (x65_60 : Bool), v65 = .bool x65_60 ∧ Aside0 (laws_FnExactDomDelete.j1 kq a1 t467 x65_60 l0_0 t464 t473 = some r) ∧ Aside0 (kq ≤ kj11) ∧ Aside0 (Kd.R k72 72 wc w.heap.size (fun k_ => some k_ ≠ ((.slice Ao27 t469.length co27) : Value).ownBlock ∧ some k_ ≠ ((.slice Ao33 t473.length co33) : Value).ownBlock) (.slice Ao21 t464.length co21) t464) ∧ Aside0 (Kd.R k72 72 wc w.heap.size (fun k_ => some k_ ≠ ((.slice Ao21 t464.length co21) : Value).ownBlock ∧ some k_ ≠ ((.slice Ao33 t473.length co33) : Value).ownBlock) (.slice Ao27 t469.length co27) t484) ∧ Aside0 (Kd.R k72 72 wc w.heap.size (fun k_ => some k_ ≠ ((.slice Ao21 t464.length co21) : Value).ownBlock ∧ some k_ ≠ ((.slice Ao27 t469.length co27) : Value).ownBlock) (.slice Ao33 t473.length co33) t473) ∧ Aside0 (wc.heap[gb459]? = some (.cells #[(.slice A0_0 l0_0.length c0_0)] 39 (0, 0))) ∧ Aside0 (wc.heap[gb468]? = some (.cells #[(.slice Ao21 t464.length co21)] 28 (0, 0))) ∧ Aside0 (wc.heap[gb472]? = some (.cells #[(.slice Ao27 t469.length co27)] 28 (0, 0))) ∧ Aside0 (wc.heap[gb477]? = some (.cells #[(.slice Ao33 t473.length co33)] 28 (0, 0))) ∧ Aside0 (Below w.heap.size w wc))
      case first =>
       have H := HC61.out
       clear HC61
       by_cases c71 : t483 < 0
       ·rw [if_pos c71] at H
        have c71b0 : decide (t483 < 0) = true := decide_eq_true c71
        clear c71
        (first | rw [c71b0] | rw [c71b1] | (simp only [i64_w, i32_w]; rw [c71b0]) | skip)
        have H' := Aside0.mk H
        clear H
        go_wp2
        go_meet
        case rel => exact ⟨_, (true), z12_, H', ⟨z254_⟩, ⟨z171_⟩, ⟨z170_⟩, ⟨z172_⟩, ⟨z15_⟩, ⟨z24_⟩, ⟨z26_⟩, ⟨z34_⟩, ⟨z2_⟩⟩
       ·rw [if_neg c71] at H
        have c71b0 : decide (t483 < 0) = false := decide_eq_false c71
        clear c71
        (first | rw [c71b0] | rw [c71b1] | (simp only [i64_w, i32_w]; rw [c71b0]) | skip)
        obtain ⟨t485, A72, H⟩ := bnd_ H
        by_cases c73 : t485 = true
        ·subst c73
         replace H := ift_ H
         have H' := Aside0.mk H
         clear H
         have hnb74 := NB477_459.out
         have hnc74 := NB459_477.out
         have hnb75 := NB477_468.out
         have hnc75 := NB468_477.out
         have hnb76 := NB477_472.out
         have hnc76 := NB472_477.out
         have hcz77_0 : w70.cell? ⟨gb477, 0, none⟩ = some (.slice Ao33 t473.length co33) := (blk_cell BK477.out 0).trans rfl
         have hfz77_0 := blk_frozen BK477.out 0
         have hnb78 := NB468_459.out
         have hnc78 := NB459_468.out
         have hnb79 := NB468_472.out
         have hnc79 := NB472_468.out
         have hcz80_0 : w70.cell? ⟨gb468, 0, none⟩ = some (.slice Ao21 t464.length co21) := (blk_cell BK468.out 0).trans rfl
         have hfz80_0 := blk_frozen BK468.out 0
         go_wp2_with (first | (go_at_call 25; (with_reducible refine (laws_eqDom.calls kj11 _ _ t473 _ _ t464 true _ ?side1 ?side2 ?side3 ?side4 A72.out).mono ?_); (case side1 => exact z57_); (case side2 => exact z251_); (case side3 => exact z186_); (case side4 => exact z257_); rintro e w81 ⟨rfl, hb⟩; replace HO_469000 := Aside0.mk (Kd.R_below z45_ hb); replace HO_473000 := Aside0.mk (Kd.R_below z46_ hb); replace HO_478000 := Aside0.mk (Kd.R_below z47_ hb); replace HO481 := Aside0.mk (Kd.R_below z174_ hb); replace BK459 := Aside0.mk (blk_below (g := gb459) (o := .cells #[.slice A0_0 l0_0.length c0_0] 39 (0, 0)) z15_ hb); replace BK468 := Aside0.mk (blk_below (g := gb468) (o := .cells #[.slice Ao21 t464.length co21] 28 (0, 0)) z24_ hb); replace BK472 := Aside0.mk (blk_below (g := gb472) (o := .cells #[.slice Ao27 t469.length co27] 28 (0, 0)) z26_ hb); replace BK477 := Aside0.mk (blk_below (g := gb477) (o := .cells #[.slice Ao33 t473.length co33] 28 (0, 0)) z34_ hb); replace HB := Aside0.mk (below_step z2_ hb); (try clear hb)))
         go_meet
         case rel => exact ⟨_, ((t476 != t467)), z12_, H', ⟨z254_⟩, ⟨z171_⟩, ⟨z170_⟩, ⟨z172_⟩, ⟨z15_⟩, ⟨z24_⟩, ⟨z26_⟩, ⟨z34_⟩, ⟨z2_⟩⟩
        ·replace c73 := Bool.eq_false_iff.mpr c73
         subst c73
         replace H := iff_ H
         have H' := Aside0.mk H
         clear H
         have hnb82 := NB477_459.out
         have hnc82 := NB459_477.out
         have hnb83 := NB477_468.out
         have hnc83 := NB468_477.out
         have hnb84 := NB477_472.out
         have hnc84 := NB472_477.out
         have hcz85_0 : w70.cell? ⟨gb477, 0, none⟩ = some (.slice Ao33 t473.length co33) := (blk_cell BK477.out 0).trans rfl
         have hfz85_0 := blk_frozen BK477.out 0
         have hnb86 := NB468_459.out
         have hnc86 := NB459_468.out
         have hnb87 := NB468_472.out
         have hnc87 := NB472_468.out
         have hcz88_0 : w70.cell? ⟨gb468, 0, none⟩ = some (.slice Ao21 t464.length co21) := (blk_cell BK468.out 0).trans rfl
         have hfz88_0 := blk_frozen BK468.out 0
         go_wp2_with (first | (go_at_call 25; (with_reducible refine (laws_eqDom.calls kj11 _ _ t473 _ _ t464 false _ ?side1 ?side2 ?side3 ?side4 A72.out).mono ?_); (case side1 => exact z57_); (case side2 => exact z251_); (case side3 => exact z186_); (case side4 => exact z257_); rintro e w89 ⟨rfl, hb⟩; replace HO_469000 := Aside0.mk (Kd.R_below z45_ hb); replace HO_473000 := Aside0.mk (Kd.R_below z46_ hb); replace HO_478000 := Aside0.mk (Kd.R_below z47_ hb); replace HO481 := Aside0.mk (Kd.R_below z174_ hb); replace BK459 := Aside0.mk (blk_below (g := gb459) (o := .cells #[.slice A0_0 l0_0.length c0_0] 39 (0, 0)) z15_ hb); replace BK468 := Aside0.mk (blk_below (g := gb468) (o := .cells #[.slice Ao21 t464.length co21] 28 (0, 0)) z24_ hb); replace BK472 := Aside0.mk (blk_below (g := gb472) (o := .cells #[.slice Ao27 t469.length co27] 28 (0, 0)) z26_ hb); replace BK477 := Aside0.mk (blk_below (g := gb477) (o := .cells #[.slice Ao33 t473.length co33] 28 (0, 0)) z34_ hb); replace HB := Aside0.mk (below_step z2_ hb); (try clear hb)))
         go_meet
         case rel => exact ⟨_, (true), z12_, H', ⟨z254_⟩, ⟨z171_⟩, ⟨z170_⟩, ⟨z172_⟩, ⟨z15_⟩, ⟨z24_⟩, ⟨z26_⟩, ⟨z34_⟩, ⟨z2_⟩⟩
      case rest =>
       clear HC61
       try clear c2
       try clear p2
       try clear c3
       try clear c4
       try clear c4b0
       try clear c5
       try clear c6
       try clear c7
       try clear c8
       try clear c21
       try clear c22
       try clear c23
       try clear c24
       try clear c25
       try clear c26
       try clear c28
       try clear c29
       try clear c34
       try clear c35
       try clear c36
       try clear c39
       try clear c40
       try clear c41
       try clear c42
       try clear c44
       try clear c45
       try clear c48
       try clear c49
       try clear c50
       try clear c52
       try clear c53
       try clear c56
       try clear c59
       try clear c66
       try clear c67
       try clear c68
       try clear c71
       try clear c71b0
       try clear c73
       try clear c74
       try clear c75
       try clear c76
       try clear c78
       try clear c79
       try clear c82
       try clear c83
       try clear c84
       try clear c86
       try clear c87
       try clear hcz14_0
       try clear hcz16_0
       try clear hcz23_0
       try clear hcz24_0
       try clear hcz30_0
       try clear hcz37_0
       try clear hcz43_0
       try clear hcz46_0
       try clear hcz51_0
       try clear hcz54_0
       try clear hcz69_0
       try clear hcz6_0
       try clear hcz77_0
       try clear hcz80_0
       try clear hcz85_0
       try clear hcz88_0
       try clear hfz14_0
       try clear hfz16_0
       try clear hfz23_0
       try clear hfz24_0
       try clear hfz30_0
       try clear hfz37_0
       try clear hfz43_0
       try clear hfz46_0
       try clear hfz51_0
       try clear hfz54_0
       try clear hfz69_0
       try clear hfz6_0
       try clear hfz77_0
       try clear hfz80_0
       try clear hfz85_0
       try clear hfz88_0
       try clear p2
       obtain ⟨kq, x65_60, rfl, HA, HJ60, HO_469000, HO_473000, HO_478000, BK459, BK468, BK472, BK477, HB⟩ := hcut
       have hl473000_60 := (Kd.R_reads' HO_473000.out).1
       rw [hl473000_60] at HO_473000
       (try simp only [hl473000_60])
       (try simp only [hl473000_60] at BK459)
       (try simp only [hl473000_60] at BK468)
       (try simp only [hl473000_60] at BK472)
       (try simp only [hl473000_60] at BK477)
       (try simp only [hl473000_60] at HO_469000)
       (try simp only [hl473000_60] at HO_478000)
       cases kq with
       | zero => exact absurd HA.out (by simp [laws_FnExactDomDelete.j1])
       | succ kj60 =>
        have H := HA.out
        clear HA
        simp only [laws_FnExactDomDelete.j1] at H
        by_cases c90 : x65_60 = true
        ·subst c90
         replace H := ift_ H
         obtain rfl := Option.some.inj H
         go_wp2
         go_ret
         exact ⟨z4_, z2_⟩
        ·replace c90 := Bool.eq_false_iff.mpr c90
         subst c90
         replace H := iff_ H
         replace H := Option.bind_eq_some_iff.mp H
         obtain ⟨⟨t486, t487⟩, A910, H⟩ := H
         replace H : ((laws_heldDom.f kj60 t487 1).bind fun t488 => (if t488 < 0 then (some false) else (if t488 = t486 then ((laws_toDom.f kj60 l0_0).bind fun t489 => ((impl_DomDelete.f kj60 t489 a1).bind fun bt492 => ((laws_eqDom.f kj60 bt492.1 t464).bind fun t497 => (if t497 = true then (laws_FnExactDomDelete.j2 kj60 t486 (bt492.2 != t467) t487) else (laws_FnExactDomDelete.j2 kj60 t486 true t487))))) else (some false)))) = some r := H
         have A91 := Aside0.mk A910
         clear A910
         obtain ⟨t488, A92, H⟩ := bnd_ H
         by_cases c93 : t488 < 0
         ·rw [if_pos c93] at H
          have c93b0 : decide (t488 < 0) = true := decide_eq_true c93
          clear c93
          obtain rfl := Option.some.inj H
          have hnb94 := NB477_459.out
          have hnc94 := NB459_477.out
          have hnb95 := NB477_468.out
          have hnc95 := NB468_477.out
          have hnb96 := NB477_472.out
          have hnc96 := NB472_477.out
          have hcz97_0 : wc.cell? ⟨gb477, 0, none⟩ = some (.slice Ao33 t473.length co33) := (blk_cell BK477.out 0).trans rfl
          have hfz97_0 := blk_frozen BK477.out 0
          go_wp2_with (first | ((with_reducible refine gate_callee (f := 26) rfl ?_); refine goesL_ (some 68) rfl rfl Try.func26 (by kernel_rfl) rfl #[.agg #[.slice Ao33 t473.length co33], .int .i64 1] rfl z1_ ?_; (with_reducible refine (laws_markDom.calls kj60 (fun k_ => some k_ = (.slice Ao33 t473.length co33 : Value).ownBlock) (.slice Ao33 t473.length co33) t473 1 t486 t487 w _ ?side1 ?side2 A91.out).mono ?_); (case side1 => exact z2_); (case side2 => exact Kd.R_tight rfl HO_478000.out); rintro e w98 ⟨rfl, hy0, hb, hkp⟩; refine ⟨_, rfl, ?_⟩; replace HO_469000 := Aside0.mk (Kd.R_mono (ok' := fun k_ => some k_ ≠ (.slice Ao27 t484.length co27 : Value).ownBlock ∧ some k_ ≠ (.slice Ao33 t473.length co33 : Value).ownBlock) (Kd.R_keptB (HO_469000.out) hkp (fun k_ hk_ hs_ => (hk_.2) hs_)) (fun k_ hk_ => ⟨hk_.1.1, hk_.1.2⟩)); replace HO_473000 := Aside0.mk (Kd.R_mono (ok' := fun k_ => some k_ ≠ (.slice Ao21 t464.length co21 : Value).ownBlock ∧ some k_ ≠ (.slice Ao33 t473.length co33 : Value).ownBlock) (Kd.R_keptB (HO_473000.out) hkp (fun k_ hk_ hs_ => (hk_.2) hs_)) (fun k_ hk_ => ⟨hk_.1.1, hk_.1.2⟩)); replace BK459 := Aside0.mk (blk_kept z15_ hkp (fun hs_ => (fun e_ => (Kd.R_ne HO_478000.out BK459.out (by decide)) e_) hs_)); replace BK468 := Aside0.mk (blk_kept z24_ hkp (fun hs_ => (fun e_ => (Kd.R_ne HO_478000.out BK468.out (by decide)) e_) hs_)); replace BK472 := Aside0.mk (blk_kept z26_ hkp (fun hs_ => (fun e_ => (Kd.R_ne HO_478000.out BK472.out (by decide)) e_) hs_)); replace BK477 := Aside0.mk (blk_kept z34_ hkp (fun hs_ => (fun e_ => (Kd.R_ne HO_478000.out BK477.out (by decide)) e_) hs_)); replace HO_478000 := Aside0.mk (Kd.R_reok rfl hy0 (fun k_ e_ => HO_478000.out.1 k_ e_)); replace HB := Aside0.mk (hb); (try clear hb hkp hy0); have hcz99_0 : w98.cell? ⟨gb477, 0, none⟩ = some (.slice Ao33 t473.length co33) := (blk_cell BK477.out 0).trans rfl; have hfz99_0 := blk_frozen BK477.out 0) | ((with_reducible refine gate_callee (f := 27) rfl ?_); refine goesL_ (some 71) rfl rfl Try.func27 (by kernel_rfl) rfl #[.agg #[.slice Ao33 t487.length co33], .int .i64 1] rfl z105_ ?_; (with_reducible refine (laws_heldDom.calls kj60 _ _ t487 1 t488 _ ?side1 ?side2 A92.out).mono ?_); (case side1 => exact z57_); (case side2 => exact z194_); rintro e w100 ⟨rfl, hb⟩; refine ⟨_, rfl, ?_⟩; replace HO_469000 := Aside0.mk (Kd.R_below z45_ hb); replace HO_473000 := Aside0.mk (Kd.R_below z46_ hb); replace HO_478000 := Aside0.mk (Kd.R_below z47_ hb); replace BK459 := Aside0.mk (blk_below (g := gb459) (o := .cells #[.slice A0_0 l0_0.length c0_0] 39 (0, 0)) z15_ hb); replace BK468 := Aside0.mk (blk_below (g := gb468) (o := .cells #[.slice Ao21 t464.length co21] 28 (0, 0)) z24_ hb); replace BK472 := Aside0.mk (blk_below (g := gb472) (o := .cells #[.slice Ao27 t484.length co27] 28 (0, 0)) z26_ hb); replace BK477 := Aside0.mk (blk_below (g := gb477) (o := .cells #[.slice Ao33 t473.length co33] 28 (0, 0)) z34_ hb); replace HB := Aside0.mk (below_step z2_ hb); (try clear hb)))
          go_ret
          exact ⟨z4_, z2_⟩
         ·rw [if_neg c93] at H
          have c93b0 : decide (t488 < 0) = false := decide_eq_false c93
          clear c93
          by_cases c101 : t488 = t486
          ·rw [if_pos c101] at H
           have c101b0 : (t488 == t486) = true := beq_iff_eq.mpr c101
           have c101b1 : (t488 != t486) = false := bne_eq_false_iff_eq.mpr c101
           clear c101
           obtain ⟨t489, A102, H⟩ := bnd_ H
           replace H := Option.bind_eq_some_iff.mp H
           obtain ⟨⟨t492, t495⟩, A1030, H⟩ := H
           replace H : ((laws_eqDom.f kj60 t492 t464).bind fun t497 => (if t497 = true then (laws_FnExactDomDelete.j2 kj60 t486 (t495 != t467) t487) else (laws_FnExactDomDelete.j2 kj60 t486 true t487))) = some r := H
           have A103 := Aside0.mk A1030
           clear A1030
           have HC104 := Aside0.mk H
           clear H
           have hnb105 := NB477_459.out
           have hnc105 := NB459_477.out
           have hnb106 := NB477_468.out
           have hnc106 := NB468_477.out
           have hnb107 := NB477_472.out
           have hnc107 := NB472_477.out
           have hcz108_0 : wc.cell? ⟨gb477, 0, none⟩ = some (.slice Ao33 t473.length co33) := (blk_cell BK477.out 0).trans rfl
           have hfz108_0 := blk_frozen BK477.out 0
           go_upto_region 25 with (first | ((with_reducible refine gate_callee (f := 26) rfl ?_); refine goesL_ (some 68) rfl rfl Try.func26 (by kernel_rfl) rfl #[.agg #[.slice Ao33 t473.length co33], .int .i64 1] rfl z1_ ?_; (with_reducible refine (laws_markDom.calls kj60 (fun k_ => some k_ = (.slice Ao33 t473.length co33 : Value).ownBlock) (.slice Ao33 t473.length co33) t473 1 t486 t487 w _ ?side1 ?side2 A91.out).mono ?_); (case side1 => exact z2_); (case side2 => exact Kd.R_tight rfl HO_478000.out); rintro e w109 ⟨rfl, hy0, hb, hkp⟩; refine ⟨_, rfl, ?_⟩; replace HO_469000 := Aside0.mk (Kd.R_mono (ok' := fun k_ => some k_ ≠ (.slice Ao27 t484.length co27 : Value).ownBlock ∧ some k_ ≠ (.slice Ao33 t473.length co33 : Value).ownBlock) (Kd.R_keptB (HO_469000.out) hkp (fun k_ hk_ hs_ => (hk_.2) hs_)) (fun k_ hk_ => ⟨hk_.1.1, hk_.1.2⟩)); replace HO_473000 := Aside0.mk (Kd.R_mono (ok' := fun k_ => some k_ ≠ (.slice Ao21 t464.length co21 : Value).ownBlock ∧ some k_ ≠ (.slice Ao33 t473.length co33 : Value).ownBlock) (Kd.R_keptB (HO_473000.out) hkp (fun k_ hk_ hs_ => (hk_.2) hs_)) (fun k_ hk_ => ⟨hk_.1.1, hk_.1.2⟩)); replace BK459 := Aside0.mk (blk_kept z15_ hkp (fun hs_ => (fun e_ => (Kd.R_ne HO_478000.out BK459.out (by decide)) e_) hs_)); replace BK468 := Aside0.mk (blk_kept z24_ hkp (fun hs_ => (fun e_ => (Kd.R_ne HO_478000.out BK468.out (by decide)) e_) hs_)); replace BK472 := Aside0.mk (blk_kept z26_ hkp (fun hs_ => (fun e_ => (Kd.R_ne HO_478000.out BK472.out (by decide)) e_) hs_)); replace BK477 := Aside0.mk (blk_kept z34_ hkp (fun hs_ => (fun e_ => (Kd.R_ne HO_478000.out BK477.out (by decide)) e_) hs_)); replace HO_478000 := Aside0.mk (Kd.R_reok rfl hy0 (fun k_ e_ => HO_478000.out.1 k_ e_)); replace HB := Aside0.mk (hb); (try clear hb hkp hy0); have hcz110_0 : w109.cell? ⟨gb477, 0, none⟩ = some (.slice Ao33 t473.length co33) := (blk_cell BK477.out 0).trans rfl; have hfz110_0 := blk_frozen BK477.out 0) | ((with_reducible refine gate_callee (f := 27) rfl ?_); refine goesL_ (some 71) rfl rfl Try.func27 (by kernel_rfl) rfl #[.agg #[.slice Ao33 t487.length co33], .int .i64 1] rfl z105_ ?_; (with_reducible refine (laws_heldDom.calls kj60 _ _ t487 1 t488 _ ?side1 ?side2 A92.out).mono ?_); (case side1 => exact z57_); (case side2 => exact z194_); rintro e w111 ⟨rfl, hb⟩; refine ⟨_, rfl, ?_⟩; replace HO_469000 := Aside0.mk (Kd.R_below z45_ hb); replace HO_473000 := Aside0.mk (Kd.R_below z46_ hb); replace HO_478000 := Aside0.mk (Kd.R_below z47_ hb); replace BK459 := Aside0.mk (blk_below (g := gb459) (o := .cells #[.slice A0_0 l0_0.length c0_0] 39 (0, 0)) z15_ hb); replace BK468 := Aside0.mk (blk_below (g := gb468) (o := .cells #[.slice Ao21 t464.length co21] 28 (0, 0)) z24_ hb); replace BK472 := Aside0.mk (blk_below (g := gb472) (o := .cells #[.slice Ao27 t484.length co27] 28 (0, 0)) z26_ hb); replace BK477 := Aside0.mk (blk_below (g := gb477) (o := .cells #[.slice Ao33 t473.length co33] 28 (0, 0)) z34_ hb); replace HB := Aside0.mk (below_step z2_ hb); (try clear hb); have hnb112 := NB459_468.out; have hnc112 := NB468_459.out; have hnb113 := NB459_472.out; have hnc113 := NB472_459.out; have hcz114_0 : w111.cell? ⟨gb459, 0, none⟩ = some (.slice A0_0 l0_0.length c0_0) := (blk_cell BK459.out 0).trans rfl; have hfz114_0 := blk_frozen BK459.out 0) | ((with_reducible refine gate_callee (f := 23) rfl ?_); refine goesL_ (some 79) rfl rfl Try.func23 (by kernel_rfl) rfl #[.agg #[.slice A0_0 l0_0.length c0_0]] rfl z1_ ?_; (with_reducible refine (laws_toDom.calls kj60 _ _ l0_0 t489 _ ?side1 ?side2 A102.out).mono ?_); (case side1 => exact z10_); (case side2 => exact HC0_0.out); rintro e w115 ⟨v490, rfl, ho0, hb⟩; refine ⟨_, rfl, ?_⟩; have HO491 := Aside0.mk (Kd.R_lower (Kd.R_new' (Kd.R_new' (Kd.R_new' ho0 (Kd.R_lt z45_)) (Kd.R_lt z46_)) (Kd.R_lt z47_)) (below_size z2_)); replace HO_469000 := Aside0.mk (Kd.R_elder' z45_ (Kd.R_base ho0) hb); replace HO_473000 := Aside0.mk (Kd.R_elder' z46_ (Kd.R_base ho0) hb); replace HO_478000 := Aside0.mk (Kd.R_elder' z47_ (Kd.R_base ho0) hb); replace BK459 := Aside0.mk (blk_below (g := gb459) (o := .cells #[.slice A0_0 l0_0.length c0_0] 39 (0, 0)) z15_ hb); replace BK468 := Aside0.mk (blk_below (g := gb468) (o := .cells #[.slice Ao21 t464.length co21] 28 (0, 0)) z24_ hb); replace BK472 := Aside0.mk (blk_below (g := gb472) (o := .cells #[.slice Ao27 t484.length co27] 28 (0, 0)) z26_ hb); replace BK477 := Aside0.mk (blk_below (g := gb477) (o := .cells #[.slice Ao33 t473.length co33] 28 (0, 0)) z34_ hb); replace HB := Aside0.mk (below_step z2_ hb); (try clear hb ho0); obtain ⟨Ao116, co116, eo116⟩ := Kd.R_slice HO491.out; subst eo116) | ((with_reducible refine gate_callee (f := 24) rfl ?_); refine goesL_ (some 81) rfl rfl Try.func24 (by kernel_rfl) rfl #[.agg #[.slice Ao116 t489.length co116], .int .i64 a1] rfl z1_ ?_; (with_reducible refine (impl_DomDelete.calls kj60 _ _ t489 a1 t492 t495 _ ?side1 ?side2 A103.out).mono ?_); (case side1 => repeat (first | exact (Kd.R_reads' HO491.out).2.2 | (with_reducible refine Kd.C_alloc ?_ _) | (with_reducible refine Kd.C_drewN ?_ _) | (with_reducible refine Kd.C_drew ?_))); (case side2 => exact (Kd.R_reads' HO491.out).2.1); rintro e w117 ⟨v493, rfl, ho0, hb⟩; refine ⟨_, rfl, ?_⟩; have HO494 := Aside0.mk (Kd.R_lower (Kd.R_new' (Kd.R_new' (Kd.R_new' (Kd.R_new' ho0 (Kd.R_lt z45_)) (Kd.R_lt z46_)) (Kd.R_lt z47_)) (Kd.R_lt z216_)) (below_size z2_)); replace HO_469000 := Aside0.mk (Kd.R_elder' z45_ (Kd.R_base ho0) hb); replace HO_473000 := Aside0.mk (Kd.R_elder' z46_ (Kd.R_base ho0) hb); replace HO_478000 := Aside0.mk (Kd.R_elder' z47_ (Kd.R_base ho0) hb); replace HO491 := Aside0.mk (Kd.R_elder' z216_ (Kd.R_base ho0) hb); replace BK459 := Aside0.mk (blk_below (g := gb459) (o := .cells #[.slice A0_0 l0_0.length c0_0] 39 (0, 0)) z15_ hb); replace BK468 := Aside0.mk (blk_below (g := gb468) (o := .cells #[.slice Ao21 t464.length co21] 28 (0, 0)) z24_ hb); replace BK472 := Aside0.mk (blk_below (g := gb472) (o := .cells #[.slice Ao27 t484.length co27] 28 (0, 0)) z26_ hb); replace BK477 := Aside0.mk (blk_below (g := gb477) (o := .cells #[.slice Ao33 t473.length co33] 28 (0, 0)) z34_ hb); replace HB := Aside0.mk (below_step z2_ hb); (try clear hb ho0)) | ((with_reducible refine gate_dst (N := 14) rfl ?_); refine box_event ?hg (N := 14) ?hd (cs := #[.slice none 0 0]) (t := 28) ?hr ?_; (case hd => rfl); (case hg => rfl); (case hr => exact z25_); intro gb496 hg w118 hbox hb; replace HO_469000 := Aside0.mk (Kd.R_below z45_ hb); replace HO_473000 := Aside0.mk (Kd.R_below z46_ hb); replace HO_478000 := Aside0.mk (Kd.R_below z47_ hb); replace HO491 := Aside0.mk (Kd.R_below z216_ hb); replace HO494 := Aside0.mk (Kd.R_below (by (with_reducible repeat (first | apply Kd.R_alloc | apply Kd.R_drewN | apply Kd.R_drew)); exact HO494.out) hb); have BK496 := Aside0.mk (hbox); have GW496 := Aside0.mk ((by rw [hg]; exact (below_size z2_) : w.heap.size ≤ gb496)); have GE496 := Aside0.mk ((by rw [hg]; exact (below_size z2_) : w.heap.size ≤ gb496)); replace HB := Aside0.mk (below_step z2_ hb); have NB459_496 := Aside0.mk ((by rw [hg]; exact Nat.ne_of_lt (blk_lt (g := gb459) (o := .cells #[.slice A0_0 l0_0.length c0_0] 39 (0, 0)) z15_) : gb459 ≠ gb496)); have NB496_459 := Aside0.mk ((by rw [hg]; exact Nat.ne_of_gt (blk_lt (g := gb459) (o := .cells #[.slice A0_0 l0_0.length c0_0] 39 (0, 0)) z15_) : gb496 ≠ gb459)); replace BK459 := Aside0.mk (blk_below (g := gb459) (o := .cells #[.slice A0_0 l0_0.length c0_0] 39 (0, 0)) z15_ hb); have NB468_496 := Aside0.mk ((by rw [hg]; exact Nat.ne_of_lt (blk_lt (g := gb468) (o := .cells #[.slice Ao21 t464.length co21] 28 (0, 0)) z24_) : gb468 ≠ gb496)); have NB496_468 := Aside0.mk ((by rw [hg]; exact Nat.ne_of_gt (blk_lt (g := gb468) (o := .cells #[.slice Ao21 t464.length co21] 28 (0, 0)) z24_) : gb496 ≠ gb468)); replace BK468 := Aside0.mk (blk_below (g := gb468) (o := .cells #[.slice Ao21 t464.length co21] 28 (0, 0)) z24_ hb); have NB472_496 := Aside0.mk ((by rw [hg]; exact Nat.ne_of_lt (blk_lt (g := gb472) (o := .cells #[.slice Ao27 t484.length co27] 28 (0, 0)) z26_) : gb472 ≠ gb496)); have NB496_472 := Aside0.mk ((by rw [hg]; exact Nat.ne_of_gt (blk_lt (g := gb472) (o := .cells #[.slice Ao27 t484.length co27] 28 (0, 0)) z26_) : gb496 ≠ gb472)); replace BK472 := Aside0.mk (blk_below (g := gb472) (o := .cells #[.slice Ao27 t484.length co27] 28 (0, 0)) z26_ hb); have NB477_496 := Aside0.mk ((by rw [hg]; exact Nat.ne_of_lt (blk_lt (g := gb477) (o := .cells #[.slice Ao33 t473.length co33] 28 (0, 0)) z34_) : gb477 ≠ gb496)); have NB496_477 := Aside0.mk ((by rw [hg]; exact Nat.ne_of_gt (blk_lt (g := gb477) (o := .cells #[.slice Ao33 t473.length co33] 28 (0, 0)) z34_) : gb496 ≠ gb477)); replace BK477 := Aside0.mk (blk_below (g := gb477) (o := .cells #[.slice Ao33 t473.length co33] 28 (0, 0)) z34_ hb); clear hb hbox hg; obtain ⟨Ao119, co119, eo119⟩ := Kd.R_slice HO494.out; subst eo119; have hnb120 := NB496_459.out; have hnc120 := NB459_496.out; have hnb121 := NB496_468.out; have hnc121 := NB468_496.out; have hnb122 := NB496_472.out; have hnc122 := NB472_496.out; have hnb123 := NB496_477.out; have hnc123 := NB477_496.out; have hcz124_0 : w118.cell? ⟨gb496, 0, none⟩ = some (.slice none 0 0) := (blk_cell BK496.out 0).trans rfl; have hfz124_0 := blk_frozen BK496.out 0))
           (try simp only [Act.put, List.setIfInBounds_toArray, List.set_cons_zero, List.set_cons_succ])
           go_cut [92] (fun v92 wc => ∃ (kq : Nat) (x92_103 : Bool), v92 = .bool x92_103 ∧ Aside0 (laws_FnExactDomDelete.j2 kq t486 x92_103 t487 = some r) ∧ Aside0 (kq ≤ kj60) ∧ Aside0 (Kd.R k72 72 wc w.heap.size (fun k_ => some k_ ≠ ((.slice Ao27 t484.length co27) : Value).ownBlock ∧ some k_ ≠ ((.slice Ao33 t473.length co33) : Value).ownBlock ∧ some k_ ≠ ((.slice Ao119 t492.length co119) : Value).ownBlock) (.slice Ao21 t464.length co21) t464) ∧ Aside0 (Kd.R k72 72 wc w.heap.size (fun k_ => some k_ ≠ ((.slice Ao21 t464.length co21) : Value).ownBlock ∧ some k_ ≠ ((.slice Ao33 t473.length co33) : Value).ownBlock ∧ some k_ ≠ ((.slice Ao119 t492.length co119) : Value).ownBlock) (.slice Ao27 t484.length co27) t484) ∧ Aside0 (Kd.R k72 72 wc w.heap.size (fun k_ => some k_ ≠ ((.slice Ao21 t464.length co21) : Value).ownBlock ∧ some k_ ≠ ((.slice Ao27 t484.length co27) : Value).ownBlock ∧ some k_ ≠ ((.slice Ao119 t492.length co119) : Value).ownBlock) (.slice Ao33 t473.length co33) t487) ∧ Aside0 (Kd.R k72 72 wc w.heap.size (fun k_ => some k_ ≠ ((.slice Ao21 t464.length co21) : Value).ownBlock ∧ some k_ ≠ ((.slice Ao27 t484.length co27) : Value).ownBlock ∧ some k_ ≠ ((.slice Ao33 t473.length co33) : Value).ownBlock) (.slice Ao119 t492.length co119) t492) ∧ Aside0 (wc.heap[gb459]? = some (.cells #[(.slice A0_0 l0_0.length c0_0)] 39 (0, 0))) ∧ Aside0 (wc.heap[gb468]? = some (.cells #[(.slice Ao21 t464.length co21)] 28 (0, 0))) ∧ Aside0 (wc.heap[gb472]? = some (.cells #[(.slice Ao27 t484.length co27)] 28 (0, 0))) ∧ Aside0 (wc.heap[gb477]? = some (.cells #[(.slice Ao33 t473.length co33)] 28 (0, 0))) ∧ Aside0 (wc.heap[gb496]? = some (.cells #[(.slice Ao119 t492.length co119)] 28 (0, 0))) ∧ Aside0 (Below w.heap.size w wc))
           case first =>
            have H := HC104.out
            clear HC104
            obtain ⟨t497, A125, H⟩ := bnd_ H
            by_cases c126 : t497 = true
            ·subst c126
             replace H := ift_ H
             have H' := Aside0.mk H
             clear H
             have hnb127 := NB496_459.out
             have hnc127 := NB459_496.out
             have hnb128 := NB496_468.out
             have hnc128 := NB468_496.out
             have hnb129 := NB496_472.out
             have hnc129 := NB472_496.out
             have hnb130 := NB496_477.out
             have hnc130 := NB477_496.out
             have hcz131_0 : w118.cell? ⟨gb496, 0, none⟩ = some (.slice none 0 0) := (blk_cell BK496.out 0).trans rfl
             have hfz131_0 := blk_frozen BK496.out 0
             have hnb132 := NB468_459.out
             have hnc132 := NB459_468.out
             have hnb133 := NB468_472.out
             have hnc133 := NB472_468.out
             have hnb134 := NB468_477.out
             have hnc134 := NB477_468.out
             have hcz135_0 : w118.cell? ⟨gb468, 0, none⟩ = some (.slice Ao21 t464.length co21) := (blk_cell BK468.out 0).trans rfl
             have hfz135_0 := blk_frozen BK468.out 0
             go_wp2_with (first | ((with_reducible refine gate_callee (f := 25) rfl ?_); refine goesL_ (some 86) rfl rfl Try.func25 (by kernel_rfl) rfl #[.agg #[.slice Ao119 t492.length co119], .agg #[.slice Ao21 t464.length co21]] rfl z1_ ?_; (with_reducible refine (laws_eqDom.calls kj60 _ _ t492 _ _ t464 true _ ?side1 ?side2 ?side3 ?side4 A125.out).mono ?_); (case side1 => exact z63_); (case side2 => exact (Kd.R_reads' HO494.out).2.1); (case side3 => exact z64_); (case side4 => exact z257_); rintro e w136 ⟨rfl, hb⟩; refine ⟨_, rfl, ?_⟩; replace HO_469000 := Aside0.mk (Kd.R_below z75_ hb); replace HO_473000 := Aside0.mk (Kd.R_below z125_ hb); replace HO_478000 := Aside0.mk (Kd.R_below z126_ hb); replace HO491 := Aside0.mk (Kd.R_below z132_ hb); replace HO494 := Aside0.mk (Kd.R_below z76_ hb); replace BK459 := Aside0.mk (blk_below (g := gb459) (o := .cells #[.slice A0_0 l0_0.length c0_0] 39 (0, 0)) z148_ hb); replace BK468 := Aside0.mk (blk_below (g := gb468) (o := .cells #[.slice Ao21 t464.length co21] 28 (0, 0)) z149_ hb); replace BK472 := Aside0.mk (blk_below (g := gb472) (o := .cells #[.slice Ao27 t484.length co27] 28 (0, 0)) z150_ hb); replace BK477 := Aside0.mk (blk_below (g := gb477) (o := .cells #[.slice Ao33 t473.length co33] 28 (0, 0)) z151_ hb); replace BK496 := Aside0.mk (blk_below (g := gb496) (o := .cells #[.slice Ao119 t492.length co119] 28 (0, 0)) z124_ hb); replace HB := Aside0.mk (below_step z31_ hb); (try clear hb)))
             go_meet
             case rel => exact ⟨_, ((t495 != t467)), z12_, H', ⟨by have := HJ11.out; have := HJ60.out; first | omega | exact Nat.le_refl _⟩, ⟨z178_⟩, ⟨z179_⟩, ⟨z180_⟩, ⟨z181_⟩, ⟨z219_⟩, ⟨z220_⟩, ⟨z221_⟩, ⟨z222_⟩, ⟨z223_⟩, ⟨z31_⟩⟩
            ·replace c126 := Bool.eq_false_iff.mpr c126
             subst c126
             replace H := iff_ H
             have H' := Aside0.mk H
             clear H
             have hnb137 := NB496_459.out
             have hnc137 := NB459_496.out
             have hnb138 := NB496_468.out
             have hnc138 := NB468_496.out
             have hnb139 := NB496_472.out
             have hnc139 := NB472_496.out
             have hnb140 := NB496_477.out
             have hnc140 := NB477_496.out
             have hcz141_0 : w118.cell? ⟨gb496, 0, none⟩ = some (.slice none 0 0) := (blk_cell BK496.out 0).trans rfl
             have hfz141_0 := blk_frozen BK496.out 0
             have hnb142 := NB468_459.out
             have hnc142 := NB459_468.out
             have hnb143 := NB468_472.out
             have hnc143 := NB472_468.out
             have hnb144 := NB468_477.out
             have hnc144 := NB477_468.out
             have hcz145_0 : w118.cell? ⟨gb468, 0, none⟩ = some (.slice Ao21 t464.length co21) := (blk_cell BK468.out 0).trans rfl
             have hfz145_0 := blk_frozen BK468.out 0
             go_wp2_with (first | ((with_reducible refine gate_callee (f := 25) rfl ?_); refine goesL_ (some 86) rfl rfl Try.func25 (by kernel_rfl) rfl #[.agg #[.slice Ao119 t492.length co119], .agg #[.slice Ao21 t464.length co21]] rfl z1_ ?_; (with_reducible refine (laws_eqDom.calls kj60 _ _ t492 _ _ t464 false _ ?side1 ?side2 ?side3 ?side4 A125.out).mono ?_); (case side1 => exact z63_); (case side2 => exact (Kd.R_reads' HO494.out).2.1); (case side3 => exact z64_); (case side4 => exact z257_); rintro e w146 ⟨rfl, hb⟩; refine ⟨_, rfl, ?_⟩; replace HO_469000 := Aside0.mk (Kd.R_below z75_ hb); replace HO_473000 := Aside0.mk (Kd.R_below z125_ hb); replace HO_478000 := Aside0.mk (Kd.R_below z126_ hb); replace HO491 := Aside0.mk (Kd.R_below z132_ hb); replace HO494 := Aside0.mk (Kd.R_below z76_ hb); replace BK459 := Aside0.mk (blk_below (g := gb459) (o := .cells #[.slice A0_0 l0_0.length c0_0] 39 (0, 0)) z148_ hb); replace BK468 := Aside0.mk (blk_below (g := gb468) (o := .cells #[.slice Ao21 t464.length co21] 28 (0, 0)) z149_ hb); replace BK472 := Aside0.mk (blk_below (g := gb472) (o := .cells #[.slice Ao27 t484.length co27] 28 (0, 0)) z150_ hb); replace BK477 := Aside0.mk (blk_below (g := gb477) (o := .cells #[.slice Ao33 t473.length co33] 28 (0, 0)) z151_ hb); replace BK496 := Aside0.mk (blk_below (g := gb496) (o := .cells #[.slice Ao119 t492.length co119] 28 (0, 0)) z124_ hb); replace HB := Aside0.mk (below_step z31_ hb); (try clear hb)))
             go_meet
             case rel => exact ⟨_, (true), z12_, H', ⟨by have := HJ11.out; have := HJ60.out; first | omega | exact Nat.le_refl _⟩, ⟨z178_⟩, ⟨z179_⟩, ⟨z180_⟩, ⟨z181_⟩, ⟨z219_⟩, ⟨z220_⟩, ⟨z221_⟩, ⟨z222_⟩, ⟨z223_⟩, ⟨z31_⟩⟩
           case rest =>
            clear HC104
            try clear c1
            try clear c2
            try clear p2
            try clear c3
            try clear c4
            try clear c4b0
            try clear c5
            try clear c6
            try clear c7
            try clear c8
            try clear c9
            try clear c10
            try clear c11
            try clear c12
            try clear c13
            try clear c14
            try clear c21
            try clear c22
            try clear c23
            try clear c24
            try clear c25
            try clear c26
            try clear c27
            try clear c28
            try clear c29
            try clear c34
            try clear c35
            try clear c36
            try clear c39
            try clear c40
            try clear c41
            try clear c42
            try clear c44
            try clear c45
            try clear c48
            try clear c49
            try clear c50
            try clear c52
            try clear c53
            try clear c56
            try clear c59
            try clear c66
            try clear c67
            try clear c68
            try clear c71
            try clear c71b0
            try clear c73
            try clear c74
            try clear c75
            try clear c76
            try clear c78
            try clear c79
            try clear c82
            try clear c83
            try clear c84
            try clear c86
            try clear c87
            try clear c90
            try clear c93
            try clear c93b0
            try clear c94
            try clear c95
            try clear c96
            try clear c101
            try clear c101b0
            try clear c101b1
            try clear c105
            try clear c106
            try clear c107
            try clear c112
            try clear c113
            try clear c120
            try clear c121
            try clear c122
            try clear c123
            try clear c126
            try clear c127
            try clear c128
            try clear c129
            try clear c130
            try clear c132
            try clear c133
            try clear c134
            try clear c137
            try clear c138
            try clear c139
            try clear c140
            try clear c142
            try clear c143
            try clear c144
            try clear hcz108_0
            try clear hcz110_0
            try clear hcz114_0
            try clear hcz124_0
            try clear hcz131_0
            try clear hcz135_0
            try clear hcz141_0
            try clear hcz145_0
            try clear hcz14_0
            try clear hcz16_0
            try clear hcz23_0
            try clear hcz24_0
            try clear hcz30_0
            try clear hcz37_0
            try clear hcz43_0
            try clear hcz46_0
            try clear hcz51_0
            try clear hcz54_0
            try clear hcz69_0
            try clear hcz6_0
            try clear hcz77_0
            try clear hcz80_0
            try clear hcz85_0
            try clear hcz88_0
            try clear hcz97_0
            try clear hcz99_0
            try clear hfz108_0
            try clear hfz110_0
            try clear hfz114_0
            try clear hfz124_0
            try clear hfz131_0
            try clear hfz135_0
            try clear hfz141_0
            try clear hfz145_0
            try clear hfz14_0
            try clear hfz16_0
            try clear hfz23_0
            try clear hfz24_0
            try clear hfz30_0
            try clear hfz37_0
            try clear hfz43_0
            try clear hfz46_0
            try clear hfz51_0
            try clear hfz54_0
            try clear hfz69_0
            try clear hfz6_0
            try clear hfz77_0
            try clear hfz80_0
            try clear hfz85_0
            try clear hfz88_0
            try clear hfz97_0
            try clear hfz99_0
            try clear p2
            obtain ⟨kq, x92_103, rfl, HA, HJ103, HO_469000, HO_473000, HO_478000, HO_497000, BK459, BK468, BK472, BK477, BK496, HB⟩ := hcut
            have hl478000_103 := (Kd.R_reads' HO_478000.out).1
            rw [hl478000_103] at HO_478000
            (try simp only [hl478000_103])
            (try simp only [hl478000_103] at BK459)
            (try simp only [hl478000_103] at BK468)
            (try simp only [hl478000_103] at BK472)
            (try simp only [hl478000_103] at BK477)
            (try simp only [hl478000_103] at BK496)
            (try simp only [hl478000_103] at HO_469000)
            (try simp only [hl478000_103] at HO_473000)
            (try simp only [hl478000_103] at HO_497000)
            cases kq with
            | zero => exact absurd HA.out (by simp [laws_FnExactDomDelete.j2])
            | succ kj103 =>
             have H := HA.out
             clear HA
             simp only [laws_FnExactDomDelete.j2] at H
             by_cases c147 : x92_103 = true
             ·subst c147
              replace H := ift_ H
              obtain rfl := Option.some.inj H
              go_wp2
              go_ret
              exact ⟨z4_, z31_⟩
             ·replace c147 := Bool.eq_false_iff.mpr c147
              subst c147
              replace H := iff_ H
              obtain ⟨t498, A148, H⟩ := bnd_ H
              by_cases c149 : t498 < 0
              ·rw [if_pos c149] at H
               have c149b0 : decide (t498 < 0) = true := decide_eq_true c149
               clear c149
               obtain rfl := Option.some.inj H
               have hnb150 := NB477_459.out
               have hnc150 := NB459_477.out
               have hnb151 := NB477_468.out
               have hnc151 := NB468_477.out
               have hnb152 := NB477_472.out
               have hnc152 := NB472_477.out
               have hnb153 := NB477_496.out
               have hnc153 := NB496_477.out
               have hcz154_0 : wc.cell? ⟨gb477, 0, none⟩ = some (.slice Ao33 t487.length co33) := (blk_cell BK477.out 0).trans rfl
               have hfz154_0 := blk_frozen BK477.out 0
               go_wp2_with (first | ((with_reducible refine gate_callee (f := 27) rfl ?_); refine goesL_ (some 95) rfl rfl Try.func27 (by kernel_rfl) rfl #[.agg #[.slice Ao33 t487.length co33], .int .i64 1] rfl z1_ ?_; (with_reducible refine (laws_heldDom.calls kj103 _ _ t487 1 t498 _ ?side1 ?side2 A148.out).mono ?_); (case side1 => exact z57_); (case side2 => exact z251_); rintro e w155 ⟨rfl, hb⟩; refine ⟨_, rfl, ?_⟩; replace HO_469000 := Aside0.mk (Kd.R_below z45_ hb); replace HO_473000 := Aside0.mk (Kd.R_below z46_ hb); replace HO_478000 := Aside0.mk (Kd.R_below z47_ hb); replace HO_497000 := Aside0.mk (Kd.R_below z207_ hb); replace BK459 := Aside0.mk (blk_below (g := gb459) (o := .cells #[.slice A0_0 l0_0.length c0_0] 39 (0, 0)) z15_ hb); replace BK468 := Aside0.mk (blk_below (g := gb468) (o := .cells #[.slice Ao21 t464.length co21] 28 (0, 0)) z24_ hb); replace BK472 := Aside0.mk (blk_below (g := gb472) (o := .cells #[.slice Ao27 t484.length co27] 28 (0, 0)) z26_ hb); replace BK477 := Aside0.mk (blk_below (g := gb477) (o := .cells #[.slice Ao33 t487.length co33] 28 (0, 0)) z34_ hb); replace BK496 := Aside0.mk (blk_below (g := gb496) (o := .cells #[.slice Ao119 t492.length co119] 28 (0, 0)) z190_ hb); replace HB := Aside0.mk (below_step z31_ hb); (try clear hb)))
               go_ret
               exact ⟨z4_, z31_⟩
              ·rw [if_neg c149] at H
               have c149b0 : decide (t498 < 0) = false := decide_eq_false c149
               clear c149
               by_cases c156 : t498 = t486
               ·rw [if_pos c156] at H
                have c156b0 : (t498 == t486) = true := beq_iff_eq.mpr c156
                have c156b1 : (t498 != t486) = false := bne_eq_false_iff_eq.mpr c156
                clear c156
                obtain rfl := Option.some.inj H
                have hnb157 := NB477_459.out
                have hnc157 := NB459_477.out
                have hnb158 := NB477_468.out
                have hnc158 := NB468_477.out
                have hnb159 := NB477_472.out
                have hnc159 := NB472_477.out
                have hnb160 := NB477_496.out
                have hnc160 := NB496_477.out
                have hcz161_0 : wc.cell? ⟨gb477, 0, none⟩ = some (.slice Ao33 t487.length co33) := (blk_cell BK477.out 0).trans rfl
                have hfz161_0 := blk_frozen BK477.out 0
                go_wp2_with (first | ((with_reducible refine gate_callee (f := 27) rfl ?_); refine goesL_ (some 95) rfl rfl Try.func27 (by kernel_rfl) rfl #[.agg #[.slice Ao33 t487.length co33], .int .i64 1] rfl z1_ ?_; (with_reducible refine (laws_heldDom.calls kj103 _ _ t487 1 t498 _ ?side1 ?side2 A148.out).mono ?_); (case side1 => exact z57_); (case side2 => exact z251_); rintro e w162 ⟨rfl, hb⟩; refine ⟨_, rfl, ?_⟩; replace HO_469000 := Aside0.mk (Kd.R_below z45_ hb); replace HO_473000 := Aside0.mk (Kd.R_below z46_ hb); replace HO_478000 := Aside0.mk (Kd.R_below z47_ hb); replace HO_497000 := Aside0.mk (Kd.R_below z207_ hb); replace BK459 := Aside0.mk (blk_below (g := gb459) (o := .cells #[.slice A0_0 l0_0.length c0_0] 39 (0, 0)) z15_ hb); replace BK468 := Aside0.mk (blk_below (g := gb468) (o := .cells #[.slice Ao21 t464.length co21] 28 (0, 0)) z24_ hb); replace BK472 := Aside0.mk (blk_below (g := gb472) (o := .cells #[.slice Ao27 t484.length co27] 28 (0, 0)) z26_ hb); replace BK477 := Aside0.mk (blk_below (g := gb477) (o := .cells #[.slice Ao33 t487.length co33] 28 (0, 0)) z34_ hb); replace BK496 := Aside0.mk (blk_below (g := gb496) (o := .cells #[.slice Ao119 t492.length co119] 28 (0, 0)) z190_ hb); replace HB := Aside0.mk (below_step z31_ hb); (try clear hb)))
                go_ret
                exact ⟨z4_, z31_⟩
               ·rw [if_neg c156] at H
                have c156b0 : (t498 == t486) = false := beq_eq_false_iff_ne.mpr c156
                have c156b1 : (t498 != t486) = true := bne_iff_ne.mpr c156
                obtain rfl := Option.some.inj H
                have hnb163 := NB477_459.out
                have hnc163 := NB459_477.out
                have hnb164 := NB477_468.out
                have hnc164 := NB468_477.out
                have hnb165 := NB477_472.out
                have hnc165 := NB472_477.out
                have hnb166 := NB477_496.out
                have hnc166 := NB496_477.out
                have hcz167_0 : wc.cell? ⟨gb477, 0, none⟩ = some (.slice Ao33 t487.length co33) := (blk_cell BK477.out 0).trans rfl
                have hfz167_0 := blk_frozen BK477.out 0
                go_wp2_with (first | ((with_reducible refine gate_callee (f := 27) rfl ?_); refine goesL_ (some 95) rfl rfl Try.func27 (by kernel_rfl) rfl #[.agg #[.slice Ao33 t487.length co33], .int .i64 1] rfl z1_ ?_; (with_reducible refine (laws_heldDom.calls kj103 _ _ t487 1 t498 _ ?side1 ?side2 A148.out).mono ?_); (case side1 => exact z57_); (case side2 => exact z251_); rintro e w168 ⟨rfl, hb⟩; refine ⟨_, rfl, ?_⟩; replace HO_469000 := Aside0.mk (Kd.R_below z45_ hb); replace HO_473000 := Aside0.mk (Kd.R_below z46_ hb); replace HO_478000 := Aside0.mk (Kd.R_below z47_ hb); replace HO_497000 := Aside0.mk (Kd.R_below z207_ hb); replace BK459 := Aside0.mk (blk_below (g := gb459) (o := .cells #[.slice A0_0 l0_0.length c0_0] 39 (0, 0)) z15_ hb); replace BK468 := Aside0.mk (blk_below (g := gb468) (o := .cells #[.slice Ao21 t464.length co21] 28 (0, 0)) z24_ hb); replace BK472 := Aside0.mk (blk_below (g := gb472) (o := .cells #[.slice Ao27 t484.length co27] 28 (0, 0)) z26_ hb); replace BK477 := Aside0.mk (blk_below (g := gb477) (o := .cells #[.slice Ao33 t487.length co33] 28 (0, 0)) z34_ hb); replace BK496 := Aside0.mk (blk_below (g := gb496) (o := .cells #[.slice Ao119 t492.length co119] 28 (0, 0)) z190_ hb); replace HB := Aside0.mk (below_step z31_ hb); (try clear hb)))
                go_ret
                exact ⟨z4_, z31_⟩
          ·rw [if_neg c101] at H
           have c101b0 : (t488 == t486) = false := beq_eq_false_iff_ne.mpr c101
           have c101b1 : (t488 != t486) = true := bne_iff_ne.mpr c101
           obtain rfl := Option.some.inj H
           have hnb169 := NB477_459.out
           have hnc169 := NB459_477.out
           have hnb170 := NB477_468.out
           have hnc170 := NB468_477.out
           have hnb171 := NB477_472.out
           have hnc171 := NB472_477.out
           have hcz172_0 : wc.cell? ⟨gb477, 0, none⟩ = some (.slice Ao33 t473.length co33) := (blk_cell BK477.out 0).trans rfl
           have hfz172_0 := blk_frozen BK477.out 0
           go_wp2_with (first | ((with_reducible refine gate_callee (f := 26) rfl ?_); refine goesL_ (some 68) rfl rfl Try.func26 (by kernel_rfl) rfl #[.agg #[.slice Ao33 t473.length co33], .int .i64 1] rfl z1_ ?_; (with_reducible refine (laws_markDom.calls kj60 (fun k_ => some k_ = (.slice Ao33 t473.length co33 : Value).ownBlock) (.slice Ao33 t473.length co33) t473 1 t486 t487 w _ ?side1 ?side2 A91.out).mono ?_); (case side1 => exact z2_); (case side2 => exact Kd.R_tight rfl HO_478000.out); rintro e w173 ⟨rfl, hy0, hb, hkp⟩; refine ⟨_, rfl, ?_⟩; replace HO_469000 := Aside0.mk (Kd.R_mono (ok' := fun k_ => some k_ ≠ (.slice Ao27 t484.length co27 : Value).ownBlock ∧ some k_ ≠ (.slice Ao33 t473.length co33 : Value).ownBlock) (Kd.R_keptB (HO_469000.out) hkp (fun k_ hk_ hs_ => (hk_.2) hs_)) (fun k_ hk_ => ⟨hk_.1.1, hk_.1.2⟩)); replace HO_473000 := Aside0.mk (Kd.R_mono (ok' := fun k_ => some k_ ≠ (.slice Ao21 t464.length co21 : Value).ownBlock ∧ some k_ ≠ (.slice Ao33 t473.length co33 : Value).ownBlock) (Kd.R_keptB (HO_473000.out) hkp (fun k_ hk_ hs_ => (hk_.2) hs_)) (fun k_ hk_ => ⟨hk_.1.1, hk_.1.2⟩)); replace BK459 := Aside0.mk (blk_kept z15_ hkp (fun hs_ => (fun e_ => (Kd.R_ne HO_478000.out BK459.out (by decide)) e_) hs_)); replace BK468 := Aside0.mk (blk_kept z24_ hkp (fun hs_ => (fun e_ => (Kd.R_ne HO_478000.out BK468.out (by decide)) e_) hs_)); replace BK472 := Aside0.mk (blk_kept z26_ hkp (fun hs_ => (fun e_ => (Kd.R_ne HO_478000.out BK472.out (by decide)) e_) hs_)); replace BK477 := Aside0.mk (blk_kept z34_ hkp (fun hs_ => (fun e_ => (Kd.R_ne HO_478000.out BK477.out (by decide)) e_) hs_)); replace HO_478000 := Aside0.mk (Kd.R_reok rfl hy0 (fun k_ e_ => HO_478000.out.1 k_ e_)); replace HB := Aside0.mk (hb); (try clear hb hkp hy0); have hcz174_0 : w173.cell? ⟨gb477, 0, none⟩ = some (.slice Ao33 t473.length co33) := (blk_cell BK477.out 0).trans rfl; have hfz174_0 := blk_frozen BK477.out 0) | ((with_reducible refine gate_callee (f := 27) rfl ?_); refine goesL_ (some 71) rfl rfl Try.func27 (by kernel_rfl) rfl #[.agg #[.slice Ao33 t487.length co33], .int .i64 1] rfl z105_ ?_; (with_reducible refine (laws_heldDom.calls kj60 _ _ t487 1 t488 _ ?side1 ?side2 A92.out).mono ?_); (case side1 => exact z57_); (case side2 => exact z194_); rintro e w175 ⟨rfl, hb⟩; refine ⟨_, rfl, ?_⟩; replace HO_469000 := Aside0.mk (Kd.R_below z45_ hb); replace HO_473000 := Aside0.mk (Kd.R_below z46_ hb); replace HO_478000 := Aside0.mk (Kd.R_below z47_ hb); replace BK459 := Aside0.mk (blk_below (g := gb459) (o := .cells #[.slice A0_0 l0_0.length c0_0] 39 (0, 0)) z15_ hb); replace BK468 := Aside0.mk (blk_below (g := gb468) (o := .cells #[.slice Ao21 t464.length co21] 28 (0, 0)) z24_ hb); replace BK472 := Aside0.mk (blk_below (g := gb472) (o := .cells #[.slice Ao27 t484.length co27] 28 (0, 0)) z26_ hb); replace BK477 := Aside0.mk (blk_below (g := gb477) (o := .cells #[.slice Ao33 t473.length co33] 28 (0, 0)) z34_ hb); replace HB := Aside0.mk (below_step z2_ hb); (try clear hb)))
           go_ret
           exact ⟨z4_, z2_⟩
     ·replace c59 := Bool.eq_false_iff.mpr c59
      subst c59
      replace H := iff_ H
      obtain rfl := Option.some.inj H
      try go_wp2
      have n0_ := Aside0.mk (Kd.R_drew HO_469000.out)
      have n1_ := Aside0.mk (Kd.R_drew HO_473000.out)
      have n2_ := Aside0.mk (Kd.R_drew HO_478000.out)
      have n3_ := Aside0.mk (blk_drew BK459.out)
      have n4_ := Aside0.mk (blk_drew BK468.out)
      have n5_ := Aside0.mk (blk_drew BK472.out)
      have n6_ := Aside0.mk (blk_drew BK477.out)
      have n7_ := Aside0.mk (below_drew1 HB.out)
      clear HO_469000
      clear HO_473000
      clear HO_478000
      clear BK459
      clear BK468
      clear BK472
      clear BK477
      clear HB
      have HO_469000 := n0_
      have HO_473000 := n1_
      have HO_478000 := n2_
      have BK459 := n3_
      have BK468 := n4_
      have BK472 := n5_
      have BK477 := n6_
      have HB := n7_
      clear n0_ n1_ n2_ n3_ n4_ n5_ n6_ n7_
      refine start_ (n := 5) (S := fun w' => w'.cell? ⟨gb472, 0, none⟩ = some (.slice Ao27 t469.length co27) ∧ w'.cell? ⟨gb459, 0, none⟩ = some (.slice A0_0 l0_0.length c0_0)) (ds := []) (fl_ 5 0) (by kernel_rfl) rfl (fl_zero _) ⟨(blk_cell BK472.out 0).trans rfl, (blk_cell BK459.out 0).trans rfl⟩ (fun hHeld => ?_)
      generalize wc.drew = w176 at HO_469000 HO_473000 HO_478000 BK459 BK468 BK472 BK477 HB hHeld ⊢
      refine take_ (i := 0) (N := some 45) (v := ?_) (a' := ?_) #[true, false, false, false, false] rfl rfl (by kernel_rfl) (fun _ _ _ h => h) (Or.inl ⟨by rfl, ?_⟩) hHeld ?_ ?_
      rotate_left
      ·rintro w' ⟨s0, s1⟩
       go_simp
       with_reducible rfl
      rotate_left
      ·simp only [Act.put, List.setIfInBounds_toArray, List.set_cons_zero, List.set_cons_succ, i64_w, i32_w]
       rfl
      refine take_ (i := 1) (N := some 46) (v := ?_) (a' := ?_) #[true, true, false, false, false] rfl rfl (by kernel_rfl) (fun _ _ _ h => h) (Or.inl ⟨by rfl, ?_⟩) hHeld ?_ ?_
      rotate_left
      ·rintro w' ⟨s0, s1⟩
       go_simp
       with_reducible rfl
      rotate_left
      ·simp only [Act.put, List.setIfInBounds_toArray, List.set_cons_zero, List.set_cons_succ, i64_w, i32_w]
       rfl
      refine one_ (i := 2) (N := some 47) (fl_ 5 3) rfl rfl (by kernel_rfl) (by decide) (fun K hK => ?_)
      refine goes_ Try.func23 (by kernel_rfl) rfl #[.agg #[.slice A0_0 l0_0.length c0_0]] (by rfl) rfl rfl z1_ ?_
      with_reducible refine (laws_toDom.calls kj11 _ _ l0_0 t479 _ ?side1 ?side2 A57.out).mono ?_
      (case side1 => exact z10_)
      (case side2 => exact HC0_0.out)
      rintro e w177 ⟨v480, rfl, ho0, hb⟩
      refine ⟨_, rfl, ?_⟩
      have n0_ := Aside0.mk (Kd.R_elder' z45_ (Kd.R_base ho0) hb)
      have n1_ := Aside0.mk (Kd.R_elder' z46_ (Kd.R_base ho0) hb)
      have n2_ := Aside0.mk (Kd.R_elder' z47_ (Kd.R_base ho0) hb)
      have n3_ := Aside0.mk (Kd.R_lower (Kd.R_new' (Kd.R_new' (Kd.R_new' ho0 (Kd.R_lt z45_)) (Kd.R_lt z46_)) (Kd.R_lt z47_)) (below_size z2_))
      have n4_ := Aside0.mk (blk_below (g := gb459) (o := .cells #[.slice A0_0 l0_0.length c0_0] 39 (0, 0)) z15_ hb)
      have n5_ := Aside0.mk (blk_below (g := gb468) (o := .cells #[.slice Ao21 t464.length co21] 28 (0, 0)) z24_ hb)
      have n6_ := Aside0.mk (blk_below (g := gb472) (o := .cells #[.slice Ao27 t469.length co27] 28 (0, 0)) z26_ hb)
      have n7_ := Aside0.mk (blk_below (g := gb477) (o := .cells #[.slice Ao33 t473.length co33] 28 (0, 0)) z34_ hb)
      have n8_ := Aside0.mk (below_step z2_ hb)
      clear HO_469000
      clear HO_473000
      clear HO_478000
      clear BK459
      clear BK468
      clear BK472
      clear BK477
      clear HB
      have HO_469000 := n0_
      have HO_473000 := n1_
      have HO_478000 := n2_
      have HO481 := n3_
      have BK459 := n4_
      have BK468 := n5_
      have BK472 := n6_
      have BK477 := n7_
      have HB := n8_
      clear n0_ n1_ n2_ n3_ n4_ n5_ n6_ n7_ n8_
      (try clear hb)
      (try clear hb2)
      (try clear hk)
      (try clear hi)
      (try clear ho0)
      obtain ⟨Ao178, co178, eo178⟩ := Kd.R_slice HO481.out
      (first | subst eo178 | (injection eo178 with f1_ f2_ f3_; have f4_ := f1_.symm; have f5_ := f3_.symm; clear f1_ f2_ f3_; subst f4_; subst f5_))
      refine hK.out _ _ ⟨(blk_cell BK472.out 0).trans rfl, (blk_cell BK459.out 0).trans rfl⟩ (fun hHeld => ?_)
      clear hK K
      refine zn_ rfl ?_
      refine one_ (i := 3) (N := some 48) (fl_ 5 4) rfl rfl (by kernel_rfl) (by decide) (fun K hK => ?_)
      refine goes_ Try.func25 (by kernel_rfl) rfl #[.agg #[.slice Ao27 t469.length co27], .agg #[.slice Ao178 t479.length co178]] (by rfl) rfl rfl z1_ ?_
      with_reducible refine (laws_eqDom.calls kj11 _ _ t469 _ _ t479 false _ ?side1 ?side2 ?side3 ?side4 A58.out).mono ?_
      (case side1 => exact z185_)
      (case side2 => exact (Kd.R_reads' HO_473000.out).2.1)
      (case side3 => exact z193_)
      (case side4 => exact (Kd.R_reads' HO481.out).2.1)
      rintro e w179 ⟨rfl, hb⟩
      refine ⟨_, rfl, ?_⟩
      have n0_ := Aside0.mk (Kd.R_below z45_ hb)
      have n1_ := Aside0.mk (Kd.R_below z46_ hb)
      have n2_ := Aside0.mk (Kd.R_below z47_ hb)
      have n3_ := Aside0.mk (Kd.R_below z174_ hb)
      have n4_ := Aside0.mk (blk_below (g := gb459) (o := .cells #[.slice A0_0 l0_0.length c0_0] 39 (0, 0)) z15_ hb)
      have n5_ := Aside0.mk (blk_below (g := gb468) (o := .cells #[.slice Ao21 t464.length co21] 28 (0, 0)) z24_ hb)
      have n6_ := Aside0.mk (blk_below (g := gb472) (o := .cells #[.slice Ao27 t469.length co27] 28 (0, 0)) z26_ hb)
      have n7_ := Aside0.mk (blk_below (g := gb477) (o := .cells #[.slice Ao33 t473.length co33] 28 (0, 0)) z34_ hb)
      have n8_ := Aside0.mk (below_step z2_ hb)
      clear HO_469000
      clear HO_473000
      clear HO_478000
      clear HO481
      clear BK459
      clear BK468
      clear BK472
      clear BK477
      clear HB
      have HO_469000 := n0_
      have HO_473000 := n1_
      have HO_478000 := n2_
      have HO481 := n3_
      have BK459 := n4_
      have BK468 := n5_
      have BK472 := n6_
      have BK477 := n7_
      have HB := n8_
      clear n0_ n1_ n2_ n3_ n4_ n5_ n6_ n7_ n8_
      (try clear hb)
      (try clear hb2)
      (try clear hk)
      (try clear hi)
      refine hK.out _ _ ⟨(blk_cell BK472.out 0).trans rfl, (blk_cell BK459.out 0).trans rfl⟩ (fun hHeld => ?_)
      clear hK K
      refine zn_ rfl ?_
      refine pure_ (i := 4) (N := some 49) (v := ?_) (a' := ?_) #[true, true, true, true, true] rfl rfl (by kernel_rfl) (fun _ _ _ h => h) (Or.inl ⟨by rfl, ?_⟩) ?_ ?_
      rotate_left
      ·intro w'
       go_simp
       with_reducible rfl
      rotate_left
      ·simp only [Act.put, List.setIfInBounds_toArray, List.set_cons_zero, List.set_cons_succ, i64_w, i32_w]
       rfl
      refine done_ (by kernel_rfl) ?_
      try go_wp2
      go_ret
      exact ⟨z4_, z2_⟩

end Go.Proofs.Ytdapeboajjidmab.PFnExactDomDelete
