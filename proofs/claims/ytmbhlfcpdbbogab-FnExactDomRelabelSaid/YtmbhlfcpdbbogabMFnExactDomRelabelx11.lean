/- Laid by a program of this session out of the kit's print for the law FnExactDomRelabel: what it says of the machine is proved here, function by function; each contract under the conditions that it names. -/
import Derived.Test.YtmbhlfcpdbbogabMFnExactDomRelabelx0
import Derived.Test.YtmbhlfcpdbbogabMFnExactDomRelabelx2
import Derived.Test.YtmbhlfcpdbbogabMFnExactDomRelabelx6
import Derived.Test.YtmbhlfcpdbbogabMFnExactDomRelabelx9
import Derived.Test.YtmbhlfcpdbbogabMFnExactDomRelabelx10
namespace Go.Proofs.Ytmbhlfcpdbbogab.PFnExactDomRelabel
open Go.RowKit Go.Proofs.YtmbhlfcpdbbogabW.PrintWords Go.Proofs.YtmbhlfcpdbbogabW.PrintLast Go.Proofs.YtmbhlfcpdbbogabW.PrintMore
attribute [local go_sem] max2_int min2_int max_two min_two max_three min_three max_four min_four   -- for this text's walks alone
set_option linter.unusedVariables false
set_option linter.unusedSimpArgs false

/-! ### laws_FnExactDomRelabel: function 3 -/
mutual
def laws_FnExactDomRelabel.j0 : Nat → Int → Int → Bool → Bool → Bool → List (S131) → List (S90) → List (S90) → List (S90) → Option (Bool)
 | 0, _, _, _, _, _, _, _, _, _ => none
 | k + 1, x1, x2, x9, x12, x48, x325000, x334000, x338000, x343000 => if x48 = true then (some false) else ((laws_toDom.f k x325000).bind fun t344 => ((laws_eqDom.f k x338000 t344).bind fun t347 => (if t347 = true then ((laws_markDom.f k x338000 1).bind fun bt348 => (if bt348.1 < 0 then (laws_FnExactDomRelabel.j1 k x1 x2 x9 true x325000 x334000 x343000) else ((laws_eqDom.f k x343000 x334000).bind fun t350 => (if t350 = true then (laws_FnExactDomRelabel.j1 k x1 x2 x9 (x12 != x9) x325000 x334000 x343000) else (laws_FnExactDomRelabel.j1 k x1 x2 x9 true x325000 x334000 x343000))))) else (some false))))
def laws_FnExactDomRelabel.j1 : Nat → Int → Int → Bool → Bool → List (S131) → List (S90) → List (S90) → Option (Bool)
 | 0, _, _, _, _, _, _, _ => none
 | k + 1, x1, x2, x9, x69, x325000, x334000, x343000 => if x69 = true then (some false) else ((laws_markDom.f k x343000 1).bind fun bt351 => ((laws_heldDom.f k bt351.2 1).bind fun t353 => (if t353 < 0 then (some false) else (if t353 = bt351.1 then ((laws_toDom.f k x325000).bind fun t354 => ((impl_DomRelabel.f k t354 x1 x2).bind fun bt357 => ((laws_eqDom.f k bt357.1 x334000).bind fun t362 => (if t362 = true then (laws_FnExactDomRelabel.j2 k bt351.1 (bt357.2 != x9) bt351.2) else (laws_FnExactDomRelabel.j2 k bt351.1 true bt351.2))))) else (some false)))))
def laws_FnExactDomRelabel.j2 : Nat → Int → Bool → List (S90) → Option (Bool)
 | 0, _, _, _ => none
 | k + 1, x14, x97, x343000 => if x97 = true then (some false) else ((laws_heldDom.f k x343000 1).bind fun t363 => (if t363 < 0 then (some false) else (if t363 = x14 then (some true) else (some false))))
end
def laws_FnExactDomRelabel.f (k : Nat) (l0_0 : List (S131)) (a1 : Int) (a2 : Int) : Option (Bool) := (laws_szDom.f l0_0 1048576).bind fun t325 => (if t325 < 0 then (some true) else ((laws_toDom.f k l0_0).bind fun t326 => ((spec_DomRelabel.f k t326 a1 a2).bind fun bt329 => ((laws_toDom.f k l0_0).bind fun t334 => ((impl_DomRelabel.f k t334 a1 a2).bind fun bt338 => ((laws_eqDom.f k bt338.1 bt329.1).bind fun t343 => (if t343 = true then (laws_FnExactDomRelabel.j0 k a1 a2 bt329.2 bt338.2 (bt338.2 != bt329.2) l0_0 bt329.1 t334 bt338.1) else (laws_FnExactDomRelabel.j0 k a1 a2 bt329.2 bt338.2 true l0_0 bt329.1 t334 bt338.1))))))))
theorem laws_FnExactDomRelabel.mono_l : ∀ k, (∀ y0 y1 y2 y3 y4 y5 y6 y7 y8, LeO (laws_FnExactDomRelabel.j0 k y0 y1 y2 y3 y4 y5 y6 y7 y8) (laws_FnExactDomRelabel.j0 (k + 1) y0 y1 y2 y3 y4 y5 y6 y7 y8)) ∧ (∀ y0 y1 y2 y3 y4 y5 y6, LeO (laws_FnExactDomRelabel.j1 k y0 y1 y2 y3 y4 y5 y6) (laws_FnExactDomRelabel.j1 (k + 1) y0 y1 y2 y3 y4 y5 y6)) ∧ (∀ y0 y1 y2, LeO (laws_FnExactDomRelabel.j2 k y0 y1 y2) (laws_FnExactDomRelabel.j2 (k + 1) y0 y1 y2))
 | 0 => ⟨fun _ _ _ _ _ _ _ _ _ r h => by simp [laws_FnExactDomRelabel.j0] at h, fun _ _ _ _ _ _ _ r h => by simp [laws_FnExactDomRelabel.j1] at h, fun _ _ _ r h => by simp [laws_FnExactDomRelabel.j2] at h⟩
 | k + 1 => by
  obtain ⟨ih0, ih1, ih2⟩ := laws_FnExactDomRelabel.mono_l k
  refine ⟨?_, ?_, ?_⟩
  ·intro y0 y1 y2 y3 y4 y5 y6 y7 y8
   unfold laws_FnExactDomRelabel.j0
   repeat' first | (with_reducible first | exact ih0 _ _ _ _ _ _ _ _ _ | exact ih1 _ _ _ _ _ _ _ | exact ih2 _ _ _ | exact impl_DomRelabel.mono _ _ _ _ | exact laws_eqDom.mono _ _ _ | exact laws_heldDom.mono _ _ _ | exact laws_markDom.mono _ _ _ | exact laws_toDom.mono _ _ | exact spec_DomRelabel.mono _ _ _ _ | exact LeO.refl _ | exact LeO.none _ | refine LeO.ite ?_ ?_ | refine LeO.bind ?_ (fun _ => ?_)) | exact ih0 _ _ _ _ _ _ _ _ _ | exact ih1 _ _ _ _ _ _ _ | exact ih2 _ _ _ | exact impl_DomRelabel.mono _ _ _ _ | exact laws_eqDom.mono _ _ _ | exact laws_heldDom.mono _ _ _ | exact laws_markDom.mono _ _ _ | exact laws_toDom.mono _ _ | exact spec_DomRelabel.mono _ _ _ _ | exact LeO.none _ | refine LeO.ite ?_ ?_ | refine LeO.bind ?_ (fun _ => ?_)
  ·intro y0 y1 y2 y3 y4 y5 y6
   unfold laws_FnExactDomRelabel.j1
   repeat' first | (with_reducible first | exact ih0 _ _ _ _ _ _ _ _ _ | exact ih1 _ _ _ _ _ _ _ | exact ih2 _ _ _ | exact impl_DomRelabel.mono _ _ _ _ | exact laws_eqDom.mono _ _ _ | exact laws_heldDom.mono _ _ _ | exact laws_markDom.mono _ _ _ | exact laws_toDom.mono _ _ | exact spec_DomRelabel.mono _ _ _ _ | exact LeO.refl _ | exact LeO.none _ | refine LeO.ite ?_ ?_ | refine LeO.bind ?_ (fun _ => ?_)) | exact ih0 _ _ _ _ _ _ _ _ _ | exact ih1 _ _ _ _ _ _ _ | exact ih2 _ _ _ | exact impl_DomRelabel.mono _ _ _ _ | exact laws_eqDom.mono _ _ _ | exact laws_heldDom.mono _ _ _ | exact laws_markDom.mono _ _ _ | exact laws_toDom.mono _ _ | exact spec_DomRelabel.mono _ _ _ _ | exact LeO.none _ | refine LeO.ite ?_ ?_ | refine LeO.bind ?_ (fun _ => ?_)
  ·intro y0 y1 y2
   unfold laws_FnExactDomRelabel.j2
   repeat' first | (with_reducible first | exact ih0 _ _ _ _ _ _ _ _ _ | exact ih1 _ _ _ _ _ _ _ | exact ih2 _ _ _ | exact impl_DomRelabel.mono _ _ _ _ | exact laws_eqDom.mono _ _ _ | exact laws_heldDom.mono _ _ _ | exact laws_markDom.mono _ _ _ | exact laws_toDom.mono _ _ | exact spec_DomRelabel.mono _ _ _ _ | exact LeO.refl _ | exact LeO.none _ | refine LeO.ite ?_ ?_ | refine LeO.bind ?_ (fun _ => ?_)) | exact ih0 _ _ _ _ _ _ _ _ _ | exact ih1 _ _ _ _ _ _ _ | exact ih2 _ _ _ | exact impl_DomRelabel.mono _ _ _ _ | exact laws_eqDom.mono _ _ _ | exact laws_heldDom.mono _ _ _ | exact laws_markDom.mono _ _ _ | exact laws_toDom.mono _ _ | exact spec_DomRelabel.mono _ _ _ _ | exact LeO.none _ | refine LeO.ite ?_ ?_ | refine LeO.bind ?_ (fun _ => ?_)
theorem laws_FnExactDomRelabel.mono : ∀ a0 a1 a2 k, LeO (laws_FnExactDomRelabel.f k a0 a1 a2) (laws_FnExactDomRelabel.f (k + 1) a0 a1 a2) := by
 intro a0 a1 a2 k
 obtain ⟨ih0, ih1, ih2⟩ := laws_FnExactDomRelabel.mono_l k
 unfold laws_FnExactDomRelabel.f
 repeat' first | (with_reducible first | exact ih0 _ _ _ _ _ _ _ _ _ | exact ih1 _ _ _ _ _ _ _ | exact ih2 _ _ _ | exact impl_DomRelabel.mono _ _ _ _ | exact laws_eqDom.mono _ _ _ | exact laws_heldDom.mono _ _ _ | exact laws_markDom.mono _ _ _ | exact laws_toDom.mono _ _ | exact spec_DomRelabel.mono _ _ _ _ | exact LeO.refl _ | exact LeO.none _ | refine LeO.ite ?_ ?_ | refine LeO.bind ?_ (fun _ => ?_)) | exact ih0 _ _ _ _ _ _ _ _ _ | exact ih1 _ _ _ _ _ _ _ | exact ih2 _ _ _ | exact impl_DomRelabel.mono _ _ _ _ | exact laws_eqDom.mono _ _ _ | exact laws_heldDom.mono _ _ _ | exact laws_markDom.mono _ _ _ | exact laws_toDom.mono _ _ | exact spec_DomRelabel.mono _ _ _ _ | exact LeO.none _ | refine LeO.ite ?_ ?_ | refine LeO.bind ?_ (fun _ => ?_)
set_option maxHeartbeats 8000000 in
set_option maxRecDepth 100000 in
theorem laws_FnExactDomRelabel.calls (k : Nat) (A0_0 : Option Addr) (c0_0 : Nat) (l0_0 : List (S131)) (a1 : Int) (a2 : Int) (r : Bool) (w : World) (hr0_0 : Kd.C k131 w A0_0 l0_0.length l0_0) (hc0_0 : l0_0.length ≤ c0_0) (h : laws_FnExactDomRelabel.f k l0_0 a1 a2 = some r) :
  Calls Try.prog 3 #[.agg #[.slice A0_0 l0_0.length c0_0], .int .i64 a1, .int .i64 a2] w fun e w' => e = .returned (.bool r) ∧ Below w.heap.size w w' := by
 have hu24 := Try.underlying24
 have hu28 := Try.underlying28
 have HR0_0 := Aside0.mk hr0_0
 have HC0_0 := Aside0.mk hc0_0
 clear hr0_0 hc0_0
 have HB := Aside0.mk (Below.refl w.heap.size w)
 have H : ((laws_szDom.f l0_0 1048576).bind fun t325 => (if t325 < 0 then (some true) else ((laws_toDom.f k l0_0).bind fun t326 => ((spec_DomRelabel.f k t326 a1 a2).bind fun bt329 => ((laws_toDom.f k l0_0).bind fun t334 => ((impl_DomRelabel.f k t334 a1 a2).bind fun bt338 => ((laws_eqDom.f k bt338.1 bt329.1).bind fun t343 => (if t343 = true then (laws_FnExactDomRelabel.j0 k a1 a2 bt329.2 bt338.2 (bt338.2 != bt329.2) l0_0 bt329.1 t334 bt338.1) else (laws_FnExactDomRelabel.j0 k a1 a2 bt329.2 bt338.2 true l0_0 bt329.1 t334 bt338.1))))))))) = some r := h
 clear h
 obtain ⟨t325, A4, H⟩ := bnd_ H
 by_cases c5 : t325 < 0
 ·rw [if_pos c5] at H
  have c5b0 : decide (t325 < 0) = true := decide_eq_true c5
  clear c5
  obtain rfl := Option.some.inj H
  go_enter Try.func3, Try.ntmps3
  go_wp2_with (first | ((with_reducible refine gate_dst (N := 3) rfl ?_); refine box_event ?hg (N := 3) ?hd (cs := #[.slice A0_0 l0_0.length c0_0]) (t := 24) ?hr ?_; (case hd => rfl); (case hg => rfl); (case hr => exact z20_); intro gb324 hg w6 hbox hb; have BK324 := Aside0.mk (hbox); have GW324 := Aside0.mk ((by rw [hg]; exact (below_size z0_) : w.heap.size ≤ gb324)); have GE324 := Aside0.mk ((by rw [hg]; exact (below_size z0_) : w.heap.size ≤ gb324)); replace HB := Aside0.mk (below_step z0_ hb); clear hb hbox hg; have hcz7_0 : w6.cell? ⟨gb324, 0, none⟩ = some (.slice A0_0 l0_0.length c0_0) := (blk_cell BK324.out 0).trans rfl; have hfz7_0 := blk_frozen BK324.out 0) | ((with_reducible refine gate_callee (f := 9) rfl ?_); refine goesL_ (some 20) rfl rfl Try.func9 (by kernel_rfl) rfl #[.agg #[.slice A0_0 l0_0.length c0_0], .int .i64 1048576] rfl z1_ ?_; (with_reducible refine (laws_szDom.calls _ _ l0_0 1048576 t325 _ ?side1 ?side2 A4.out).mono ?_); (case side1 => exact z10_); (case side2 => exact HC0_0.out); rintro e w8 ⟨rfl, hb⟩; refine ⟨_, rfl, ?_⟩; replace BK324 := Aside0.mk (blk_below (g := gb324) (o := .cells #[.slice A0_0 l0_0.length c0_0] 24 (0, 0)) z13_ hb); replace HB := Aside0.mk (below_step z54_ hb); (try clear hb)))
  go_ret
  exact ⟨z4_, z54_⟩
 ·rw [if_neg c5] at H
  have c5b0 : decide (t325 < 0) = false := decide_eq_false c5
  clear c5
  obtain ⟨t326, A9, H⟩ := bnd_ H
  replace H := Option.bind_eq_some_iff.mp H
  obtain ⟨⟨t329, t332⟩, A100, H⟩ := H
  replace H : ((laws_toDom.f k l0_0).bind fun t334 => ((impl_DomRelabel.f k t334 a1 a2).bind fun bt338 => ((laws_eqDom.f k bt338.1 t329).bind fun t343 => (if t343 = true then (laws_FnExactDomRelabel.j0 k a1 a2 t332 bt338.2 (bt338.2 != t332) l0_0 t329 t334 bt338.1) else (laws_FnExactDomRelabel.j0 k a1 a2 t332 bt338.2 true l0_0 t329 t334 bt338.1))))) = some r := H
  have A10 := Aside0.mk A100
  clear A100
  obtain ⟨t334, A11, H⟩ := bnd_ H
  replace H := Option.bind_eq_some_iff.mp H
  obtain ⟨⟨t338, t341⟩, A120, H⟩ := H
  replace H : ((laws_eqDom.f k t338 t329).bind fun t343 => (if t343 = true then (laws_FnExactDomRelabel.j0 k a1 a2 t332 t341 (t341 != t332) l0_0 t329 t334 t338) else (laws_FnExactDomRelabel.j0 k a1 a2 t332 t341 true l0_0 t329 t334 t338))) = some r := H
  have A12 := Aside0.mk A120
  clear A120
  have HC13 := Aside0.mk H
  clear H
  go_enter Try.func3, Try.ntmps3
  go_upto_region 8 with (first | ((with_reducible refine gate_dst (N := 3) rfl ?_); refine box_event ?hg (N := 3) ?hd (cs := #[.slice A0_0 l0_0.length c0_0]) (t := 24) ?hr ?_; (case hd => rfl); (case hg => rfl); (case hr => exact z20_); intro gb324 hg w14 hbox hb; have BK324 := Aside0.mk (hbox); have GW324 := Aside0.mk ((by rw [hg]; exact (below_size z0_) : w.heap.size ≤ gb324)); have GE324 := Aside0.mk ((by rw [hg]; exact (below_size z0_) : w.heap.size ≤ gb324)); replace HB := Aside0.mk (below_step z0_ hb); clear hb hbox hg; have hcz15_0 : w14.cell? ⟨gb324, 0, none⟩ = some (.slice A0_0 l0_0.length c0_0) := (blk_cell BK324.out 0).trans rfl; have hfz15_0 := blk_frozen BK324.out 0) | ((with_reducible refine gate_callee (f := 9) rfl ?_); refine goesL_ (some 20) rfl rfl Try.func9 (by kernel_rfl) rfl #[.agg #[.slice A0_0 l0_0.length c0_0], .int .i64 1048576] rfl z1_ ?_; (with_reducible refine (laws_szDom.calls _ _ l0_0 1048576 t325 _ ?side1 ?side2 A4.out).mono ?_); (case side1 => exact z10_); (case side2 => exact HC0_0.out); rintro e w16 ⟨rfl, hb⟩; refine ⟨_, rfl, ?_⟩; replace BK324 := Aside0.mk (blk_below (g := gb324) (o := .cells #[.slice A0_0 l0_0.length c0_0] 24 (0, 0)) z13_ hb); replace HB := Aside0.mk (below_step z54_ hb); (try clear hb); have hcz17_0 : w16.cell? ⟨gb324, 0, none⟩ = some (.slice A0_0 l0_0.length c0_0) := (blk_cell BK324.out 0).trans rfl; have hfz17_0 := blk_frozen BK324.out 0) | ((with_reducible refine gate_callee (f := 11) rfl ?_); refine goesL_ (some 25) rfl rfl Try.func11 (by kernel_rfl) rfl #[.agg #[.slice A0_0 l0_0.length c0_0]] rfl z1_ ?_; (with_reducible refine (laws_toDom.calls k _ _ l0_0 t326 _ ?side1 ?side2 A9.out).mono ?_); (case side1 => exact z10_); (case side2 => exact HC0_0.out); rintro e w18 ⟨v327, rfl, ho0, hb⟩; refine ⟨_, rfl, ?_⟩; have HO328 := Aside0.mk (Kd.R_lower ho0 (below_size z54_)); replace BK324 := Aside0.mk (blk_below (g := gb324) (o := .cells #[.slice A0_0 l0_0.length c0_0] 24 (0, 0)) z13_ hb); replace HB := Aside0.mk (below_step z54_ hb); (try clear hb ho0); obtain ⟨Ao19, co19, eo19⟩ := Kd.R_slice HO328.out; subst eo19) | ((with_reducible refine gate_callee (f := 10) rfl ?_); refine goesL_ (some 28) rfl rfl Try.func10 (by kernel_rfl) rfl #[.agg #[.slice Ao19 t326.length co19], .int .i64 a1, .int .i64 a2] rfl z1_ ?_; (with_reducible refine (spec_DomRelabel.calls k _ _ t326 a1 a2 t329 t332 _ ?side1 ?side2 A10.out).mono ?_); (case side1 => repeat (first | exact (Kd.R_reads' HO328.out).2.2 | (with_reducible refine Kd.C_alloc ?_ _) | (with_reducible refine Kd.C_drewN ?_ _) | (with_reducible refine Kd.C_drew ?_))); (case side2 => exact (Kd.R_reads' HO328.out).2.1); rintro e w20 ⟨v330, rfl, ho0, hb⟩; refine ⟨_, rfl, ?_⟩; have HO331 := Aside0.mk (Kd.R_lower (Kd.R_new' ho0 (Kd.R_lt z122_)) (below_size z54_)); replace HO328 := Aside0.mk (Kd.R_elder' z122_ (Kd.R_base ho0) hb); replace BK324 := Aside0.mk (blk_below (g := gb324) (o := .cells #[.slice A0_0 l0_0.length c0_0] 24 (0, 0)) z13_ hb); replace HB := Aside0.mk (below_step z54_ hb); (try clear hb ho0)) | ((with_reducible refine gate_dst (N := 8) rfl ?_); refine box_event ?hg (N := 8) ?hd (cs := #[.slice none 0 0]) (t := 28) ?hr ?_; (case hd => rfl); (case hg => rfl); (case hr => exact z20_); intro gb333 hg w21 hbox hb; replace HO328 := Aside0.mk (Kd.R_below z122_ hb); replace HO331 := Aside0.mk (Kd.R_below z192_ hb); have BK333 := Aside0.mk (hbox); have GW333 := Aside0.mk ((by rw [hg]; exact (below_size z54_) : w.heap.size ≤ gb333)); have GE333 := Aside0.mk ((by rw [hg]; exact (below_size z54_) : w.heap.size ≤ gb333)); replace HB := Aside0.mk (below_step z54_ hb); have NB324_333 := Aside0.mk ((by rw [hg]; exact Nat.ne_of_lt (blk_lt (g := gb324) (o := .cells #[.slice A0_0 l0_0.length c0_0] 24 (0, 0)) z13_) : gb324 ≠ gb333)); have NB333_324 := Aside0.mk ((by rw [hg]; exact Nat.ne_of_gt (blk_lt (g := gb324) (o := .cells #[.slice A0_0 l0_0.length c0_0] 24 (0, 0)) z13_) : gb333 ≠ gb324)); replace BK324 := Aside0.mk (blk_below (g := gb324) (o := .cells #[.slice A0_0 l0_0.length c0_0] 24 (0, 0)) z13_ hb); clear hb hbox hg; obtain ⟨Ao22, co22, eo22⟩ := Kd.R_slice HO331.out; subst eo22; have hnb23 := NB333_324.out; have hnc23 := NB324_333.out; have hcz24_0 : w21.cell? ⟨gb333, 0, none⟩ = some (.slice none 0 0) := (blk_cell BK333.out 0).trans rfl; have hfz24_0 := blk_frozen BK333.out 0; have hcz25_0 : w21.cell? ⟨gb324, 0, none⟩ = some (.slice A0_0 l0_0.length c0_0) := (blk_cell BK324.out 0).trans rfl; have hfz25_0 := blk_frozen BK324.out 0) | ((with_reducible refine gate_callee (f := 11) rfl ?_); refine goesL_ (some 32) rfl rfl Try.func11 (by kernel_rfl) rfl #[.agg #[.slice A0_0 l0_0.length c0_0]] rfl z1_ ?_; (with_reducible refine (laws_toDom.calls k _ _ l0_0 t334 _ ?side1 ?side2 A11.out).mono ?_); (case side1 => exact Kd.C_below HR0_0.out z68_); (case side2 => exact HC0_0.out); rintro e w26 ⟨v335, rfl, ho0, hb⟩; refine ⟨_, rfl, ?_⟩; have HO336 := Aside0.mk (Kd.R_lower (Kd.R_new' (Kd.R_new' ho0 (Kd.R_lt z125_)) (Kd.R_lt z126_)) (below_size z68_)); replace HO328 := Aside0.mk (Kd.R_elder' z125_ (Kd.R_base ho0) hb); replace HO331 := Aside0.mk (Kd.R_elder' z126_ (Kd.R_base ho0) hb); replace BK324 := Aside0.mk (blk_below (g := gb324) (o := .cells #[.slice A0_0 l0_0.length c0_0] 24 (0, 0)) (by (with_reducible repeat (first | refine blk_drewN ?_ _ | refine blk_drew ?_ | refine blk_alloc ?_ _)); refine blk_far ?_ NB324_333.out _; (with_reducible repeat (first | refine blk_drewN ?_ _ | refine blk_drew ?_ | refine blk_alloc ?_ _)); exact BK324.out) hb); replace BK333 := Aside0.mk (blk_below (g := gb333) (o := .cells #[.slice Ao22 t329.length co22] 28 (0, 0)) (by (with_reducible repeat (first | refine blk_drewN ?_ _ | refine blk_drew ?_ | refine blk_alloc ?_ _)); refine blk_put (cs := #[.slice none 0 0]) ?_ 0 _ rfl; (with_reducible repeat (first | refine blk_drewN ?_ _ | refine blk_drew ?_ | refine blk_alloc ?_ _)); exact BK333.out) hb); replace HB := Aside0.mk (below_step z68_ hb); (try clear hb ho0)) | ((with_reducible refine gate_dst (N := 10) rfl ?_); refine box_event ?hg (N := 10) ?hd (cs := #[.slice none 0 0]) (t := 28) ?hr ?_; (case hd => rfl); (case hg => rfl); (case hr => exact z20_); intro gb337 hg w27 hbox hb; replace HO328 := Aside0.mk (Kd.R_below z122_ hb); replace HO331 := Aside0.mk (Kd.R_below z192_ hb); replace HO336 := Aside0.mk (Kd.R_below z224_ hb); have BK337 := Aside0.mk (hbox); have GW337 := Aside0.mk ((by rw [hg]; exact (below_size z68_) : w.heap.size ≤ gb337)); have GE337 := Aside0.mk ((by rw [hg]; exact (below_size z68_) : w.heap.size ≤ gb337)); replace HB := Aside0.mk (below_step z68_ hb); have NB324_337 := Aside0.mk ((by rw [hg]; exact Nat.ne_of_lt (blk_lt (g := gb324) (o := .cells #[.slice A0_0 l0_0.length c0_0] 24 (0, 0)) z13_) : gb324 ≠ gb337)); have NB337_324 := Aside0.mk ((by rw [hg]; exact Nat.ne_of_gt (blk_lt (g := gb324) (o := .cells #[.slice A0_0 l0_0.length c0_0] 24 (0, 0)) z13_) : gb337 ≠ gb324)); replace BK324 := Aside0.mk (blk_below (g := gb324) (o := .cells #[.slice A0_0 l0_0.length c0_0] 24 (0, 0)) z13_ hb); have NB333_337 := Aside0.mk ((by rw [hg]; exact Nat.ne_of_lt (blk_lt (g := gb333) (o := .cells #[.slice Ao22 t329.length co22] 28 (0, 0)) z23_) : gb333 ≠ gb337)); have NB337_333 := Aside0.mk ((by rw [hg]; exact Nat.ne_of_gt (blk_lt (g := gb333) (o := .cells #[.slice Ao22 t329.length co22] 28 (0, 0)) z23_) : gb337 ≠ gb333)); replace BK333 := Aside0.mk (blk_below (g := gb333) (o := .cells #[.slice Ao22 t329.length co22] 28 (0, 0)) z23_ hb); clear hb hbox hg; obtain ⟨Ao28, co28, eo28⟩ := Kd.R_slice HO336.out; subst eo28; have hnb29 := NB337_324.out; have hnc29 := NB324_337.out; have hnb30 := NB337_333.out; have hnc30 := NB333_337.out; have hcz31_0 : w27.cell? ⟨gb337, 0, none⟩ = some (.slice none 0 0) := (blk_cell BK337.out 0).trans rfl; have hfz31_0 := blk_frozen BK337.out 0) | ((with_reducible refine gate_callee (f := 12) rfl ?_); refine goesL_ (some 37) rfl rfl Try.func12 (by kernel_rfl) rfl #[.agg #[.slice Ao28 t334.length co28], .int .i64 a1, .int .i64 a2] rfl z1_ ?_; (with_reducible refine (impl_DomRelabel.calls k _ _ t334 a1 a2 t338 t341 _ ?side1 ?side2 A12.out).mono ?_); (case side1 => refine (Kd.R_reads' (e := 90) (base := w.heap.size) (ok := fun k_ => ((True ∧ some k_ ≠ (.slice Ao19 t326.length co19 : Value).ownBlock) ∧ some k_ ≠ (.slice Ao22 t329.length co22 : Value).ownBlock)) (n := t334.length) (c := co28) ?_).2.2; exact z99_); (case side2 => exact (Kd.R_reads' HO336.out).2.1); rintro e w32 ⟨v339, rfl, ho0, hb⟩; refine ⟨_, rfl, ?_⟩; have HO340 := Aside0.mk (Kd.R_lower (Kd.R_new' (Kd.R_new' (Kd.R_new' ho0 (Kd.R_lt z127_)) (Kd.R_lt z128_)) (Kd.R_lt z99_)) (below_size z69_)); replace HO328 := Aside0.mk (Kd.R_elder' z127_ (Kd.R_base ho0) hb); replace HO331 := Aside0.mk (Kd.R_elder' z128_ (Kd.R_base ho0) hb); replace HO336 := Aside0.mk (Kd.R_elder' z99_ (Kd.R_base ho0) hb); replace BK324 := Aside0.mk (blk_below (g := gb324) (o := .cells #[.slice A0_0 l0_0.length c0_0] 24 (0, 0)) (by (with_reducible repeat (first | refine blk_drewN ?_ _ | refine blk_drew ?_ | refine blk_alloc ?_ _)); refine blk_far ?_ NB324_337.out _; (with_reducible repeat (first | refine blk_drewN ?_ _ | refine blk_drew ?_ | refine blk_alloc ?_ _)); exact BK324.out) hb); replace BK333 := Aside0.mk (blk_below (g := gb333) (o := .cells #[.slice Ao22 t329.length co22] 28 (0, 0)) (by (with_reducible repeat (first | refine blk_drewN ?_ _ | refine blk_drew ?_ | refine blk_alloc ?_ _)); refine blk_far ?_ NB333_337.out _; (with_reducible repeat (first | refine blk_drewN ?_ _ | refine blk_drew ?_ | refine blk_alloc ?_ _)); exact BK333.out) hb); replace BK337 := Aside0.mk (blk_below (g := gb337) (o := .cells #[.slice Ao28 t334.length co28] 28 (0, 0)) (by (with_reducible repeat (first | refine blk_drewN ?_ _ | refine blk_drew ?_ | refine blk_alloc ?_ _)); refine blk_put (cs := #[.slice none 0 0]) ?_ 0 _ rfl; (with_reducible repeat (first | refine blk_drewN ?_ _ | refine blk_drew ?_ | refine blk_alloc ?_ _)); exact BK337.out) hb); replace HB := Aside0.mk (below_step z69_ hb); (try clear hb ho0)) | ((with_reducible refine gate_dst (N := 11) rfl ?_); refine box_event ?hg (N := 11) ?hd (cs := #[.slice none 0 0]) (t := 28) ?hr ?_; (case hd => rfl); (case hg => rfl); (case hr => exact z20_); intro gb342 hg w33 hbox hb; replace HO328 := Aside0.mk (Kd.R_below z122_ hb); replace HO331 := Aside0.mk (Kd.R_below z192_ hb); replace HO336 := Aside0.mk (Kd.R_below z224_ hb); replace HO340 := Aside0.mk (Kd.R_below (by (with_reducible repeat (first | apply Kd.R_alloc | apply Kd.R_drewN | apply Kd.R_drew)); exact HO340.out) hb); have BK342 := Aside0.mk (hbox); have GW342 := Aside0.mk ((by rw [hg]; exact (below_size z69_) : w.heap.size ≤ gb342)); have GE342 := Aside0.mk ((by rw [hg]; exact (below_size z69_) : w.heap.size ≤ gb342)); replace HB := Aside0.mk (below_step z69_ hb); have NB324_342 := Aside0.mk ((by rw [hg]; exact Nat.ne_of_lt (blk_lt (g := gb324) (o := .cells #[.slice A0_0 l0_0.length c0_0] 24 (0, 0)) z13_) : gb324 ≠ gb342)); have NB342_324 := Aside0.mk ((by rw [hg]; exact Nat.ne_of_gt (blk_lt (g := gb324) (o := .cells #[.slice A0_0 l0_0.length c0_0] 24 (0, 0)) z13_) : gb342 ≠ gb324)); replace BK324 := Aside0.mk (blk_below (g := gb324) (o := .cells #[.slice A0_0 l0_0.length c0_0] 24 (0, 0)) z13_ hb); have NB333_342 := Aside0.mk ((by rw [hg]; exact Nat.ne_of_lt (blk_lt (g := gb333) (o := .cells #[.slice Ao22 t329.length co22] 28 (0, 0)) z23_) : gb333 ≠ gb342)); have NB342_333 := Aside0.mk ((by rw [hg]; exact Nat.ne_of_gt (blk_lt (g := gb333) (o := .cells #[.slice Ao22 t329.length co22] 28 (0, 0)) z23_) : gb342 ≠ gb333)); replace BK333 := Aside0.mk (blk_below (g := gb333) (o := .cells #[.slice Ao22 t329.length co22] 28 (0, 0)) z23_ hb); have NB337_342 := Aside0.mk ((by rw [hg]; exact Nat.ne_of_lt (blk_lt (g := gb337) (o := .cells #[.slice Ao28 t334.length co28] 28 (0, 0)) z24_) : gb337 ≠ gb342)); have NB342_337 := Aside0.mk ((by rw [hg]; exact Nat.ne_of_gt (blk_lt (g := gb337) (o := .cells #[.slice Ao28 t334.length co28] 28 (0, 0)) z24_) : gb342 ≠ gb337)); replace BK337 := Aside0.mk (blk_below (g := gb337) (o := .cells #[.slice Ao28 t334.length co28] 28 (0, 0)) z24_ hb); clear hb hbox hg; obtain ⟨Ao34, co34, eo34⟩ := Kd.R_slice HO340.out; subst eo34; have hnb35 := NB342_324.out; have hnc35 := NB324_342.out; have hnb36 := NB342_333.out; have hnc36 := NB333_342.out; have hnb37 := NB342_337.out; have hnc37 := NB337_342.out; have hcz38_0 : w33.cell? ⟨gb342, 0, none⟩ = some (.slice none 0 0) := (blk_cell BK342.out 0).trans rfl; have hfz38_0 := blk_frozen BK342.out 0))
  (try simp only [Act.put, List.setIfInBounds_toArray, List.set_cons_zero, List.set_cons_succ])
  go_cut [48] (fun v48 wc => ∃ (kq : Nat) (x48_12 : Bool), v48 = .bool x48_12 ∧ Aside0 (laws_FnExactDomRelabel.j0 kq a1 a2 t332 t341 x48_12 l0_0 t329 t334 t338 = some r) ∧ Aside0 (kq ≤ k) ∧ Aside0 (Kd.R k90 90 wc w.heap.size (fun k_ => some k_ ≠ ((.slice Ao28 t334.length co28) : Value).ownBlock ∧ some k_ ≠ ((.slice Ao34 t338.length co34) : Value).ownBlock) (.slice Ao22 t329.length co22) t329) ∧ Aside0 (Kd.R k90 90 wc w.heap.size (fun k_ => some k_ ≠ ((.slice Ao22 t329.length co22) : Value).ownBlock ∧ some k_ ≠ ((.slice Ao34 t338.length co34) : Value).ownBlock) (.slice Ao28 t334.length co28) t334) ∧ Aside0 (Kd.R k90 90 wc w.heap.size (fun k_ => some k_ ≠ ((.slice Ao22 t329.length co22) : Value).ownBlock ∧ some k_ ≠ ((.slice Ao28 t334.length co28) : Value).ownBlock) (.slice Ao34 t338.length co34) t338) ∧ Aside0 (wc.heap[gb324]? = some (.cells #[(.slice A0_0 l0_0.length c0_0)] 24 (0, 0))) ∧ Aside0 (wc.heap[gb333]? = some (.cells #[(.slice Ao22 t329.length co22)] 28 (0, 0))) ∧ Aside0 (wc.heap[gb337]? = some (.cells #[(.slice Ao28 t334.length co28)] 28 (0, 0))) ∧ Aside0 (wc.heap[gb342]? = some (.cells #[(.slice Ao34 t338.length co34)] 28 (0, 0))) ∧ Aside0 (Below w.heap.size w wc))
  case first =>
   have H := HC13.out
   clear HC13
   obtain ⟨t343, A39, H⟩ := bnd_ H
   by_cases c40 : t343 = true
   ·subst c40
    replace H := ift_ H
    have H' := Aside0.mk H
    clear H
    have hnb41 := NB342_324.out
    have hnc41 := NB324_342.out
    have hnb42 := NB342_333.out
    have hnc42 := NB333_342.out
    have hnb43 := NB342_337.out
    have hnc43 := NB337_342.out
    have hcz44_0 : w33.cell? ⟨gb342, 0, none⟩ = some (.slice none 0 0) := (blk_cell BK342.out 0).trans rfl
    have hfz44_0 := blk_frozen BK342.out 0
    have hnb45 := NB333_324.out
    have hnc45 := NB324_333.out
    have hnb46 := NB333_337.out
    have hnc46 := NB337_333.out
    have hcz47_0 : w33.cell? ⟨gb333, 0, none⟩ = some (.slice Ao22 t329.length co22) := (blk_cell BK333.out 0).trans rfl
    have hfz47_0 := blk_frozen BK333.out 0
    go_wp2_with (first | ((with_reducible refine gate_callee (f := 13) rfl ?_); refine goesL_ (some 42) rfl rfl Try.func13 (by kernel_rfl) rfl #[.agg #[.slice Ao34 t338.length co34], .agg #[.slice Ao22 t329.length co22]] rfl z1_ ?_; (with_reducible refine (laws_eqDom.calls k _ _ t338 _ _ t329 true _ ?side1 ?side2 ?side3 ?side4 A39.out).mono ?_); (case side1 => exact z70_); (case side2 => exact (Kd.R_reads' HO340.out).2.1); (case side3 => exact z71_); (case side4 => exact (Kd.R_reads' HO331.out).2.1); rintro e w48 ⟨rfl, hb⟩; refine ⟨_, rfl, ?_⟩; replace HO328 := Aside0.mk (Kd.R_below z129_ hb); replace HO331 := Aside0.mk (Kd.R_below z79_ hb); replace HO336 := Aside0.mk (Kd.R_below z130_ hb); replace HO340 := Aside0.mk (Kd.R_below z78_ hb); replace BK324 := Aside0.mk (blk_below (g := gb324) (o := .cells #[.slice A0_0 l0_0.length c0_0] 24 (0, 0)) z131_ hb); replace BK333 := Aside0.mk (blk_below (g := gb333) (o := .cells #[.slice Ao22 t329.length co22] 28 (0, 0)) z132_ hb); replace BK337 := Aside0.mk (blk_below (g := gb337) (o := .cells #[.slice Ao28 t334.length co28] 28 (0, 0)) z133_ hb); replace BK342 := Aside0.mk (blk_below (g := gb342) (o := .cells #[.slice Ao34 t338.length co34] 28 (0, 0)) z118_ hb); replace HB := Aside0.mk (below_step z2_ hb); (try clear hb)))
    go_meet
    case rel => exact ⟨_, ((t341 != t332)), z22_, H', ⟨z116_⟩, ⟨z201_⟩, ⟨z202_⟩, ⟨z203_⟩, ⟨z13_⟩, ⟨z23_⟩, ⟨z24_⟩, ⟨z32_⟩, ⟨z2_⟩⟩
   ·replace c40 := Bool.eq_false_iff.mpr c40
    subst c40
    replace H := iff_ H
    have H' := Aside0.mk H
    clear H
    have hnb49 := NB342_324.out
    have hnc49 := NB324_342.out
    have hnb50 := NB342_333.out
    have hnc50 := NB333_342.out
    have hnb51 := NB342_337.out
    have hnc51 := NB337_342.out
    have hcz52_0 : w33.cell? ⟨gb342, 0, none⟩ = some (.slice none 0 0) := (blk_cell BK342.out 0).trans rfl
    have hfz52_0 := blk_frozen BK342.out 0
    have hnb53 := NB333_324.out
    have hnc53 := NB324_333.out
    have hnb54 := NB333_337.out
    have hnc54 := NB337_333.out
    have hcz55_0 : w33.cell? ⟨gb333, 0, none⟩ = some (.slice Ao22 t329.length co22) := (blk_cell BK333.out 0).trans rfl
    have hfz55_0 := blk_frozen BK333.out 0
    go_wp2_with (first | ((with_reducible refine gate_callee (f := 13) rfl ?_); refine goesL_ (some 42) rfl rfl Try.func13 (by kernel_rfl) rfl #[.agg #[.slice Ao34 t338.length co34], .agg #[.slice Ao22 t329.length co22]] rfl z1_ ?_; (with_reducible refine (laws_eqDom.calls k _ _ t338 _ _ t329 false _ ?side1 ?side2 ?side3 ?side4 A39.out).mono ?_); (case side1 => exact z70_); (case side2 => exact (Kd.R_reads' HO340.out).2.1); (case side3 => exact z71_); (case side4 => exact (Kd.R_reads' HO331.out).2.1); rintro e w56 ⟨rfl, hb⟩; refine ⟨_, rfl, ?_⟩; replace HO328 := Aside0.mk (Kd.R_below z129_ hb); replace HO331 := Aside0.mk (Kd.R_below z79_ hb); replace HO336 := Aside0.mk (Kd.R_below z130_ hb); replace HO340 := Aside0.mk (Kd.R_below z78_ hb); replace BK324 := Aside0.mk (blk_below (g := gb324) (o := .cells #[.slice A0_0 l0_0.length c0_0] 24 (0, 0)) z131_ hb); replace BK333 := Aside0.mk (blk_below (g := gb333) (o := .cells #[.slice Ao22 t329.length co22] 28 (0, 0)) z132_ hb); replace BK337 := Aside0.mk (blk_below (g := gb337) (o := .cells #[.slice Ao28 t334.length co28] 28 (0, 0)) z133_ hb); replace BK342 := Aside0.mk (blk_below (g := gb342) (o := .cells #[.slice Ao34 t338.length co34] 28 (0, 0)) z118_ hb); replace HB := Aside0.mk (below_step z2_ hb); (try clear hb)))
    go_meet
    case rel => exact ⟨_, (true), z22_, H', ⟨z116_⟩, ⟨z201_⟩, ⟨z202_⟩, ⟨z203_⟩, ⟨z13_⟩, ⟨z23_⟩, ⟨z24_⟩, ⟨z32_⟩, ⟨z2_⟩⟩
  case rest =>
   clear HC13
   try clear c1
   try clear c2
   try clear p2
   try clear c3
   try clear c4
   try clear c5
   try clear c5b0
   try clear c9
   try clear c10
   try clear c11
   try clear c12
   try clear c13
   try clear c23
   try clear c29
   try clear c30
   try clear c35
   try clear c36
   try clear c37
   try clear c40
   try clear c41
   try clear c42
   try clear c43
   try clear c45
   try clear c46
   try clear c49
   try clear c50
   try clear c51
   try clear c53
   try clear c54
   try clear hcz15_0
   try clear hcz17_0
   try clear hcz24_0
   try clear hcz25_0
   try clear hcz31_0
   try clear hcz38_0
   try clear hcz44_0
   try clear hcz47_0
   try clear hcz52_0
   try clear hcz55_0
   try clear hcz7_0
   try clear hfz15_0
   try clear hfz17_0
   try clear hfz24_0
   try clear hfz25_0
   try clear hfz31_0
   try clear hfz38_0
   try clear hfz44_0
   try clear hfz47_0
   try clear hfz52_0
   try clear hfz55_0
   try clear hfz7_0
   obtain ⟨kq, x48_12, rfl, HA, HJ12, HO_334000, HO_338000, HO_343000, BK324, BK333, BK337, BK342, HB⟩ := hcut
   cases kq with
   | zero => exact absurd HA.out (by simp [laws_FnExactDomRelabel.j0])
   | succ kj12 =>
    have H := HA.out
    clear HA
    simp only [laws_FnExactDomRelabel.j0] at H
    by_cases c57 : x48_12 = true
    ·subst c57
     replace H := ift_ H
     obtain rfl := Option.some.inj H
     go_wp2
     go_ret
     exact ⟨z4_, z2_⟩
    ·replace c57 := Bool.eq_false_iff.mpr c57
     subst c57
     replace H := iff_ H
     obtain ⟨t344, A58, H⟩ := bnd_ H
     obtain ⟨t347, A59, H⟩ := bnd_ H
     by_cases c60 : t347 = true
     ·subst c60
      replace H := ift_ H
      replace H := Option.bind_eq_some_iff.mp H
      obtain ⟨⟨t348, t349⟩, A610, H⟩ := H
      replace H : (if t348 < 0 then (laws_FnExactDomRelabel.j1 kj12 a1 a2 t332 true l0_0 t329 t338) else ((laws_eqDom.f kj12 t338 t329).bind fun t350 => (if t350 = true then (laws_FnExactDomRelabel.j1 kj12 a1 a2 t332 (t341 != t332) l0_0 t329 t338) else (laws_FnExactDomRelabel.j1 kj12 a1 a2 t332 true l0_0 t329 t338)))) = some r := H
      have A61 := Aside0.mk A610
      clear A610
      have HC62 := Aside0.mk H
      clear H
      try go_wp2
      have n0_ := Aside0.mk (Kd.R_drew HO_334000.out)
      have n1_ := Aside0.mk (Kd.R_drew HO_338000.out)
      have n2_ := Aside0.mk (Kd.R_drew HO_343000.out)
      have n3_ := Aside0.mk (blk_drew BK324.out)
      have n4_ := Aside0.mk (blk_drew BK333.out)
      have n5_ := Aside0.mk (blk_drew BK337.out)
      have n6_ := Aside0.mk (blk_drew BK342.out)
      have n7_ := Aside0.mk (below_drew1 HB.out)
      clear HO_334000
      clear HO_338000
      clear HO_343000
      clear BK324
      clear BK333
      clear BK337
      clear BK342
      clear HB
      have HO_334000 := n0_
      have HO_338000 := n1_
      have HO_343000 := n2_
      have BK324 := n3_
      have BK333 := n4_
      have BK337 := n5_
      have BK342 := n6_
      have HB := n7_
      clear n0_ n1_ n2_ n3_ n4_ n5_ n6_ n7_
      refine start_ (n := 5) (S := fun w' => w'.cell? ⟨gb337, 0, none⟩ = some (.slice Ao28 t334.length co28) ∧ w'.cell? ⟨gb324, 0, none⟩ = some (.slice A0_0 l0_0.length c0_0)) (ds := []) (fl_ 5 0) (by kernel_rfl) rfl (fl_zero _) ⟨(blk_cell BK337.out 0).trans rfl, (blk_cell BK324.out 0).trans rfl⟩ (fun hHeld => ?_)
      generalize wc.drew = w63 at HO_334000 HO_338000 HO_343000 BK324 BK333 BK337 BK342 HB hHeld ⊢
      refine take_ (i := 0) (N := some 49) (v := ?_) (a' := ?_) #[true, false, false, false, false] rfl rfl (by kernel_rfl) (fun _ _ _ h => h) (Or.inl ⟨by rfl, ?_⟩) hHeld ?_ ?_
      rotate_left
      ·rintro w' ⟨s0, s1⟩
       go_simp
       with_reducible rfl
      rotate_left
      ·simp only [Act.put, List.setIfInBounds_toArray, List.set_cons_zero, List.set_cons_succ, i64_w, i32_w]
       rfl
      refine take_ (i := 1) (N := some 50) (v := ?_) (a' := ?_) #[true, true, false, false, false] rfl rfl (by kernel_rfl) (fun _ _ _ h => h) (Or.inl ⟨by rfl, ?_⟩) hHeld ?_ ?_
      rotate_left
      ·rintro w' ⟨s0, s1⟩
       go_simp
       with_reducible rfl
      rotate_left
      ·simp only [Act.put, List.setIfInBounds_toArray, List.set_cons_zero, List.set_cons_succ, i64_w, i32_w]
       rfl
      refine one_ (i := 2) (N := some 51) (fl_ 5 3) rfl rfl (by kernel_rfl) (by decide) (fun K hK => ?_)
      refine goes_ Try.func11 (by kernel_rfl) rfl #[.agg #[.slice A0_0 l0_0.length c0_0]] (by rfl) rfl rfl z1_ ?_
      with_reducible refine (laws_toDom.calls kj12 _ _ l0_0 t344 _ ?side1 ?side2 A58.out).mono ?_
      (case side1 => exact z10_)
      (case side2 => exact HC0_0.out)
      rintro e w64 ⟨v345, rfl, ho0, hb⟩
      refine ⟨_, rfl, ?_⟩
      have n0_ := Aside0.mk (Kd.R_elder' z48_ (Kd.R_base ho0) hb)
      have n1_ := Aside0.mk (Kd.R_elder' z49_ (Kd.R_base ho0) hb)
      have n2_ := Aside0.mk (Kd.R_elder' z50_ (Kd.R_base ho0) hb)
      have n3_ := Aside0.mk (Kd.R_lower (Kd.R_new' (Kd.R_new' (Kd.R_new' ho0 (Kd.R_lt z48_)) (Kd.R_lt z49_)) (Kd.R_lt z50_)) (below_size z2_))
      have n4_ := Aside0.mk (blk_below (g := gb324) (o := .cells #[.slice A0_0 l0_0.length c0_0] 24 (0, 0)) z13_ hb)
      have n5_ := Aside0.mk (blk_below (g := gb333) (o := .cells #[.slice Ao22 t329.length co22] 28 (0, 0)) z23_ hb)
      have n6_ := Aside0.mk (blk_below (g := gb337) (o := .cells #[.slice Ao28 t334.length co28] 28 (0, 0)) z24_ hb)
      have n7_ := Aside0.mk (blk_below (g := gb342) (o := .cells #[.slice Ao34 t338.length co34] 28 (0, 0)) z32_ hb)
      have n8_ := Aside0.mk (below_step z2_ hb)
      clear HO_334000
      clear HO_338000
      clear HO_343000
      clear BK324
      clear BK333
      clear BK337
      clear BK342
      clear HB
      have HO_334000 := n0_
      have HO_338000 := n1_
      have HO_343000 := n2_
      have HO346 := n3_
      have BK324 := n4_
      have BK333 := n5_
      have BK337 := n6_
      have BK342 := n7_
      have HB := n8_
      clear n0_ n1_ n2_ n3_ n4_ n5_ n6_ n7_ n8_
      (try clear hb)
      (try clear hb2)
      (try clear hk)
      (try clear hi)
      (try clear ho0)
      obtain ⟨Ao65, co65, eo65⟩ := Kd.R_slice HO346.out
      (first | subst eo65 | (injection eo65 with f1_ f2_ f3_; have f4_ := f1_.symm; have f5_ := f3_.symm; clear f1_ f2_ f3_; subst f4_; subst f5_))
      refine hK.out _ _ ⟨(blk_cell BK337.out 0).trans rfl, (blk_cell BK324.out 0).trans rfl⟩ (fun hHeld => ?_)
      clear hK K
      refine zn_ rfl ?_
      refine one_ (i := 3) (N := some 52) (fl_ 5 4) rfl rfl (by kernel_rfl) (by decide) (fun K hK => ?_)
      refine goes_ Try.func13 (by kernel_rfl) rfl #[.agg #[.slice Ao28 t334.length co28], .agg #[.slice Ao65 t344.length co65]] (by rfl) rfl rfl z1_ ?_
      with_reducible refine (laws_eqDom.calls kj12 _ _ t334 _ _ t344 true _ ?side1 ?side2 ?side3 ?side4 A59.out).mono ?_
      (case side1 => exact z165_)
      (case side2 => exact (Kd.R_reads' HO_338000.out).2.1)
      (case side3 => exact z175_)
      (case side4 => exact (Kd.R_reads' HO346.out).2.1)
      rintro e w66 ⟨rfl, hb⟩
      refine ⟨_, rfl, ?_⟩
      have n0_ := Aside0.mk (Kd.R_below z48_ hb)
      have n1_ := Aside0.mk (Kd.R_below z49_ hb)
      have n2_ := Aside0.mk (Kd.R_below z50_ hb)
      have n3_ := Aside0.mk (Kd.R_below z155_ hb)
      have n4_ := Aside0.mk (blk_below (g := gb324) (o := .cells #[.slice A0_0 l0_0.length c0_0] 24 (0, 0)) z13_ hb)
      have n5_ := Aside0.mk (blk_below (g := gb333) (o := .cells #[.slice Ao22 t329.length co22] 28 (0, 0)) z23_ hb)
      have n6_ := Aside0.mk (blk_below (g := gb337) (o := .cells #[.slice Ao28 t334.length co28] 28 (0, 0)) z24_ hb)
      have n7_ := Aside0.mk (blk_below (g := gb342) (o := .cells #[.slice Ao34 t338.length co34] 28 (0, 0)) z32_ hb)
      have n8_ := Aside0.mk (below_step z2_ hb)
      clear HO_334000
      clear HO_338000
      clear HO_343000
      clear HO346
      clear BK324
      clear BK333
      clear BK337
      clear BK342
      clear HB
      have HO_334000 := n0_
      have HO_338000 := n1_
      have HO_343000 := n2_
      have HO346 := n3_
      have BK324 := n4_
      have BK333 := n5_
      have BK337 := n6_
      have BK342 := n7_
      have HB := n8_
      clear n0_ n1_ n2_ n3_ n4_ n5_ n6_ n7_ n8_
      (try clear hb)
      (try clear hb2)
      (try clear hk)
      (try clear hi)
      refine hK.out _ _ ⟨(blk_cell BK337.out 0).trans rfl, (blk_cell BK324.out 0).trans rfl⟩ (fun hHeld => ?_)
      clear hK K
      refine zn_ rfl ?_
      refine pure_ (i := 4) (N := some 53) (v := ?_) (a' := ?_) #[true, true, true, true, true] rfl rfl (by kernel_rfl) (fun _ _ _ h => h) (Or.inl ⟨by rfl, ?_⟩) ?_ ?_
      rotate_left
      ·intro w'
       go_simp
       with_reducible rfl
      rotate_left
      ·simp only [Act.put, List.setIfInBounds_toArray, List.set_cons_zero, List.set_cons_succ, i64_w, i32_w]
       rfl
      refine done_ (by kernel_rfl) ?_
      have hnb67 := NB337_324.out
      have hnc67 := NB324_337.out
      have hnb68 := NB337_333.out
      have hnc68 := NB333_337.out
      have hnb69 := NB337_342.out
      have hnc69 := NB342_337.out
      have hcz70_0 : w66.cell? ⟨gb337, 0, none⟩ = some (.slice Ao28 t334.length co28) := (blk_cell BK337.out 0).trans rfl
      have hfz70_0 := blk_frozen BK337.out 0
      go_upto_region 14 with (first | ((with_reducible refine gate_callee (f := 14) rfl ?_); refine goesL_ (some 56) rfl rfl Try.func14 (by kernel_rfl) rfl #[.agg #[.slice Ao28 t334.length co28], .int .i64 1] rfl z1_ ?_; (with_reducible refine (laws_markDom.calls kj12 (fun k_ => some k_ = (.slice Ao28 t334.length co28 : Value).ownBlock) (.slice Ao28 t334.length co28) t334 1 t348 t349 w _ ?side1 ?side2 A61.out).mono ?_); (case side1 => exact z2_); (case side2 => exact Kd.R_tight rfl HO_338000.out); rintro e w71 ⟨rfl, hy0, hb, hkp⟩; refine ⟨_, rfl, ?_⟩; replace HO_334000 := Aside0.mk (Kd.R_mono (ok' := fun k_ => some k_ ≠ (.slice Ao28 t334.length co28 : Value).ownBlock ∧ some k_ ≠ (.slice Ao34 t338.length co34 : Value).ownBlock ∧ some k_ ≠ (.slice Ao65 t344.length co65 : Value).ownBlock) (Kd.R_keptB (HO_334000.out) hkp (fun k_ hk_ hs_ => (hk_.1.1) hs_)) (fun k_ hk_ => ⟨hk_.1.1.1, hk_.1.1.2, hk_.1.2⟩)); replace HO_343000 := Aside0.mk (Kd.R_mono (ok' := fun k_ => some k_ ≠ (.slice Ao22 t329.length co22 : Value).ownBlock ∧ some k_ ≠ (.slice Ao28 t334.length co28 : Value).ownBlock ∧ some k_ ≠ (.slice Ao65 t344.length co65 : Value).ownBlock) (Kd.R_keptB (HO_343000.out) hkp (fun k_ hk_ hs_ => (hk_.1.2) hs_)) (fun k_ hk_ => ⟨hk_.1.1.1, hk_.1.1.2, hk_.1.2⟩)); replace BK324 := Aside0.mk (blk_kept z13_ hkp (fun hs_ => (fun e_ => (Kd.R_ne HO_338000.out BK324.out (by decide)) e_) hs_)); replace BK333 := Aside0.mk (blk_kept z23_ hkp (fun hs_ => (fun e_ => (Kd.R_ne HO_338000.out BK333.out (by decide)) e_) hs_)); replace BK337 := Aside0.mk (blk_kept z24_ hkp (fun hs_ => (fun e_ => (Kd.R_ne HO_338000.out BK337.out (by decide)) e_) hs_)); replace BK342 := Aside0.mk (blk_kept z32_ hkp (fun hs_ => (fun e_ => (Kd.R_ne HO_338000.out BK342.out (by decide)) e_) hs_)); replace HO_338000 := Aside0.mk (Kd.R_reok rfl hy0 (fun k_ e_ => HO_338000.out.1 k_ e_)); replace HO346 := Aside0.mk (Kd.R_mono (ok' := fun k_ => some k_ ≠ (.slice Ao22 t329.length co22 : Value).ownBlock ∧ some k_ ≠ (.slice Ao28 t334.length co28 : Value).ownBlock ∧ some k_ ≠ (.slice Ao34 t338.length co34 : Value).ownBlock) (Kd.R_keptB (HO346.out) hkp (fun k_ hk_ hs_ => (hk_.1.2) hs_)) (fun k_ hk_ => ⟨hk_.1.1.1.2, hk_.1.1.2, hk_.1.2⟩)); replace HB := Aside0.mk (hb); (try clear hb hkp hy0)))
      (try simp only [Act.put, List.setIfInBounds_toArray, List.set_cons_zero, List.set_cons_succ])
      go_cut [69] (fun v69 wc => ∃ (kq : Nat) (x69_61 : Bool), v69 = .bool x69_61 ∧ Aside0 (laws_FnExactDomRelabel.j1 kq a1 a2 t332 x69_61 l0_0 t329 t338 = some r) ∧ Aside0 (kq ≤ kj12) ∧ Aside0 (Kd.R k90 90 wc w.heap.size (fun k_ => some k_ ≠ ((.slice Ao28 t334.length co28) : Value).ownBlock ∧ some k_ ≠ ((.slice Ao34 t338.length co34) : Value).ownBlock) (.slice Ao22 t329.length co22) t329) ∧ Aside0 (Kd.R k90 90 wc w.heap.size (fun k_ => some k_ ≠ ((.slice Ao22 t329.length co22) : Value).ownBlock ∧ some k_ ≠ ((.slice Ao34 t338.length co34) : Value).ownBlock) (.slice Ao28 t334.length co28) t349) ∧ Aside0 (Kd.R k90 90 wc w.heap.size (fun k_ => some k_ ≠ ((.slice Ao22 t329.length co22) : Value).ownBlock ∧ some k_ ≠ ((.slice Ao28 t334.length co28) : Value).ownBlock) (.slice Ao34 t338.length co34) t338) ∧ Aside0 (wc.heap[gb324]? = some (.cells #[(.slice A0_0 l0_0.length c0_0)] 24 (0, 0))) ∧ Aside0 (wc.heap[gb333]? = some (.cells #[(.slice Ao22 t329.length co22)] 28 (0, 0))) ∧ Aside0 (wc.heap[gb337]? = some (.cells #[(.slice Ao28 t334.length co28)] 28 (0, 0))) ∧ Aside0 (wc.heap[gb342]? = some (.cells #[(.slice Ao34 t338.length co34)] 28 (0, 0))) ∧ Aside0 (Below w.heap.size w wc))
      case first =>
       have H := HC62.out
       clear HC62
       by_cases c72 : t348 < 0
       ·rw [if_pos c72] at H
        have c72b0 : decide (t348 < 0) = true := decide_eq_true c72
        clear c72
        (first | rw [c72b0] | rw [c72b1] | (simp only [i64_w, i32_w]; rw [c72b0]) | skip)
        have H' := Aside0.mk H
        clear H
        go_wp2
        go_meet
        case rel => exact ⟨_, (true), z22_, H', ⟨z231_⟩, ⟨z152_⟩, ⟨z151_⟩, ⟨z153_⟩, ⟨z13_⟩, ⟨z23_⟩, ⟨z24_⟩, ⟨z32_⟩, ⟨z2_⟩⟩
       ·rw [if_neg c72] at H
        have c72b0 : decide (t348 < 0) = false := decide_eq_false c72
        clear c72
        (first | rw [c72b0] | rw [c72b1] | (simp only [i64_w, i32_w]; rw [c72b0]) | skip)
        obtain ⟨t350, A73, H⟩ := bnd_ H
        by_cases c74 : t350 = true
        ·subst c74
         replace H := ift_ H
         have H' := Aside0.mk H
         clear H
         have hnb75 := NB342_324.out
         have hnc75 := NB324_342.out
         have hnb76 := NB342_333.out
         have hnc76 := NB333_342.out
         have hnb77 := NB342_337.out
         have hnc77 := NB337_342.out
         have hcz78_0 : w71.cell? ⟨gb342, 0, none⟩ = some (.slice Ao34 t338.length co34) := (blk_cell BK342.out 0).trans rfl
         have hfz78_0 := blk_frozen BK342.out 0
         have hnb79 := NB333_324.out
         have hnc79 := NB324_333.out
         have hnb80 := NB333_337.out
         have hnc80 := NB337_333.out
         have hcz81_0 : w71.cell? ⟨gb333, 0, none⟩ = some (.slice Ao22 t329.length co22) := (blk_cell BK333.out 0).trans rfl
         have hfz81_0 := blk_frozen BK333.out 0
         go_wp2_with (first | (go_at_call 13; (with_reducible refine (laws_eqDom.calls kj12 _ _ t338 _ _ t329 true _ ?side1 ?side2 ?side3 ?side4 A73.out).mono ?_); (case side1 => exact z61_); (case side2 => exact z228_); (case side3 => exact z166_); (case side4 => exact z234_); rintro e w82 ⟨rfl, hb⟩; replace HO_334000 := Aside0.mk (Kd.R_below z48_ hb); replace HO_338000 := Aside0.mk (Kd.R_below z49_ hb); replace HO_343000 := Aside0.mk (Kd.R_below z50_ hb); replace HO346 := Aside0.mk (Kd.R_below z155_ hb); replace BK324 := Aside0.mk (blk_below (g := gb324) (o := .cells #[.slice A0_0 l0_0.length c0_0] 24 (0, 0)) z13_ hb); replace BK333 := Aside0.mk (blk_below (g := gb333) (o := .cells #[.slice Ao22 t329.length co22] 28 (0, 0)) z23_ hb); replace BK337 := Aside0.mk (blk_below (g := gb337) (o := .cells #[.slice Ao28 t334.length co28] 28 (0, 0)) z24_ hb); replace BK342 := Aside0.mk (blk_below (g := gb342) (o := .cells #[.slice Ao34 t338.length co34] 28 (0, 0)) z32_ hb); replace HB := Aside0.mk (below_step z2_ hb); (try clear hb)))
         go_meet
         case rel => exact ⟨_, ((t341 != t332)), z22_, H', ⟨z231_⟩, ⟨z152_⟩, ⟨z151_⟩, ⟨z153_⟩, ⟨z13_⟩, ⟨z23_⟩, ⟨z24_⟩, ⟨z32_⟩, ⟨z2_⟩⟩
        ·replace c74 := Bool.eq_false_iff.mpr c74
         subst c74
         replace H := iff_ H
         have H' := Aside0.mk H
         clear H
         have hnb83 := NB342_324.out
         have hnc83 := NB324_342.out
         have hnb84 := NB342_333.out
         have hnc84 := NB333_342.out
         have hnb85 := NB342_337.out
         have hnc85 := NB337_342.out
         have hcz86_0 : w71.cell? ⟨gb342, 0, none⟩ = some (.slice Ao34 t338.length co34) := (blk_cell BK342.out 0).trans rfl
         have hfz86_0 := blk_frozen BK342.out 0
         have hnb87 := NB333_324.out
         have hnc87 := NB324_333.out
         have hnb88 := NB333_337.out
         have hnc88 := NB337_333.out
         have hcz89_0 : w71.cell? ⟨gb333, 0, none⟩ = some (.slice Ao22 t329.length co22) := (blk_cell BK333.out 0).trans rfl
         have hfz89_0 := blk_frozen BK333.out 0
         go_wp2_with (first | (go_at_call 13; (with_reducible refine (laws_eqDom.calls kj12 _ _ t338 _ _ t329 false _ ?side1 ?side2 ?side3 ?side4 A73.out).mono ?_); (case side1 => exact z61_); (case side2 => exact z228_); (case side3 => exact z166_); (case side4 => exact z234_); rintro e w90 ⟨rfl, hb⟩; replace HO_334000 := Aside0.mk (Kd.R_below z48_ hb); replace HO_338000 := Aside0.mk (Kd.R_below z49_ hb); replace HO_343000 := Aside0.mk (Kd.R_below z50_ hb); replace HO346 := Aside0.mk (Kd.R_below z155_ hb); replace BK324 := Aside0.mk (blk_below (g := gb324) (o := .cells #[.slice A0_0 l0_0.length c0_0] 24 (0, 0)) z13_ hb); replace BK333 := Aside0.mk (blk_below (g := gb333) (o := .cells #[.slice Ao22 t329.length co22] 28 (0, 0)) z23_ hb); replace BK337 := Aside0.mk (blk_below (g := gb337) (o := .cells #[.slice Ao28 t334.length co28] 28 (0, 0)) z24_ hb); replace BK342 := Aside0.mk (blk_below (g := gb342) (o := .cells #[.slice Ao34 t338.length co34] 28 (0, 0)) z32_ hb); replace HB := Aside0.mk (below_step z2_ hb); (try clear hb)))
         go_meet
         case rel => exact ⟨_, (true), z22_, H', ⟨z231_⟩, ⟨z152_⟩, ⟨z151_⟩, ⟨z153_⟩, ⟨z13_⟩, ⟨z23_⟩, ⟨z24_⟩, ⟨z32_⟩, ⟨z2_⟩⟩
      case rest =>
       clear HC62
       try clear c1
       try clear c2
       try clear p2
       try clear c3
       try clear c4
       try clear c5
       try clear c5b0
       try clear c6
       try clear c7
       try clear c8
       try clear c9
       try clear c10
       try clear c11
       try clear c12
       try clear c13
       try clear c14
       try clear c23
       try clear c29
       try clear c30
       try clear c35
       try clear c36
       try clear c37
       try clear c40
       try clear c41
       try clear c42
       try clear c43
       try clear c45
       try clear c46
       try clear c49
       try clear c50
       try clear c51
       try clear c53
       try clear c54
       try clear c57
       try clear c60
       try clear c67
       try clear c68
       try clear c69
       try clear c72
       try clear c72b0
       try clear c74
       try clear c75
       try clear c76
       try clear c77
       try clear c79
       try clear c80
       try clear c83
       try clear c84
       try clear c85
       try clear c87
       try clear c88
       try clear hcz15_0
       try clear hcz17_0
       try clear hcz24_0
       try clear hcz25_0
       try clear hcz31_0
       try clear hcz38_0
       try clear hcz44_0
       try clear hcz47_0
       try clear hcz52_0
       try clear hcz55_0
       try clear hcz70_0
       try clear hcz78_0
       try clear hcz7_0
       try clear hcz81_0
       try clear hcz86_0
       try clear hcz89_0
       try clear hfz15_0
       try clear hfz17_0
       try clear hfz24_0
       try clear hfz25_0
       try clear hfz31_0
       try clear hfz38_0
       try clear hfz44_0
       try clear hfz47_0
       try clear hfz52_0
       try clear hfz55_0
       try clear hfz70_0
       try clear hfz78_0
       try clear hfz7_0
       try clear hfz81_0
       try clear hfz86_0
       try clear hfz89_0
       try clear p2
       obtain ⟨kq, x69_61, rfl, HA, HJ61, HO_334000, HO_338000, HO_343000, BK324, BK333, BK337, BK342, HB⟩ := hcut
       have hl338000_61 := (Kd.R_reads' HO_338000.out).1
       rw [hl338000_61] at HO_338000
       (try simp only [hl338000_61])
       (try simp only [hl338000_61] at BK324)
       (try simp only [hl338000_61] at BK333)
       (try simp only [hl338000_61] at BK337)
       (try simp only [hl338000_61] at BK342)
       (try simp only [hl338000_61] at HO_334000)
       (try simp only [hl338000_61] at HO_343000)
       cases kq with
       | zero => exact absurd HA.out (by simp [laws_FnExactDomRelabel.j1])
       | succ kj61 =>
        have H := HA.out
        clear HA
        simp only [laws_FnExactDomRelabel.j1] at H
        by_cases c91 : x69_61 = true
        ·subst c91
         replace H := ift_ H
         obtain rfl := Option.some.inj H
         go_wp2
         go_ret
         exact ⟨z4_, z2_⟩
        ·replace c91 := Bool.eq_false_iff.mpr c91
         subst c91
         replace H := iff_ H
         replace H := Option.bind_eq_some_iff.mp H
         obtain ⟨⟨t351, t352⟩, A920, H⟩ := H
         replace H : ((laws_heldDom.f kj61 t352 1).bind fun t353 => (if t353 < 0 then (some false) else (if t353 = t351 then ((laws_toDom.f kj61 l0_0).bind fun t354 => ((impl_DomRelabel.f kj61 t354 a1 a2).bind fun bt357 => ((laws_eqDom.f kj61 bt357.1 t329).bind fun t362 => (if t362 = true then (laws_FnExactDomRelabel.j2 kj61 t351 (bt357.2 != t332) t352) else (laws_FnExactDomRelabel.j2 kj61 t351 true t352))))) else (some false)))) = some r := H
         have A92 := Aside0.mk A920
         clear A920
         obtain ⟨t353, A93, H⟩ := bnd_ H
         by_cases c94 : t353 < 0
         ·rw [if_pos c94] at H
          have c94b0 : decide (t353 < 0) = true := decide_eq_true c94
          clear c94
          obtain rfl := Option.some.inj H
          have hnb95 := NB342_324.out
          have hnc95 := NB324_342.out
          have hnb96 := NB342_333.out
          have hnc96 := NB333_342.out
          have hnb97 := NB342_337.out
          have hnc97 := NB337_342.out
          have hcz98_0 : wc.cell? ⟨gb342, 0, none⟩ = some (.slice Ao34 t338.length co34) := (blk_cell BK342.out 0).trans rfl
          have hfz98_0 := blk_frozen BK342.out 0
          go_wp2_with (first | ((with_reducible refine gate_callee (f := 14) rfl ?_); refine goesL_ (some 72) rfl rfl Try.func14 (by kernel_rfl) rfl #[.agg #[.slice Ao34 t338.length co34], .int .i64 1] rfl z1_ ?_; (with_reducible refine (laws_markDom.calls kj61 (fun k_ => some k_ = (.slice Ao34 t338.length co34 : Value).ownBlock) (.slice Ao34 t338.length co34) t338 1 t351 t352 w _ ?side1 ?side2 A92.out).mono ?_); (case side1 => exact z2_); (case side2 => exact Kd.R_tight rfl HO_343000.out); rintro e w99 ⟨rfl, hy0, hb, hkp⟩; refine ⟨_, rfl, ?_⟩; replace HO_334000 := Aside0.mk (Kd.R_mono (ok' := fun k_ => some k_ ≠ (.slice Ao28 t349.length co28 : Value).ownBlock ∧ some k_ ≠ (.slice Ao34 t338.length co34 : Value).ownBlock) (Kd.R_keptB (HO_334000.out) hkp (fun k_ hk_ hs_ => (hk_.2) hs_)) (fun k_ hk_ => ⟨hk_.1.1, hk_.1.2⟩)); replace HO_338000 := Aside0.mk (Kd.R_mono (ok' := fun k_ => some k_ ≠ (.slice Ao22 t329.length co22 : Value).ownBlock ∧ some k_ ≠ (.slice Ao34 t338.length co34 : Value).ownBlock) (Kd.R_keptB (HO_338000.out) hkp (fun k_ hk_ hs_ => (hk_.2) hs_)) (fun k_ hk_ => ⟨hk_.1.1, hk_.1.2⟩)); replace BK324 := Aside0.mk (blk_kept z13_ hkp (fun hs_ => (fun e_ => (Kd.R_ne HO_343000.out BK324.out (by decide)) e_) hs_)); replace BK333 := Aside0.mk (blk_kept z23_ hkp (fun hs_ => (fun e_ => (Kd.R_ne HO_343000.out BK333.out (by decide)) e_) hs_)); replace BK337 := Aside0.mk (blk_kept z24_ hkp (fun hs_ => (fun e_ => (Kd.R_ne HO_343000.out BK337.out (by decide)) e_) hs_)); replace BK342 := Aside0.mk (blk_kept z32_ hkp (fun hs_ => (fun e_ => (Kd.R_ne HO_343000.out BK342.out (by decide)) e_) hs_)); replace HO_343000 := Aside0.mk (Kd.R_reok rfl hy0 (fun k_ e_ => HO_343000.out.1 k_ e_)); replace HB := Aside0.mk (hb); (try clear hb hkp hy0); have hcz100_0 : w99.cell? ⟨gb342, 0, none⟩ = some (.slice Ao34 t338.length co34) := (blk_cell BK342.out 0).trans rfl; have hfz100_0 := blk_frozen BK342.out 0) | ((with_reducible refine gate_callee (f := 15) rfl ?_); refine goesL_ (some 75) rfl rfl Try.func15 (by kernel_rfl) rfl #[.agg #[.slice Ao34 t352.length co34], .int .i64 1] rfl z108_ ?_; (with_reducible refine (laws_heldDom.calls kj61 _ _ t352 1 t353 _ ?side1 ?side2 A93.out).mono ?_); (case side1 => exact z61_); (case side2 => exact z176_); rintro e w101 ⟨rfl, hb⟩; refine ⟨_, rfl, ?_⟩; replace HO_334000 := Aside0.mk (Kd.R_below z48_ hb); replace HO_338000 := Aside0.mk (Kd.R_below z49_ hb); replace HO_343000 := Aside0.mk (Kd.R_below z50_ hb); replace BK324 := Aside0.mk (blk_below (g := gb324) (o := .cells #[.slice A0_0 l0_0.length c0_0] 24 (0, 0)) z13_ hb); replace BK333 := Aside0.mk (blk_below (g := gb333) (o := .cells #[.slice Ao22 t329.length co22] 28 (0, 0)) z23_ hb); replace BK337 := Aside0.mk (blk_below (g := gb337) (o := .cells #[.slice Ao28 t349.length co28] 28 (0, 0)) z24_ hb); replace BK342 := Aside0.mk (blk_below (g := gb342) (o := .cells #[.slice Ao34 t338.length co34] 28 (0, 0)) z32_ hb); replace HB := Aside0.mk (below_step z2_ hb); (try clear hb)))
          go_ret
          exact ⟨z4_, z2_⟩
         ·rw [if_neg c94] at H
          have c94b0 : decide (t353 < 0) = false := decide_eq_false c94
          clear c94
          by_cases c102 : t353 = t351
          ·rw [if_pos c102] at H
           have c102b0 : (t353 == t351) = true := beq_iff_eq.mpr c102
           have c102b1 : (t353 != t351) = false := bne_eq_false_iff_eq.mpr c102
           clear c102
           obtain ⟨t354, A103, H⟩ := bnd_ H
           replace H := Option.bind_eq_some_iff.mp H
           obtain ⟨⟨t357, t360⟩, A1040, H⟩ := H
           replace H : ((laws_eqDom.f kj61 t357 t329).bind fun t362 => (if t362 = true then (laws_FnExactDomRelabel.j2 kj61 t351 (t360 != t332) t352) else (laws_FnExactDomRelabel.j2 kj61 t351 true t352))) = some r := H
           have A104 := Aside0.mk A1040
           clear A1040
           have HC105 := Aside0.mk H
           clear H
           have hnb106 := NB342_324.out
           have hnc106 := NB324_342.out
           have hnb107 := NB342_333.out
           have hnc107 := NB333_342.out
           have hnb108 := NB342_337.out
           have hnc108 := NB337_342.out
           have hcz109_0 : wc.cell? ⟨gb342, 0, none⟩ = some (.slice Ao34 t338.length co34) := (blk_cell BK342.out 0).trans rfl
           have hfz109_0 := blk_frozen BK342.out 0
           go_upto_region 25 with (first | ((with_reducible refine gate_callee (f := 14) rfl ?_); refine goesL_ (some 72) rfl rfl Try.func14 (by kernel_rfl) rfl #[.agg #[.slice Ao34 t338.length co34], .int .i64 1] rfl z1_ ?_; (with_reducible refine (laws_markDom.calls kj61 (fun k_ => some k_ = (.slice Ao34 t338.length co34 : Value).ownBlock) (.slice Ao34 t338.length co34) t338 1 t351 t352 w _ ?side1 ?side2 A92.out).mono ?_); (case side1 => exact z2_); (case side2 => exact Kd.R_tight rfl HO_343000.out); rintro e w110 ⟨rfl, hy0, hb, hkp⟩; refine ⟨_, rfl, ?_⟩; replace HO_334000 := Aside0.mk (Kd.R_mono (ok' := fun k_ => some k_ ≠ (.slice Ao28 t349.length co28 : Value).ownBlock ∧ some k_ ≠ (.slice Ao34 t338.length co34 : Value).ownBlock) (Kd.R_keptB (HO_334000.out) hkp (fun k_ hk_ hs_ => (hk_.2) hs_)) (fun k_ hk_ => ⟨hk_.1.1, hk_.1.2⟩)); replace HO_338000 := Aside0.mk (Kd.R_mono (ok' := fun k_ => some k_ ≠ (.slice Ao22 t329.length co22 : Value).ownBlock ∧ some k_ ≠ (.slice Ao34 t338.length co34 : Value).ownBlock) (Kd.R_keptB (HO_338000.out) hkp (fun k_ hk_ hs_ => (hk_.2) hs_)) (fun k_ hk_ => ⟨hk_.1.1, hk_.1.2⟩)); replace BK324 := Aside0.mk (blk_kept z13_ hkp (fun hs_ => (fun e_ => (Kd.R_ne HO_343000.out BK324.out (by decide)) e_) hs_)); replace BK333 := Aside0.mk (blk_kept z23_ hkp (fun hs_ => (fun e_ => (Kd.R_ne HO_343000.out BK333.out (by decide)) e_) hs_)); replace BK337 := Aside0.mk (blk_kept z24_ hkp (fun hs_ => (fun e_ => (Kd.R_ne HO_343000.out BK337.out (by decide)) e_) hs_)); replace BK342 := Aside0.mk (blk_kept z32_ hkp (fun hs_ => (fun e_ => (Kd.R_ne HO_343000.out BK342.out (by decide)) e_) hs_)); replace HO_343000 := Aside0.mk (Kd.R_reok rfl hy0 (fun k_ e_ => HO_343000.out.1 k_ e_)); replace HB := Aside0.mk (hb); (try clear hb hkp hy0); have hcz111_0 : w110.cell? ⟨gb342, 0, none⟩ = some (.slice Ao34 t338.length co34) := (blk_cell BK342.out 0).trans rfl; have hfz111_0 := blk_frozen BK342.out 0) | ((with_reducible refine gate_callee (f := 15) rfl ?_); refine goesL_ (some 75) rfl rfl Try.func15 (by kernel_rfl) rfl #[.agg #[.slice Ao34 t352.length co34], .int .i64 1] rfl z108_ ?_; (with_reducible refine (laws_heldDom.calls kj61 _ _ t352 1 t353 _ ?side1 ?side2 A93.out).mono ?_); (case side1 => exact z61_); (case side2 => exact z176_); rintro e w112 ⟨rfl, hb⟩; refine ⟨_, rfl, ?_⟩; replace HO_334000 := Aside0.mk (Kd.R_below z48_ hb); replace HO_338000 := Aside0.mk (Kd.R_below z49_ hb); replace HO_343000 := Aside0.mk (Kd.R_below z50_ hb); replace BK324 := Aside0.mk (blk_below (g := gb324) (o := .cells #[.slice A0_0 l0_0.length c0_0] 24 (0, 0)) z13_ hb); replace BK333 := Aside0.mk (blk_below (g := gb333) (o := .cells #[.slice Ao22 t329.length co22] 28 (0, 0)) z23_ hb); replace BK337 := Aside0.mk (blk_below (g := gb337) (o := .cells #[.slice Ao28 t349.length co28] 28 (0, 0)) z24_ hb); replace BK342 := Aside0.mk (blk_below (g := gb342) (o := .cells #[.slice Ao34 t338.length co34] 28 (0, 0)) z32_ hb); replace HB := Aside0.mk (below_step z2_ hb); (try clear hb); have hnb113 := NB324_333.out; have hnc113 := NB333_324.out; have hnb114 := NB324_337.out; have hnc114 := NB337_324.out; have hcz115_0 : w112.cell? ⟨gb324, 0, none⟩ = some (.slice A0_0 l0_0.length c0_0) := (blk_cell BK324.out 0).trans rfl; have hfz115_0 := blk_frozen BK324.out 0) | ((with_reducible refine gate_callee (f := 11) rfl ?_); refine goesL_ (some 83) rfl rfl Try.func11 (by kernel_rfl) rfl #[.agg #[.slice A0_0 l0_0.length c0_0]] rfl z1_ ?_; (with_reducible refine (laws_toDom.calls kj61 _ _ l0_0 t354 _ ?side1 ?side2 A103.out).mono ?_); (case side1 => exact z10_); (case side2 => exact HC0_0.out); rintro e w116 ⟨v355, rfl, ho0, hb⟩; refine ⟨_, rfl, ?_⟩; have HO356 := Aside0.mk (Kd.R_lower (Kd.R_new' (Kd.R_new' (Kd.R_new' ho0 (Kd.R_lt z48_)) (Kd.R_lt z49_)) (Kd.R_lt z50_)) (below_size z2_)); replace HO_334000 := Aside0.mk (Kd.R_elder' z48_ (Kd.R_base ho0) hb); replace HO_338000 := Aside0.mk (Kd.R_elder' z49_ (Kd.R_base ho0) hb); replace HO_343000 := Aside0.mk (Kd.R_elder' z50_ (Kd.R_base ho0) hb); replace BK324 := Aside0.mk (blk_below (g := gb324) (o := .cells #[.slice A0_0 l0_0.length c0_0] 24 (0, 0)) z13_ hb); replace BK333 := Aside0.mk (blk_below (g := gb333) (o := .cells #[.slice Ao22 t329.length co22] 28 (0, 0)) z23_ hb); replace BK337 := Aside0.mk (blk_below (g := gb337) (o := .cells #[.slice Ao28 t349.length co28] 28 (0, 0)) z24_ hb); replace BK342 := Aside0.mk (blk_below (g := gb342) (o := .cells #[.slice Ao34 t338.length co34] 28 (0, 0)) z32_ hb); replace HB := Aside0.mk (below_step z2_ hb); (try clear hb ho0); obtain ⟨Ao117, co117, eo117⟩ := Kd.R_slice HO356.out; subst eo117) | ((with_reducible refine gate_callee (f := 12) rfl ?_); refine goesL_ (some 86) rfl rfl Try.func12 (by kernel_rfl) rfl #[.agg #[.slice Ao117 t354.length co117], .int .i64 a1, .int .i64 a2] rfl z1_ ?_; (with_reducible refine (impl_DomRelabel.calls kj61 _ _ t354 a1 a2 t357 t360 _ ?side1 ?side2 A104.out).mono ?_); (case side1 => repeat (first | exact (Kd.R_reads' HO356.out).2.2 | (with_reducible refine Kd.C_alloc ?_ _) | (with_reducible refine Kd.C_drewN ?_ _) | (with_reducible refine Kd.C_drew ?_))); (case side2 => exact (Kd.R_reads' HO356.out).2.1); rintro e w118 ⟨v358, rfl, ho0, hb⟩; refine ⟨_, rfl, ?_⟩; have HO359 := Aside0.mk (Kd.R_lower (Kd.R_new' (Kd.R_new' (Kd.R_new' (Kd.R_new' ho0 (Kd.R_lt z48_)) (Kd.R_lt z49_)) (Kd.R_lt z50_)) (Kd.R_lt z193_)) (below_size z2_)); replace HO_334000 := Aside0.mk (Kd.R_elder' z48_ (Kd.R_base ho0) hb); replace HO_338000 := Aside0.mk (Kd.R_elder' z49_ (Kd.R_base ho0) hb); replace HO_343000 := Aside0.mk (Kd.R_elder' z50_ (Kd.R_base ho0) hb); replace HO356 := Aside0.mk (Kd.R_elder' z193_ (Kd.R_base ho0) hb); replace BK324 := Aside0.mk (blk_below (g := gb324) (o := .cells #[.slice A0_0 l0_0.length c0_0] 24 (0, 0)) z13_ hb); replace BK333 := Aside0.mk (blk_below (g := gb333) (o := .cells #[.slice Ao22 t329.length co22] 28 (0, 0)) z23_ hb); replace BK337 := Aside0.mk (blk_below (g := gb337) (o := .cells #[.slice Ao28 t349.length co28] 28 (0, 0)) z24_ hb); replace BK342 := Aside0.mk (blk_below (g := gb342) (o := .cells #[.slice Ao34 t338.length co34] 28 (0, 0)) z32_ hb); replace HB := Aside0.mk (below_step z2_ hb); (try clear hb ho0)) | ((with_reducible refine gate_dst (N := 16) rfl ?_); refine box_event ?hg (N := 16) ?hd (cs := #[.slice none 0 0]) (t := 28) ?hr ?_; (case hd => rfl); (case hg => rfl); (case hr => exact z20_); intro gb361 hg w119 hbox hb; replace HO_334000 := Aside0.mk (Kd.R_below z48_ hb); replace HO_338000 := Aside0.mk (Kd.R_below z49_ hb); replace HO_343000 := Aside0.mk (Kd.R_below z50_ hb); replace HO356 := Aside0.mk (Kd.R_below z193_ hb); replace HO359 := Aside0.mk (Kd.R_below (by (with_reducible repeat (first | apply Kd.R_alloc | apply Kd.R_drewN | apply Kd.R_drew)); exact HO359.out) hb); have BK361 := Aside0.mk (hbox); have GW361 := Aside0.mk ((by rw [hg]; exact (below_size z2_) : w.heap.size ≤ gb361)); have GE361 := Aside0.mk ((by rw [hg]; exact (below_size z2_) : w.heap.size ≤ gb361)); replace HB := Aside0.mk (below_step z2_ hb); have NB324_361 := Aside0.mk ((by rw [hg]; exact Nat.ne_of_lt (blk_lt (g := gb324) (o := .cells #[.slice A0_0 l0_0.length c0_0] 24 (0, 0)) z13_) : gb324 ≠ gb361)); have NB361_324 := Aside0.mk ((by rw [hg]; exact Nat.ne_of_gt (blk_lt (g := gb324) (o := .cells #[.slice A0_0 l0_0.length c0_0] 24 (0, 0)) z13_) : gb361 ≠ gb324)); replace BK324 := Aside0.mk (blk_below (g := gb324) (o := .cells #[.slice A0_0 l0_0.length c0_0] 24 (0, 0)) z13_ hb); have NB333_361 := Aside0.mk ((by rw [hg]; exact Nat.ne_of_lt (blk_lt (g := gb333) (o := .cells #[.slice Ao22 t329.length co22] 28 (0, 0)) z23_) : gb333 ≠ gb361)); have NB361_333 := Aside0.mk ((by rw [hg]; exact Nat.ne_of_gt (blk_lt (g := gb333) (o := .cells #[.slice Ao22 t329.length co22] 28 (0, 0)) z23_) : gb361 ≠ gb333)); replace BK333 := Aside0.mk (blk_below (g := gb333) (o := .cells #[.slice Ao22 t329.length co22] 28 (0, 0)) z23_ hb); have NB337_361 := Aside0.mk ((by rw [hg]; exact Nat.ne_of_lt (blk_lt (g := gb337) (o := .cells #[.slice Ao28 t349.length co28] 28 (0, 0)) z24_) : gb337 ≠ gb361)); have NB361_337 := Aside0.mk ((by rw [hg]; exact Nat.ne_of_gt (blk_lt (g := gb337) (o := .cells #[.slice Ao28 t349.length co28] 28 (0, 0)) z24_) : gb361 ≠ gb337)); replace BK337 := Aside0.mk (blk_below (g := gb337) (o := .cells #[.slice Ao28 t349.length co28] 28 (0, 0)) z24_ hb); have NB342_361 := Aside0.mk ((by rw [hg]; exact Nat.ne_of_lt (blk_lt (g := gb342) (o := .cells #[.slice Ao34 t338.length co34] 28 (0, 0)) z32_) : gb342 ≠ gb361)); have NB361_342 := Aside0.mk ((by rw [hg]; exact Nat.ne_of_gt (blk_lt (g := gb342) (o := .cells #[.slice Ao34 t338.length co34] 28 (0, 0)) z32_) : gb361 ≠ gb342)); replace BK342 := Aside0.mk (blk_below (g := gb342) (o := .cells #[.slice Ao34 t338.length co34] 28 (0, 0)) z32_ hb); clear hb hbox hg; obtain ⟨Ao120, co120, eo120⟩ := Kd.R_slice HO359.out; subst eo120; have hnb121 := NB361_324.out; have hnc121 := NB324_361.out; have hnb122 := NB361_333.out; have hnc122 := NB333_361.out; have hnb123 := NB361_337.out; have hnc123 := NB337_361.out; have hnb124 := NB361_342.out; have hnc124 := NB342_361.out; have hcz125_0 : w119.cell? ⟨gb361, 0, none⟩ = some (.slice none 0 0) := (blk_cell BK361.out 0).trans rfl; have hfz125_0 := blk_frozen BK361.out 0))
           (try simp only [Act.put, List.setIfInBounds_toArray, List.set_cons_zero, List.set_cons_succ])
           go_cut [97] (fun v97 wc => ∃ (kq : Nat) (x97_104 : Bool), v97 = .bool x97_104 ∧ Aside0 (laws_FnExactDomRelabel.j2 kq t351 x97_104 t352 = some r) ∧ Aside0 (kq ≤ kj61) ∧ Aside0 (Kd.R k90 90 wc w.heap.size (fun k_ => some k_ ≠ ((.slice Ao28 t349.length co28) : Value).ownBlock ∧ some k_ ≠ ((.slice Ao34 t338.length co34) : Value).ownBlock ∧ some k_ ≠ ((.slice Ao120 t357.length co120) : Value).ownBlock) (.slice Ao22 t329.length co22) t329) ∧ Aside0 (Kd.R k90 90 wc w.heap.size (fun k_ => some k_ ≠ ((.slice Ao22 t329.length co22) : Value).ownBlock ∧ some k_ ≠ ((.slice Ao34 t338.length co34) : Value).ownBlock ∧ some k_ ≠ ((.slice Ao120 t357.length co120) : Value).ownBlock) (.slice Ao28 t349.length co28) t349) ∧ Aside0 (Kd.R k90 90 wc w.heap.size (fun k_ => some k_ ≠ ((.slice Ao22 t329.length co22) : Value).ownBlock ∧ some k_ ≠ ((.slice Ao28 t349.length co28) : Value).ownBlock ∧ some k_ ≠ ((.slice Ao120 t357.length co120) : Value).ownBlock) (.slice Ao34 t338.length co34) t352) ∧ Aside0 (Kd.R k90 90 wc w.heap.size (fun k_ => some k_ ≠ ((.slice Ao22 t329.length co22) : Value).ownBlock ∧ some k_ ≠ ((.slice Ao28 t349.length co28) : Value).ownBlock ∧ some k_ ≠ ((.slice Ao34 t338.length co34) : Value).ownBlock) (.slice Ao120 t357.length co120) t357) ∧ Aside0 (wc.heap[gb324]? = some (.cells #[(.slice A0_0 l0_0.length c0_0)] 24 (0, 0))) ∧ Aside0 (wc.heap[gb333]? = some (.cells #[(.slice Ao22 t329.length co22)] 28 (0, 0))) ∧ Aside0 (wc.heap[gb337]? = some (.cells #[(.slice Ao28 t349.length co28)] 28 (0, 0))) ∧ Aside0 (wc.heap[gb342]? = some (.cells #[(.slice Ao34 t338.length co34)] 28 (0, 0))) ∧ Aside0 (wc.heap[gb361]? = some (.cells #[(.slice Ao120 t357.length co120)] 28 (0, 0))) ∧ Aside0 (Below w.heap.size w wc))
           case first =>
            have H := HC105.out
            clear HC105
            obtain ⟨t362, A126, H⟩ := bnd_ H
            by_cases c127 : t362 = true
            ·subst c127
             replace H := ift_ H
             have H' := Aside0.mk H
             clear H
             have hnb128 := NB361_324.out
             have hnc128 := NB324_361.out
             have hnb129 := NB361_333.out
             have hnc129 := NB333_361.out
             have hnb130 := NB361_337.out
             have hnc130 := NB337_361.out
             have hnb131 := NB361_342.out
             have hnc131 := NB342_361.out
             have hcz132_0 : w119.cell? ⟨gb361, 0, none⟩ = some (.slice none 0 0) := (blk_cell BK361.out 0).trans rfl
             have hfz132_0 := blk_frozen BK361.out 0
             have hnb133 := NB333_324.out
             have hnc133 := NB324_333.out
             have hnb134 := NB333_337.out
             have hnc134 := NB337_333.out
             have hnb135 := NB333_342.out
             have hnc135 := NB342_333.out
             have hcz136_0 : w119.cell? ⟨gb333, 0, none⟩ = some (.slice Ao22 t329.length co22) := (blk_cell BK333.out 0).trans rfl
             have hfz136_0 := blk_frozen BK333.out 0
             go_wp2_with (first | ((with_reducible refine gate_callee (f := 13) rfl ?_); refine goesL_ (some 91) rfl rfl Try.func13 (by kernel_rfl) rfl #[.agg #[.slice Ao120 t357.length co120], .agg #[.slice Ao22 t329.length co22]] rfl z1_ ?_; (with_reducible refine (laws_eqDom.calls kj61 _ _ t357 _ _ t329 true _ ?side1 ?side2 ?side3 ?side4 A126.out).mono ?_); (case side1 => exact z65_); (case side2 => exact (Kd.R_reads' HO359.out).2.1); (case side3 => exact z66_); (case side4 => exact z234_); rintro e w137 ⟨rfl, hb⟩; refine ⟨_, rfl, ?_⟩; replace HO_334000 := Aside0.mk (Kd.R_below z74_ hb); replace HO_338000 := Aside0.mk (Kd.R_below z120_ hb); replace HO_343000 := Aside0.mk (Kd.R_below z121_ hb); replace HO356 := Aside0.mk (Kd.R_below z124_ hb); replace HO359 := Aside0.mk (Kd.R_below z75_ hb); replace BK324 := Aside0.mk (blk_below (g := gb324) (o := .cells #[.slice A0_0 l0_0.length c0_0] 24 (0, 0)) z134_ hb); replace BK333 := Aside0.mk (blk_below (g := gb333) (o := .cells #[.slice Ao22 t329.length co22] 28 (0, 0)) z135_ hb); replace BK337 := Aside0.mk (blk_below (g := gb337) (o := .cells #[.slice Ao28 t349.length co28] 28 (0, 0)) z136_ hb); replace BK342 := Aside0.mk (blk_below (g := gb342) (o := .cells #[.slice Ao34 t338.length co34] 28 (0, 0)) z137_ hb); replace BK361 := Aside0.mk (blk_below (g := gb361) (o := .cells #[.slice Ao120 t357.length co120] 28 (0, 0)) z119_ hb); replace HB := Aside0.mk (below_step z29_ hb); (try clear hb)))
             go_meet
             case rel => exact ⟨_, ((t360 != t332)), z22_, H', ⟨by have := HJ12.out; have := HJ61.out; first | omega | exact Nat.le_refl _⟩, ⟨z159_⟩, ⟨z160_⟩, ⟨z161_⟩, ⟨z162_⟩, ⟨z195_⟩, ⟨z196_⟩, ⟨z197_⟩, ⟨z198_⟩, ⟨z199_⟩, ⟨z29_⟩⟩
            ·replace c127 := Bool.eq_false_iff.mpr c127
             subst c127
             replace H := iff_ H
             have H' := Aside0.mk H
             clear H
             have hnb138 := NB361_324.out
             have hnc138 := NB324_361.out
             have hnb139 := NB361_333.out
             have hnc139 := NB333_361.out
             have hnb140 := NB361_337.out
             have hnc140 := NB337_361.out
             have hnb141 := NB361_342.out
             have hnc141 := NB342_361.out
             have hcz142_0 : w119.cell? ⟨gb361, 0, none⟩ = some (.slice none 0 0) := (blk_cell BK361.out 0).trans rfl
             have hfz142_0 := blk_frozen BK361.out 0
             have hnb143 := NB333_324.out
             have hnc143 := NB324_333.out
             have hnb144 := NB333_337.out
             have hnc144 := NB337_333.out
             have hnb145 := NB333_342.out
             have hnc145 := NB342_333.out
             have hcz146_0 : w119.cell? ⟨gb333, 0, none⟩ = some (.slice Ao22 t329.length co22) := (blk_cell BK333.out 0).trans rfl
             have hfz146_0 := blk_frozen BK333.out 0
             go_wp2_with (first | ((with_reducible refine gate_callee (f := 13) rfl ?_); refine goesL_ (some 91) rfl rfl Try.func13 (by kernel_rfl) rfl #[.agg #[.slice Ao120 t357.length co120], .agg #[.slice Ao22 t329.length co22]] rfl z1_ ?_; (with_reducible refine (laws_eqDom.calls kj61 _ _ t357 _ _ t329 false _ ?side1 ?side2 ?side3 ?side4 A126.out).mono ?_); (case side1 => exact z65_); (case side2 => exact (Kd.R_reads' HO359.out).2.1); (case side3 => exact z66_); (case side4 => exact z234_); rintro e w147 ⟨rfl, hb⟩; refine ⟨_, rfl, ?_⟩; replace HO_334000 := Aside0.mk (Kd.R_below z74_ hb); replace HO_338000 := Aside0.mk (Kd.R_below z120_ hb); replace HO_343000 := Aside0.mk (Kd.R_below z121_ hb); replace HO356 := Aside0.mk (Kd.R_below z124_ hb); replace HO359 := Aside0.mk (Kd.R_below z75_ hb); replace BK324 := Aside0.mk (blk_below (g := gb324) (o := .cells #[.slice A0_0 l0_0.length c0_0] 24 (0, 0)) z134_ hb); replace BK333 := Aside0.mk (blk_below (g := gb333) (o := .cells #[.slice Ao22 t329.length co22] 28 (0, 0)) z135_ hb); replace BK337 := Aside0.mk (blk_below (g := gb337) (o := .cells #[.slice Ao28 t349.length co28] 28 (0, 0)) z136_ hb); replace BK342 := Aside0.mk (blk_below (g := gb342) (o := .cells #[.slice Ao34 t338.length co34] 28 (0, 0)) z137_ hb); replace BK361 := Aside0.mk (blk_below (g := gb361) (o := .cells #[.slice Ao120 t357.length co120] 28 (0, 0)) z119_ hb); replace HB := Aside0.mk (below_step z29_ hb); (try clear hb)))
             go_meet
             case rel => exact ⟨_, (true), z22_, H', ⟨by have := HJ12.out; have := HJ61.out; first | omega | exact Nat.le_refl _⟩, ⟨z159_⟩, ⟨z160_⟩, ⟨z161_⟩, ⟨z162_⟩, ⟨z195_⟩, ⟨z196_⟩, ⟨z197_⟩, ⟨z198_⟩, ⟨z199_⟩, ⟨z29_⟩⟩
           case rest =>
            clear HC105
            try clear c1
            try clear c2
            try clear p2
            try clear c3
            try clear c4
            try clear c5
            try clear c5b0
            try clear c6
            try clear c7
            try clear c8
            try clear c9
            try clear c10
            try clear c11
            try clear c12
            try clear c13
            try clear c14
            try clear c15
            try clear c23
            try clear c29
            try clear c30
            try clear c35
            try clear c36
            try clear c37
            try clear c40
            try clear c41
            try clear c42
            try clear c43
            try clear c45
            try clear c46
            try clear c49
            try clear c50
            try clear c51
            try clear c53
            try clear c54
            try clear c57
            try clear c60
            try clear c67
            try clear c68
            try clear c69
            try clear c72
            try clear c72b0
            try clear c74
            try clear c75
            try clear c76
            try clear c77
            try clear c79
            try clear c80
            try clear c83
            try clear c84
            try clear c85
            try clear c87
            try clear c88
            try clear c91
            try clear c94
            try clear c94b0
            try clear c95
            try clear c96
            try clear c97
            try clear c102
            try clear c102b0
            try clear c102b1
            try clear c106
            try clear c107
            try clear c108
            try clear c113
            try clear c114
            try clear c121
            try clear c122
            try clear c123
            try clear c124
            try clear c127
            try clear c128
            try clear c129
            try clear c130
            try clear c131
            try clear c133
            try clear c134
            try clear c135
            try clear c138
            try clear c139
            try clear c140
            try clear c141
            try clear c143
            try clear c144
            try clear c145
            try clear hcz100_0
            try clear hcz109_0
            try clear hcz111_0
            try clear hcz115_0
            try clear hcz125_0
            try clear hcz132_0
            try clear hcz136_0
            try clear hcz142_0
            try clear hcz146_0
            try clear hcz15_0
            try clear hcz17_0
            try clear hcz24_0
            try clear hcz25_0
            try clear hcz31_0
            try clear hcz38_0
            try clear hcz44_0
            try clear hcz47_0
            try clear hcz52_0
            try clear hcz55_0
            try clear hcz70_0
            try clear hcz78_0
            try clear hcz7_0
            try clear hcz81_0
            try clear hcz86_0
            try clear hcz89_0
            try clear hcz98_0
            try clear hfz100_0
            try clear hfz109_0
            try clear hfz111_0
            try clear hfz115_0
            try clear hfz125_0
            try clear hfz132_0
            try clear hfz136_0
            try clear hfz142_0
            try clear hfz146_0
            try clear hfz15_0
            try clear hfz17_0
            try clear hfz24_0
            try clear hfz25_0
            try clear hfz31_0
            try clear hfz38_0
            try clear hfz44_0
            try clear hfz47_0
            try clear hfz52_0
            try clear hfz55_0
            try clear hfz70_0
            try clear hfz78_0
            try clear hfz7_0
            try clear hfz81_0
            try clear hfz86_0
            try clear hfz89_0
            try clear hfz98_0
            try clear p2
            obtain ⟨kq, x97_104, rfl, HA, HJ104, HO_334000, HO_338000, HO_343000, HO_362000, BK324, BK333, BK337, BK342, BK361, HB⟩ := hcut
            have hl343000_104 := (Kd.R_reads' HO_343000.out).1
            rw [hl343000_104] at HO_343000
            (try simp only [hl343000_104])
            (try simp only [hl343000_104] at BK324)
            (try simp only [hl343000_104] at BK333)
            (try simp only [hl343000_104] at BK337)
            (try simp only [hl343000_104] at BK342)
            (try simp only [hl343000_104] at BK361)
            (try simp only [hl343000_104] at HO_334000)
            (try simp only [hl343000_104] at HO_338000)
            (try simp only [hl343000_104] at HO_362000)
            cases kq with
            | zero => exact absurd HA.out (by simp [laws_FnExactDomRelabel.j2])
            | succ kj104 =>
             have H := HA.out
             clear HA
             simp only [laws_FnExactDomRelabel.j2] at H
             by_cases c148 : x97_104 = true
             ·subst c148
              replace H := ift_ H
              obtain rfl := Option.some.inj H
              go_wp2
              go_ret
              exact ⟨z4_, z29_⟩
             ·replace c148 := Bool.eq_false_iff.mpr c148
              subst c148
              replace H := iff_ H
              obtain ⟨t363, A149, H⟩ := bnd_ H
              by_cases c150 : t363 < 0
              ·rw [if_pos c150] at H
               have c150b0 : decide (t363 < 0) = true := decide_eq_true c150
               clear c150
               obtain rfl := Option.some.inj H
               have hnb151 := NB342_324.out
               have hnc151 := NB324_342.out
               have hnb152 := NB342_333.out
               have hnc152 := NB333_342.out
               have hnb153 := NB342_337.out
               have hnc153 := NB337_342.out
               have hnb154 := NB342_361.out
               have hnc154 := NB361_342.out
               have hcz155_0 : wc.cell? ⟨gb342, 0, none⟩ = some (.slice Ao34 t352.length co34) := (blk_cell BK342.out 0).trans rfl
               have hfz155_0 := blk_frozen BK342.out 0
               go_wp2_with (first | ((with_reducible refine gate_callee (f := 15) rfl ?_); refine goesL_ (some 100) rfl rfl Try.func15 (by kernel_rfl) rfl #[.agg #[.slice Ao34 t352.length co34], .int .i64 1] rfl z1_ ?_; (with_reducible refine (laws_heldDom.calls kj104 _ _ t352 1 t363 _ ?side1 ?side2 A149.out).mono ?_); (case side1 => exact z61_); (case side2 => exact z228_); rintro e w156 ⟨rfl, hb⟩; refine ⟨_, rfl, ?_⟩; replace HO_334000 := Aside0.mk (Kd.R_below z48_ hb); replace HO_338000 := Aside0.mk (Kd.R_below z49_ hb); replace HO_343000 := Aside0.mk (Kd.R_below z50_ hb); replace HO_362000 := Aside0.mk (Kd.R_below z189_ hb); replace BK324 := Aside0.mk (blk_below (g := gb324) (o := .cells #[.slice A0_0 l0_0.length c0_0] 24 (0, 0)) z13_ hb); replace BK333 := Aside0.mk (blk_below (g := gb333) (o := .cells #[.slice Ao22 t329.length co22] 28 (0, 0)) z23_ hb); replace BK337 := Aside0.mk (blk_below (g := gb337) (o := .cells #[.slice Ao28 t349.length co28] 28 (0, 0)) z24_ hb); replace BK342 := Aside0.mk (blk_below (g := gb342) (o := .cells #[.slice Ao34 t352.length co34] 28 (0, 0)) z32_ hb); replace BK361 := Aside0.mk (blk_below (g := gb361) (o := .cells #[.slice Ao120 t357.length co120] 28 (0, 0)) z172_ hb); replace HB := Aside0.mk (below_step z29_ hb); (try clear hb)))
               go_ret
               exact ⟨z4_, z29_⟩
              ·rw [if_neg c150] at H
               have c150b0 : decide (t363 < 0) = false := decide_eq_false c150
               clear c150
               by_cases c157 : t363 = t351
               ·rw [if_pos c157] at H
                have c157b0 : (t363 == t351) = true := beq_iff_eq.mpr c157
                have c157b1 : (t363 != t351) = false := bne_eq_false_iff_eq.mpr c157
                clear c157
                obtain rfl := Option.some.inj H
                have hnb158 := NB342_324.out
                have hnc158 := NB324_342.out
                have hnb159 := NB342_333.out
                have hnc159 := NB333_342.out
                have hnb160 := NB342_337.out
                have hnc160 := NB337_342.out
                have hnb161 := NB342_361.out
                have hnc161 := NB361_342.out
                have hcz162_0 : wc.cell? ⟨gb342, 0, none⟩ = some (.slice Ao34 t352.length co34) := (blk_cell BK342.out 0).trans rfl
                have hfz162_0 := blk_frozen BK342.out 0
                go_wp2_with (first | ((with_reducible refine gate_callee (f := 15) rfl ?_); refine goesL_ (some 100) rfl rfl Try.func15 (by kernel_rfl) rfl #[.agg #[.slice Ao34 t352.length co34], .int .i64 1] rfl z1_ ?_; (with_reducible refine (laws_heldDom.calls kj104 _ _ t352 1 t363 _ ?side1 ?side2 A149.out).mono ?_); (case side1 => exact z61_); (case side2 => exact z228_); rintro e w163 ⟨rfl, hb⟩; refine ⟨_, rfl, ?_⟩; replace HO_334000 := Aside0.mk (Kd.R_below z48_ hb); replace HO_338000 := Aside0.mk (Kd.R_below z49_ hb); replace HO_343000 := Aside0.mk (Kd.R_below z50_ hb); replace HO_362000 := Aside0.mk (Kd.R_below z189_ hb); replace BK324 := Aside0.mk (blk_below (g := gb324) (o := .cells #[.slice A0_0 l0_0.length c0_0] 24 (0, 0)) z13_ hb); replace BK333 := Aside0.mk (blk_below (g := gb333) (o := .cells #[.slice Ao22 t329.length co22] 28 (0, 0)) z23_ hb); replace BK337 := Aside0.mk (blk_below (g := gb337) (o := .cells #[.slice Ao28 t349.length co28] 28 (0, 0)) z24_ hb); replace BK342 := Aside0.mk (blk_below (g := gb342) (o := .cells #[.slice Ao34 t352.length co34] 28 (0, 0)) z32_ hb); replace BK361 := Aside0.mk (blk_below (g := gb361) (o := .cells #[.slice Ao120 t357.length co120] 28 (0, 0)) z172_ hb); replace HB := Aside0.mk (below_step z29_ hb); (try clear hb)))
                go_ret
                exact ⟨z4_, z29_⟩
               ·rw [if_neg c157] at H
                have c157b0 : (t363 == t351) = false := beq_eq_false_iff_ne.mpr c157
                have c157b1 : (t363 != t351) = true := bne_iff_ne.mpr c157
                obtain rfl := Option.some.inj H
                have hnb164 := NB342_324.out
                have hnc164 := NB324_342.out
                have hnb165 := NB342_333.out
                have hnc165 := NB333_342.out
                have hnb166 := NB342_337.out
                have hnc166 := NB337_342.out
                have hnb167 := NB342_361.out
                have hnc167 := NB361_342.out
                have hcz168_0 : wc.cell? ⟨gb342, 0, none⟩ = some (.slice Ao34 t352.length co34) := (blk_cell BK342.out 0).trans rfl
                have hfz168_0 := blk_frozen BK342.out 0
                go_wp2_with (first | ((with_reducible refine gate_callee (f := 15) rfl ?_); refine goesL_ (some 100) rfl rfl Try.func15 (by kernel_rfl) rfl #[.agg #[.slice Ao34 t352.length co34], .int .i64 1] rfl z1_ ?_; (with_reducible refine (laws_heldDom.calls kj104 _ _ t352 1 t363 _ ?side1 ?side2 A149.out).mono ?_); (case side1 => exact z61_); (case side2 => exact z228_); rintro e w169 ⟨rfl, hb⟩; refine ⟨_, rfl, ?_⟩; replace HO_334000 := Aside0.mk (Kd.R_below z48_ hb); replace HO_338000 := Aside0.mk (Kd.R_below z49_ hb); replace HO_343000 := Aside0.mk (Kd.R_below z50_ hb); replace HO_362000 := Aside0.mk (Kd.R_below z189_ hb); replace BK324 := Aside0.mk (blk_below (g := gb324) (o := .cells #[.slice A0_0 l0_0.length c0_0] 24 (0, 0)) z13_ hb); replace BK333 := Aside0.mk (blk_below (g := gb333) (o := .cells #[.slice Ao22 t329.length co22] 28 (0, 0)) z23_ hb); replace BK337 := Aside0.mk (blk_below (g := gb337) (o := .cells #[.slice Ao28 t349.length co28] 28 (0, 0)) z24_ hb); replace BK342 := Aside0.mk (blk_below (g := gb342) (o := .cells #[.slice Ao34 t352.length co34] 28 (0, 0)) z32_ hb); replace BK361 := Aside0.mk (blk_below (g := gb361) (o := .cells #[.slice Ao120 t357.length co120] 28 (0, 0)) z172_ hb); replace HB := Aside0.mk (below_step z29_ hb); (try clear hb)))
                go_ret
                exact ⟨z4_, z29_⟩
          ·rw [if_neg c102] at H
           have c102b0 : (t353 == t351) = false := beq_eq_false_iff_ne.mpr c102
           have c102b1 : (t353 != t351) = true := bne_iff_ne.mpr c102
           obtain rfl := Option.some.inj H
           have hnb170 := NB342_324.out
           have hnc170 := NB324_342.out
           have hnb171 := NB342_333.out
           have hnc171 := NB333_342.out
           have hnb172 := NB342_337.out
           have hnc172 := NB337_342.out
           have hcz173_0 : wc.cell? ⟨gb342, 0, none⟩ = some (.slice Ao34 t338.length co34) := (blk_cell BK342.out 0).trans rfl
           have hfz173_0 := blk_frozen BK342.out 0
           go_wp2_with (first | ((with_reducible refine gate_callee (f := 14) rfl ?_); refine goesL_ (some 72) rfl rfl Try.func14 (by kernel_rfl) rfl #[.agg #[.slice Ao34 t338.length co34], .int .i64 1] rfl z1_ ?_; (with_reducible refine (laws_markDom.calls kj61 (fun k_ => some k_ = (.slice Ao34 t338.length co34 : Value).ownBlock) (.slice Ao34 t338.length co34) t338 1 t351 t352 w _ ?side1 ?side2 A92.out).mono ?_); (case side1 => exact z2_); (case side2 => exact Kd.R_tight rfl HO_343000.out); rintro e w174 ⟨rfl, hy0, hb, hkp⟩; refine ⟨_, rfl, ?_⟩; replace HO_334000 := Aside0.mk (Kd.R_mono (ok' := fun k_ => some k_ ≠ (.slice Ao28 t349.length co28 : Value).ownBlock ∧ some k_ ≠ (.slice Ao34 t338.length co34 : Value).ownBlock) (Kd.R_keptB (HO_334000.out) hkp (fun k_ hk_ hs_ => (hk_.2) hs_)) (fun k_ hk_ => ⟨hk_.1.1, hk_.1.2⟩)); replace HO_338000 := Aside0.mk (Kd.R_mono (ok' := fun k_ => some k_ ≠ (.slice Ao22 t329.length co22 : Value).ownBlock ∧ some k_ ≠ (.slice Ao34 t338.length co34 : Value).ownBlock) (Kd.R_keptB (HO_338000.out) hkp (fun k_ hk_ hs_ => (hk_.2) hs_)) (fun k_ hk_ => ⟨hk_.1.1, hk_.1.2⟩)); replace BK324 := Aside0.mk (blk_kept z13_ hkp (fun hs_ => (fun e_ => (Kd.R_ne HO_343000.out BK324.out (by decide)) e_) hs_)); replace BK333 := Aside0.mk (blk_kept z23_ hkp (fun hs_ => (fun e_ => (Kd.R_ne HO_343000.out BK333.out (by decide)) e_) hs_)); replace BK337 := Aside0.mk (blk_kept z24_ hkp (fun hs_ => (fun e_ => (Kd.R_ne HO_343000.out BK337.out (by decide)) e_) hs_)); replace BK342 := Aside0.mk (blk_kept z32_ hkp (fun hs_ => (fun e_ => (Kd.R_ne HO_343000.out BK342.out (by decide)) e_) hs_)); replace HO_343000 := Aside0.mk (Kd.R_reok rfl hy0 (fun k_ e_ => HO_343000.out.1 k_ e_)); replace HB := Aside0.mk (hb); (try clear hb hkp hy0); have hcz175_0 : w174.cell? ⟨gb342, 0, none⟩ = some (.slice Ao34 t338.length co34) := (blk_cell BK342.out 0).trans rfl; have hfz175_0 := blk_frozen BK342.out 0) | ((with_reducible refine gate_callee (f := 15) rfl ?_); refine goesL_ (some 75) rfl rfl Try.func15 (by kernel_rfl) rfl #[.agg #[.slice Ao34 t352.length co34], .int .i64 1] rfl z108_ ?_; (with_reducible refine (laws_heldDom.calls kj61 _ _ t352 1 t353 _ ?side1 ?side2 A93.out).mono ?_); (case side1 => exact z61_); (case side2 => exact z176_); rintro e w176 ⟨rfl, hb⟩; refine ⟨_, rfl, ?_⟩; replace HO_334000 := Aside0.mk (Kd.R_below z48_ hb); replace HO_338000 := Aside0.mk (Kd.R_below z49_ hb); replace HO_343000 := Aside0.mk (Kd.R_below z50_ hb); replace BK324 := Aside0.mk (blk_below (g := gb324) (o := .cells #[.slice A0_0 l0_0.length c0_0] 24 (0, 0)) z13_ hb); replace BK333 := Aside0.mk (blk_below (g := gb333) (o := .cells #[.slice Ao22 t329.length co22] 28 (0, 0)) z23_ hb); replace BK337 := Aside0.mk (blk_below (g := gb337) (o := .cells #[.slice Ao28 t349.length co28] 28 (0, 0)) z24_ hb); replace BK342 := Aside0.mk (blk_below (g := gb342) (o := .cells #[.slice Ao34 t338.length co34] 28 (0, 0)) z32_ hb); replace HB := Aside0.mk (below_step z2_ hb); (try clear hb)))
           go_ret
           exact ⟨z4_, z2_⟩
     ·replace c60 := Bool.eq_false_iff.mpr c60
      subst c60
      replace H := iff_ H
      obtain rfl := Option.some.inj H
      try go_wp2
      have n0_ := Aside0.mk (Kd.R_drew HO_334000.out)
      have n1_ := Aside0.mk (Kd.R_drew HO_338000.out)
      have n2_ := Aside0.mk (Kd.R_drew HO_343000.out)
      have n3_ := Aside0.mk (blk_drew BK324.out)
      have n4_ := Aside0.mk (blk_drew BK333.out)
      have n5_ := Aside0.mk (blk_drew BK337.out)
      have n6_ := Aside0.mk (blk_drew BK342.out)
      have n7_ := Aside0.mk (below_drew1 HB.out)
      clear HO_334000
      clear HO_338000
      clear HO_343000
      clear BK324
      clear BK333
      clear BK337
      clear BK342
      clear HB
      have HO_334000 := n0_
      have HO_338000 := n1_
      have HO_343000 := n2_
      have BK324 := n3_
      have BK333 := n4_
      have BK337 := n5_
      have BK342 := n6_
      have HB := n7_
      clear n0_ n1_ n2_ n3_ n4_ n5_ n6_ n7_
      refine start_ (n := 5) (S := fun w' => w'.cell? ⟨gb337, 0, none⟩ = some (.slice Ao28 t334.length co28) ∧ w'.cell? ⟨gb324, 0, none⟩ = some (.slice A0_0 l0_0.length c0_0)) (ds := []) (fl_ 5 0) (by kernel_rfl) rfl (fl_zero _) ⟨(blk_cell BK337.out 0).trans rfl, (blk_cell BK324.out 0).trans rfl⟩ (fun hHeld => ?_)
      generalize wc.drew = w177 at HO_334000 HO_338000 HO_343000 BK324 BK333 BK337 BK342 HB hHeld ⊢
      refine take_ (i := 0) (N := some 49) (v := ?_) (a' := ?_) #[true, false, false, false, false] rfl rfl (by kernel_rfl) (fun _ _ _ h => h) (Or.inl ⟨by rfl, ?_⟩) hHeld ?_ ?_
      rotate_left
      ·rintro w' ⟨s0, s1⟩
       go_simp
       with_reducible rfl
      rotate_left
      ·simp only [Act.put, List.setIfInBounds_toArray, List.set_cons_zero, List.set_cons_succ, i64_w, i32_w]
       rfl
      refine take_ (i := 1) (N := some 50) (v := ?_) (a' := ?_) #[true, true, false, false, false] rfl rfl (by kernel_rfl) (fun _ _ _ h => h) (Or.inl ⟨by rfl, ?_⟩) hHeld ?_ ?_
      rotate_left
      ·rintro w' ⟨s0, s1⟩
       go_simp
       with_reducible rfl
      rotate_left
      ·simp only [Act.put, List.setIfInBounds_toArray, List.set_cons_zero, List.set_cons_succ, i64_w, i32_w]
       rfl
      refine one_ (i := 2) (N := some 51) (fl_ 5 3) rfl rfl (by kernel_rfl) (by decide) (fun K hK => ?_)
      refine goes_ Try.func11 (by kernel_rfl) rfl #[.agg #[.slice A0_0 l0_0.length c0_0]] (by rfl) rfl rfl z1_ ?_
      with_reducible refine (laws_toDom.calls kj12 _ _ l0_0 t344 _ ?side1 ?side2 A58.out).mono ?_
      (case side1 => exact z10_)
      (case side2 => exact HC0_0.out)
      rintro e w178 ⟨v345, rfl, ho0, hb⟩
      refine ⟨_, rfl, ?_⟩
      have n0_ := Aside0.mk (Kd.R_elder' z48_ (Kd.R_base ho0) hb)
      have n1_ := Aside0.mk (Kd.R_elder' z49_ (Kd.R_base ho0) hb)
      have n2_ := Aside0.mk (Kd.R_elder' z50_ (Kd.R_base ho0) hb)
      have n3_ := Aside0.mk (Kd.R_lower (Kd.R_new' (Kd.R_new' (Kd.R_new' ho0 (Kd.R_lt z48_)) (Kd.R_lt z49_)) (Kd.R_lt z50_)) (below_size z2_))
      have n4_ := Aside0.mk (blk_below (g := gb324) (o := .cells #[.slice A0_0 l0_0.length c0_0] 24 (0, 0)) z13_ hb)
      have n5_ := Aside0.mk (blk_below (g := gb333) (o := .cells #[.slice Ao22 t329.length co22] 28 (0, 0)) z23_ hb)
      have n6_ := Aside0.mk (blk_below (g := gb337) (o := .cells #[.slice Ao28 t334.length co28] 28 (0, 0)) z24_ hb)
      have n7_ := Aside0.mk (blk_below (g := gb342) (o := .cells #[.slice Ao34 t338.length co34] 28 (0, 0)) z32_ hb)
      have n8_ := Aside0.mk (below_step z2_ hb)
      clear HO_334000
      clear HO_338000
      clear HO_343000
      clear BK324
      clear BK333
      clear BK337
      clear BK342
      clear HB
      have HO_334000 := n0_
      have HO_338000 := n1_
      have HO_343000 := n2_
      have HO346 := n3_
      have BK324 := n4_
      have BK333 := n5_
      have BK337 := n6_
      have BK342 := n7_
      have HB := n8_
      clear n0_ n1_ n2_ n3_ n4_ n5_ n6_ n7_ n8_
      (try clear hb)
      (try clear hb2)
      (try clear hk)
      (try clear hi)
      (try clear ho0)
      obtain ⟨Ao179, co179, eo179⟩ := Kd.R_slice HO346.out
      (first | subst eo179 | (injection eo179 with f1_ f2_ f3_; have f4_ := f1_.symm; have f5_ := f3_.symm; clear f1_ f2_ f3_; subst f4_; subst f5_))
      refine hK.out _ _ ⟨(blk_cell BK337.out 0).trans rfl, (blk_cell BK324.out 0).trans rfl⟩ (fun hHeld => ?_)
      clear hK K
      refine zn_ rfl ?_
      refine one_ (i := 3) (N := some 52) (fl_ 5 4) rfl rfl (by kernel_rfl) (by decide) (fun K hK => ?_)
      refine goes_ Try.func13 (by kernel_rfl) rfl #[.agg #[.slice Ao28 t334.length co28], .agg #[.slice Ao179 t344.length co179]] (by rfl) rfl rfl z1_ ?_
      with_reducible refine (laws_eqDom.calls kj12 _ _ t334 _ _ t344 false _ ?side1 ?side2 ?side3 ?side4 A59.out).mono ?_
      (case side1 => exact z165_)
      (case side2 => exact (Kd.R_reads' HO_338000.out).2.1)
      (case side3 => exact z175_)
      (case side4 => exact (Kd.R_reads' HO346.out).2.1)
      rintro e w180 ⟨rfl, hb⟩
      refine ⟨_, rfl, ?_⟩
      have n0_ := Aside0.mk (Kd.R_below z48_ hb)
      have n1_ := Aside0.mk (Kd.R_below z49_ hb)
      have n2_ := Aside0.mk (Kd.R_below z50_ hb)
      have n3_ := Aside0.mk (Kd.R_below z155_ hb)
      have n4_ := Aside0.mk (blk_below (g := gb324) (o := .cells #[.slice A0_0 l0_0.length c0_0] 24 (0, 0)) z13_ hb)
      have n5_ := Aside0.mk (blk_below (g := gb333) (o := .cells #[.slice Ao22 t329.length co22] 28 (0, 0)) z23_ hb)
      have n6_ := Aside0.mk (blk_below (g := gb337) (o := .cells #[.slice Ao28 t334.length co28] 28 (0, 0)) z24_ hb)
      have n7_ := Aside0.mk (blk_below (g := gb342) (o := .cells #[.slice Ao34 t338.length co34] 28 (0, 0)) z32_ hb)
      have n8_ := Aside0.mk (below_step z2_ hb)
      clear HO_334000
      clear HO_338000
      clear HO_343000
      clear HO346
      clear BK324
      clear BK333
      clear BK337
      clear BK342
      clear HB
      have HO_334000 := n0_
      have HO_338000 := n1_
      have HO_343000 := n2_
      have HO346 := n3_
      have BK324 := n4_
      have BK333 := n5_
      have BK337 := n6_
      have BK342 := n7_
      have HB := n8_
      clear n0_ n1_ n2_ n3_ n4_ n5_ n6_ n7_ n8_
      (try clear hb)
      (try clear hb2)
      (try clear hk)
      (try clear hi)
      refine hK.out _ _ ⟨(blk_cell BK337.out 0).trans rfl, (blk_cell BK324.out 0).trans rfl⟩ (fun hHeld => ?_)
      clear hK K
      refine zn_ rfl ?_
      refine pure_ (i := 4) (N := some 53) (v := ?_) (a' := ?_) #[true, true, true, true, true] rfl rfl (by kernel_rfl) (fun _ _ _ h => h) (Or.inl ⟨by rfl, ?_⟩) ?_ ?_
      rotate_left
      ·intro w'
       go_simp
       with_reducible rfl
      rotate_left
      ·simp only [Act.put, List.setIfInBounds_toArray, List.set_cons_zero, List.set_cons_succ, i64_w, i32_w]
       rfl
      refine done_ (by kernel_rfl) ?_
      try go_wp2
      go_ret
      exact ⟨z4_, z2_⟩

end Go.Proofs.Ytmbhlfcpdbbogab.PFnExactDomRelabel
