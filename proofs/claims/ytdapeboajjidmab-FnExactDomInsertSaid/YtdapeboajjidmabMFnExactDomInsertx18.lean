/- Laid by a program of this session out of the kit's print for the law FnExactDomInsert: what it says of the machine is proved here, function by function; each contract under the conditions that it names. -/
import Derived.Test.YtdapeboajjidmabMFnExactDomInsertx0
import Derived.Test.YtdapeboajjidmabMFnExactDomInsertx2
import Derived.Test.YtdapeboajjidmabMFnExactDomInsertx3
import Derived.Test.YtdapeboajjidmabMFnExactDomInsertx10
import Derived.Test.YtdapeboajjidmabMFnExactDomInsertx17
namespace Go.Proofs.Ytdapeboajjidmab.PFnExactDomInsert
open Go.RowKit Go.Proofs.YtdapeboajjidmabW.PrintWords Go.Proofs.YtdapeboajjidmabW.PrintLast Go.Proofs.YtdapeboajjidmabW.PrintMore
attribute [local go_sem] max2_int min2_int max_two min_two max_three min_three max_four min_four   -- for this text's walks alone
set_option linter.unusedVariables false
set_option linter.unusedSimpArgs false

/-! ### laws_FnExactDomInsert: function 5 -/
mutual
def laws_FnExactDomInsert.j0 : Nat → Int → Int → Int → Int → Int → Int → Bool → List (S135) → List (S72) → List (S72) → List (S72) → Option (Bool)
 | 0, _, _, _, _, _, _, _, _, _, _, _ => none
 | k + 1, x1, x2, x3, x4, x13, x16, x56, x504000, x513000, x517000, x522000 => if x56 = true then (none) else ((laws_toDom.f k x504000).bind fun t523 => ((laws_eqDom.f k x517000 t523).bind fun t526 => (if t526 = true then ((laws_markDom.f k x517000 1).bind fun bt527 => (if bt527.1 < 0 then (laws_FnExactDomInsert.j1 k x1 x2 x3 x4 x13 true x504000 x513000 x522000) else ((laws_eqDom.f k x522000 x513000).bind fun t529 => (if t529 = true then (laws_FnExactDomInsert.j1 k x1 x2 x3 x4 x13 (x16 != x13) x504000 x513000 x522000) else (laws_FnExactDomInsert.j1 k x1 x2 x3 x4 x13 true x504000 x513000 x522000))))) else (none))))
def laws_FnExactDomInsert.j1 : Nat → Int → Int → Int → Int → Int → Bool → List (S135) → List (S72) → List (S72) → Option (Bool)
 | 0, _, _, _, _, _, _, _, _, _ => none
 | k + 1, x1, x2, x3, x4, x13, x77, x504000, x513000, x522000 => if x77 = true then (none) else ((laws_markDom.f k x522000 1).bind fun bt530 => ((laws_heldDom.f k bt530.2 1).bind fun t532 => (if t532 < 0 then (none) else (if t532 = bt530.1 then ((laws_toDom.f k x504000).bind fun t533 => ((impl_DomInsert.f k t533 x1 x2 x3 x4).bind fun bt536 => ((laws_eqDom.f k bt536.1 x513000).bind fun t541 => (if t541 = true then (laws_FnExactDomInsert.j2 k bt530.1 (bt536.2 != x13) bt530.2) else (laws_FnExactDomInsert.j2 k bt530.1 true bt530.2))))) else (none)))))
def laws_FnExactDomInsert.j2 : Nat → Int → Bool → List (S72) → Option (Bool)
 | 0, _, _, _ => none
 | k + 1, x18, x107, x522000 => if x107 = true then (none) else ((laws_heldDom.f k x522000 1).bind fun t542 => (if t542 < 0 then (none) else (if t542 = x18 then (some true) else (none))))
end
def laws_FnExactDomInsert.f (k : Nat) (l0_0 : List (S135)) (a1 : Int) (a2 : Int) (a3 : Int) (a4 : Int) : Option (Bool) := (laws_szDom.f l0_0 1048576).bind fun t504 => (if t504 < 0 then (some true) else ((laws_toDom.f k l0_0).bind fun t505 => ((spec_DomInsert.f k t505 a1 a2 a3 a4).bind fun bt508 => ((laws_toDom.f k l0_0).bind fun t513 => ((impl_DomInsert.f k t513 a1 a2 a3 a4).bind fun bt517 => ((laws_eqDom.f k bt517.1 bt508.1).bind fun t522 => (if t522 = true then (laws_FnExactDomInsert.j0 k a1 a2 a3 a4 bt508.2 bt517.2 (bt517.2 != bt508.2) l0_0 bt508.1 t513 bt517.1) else (laws_FnExactDomInsert.j0 k a1 a2 a3 a4 bt508.2 bt517.2 true l0_0 bt508.1 t513 bt517.1))))))))
set_option maxHeartbeats 8000000 in
set_option maxRecDepth 100000 in
theorem laws_FnExactDomInsert.calls (k : Nat) (A0_0 : Option Addr) (c0_0 : Nat) (l0_0 : List (S135)) (a1 : Int) (a2 : Int) (a3 : Int) (a4 : Int) (r : Bool) (w : World) (hr0_0 : Kd.C k135 w A0_0 l0_0.length l0_0) (hc0_0 : l0_0.length ≤ c0_0) (h : laws_FnExactDomInsert.f k l0_0 a1 a2 a3 a4 = some r) :
  Calls Try.prog 5 #[.agg #[.slice A0_0 l0_0.length c0_0], .int .i64 a1, .int .i64 a2, .int .i64 a3, .int .i64 a4] w fun e w' => e = .returned (.bool r) ∧ Below w.heap.size w w' := by
 have hu39 := Try.underlying39
 have hu28 := Try.underlying28
 have HR0_0 := Aside0.mk hr0_0
 have HC0_0 := Aside0.mk hc0_0
 clear hr0_0 hc0_0
 have HB := Aside0.mk (Below.refl w.heap.size w)
 have H : ((laws_szDom.f l0_0 1048576).bind fun t504 => (if t504 < 0 then (some true) else ((laws_toDom.f k l0_0).bind fun t505 => ((spec_DomInsert.f k t505 a1 a2 a3 a4).bind fun bt508 => ((laws_toDom.f k l0_0).bind fun t513 => ((impl_DomInsert.f k t513 a1 a2 a3 a4).bind fun bt517 => ((laws_eqDom.f k bt517.1 bt508.1).bind fun t522 => (if t522 = true then (laws_FnExactDomInsert.j0 k a1 a2 a3 a4 bt508.2 bt517.2 (bt517.2 != bt508.2) l0_0 bt508.1 t513 bt517.1) else (laws_FnExactDomInsert.j0 k a1 a2 a3 a4 bt508.2 bt517.2 true l0_0 bt508.1 t513 bt517.1))))))))) = some r := h
 clear h
 obtain ⟨t504, A6, H⟩ := bnd_ H
 by_cases c7 : t504 < 0
 ·rw [if_pos c7] at H
  have c7b0 := decide_eq_true c7
  clear c7
  obtain rfl := Option.some.inj H
  go_enter Try.func5, Try.ntmps5
  go_wp2_with (first | ((with_reducible refine gate_dst (N := 5) rfl ?_); refine box_event ?hg (N := 5) ?hd (cs := #[.slice A0_0 l0_0.length c0_0]) (t := 39) ?hr ?_; (case hd => rfl); (case hg => rfl); (case hr => exact z19_); intro gb503 hg w8 hbox hb; have BK503 := Aside0.mk (hbox); have GW503 := Aside0.mk ((by rw [hg]; exact (below_size z0_) : w.heap.size ≤ gb503)); have GE503 := Aside0.mk ((by rw [hg]; exact (below_size z0_) : w.heap.size ≤ gb503)); replace HB := Aside0.mk (below_step z0_ hb); clear hb hbox hg; have hcz9_0 : w8.cell? ⟨gb503, 0, none⟩ = some (.slice A0_0 l0_0.length c0_0) := (blk_cell BK503.out 0).trans rfl; have hfz9_0 := blk_frozen BK503.out 0) | ((with_reducible refine gate_callee (f := 21) rfl ?_); refine goesL_ (some 24) rfl rfl Try.func21 (by kernel_rfl) rfl #[.agg #[.slice A0_0 l0_0.length c0_0], .int .i64 1048576] rfl z2_ ?_; (with_reducible refine (laws_szDom.calls _ _ l0_0 1048576 t504 _ ?side1 ?side2 A6.out).mono ?_); (case side1 => exact z9_); (case side2 => exact HC0_0.out); rintro e w10 ⟨rfl, hb⟩; refine ⟨_, rfl, ?_⟩; replace BK503 := Aside0.mk (blk_below (g := gb503) (o := .cells #[.slice A0_0 l0_0.length c0_0] 39 (0, 0)) z33_ hb); replace HB := Aside0.mk (below_step z64_ hb); (try clear hb)))
  go_ret
  exact ⟨z4_, z64_⟩
 ·rw [if_neg c7] at H
  have c7b0 := decide_eq_false c7
  clear c7
  obtain ⟨t505, A11, H⟩ := bnd_ H
  replace H := Option.bind_eq_some_iff.mp H
  obtain ⟨⟨t508, t511⟩, A120, H⟩ := H
  try dsimp only at H
  have A12 := Aside0.mk A120
  clear A120
  obtain ⟨t513, A13, H⟩ := bnd_ H
  replace H := Option.bind_eq_some_iff.mp H
  obtain ⟨⟨t517, t520⟩, A140, H⟩ := H
  try dsimp only at H
  have A14 := Aside0.mk A140
  clear A140
  have HC15 := Aside0.mk H
  clear H
  go_enter Try.func5, Try.ntmps5
  go_upto_region 8 with (first | ((with_reducible refine gate_dst (N := 5) rfl ?_); refine box_event ?hg (N := 5) ?hd (cs := #[.slice A0_0 l0_0.length c0_0]) (t := 39) ?hr ?_; (case hd => rfl); (case hg => rfl); (case hr => exact z19_); intro gb503 hg w16 hbox hb; have BK503 := Aside0.mk (hbox); have GW503 := Aside0.mk ((by rw [hg]; exact (below_size z0_) : w.heap.size ≤ gb503)); have GE503 := Aside0.mk ((by rw [hg]; exact (below_size z0_) : w.heap.size ≤ gb503)); replace HB := Aside0.mk (below_step z0_ hb); clear hb hbox hg; have hcz17_0 : w16.cell? ⟨gb503, 0, none⟩ = some (.slice A0_0 l0_0.length c0_0) := (blk_cell BK503.out 0).trans rfl; have hfz17_0 := blk_frozen BK503.out 0) | ((with_reducible refine gate_callee (f := 21) rfl ?_); refine goesL_ (some 24) rfl rfl Try.func21 (by kernel_rfl) rfl #[.agg #[.slice A0_0 l0_0.length c0_0], .int .i64 1048576] rfl z2_ ?_; (with_reducible refine (laws_szDom.calls _ _ l0_0 1048576 t504 _ ?side1 ?side2 A6.out).mono ?_); (case side1 => exact z9_); (case side2 => exact HC0_0.out); rintro e w18 ⟨rfl, hb⟩; refine ⟨_, rfl, ?_⟩; replace BK503 := Aside0.mk (blk_below (g := gb503) (o := .cells #[.slice A0_0 l0_0.length c0_0] 39 (0, 0)) z33_ hb); replace HB := Aside0.mk (below_step z64_ hb); (try clear hb); have hcz19_0 : w18.cell? ⟨gb503, 0, none⟩ = some (.slice A0_0 l0_0.length c0_0) := (blk_cell BK503.out 0).trans rfl; have hfz19_0 := blk_frozen BK503.out 0) | ((with_reducible refine gate_callee (f := 23) rfl ?_); refine goesL_ (some 29) rfl rfl Try.func23 (by kernel_rfl) rfl #[.agg #[.slice A0_0 l0_0.length c0_0]] rfl z2_ ?_; (with_reducible refine (laws_toDom.calls k _ _ l0_0 t505 _ ?side1 ?side2 A11.out).mono ?_); (case side1 => exact z9_); (case side2 => exact HC0_0.out); rintro e w20 ⟨v506, rfl, ho0, hb⟩; refine ⟨_, rfl, ?_⟩; have HO507 := Aside0.mk (Kd.R_lower ho0 (below_size z64_)); replace BK503 := Aside0.mk (blk_below (g := gb503) (o := .cells #[.slice A0_0 l0_0.length c0_0] 39 (0, 0)) z33_ hb); replace HB := Aside0.mk (below_step z64_ hb); (try clear hb ho0); obtain ⟨Ao21, co21, eo21⟩ := Kd.R_slice HO507.out; subst eo21) | ((with_reducible refine gate_callee (f := 28) rfl ?_); refine goesL_ (some 34) rfl rfl Try.func28 (by kernel_rfl) rfl #[.agg #[.slice Ao21 t505.length co21], .int .i64 a1, .int .i64 a2, .int .i64 a3, .int .i64 a4] rfl z2_ ?_; (with_reducible refine (spec_DomInsert.calls k _ _ t505 a1 a2 a3 a4 t508 t511 _ ?side1 ?side2 A12.out).mono ?_); (case side1 => repeat (first | exact (Kd.R_reads' HO507.out).2.2 | (with_reducible refine Kd.C_alloc ?_ _) | (with_reducible refine Kd.C_drewN ?_ _) | (with_reducible refine Kd.C_drew ?_))); (case side2 => exact (Kd.R_reads' HO507.out).2.1); rintro e w22 ⟨v509, rfl, ho0, hb⟩; refine ⟨_, rfl, ?_⟩; have HO510 := Aside0.mk (Kd.R_lower (Kd.R_new' ho0 (Kd.R_lt z154_)) (below_size z64_)); replace HO507 := Aside0.mk (Kd.R_elder' z154_ (Kd.R_base ho0) hb); replace BK503 := Aside0.mk (blk_below (g := gb503) (o := .cells #[.slice A0_0 l0_0.length c0_0] 39 (0, 0)) z33_ hb); replace HB := Aside0.mk (below_step z64_ hb); (try clear hb ho0)) | ((with_reducible refine gate_dst (N := 12) rfl ?_); refine box_event ?hg (N := 12) ?hd (cs := #[.slice none 0 0]) (t := 28) ?hr ?_; (case hd => rfl); (case hg => rfl); (case hr => exact z19_); intro gb512 hg w23 hbox hb; replace HO507 := Aside0.mk (Kd.R_below z154_ hb); replace HO510 := Aside0.mk (Kd.R_below z237_ hb); have BK512 := Aside0.mk (hbox); have GW512 := Aside0.mk ((by rw [hg]; exact (below_size z64_) : w.heap.size ≤ gb512)); have GE512 := Aside0.mk ((by rw [hg]; exact (below_size z64_) : w.heap.size ≤ gb512)); replace HB := Aside0.mk (below_step z64_ hb); have NB503_512 := Aside0.mk ((by rw [hg]; exact Nat.ne_of_lt (blk_lt (g := gb503) (o := .cells #[.slice A0_0 l0_0.length c0_0] 39 (0, 0)) z33_) : gb503 ≠ gb512)); have NB512_503 := Aside0.mk ((by rw [hg]; exact Nat.ne_of_gt (blk_lt (g := gb503) (o := .cells #[.slice A0_0 l0_0.length c0_0] 39 (0, 0)) z33_) : gb512 ≠ gb503)); replace BK503 := Aside0.mk (blk_below (g := gb503) (o := .cells #[.slice A0_0 l0_0.length c0_0] 39 (0, 0)) z33_ hb); clear hb hbox hg; obtain ⟨Ao24, co24, eo24⟩ := Kd.R_slice HO510.out; subst eo24; have hnb25 := NB512_503.out; have hnc25 := NB503_512.out; have hcz26_0 : w23.cell? ⟨gb512, 0, none⟩ = some (.slice none 0 0) := (blk_cell BK512.out 0).trans rfl; have hfz26_0 := blk_frozen BK512.out 0; have hcz27_0 : w23.cell? ⟨gb503, 0, none⟩ = some (.slice A0_0 l0_0.length c0_0) := (blk_cell BK503.out 0).trans rfl; have hfz27_0 := blk_frozen BK503.out 0) | ((with_reducible refine gate_callee (f := 23) rfl ?_); refine goesL_ (some 38) rfl rfl Try.func23 (by kernel_rfl) rfl #[.agg #[.slice A0_0 l0_0.length c0_0]] rfl z2_ ?_; (with_reducible refine (laws_toDom.calls k _ _ l0_0 t513 _ ?side1 ?side2 A13.out).mono ?_); (case side1 => exact Kd.C_below HR0_0.out z83_); (case side2 => exact HC0_0.out); rintro e w28 ⟨v514, rfl, ho0, hb⟩; refine ⟨_, rfl, ?_⟩; have HO515 := Aside0.mk (Kd.R_lower (Kd.R_new' (Kd.R_new' ho0 (Kd.R_lt z159_)) (Kd.R_lt z160_)) (below_size z83_)); replace HO507 := Aside0.mk (Kd.R_elder' z159_ (Kd.R_base ho0) hb); replace HO510 := Aside0.mk (Kd.R_elder' z160_ (Kd.R_base ho0) hb); replace BK503 := Aside0.mk (blk_below (g := gb503) (o := .cells #[.slice A0_0 l0_0.length c0_0] 39 (0, 0)) (by (with_reducible repeat (first | refine blk_drewN ?_ _ | refine blk_drew ?_ | refine blk_alloc ?_ _)); refine blk_far ?_ NB503_512.out _; (with_reducible repeat (first | refine blk_drewN ?_ _ | refine blk_drew ?_ | refine blk_alloc ?_ _)); exact BK503.out) hb); replace BK512 := Aside0.mk (blk_below (g := gb512) (o := .cells #[.slice Ao24 t508.length co24] 28 (0, 0)) (by (with_reducible repeat (first | refine blk_drewN ?_ _ | refine blk_drew ?_ | refine blk_alloc ?_ _)); refine blk_put (cs := #[.slice none 0 0]) ?_ 0 _ rfl; (with_reducible repeat (first | refine blk_drewN ?_ _ | refine blk_drew ?_ | refine blk_alloc ?_ _)); exact BK512.out) hb); replace HB := Aside0.mk (below_step z83_ hb); (try clear hb ho0)) | ((with_reducible refine gate_dst (N := 14) rfl ?_); refine box_event ?hg (N := 14) ?hd (cs := #[.slice none 0 0]) (t := 28) ?hr ?_; (case hd => rfl); (case hg => rfl); (case hr => exact z19_); intro gb516 hg w29 hbox hb; replace HO507 := Aside0.mk (Kd.R_below z154_ hb); replace HO510 := Aside0.mk (Kd.R_below z237_ hb); replace HO515 := Aside0.mk (Kd.R_below z292_ hb); have BK516 := Aside0.mk (hbox); have GW516 := Aside0.mk ((by rw [hg]; exact (below_size z83_) : w.heap.size ≤ gb516)); have GE516 := Aside0.mk ((by rw [hg]; exact (below_size z83_) : w.heap.size ≤ gb516)); replace HB := Aside0.mk (below_step z83_ hb); have NB503_516 := Aside0.mk ((by rw [hg]; exact Nat.ne_of_lt (blk_lt (g := gb503) (o := .cells #[.slice A0_0 l0_0.length c0_0] 39 (0, 0)) z33_) : gb503 ≠ gb516)); have NB516_503 := Aside0.mk ((by rw [hg]; exact Nat.ne_of_gt (blk_lt (g := gb503) (o := .cells #[.slice A0_0 l0_0.length c0_0] 39 (0, 0)) z33_) : gb516 ≠ gb503)); replace BK503 := Aside0.mk (blk_below (g := gb503) (o := .cells #[.slice A0_0 l0_0.length c0_0] 39 (0, 0)) z33_ hb); have NB512_516 := Aside0.mk ((by rw [hg]; exact Nat.ne_of_lt (blk_lt (g := gb512) (o := .cells #[.slice Ao24 t508.length co24] 28 (0, 0)) z46_) : gb512 ≠ gb516)); have NB516_512 := Aside0.mk ((by rw [hg]; exact Nat.ne_of_gt (blk_lt (g := gb512) (o := .cells #[.slice Ao24 t508.length co24] 28 (0, 0)) z46_) : gb516 ≠ gb512)); replace BK512 := Aside0.mk (blk_below (g := gb512) (o := .cells #[.slice Ao24 t508.length co24] 28 (0, 0)) z46_ hb); clear hb hbox hg; obtain ⟨Ao30, co30, eo30⟩ := Kd.R_slice HO515.out; subst eo30; have hnb31 := NB516_503.out; have hnc31 := NB503_516.out; have hnb32 := NB516_512.out; have hnc32 := NB512_516.out; have hcz33_0 : w29.cell? ⟨gb516, 0, none⟩ = some (.slice none 0 0) := (blk_cell BK516.out 0).trans rfl; have hfz33_0 := blk_frozen BK516.out 0) | ((with_reducible refine gate_callee (f := 29) rfl ?_); refine goesL_ (some 45) rfl rfl Try.func29 (by kernel_rfl) rfl #[.agg #[.slice Ao30 t513.length co30], .int .i64 a1, .int .i64 a2, .int .i64 a3, .int .i64 a4] rfl z2_ ?_; (with_reducible refine (impl_DomInsert.calls k _ _ t513 a1 a2 a3 a4 t517 t520 _ ?side1 ?side2 A14.out).mono ?_); (case side1 => refine (Kd.R_reads' (e := 72) (base := w.heap.size) (ok := fun k_ => ((True ∧ some k_ ≠ (.slice Ao21 t505.length co21 : Value).ownBlock) ∧ some k_ ≠ (.slice Ao24 t508.length co24 : Value).ownBlock)) (n := t513.length) (c := co30) ?_).2.2; exact z117_); (case side2 => exact (Kd.R_reads' HO515.out).2.1); rintro e w34 ⟨v518, rfl, ho0, hb⟩; refine ⟨_, rfl, ?_⟩; have HO519 := Aside0.mk (Kd.R_lower (Kd.R_new' (Kd.R_new' (Kd.R_new' ho0 (Kd.R_lt z161_)) (Kd.R_lt z162_)) (Kd.R_lt z117_)) (below_size z87_)); replace HO507 := Aside0.mk (Kd.R_elder' z161_ (Kd.R_base ho0) hb); replace HO510 := Aside0.mk (Kd.R_elder' z162_ (Kd.R_base ho0) hb); replace HO515 := Aside0.mk (Kd.R_elder' z117_ (Kd.R_base ho0) hb); replace BK503 := Aside0.mk (blk_below (g := gb503) (o := .cells #[.slice A0_0 l0_0.length c0_0] 39 (0, 0)) (by (with_reducible repeat (first | refine blk_drewN ?_ _ | refine blk_drew ?_ | refine blk_alloc ?_ _)); refine blk_far ?_ NB503_516.out _; (with_reducible repeat (first | refine blk_drewN ?_ _ | refine blk_drew ?_ | refine blk_alloc ?_ _)); exact BK503.out) hb); replace BK512 := Aside0.mk (blk_below (g := gb512) (o := .cells #[.slice Ao24 t508.length co24] 28 (0, 0)) (by (with_reducible repeat (first | refine blk_drewN ?_ _ | refine blk_drew ?_ | refine blk_alloc ?_ _)); refine blk_far ?_ NB512_516.out _; (with_reducible repeat (first | refine blk_drewN ?_ _ | refine blk_drew ?_ | refine blk_alloc ?_ _)); exact BK512.out) hb); replace BK516 := Aside0.mk (blk_below (g := gb516) (o := .cells #[.slice Ao30 t513.length co30] 28 (0, 0)) (by (with_reducible repeat (first | refine blk_drewN ?_ _ | refine blk_drew ?_ | refine blk_alloc ?_ _)); refine blk_put (cs := #[.slice none 0 0]) ?_ 0 _ rfl; (with_reducible repeat (first | refine blk_drewN ?_ _ | refine blk_drew ?_ | refine blk_alloc ?_ _)); exact BK516.out) hb); replace HB := Aside0.mk (below_step z87_ hb); (try clear hb ho0)) | ((with_reducible refine gate_dst (N := 15) rfl ?_); refine box_event ?hg (N := 15) ?hd (cs := #[.slice none 0 0]) (t := 28) ?hr ?_; (case hd => rfl); (case hg => rfl); (case hr => exact z19_); intro gb521 hg w35 hbox hb; replace HO507 := Aside0.mk (Kd.R_below z154_ hb); replace HO510 := Aside0.mk (Kd.R_below z237_ hb); replace HO515 := Aside0.mk (Kd.R_below z292_ hb); replace HO519 := Aside0.mk (Kd.R_below (by (with_reducible repeat (first | apply Kd.R_alloc | apply Kd.R_drewN | apply Kd.R_drew)); exact HO519.out) hb); have BK521 := Aside0.mk (hbox); have GW521 := Aside0.mk ((by rw [hg]; exact (below_size z87_) : w.heap.size ≤ gb521)); have GE521 := Aside0.mk ((by rw [hg]; exact (below_size z87_) : w.heap.size ≤ gb521)); replace HB := Aside0.mk (below_step z87_ hb); have NB503_521 := Aside0.mk ((by rw [hg]; exact Nat.ne_of_lt (blk_lt (g := gb503) (o := .cells #[.slice A0_0 l0_0.length c0_0] 39 (0, 0)) z33_) : gb503 ≠ gb521)); have NB521_503 := Aside0.mk ((by rw [hg]; exact Nat.ne_of_gt (blk_lt (g := gb503) (o := .cells #[.slice A0_0 l0_0.length c0_0] 39 (0, 0)) z33_) : gb521 ≠ gb503)); replace BK503 := Aside0.mk (blk_below (g := gb503) (o := .cells #[.slice A0_0 l0_0.length c0_0] 39 (0, 0)) z33_ hb); have NB512_521 := Aside0.mk ((by rw [hg]; exact Nat.ne_of_lt (blk_lt (g := gb512) (o := .cells #[.slice Ao24 t508.length co24] 28 (0, 0)) z46_) : gb512 ≠ gb521)); have NB521_512 := Aside0.mk ((by rw [hg]; exact Nat.ne_of_gt (blk_lt (g := gb512) (o := .cells #[.slice Ao24 t508.length co24] 28 (0, 0)) z46_) : gb521 ≠ gb512)); replace BK512 := Aside0.mk (blk_below (g := gb512) (o := .cells #[.slice Ao24 t508.length co24] 28 (0, 0)) z46_ hb); have NB516_521 := Aside0.mk ((by rw [hg]; exact Nat.ne_of_lt (blk_lt (g := gb516) (o := .cells #[.slice Ao30 t513.length co30] 28 (0, 0)) z48_) : gb516 ≠ gb521)); have NB521_516 := Aside0.mk ((by rw [hg]; exact Nat.ne_of_gt (blk_lt (g := gb516) (o := .cells #[.slice Ao30 t513.length co30] 28 (0, 0)) z48_) : gb521 ≠ gb516)); replace BK516 := Aside0.mk (blk_below (g := gb516) (o := .cells #[.slice Ao30 t513.length co30] 28 (0, 0)) z48_ hb); clear hb hbox hg; obtain ⟨Ao36, co36, eo36⟩ := Kd.R_slice HO519.out; subst eo36; have hnb37 := NB521_503.out; have hnc37 := NB503_521.out; have hnb38 := NB521_512.out; have hnc38 := NB512_521.out; have hnb39 := NB521_516.out; have hnc39 := NB516_521.out; have hcz40_0 : w35.cell? ⟨gb521, 0, none⟩ = some (.slice none 0 0) := (blk_cell BK521.out 0).trans rfl; have hfz40_0 := blk_frozen BK521.out 0))
  (try simp only [Act.put, List.setIfInBounds_toArray, List.set_cons_zero, List.set_cons_succ])
  go_cut [56] (fun v56 wc => ∃ (kq : Nat) (x56_14 : Bool), v56 = .bool x56_14 ∧ Aside0 (laws_FnExactDomInsert.j0 kq a1 a2 a3 a4 t511 t520 x56_14 l0_0 t508 t513 t517 = some r) ∧ Aside0 (kq ≤ k) ∧ Aside0 (Kd.R k72 72 wc w.heap.size (fun k_ => some k_ ≠ ((.slice Ao30 t513.length co30) : Value).ownBlock ∧ some k_ ≠ ((.slice Ao36 t517.length co36) : Value).ownBlock) (.slice Ao24 t508.length co24) t508) ∧ Aside0 (Kd.R k72 72 wc w.heap.size (fun k_ => some k_ ≠ ((.slice Ao24 t508.length co24) : Value).ownBlock ∧ some k_ ≠ ((.slice Ao36 t517.length co36) : Value).ownBlock) (.slice Ao30 t513.length co30) t513) ∧ Aside0 (Kd.R k72 72 wc w.heap.size (fun k_ => some k_ ≠ ((.slice Ao24 t508.length co24) : Value).ownBlock ∧ some k_ ≠ ((.slice Ao30 t513.length co30) : Value).ownBlock) (.slice Ao36 t517.length co36) t517) ∧ Aside0 (wc.heap[gb503]? = some (.cells #[(.slice A0_0 l0_0.length c0_0)] 39 (0, 0))) ∧ Aside0 (wc.heap[gb512]? = some (.cells #[(.slice Ao24 t508.length co24)] 28 (0, 0))) ∧ Aside0 (wc.heap[gb516]? = some (.cells #[(.slice Ao30 t513.length co30)] 28 (0, 0))) ∧ Aside0 (wc.heap[gb521]? = some (.cells #[(.slice Ao36 t517.length co36)] 28 (0, 0))) ∧ Aside0 (Below w.heap.size w wc))
  case first =>
   have H := HC15.out
   clear HC15
   obtain ⟨t522, A41, H⟩ := bnd_ H
   by_cases c42 : t522 = true
   ·subst c42
    replace H := ift_ H
    have H' := Aside0.mk H
    clear H
    have hnb43 := NB521_503.out
    have hnc43 := NB503_521.out
    have hnb44 := NB521_512.out
    have hnc44 := NB512_521.out
    have hnb45 := NB521_516.out
    have hnc45 := NB516_521.out
    have hcz46_0 : w35.cell? ⟨gb521, 0, none⟩ = some (.slice none 0 0) := (blk_cell BK521.out 0).trans rfl
    have hfz46_0 := blk_frozen BK521.out 0
    have hnb47 := NB512_503.out
    have hnc47 := NB503_512.out
    have hnb48 := NB512_516.out
    have hnc48 := NB516_512.out
    have hcz49_0 : w35.cell? ⟨gb512, 0, none⟩ = some (.slice Ao24 t508.length co24) := (blk_cell BK512.out 0).trans rfl
    have hfz49_0 := blk_frozen BK512.out 0
    go_wp2_with (first | ((with_reducible refine gate_callee (f := 25) rfl ?_); refine goesL_ (some 50) rfl rfl Try.func25 (by kernel_rfl) rfl #[.agg #[.slice Ao36 t517.length co36], .agg #[.slice Ao24 t508.length co24]] rfl z2_ ?_; (with_reducible refine (laws_eqDom.calls k _ _ t517 _ _ t508 true _ ?side1 ?side2 ?side3 ?side4 A41.out).mono ?_); (case side1 => exact z88_); (case side2 => exact (Kd.R_reads' HO519.out).2.1); (case side3 => exact z89_); (case side4 => exact (Kd.R_reads' HO510.out).2.1); rintro e w50 ⟨rfl, hb⟩; refine ⟨_, rfl, ?_⟩; replace HO507 := Aside0.mk (Kd.R_below z163_ hb); replace HO510 := Aside0.mk (Kd.R_below z98_ hb); replace HO515 := Aside0.mk (Kd.R_below z164_ hb); replace HO519 := Aside0.mk (Kd.R_below z97_ hb); replace BK503 := Aside0.mk (blk_below (g := gb503) (o := .cells #[.slice A0_0 l0_0.length c0_0] 39 (0, 0)) z167_ hb); replace BK512 := Aside0.mk (blk_below (g := gb512) (o := .cells #[.slice Ao24 t508.length co24] 28 (0, 0)) z168_ hb); replace BK516 := Aside0.mk (blk_below (g := gb516) (o := .cells #[.slice Ao30 t513.length co30] 28 (0, 0)) z169_ hb); replace BK521 := Aside0.mk (blk_below (g := gb521) (o := .cells #[.slice Ao36 t517.length co36] 28 (0, 0)) z148_ hb); replace HB := Aside0.mk (below_step z14_ hb); (try clear hb)))
    go_meet
    case rel => exact ⟨_, ((t520 != t511)), z17_, H', ⟨z124_⟩, ⟨z262_⟩, ⟨z263_⟩, ⟨z264_⟩, ⟨z33_⟩, ⟨z46_⟩, ⟨z48_⟩, ⟨z57_⟩, ⟨z14_⟩⟩
   ·replace c42 := Bool.eq_false_iff.mpr c42
    subst c42
    replace H := iff_ H
    have H' := Aside0.mk H
    clear H
    have hnb51 := NB521_503.out
    have hnc51 := NB503_521.out
    have hnb52 := NB521_512.out
    have hnc52 := NB512_521.out
    have hnb53 := NB521_516.out
    have hnc53 := NB516_521.out
    have hcz54_0 : w35.cell? ⟨gb521, 0, none⟩ = some (.slice none 0 0) := (blk_cell BK521.out 0).trans rfl
    have hfz54_0 := blk_frozen BK521.out 0
    have hnb55 := NB512_503.out
    have hnc55 := NB503_512.out
    have hnb56 := NB512_516.out
    have hnc56 := NB516_512.out
    have hcz57_0 : w35.cell? ⟨gb512, 0, none⟩ = some (.slice Ao24 t508.length co24) := (blk_cell BK512.out 0).trans rfl
    have hfz57_0 := blk_frozen BK512.out 0
    go_wp2_with (first | ((with_reducible refine gate_callee (f := 25) rfl ?_); refine goesL_ (some 50) rfl rfl Try.func25 (by kernel_rfl) rfl #[.agg #[.slice Ao36 t517.length co36], .agg #[.slice Ao24 t508.length co24]] rfl z2_ ?_; (with_reducible refine (laws_eqDom.calls k _ _ t517 _ _ t508 false _ ?side1 ?side2 ?side3 ?side4 A41.out).mono ?_); (case side1 => exact z88_); (case side2 => exact (Kd.R_reads' HO519.out).2.1); (case side3 => exact z89_); (case side4 => exact (Kd.R_reads' HO510.out).2.1); rintro e w58 ⟨rfl, hb⟩; refine ⟨_, rfl, ?_⟩; replace HO507 := Aside0.mk (Kd.R_below z163_ hb); replace HO510 := Aside0.mk (Kd.R_below z98_ hb); replace HO515 := Aside0.mk (Kd.R_below z164_ hb); replace HO519 := Aside0.mk (Kd.R_below z97_ hb); replace BK503 := Aside0.mk (blk_below (g := gb503) (o := .cells #[.slice A0_0 l0_0.length c0_0] 39 (0, 0)) z167_ hb); replace BK512 := Aside0.mk (blk_below (g := gb512) (o := .cells #[.slice Ao24 t508.length co24] 28 (0, 0)) z168_ hb); replace BK516 := Aside0.mk (blk_below (g := gb516) (o := .cells #[.slice Ao30 t513.length co30] 28 (0, 0)) z169_ hb); replace BK521 := Aside0.mk (blk_below (g := gb521) (o := .cells #[.slice Ao36 t517.length co36] 28 (0, 0)) z148_ hb); replace HB := Aside0.mk (below_step z14_ hb); (try clear hb)))
    go_meet
    case rel => exact ⟨_, (true), z17_, H', ⟨z124_⟩, ⟨z262_⟩, ⟨z263_⟩, ⟨z264_⟩, ⟨z33_⟩, ⟨z46_⟩, ⟨z48_⟩, ⟨z57_⟩, ⟨z14_⟩⟩
  case rest =>
   clear HC15
   try clear c2
   try clear p2
   try clear c3
   try clear c4
   try clear c5
   try clear c7
   try clear c7b0
   try clear c21
   try clear c23
   try clear c25
   try clear c28
   try clear c29
   try clear c31
   try clear c32
   try clear c37
   try clear c38
   try clear c39
   try clear c42
   try clear c43
   try clear c44
   try clear c45
   try clear c47
   try clear c48
   try clear c51
   try clear c52
   try clear c53
   try clear c55
   try clear c56
   try clear hcz17_0
   try clear hcz19_0
   try clear hcz26_0
   try clear hcz27_0
   try clear hcz33_0
   try clear hcz40_0
   try clear hcz46_0
   try clear hcz49_0
   try clear hcz54_0
   try clear hcz57_0
   try clear hcz9_0
   try clear hfz17_0
   try clear hfz19_0
   try clear hfz26_0
   try clear hfz27_0
   try clear hfz33_0
   try clear hfz40_0
   try clear hfz46_0
   try clear hfz49_0
   try clear hfz54_0
   try clear hfz57_0
   try clear hfz9_0
   obtain ⟨kq, x56_14, rfl, HA, HJ14, HO_513000, HO_517000, HO_522000, BK503, BK512, BK516, BK521, HB⟩ := hcut
   cases kq with
   | zero => exact absurd HA.out (by simp [laws_FnExactDomInsert.j0])
   | succ kj14 =>
    have H := HA.out
    clear HA
    simp only [laws_FnExactDomInsert.j0] at H
    by_cases c59 : x56_14 = true
    ·subst c59
     rw [if_pos rfl] at H
     exact absurd H (by simp)
    ·replace c59 := Bool.eq_false_iff.mpr c59
     subst c59
     replace H := iff_ H
     obtain ⟨t523, A60, H⟩ := bnd_ H
     obtain ⟨t526, A61, H⟩ := bnd_ H
     by_cases c62 : t526 = true
     ·subst c62
      replace H := ift_ H
      replace H := Option.bind_eq_some_iff.mp H
      obtain ⟨⟨t527, t528⟩, A630, H⟩ := H
      try dsimp only at H
      have A63 := Aside0.mk A630
      clear A630
      have HC64 := Aside0.mk H
      clear H
      try go_wp2
      have n0_ := Aside0.mk (Kd.R_drew HO_513000.out)
      have n1_ := Aside0.mk (Kd.R_drew HO_517000.out)
      have n2_ := Aside0.mk (Kd.R_drew HO_522000.out)
      have n3_ := Aside0.mk (blk_drew BK503.out)
      have n4_ := Aside0.mk (blk_drew BK512.out)
      have n5_ := Aside0.mk (blk_drew BK516.out)
      have n6_ := Aside0.mk (blk_drew BK521.out)
      have n7_ := Aside0.mk (below_drew1 HB.out)
      clear HO_513000
      clear HO_517000
      clear HO_522000
      clear BK503
      clear BK512
      clear BK516
      clear BK521
      clear HB
      have HO_513000 := n0_
      have HO_517000 := n1_
      have HO_522000 := n2_
      have BK503 := n3_
      have BK512 := n4_
      have BK516 := n5_
      have BK521 := n6_
      have HB := n7_
      clear n0_ n1_ n2_ n3_ n4_ n5_ n6_ n7_
      refine start_ (n := 5) (S := fun w' => w'.cell? ⟨gb516, 0, none⟩ = some (.slice Ao30 t513.length co30) ∧ w'.cell? ⟨gb503, 0, none⟩ = some (.slice A0_0 l0_0.length c0_0)) (ds := []) (fl_ 5 0) (by kernel_rfl) rfl (fl_zero _) ⟨(blk_cell BK516.out 0).trans rfl, (blk_cell BK503.out 0).trans rfl⟩ (fun hHeld => ?_)
      generalize wc.drew = w65 at HO_513000 HO_517000 HO_522000 BK503 BK512 BK516 BK521 HB hHeld ⊢
      refine take_ (i := 0) (N := some 57) (v := ?_) (a' := ?_) #[true, false, false, false, false] rfl rfl (by kernel_rfl) (fun _ _ _ h => h) (Or.inl ⟨by rfl, ?_⟩) hHeld ?_ ?_
      rotate_left
      ·rintro w' ⟨s0, s1⟩
       go_simp
       with_reducible rfl
      rotate_left
      ·simp only [Act.put, List.setIfInBounds_toArray, List.set_cons_zero, List.set_cons_succ, i64_w, i32_w]
       rfl
      refine take_ (i := 1) (N := some 58) (v := ?_) (a' := ?_) #[true, true, false, false, false] rfl rfl (by kernel_rfl) (fun _ _ _ h => h) (Or.inl ⟨by rfl, ?_⟩) hHeld ?_ ?_
      rotate_left
      ·rintro w' ⟨s0, s1⟩
       go_simp
       with_reducible rfl
      rotate_left
      ·simp only [Act.put, List.setIfInBounds_toArray, List.set_cons_zero, List.set_cons_succ, i64_w, i32_w]
       rfl
      refine one_ (i := 2) (N := some 59) (fl_ 5 3) rfl rfl (by kernel_rfl) (by decide) (fun K hK => ?_)
      refine goes_ Try.func23 (by kernel_rfl) rfl #[.agg #[.slice A0_0 l0_0.length c0_0]] (by rfl) rfl rfl z2_ ?_
      with_reducible refine (laws_toDom.calls kj14 _ _ l0_0 t523 _ ?side1 ?side2 A60.out).mono ?_
      (case side1 => exact z9_)
      (case side2 => exact HC0_0.out)
      rintro e w66 ⟨v524, rfl, ho0, hb⟩
      refine ⟨_, rfl, ?_⟩
      have n0_ := Aside0.mk (Kd.R_elder' z73_ (Kd.R_base ho0) hb)
      have n1_ := Aside0.mk (Kd.R_elder' z74_ (Kd.R_base ho0) hb)
      have n2_ := Aside0.mk (Kd.R_elder' z75_ (Kd.R_base ho0) hb)
      have n3_ := Aside0.mk (Kd.R_lower (Kd.R_new' (Kd.R_new' (Kd.R_new' ho0 (Kd.R_lt z73_)) (Kd.R_lt z74_)) (Kd.R_lt z75_)) (below_size z14_))
      have n4_ := Aside0.mk (blk_below (g := gb503) (o := .cells #[.slice A0_0 l0_0.length c0_0] 39 (0, 0)) z33_ hb)
      have n5_ := Aside0.mk (blk_below (g := gb512) (o := .cells #[.slice Ao24 t508.length co24] 28 (0, 0)) z46_ hb)
      have n6_ := Aside0.mk (blk_below (g := gb516) (o := .cells #[.slice Ao30 t513.length co30] 28 (0, 0)) z48_ hb)
      have n7_ := Aside0.mk (blk_below (g := gb521) (o := .cells #[.slice Ao36 t517.length co36] 28 (0, 0)) z57_ hb)
      have n8_ := Aside0.mk (below_step z14_ hb)
      clear HO_513000
      clear HO_517000
      clear HO_522000
      clear BK503
      clear BK512
      clear BK516
      clear BK521
      clear HB
      have HO_513000 := n0_
      have HO_517000 := n1_
      have HO_522000 := n2_
      have HO525 := n3_
      have BK503 := n4_
      have BK512 := n5_
      have BK516 := n6_
      have BK521 := n7_
      have HB := n8_
      clear n0_ n1_ n2_ n3_ n4_ n5_ n6_ n7_ n8_
      (try clear hb)
      (try clear hb2)
      (try clear hk)
      (try clear hi)
      (try clear ho0)
      obtain ⟨Ao67, co67, eo67⟩ := Kd.R_slice HO525.out
      (first | subst eo67 | (injection eo67 with f1_ f2_ f3_; have f4_ := f1_.symm; have f5_ := f3_.symm; clear f1_ f2_ f3_; subst f4_; subst f5_))
      refine hK.out _ _ ⟨(blk_cell BK516.out 0).trans rfl, (blk_cell BK503.out 0).trans rfl⟩ (fun hHeld => ?_)
      clear hK K
      refine zn_ rfl ?_
      refine one_ (i := 3) (N := some 60) (fl_ 5 4) rfl rfl (by kernel_rfl) (by decide) (fun K hK => ?_)
      refine goes_ Try.func25 (by kernel_rfl) rfl #[.agg #[.slice Ao30 t513.length co30], .agg #[.slice Ao67 t523.length co67]] (by rfl) rfl rfl z2_ ?_
      with_reducible refine (laws_eqDom.calls kj14 _ _ t513 _ _ t523 true _ ?side1 ?side2 ?side3 ?side4 A61.out).mono ?_
      (case side1 => repeat (first | exact (Kd.R_reads' HO_517000.out).2.2 | (with_reducible refine Kd.C_alloc ?_ _) | (with_reducible refine Kd.C_drewN ?_ _) | (with_reducible refine Kd.C_drew ?_)))
      (case side2 => exact (Kd.R_reads' HO_517000.out).2.1)
      (case side3 => repeat (first | exact (Kd.R_reads' HO525.out).2.2 | (with_reducible refine Kd.C_alloc ?_ _) | (with_reducible refine Kd.C_drewN ?_ _) | (with_reducible refine Kd.C_drew ?_)))
      (case side4 => exact (Kd.R_reads' HO525.out).2.1)
      rintro e w68 ⟨rfl, hb⟩
      refine ⟨_, rfl, ?_⟩
      have n0_ := Aside0.mk (Kd.R_below z73_ hb)
      have n1_ := Aside0.mk (Kd.R_below z74_ hb)
      have n2_ := Aside0.mk (Kd.R_below z75_ hb)
      have n3_ := Aside0.mk (Kd.R_below z238_ hb)
      have n4_ := Aside0.mk (blk_below (g := gb503) (o := .cells #[.slice A0_0 l0_0.length c0_0] 39 (0, 0)) z33_ hb)
      have n5_ := Aside0.mk (blk_below (g := gb512) (o := .cells #[.slice Ao24 t508.length co24] 28 (0, 0)) z46_ hb)
      have n6_ := Aside0.mk (blk_below (g := gb516) (o := .cells #[.slice Ao30 t513.length co30] 28 (0, 0)) z48_ hb)
      have n7_ := Aside0.mk (blk_below (g := gb521) (o := .cells #[.slice Ao36 t517.length co36] 28 (0, 0)) z57_ hb)
      have n8_ := Aside0.mk (below_step z14_ hb)
      clear HO_513000
      clear HO_517000
      clear HO_522000
      clear HO525
      clear BK503
      clear BK512
      clear BK516
      clear BK521
      clear HB
      have HO_513000 := n0_
      have HO_517000 := n1_
      have HO_522000 := n2_
      have HO525 := n3_
      have BK503 := n4_
      have BK512 := n5_
      have BK516 := n6_
      have BK521 := n7_
      have HB := n8_
      clear n0_ n1_ n2_ n3_ n4_ n5_ n6_ n7_ n8_
      (try clear hb)
      (try clear hb2)
      (try clear hk)
      (try clear hi)
      refine hK.out _ _ ⟨(blk_cell BK516.out 0).trans rfl, (blk_cell BK503.out 0).trans rfl⟩ (fun hHeld => ?_)
      clear hK K
      refine zn_ rfl ?_
      refine pure_ (i := 4) (N := some 61) (v := ?_) (a' := ?_) #[true, true, true, true, true] rfl rfl (by kernel_rfl) (fun _ _ _ h => h) (Or.inl ⟨by rfl, ?_⟩) ?_ ?_
      rotate_left
      ·intro w'
       go_simp
       with_reducible rfl
      rotate_left
      ·simp only [Act.put, List.setIfInBounds_toArray, List.set_cons_zero, List.set_cons_succ, i64_w, i32_w]
       rfl
      refine done_ (by kernel_rfl) ?_
      have hnb69 := NB516_503.out
      have hnc69 := NB503_516.out
      have hnb70 := NB516_512.out
      have hnc70 := NB512_516.out
      have hnb71 := NB516_521.out
      have hnc71 := NB521_516.out
      have hcz72_0 : w68.cell? ⟨gb516, 0, none⟩ = some (.slice Ao30 t513.length co30) := (blk_cell BK516.out 0).trans rfl
      have hfz72_0 := blk_frozen BK516.out 0
      go_upto_region 14 with (first | ((with_reducible refine gate_callee (f := 26) rfl ?_); refine goesL_ (some 64) rfl rfl Try.func26 (by kernel_rfl) rfl #[.agg #[.slice Ao30 t513.length co30], .int .i64 1] rfl z2_ ?_; (with_reducible refine (laws_markDom.calls kj14 (fun k_ => some k_ = (.slice Ao30 t513.length co30 : Value).ownBlock) (.slice Ao30 t513.length co30) t513 1 t527 t528 w _ ?side1 ?side2 A63.out).mono ?_); (case side1 => exact z14_); (case side2 => exact Kd.R_tight rfl HO_517000.out); rintro e w73 ⟨rfl, hy0, hb, hkp⟩; refine ⟨_, rfl, ?_⟩; replace HO_513000 := Aside0.mk (Kd.R_mono (ok' := fun k_ => some k_ ≠ (.slice Ao30 t513.length co30 : Value).ownBlock ∧ some k_ ≠ (.slice Ao36 t517.length co36 : Value).ownBlock ∧ some k_ ≠ (.slice Ao67 t523.length co67 : Value).ownBlock) (Kd.R_keptB (HO_513000.out) hkp (fun k_ hk_ hs_ => (hk_.1.1) hs_)) (fun k_ hk_ => ⟨hk_.1.1.1, hk_.1.1.2, hk_.1.2⟩)); replace HO_522000 := Aside0.mk (Kd.R_mono (ok' := fun k_ => some k_ ≠ (.slice Ao24 t508.length co24 : Value).ownBlock ∧ some k_ ≠ (.slice Ao30 t513.length co30 : Value).ownBlock ∧ some k_ ≠ (.slice Ao67 t523.length co67 : Value).ownBlock) (Kd.R_keptB (HO_522000.out) hkp (fun k_ hk_ hs_ => (hk_.1.2) hs_)) (fun k_ hk_ => ⟨hk_.1.1.1, hk_.1.1.2, hk_.1.2⟩)); replace BK503 := Aside0.mk (blk_kept z33_ hkp (fun hs_ => (fun e_ => (Kd.R_ne HO_517000.out BK503.out (by decide)) e_) hs_)); replace BK512 := Aside0.mk (blk_kept z46_ hkp (fun hs_ => (fun e_ => (Kd.R_ne HO_517000.out BK512.out (by decide)) e_) hs_)); replace BK516 := Aside0.mk (blk_kept z48_ hkp (fun hs_ => (fun e_ => (Kd.R_ne HO_517000.out BK516.out (by decide)) e_) hs_)); replace BK521 := Aside0.mk (blk_kept z57_ hkp (fun hs_ => (fun e_ => (Kd.R_ne HO_517000.out BK521.out (by decide)) e_) hs_)); replace HO_517000 := Aside0.mk (Kd.R_reok rfl hy0 (fun k_ e_ => HO_517000.out.1 k_ e_)); replace HO525 := Aside0.mk (Kd.R_mono (ok' := fun k_ => some k_ ≠ (.slice Ao24 t508.length co24 : Value).ownBlock ∧ some k_ ≠ (.slice Ao30 t513.length co30 : Value).ownBlock ∧ some k_ ≠ (.slice Ao36 t517.length co36 : Value).ownBlock) (Kd.R_keptB (HO525.out) hkp (fun k_ hk_ hs_ => (hk_.1.2) hs_)) (fun k_ hk_ => ⟨hk_.1.1.1.2, hk_.1.1.2, hk_.1.2⟩)); replace HB := Aside0.mk (hb); (try clear hb hkp hy0)))
      (try simp only [Act.put, List.setIfInBounds_toArray, List.set_cons_zero, List.set_cons_succ])
      go_cut [77] (fun v77 wc => ∃ (kq : Nat) (x77_63 : Bool), v77 = .bool x77_63 ∧ Aside0 (laws_FnExactDomInsert.j1 kq a1 a2 a3 a4 t511 x77_63 l0_0 t508 t517 = some r) ∧ Aside0 (kq ≤ kj14) ∧ Aside0 (Kd.R k72 72 wc w.heap.size (fun k_ => some k_ ≠ ((.slice Ao30 t513.length co30) : Value).ownBlock ∧ some k_ ≠ ((.slice Ao36 t517.length co36) : Value).ownBlock) (.slice Ao24 t508.length co24) t508) ∧ Aside0 (Kd.R k72 72 wc w.heap.size (fun k_ => some k_ ≠ ((.slice Ao24 t508.length co24) : Value).ownBlock ∧ some k_ ≠ ((.slice Ao36 t517.length co36) : Value).ownBlock) (.slice Ao30 t513.length co30) t528) ∧ Aside0 (Kd.R k72 72 wc w.heap.size (fun k_ => some k_ ≠ ((.slice Ao24 t508.length co24) : Value).ownBlock ∧ some k_ ≠ ((.slice Ao30 t513.length co30) : Value).ownBlock) (.slice Ao36 t517.length co36) t517) ∧ Aside0 (wc.heap[gb503]? = some (.cells #[(.slice A0_0 l0_0.length c0_0)] 39 (0, 0))) ∧ Aside0 (wc.heap[gb512]? = some (.cells #[(.slice Ao24 t508.length co24)] 28 (0, 0))) ∧ Aside0 (wc.heap[gb516]? = some (.cells #[(.slice Ao30 t513.length co30)] 28 (0, 0))) ∧ Aside0 (wc.heap[gb521]? = some (.cells #[(.slice Ao36 t517.length co36)] 28 (0, 0))) ∧ Aside0 (Below w.heap.size w wc))
      case first =>
       have H := HC64.out
       clear HC64
       by_cases c74 : t527 < 0
       ·rw [if_pos c74] at H
        have c74b0 := decide_eq_true c74
        clear c74
        (first | rw [c74b0] | rw [c74b1] | (simp only [i64_w, i32_w]; rw [c74b0]) | skip)
        have H' := Aside0.mk H
        clear H
        go_wp2
        go_meet
        case rel => exact ⟨_, (true), z17_, H', ⟨z302_⟩, ⟨z192_⟩, ⟨z191_⟩, ⟨z193_⟩, ⟨z33_⟩, ⟨z46_⟩, ⟨z48_⟩, ⟨z57_⟩, ⟨z14_⟩⟩
       ·rw [if_neg c74] at H
        have c74b0 := decide_eq_false c74
        clear c74
        (first | rw [c74b0] | rw [c74b1] | (simp only [i64_w, i32_w]; rw [c74b0]) | skip)
        obtain ⟨t529, A75, H⟩ := bnd_ H
        by_cases c76 : t529 = true
        ·subst c76
         replace H := ift_ H
         have H' := Aside0.mk H
         clear H
         have hnb77 := NB521_503.out
         have hnc77 := NB503_521.out
         have hnb78 := NB521_512.out
         have hnc78 := NB512_521.out
         have hnb79 := NB521_516.out
         have hnc79 := NB516_521.out
         have hcz80_0 : w73.cell? ⟨gb521, 0, none⟩ = some (.slice Ao36 t517.length co36) := (blk_cell BK521.out 0).trans rfl
         have hfz80_0 := blk_frozen BK521.out 0
         have hnb81 := NB512_503.out
         have hnc81 := NB503_512.out
         have hnb82 := NB512_516.out
         have hnc82 := NB516_512.out
         have hcz83_0 : w73.cell? ⟨gb512, 0, none⟩ = some (.slice Ao24 t508.length co24) := (blk_cell BK512.out 0).trans rfl
         have hfz83_0 := blk_frozen BK512.out 0
         go_wp2_with (first | (go_at_call 25; (with_reducible refine (laws_eqDom.calls kj14 _ _ t517 _ _ t508 true _ ?side1 ?side2 ?side3 ?side4 A75.out).mono ?_); (case side1 => exact z121_); (case side2 => exact (Kd.R_reads' HO_522000.out).2.1); (case side3 => exact z207_); (case side4 => exact z305_); rintro e w84 ⟨rfl, hb⟩; replace HO_513000 := Aside0.mk (Kd.R_below z73_ hb); replace HO_517000 := Aside0.mk (Kd.R_below z74_ hb); replace HO_522000 := Aside0.mk (Kd.R_below z75_ hb); replace HO525 := Aside0.mk (Kd.R_below z238_ hb); replace BK503 := Aside0.mk (blk_below (g := gb503) (o := .cells #[.slice A0_0 l0_0.length c0_0] 39 (0, 0)) z33_ hb); replace BK512 := Aside0.mk (blk_below (g := gb512) (o := .cells #[.slice Ao24 t508.length co24] 28 (0, 0)) z46_ hb); replace BK516 := Aside0.mk (blk_below (g := gb516) (o := .cells #[.slice Ao30 t513.length co30] 28 (0, 0)) z48_ hb); replace BK521 := Aside0.mk (blk_below (g := gb521) (o := .cells #[.slice Ao36 t517.length co36] 28 (0, 0)) z57_ hb); replace HB := Aside0.mk (below_step z14_ hb); (try clear hb)))
         go_meet
         case rel => exact ⟨_, ((t520 != t511)), z17_, H', ⟨z302_⟩, ⟨z192_⟩, ⟨z191_⟩, ⟨z193_⟩, ⟨z33_⟩, ⟨z46_⟩, ⟨z48_⟩, ⟨z57_⟩, ⟨z14_⟩⟩
        ·replace c76 := Bool.eq_false_iff.mpr c76
         subst c76
         replace H := iff_ H
         have H' := Aside0.mk H
         clear H
         have hnb85 := NB521_503.out
         have hnc85 := NB503_521.out
         have hnb86 := NB521_512.out
         have hnc86 := NB512_521.out
         have hnb87 := NB521_516.out
         have hnc87 := NB516_521.out
         have hcz88_0 : w73.cell? ⟨gb521, 0, none⟩ = some (.slice Ao36 t517.length co36) := (blk_cell BK521.out 0).trans rfl
         have hfz88_0 := blk_frozen BK521.out 0
         have hnb89 := NB512_503.out
         have hnc89 := NB503_512.out
         have hnb90 := NB512_516.out
         have hnc90 := NB516_512.out
         have hcz91_0 : w73.cell? ⟨gb512, 0, none⟩ = some (.slice Ao24 t508.length co24) := (blk_cell BK512.out 0).trans rfl
         have hfz91_0 := blk_frozen BK512.out 0
         go_wp2_with (first | (go_at_call 25; (with_reducible refine (laws_eqDom.calls kj14 _ _ t517 _ _ t508 false _ ?side1 ?side2 ?side3 ?side4 A75.out).mono ?_); (case side1 => exact z121_); (case side2 => exact (Kd.R_reads' HO_522000.out).2.1); (case side3 => exact z207_); (case side4 => exact z305_); rintro e w92 ⟨rfl, hb⟩; replace HO_513000 := Aside0.mk (Kd.R_below z73_ hb); replace HO_517000 := Aside0.mk (Kd.R_below z74_ hb); replace HO_522000 := Aside0.mk (Kd.R_below z75_ hb); replace HO525 := Aside0.mk (Kd.R_below z238_ hb); replace BK503 := Aside0.mk (blk_below (g := gb503) (o := .cells #[.slice A0_0 l0_0.length c0_0] 39 (0, 0)) z33_ hb); replace BK512 := Aside0.mk (blk_below (g := gb512) (o := .cells #[.slice Ao24 t508.length co24] 28 (0, 0)) z46_ hb); replace BK516 := Aside0.mk (blk_below (g := gb516) (o := .cells #[.slice Ao30 t513.length co30] 28 (0, 0)) z48_ hb); replace BK521 := Aside0.mk (blk_below (g := gb521) (o := .cells #[.slice Ao36 t517.length co36] 28 (0, 0)) z57_ hb); replace HB := Aside0.mk (below_step z14_ hb); (try clear hb)))
         go_meet
         case rel => exact ⟨_, (true), z17_, H', ⟨z302_⟩, ⟨z192_⟩, ⟨z191_⟩, ⟨z193_⟩, ⟨z33_⟩, ⟨z46_⟩, ⟨z48_⟩, ⟨z57_⟩, ⟨z14_⟩⟩
      case rest =>
       clear HC64
       try clear c2
       try clear p2
       try clear c3
       try clear c4
       try clear c5
       try clear c6
       try clear c7
       try clear c7b0
       try clear c8
       try clear c9
       try clear c21
       try clear c23
       try clear c25
       try clear c26
       try clear c28
       try clear c29
       try clear c31
       try clear c32
       try clear c37
       try clear c38
       try clear c39
       try clear c42
       try clear c43
       try clear c44
       try clear c45
       try clear c47
       try clear c48
       try clear c51
       try clear c52
       try clear c53
       try clear c55
       try clear c56
       try clear c59
       try clear c62
       try clear c69
       try clear c70
       try clear c71
       try clear c74
       try clear c74b0
       try clear c76
       try clear c77
       try clear c78
       try clear c79
       try clear c81
       try clear c82
       try clear c85
       try clear c86
       try clear c87
       try clear c89
       try clear c90
       try clear hcz17_0
       try clear hcz19_0
       try clear hcz26_0
       try clear hcz27_0
       try clear hcz33_0
       try clear hcz40_0
       try clear hcz46_0
       try clear hcz49_0
       try clear hcz54_0
       try clear hcz57_0
       try clear hcz72_0
       try clear hcz80_0
       try clear hcz83_0
       try clear hcz88_0
       try clear hcz91_0
       try clear hcz9_0
       try clear hfz17_0
       try clear hfz19_0
       try clear hfz26_0
       try clear hfz27_0
       try clear hfz33_0
       try clear hfz40_0
       try clear hfz46_0
       try clear hfz49_0
       try clear hfz54_0
       try clear hfz57_0
       try clear hfz72_0
       try clear hfz80_0
       try clear hfz83_0
       try clear hfz88_0
       try clear hfz91_0
       try clear hfz9_0
       try clear p2
       obtain ⟨kq, x77_63, rfl, HA, HJ63, HO_513000, HO_517000, HO_522000, BK503, BK512, BK516, BK521, HB⟩ := hcut
       have hl517000_63 := (Kd.R_reads' HO_517000.out).1
       rw [hl517000_63] at HO_517000
       (try simp only [hl517000_63])
       (try simp only [hl517000_63] at BK503)
       (try simp only [hl517000_63] at BK512)
       (try simp only [hl517000_63] at BK516)
       (try simp only [hl517000_63] at BK521)
       (try simp only [hl517000_63] at HO_513000)
       (try simp only [hl517000_63] at HO_522000)
       cases kq with
       | zero => exact absurd HA.out (by simp [laws_FnExactDomInsert.j1])
       | succ kj63 =>
        have H := HA.out
        clear HA
        simp only [laws_FnExactDomInsert.j1] at H
        by_cases c93 : x77_63 = true
        ·subst c93
         rw [if_pos rfl] at H
         exact absurd H (by simp)
        ·replace c93 := Bool.eq_false_iff.mpr c93
         subst c93
         replace H := iff_ H
         replace H := Option.bind_eq_some_iff.mp H
         obtain ⟨⟨t530, t531⟩, A940, H⟩ := H
         try dsimp only at H
         have A94 := Aside0.mk A940
         clear A940
         obtain ⟨t532, A95, H⟩ := bnd_ H
         by_cases c96 : t532 < 0
         ·rw [if_pos c96] at H
          exact absurd H (by simp)
         ·rw [if_neg c96] at H
          have c96b0 := decide_eq_false c96
          clear c96
          obtain ⟨c104, H⟩ := ifs_ H
          have c104b0 : (t532 == t530) = true := beq_iff_eq.mpr c104
          have c104b1 : (t532 != t530) = false := bne_eq_false_iff_eq.mpr c104
          clear c104
          obtain ⟨t533, A105, H⟩ := bnd_ H
          replace H := Option.bind_eq_some_iff.mp H
          obtain ⟨⟨t536, t539⟩, A1060, H⟩ := H
          try dsimp only at H
          have A106 := Aside0.mk A1060
          clear A1060
          have HC107 := Aside0.mk H
          clear H
          have hnb108 := NB521_503.out
          have hnc108 := NB503_521.out
          have hnb109 := NB521_512.out
          have hnc109 := NB512_521.out
          have hnb110 := NB521_516.out
          have hnc110 := NB516_521.out
          have hcz111_0 : wc.cell? ⟨gb521, 0, none⟩ = some (.slice Ao36 t517.length co36) := (blk_cell BK521.out 0).trans rfl
          have hfz111_0 := blk_frozen BK521.out 0
          go_upto_region 25 with (first | ((with_reducible refine gate_callee (f := 26) rfl ?_); refine goesL_ (some 80) rfl rfl Try.func26 (by kernel_rfl) rfl #[.agg #[.slice Ao36 t517.length co36], .int .i64 1] rfl z2_ ?_; (with_reducible refine (laws_markDom.calls kj63 (fun k_ => some k_ = (.slice Ao36 t517.length co36 : Value).ownBlock) (.slice Ao36 t517.length co36) t517 1 t530 t531 w _ ?side1 ?side2 A94.out).mono ?_); (case side1 => exact z14_); (case side2 => exact Kd.R_tight rfl HO_522000.out); rintro e w112 ⟨rfl, hy0, hb, hkp⟩; refine ⟨_, rfl, ?_⟩; replace HO_513000 := Aside0.mk (Kd.R_mono (ok' := fun k_ => some k_ ≠ (.slice Ao30 t528.length co30 : Value).ownBlock ∧ some k_ ≠ (.slice Ao36 t517.length co36 : Value).ownBlock) (Kd.R_keptB (HO_513000.out) hkp (fun k_ hk_ hs_ => (hk_.2) hs_)) (fun k_ hk_ => ⟨hk_.1.1, hk_.1.2⟩)); replace HO_517000 := Aside0.mk (Kd.R_mono (ok' := fun k_ => some k_ ≠ (.slice Ao24 t508.length co24 : Value).ownBlock ∧ some k_ ≠ (.slice Ao36 t517.length co36 : Value).ownBlock) (Kd.R_keptB (HO_517000.out) hkp (fun k_ hk_ hs_ => (hk_.2) hs_)) (fun k_ hk_ => ⟨hk_.1.1, hk_.1.2⟩)); replace BK503 := Aside0.mk (blk_kept z33_ hkp (fun hs_ => (fun e_ => (Kd.R_ne HO_522000.out BK503.out (by decide)) e_) hs_)); replace BK512 := Aside0.mk (blk_kept z46_ hkp (fun hs_ => (fun e_ => (Kd.R_ne HO_522000.out BK512.out (by decide)) e_) hs_)); replace BK516 := Aside0.mk (blk_kept z48_ hkp (fun hs_ => (fun e_ => (Kd.R_ne HO_522000.out BK516.out (by decide)) e_) hs_)); replace BK521 := Aside0.mk (blk_kept z57_ hkp (fun hs_ => (fun e_ => (Kd.R_ne HO_522000.out BK521.out (by decide)) e_) hs_)); replace HO_522000 := Aside0.mk (Kd.R_reok rfl hy0 (fun k_ e_ => HO_522000.out.1 k_ e_)); replace HB := Aside0.mk (hb); (try clear hb hkp hy0); have hcz113_0 : w112.cell? ⟨gb521, 0, none⟩ = some (.slice Ao36 t517.length co36) := (blk_cell BK521.out 0).trans rfl; have hfz113_0 := blk_frozen BK521.out 0) | ((with_reducible refine gate_callee (f := 27) rfl ?_); refine goesL_ (some 83) rfl rfl Try.func27 (by kernel_rfl) rfl #[.agg #[.slice Ao36 t531.length co36], .int .i64 1] rfl (by (try simp only [List.map_toArray, List.map_cons, List.map_nil]); first | done | (rw [show t531.length = t517.length from (Kd.R_reads' HO_522000.out).1.symm] <;> rfl) | rfl | (simp only [List.length_drop, List.length_take]; rfl)) ?_; (with_reducible refine (laws_heldDom.calls kj63 _ _ t531 1 t532 _ ?side1 ?side2 A95.out).mono ?_); (case side1 => exact z121_); (case side2 => rw [show t531.length = t517.length from (Kd.R_reads' HO_522000.out).1.symm]; exact (Kd.R_reads' HO_522000.out).2.1); rintro e w114 ⟨rfl, hb⟩; refine ⟨_, rfl, ?_⟩; replace HO_513000 := Aside0.mk (Kd.R_below z73_ hb); replace HO_517000 := Aside0.mk (Kd.R_below z74_ hb); replace HO_522000 := Aside0.mk (Kd.R_below z75_ hb); replace BK503 := Aside0.mk (blk_below (g := gb503) (o := .cells #[.slice A0_0 l0_0.length c0_0] 39 (0, 0)) z33_ hb); replace BK512 := Aside0.mk (blk_below (g := gb512) (o := .cells #[.slice Ao24 t508.length co24] 28 (0, 0)) z46_ hb); replace BK516 := Aside0.mk (blk_below (g := gb516) (o := .cells #[.slice Ao30 t528.length co30] 28 (0, 0)) z48_ hb); replace BK521 := Aside0.mk (blk_below (g := gb521) (o := .cells #[.slice Ao36 t517.length co36] 28 (0, 0)) z57_ hb); replace HB := Aside0.mk (below_step z14_ hb); (try clear hb); have hnb115 := NB503_512.out; have hnc115 := NB512_503.out; have hnb116 := NB503_516.out; have hnc116 := NB516_503.out; have hcz117_0 : w114.cell? ⟨gb503, 0, none⟩ = some (.slice A0_0 l0_0.length c0_0) := (blk_cell BK503.out 0).trans rfl; have hfz117_0 := blk_frozen BK503.out 0) | ((with_reducible refine gate_callee (f := 23) rfl ?_); refine goesL_ (some 91) rfl rfl Try.func23 (by kernel_rfl) rfl #[.agg #[.slice A0_0 l0_0.length c0_0]] rfl z2_ ?_; (with_reducible refine (laws_toDom.calls kj63 _ _ l0_0 t533 _ ?side1 ?side2 A105.out).mono ?_); (case side1 => exact z9_); (case side2 => exact HC0_0.out); rintro e w118 ⟨v534, rfl, ho0, hb⟩; refine ⟨_, rfl, ?_⟩; have HO535 := Aside0.mk (Kd.R_lower (Kd.R_new' (Kd.R_new' (Kd.R_new' ho0 (Kd.R_lt z73_)) (Kd.R_lt z74_)) (Kd.R_lt z75_)) (below_size z14_)); replace HO_513000 := Aside0.mk (Kd.R_elder' z73_ (Kd.R_base ho0) hb); replace HO_517000 := Aside0.mk (Kd.R_elder' z74_ (Kd.R_base ho0) hb); replace HO_522000 := Aside0.mk (Kd.R_elder' z75_ (Kd.R_base ho0) hb); replace BK503 := Aside0.mk (blk_below (g := gb503) (o := .cells #[.slice A0_0 l0_0.length c0_0] 39 (0, 0)) z33_ hb); replace BK512 := Aside0.mk (blk_below (g := gb512) (o := .cells #[.slice Ao24 t508.length co24] 28 (0, 0)) z46_ hb); replace BK516 := Aside0.mk (blk_below (g := gb516) (o := .cells #[.slice Ao30 t528.length co30] 28 (0, 0)) z48_ hb); replace BK521 := Aside0.mk (blk_below (g := gb521) (o := .cells #[.slice Ao36 t517.length co36] 28 (0, 0)) z57_ hb); replace HB := Aside0.mk (below_step z14_ hb); (try clear hb ho0); obtain ⟨Ao119, co119, eo119⟩ := Kd.R_slice HO535.out; subst eo119) | ((with_reducible refine gate_callee (f := 29) rfl ?_); refine goesL_ (some 96) rfl rfl Try.func29 (by kernel_rfl) rfl #[.agg #[.slice Ao119 t533.length co119], .int .i64 a1, .int .i64 a2, .int .i64 a3, .int .i64 a4] rfl z2_ ?_; (with_reducible refine (impl_DomInsert.calls kj63 _ _ t533 a1 a2 a3 a4 t536 t539 _ ?side1 ?side2 A106.out).mono ?_); (case side1 => repeat (first | exact (Kd.R_reads' HO535.out).2.2 | (with_reducible refine Kd.C_alloc ?_ _) | (with_reducible refine Kd.C_drewN ?_ _) | (with_reducible refine Kd.C_drew ?_))); (case side2 => exact (Kd.R_reads' HO535.out).2.1); rintro e w120 ⟨v537, rfl, ho0, hb⟩; refine ⟨_, rfl, ?_⟩; have HO538 := Aside0.mk (Kd.R_lower (Kd.R_new' (Kd.R_new' (Kd.R_new' (Kd.R_new' ho0 (Kd.R_lt z73_)) (Kd.R_lt z74_)) (Kd.R_lt z75_)) (Kd.R_lt z239_)) (below_size z14_)); replace HO_513000 := Aside0.mk (Kd.R_elder' z73_ (Kd.R_base ho0) hb); replace HO_517000 := Aside0.mk (Kd.R_elder' z74_ (Kd.R_base ho0) hb); replace HO_522000 := Aside0.mk (Kd.R_elder' z75_ (Kd.R_base ho0) hb); replace HO535 := Aside0.mk (Kd.R_elder' z239_ (Kd.R_base ho0) hb); replace BK503 := Aside0.mk (blk_below (g := gb503) (o := .cells #[.slice A0_0 l0_0.length c0_0] 39 (0, 0)) z33_ hb); replace BK512 := Aside0.mk (blk_below (g := gb512) (o := .cells #[.slice Ao24 t508.length co24] 28 (0, 0)) z46_ hb); replace BK516 := Aside0.mk (blk_below (g := gb516) (o := .cells #[.slice Ao30 t528.length co30] 28 (0, 0)) z48_ hb); replace BK521 := Aside0.mk (blk_below (g := gb521) (o := .cells #[.slice Ao36 t517.length co36] 28 (0, 0)) z57_ hb); replace HB := Aside0.mk (below_step z14_ hb); (try clear hb ho0)) | ((with_reducible refine gate_dst (N := 20) rfl ?_); refine box_event ?hg (N := 20) ?hd (cs := #[.slice none 0 0]) (t := 28) ?hr ?_; (case hd => rfl); (case hg => rfl); (case hr => exact z19_); intro gb540 hg w121 hbox hb; replace HO_513000 := Aside0.mk (Kd.R_below z73_ hb); replace HO_517000 := Aside0.mk (Kd.R_below z74_ hb); replace HO_522000 := Aside0.mk (Kd.R_below z75_ hb); replace HO535 := Aside0.mk (Kd.R_below z239_ hb); replace HO538 := Aside0.mk (Kd.R_below (by (with_reducible repeat (first | apply Kd.R_alloc | apply Kd.R_drewN | apply Kd.R_drew)); exact HO538.out) hb); have BK540 := Aside0.mk (hbox); have GW540 := Aside0.mk ((by rw [hg]; exact (below_size z14_) : w.heap.size ≤ gb540)); have GE540 := Aside0.mk ((by rw [hg]; exact (below_size z14_) : w.heap.size ≤ gb540)); replace HB := Aside0.mk (below_step z14_ hb); have NB503_540 := Aside0.mk ((by rw [hg]; exact Nat.ne_of_lt (blk_lt (g := gb503) (o := .cells #[.slice A0_0 l0_0.length c0_0] 39 (0, 0)) z33_) : gb503 ≠ gb540)); have NB540_503 := Aside0.mk ((by rw [hg]; exact Nat.ne_of_gt (blk_lt (g := gb503) (o := .cells #[.slice A0_0 l0_0.length c0_0] 39 (0, 0)) z33_) : gb540 ≠ gb503)); replace BK503 := Aside0.mk (blk_below (g := gb503) (o := .cells #[.slice A0_0 l0_0.length c0_0] 39 (0, 0)) z33_ hb); have NB512_540 := Aside0.mk ((by rw [hg]; exact Nat.ne_of_lt (blk_lt (g := gb512) (o := .cells #[.slice Ao24 t508.length co24] 28 (0, 0)) z46_) : gb512 ≠ gb540)); have NB540_512 := Aside0.mk ((by rw [hg]; exact Nat.ne_of_gt (blk_lt (g := gb512) (o := .cells #[.slice Ao24 t508.length co24] 28 (0, 0)) z46_) : gb540 ≠ gb512)); replace BK512 := Aside0.mk (blk_below (g := gb512) (o := .cells #[.slice Ao24 t508.length co24] 28 (0, 0)) z46_ hb); have NB516_540 := Aside0.mk ((by rw [hg]; exact Nat.ne_of_lt (blk_lt (g := gb516) (o := .cells #[.slice Ao30 t528.length co30] 28 (0, 0)) z48_) : gb516 ≠ gb540)); have NB540_516 := Aside0.mk ((by rw [hg]; exact Nat.ne_of_gt (blk_lt (g := gb516) (o := .cells #[.slice Ao30 t528.length co30] 28 (0, 0)) z48_) : gb540 ≠ gb516)); replace BK516 := Aside0.mk (blk_below (g := gb516) (o := .cells #[.slice Ao30 t528.length co30] 28 (0, 0)) z48_ hb); have NB521_540 := Aside0.mk ((by rw [hg]; exact Nat.ne_of_lt (blk_lt (g := gb521) (o := .cells #[.slice Ao36 t517.length co36] 28 (0, 0)) z57_) : gb521 ≠ gb540)); have NB540_521 := Aside0.mk ((by rw [hg]; exact Nat.ne_of_gt (blk_lt (g := gb521) (o := .cells #[.slice Ao36 t517.length co36] 28 (0, 0)) z57_) : gb540 ≠ gb521)); replace BK521 := Aside0.mk (blk_below (g := gb521) (o := .cells #[.slice Ao36 t517.length co36] 28 (0, 0)) z57_ hb); clear hb hbox hg; obtain ⟨Ao122, co122, eo122⟩ := Kd.R_slice HO538.out; subst eo122; have hnb123 := NB540_503.out; have hnc123 := NB503_540.out; have hnb124 := NB540_512.out; have hnc124 := NB512_540.out; have hnb125 := NB540_516.out; have hnc125 := NB516_540.out; have hnb126 := NB540_521.out; have hnc126 := NB521_540.out; have hcz127_0 : w121.cell? ⟨gb540, 0, none⟩ = some (.slice none 0 0) := (blk_cell BK540.out 0).trans rfl; have hfz127_0 := blk_frozen BK540.out 0))
          (try simp only [Act.put, List.setIfInBounds_toArray, List.set_cons_zero, List.set_cons_succ])
          go_cut [107] (fun v107 wc => ∃ (kq : Nat) (x107_106 : Bool), v107 = .bool x107_106 ∧ Aside0 (laws_FnExactDomInsert.j2 kq t530 x107_106 t531 = some r) ∧ Aside0 (kq ≤ kj63) ∧ Aside0 (Kd.R k72 72 wc w.heap.size (fun k_ => some k_ ≠ ((.slice Ao30 t528.length co30) : Value).ownBlock ∧ some k_ ≠ ((.slice Ao36 t517.length co36) : Value).ownBlock ∧ some k_ ≠ ((.slice Ao122 t536.length co122) : Value).ownBlock) (.slice Ao24 t508.length co24) t508) ∧ Aside0 (Kd.R k72 72 wc w.heap.size (fun k_ => some k_ ≠ ((.slice Ao24 t508.length co24) : Value).ownBlock ∧ some k_ ≠ ((.slice Ao36 t517.length co36) : Value).ownBlock ∧ some k_ ≠ ((.slice Ao122 t536.length co122) : Value).ownBlock) (.slice Ao30 t528.length co30) t528) ∧ Aside0 (Kd.R k72 72 wc w.heap.size (fun k_ => some k_ ≠ ((.slice Ao24 t508.length co24) : Value).ownBlock ∧ some k_ ≠ ((.slice Ao30 t528.length co30) : Value).ownBlock ∧ some k_ ≠ ((.slice Ao122 t536.length co122) : Value).ownBlock) (.slice Ao36 t517.length co36) t531) ∧ Aside0 (Kd.R k72 72 wc w.heap.size (fun k_ => some k_ ≠ ((.slice Ao24 t508.length co24) : Value).ownBlock ∧ some k_ ≠ ((.slice Ao30 t528.length co30) : Value).ownBlock ∧ some k_ ≠ ((.slice Ao36 t517.length co36) : Value).ownBlock) (.slice Ao122 t536.length co122) t536) ∧ Aside0 (wc.heap[gb503]? = some (.cells #[(.slice A0_0 l0_0.length c0_0)] 39 (0, 0))) ∧ Aside0 (wc.heap[gb512]? = some (.cells #[(.slice Ao24 t508.length co24)] 28 (0, 0))) ∧ Aside0 (wc.heap[gb516]? = some (.cells #[(.slice Ao30 t528.length co30)] 28 (0, 0))) ∧ Aside0 (wc.heap[gb521]? = some (.cells #[(.slice Ao36 t517.length co36)] 28 (0, 0))) ∧ Aside0 (wc.heap[gb540]? = some (.cells #[(.slice Ao122 t536.length co122)] 28 (0, 0))) ∧ Aside0 (Below w.heap.size w wc))
          case first =>
           have H := HC107.out
           clear HC107
           obtain ⟨t541, A128, H⟩ := bnd_ H
           by_cases c129 : t541 = true
           ·subst c129
            replace H := ift_ H
            have H' := Aside0.mk H
            clear H
            have hnb130 := NB540_503.out
            have hnc130 := NB503_540.out
            have hnb131 := NB540_512.out
            have hnc131 := NB512_540.out
            have hnb132 := NB540_516.out
            have hnc132 := NB516_540.out
            have hnb133 := NB540_521.out
            have hnc133 := NB521_540.out
            have hcz134_0 : w121.cell? ⟨gb540, 0, none⟩ = some (.slice none 0 0) := (blk_cell BK540.out 0).trans rfl
            have hfz134_0 := blk_frozen BK540.out 0
            have hnb135 := NB512_503.out
            have hnc135 := NB503_512.out
            have hnb136 := NB512_516.out
            have hnc136 := NB516_512.out
            have hnb137 := NB512_521.out
            have hnc137 := NB521_512.out
            have hcz138_0 : w121.cell? ⟨gb512, 0, none⟩ = some (.slice Ao24 t508.length co24) := (blk_cell BK512.out 0).trans rfl
            have hfz138_0 := blk_frozen BK512.out 0
            go_wp2_with (first | ((with_reducible refine gate_callee (f := 25) rfl ?_); refine goesL_ (some 101) rfl rfl Try.func25 (by kernel_rfl) rfl #[.agg #[.slice Ao122 t536.length co122], .agg #[.slice Ao24 t508.length co24]] rfl z2_ ?_; (with_reducible refine (laws_eqDom.calls kj63 _ _ t536 _ _ t508 true _ ?side1 ?side2 ?side3 ?side4 A128.out).mono ?_); (case side1 => exact z77_); (case side2 => exact (Kd.R_reads' HO538.out).2.1); (case side3 => exact z78_); (case side4 => exact z305_); rintro e w139 ⟨rfl, hb⟩; refine ⟨_, rfl, ?_⟩; replace HO_513000 := Aside0.mk (Kd.R_below z92_ hb); replace HO_517000 := Aside0.mk (Kd.R_below z150_ hb); replace HO_522000 := Aside0.mk (Kd.R_below z151_ hb); replace HO535 := Aside0.mk (Kd.R_below z156_ hb); replace HO538 := Aside0.mk (Kd.R_below z94_ hb); replace BK503 := Aside0.mk (blk_below (g := gb503) (o := .cells #[.slice A0_0 l0_0.length c0_0] 39 (0, 0)) z170_ hb); replace BK512 := Aside0.mk (blk_below (g := gb512) (o := .cells #[.slice Ao24 t508.length co24] 28 (0, 0)) z171_ hb); replace BK516 := Aside0.mk (blk_below (g := gb516) (o := .cells #[.slice Ao30 t528.length co30] 28 (0, 0)) z172_ hb); replace BK521 := Aside0.mk (blk_below (g := gb521) (o := .cells #[.slice Ao36 t517.length co36] 28 (0, 0)) z173_ hb); replace BK540 := Aside0.mk (blk_below (g := gb540) (o := .cells #[.slice Ao122 t536.length co122] 28 (0, 0)) z149_ hb); replace HB := Aside0.mk (below_step z62_ hb); (try clear hb)))
            go_meet
            case rel => exact ⟨_, ((t539 != t511)), z17_, H', ⟨by have := HJ14.out; have := HJ63.out; first | omega | exact Nat.le_refl _⟩, ⟨z199_⟩, ⟨z200_⟩, ⟨z201_⟩, ⟨z202_⟩, ⟨z252_⟩, ⟨z253_⟩, ⟨z254_⟩, ⟨z255_⟩, ⟨z256_⟩, ⟨z62_⟩⟩
           ·replace c129 := Bool.eq_false_iff.mpr c129
            subst c129
            replace H := iff_ H
            have H' := Aside0.mk H
            clear H
            have hnb140 := NB540_503.out
            have hnc140 := NB503_540.out
            have hnb141 := NB540_512.out
            have hnc141 := NB512_540.out
            have hnb142 := NB540_516.out
            have hnc142 := NB516_540.out
            have hnb143 := NB540_521.out
            have hnc143 := NB521_540.out
            have hcz144_0 : w121.cell? ⟨gb540, 0, none⟩ = some (.slice none 0 0) := (blk_cell BK540.out 0).trans rfl
            have hfz144_0 := blk_frozen BK540.out 0
            have hnb145 := NB512_503.out
            have hnc145 := NB503_512.out
            have hnb146 := NB512_516.out
            have hnc146 := NB516_512.out
            have hnb147 := NB512_521.out
            have hnc147 := NB521_512.out
            have hcz148_0 : w121.cell? ⟨gb512, 0, none⟩ = some (.slice Ao24 t508.length co24) := (blk_cell BK512.out 0).trans rfl
            have hfz148_0 := blk_frozen BK512.out 0
            go_wp2_with (first | ((with_reducible refine gate_callee (f := 25) rfl ?_); refine goesL_ (some 101) rfl rfl Try.func25 (by kernel_rfl) rfl #[.agg #[.slice Ao122 t536.length co122], .agg #[.slice Ao24 t508.length co24]] rfl z2_ ?_; (with_reducible refine (laws_eqDom.calls kj63 _ _ t536 _ _ t508 false _ ?side1 ?side2 ?side3 ?side4 A128.out).mono ?_); (case side1 => exact z77_); (case side2 => exact (Kd.R_reads' HO538.out).2.1); (case side3 => exact z78_); (case side4 => exact z305_); rintro e w149 ⟨rfl, hb⟩; refine ⟨_, rfl, ?_⟩; replace HO_513000 := Aside0.mk (Kd.R_below z92_ hb); replace HO_517000 := Aside0.mk (Kd.R_below z150_ hb); replace HO_522000 := Aside0.mk (Kd.R_below z151_ hb); replace HO535 := Aside0.mk (Kd.R_below z156_ hb); replace HO538 := Aside0.mk (Kd.R_below z94_ hb); replace BK503 := Aside0.mk (blk_below (g := gb503) (o := .cells #[.slice A0_0 l0_0.length c0_0] 39 (0, 0)) z170_ hb); replace BK512 := Aside0.mk (blk_below (g := gb512) (o := .cells #[.slice Ao24 t508.length co24] 28 (0, 0)) z171_ hb); replace BK516 := Aside0.mk (blk_below (g := gb516) (o := .cells #[.slice Ao30 t528.length co30] 28 (0, 0)) z172_ hb); replace BK521 := Aside0.mk (blk_below (g := gb521) (o := .cells #[.slice Ao36 t517.length co36] 28 (0, 0)) z173_ hb); replace BK540 := Aside0.mk (blk_below (g := gb540) (o := .cells #[.slice Ao122 t536.length co122] 28 (0, 0)) z149_ hb); replace HB := Aside0.mk (below_step z62_ hb); (try clear hb)))
            go_meet
            case rel => exact ⟨_, (true), z17_, H', ⟨by have := HJ14.out; have := HJ63.out; first | omega | exact Nat.le_refl _⟩, ⟨z199_⟩, ⟨z200_⟩, ⟨z201_⟩, ⟨z202_⟩, ⟨z252_⟩, ⟨z253_⟩, ⟨z254_⟩, ⟨z255_⟩, ⟨z256_⟩, ⟨z62_⟩⟩
          case rest =>
           clear HC107
           try clear c1
           try clear c2
           try clear p2
           try clear c3
           try clear c4
           try clear c5
           try clear c6
           try clear c7
           try clear c7b0
           try clear c8
           try clear c9
           try clear c10
           try clear c11
           try clear c12
           try clear c13
           try clear c14
           try clear c21
           try clear c23
           try clear c25
           try clear c26
           try clear c27
           try clear c28
           try clear c29
           try clear c31
           try clear c32
           try clear c37
           try clear c38
           try clear c39
           try clear c42
           try clear c43
           try clear c44
           try clear c45
           try clear c47
           try clear c48
           try clear c51
           try clear c52
           try clear c53
           try clear c55
           try clear c56
           try clear c59
           try clear c62
           try clear c69
           try clear c70
           try clear c71
           try clear c74
           try clear c74b0
           try clear c76
           try clear c77
           try clear c78
           try clear c79
           try clear c81
           try clear c82
           try clear c85
           try clear c86
           try clear c87
           try clear c89
           try clear c90
           try clear c93
           try clear c96
           try clear c96b0
           try clear c97
           try clear c98
           try clear c99
           try clear c104
           try clear c104b0
           try clear c104b1
           try clear c108
           try clear c109
           try clear c110
           try clear c115
           try clear c116
           try clear c123
           try clear c124
           try clear c125
           try clear c126
           try clear c129
           try clear c130
           try clear c131
           try clear c132
           try clear c133
           try clear c135
           try clear c136
           try clear c137
           try clear c140
           try clear c141
           try clear c142
           try clear c143
           try clear c145
           try clear c146
           try clear c147
           try clear hcz100_0
           try clear hcz102_0
           try clear hcz111_0
           try clear hcz113_0
           try clear hcz117_0
           try clear hcz127_0
           try clear hcz134_0
           try clear hcz138_0
           try clear hcz144_0
           try clear hcz148_0
           try clear hcz17_0
           try clear hcz19_0
           try clear hcz26_0
           try clear hcz27_0
           try clear hcz33_0
           try clear hcz40_0
           try clear hcz46_0
           try clear hcz49_0
           try clear hcz54_0
           try clear hcz57_0
           try clear hcz72_0
           try clear hcz80_0
           try clear hcz83_0
           try clear hcz88_0
           try clear hcz91_0
           try clear hcz9_0
           try clear hfz100_0
           try clear hfz102_0
           try clear hfz111_0
           try clear hfz113_0
           try clear hfz117_0
           try clear hfz127_0
           try clear hfz134_0
           try clear hfz138_0
           try clear hfz144_0
           try clear hfz148_0
           try clear hfz17_0
           try clear hfz19_0
           try clear hfz26_0
           try clear hfz27_0
           try clear hfz33_0
           try clear hfz40_0
           try clear hfz46_0
           try clear hfz49_0
           try clear hfz54_0
           try clear hfz57_0
           try clear hfz72_0
           try clear hfz80_0
           try clear hfz83_0
           try clear hfz88_0
           try clear hfz91_0
           try clear hfz9_0
           try clear p2
           obtain ⟨kq, x107_106, rfl, HA, HJ106, HO_513000, HO_517000, HO_522000, HO_541000, BK503, BK512, BK516, BK521, BK540, HB⟩ := hcut
           have hl522000_106 := (Kd.R_reads' HO_522000.out).1
           rw [hl522000_106] at HO_522000
           (try simp only [hl522000_106])
           (try simp only [hl522000_106] at BK503)
           (try simp only [hl522000_106] at BK512)
           (try simp only [hl522000_106] at BK516)
           (try simp only [hl522000_106] at BK521)
           (try simp only [hl522000_106] at BK540)
           (try simp only [hl522000_106] at HO_513000)
           (try simp only [hl522000_106] at HO_517000)
           (try simp only [hl522000_106] at HO_541000)
           cases kq with
           | zero => exact absurd HA.out (by simp [laws_FnExactDomInsert.j2])
           | succ kj106 =>
            have H := HA.out
            clear HA
            simp only [laws_FnExactDomInsert.j2] at H
            by_cases c150 : x107_106 = true
            ·subst c150
             rw [if_pos rfl] at H
             exact absurd H (by simp)
            ·replace c150 := Bool.eq_false_iff.mpr c150
             subst c150
             replace H := iff_ H
             obtain ⟨t542, A151, H⟩ := bnd_ H
             by_cases c152 : t542 < 0
             ·rw [if_pos c152] at H
              exact absurd H (by simp)
             ·rw [if_neg c152] at H
              have c152b0 := decide_eq_false c152
              clear c152
              obtain ⟨c159, H⟩ := ifs_ H
              have c159b0 : (t542 == t530) = true := beq_iff_eq.mpr c159
              have c159b1 : (t542 != t530) = false := bne_eq_false_iff_eq.mpr c159
              clear c159
              obtain rfl := Option.some.inj H
              have hnb160 := NB521_503.out
              have hnc160 := NB503_521.out
              have hnb161 := NB521_512.out
              have hnc161 := NB512_521.out
              have hnb162 := NB521_516.out
              have hnc162 := NB516_521.out
              have hnb163 := NB521_540.out
              have hnc163 := NB540_521.out
              have hcz164_0 : wc.cell? ⟨gb521, 0, none⟩ = some (.slice Ao36 t531.length co36) := (blk_cell BK521.out 0).trans rfl
              have hfz164_0 := blk_frozen BK521.out 0
              go_wp2_with (first | ((with_reducible refine gate_callee (f := 27) rfl ?_); refine goesL_ (some 110) rfl rfl Try.func27 (by kernel_rfl) rfl #[.agg #[.slice Ao36 t531.length co36], .int .i64 1] rfl z2_ ?_; (with_reducible refine (laws_heldDom.calls kj106 _ _ t531 1 t542 _ ?side1 ?side2 A151.out).mono ?_); (case side1 => exact z121_); (case side2 => exact (Kd.R_reads' HO_522000.out).2.1); rintro e w165 ⟨rfl, hb⟩; refine ⟨_, rfl, ?_⟩; replace HO_513000 := Aside0.mk (Kd.R_below z73_ hb); replace HO_517000 := Aside0.mk (Kd.R_below z74_ hb); replace HO_522000 := Aside0.mk (Kd.R_below z75_ hb); replace HO_541000 := Aside0.mk (Kd.R_below (by (with_reducible repeat (first | apply Kd.R_alloc | apply Kd.R_drewN | apply Kd.R_drew)); exact HO_541000.out) hb); replace BK503 := Aside0.mk (blk_below (g := gb503) (o := .cells #[.slice A0_0 l0_0.length c0_0] 39 (0, 0)) z33_ hb); replace BK512 := Aside0.mk (blk_below (g := gb512) (o := .cells #[.slice Ao24 t508.length co24] 28 (0, 0)) z46_ hb); replace BK516 := Aside0.mk (blk_below (g := gb516) (o := .cells #[.slice Ao30 t528.length co30] 28 (0, 0)) z48_ hb); replace BK521 := Aside0.mk (blk_below (g := gb521) (o := .cells #[.slice Ao36 t531.length co36] 28 (0, 0)) z57_ hb); replace BK540 := Aside0.mk (blk_below (g := gb540) (o := .cells #[.slice Ao122 t536.length co122] 28 (0, 0)) (by (with_reducible repeat (first | refine blk_drewN ?_ _ | refine blk_drew ?_ | refine blk_alloc ?_ _)); exact BK540.out) hb); replace HB := Aside0.mk (below_step z62_ hb); (try clear hb)))
              go_ret
              exact ⟨z4_, z62_⟩
     ·replace c62 := Bool.eq_false_iff.mpr c62
      subst c62
      rw [if_neg (show ¬ (false = true) by decide)] at H
      exact absurd H (by simp)
end Go.Proofs.Ytdapeboajjidmab.PFnExactDomInsert
