/- Laid by a program of this session out of the kit's print for the law FnKept: what it says of the machine is proved here, function by function; each contract under the conditions that it names. -/
import Derived.Test.YtbiffnahknkoiaaMFnKeptx0
import Derived.Test.YtbiffnahknkoiaaMFnKeptx2
import Derived.Test.YtbiffnahknkoiaaMFnKeptx4
import Derived.Test.YtbiffnahknkoiaaMFnKeptx11
import Derived.Test.YtbiffnahknkoiaaMFnKeptx13
import Derived.Test.YtbiffnahknkoiaaMFnKeptx14
import Derived.Test.YtbiffnahknkoiaaMFnKeptx15
import Derived.Test.YtbiffnahknkoiaaMFnKeptx16
import Derived.Test.YtbiffnahknkoiaaMFnKeptx17
namespace Go.Proofs.Ytbiffnahknkoiaa.PFnKept
open Go.RowKit Go.Proofs.YtbiffnahknkoiaaW.PrintWords Go.Proofs.YtbiffnahknkoiaaW.PrintLast Go.Proofs.YtbiffnahknkoiaaW.PrintMore
attribute [local go_sem] max2_int min2_int max_two min_two max_three min_three max_four min_four   -- for this text's walks alone
set_option linter.unusedVariables false
set_option linter.unusedSimpArgs false

/-! ### laws_FnKept: function 4 -/
mutual
def laws_FnKept.j0 : Nat → List (S45) → List (S45) → List (S47) → List (S45) → List (S45) → Bool → Option (Bool)
 | 0, _, _, _, _, _, _ => none
 | k + 1, x3, x4, x6, x7, x8, x35 => if x35 = true then ((spec_Kept.f k x3 x6).bind fun t682 => (some ((x7.length : Int) == (t682.length : Int)))) else (if (x7.length : Int) = (x6.length : Int) then (if (x8.length : Int) = (x6.length : Int) then ((spec_TreeOk.f k x7).bind fun t685 => (if t685 = true then ((impl_Depths.f k x7).bind fun t686 => ((impl_Depths.f k x8).bind fun t689 => ((laws_sameInts.f k t686 t689).bind fun t692 => (laws_FnKept.j1 k x3 x4 x6 x7 x8 (!t692))))) else (laws_FnKept.j1 k x3 x4 x6 x7 x8 true))) else (laws_FnKept.j1 k x3 x4 x6 x7 x8 true)) else (laws_FnKept.j1 k x3 x4 x6 x7 x8 true))
def laws_FnKept.j1 : Nat → List (S45) → List (S45) → List (S47) → List (S45) → List (S45) → Bool → Option (Bool)
 | 0, _, _, _, _, _, _ => none
 | k + 1, x3, x4, x6, x7, x8, x67 => if x67 = true then (some false) else (laws_FnKept.l0 k x3 x4 x6 x7 x8 0)
def laws_FnKept.l0 : Nat → List (S45) → List (S45) → List (S47) → List (S45) → List (S45) → Int → Option (Bool)
 | 0, _, _, _, _, _, _ => none
 | k + 1, x3, x4, x6, x7, x8, x9 => if x9 < (x6.length : Int) then (if 0 ≤ x9 then (if x9 < (x7.length : Int) then (if 0 ≤ ((rd_T47 x6 x9).f0) then (if ((rd_T47 x6 x9).f0) < (x3.length : Int) then (if ((rd_T45 x7 x9).f0) = ((rd_T45 x3 ((rd_T47 x6 x9).f0)).f0) then (if x9 < (x8.length : Int) then (if 0 ≤ ((rd_T47 x6 x9).f1) then (if ((rd_T47 x6 x9).f1) < (x4.length : Int) then (if ((rd_T45 x8 x9).f0) = ((rd_T45 x4 ((rd_T47 x6 x9).f1)).f0) then (laws_FnKept.l0 k x3 x4 x6 x7 x8 (wrap64 (x9 + 1))) else (some false)) else (none)) else (none)) else (none)) else (some false)) else (none)) else (none)) else (none)) else (none)) else (some true)
end
def laws_FnKept.f (k : Nat) (l0 : List Int) : Option (Bool) := (laws_big.f l0).bind fun t651 => (if t651 = true then (some true) else ((spec_DrawMapCost.f k l0).bind fun bt652 => ((impl_Kept.f k bt652.1 bt652.2.2.2.2.2).bind fun t671 => ((impl_Turned.f k bt652.2.2.2.2.2).bind fun t674 => ((impl_Kept.f k bt652.2.1 t674).bind fun t677 => ((spec_MapOk.f k bt652.1 bt652.2.1 bt652.2.2.2.2.2).bind fun t680 => (if t680 = true then ((spec_RootsPaired.f bt652.2.2.2.2.2).bind fun t681 => (laws_FnKept.j0 k bt652.1 bt652.2.1 bt652.2.2.2.2.2 t671 t677 (!t681))) else (laws_FnKept.j0 k bt652.1 bt652.2.1 bt652.2.2.2.2.2 t671 t677 true))))))))
set_option maxHeartbeats 8000000 in
set_option maxRecDepth 100000 in
theorem laws_FnKept.calls (k : Nat) (A0 : Option Addr) (c0 : Nat) (l0 : List Int) (r : Bool) (w : World) (hr0 : Kd.C (Kd.int .u8) w A0 l0.length l0) (hc0 : l0.length ≤ c0) (h : laws_FnKept.f k l0 = some r) :
  Calls Try.prog 4 #[.slice A0 l0.length c0] w fun e w' => e = .returned (.bool r) ∧ Below w.heap.size w w' := by
 have hu33 := Try.underlying33
 have HR0 := Aside0.mk hr0
 have HC0 := Aside0.mk hc0
 clear hr0 hc0
 have HB := Aside0.mk (Below.refl w.heap.size w)
 have H : ((laws_big.f l0).bind fun t651 => (if t651 = true then (some true) else ((spec_DrawMapCost.f k l0).bind fun bt652 => ((impl_Kept.f k bt652.1 bt652.2.2.2.2.2).bind fun t671 => ((impl_Turned.f k bt652.2.2.2.2.2).bind fun t674 => ((impl_Kept.f k bt652.2.1 t674).bind fun t677 => ((spec_MapOk.f k bt652.1 bt652.2.1 bt652.2.2.2.2.2).bind fun t680 => (if t680 = true then ((spec_RootsPaired.f bt652.2.2.2.2.2).bind fun t681 => (laws_FnKept.j0 k bt652.1 bt652.2.1 bt652.2.2.2.2.2 t671 t677 (!t681))) else (laws_FnKept.j0 k bt652.1 bt652.2.1 bt652.2.2.2.2.2 t671 t677 true))))))))) = some r := h
 clear h
 obtain ⟨t651, A2, H⟩ := bnd_ H
 by_cases c3 : t651 = true
 ·subst c3
  replace H := ift_ H
  obtain rfl := Option.some.inj H
  go_enter Try.func4, Try.ntmps4
  go_wp2_with (first | (go_at_call 9; (with_reducible refine (laws_big.calls _ _ l0 true _ ?side1 ?side2 A2.out).mono ?_); (case side1 => exact z11_); (case side2 => exact HC0.out); rintro e w' ⟨rfl, ⟨nd, rfl⟩⟩; (try first | exact ⟨rfl, _, World.drewN_drewN _ _ _⟩ | exact ⟨rfl, _, Eq.trans (World.drewN_drewN _ _ _) (congrArg (World.drewN _) (Nat.add_assoc _ _ _))⟩)))
  repeat (go_quiet (first | (go_at_call 9; (with_reducible refine (laws_big.calls _ _ l0 true _ ?side1 ?side2 A2.out).mono ?_); (case side1 => exact z11_); (case side2 => exact HC0.out); rintro e w' ⟨rfl, ⟨nd, rfl⟩⟩; (try first | exact ⟨rfl, _, World.drewN_drewN _ _ _⟩ | exact ⟨rfl, _, Eq.trans (World.drewN_drewN _ _ _) (congrArg (World.drewN _) (Nat.add_assoc _ _ _))⟩))); try go_wp2_with (first | (go_at_call 9; (with_reducible refine (laws_big.calls _ _ l0 true _ ?side1 ?side2 A2.out).mono ?_); (case side1 => exact z11_); (case side2 => exact HC0.out); rintro e w' ⟨rfl, ⟨nd, rfl⟩⟩; (try first | exact ⟨rfl, _, World.drewN_drewN _ _ _⟩ | exact ⟨rfl, _, Eq.trans (World.drewN_drewN _ _ _) (congrArg (World.drewN _) (Nat.add_assoc _ _ _))⟩))))
  go_ret
  exact ⟨z7_, z0_⟩
 ·replace c3 := Bool.eq_false_iff.mpr c3
  subst c3
  replace H := iff_ H
  replace H := Option.bind_eq_some_iff.mp H
  obtain ⟨⟨t652, t655, t658, t661, t664, t667⟩, A40, H⟩ := H
  try dsimp only at H
  have A4 := Aside0.mk A40
  clear A40
  obtain ⟨t671, A5, H⟩ := bnd_ H
  obtain ⟨t674, A6, H⟩ := bnd_ H
  obtain ⟨t677, A7, H⟩ := bnd_ H
  have HC8 := Aside0.mk H
  clear H
  go_enter Try.func4, Try.ntmps4
  go_upto_region 6 with (first | (go_at_call 9; (with_reducible refine (laws_big.calls _ _ l0 false _ ?side1 ?side2 A2.out).mono ?_); (case side1 => exact z11_); (case side2 => exact HC0.out); rintro e w' ⟨rfl, ⟨nd, rfl⟩⟩; (try first | exact ⟨rfl, _, World.drewN_drewN _ _ _⟩ | exact ⟨rfl, _, Eq.trans (World.drewN_drewN _ _ _) (congrArg (World.drewN _) (Nat.add_assoc _ _ _))⟩)) | (go_at_call 10; (with_reducible refine (spec_DrawMapCost.calls k _ _ l0 t652 t655 t658 t661 t664 t667 _ ?side1 ?side2 A4.out).mono ?_); (case side1 => exact z11_); (case side2 => exact HC0.out); rintro e w9 ⟨v653, v656, v659, v662, v665, v668, rfl, ho0, ho1, ho2, ho3, ho4, ho5, hb⟩; have HO654 := Aside0.mk (Kd.Q_lower ho0 (below_size z0_)); have HO657 := Aside0.mk (Kd.R_lower ho1 (below_size z0_)); have HO660 := Aside0.mk (Kd.R_lower ho2 (below_size z0_)); have HO663 := Aside0.mk (Kd.Q_lower ho3 (below_size z0_)); have HO666 := Aside0.mk (Kd.R_lower ho4 (below_size z0_)); have HO669 := Aside0.mk (Kd.Q_lower ho5 (below_size z0_)); replace HB := Aside0.mk (below_step z0_ hb); (try clear hb ho0 ho1 ho2 ho3 ho4 ho5)) | ((with_reducible refine gate_dst (N := 5) rfl ?_); (try (refine gate_guard (by rfl) ?_; dsimp only)); refine box_event ?hg (N := 5) ?hd (cs := #[.slice none 0 0, .slice none 0 0, .slice none 0 0]) (t := 33) ?hr ?_; (case hd => rfl); (case hg => rfl); (case hr => exact z26_); intro gb670 hg w10 hbox hb; replace HO654 := Aside0.mk (Kd.Q_below z53_ hb); replace HO657 := Aside0.mk (Kd.R_below z54_ hb); replace HO660 := Aside0.mk (Kd.R_below z56_ hb); replace HO663 := Aside0.mk (Kd.Q_below z57_ hb); replace HO666 := Aside0.mk (Kd.R_below z58_ hb); replace HO669 := Aside0.mk (Kd.Q_below z55_ hb); have BK670 := Aside0.mk (hbox); have GW670 := Aside0.mk ((by rw [hg]; exact (below_size z0_) : w.heap.size ≤ gb670)); have GE670 := Aside0.mk ((by rw [hg]; exact (below_size z0_) : w.heap.size ≤ gb670)); replace HB := Aside0.mk (below_step z0_ hb); clear hb hbox hg; obtain ⟨Ao11, co11, eo11⟩ := Kd.R_slice HO660.out; subst eo11; obtain ⟨hcz12_0, hcz12_1, hcz12_2, hfz12_0, hfz12_1, hfz12_2⟩ := bx3_ BK670.out; obtain ⟨Ao13, co13, eo13, _⟩ := Kd.Q_slice HO663.out; subst eo13; obtain ⟨Ao14, co14, eo14⟩ := Kd.R_slice HO666.out; subst eo14; obtain ⟨Ao15, co15, eo15, _⟩ := Kd.Q_slice HO654.out; subst eo15; obtain ⟨Ao16, co16, eo16, _⟩ := Kd.Q_slice HO669.out; subst eo16) | (go_at_call 11; (with_reducible refine (impl_Kept.calls k _ _ t652 _ _ t667 t671 _ ?side1 ?side2 ?side3 ?side4 A5.out).mono ?_); (case side1 => exact z59_); (case side2 => exact z181_); (case side3 => exact z62_); (case side4 => exact z141_); rintro e w17 ⟨v672, rfl, ho0, hb⟩; replace HO660 := Aside0.mk (Kd.R_below z73_ hb); replace HO663 := Aside0.mk (Kd.Q_below z74_ hb); replace HO666 := Aside0.mk (Kd.R_below z75_ hb); replace HO669 := Aside0.mk (Kd.Q_below z34_ hb); have HO673 := Aside0.mk (Kd.R_lower (Kd.R_new' (Kd.R_new' ho0 (Kd.Q_lt z16_)) (Kd.R_lt z35_)) (below_size z6_)); replace HO654 := Aside0.mk (Kd.Q_elder' z16_ (Kd.R_base ho0) hb); replace HO657 := Aside0.mk (Kd.R_elder' z35_ (Kd.R_base ho0) hb); replace BK670 := Aside0.mk (blk_below (g := gb670) (o := .cells #[.slice Ao11 t658.length co11, .slice Ao13 t661.length co13, .slice Ao14 t664.length co14] 33 (0, 0)) z44_ hb); replace HB := Aside0.mk (below_step z6_ hb); (try clear hb ho0)) | (go_at_call 12; (with_reducible refine (impl_Turned.calls k _ _ t667 t674 _ ?side1 ?side2 A6.out).mono ?_); (case side1 => exact z50_); (case side2 => exact z141_); rintro e w18 ⟨v675, rfl, ho0, hb⟩; replace HO654 := Aside0.mk (Kd.Q_below z53_ hb); replace HO657 := Aside0.mk (Kd.R_below z54_ hb); replace HO660 := Aside0.mk (Kd.R_below z56_ hb); replace HO663 := Aside0.mk (Kd.Q_below z57_ hb); replace HO666 := Aside0.mk (Kd.R_below z58_ hb); replace HO673 := Aside0.mk (Kd.R_below z68_ hb); have HO676 := Aside0.mk (Kd.R_lower (Kd.R_new' ho0 (Kd.Q_lt z55_)) (below_size z6_)); replace HO669 := Aside0.mk (Kd.Q_elder' z55_ (Kd.R_base ho0) hb); replace BK670 := Aside0.mk (blk_below (g := gb670) (o := .cells #[.slice Ao11 t658.length co11, .slice Ao13 t661.length co13, .slice Ao14 t664.length co14] 33 (0, 0)) z14_ hb); replace HB := Aside0.mk (below_step z6_ hb); (try clear hb ho0); obtain ⟨Ao19, co19, eo19⟩ := Kd.R_slice HO657.out; subst eo19; obtain ⟨Ao20, co20, eo20⟩ := Kd.R_slice HO676.out; subst eo20) | (go_at_call 11; (with_reducible refine (impl_Kept.calls k _ _ t655 _ _ t674 t677 _ ?side1 ?side2 ?side3 ?side4 A7.out).mono ?_); (case side1 => exact z69_); (case side2 => exact z182_); (case side3 => exact z133_); (case side4 => exact (Kd.R_reads' HO676.out).2.1); rintro e w21 ⟨v678, rfl, ho0, hb⟩; replace HO660 := Aside0.mk (Kd.R_below z56_ hb); replace HO663 := Aside0.mk (Kd.Q_below z57_ hb); replace HO666 := Aside0.mk (Kd.R_below z58_ hb); replace HO669 := Aside0.mk (Kd.Q_below z55_ hb); replace HO676 := Aside0.mk (Kd.R_below z89_ hb); have HO679 := Aside0.mk (Kd.R_lower (Kd.R_new' (Kd.R_new' (Kd.R_new' ho0 (Kd.Q_lt z53_)) (Kd.R_lt z54_)) (Kd.R_lt z68_)) (below_size z6_)); replace HO654 := Aside0.mk (Kd.Q_elder' z53_ (Kd.R_base ho0) hb); replace HO657 := Aside0.mk (Kd.R_elder' z54_ (Kd.R_base ho0) hb); replace HO673 := Aside0.mk (Kd.R_elder' z68_ (Kd.R_base ho0) hb); replace BK670 := Aside0.mk (blk_below (g := gb670) (o := .cells #[.slice Ao11 t658.length co11, .slice Ao13 t661.length co13, .slice Ao14 t664.length co14] 33 (0, 0)) z14_ hb); replace HB := Aside0.mk (below_step z6_ hb); (try clear hb ho0)))
  repeat (go_quiet (first | (go_at_call 9; (with_reducible refine (laws_big.calls _ _ l0 false _ ?side1 ?side2 A2.out).mono ?_); (case side1 => exact z11_); (case side2 => exact HC0.out); rintro e w' ⟨rfl, ⟨nd, rfl⟩⟩; (try first | exact ⟨rfl, _, World.drewN_drewN _ _ _⟩ | exact ⟨rfl, _, Eq.trans (World.drewN_drewN _ _ _) (congrArg (World.drewN _) (Nat.add_assoc _ _ _))⟩)) | (go_at_call 10; (with_reducible refine (spec_DrawMapCost.calls k _ _ l0 t652 t655 t658 t661 t664 t667 _ ?side1 ?side2 A4.out).mono ?_); (case side1 => exact z11_); (case side2 => exact HC0.out); rintro e w9 ⟨v653, v656, v659, v662, v665, v668, rfl, ho0, ho1, ho2, ho3, ho4, ho5, hb⟩; have HO654 := Aside0.mk (Kd.Q_lower ho0 (below_size z0_)); have HO657 := Aside0.mk (Kd.R_lower ho1 (below_size z0_)); have HO660 := Aside0.mk (Kd.R_lower ho2 (below_size z0_)); have HO663 := Aside0.mk (Kd.Q_lower ho3 (below_size z0_)); have HO666 := Aside0.mk (Kd.R_lower ho4 (below_size z0_)); have HO669 := Aside0.mk (Kd.Q_lower ho5 (below_size z0_)); replace HB := Aside0.mk (below_step z0_ hb); (try clear hb ho0 ho1 ho2 ho3 ho4 ho5)) | ((with_reducible refine gate_dst (N := 5) rfl ?_); (try (refine gate_guard (by rfl) ?_; dsimp only)); refine box_event ?hg (N := 5) ?hd (cs := #[.slice none 0 0, .slice none 0 0, .slice none 0 0]) (t := 33) ?hr ?_; (case hd => rfl); (case hg => rfl); (case hr => exact z26_); intro gb670 hg w10 hbox hb; replace HO654 := Aside0.mk (Kd.Q_below z53_ hb); replace HO657 := Aside0.mk (Kd.R_below z54_ hb); replace HO660 := Aside0.mk (Kd.R_below z56_ hb); replace HO663 := Aside0.mk (Kd.Q_below z57_ hb); replace HO666 := Aside0.mk (Kd.R_below z58_ hb); replace HO669 := Aside0.mk (Kd.Q_below z55_ hb); have BK670 := Aside0.mk (hbox); have GW670 := Aside0.mk ((by rw [hg]; exact (below_size z0_) : w.heap.size ≤ gb670)); have GE670 := Aside0.mk ((by rw [hg]; exact (below_size z0_) : w.heap.size ≤ gb670)); replace HB := Aside0.mk (below_step z0_ hb); clear hb hbox hg; obtain ⟨Ao11, co11, eo11⟩ := Kd.R_slice HO660.out; subst eo11; obtain ⟨hcz12_0, hcz12_1, hcz12_2, hfz12_0, hfz12_1, hfz12_2⟩ := bx3_ BK670.out; obtain ⟨Ao13, co13, eo13, _⟩ := Kd.Q_slice HO663.out; subst eo13; obtain ⟨Ao14, co14, eo14⟩ := Kd.R_slice HO666.out; subst eo14; obtain ⟨Ao15, co15, eo15, _⟩ := Kd.Q_slice HO654.out; subst eo15; obtain ⟨Ao16, co16, eo16, _⟩ := Kd.Q_slice HO669.out; subst eo16) | (go_at_call 11; (with_reducible refine (impl_Kept.calls k _ _ t652 _ _ t667 t671 _ ?side1 ?side2 ?side3 ?side4 A5.out).mono ?_); (case side1 => exact z59_); (case side2 => exact z181_); (case side3 => exact z62_); (case side4 => exact z141_); rintro e w17 ⟨v672, rfl, ho0, hb⟩; replace HO660 := Aside0.mk (Kd.R_below z73_ hb); replace HO663 := Aside0.mk (Kd.Q_below z74_ hb); replace HO666 := Aside0.mk (Kd.R_below z75_ hb); replace HO669 := Aside0.mk (Kd.Q_below z34_ hb); have HO673 := Aside0.mk (Kd.R_lower (Kd.R_new' (Kd.R_new' ho0 (Kd.Q_lt z16_)) (Kd.R_lt z35_)) (below_size z6_)); replace HO654 := Aside0.mk (Kd.Q_elder' z16_ (Kd.R_base ho0) hb); replace HO657 := Aside0.mk (Kd.R_elder' z35_ (Kd.R_base ho0) hb); replace BK670 := Aside0.mk (blk_below (g := gb670) (o := .cells #[.slice Ao11 t658.length co11, .slice Ao13 t661.length co13, .slice Ao14 t664.length co14] 33 (0, 0)) z44_ hb); replace HB := Aside0.mk (below_step z6_ hb); (try clear hb ho0)) | (go_at_call 12; (with_reducible refine (impl_Turned.calls k _ _ t667 t674 _ ?side1 ?side2 A6.out).mono ?_); (case side1 => exact z50_); (case side2 => exact z141_); rintro e w18 ⟨v675, rfl, ho0, hb⟩; replace HO654 := Aside0.mk (Kd.Q_below z53_ hb); replace HO657 := Aside0.mk (Kd.R_below z54_ hb); replace HO660 := Aside0.mk (Kd.R_below z56_ hb); replace HO663 := Aside0.mk (Kd.Q_below z57_ hb); replace HO666 := Aside0.mk (Kd.R_below z58_ hb); replace HO673 := Aside0.mk (Kd.R_below z68_ hb); have HO676 := Aside0.mk (Kd.R_lower (Kd.R_new' ho0 (Kd.Q_lt z55_)) (below_size z6_)); replace HO669 := Aside0.mk (Kd.Q_elder' z55_ (Kd.R_base ho0) hb); replace BK670 := Aside0.mk (blk_below (g := gb670) (o := .cells #[.slice Ao11 t658.length co11, .slice Ao13 t661.length co13, .slice Ao14 t664.length co14] 33 (0, 0)) z14_ hb); replace HB := Aside0.mk (below_step z6_ hb); (try clear hb ho0); obtain ⟨Ao19, co19, eo19⟩ := Kd.R_slice HO657.out; subst eo19; obtain ⟨Ao20, co20, eo20⟩ := Kd.R_slice HO676.out; subst eo20) | (go_at_call 11; (with_reducible refine (impl_Kept.calls k _ _ t655 _ _ t674 t677 _ ?side1 ?side2 ?side3 ?side4 A7.out).mono ?_); (case side1 => exact z69_); (case side2 => exact z182_); (case side3 => exact z133_); (case side4 => exact (Kd.R_reads' HO676.out).2.1); rintro e w21 ⟨v678, rfl, ho0, hb⟩; replace HO660 := Aside0.mk (Kd.R_below z56_ hb); replace HO663 := Aside0.mk (Kd.Q_below z57_ hb); replace HO666 := Aside0.mk (Kd.R_below z58_ hb); replace HO669 := Aside0.mk (Kd.Q_below z55_ hb); replace HO676 := Aside0.mk (Kd.R_below z89_ hb); have HO679 := Aside0.mk (Kd.R_lower (Kd.R_new' (Kd.R_new' (Kd.R_new' ho0 (Kd.Q_lt z53_)) (Kd.R_lt z54_)) (Kd.R_lt z68_)) (below_size z6_)); replace HO654 := Aside0.mk (Kd.Q_elder' z53_ (Kd.R_base ho0) hb); replace HO657 := Aside0.mk (Kd.R_elder' z54_ (Kd.R_base ho0) hb); replace HO673 := Aside0.mk (Kd.R_elder' z68_ (Kd.R_base ho0) hb); replace BK670 := Aside0.mk (blk_below (g := gb670) (o := .cells #[.slice Ao11 t658.length co11, .slice Ao13 t661.length co13, .slice Ao14 t664.length co14] 33 (0, 0)) z14_ hb); replace HB := Aside0.mk (below_step z6_ hb); (try clear hb ho0))); go_upto_region 6 with (first | (go_at_call 9; (with_reducible refine (laws_big.calls _ _ l0 false _ ?side1 ?side2 A2.out).mono ?_); (case side1 => exact z11_); (case side2 => exact HC0.out); rintro e w' ⟨rfl, ⟨nd, rfl⟩⟩; (try first | exact ⟨rfl, _, World.drewN_drewN _ _ _⟩ | exact ⟨rfl, _, Eq.trans (World.drewN_drewN _ _ _) (congrArg (World.drewN _) (Nat.add_assoc _ _ _))⟩)) | (go_at_call 10; (with_reducible refine (spec_DrawMapCost.calls k _ _ l0 t652 t655 t658 t661 t664 t667 _ ?side1 ?side2 A4.out).mono ?_); (case side1 => exact z11_); (case side2 => exact HC0.out); rintro e w9 ⟨v653, v656, v659, v662, v665, v668, rfl, ho0, ho1, ho2, ho3, ho4, ho5, hb⟩; have HO654 := Aside0.mk (Kd.Q_lower ho0 (below_size z0_)); have HO657 := Aside0.mk (Kd.R_lower ho1 (below_size z0_)); have HO660 := Aside0.mk (Kd.R_lower ho2 (below_size z0_)); have HO663 := Aside0.mk (Kd.Q_lower ho3 (below_size z0_)); have HO666 := Aside0.mk (Kd.R_lower ho4 (below_size z0_)); have HO669 := Aside0.mk (Kd.Q_lower ho5 (below_size z0_)); replace HB := Aside0.mk (below_step z0_ hb); (try clear hb ho0 ho1 ho2 ho3 ho4 ho5)) | ((with_reducible refine gate_dst (N := 5) rfl ?_); (try (refine gate_guard (by rfl) ?_; dsimp only)); refine box_event ?hg (N := 5) ?hd (cs := #[.slice none 0 0, .slice none 0 0, .slice none 0 0]) (t := 33) ?hr ?_; (case hd => rfl); (case hg => rfl); (case hr => exact z26_); intro gb670 hg w10 hbox hb; replace HO654 := Aside0.mk (Kd.Q_below z53_ hb); replace HO657 := Aside0.mk (Kd.R_below z54_ hb); replace HO660 := Aside0.mk (Kd.R_below z56_ hb); replace HO663 := Aside0.mk (Kd.Q_below z57_ hb); replace HO666 := Aside0.mk (Kd.R_below z58_ hb); replace HO669 := Aside0.mk (Kd.Q_below z55_ hb); have BK670 := Aside0.mk (hbox); have GW670 := Aside0.mk ((by rw [hg]; exact (below_size z0_) : w.heap.size ≤ gb670)); have GE670 := Aside0.mk ((by rw [hg]; exact (below_size z0_) : w.heap.size ≤ gb670)); replace HB := Aside0.mk (below_step z0_ hb); clear hb hbox hg; obtain ⟨Ao11, co11, eo11⟩ := Kd.R_slice HO660.out; subst eo11; obtain ⟨hcz12_0, hcz12_1, hcz12_2, hfz12_0, hfz12_1, hfz12_2⟩ := bx3_ BK670.out; obtain ⟨Ao13, co13, eo13, _⟩ := Kd.Q_slice HO663.out; subst eo13; obtain ⟨Ao14, co14, eo14⟩ := Kd.R_slice HO666.out; subst eo14; obtain ⟨Ao15, co15, eo15, _⟩ := Kd.Q_slice HO654.out; subst eo15; obtain ⟨Ao16, co16, eo16, _⟩ := Kd.Q_slice HO669.out; subst eo16) | (go_at_call 11; (with_reducible refine (impl_Kept.calls k _ _ t652 _ _ t667 t671 _ ?side1 ?side2 ?side3 ?side4 A5.out).mono ?_); (case side1 => exact z59_); (case side2 => exact z181_); (case side3 => exact z62_); (case side4 => exact z141_); rintro e w17 ⟨v672, rfl, ho0, hb⟩; replace HO660 := Aside0.mk (Kd.R_below z73_ hb); replace HO663 := Aside0.mk (Kd.Q_below z74_ hb); replace HO666 := Aside0.mk (Kd.R_below z75_ hb); replace HO669 := Aside0.mk (Kd.Q_below z34_ hb); have HO673 := Aside0.mk (Kd.R_lower (Kd.R_new' (Kd.R_new' ho0 (Kd.Q_lt z16_)) (Kd.R_lt z35_)) (below_size z6_)); replace HO654 := Aside0.mk (Kd.Q_elder' z16_ (Kd.R_base ho0) hb); replace HO657 := Aside0.mk (Kd.R_elder' z35_ (Kd.R_base ho0) hb); replace BK670 := Aside0.mk (blk_below (g := gb670) (o := .cells #[.slice Ao11 t658.length co11, .slice Ao13 t661.length co13, .slice Ao14 t664.length co14] 33 (0, 0)) z44_ hb); replace HB := Aside0.mk (below_step z6_ hb); (try clear hb ho0)) | (go_at_call 12; (with_reducible refine (impl_Turned.calls k _ _ t667 t674 _ ?side1 ?side2 A6.out).mono ?_); (case side1 => exact z50_); (case side2 => exact z141_); rintro e w18 ⟨v675, rfl, ho0, hb⟩; replace HO654 := Aside0.mk (Kd.Q_below z53_ hb); replace HO657 := Aside0.mk (Kd.R_below z54_ hb); replace HO660 := Aside0.mk (Kd.R_below z56_ hb); replace HO663 := Aside0.mk (Kd.Q_below z57_ hb); replace HO666 := Aside0.mk (Kd.R_below z58_ hb); replace HO673 := Aside0.mk (Kd.R_below z68_ hb); have HO676 := Aside0.mk (Kd.R_lower (Kd.R_new' ho0 (Kd.Q_lt z55_)) (below_size z6_)); replace HO669 := Aside0.mk (Kd.Q_elder' z55_ (Kd.R_base ho0) hb); replace BK670 := Aside0.mk (blk_below (g := gb670) (o := .cells #[.slice Ao11 t658.length co11, .slice Ao13 t661.length co13, .slice Ao14 t664.length co14] 33 (0, 0)) z14_ hb); replace HB := Aside0.mk (below_step z6_ hb); (try clear hb ho0); obtain ⟨Ao19, co19, eo19⟩ := Kd.R_slice HO657.out; subst eo19; obtain ⟨Ao20, co20, eo20⟩ := Kd.R_slice HO676.out; subst eo20) | (go_at_call 11; (with_reducible refine (impl_Kept.calls k _ _ t655 _ _ t674 t677 _ ?side1 ?side2 ?side3 ?side4 A7.out).mono ?_); (case side1 => exact z69_); (case side2 => exact z182_); (case side3 => exact z133_); (case side4 => exact (Kd.R_reads' HO676.out).2.1); rintro e w21 ⟨v678, rfl, ho0, hb⟩; replace HO660 := Aside0.mk (Kd.R_below z56_ hb); replace HO663 := Aside0.mk (Kd.Q_below z57_ hb); replace HO666 := Aside0.mk (Kd.R_below z58_ hb); replace HO669 := Aside0.mk (Kd.Q_below z55_ hb); replace HO676 := Aside0.mk (Kd.R_below z89_ hb); have HO679 := Aside0.mk (Kd.R_lower (Kd.R_new' (Kd.R_new' (Kd.R_new' ho0 (Kd.Q_lt z53_)) (Kd.R_lt z54_)) (Kd.R_lt z68_)) (below_size z6_)); replace HO654 := Aside0.mk (Kd.Q_elder' z53_ (Kd.R_base ho0) hb); replace HO657 := Aside0.mk (Kd.R_elder' z54_ (Kd.R_base ho0) hb); replace HO673 := Aside0.mk (Kd.R_elder' z68_ (Kd.R_base ho0) hb); replace BK670 := Aside0.mk (blk_below (g := gb670) (o := .cells #[.slice Ao11 t658.length co11, .slice Ao13 t661.length co13, .slice Ao14 t664.length co14] 33 (0, 0)) z14_ hb); replace HB := Aside0.mk (below_step z6_ hb); (try clear hb ho0))))
  (try simp only [Act.put, List.setIfInBounds_toArray, List.set_cons_zero, List.set_cons_succ])
  go_cut [35] (fun v35 wc => ∃ (kq : Nat) (x35_7 : Bool), v35 = .bool x35_7 ∧ Aside0 (laws_FnKept.j0 kq t652 t655 t667 t671 t677 x35_7 = some r) ∧ Aside0 (kq ≤ k) ∧ Aside0 (Kd.Q k45 45 wc w.heap.size (fun k_ => some k_ ≠ ((.slice Ao19 t655.length co19) : Value).ownBlock ∧ some k_ ≠ (v672 : Value).ownBlock ∧ some k_ ≠ (v678 : Value).ownBlock) (.slice Ao15 t652.length co15) t652) ∧ Aside0 (Kd.R k45 45 wc w.heap.size (fun k_ => some k_ ≠ ((.slice Ao15 t652.length co15) : Value).ownBlock ∧ some k_ ≠ (v672 : Value).ownBlock ∧ some k_ ≠ (v678 : Value).ownBlock) (.slice Ao19 t655.length co19) t655) ∧ Aside0 (Kd.Q k47 47 wc w.heap.size (fun _ => True) (.slice Ao16 t667.length co16) t667) ∧ Aside0 (Kd.R k45 45 wc w.heap.size (fun k_ => some k_ ≠ ((.slice Ao15 t652.length co15) : Value).ownBlock ∧ some k_ ≠ ((.slice Ao19 t655.length co19) : Value).ownBlock ∧ some k_ ≠ (v678 : Value).ownBlock) v672 t671) ∧ Aside0 (Kd.R k45 45 wc w.heap.size (fun k_ => some k_ ≠ ((.slice Ao15 t652.length co15) : Value).ownBlock ∧ some k_ ≠ ((.slice Ao19 t655.length co19) : Value).ownBlock ∧ some k_ ≠ (v672 : Value).ownBlock) v678 t677) ∧ Aside0 (Kd.R (Kd.int .i64) 3 wc w.heap.size (fun k_ => some k_ ≠ ((.slice Ao13 t661.length co13) : Value).ownBlock ∧ some k_ ≠ ((.slice Ao14 t664.length co14) : Value).ownBlock) (.slice Ao11 t658.length co11) t658) ∧ Aside0 (Kd.Q (Kd.int .i64) 3 wc w.heap.size (fun k_ => some k_ ≠ ((.slice Ao11 t658.length co11) : Value).ownBlock ∧ some k_ ≠ ((.slice Ao14 t664.length co14) : Value).ownBlock) (.slice Ao13 t661.length co13) t661) ∧ Aside0 (Kd.R (Kd.int .i64) 3 wc w.heap.size (fun k_ => some k_ ≠ ((.slice Ao11 t658.length co11) : Value).ownBlock ∧ some k_ ≠ ((.slice Ao13 t661.length co13) : Value).ownBlock) (.slice Ao14 t664.length co14) t664) ∧ Aside0 (wc.heap[gb670]? = some (.cells #[(.slice Ao11 t658.length co11), (.slice Ao13 t661.length co13), (.slice Ao14 t664.length co14)] 33 (0, 0))) ∧ Aside0 (Below w.heap.size w wc))
  case first =>
   have H := HC8.out
   clear HC8
   obtain ⟨t680, A22, H⟩ := bnd_ H
   by_cases c23 : t680 = true
   ·subst c23
    replace H := ift_ H
    obtain ⟨t681, A24, H⟩ := bnd_ H
    have H' := Aside0.mk H
    clear H
    go_wp2_with (first | (go_at_call 13; (with_reducible refine (spec_MapOk.calls k _ _ t652 _ _ t655 _ _ t667 true _ ?side1 ?side2 ?side3 ?side4 ?side5 ?side6 A22.out).mono ?_); (case side1 => exact z84_); (case side2 => exact z181_); (case side3 => exact z69_); (case side4 => exact z182_); (case side5 => exact z50_); (case side6 => exact z141_); rintro e w25 ⟨rfl, hb⟩; replace HO654 := Aside0.mk (Kd.Q_below z53_ hb); replace HO657 := Aside0.mk (Kd.R_below z54_ hb); replace HO660 := Aside0.mk (Kd.R_below z56_ hb); replace HO663 := Aside0.mk (Kd.Q_below z57_ hb); replace HO666 := Aside0.mk (Kd.R_below z58_ hb); replace HO669 := Aside0.mk (Kd.Q_below z55_ hb); replace HO673 := Aside0.mk (Kd.R_below z68_ hb); replace HO676 := Aside0.mk (Kd.R_below z89_ hb); replace HO679 := Aside0.mk (Kd.R_below z121_ hb); replace BK670 := Aside0.mk (blk_below (g := gb670) (o := .cells #[.slice Ao11 t658.length co11, .slice Ao13 t661.length co13, .slice Ao14 t664.length co14] 33 (0, 0)) z14_ hb); replace HB := Aside0.mk (below_step z6_ hb); (try clear hb)) | (go_at_call 14; (with_reducible refine (spec_RootsPaired.calls _ _ t667 t681 _ ?side1 ?side2 A24.out).mono ?_); (case side1 => exact z50_); (case side2 => exact z141_); rintro e w' ⟨rfl, ⟨nd, rfl⟩⟩; (try first | exact ⟨rfl, _, World.drewN_drewN _ _ _⟩ | exact ⟨rfl, _, Eq.trans (World.drewN_drewN _ _ _) (congrArg (World.drewN _) (Nat.add_assoc _ _ _))⟩)))
    repeat (go_quiet (first | (go_at_call 13; (with_reducible refine (spec_MapOk.calls k _ _ t652 _ _ t655 _ _ t667 true _ ?side1 ?side2 ?side3 ?side4 ?side5 ?side6 A22.out).mono ?_); (case side1 => exact z84_); (case side2 => exact z181_); (case side3 => exact z69_); (case side4 => exact z182_); (case side5 => exact z50_); (case side6 => exact z141_); rintro e w25 ⟨rfl, hb⟩; replace HO654 := Aside0.mk (Kd.Q_below z53_ hb); replace HO657 := Aside0.mk (Kd.R_below z54_ hb); replace HO660 := Aside0.mk (Kd.R_below z56_ hb); replace HO663 := Aside0.mk (Kd.Q_below z57_ hb); replace HO666 := Aside0.mk (Kd.R_below z58_ hb); replace HO669 := Aside0.mk (Kd.Q_below z55_ hb); replace HO673 := Aside0.mk (Kd.R_below z68_ hb); replace HO676 := Aside0.mk (Kd.R_below z89_ hb); replace HO679 := Aside0.mk (Kd.R_below z121_ hb); replace BK670 := Aside0.mk (blk_below (g := gb670) (o := .cells #[.slice Ao11 t658.length co11, .slice Ao13 t661.length co13, .slice Ao14 t664.length co14] 33 (0, 0)) z14_ hb); replace HB := Aside0.mk (below_step z6_ hb); (try clear hb)) | (go_at_call 14; (with_reducible refine (spec_RootsPaired.calls _ _ t667 t681 _ ?side1 ?side2 A24.out).mono ?_); (case side1 => exact z50_); (case side2 => exact z141_); rintro e w' ⟨rfl, ⟨nd, rfl⟩⟩; (try first | exact ⟨rfl, _, World.drewN_drewN _ _ _⟩ | exact ⟨rfl, _, Eq.trans (World.drewN_drewN _ _ _) (congrArg (World.drewN _) (Nat.add_assoc _ _ _))⟩))); try go_wp2_with (first | (go_at_call 13; (with_reducible refine (spec_MapOk.calls k _ _ t652 _ _ t655 _ _ t667 true _ ?side1 ?side2 ?side3 ?side4 ?side5 ?side6 A22.out).mono ?_); (case side1 => exact z84_); (case side2 => exact z181_); (case side3 => exact z69_); (case side4 => exact z182_); (case side5 => exact z50_); (case side6 => exact z141_); rintro e w25 ⟨rfl, hb⟩; replace HO654 := Aside0.mk (Kd.Q_below z53_ hb); replace HO657 := Aside0.mk (Kd.R_below z54_ hb); replace HO660 := Aside0.mk (Kd.R_below z56_ hb); replace HO663 := Aside0.mk (Kd.Q_below z57_ hb); replace HO666 := Aside0.mk (Kd.R_below z58_ hb); replace HO669 := Aside0.mk (Kd.Q_below z55_ hb); replace HO673 := Aside0.mk (Kd.R_below z68_ hb); replace HO676 := Aside0.mk (Kd.R_below z89_ hb); replace HO679 := Aside0.mk (Kd.R_below z121_ hb); replace BK670 := Aside0.mk (blk_below (g := gb670) (o := .cells #[.slice Ao11 t658.length co11, .slice Ao13 t661.length co13, .slice Ao14 t664.length co14] 33 (0, 0)) z14_ hb); replace HB := Aside0.mk (below_step z6_ hb); (try clear hb)) | (go_at_call 14; (with_reducible refine (spec_RootsPaired.calls _ _ t667 t681 _ ?side1 ?side2 A24.out).mono ?_); (case side1 => exact z50_); (case side2 => exact z141_); rintro e w' ⟨rfl, ⟨nd, rfl⟩⟩; (try first | exact ⟨rfl, _, World.drewN_drewN _ _ _⟩ | exact ⟨rfl, _, Eq.trans (World.drewN_drewN _ _ _) (congrArg (World.drewN _) (Nat.add_assoc _ _ _))⟩))))
    go_meet
    case rel => exact ⟨_, (!t681), z9_, H', ⟨z185_⟩, ⟨z179_⟩, ⟨z180_⟩, ⟨z187_⟩, ⟨z174_⟩, ⟨z175_⟩, ⟨z56_⟩, ⟨z57_⟩, ⟨z58_⟩, ⟨z14_⟩, ⟨z6_⟩⟩
   ·replace c23 := Bool.eq_false_iff.mpr c23
    subst c23
    replace H := iff_ H
    have H' := Aside0.mk H
    clear H
    go_wp2_with (first | (go_at_call 13; (with_reducible refine (spec_MapOk.calls k _ _ t652 _ _ t655 _ _ t667 false _ ?side1 ?side2 ?side3 ?side4 ?side5 ?side6 A22.out).mono ?_); (case side1 => exact z84_); (case side2 => exact z181_); (case side3 => exact z69_); (case side4 => exact z182_); (case side5 => exact z50_); (case side6 => exact z141_); rintro e w26 ⟨rfl, hb⟩; replace HO654 := Aside0.mk (Kd.Q_below z53_ hb); replace HO657 := Aside0.mk (Kd.R_below z54_ hb); replace HO660 := Aside0.mk (Kd.R_below z56_ hb); replace HO663 := Aside0.mk (Kd.Q_below z57_ hb); replace HO666 := Aside0.mk (Kd.R_below z58_ hb); replace HO669 := Aside0.mk (Kd.Q_below z55_ hb); replace HO673 := Aside0.mk (Kd.R_below z68_ hb); replace HO676 := Aside0.mk (Kd.R_below z89_ hb); replace HO679 := Aside0.mk (Kd.R_below z121_ hb); replace BK670 := Aside0.mk (blk_below (g := gb670) (o := .cells #[.slice Ao11 t658.length co11, .slice Ao13 t661.length co13, .slice Ao14 t664.length co14] 33 (0, 0)) z14_ hb); replace HB := Aside0.mk (below_step z6_ hb); (try clear hb)))
    repeat (go_quiet (first | (go_at_call 13; (with_reducible refine (spec_MapOk.calls k _ _ t652 _ _ t655 _ _ t667 false _ ?side1 ?side2 ?side3 ?side4 ?side5 ?side6 A22.out).mono ?_); (case side1 => exact z84_); (case side2 => exact z181_); (case side3 => exact z69_); (case side4 => exact z182_); (case side5 => exact z50_); (case side6 => exact z141_); rintro e w26 ⟨rfl, hb⟩; replace HO654 := Aside0.mk (Kd.Q_below z53_ hb); replace HO657 := Aside0.mk (Kd.R_below z54_ hb); replace HO660 := Aside0.mk (Kd.R_below z56_ hb); replace HO663 := Aside0.mk (Kd.Q_below z57_ hb); replace HO666 := Aside0.mk (Kd.R_below z58_ hb); replace HO669 := Aside0.mk (Kd.Q_below z55_ hb); replace HO673 := Aside0.mk (Kd.R_below z68_ hb); replace HO676 := Aside0.mk (Kd.R_below z89_ hb); replace HO679 := Aside0.mk (Kd.R_below z121_ hb); replace BK670 := Aside0.mk (blk_below (g := gb670) (o := .cells #[.slice Ao11 t658.length co11, .slice Ao13 t661.length co13, .slice Ao14 t664.length co14] 33 (0, 0)) z14_ hb); replace HB := Aside0.mk (below_step z6_ hb); (try clear hb))); try go_wp2_with (first | (go_at_call 13; (with_reducible refine (spec_MapOk.calls k _ _ t652 _ _ t655 _ _ t667 false _ ?side1 ?side2 ?side3 ?side4 ?side5 ?side6 A22.out).mono ?_); (case side1 => exact z84_); (case side2 => exact z181_); (case side3 => exact z69_); (case side4 => exact z182_); (case side5 => exact z50_); (case side6 => exact z141_); rintro e w26 ⟨rfl, hb⟩; replace HO654 := Aside0.mk (Kd.Q_below z53_ hb); replace HO657 := Aside0.mk (Kd.R_below z54_ hb); replace HO660 := Aside0.mk (Kd.R_below z56_ hb); replace HO663 := Aside0.mk (Kd.Q_below z57_ hb); replace HO666 := Aside0.mk (Kd.R_below z58_ hb); replace HO669 := Aside0.mk (Kd.Q_below z55_ hb); replace HO673 := Aside0.mk (Kd.R_below z68_ hb); replace HO676 := Aside0.mk (Kd.R_below z89_ hb); replace HO679 := Aside0.mk (Kd.R_below z121_ hb); replace BK670 := Aside0.mk (blk_below (g := gb670) (o := .cells #[.slice Ao11 t658.length co11, .slice Ao13 t661.length co13, .slice Ao14 t664.length co14] 33 (0, 0)) z14_ hb); replace HB := Aside0.mk (below_step z6_ hb); (try clear hb))))
    go_meet
    case rel => exact ⟨_, (true), z9_, H', ⟨z185_⟩, ⟨z179_⟩, ⟨z180_⟩, ⟨z187_⟩, ⟨z174_⟩, ⟨z175_⟩, ⟨z56_⟩, ⟨z57_⟩, ⟨z58_⟩, ⟨z14_⟩, ⟨z6_⟩⟩
  case rest =>
   clear HC8
   try clear c2
   try clear p2
   try clear c3
   try clear c4
   try clear c23
   try clear hcz12_0
   try clear hcz12_1
   try clear hcz12_2
   try clear hfz12_0
   try clear hfz12_1
   try clear hfz12_2
   obtain ⟨kq, x35_7, rfl, HA, HJ7, HO_3, HO_4, HO_6, HO_7, HO_8, HO_671000, HO_671001, HO_671002, BK670, HB⟩ := hcut
   cases kq with
   | zero => exact absurd HA.out (by simp [laws_FnKept.j0])
   | succ kj7 =>
    have H := HA.out
    clear HA
    simp only [laws_FnKept.j0] at H
    by_cases c27 : x35_7 = true
    ·subst c27
     replace H := ift_ H
     obtain ⟨t682, A28, H⟩ := bnd_ H
     obtain rfl := Option.some.inj H
     obtain ⟨Ao29, co29, eo29⟩ := Kd.R_slice HO_7.out
     subst eo29
     go_wp2_with (first | (go_at_call 15; (with_reducible refine (spec_Kept.calls kj7 _ _ t652 _ _ t667 t682 _ ?side1 ?side2 ?side3 ?side4 A28.out).mono ?_); (case side1 => exact z137_); (case side2 => exact (Kd.Q_reads' HO_3.out).2.1); (case side3 => exact z138_); (case side4 => exact (Kd.Q_reads' HO_6.out).2.1); rintro e w30 ⟨v683, rfl, ho0, hb⟩; replace HO_6 := Aside0.mk (Kd.Q_below z45_ hb); replace HO_671000 := Aside0.mk (Kd.R_below z28_ hb); replace HO_671001 := Aside0.mk (Kd.Q_below z29_ hb); replace HO_671002 := Aside0.mk (Kd.R_below z30_ hb); have HO684 := Aside0.mk (Kd.R_lower (Kd.R_new' (Kd.R_new' (Kd.R_new' (Kd.R_new' ho0 (Kd.Q_lt z38_)) (Kd.R_lt z39_)) (Kd.R_lt z13_)) (Kd.R_lt z21_)) (below_size z6_)); replace HO_3 := Aside0.mk (Kd.Q_elder' z38_ (Kd.R_base ho0) hb); replace HO_4 := Aside0.mk (Kd.R_elder' z39_ (Kd.R_base ho0) hb); replace HO_7 := Aside0.mk (Kd.R_elder' z13_ (Kd.R_base ho0) hb); replace HO_8 := Aside0.mk (Kd.R_elder' z21_ (Kd.R_base ho0) hb); replace BK670 := Aside0.mk (blk_below (g := gb670) (o := .cells #[.slice Ao11 t658.length co11, .slice Ao13 t661.length co13, .slice Ao14 t664.length co14] 33 (0, 0)) z14_ hb); replace HB := Aside0.mk (below_step z6_ hb); (try clear hb ho0); obtain ⟨Ao31, co31, eo31⟩ := Kd.R_slice HO684.out; subst eo31))
     repeat (go_quiet (first | (go_at_call 15; (with_reducible refine (spec_Kept.calls kj7 _ _ t652 _ _ t667 t682 _ ?side1 ?side2 ?side3 ?side4 A28.out).mono ?_); (case side1 => exact z137_); (case side2 => exact (Kd.Q_reads' HO_3.out).2.1); (case side3 => exact z138_); (case side4 => exact (Kd.Q_reads' HO_6.out).2.1); rintro e w30 ⟨v683, rfl, ho0, hb⟩; replace HO_6 := Aside0.mk (Kd.Q_below z45_ hb); replace HO_671000 := Aside0.mk (Kd.R_below z28_ hb); replace HO_671001 := Aside0.mk (Kd.Q_below z29_ hb); replace HO_671002 := Aside0.mk (Kd.R_below z30_ hb); have HO684 := Aside0.mk (Kd.R_lower (Kd.R_new' (Kd.R_new' (Kd.R_new' (Kd.R_new' ho0 (Kd.Q_lt z38_)) (Kd.R_lt z39_)) (Kd.R_lt z13_)) (Kd.R_lt z21_)) (below_size z6_)); replace HO_3 := Aside0.mk (Kd.Q_elder' z38_ (Kd.R_base ho0) hb); replace HO_4 := Aside0.mk (Kd.R_elder' z39_ (Kd.R_base ho0) hb); replace HO_7 := Aside0.mk (Kd.R_elder' z13_ (Kd.R_base ho0) hb); replace HO_8 := Aside0.mk (Kd.R_elder' z21_ (Kd.R_base ho0) hb); replace BK670 := Aside0.mk (blk_below (g := gb670) (o := .cells #[.slice Ao11 t658.length co11, .slice Ao13 t661.length co13, .slice Ao14 t664.length co14] 33 (0, 0)) z14_ hb); replace HB := Aside0.mk (below_step z6_ hb); (try clear hb ho0); obtain ⟨Ao31, co31, eo31⟩ := Kd.R_slice HO684.out; subst eo31)); try go_wp2_with (first | (go_at_call 15; (with_reducible refine (spec_Kept.calls kj7 _ _ t652 _ _ t667 t682 _ ?side1 ?side2 ?side3 ?side4 A28.out).mono ?_); (case side1 => exact z137_); (case side2 => exact (Kd.Q_reads' HO_3.out).2.1); (case side3 => exact z138_); (case side4 => exact (Kd.Q_reads' HO_6.out).2.1); rintro e w30 ⟨v683, rfl, ho0, hb⟩; replace HO_6 := Aside0.mk (Kd.Q_below z45_ hb); replace HO_671000 := Aside0.mk (Kd.R_below z28_ hb); replace HO_671001 := Aside0.mk (Kd.Q_below z29_ hb); replace HO_671002 := Aside0.mk (Kd.R_below z30_ hb); have HO684 := Aside0.mk (Kd.R_lower (Kd.R_new' (Kd.R_new' (Kd.R_new' (Kd.R_new' ho0 (Kd.Q_lt z38_)) (Kd.R_lt z39_)) (Kd.R_lt z13_)) (Kd.R_lt z21_)) (below_size z6_)); replace HO_3 := Aside0.mk (Kd.Q_elder' z38_ (Kd.R_base ho0) hb); replace HO_4 := Aside0.mk (Kd.R_elder' z39_ (Kd.R_base ho0) hb); replace HO_7 := Aside0.mk (Kd.R_elder' z13_ (Kd.R_base ho0) hb); replace HO_8 := Aside0.mk (Kd.R_elder' z21_ (Kd.R_base ho0) hb); replace BK670 := Aside0.mk (blk_below (g := gb670) (o := .cells #[.slice Ao11 t658.length co11, .slice Ao13 t661.length co13, .slice Ao14 t664.length co14] 33 (0, 0)) z14_ hb); replace HB := Aside0.mk (below_step z6_ hb); (try clear hb ho0); obtain ⟨Ao31, co31, eo31⟩ := Kd.R_slice HO684.out; subst eo31)))
     go_ret
     exact ⟨z7_, z6_⟩
    ·replace c27 := Bool.eq_false_iff.mpr c27
     subst c27
     replace H := iff_ H
     have HC32 := Aside0.mk H
     clear H
     go_upto_region 8 with (fail)
     repeat (go_quiet (fail); go_upto_region 8 with (fail))
     go_cut [67] (fun v67 wc => ∃ (kq : Nat) (x67_31 : Bool), v67 = .bool x67_31 ∧ Aside0 (laws_FnKept.j1 kq t652 t655 t667 t671 t677 x67_31 = some r) ∧ Aside0 (kq ≤ kj7) ∧ Aside0 (Kd.Q k45 45 wc w.heap.size (fun k_ => some k_ ≠ ((.slice Ao19 t655.length co19) : Value).ownBlock ∧ some k_ ≠ (v672 : Value).ownBlock ∧ some k_ ≠ (v678 : Value).ownBlock) (.slice Ao15 t652.length co15) t652) ∧ Aside0 (Kd.R k45 45 wc w.heap.size (fun k_ => some k_ ≠ ((.slice Ao15 t652.length co15) : Value).ownBlock ∧ some k_ ≠ (v672 : Value).ownBlock ∧ some k_ ≠ (v678 : Value).ownBlock) (.slice Ao19 t655.length co19) t655) ∧ Aside0 (Kd.Q k47 47 wc w.heap.size (fun _ => True) (.slice Ao16 t667.length co16) t667) ∧ Aside0 (Kd.R k45 45 wc w.heap.size (fun k_ => some k_ ≠ ((.slice Ao15 t652.length co15) : Value).ownBlock ∧ some k_ ≠ ((.slice Ao19 t655.length co19) : Value).ownBlock ∧ some k_ ≠ (v678 : Value).ownBlock) v672 t671) ∧ Aside0 (Kd.R k45 45 wc w.heap.size (fun k_ => some k_ ≠ ((.slice Ao15 t652.length co15) : Value).ownBlock ∧ some k_ ≠ ((.slice Ao19 t655.length co19) : Value).ownBlock ∧ some k_ ≠ (v672 : Value).ownBlock) v678 t677) ∧ Aside0 (Kd.R (Kd.int .i64) 3 wc w.heap.size (fun k_ => some k_ ≠ ((.slice Ao13 t661.length co13) : Value).ownBlock ∧ some k_ ≠ ((.slice Ao14 t664.length co14) : Value).ownBlock) (.slice Ao11 t658.length co11) t658) ∧ Aside0 (Kd.Q (Kd.int .i64) 3 wc w.heap.size (fun k_ => some k_ ≠ ((.slice Ao11 t658.length co11) : Value).ownBlock ∧ some k_ ≠ ((.slice Ao14 t664.length co14) : Value).ownBlock) (.slice Ao13 t661.length co13) t661) ∧ Aside0 (Kd.R (Kd.int .i64) 3 wc w.heap.size (fun k_ => some k_ ≠ ((.slice Ao11 t658.length co11) : Value).ownBlock ∧ some k_ ≠ ((.slice Ao13 t661.length co13) : Value).ownBlock) (.slice Ao14 t664.length co14) t664) ∧ Aside0 (wc.heap[gb670]? = some (.cells #[(.slice Ao11 t658.length co11), (.slice Ao13 t661.length co13), (.slice Ao14 t664.length co14)] 33 (0, 0))) ∧ Aside0 (Below w.heap.size w wc))
     case first =>
      have H := HC32.out
      clear HC32
      by_cases c33 : (t671.length : Int) = (t667.length : Int)
      ·rw [if_pos c33] at H
       have c33b0 : ((t671.length : Int) == (t667.length : Int)) = true := beq_iff_eq.mpr c33
       have c33b1 : ((t671.length : Int) != (t667.length : Int)) = false := bne_eq_false_iff_eq.mpr c33
       have c33b2 : (t671.length == t667.length) = true := by first | simpa using c33 | (simp at c33 ⊢; omega)
       clear c33
       (first | rw [c33b0] | rw [c33b1] | (simp only [i64_w, i32_w]; rw [c33b0]) | skip)
       by_cases c34 : (t677.length : Int) = (t667.length : Int)
       ·rw [if_pos c34] at H
        have c34b0 : ((t677.length : Int) == (t667.length : Int)) = true := beq_iff_eq.mpr c34
        have c34b1 : ((t677.length : Int) != (t667.length : Int)) = false := bne_eq_false_iff_eq.mpr c34
        have c34b2 : (t677.length == t667.length) = true := by first | simpa using c34 | (simp at c34 ⊢; omega)
        clear c34
        obtain ⟨t685, A35, H⟩ := bnd_ H
        by_cases c36 : t685 = true
        ·subst c36
         replace H := ift_ H
         obtain ⟨t686, A37, H⟩ := bnd_ H
         obtain ⟨t689, A38, H⟩ := bnd_ H
         obtain ⟨t692, A39, H⟩ := bnd_ H
         have H' := Aside0.mk H
         clear H
         obtain ⟨Ao40, co40, eo40⟩ := Kd.R_slice HO_7.out
         subst eo40
         obtain ⟨Ao41, co41, eo41⟩ := Kd.R_slice HO_8.out
         subst eo41
         go_wp2_with (first | (go_at_call 16; (with_reducible refine (spec_TreeOk.calls kj7 _ _ t671 true _ ?side1 ?side2 A35.out).mono ?_); (case side1 => exact z51_); (case side2 => exact z184_); rintro e w42 ⟨rfl, hb⟩; replace HO_3 := Aside0.mk (Kd.Q_below z38_ hb); replace HO_4 := Aside0.mk (Kd.R_below z39_ hb); replace HO_6 := Aside0.mk (Kd.Q_below z45_ hb); replace HO_7 := Aside0.mk (Kd.R_below z13_ hb); replace HO_8 := Aside0.mk (Kd.R_below z21_ hb); replace HO_671000 := Aside0.mk (Kd.R_below z28_ hb); replace HO_671001 := Aside0.mk (Kd.Q_below z29_ hb); replace HO_671002 := Aside0.mk (Kd.R_below z30_ hb); replace BK670 := Aside0.mk (blk_below (g := gb670) (o := .cells #[.slice Ao11 t658.length co11, .slice Ao13 t661.length co13, .slice Ao14 t664.length co14] 33 (0, 0)) z14_ hb); replace HB := Aside0.mk (below_step z6_ hb); (try clear hb)) | (go_at_call 18; (with_reducible refine (impl_Depths.calls kj7 _ _ t671 t686 _ ?side1 ?side2 A37.out).mono ?_); (case side1 => exact z51_); (case side2 => exact z184_); rintro e w43 ⟨v687, rfl, ho0, hb⟩; replace HO_3 := Aside0.mk (Kd.Q_below z38_ hb); replace HO_4 := Aside0.mk (Kd.R_below z39_ hb); replace HO_6 := Aside0.mk (Kd.Q_below z45_ hb); replace HO_7 := Aside0.mk (Kd.R_below z13_ hb); replace HO_8 := Aside0.mk (Kd.R_below z21_ hb); have HO688 := Aside0.mk (Kd.R_lower (Kd.R_new' (Kd.R_new' (Kd.R_new' ho0 (Kd.R_lt z28_)) (Kd.Q_lt z29_)) (Kd.R_lt z30_)) (below_size z6_)); replace HO_671000 := Aside0.mk (Kd.R_elder' z28_ (Kd.R_base ho0) hb); replace HO_671001 := Aside0.mk (Kd.Q_elder' z29_ (Kd.R_base ho0) hb); replace HO_671002 := Aside0.mk (Kd.R_elder' z30_ (Kd.R_base ho0) hb); replace BK670 := Aside0.mk (blk_below (g := gb670) (o := .cells #[.slice Ao11 t658.length co11, .slice Ao13 t661.length co13, .slice Ao14 t664.length co14] 33 (0, 0)) z14_ hb); replace HB := Aside0.mk (below_step z6_ hb); (try clear hb ho0)) | (go_at_call 18; (with_reducible refine (impl_Depths.calls kj7 _ _ t677 t689 _ ?side1 ?side2 A38.out).mono ?_); (case side1 => exact z139_); (case side2 => exact (Kd.R_reads' HO_8.out).2.1); rintro e w44 ⟨v690, rfl, ho0, hb⟩; replace HO_3 := Aside0.mk (Kd.Q_below z38_ hb); replace HO_4 := Aside0.mk (Kd.R_below z39_ hb); replace HO_6 := Aside0.mk (Kd.Q_below z45_ hb); replace HO_7 := Aside0.mk (Kd.R_below z13_ hb); replace HO_8 := Aside0.mk (Kd.R_below z21_ hb); have HO691 := Aside0.mk (Kd.R_lower (Kd.R_new' (Kd.R_new' (Kd.R_new' (Kd.R_new' ho0 (Kd.R_lt z28_)) (Kd.Q_lt z29_)) (Kd.R_lt z30_)) (Kd.R_lt z122_)) (below_size z6_)); replace HO_671000 := Aside0.mk (Kd.R_elder' z28_ (Kd.R_base ho0) hb); replace HO_671001 := Aside0.mk (Kd.Q_elder' z29_ (Kd.R_base ho0) hb); replace HO_671002 := Aside0.mk (Kd.R_elder' z30_ (Kd.R_base ho0) hb); replace HO688 := Aside0.mk (Kd.R_elder' z122_ (Kd.R_base ho0) hb); replace BK670 := Aside0.mk (blk_below (g := gb670) (o := .cells #[.slice Ao11 t658.length co11, .slice Ao13 t661.length co13, .slice Ao14 t664.length co14] 33 (0, 0)) z14_ hb); replace HB := Aside0.mk (below_step z6_ hb); (try clear hb ho0); obtain ⟨Ao45, co45, eo45⟩ := Kd.R_slice HO688.out; subst eo45; obtain ⟨Ao46, co46, eo46⟩ := Kd.R_slice HO691.out; subst eo46) | (go_at_call 17; (with_reducible refine (laws_sameInts.calls kj7 _ _ t686 _ _ t689 t692 _ ?side1 ?side2 ?side3 ?side4 A39.out).mono ?_); (case side1 => exact z134_); (case side2 => exact (Kd.R_reads' HO688.out).2.1); (case side3 => exact z135_); (case side4 => exact (Kd.R_reads' HO691.out).2.1); rintro e w' ⟨rfl, ⟨nd, rfl⟩⟩; (try first | exact ⟨rfl, _, World.drewN_drewN _ _ _⟩ | exact ⟨rfl, _, Eq.trans (World.drewN_drewN _ _ _) (congrArg (World.drewN _) (Nat.add_assoc _ _ _))⟩)))
         repeat (go_quiet (first | (go_at_call 16; (with_reducible refine (spec_TreeOk.calls kj7 _ _ t671 true _ ?side1 ?side2 A35.out).mono ?_); (case side1 => exact z51_); (case side2 => exact z184_); rintro e w42 ⟨rfl, hb⟩; replace HO_3 := Aside0.mk (Kd.Q_below z38_ hb); replace HO_4 := Aside0.mk (Kd.R_below z39_ hb); replace HO_6 := Aside0.mk (Kd.Q_below z45_ hb); replace HO_7 := Aside0.mk (Kd.R_below z13_ hb); replace HO_8 := Aside0.mk (Kd.R_below z21_ hb); replace HO_671000 := Aside0.mk (Kd.R_below z28_ hb); replace HO_671001 := Aside0.mk (Kd.Q_below z29_ hb); replace HO_671002 := Aside0.mk (Kd.R_below z30_ hb); replace BK670 := Aside0.mk (blk_below (g := gb670) (o := .cells #[.slice Ao11 t658.length co11, .slice Ao13 t661.length co13, .slice Ao14 t664.length co14] 33 (0, 0)) z14_ hb); replace HB := Aside0.mk (below_step z6_ hb); (try clear hb)) | (go_at_call 18; (with_reducible refine (impl_Depths.calls kj7 _ _ t671 t686 _ ?side1 ?side2 A37.out).mono ?_); (case side1 => exact z51_); (case side2 => exact z184_); rintro e w43 ⟨v687, rfl, ho0, hb⟩; replace HO_3 := Aside0.mk (Kd.Q_below z38_ hb); replace HO_4 := Aside0.mk (Kd.R_below z39_ hb); replace HO_6 := Aside0.mk (Kd.Q_below z45_ hb); replace HO_7 := Aside0.mk (Kd.R_below z13_ hb); replace HO_8 := Aside0.mk (Kd.R_below z21_ hb); have HO688 := Aside0.mk (Kd.R_lower (Kd.R_new' (Kd.R_new' (Kd.R_new' ho0 (Kd.R_lt z28_)) (Kd.Q_lt z29_)) (Kd.R_lt z30_)) (below_size z6_)); replace HO_671000 := Aside0.mk (Kd.R_elder' z28_ (Kd.R_base ho0) hb); replace HO_671001 := Aside0.mk (Kd.Q_elder' z29_ (Kd.R_base ho0) hb); replace HO_671002 := Aside0.mk (Kd.R_elder' z30_ (Kd.R_base ho0) hb); replace BK670 := Aside0.mk (blk_below (g := gb670) (o := .cells #[.slice Ao11 t658.length co11, .slice Ao13 t661.length co13, .slice Ao14 t664.length co14] 33 (0, 0)) z14_ hb); replace HB := Aside0.mk (below_step z6_ hb); (try clear hb ho0)) | (go_at_call 18; (with_reducible refine (impl_Depths.calls kj7 _ _ t677 t689 _ ?side1 ?side2 A38.out).mono ?_); (case side1 => exact z139_); (case side2 => exact (Kd.R_reads' HO_8.out).2.1); rintro e w44 ⟨v690, rfl, ho0, hb⟩; replace HO_3 := Aside0.mk (Kd.Q_below z38_ hb); replace HO_4 := Aside0.mk (Kd.R_below z39_ hb); replace HO_6 := Aside0.mk (Kd.Q_below z45_ hb); replace HO_7 := Aside0.mk (Kd.R_below z13_ hb); replace HO_8 := Aside0.mk (Kd.R_below z21_ hb); have HO691 := Aside0.mk (Kd.R_lower (Kd.R_new' (Kd.R_new' (Kd.R_new' (Kd.R_new' ho0 (Kd.R_lt z28_)) (Kd.Q_lt z29_)) (Kd.R_lt z30_)) (Kd.R_lt z122_)) (below_size z6_)); replace HO_671000 := Aside0.mk (Kd.R_elder' z28_ (Kd.R_base ho0) hb); replace HO_671001 := Aside0.mk (Kd.Q_elder' z29_ (Kd.R_base ho0) hb); replace HO_671002 := Aside0.mk (Kd.R_elder' z30_ (Kd.R_base ho0) hb); replace HO688 := Aside0.mk (Kd.R_elder' z122_ (Kd.R_base ho0) hb); replace BK670 := Aside0.mk (blk_below (g := gb670) (o := .cells #[.slice Ao11 t658.length co11, .slice Ao13 t661.length co13, .slice Ao14 t664.length co14] 33 (0, 0)) z14_ hb); replace HB := Aside0.mk (below_step z6_ hb); (try clear hb ho0); obtain ⟨Ao45, co45, eo45⟩ := Kd.R_slice HO688.out; subst eo45; obtain ⟨Ao46, co46, eo46⟩ := Kd.R_slice HO691.out; subst eo46) | (go_at_call 17; (with_reducible refine (laws_sameInts.calls kj7 _ _ t686 _ _ t689 t692 _ ?side1 ?side2 ?side3 ?side4 A39.out).mono ?_); (case side1 => exact z134_); (case side2 => exact (Kd.R_reads' HO688.out).2.1); (case side3 => exact z135_); (case side4 => exact (Kd.R_reads' HO691.out).2.1); rintro e w' ⟨rfl, ⟨nd, rfl⟩⟩; (try first | exact ⟨rfl, _, World.drewN_drewN _ _ _⟩ | exact ⟨rfl, _, Eq.trans (World.drewN_drewN _ _ _) (congrArg (World.drewN _) (Nat.add_assoc _ _ _))⟩))); try go_wp2_with (first | (go_at_call 16; (with_reducible refine (spec_TreeOk.calls kj7 _ _ t671 true _ ?side1 ?side2 A35.out).mono ?_); (case side1 => exact z51_); (case side2 => exact z184_); rintro e w42 ⟨rfl, hb⟩; replace HO_3 := Aside0.mk (Kd.Q_below z38_ hb); replace HO_4 := Aside0.mk (Kd.R_below z39_ hb); replace HO_6 := Aside0.mk (Kd.Q_below z45_ hb); replace HO_7 := Aside0.mk (Kd.R_below z13_ hb); replace HO_8 := Aside0.mk (Kd.R_below z21_ hb); replace HO_671000 := Aside0.mk (Kd.R_below z28_ hb); replace HO_671001 := Aside0.mk (Kd.Q_below z29_ hb); replace HO_671002 := Aside0.mk (Kd.R_below z30_ hb); replace BK670 := Aside0.mk (blk_below (g := gb670) (o := .cells #[.slice Ao11 t658.length co11, .slice Ao13 t661.length co13, .slice Ao14 t664.length co14] 33 (0, 0)) z14_ hb); replace HB := Aside0.mk (below_step z6_ hb); (try clear hb)) | (go_at_call 18; (with_reducible refine (impl_Depths.calls kj7 _ _ t671 t686 _ ?side1 ?side2 A37.out).mono ?_); (case side1 => exact z51_); (case side2 => exact z184_); rintro e w43 ⟨v687, rfl, ho0, hb⟩; replace HO_3 := Aside0.mk (Kd.Q_below z38_ hb); replace HO_4 := Aside0.mk (Kd.R_below z39_ hb); replace HO_6 := Aside0.mk (Kd.Q_below z45_ hb); replace HO_7 := Aside0.mk (Kd.R_below z13_ hb); replace HO_8 := Aside0.mk (Kd.R_below z21_ hb); have HO688 := Aside0.mk (Kd.R_lower (Kd.R_new' (Kd.R_new' (Kd.R_new' ho0 (Kd.R_lt z28_)) (Kd.Q_lt z29_)) (Kd.R_lt z30_)) (below_size z6_)); replace HO_671000 := Aside0.mk (Kd.R_elder' z28_ (Kd.R_base ho0) hb); replace HO_671001 := Aside0.mk (Kd.Q_elder' z29_ (Kd.R_base ho0) hb); replace HO_671002 := Aside0.mk (Kd.R_elder' z30_ (Kd.R_base ho0) hb); replace BK670 := Aside0.mk (blk_below (g := gb670) (o := .cells #[.slice Ao11 t658.length co11, .slice Ao13 t661.length co13, .slice Ao14 t664.length co14] 33 (0, 0)) z14_ hb); replace HB := Aside0.mk (below_step z6_ hb); (try clear hb ho0)) | (go_at_call 18; (with_reducible refine (impl_Depths.calls kj7 _ _ t677 t689 _ ?side1 ?side2 A38.out).mono ?_); (case side1 => exact z139_); (case side2 => exact (Kd.R_reads' HO_8.out).2.1); rintro e w44 ⟨v690, rfl, ho0, hb⟩; replace HO_3 := Aside0.mk (Kd.Q_below z38_ hb); replace HO_4 := Aside0.mk (Kd.R_below z39_ hb); replace HO_6 := Aside0.mk (Kd.Q_below z45_ hb); replace HO_7 := Aside0.mk (Kd.R_below z13_ hb); replace HO_8 := Aside0.mk (Kd.R_below z21_ hb); have HO691 := Aside0.mk (Kd.R_lower (Kd.R_new' (Kd.R_new' (Kd.R_new' (Kd.R_new' ho0 (Kd.R_lt z28_)) (Kd.Q_lt z29_)) (Kd.R_lt z30_)) (Kd.R_lt z122_)) (below_size z6_)); replace HO_671000 := Aside0.mk (Kd.R_elder' z28_ (Kd.R_base ho0) hb); replace HO_671001 := Aside0.mk (Kd.Q_elder' z29_ (Kd.R_base ho0) hb); replace HO_671002 := Aside0.mk (Kd.R_elder' z30_ (Kd.R_base ho0) hb); replace HO688 := Aside0.mk (Kd.R_elder' z122_ (Kd.R_base ho0) hb); replace BK670 := Aside0.mk (blk_below (g := gb670) (o := .cells #[.slice Ao11 t658.length co11, .slice Ao13 t661.length co13, .slice Ao14 t664.length co14] 33 (0, 0)) z14_ hb); replace HB := Aside0.mk (below_step z6_ hb); (try clear hb ho0); obtain ⟨Ao45, co45, eo45⟩ := Kd.R_slice HO688.out; subst eo45; obtain ⟨Ao46, co46, eo46⟩ := Kd.R_slice HO691.out; subst eo46) | (go_at_call 17; (with_reducible refine (laws_sameInts.calls kj7 _ _ t686 _ _ t689 t692 _ ?side1 ?side2 ?side3 ?side4 A39.out).mono ?_); (case side1 => exact z134_); (case side2 => exact (Kd.R_reads' HO688.out).2.1); (case side3 => exact z135_); (case side4 => exact (Kd.R_reads' HO691.out).2.1); rintro e w' ⟨rfl, ⟨nd, rfl⟩⟩; (try first | exact ⟨rfl, _, World.drewN_drewN _ _ _⟩ | exact ⟨rfl, _, Eq.trans (World.drewN_drewN _ _ _) (congrArg (World.drewN _) (Nat.add_assoc _ _ _))⟩))))
         go_meet
         case rel => exact ⟨_, (!t692), z9_, H', ⟨z206_⟩, ⟨z38_⟩, ⟨z39_⟩, ⟨z45_⟩, ⟨z13_⟩, ⟨z21_⟩, ⟨by (with_reducible repeat (first | apply Kd.R_alloc | apply Kd.R_drewN | apply Kd.R_drew)); exact Kd.R_mono HO_671000.out (fun _ hk => ⟨hk.1.1.1, hk.1.1.2⟩)⟩, ⟨by (with_reducible repeat (first | apply Kd.Q_alloc | apply Kd.Q_drewN | apply Kd.Q_drew)); exact Kd.Q_mono HO_671001.out (fun _ hk => ⟨hk.1.1.1, hk.1.1.2⟩)⟩, ⟨by (with_reducible repeat (first | apply Kd.R_alloc | apply Kd.R_drewN | apply Kd.R_drew)); exact Kd.R_mono HO_671002.out (fun _ hk => ⟨hk.1.1.1, hk.1.1.2⟩)⟩, ⟨z14_⟩, ⟨z6_⟩⟩
        ·replace c36 := Bool.eq_false_iff.mpr c36
         subst c36
         replace H := iff_ H
         have H' := Aside0.mk H
         clear H
         obtain ⟨Ao47, co47, eo47⟩ := Kd.R_slice HO_7.out
         subst eo47
         obtain ⟨Ao48, co48, eo48⟩ := Kd.R_slice HO_8.out
         subst eo48
         go_wp2_with (first | (go_at_call 16; (with_reducible refine (spec_TreeOk.calls kj7 _ _ t671 false _ ?side1 ?side2 A35.out).mono ?_); (case side1 => exact z51_); (case side2 => exact z184_); rintro e w49 ⟨rfl, hb⟩; replace HO_3 := Aside0.mk (Kd.Q_below z38_ hb); replace HO_4 := Aside0.mk (Kd.R_below z39_ hb); replace HO_6 := Aside0.mk (Kd.Q_below z45_ hb); replace HO_7 := Aside0.mk (Kd.R_below z13_ hb); replace HO_8 := Aside0.mk (Kd.R_below z21_ hb); replace HO_671000 := Aside0.mk (Kd.R_below z28_ hb); replace HO_671001 := Aside0.mk (Kd.Q_below z29_ hb); replace HO_671002 := Aside0.mk (Kd.R_below z30_ hb); replace BK670 := Aside0.mk (blk_below (g := gb670) (o := .cells #[.slice Ao11 t658.length co11, .slice Ao13 t661.length co13, .slice Ao14 t664.length co14] 33 (0, 0)) z14_ hb); replace HB := Aside0.mk (below_step z6_ hb); (try clear hb)))
         repeat (go_quiet (first | (go_at_call 16; (with_reducible refine (spec_TreeOk.calls kj7 _ _ t671 false _ ?side1 ?side2 A35.out).mono ?_); (case side1 => exact z51_); (case side2 => exact z184_); rintro e w49 ⟨rfl, hb⟩; replace HO_3 := Aside0.mk (Kd.Q_below z38_ hb); replace HO_4 := Aside0.mk (Kd.R_below z39_ hb); replace HO_6 := Aside0.mk (Kd.Q_below z45_ hb); replace HO_7 := Aside0.mk (Kd.R_below z13_ hb); replace HO_8 := Aside0.mk (Kd.R_below z21_ hb); replace HO_671000 := Aside0.mk (Kd.R_below z28_ hb); replace HO_671001 := Aside0.mk (Kd.Q_below z29_ hb); replace HO_671002 := Aside0.mk (Kd.R_below z30_ hb); replace BK670 := Aside0.mk (blk_below (g := gb670) (o := .cells #[.slice Ao11 t658.length co11, .slice Ao13 t661.length co13, .slice Ao14 t664.length co14] 33 (0, 0)) z14_ hb); replace HB := Aside0.mk (below_step z6_ hb); (try clear hb))); try go_wp2_with (first | (go_at_call 16; (with_reducible refine (spec_TreeOk.calls kj7 _ _ t671 false _ ?side1 ?side2 A35.out).mono ?_); (case side1 => exact z51_); (case side2 => exact z184_); rintro e w49 ⟨rfl, hb⟩; replace HO_3 := Aside0.mk (Kd.Q_below z38_ hb); replace HO_4 := Aside0.mk (Kd.R_below z39_ hb); replace HO_6 := Aside0.mk (Kd.Q_below z45_ hb); replace HO_7 := Aside0.mk (Kd.R_below z13_ hb); replace HO_8 := Aside0.mk (Kd.R_below z21_ hb); replace HO_671000 := Aside0.mk (Kd.R_below z28_ hb); replace HO_671001 := Aside0.mk (Kd.Q_below z29_ hb); replace HO_671002 := Aside0.mk (Kd.R_below z30_ hb); replace BK670 := Aside0.mk (blk_below (g := gb670) (o := .cells #[.slice Ao11 t658.length co11, .slice Ao13 t661.length co13, .slice Ao14 t664.length co14] 33 (0, 0)) z14_ hb); replace HB := Aside0.mk (below_step z6_ hb); (try clear hb))))
         go_meet
         case rel => exact ⟨_, (true), z9_, H', ⟨z206_⟩, ⟨z38_⟩, ⟨z39_⟩, ⟨z45_⟩, ⟨z13_⟩, ⟨z21_⟩, ⟨z28_⟩, ⟨z29_⟩, ⟨z30_⟩, ⟨z14_⟩, ⟨z6_⟩⟩
       ·rw [if_neg c34] at H
        have c34b0 : ((t677.length : Int) == (t667.length : Int)) = false := beq_eq_false_iff_ne.mpr c34
        have c34b1 : ((t677.length : Int) != (t667.length : Int)) = true := bne_iff_ne.mpr c34
        have c34b2 : (t677.length == t667.length) = false := by first | simpa using c34 | (simp at c34 ⊢; omega)
        have H' := Aside0.mk H
        clear H
        obtain ⟨Ao50, co50, eo50⟩ := Kd.R_slice HO_7.out
        subst eo50
        obtain ⟨Ao51, co51, eo51⟩ := Kd.R_slice HO_8.out
        subst eo51
        go_wp2
        repeat (go_quiet (fail); try go_wp2)
        go_meet
        case rel => exact ⟨_, (true), z9_, H', ⟨z206_⟩, ⟨z38_⟩, ⟨z39_⟩, ⟨z45_⟩, ⟨z13_⟩, ⟨z21_⟩, ⟨z28_⟩, ⟨z29_⟩, ⟨z30_⟩, ⟨z14_⟩, ⟨z6_⟩⟩
      ·rw [if_neg c33] at H
       have c33b0 : ((t671.length : Int) == (t667.length : Int)) = false := beq_eq_false_iff_ne.mpr c33
       have c33b1 : ((t671.length : Int) != (t667.length : Int)) = true := bne_iff_ne.mpr c33
       have c33b2 : (t671.length == t667.length) = false := by first | simpa using c33 | (simp at c33 ⊢; omega)
       (first | rw [c33b0] | rw [c33b1] | (simp only [i64_w, i32_w]; rw [c33b0]) | skip)
       have H' := Aside0.mk H
       clear H
       obtain ⟨Ao52, co52, eo52⟩ := Kd.R_slice HO_7.out
       subst eo52
       go_wp2
       repeat (go_quiet (fail); try go_wp2)
       go_meet
       case rel => exact ⟨_, (true), z9_, H', ⟨z206_⟩, ⟨z38_⟩, ⟨z39_⟩, ⟨z45_⟩, ⟨z13_⟩, ⟨z21_⟩, ⟨z28_⟩, ⟨z29_⟩, ⟨z30_⟩, ⟨z14_⟩, ⟨z6_⟩⟩
     case rest =>
      clear HC32
      try clear c2
      try clear p2
      try clear c3
      try clear c4
      try clear c23
      try clear c27
      try clear c33
      try clear c33b0
      try clear c33b1
      try clear c33b2
      try clear c34
      try clear c34b0
      try clear c34b1
      try clear c34b2
      try clear c36
      try clear hcz12_0
      try clear hcz12_1
      try clear hcz12_2
      try clear hfz12_0
      try clear hfz12_1
      try clear hfz12_2
      try clear p2
      obtain ⟨kq, x67_31, rfl, HA, HJ31, HO_3, HO_4, HO_6, HO_7, HO_8, HO_671000, HO_671001, HO_671002, BK670, HB⟩ := hcut
      cases kq with
      | zero => exact absurd HA.out (by simp [laws_FnKept.j1])
      | succ kj31 =>
       have H := HA.out
       clear HA
       simp only [laws_FnKept.j1] at H
       by_cases c53 : x67_31 = true
       ·subst c53
        replace H := ift_ H
        obtain rfl := Option.some.inj H
        go_wp2
        repeat (go_quiet (fail); try go_wp2)
        go_ret
        exact ⟨z7_, z6_⟩
       ·replace c53 := Bool.eq_false_iff.mpr c53
        subst c53
        replace H := iff_ H
        have H' := Aside0.mk H
        clear H
        go_wp2
        repeat (go_quiet (fail); try go_wp2)
        go_loopg [9] kj31 (fun kq v9 w' => ∃ (x9_3 : Int), v9 = .int .i64 x9_3 ∧ Aside0 (laws_FnKept.l0 kq t652 t655 t667 t671 t677 x9_3 = some r) ∧ Aside0 (kq ≤ kj31) ∧ Aside0 (Kd.Q k45 45 w' w.heap.size (fun k_ => some k_ ≠ ((.slice Ao19 t655.length co19) : Value).ownBlock ∧ some k_ ≠ (v672 : Value).ownBlock ∧ some k_ ≠ (v678 : Value).ownBlock) (.slice Ao15 t652.length co15) t652) ∧ Aside0 (Kd.R k45 45 w' w.heap.size (fun k_ => some k_ ≠ ((.slice Ao15 t652.length co15) : Value).ownBlock ∧ some k_ ≠ (v672 : Value).ownBlock ∧ some k_ ≠ (v678 : Value).ownBlock) (.slice Ao19 t655.length co19) t655) ∧ Aside0 (Kd.Q k47 47 w' w.heap.size (fun _ => True) (.slice Ao16 t667.length co16) t667) ∧ Aside0 (Kd.R k45 45 w' w.heap.size (fun k_ => some k_ ≠ ((.slice Ao15 t652.length co15) : Value).ownBlock ∧ some k_ ≠ ((.slice Ao19 t655.length co19) : Value).ownBlock ∧ some k_ ≠ (v678 : Value).ownBlock) v672 t671) ∧ Aside0 (Kd.R k45 45 w' w.heap.size (fun k_ => some k_ ≠ ((.slice Ao15 t652.length co15) : Value).ownBlock ∧ some k_ ≠ ((.slice Ao19 t655.length co19) : Value).ownBlock ∧ some k_ ≠ (v672 : Value).ownBlock) v678 t677) ∧ Aside0 (Kd.R (Kd.int .i64) 3 w' w.heap.size (fun k_ => some k_ ≠ ((.slice Ao13 t661.length co13) : Value).ownBlock ∧ some k_ ≠ ((.slice Ao14 t664.length co14) : Value).ownBlock) (.slice Ao11 t658.length co11) t658) ∧ Aside0 (Kd.Q (Kd.int .i64) 3 w' w.heap.size (fun k_ => some k_ ≠ ((.slice Ao11 t658.length co11) : Value).ownBlock ∧ some k_ ≠ ((.slice Ao14 t664.length co14) : Value).ownBlock) (.slice Ao13 t661.length co13) t661) ∧ Aside0 (Kd.R (Kd.int .i64) 3 w' w.heap.size (fun k_ => some k_ ≠ ((.slice Ao11 t658.length co11) : Value).ownBlock ∧ some k_ ≠ ((.slice Ao13 t661.length co13) : Value).ownBlock) (.slice Ao14 t664.length co14) t664) ∧ Aside0 (w'.heap[gb670]? = some (.cells #[(.slice Ao11 t658.length co11), (.slice Ao13 t661.length co13), (.slice Ao14 t664.length co14)] 33 (0, 0))) ∧ Aside0 (Below w.heap.size w w'))
        case atStart => exact ⟨(0), z9_, H', ⟨Nat.le_refl _⟩, ⟨z38_⟩, ⟨z39_⟩, ⟨z45_⟩, ⟨z13_⟩, ⟨z21_⟩, ⟨z28_⟩, ⟨z29_⟩, ⟨z30_⟩, ⟨z14_⟩, ⟨z6_⟩⟩
        case round =>
         clear H'
         try clear c2
         try clear p2
         try clear c3
         try clear c4
         try clear c5
         try clear c23
         try clear c27
         try clear c33
         try clear c33b0
         try clear c33b1
         try clear c33b2
         try clear c34
         try clear c34b0
         try clear c34b1
         try clear c34b2
         try clear c36
         try clear c53
         try clear hcz12_0
         try clear hcz12_1
         try clear hcz12_2
         try clear hfz12_0
         try clear hfz12_1
         try clear hfz12_2
         try clear p2
         obtain ⟨x9_3, rfl, HA, HK3, HO_3, HO_4, HO_6, HO_7, HO_8, HO_671000, HO_671001, HO_671002, BK670, HB⟩ := hrel
         cases gk with
         | zero => exact absurd HA.out (by simp [laws_FnKept.l0])
         | succ k3 =>
          have H := HA.out
          clear HA
          simp only [laws_FnKept.l0] at H
          by_cases c54 : x9_3 < (t667.length : Int)
          ·rw [if_pos c54] at H
           have c54b0 := decide_eq_true c54
           clear c54
           obtain ⟨c55b0, H⟩ := ifd_ H
           obtain ⟨c56b0, H⟩ := ifd_ H
           obtain ⟨c57b0, H⟩ := ifd_ H
           obtain ⟨c58b0, H⟩ := ifd_ H
           by_cases c59 : ((rd_T45 t671 x9_3).f0) = ((rd_T45 t652 ((rd_T47 t667 x9_3).f0)).f0)
           ·rw [if_pos c59] at H
            have c59b0 : (((rd_T45 t671 x9_3).f0) == ((rd_T45 t652 ((rd_T47 t667 x9_3).f0)).f0)) = true := beq_iff_eq.mpr c59
            have c59b1 : (((rd_T45 t671 x9_3).f0) != ((rd_T45 t652 ((rd_T47 t667 x9_3).f0)).f0)) = false := bne_eq_false_iff_eq.mpr c59
            clear c59
            obtain ⟨c60b0, H⟩ := ifd_ H
            obtain ⟨c61b0, H⟩ := ifd_ H
            obtain ⟨c62b0, H⟩ := ifd_ H
            by_cases c63 : ((rd_T45 t677 x9_3).f0) = ((rd_T45 t655 ((rd_T47 t667 x9_3).f1)).f0)
            ·rw [if_pos c63] at H
             have c63b0 : (((rd_T45 t677 x9_3).f0) == ((rd_T45 t655 ((rd_T47 t667 x9_3).f1)).f0)) = true := beq_iff_eq.mpr c63
             have c63b1 : (((rd_T45 t677 x9_3).f0) != ((rd_T45 t655 ((rd_T47 t667 x9_3).f1)).f0)) = false := bne_eq_false_iff_eq.mpr c63
             clear c63
             have H' := Aside0.mk H
             clear H
             obtain ⟨Ao64, co64, eo64⟩ := Kd.R_slice HO_7.out
             subst eo64
             have p693 : 0 ≤ (x9_3 : Int) := odt_
             have q693 : x9_3 < (t671.length : Int) := odt_
             obtain ⟨ad693, e693, hx693_0, hx693_1⟩ := at_T45 (Kd.R_reads' HO_7.out).2.2 x9_3 p693 q693
             cases e693
             replace p693 := eq_true p693
             replace q693 := eq_true q693
             have p694 : 0 ≤ (x9_3 : Int) := odt_
             have q694 : x9_3 < (t667.length : Int) := odt_
             obtain ⟨ad694, e694, hx694_0, hx694_1⟩ := at_T47 (Kd.Q_reads' HO_6.out).2.2 x9_3 p694 q694
             cases e694
             replace p694 := eq_true p694
             replace q694 := eq_true q694
             have p695 : 0 ≤ (((rd_T47 t667 x9_3).f0) : Int) := odt_
             have q695 : ((rd_T47 t667 x9_3).f0) < (t652.length : Int) := odt_
             obtain ⟨ad695, e695, hx695_0, hx695_1⟩ := at_T45 (Kd.Q_reads' HO_3.out).2.2 ((rd_T47 t667 x9_3).f0) p695 q695
             cases e695
             replace p695 := eq_true p695
             replace q695 := eq_true q695
             obtain ⟨Ao65, co65, eo65⟩ := Kd.R_slice HO_8.out
             subst eo65
             have p696 : 0 ≤ (x9_3 : Int) := odt_
             have q696 : x9_3 < (t677.length : Int) := odt_
             obtain ⟨ad696, e696, hx696_0, hx696_1⟩ := at_T45 (Kd.R_reads' HO_8.out).2.2 x9_3 p696 q696
             cases e696
             replace p696 := eq_true p696
             replace q696 := eq_true q696
             have p697 : 0 ≤ (x9_3 : Int) := odt_
             have q697 : x9_3 < (t667.length : Int) := odt_
             obtain ⟨ad697, e697, hx697_0, hx697_1⟩ := at_T47 (Kd.Q_reads' HO_6.out).2.2 x9_3 p697 q697
             obtain rfl : ad694 = ad697 := (by injection e697)
             replace p697 := eq_true p697
             replace q697 := eq_true q697
             have p698 : 0 ≤ (((rd_T47 t667 x9_3).f1) : Int) := odt_
             have q698 : ((rd_T47 t667 x9_3).f1) < (t655.length : Int) := odt_
             obtain ⟨ad698, e698, hx698_0, hx698_1⟩ := at_T45 (Kd.R_reads' HO_4.out).2.2 ((rd_T47 t667 x9_3).f1) p698 q698
             cases e698
             replace p698 := eq_true p698
             replace q698 := eq_true q698
             go_wp2
             repeat (go_quiet (fail); try go_wp2)
             go_roundg k3
             case measure => have := HJ7.out; have := HJ31.out; have := HK3.out; omega
             case rel => exact ⟨(wrap64 (x9_3 + 1)), z9_, H', ⟨by have := HJ7.out; have := HJ31.out; have := HK3.out; omega⟩, ⟨z38_⟩, ⟨z39_⟩, ⟨z45_⟩, ⟨z13_⟩, ⟨z21_⟩, ⟨z28_⟩, ⟨z29_⟩, ⟨z30_⟩, ⟨z14_⟩, ⟨z6_⟩⟩
            ·rw [if_neg c63] at H
             have c63b0 : (((rd_T45 t677 x9_3).f0) == ((rd_T45 t655 ((rd_T47 t667 x9_3).f1)).f0)) = false := beq_eq_false_iff_ne.mpr c63
             have c63b1 : (((rd_T45 t677 x9_3).f0) != ((rd_T45 t655 ((rd_T47 t667 x9_3).f1)).f0)) = true := bne_iff_ne.mpr c63
             obtain rfl := Option.some.inj H
             obtain ⟨Ao66, co66, eo66⟩ := Kd.R_slice HO_7.out
             subst eo66
             have p693 : 0 ≤ (x9_3 : Int) := odt_
             have q693 : x9_3 < (t671.length : Int) := odt_
             obtain ⟨ad693, e693, hx693_0, hx693_1⟩ := at_T45 (Kd.R_reads' HO_7.out).2.2 x9_3 p693 q693
             cases e693
             replace p693 := eq_true p693
             replace q693 := eq_true q693
             have p694 : 0 ≤ (x9_3 : Int) := odt_
             have q694 : x9_3 < (t667.length : Int) := odt_
             obtain ⟨ad694, e694, hx694_0, hx694_1⟩ := at_T47 (Kd.Q_reads' HO_6.out).2.2 x9_3 p694 q694
             cases e694
             replace p694 := eq_true p694
             replace q694 := eq_true q694
             have p695 : 0 ≤ (((rd_T47 t667 x9_3).f0) : Int) := odt_
             have q695 : ((rd_T47 t667 x9_3).f0) < (t652.length : Int) := odt_
             obtain ⟨ad695, e695, hx695_0, hx695_1⟩ := at_T45 (Kd.Q_reads' HO_3.out).2.2 ((rd_T47 t667 x9_3).f0) p695 q695
             cases e695
             replace p695 := eq_true p695
             replace q695 := eq_true q695
             obtain ⟨Ao67, co67, eo67⟩ := Kd.R_slice HO_8.out
             subst eo67
             have p696 : 0 ≤ (x9_3 : Int) := odt_
             have q696 : x9_3 < (t677.length : Int) := odt_
             obtain ⟨ad696, e696, hx696_0, hx696_1⟩ := at_T45 (Kd.R_reads' HO_8.out).2.2 x9_3 p696 q696
             cases e696
             replace p696 := eq_true p696
             replace q696 := eq_true q696
             have p697 : 0 ≤ (x9_3 : Int) := odt_
             have q697 : x9_3 < (t667.length : Int) := odt_
             obtain ⟨ad697, e697, hx697_0, hx697_1⟩ := at_T47 (Kd.Q_reads' HO_6.out).2.2 x9_3 p697 q697
             obtain rfl : ad694 = ad697 := (by injection e697)
             replace p697 := eq_true p697
             replace q697 := eq_true q697
             have p698 : 0 ≤ (((rd_T47 t667 x9_3).f1) : Int) := odt_
             have q698 : ((rd_T47 t667 x9_3).f1) < (t655.length : Int) := odt_
             obtain ⟨ad698, e698, hx698_0, hx698_1⟩ := at_T45 (Kd.R_reads' HO_4.out).2.2 ((rd_T47 t667 x9_3).f1) p698 q698
             cases e698
             replace p698 := eq_true p698
             replace q698 := eq_true q698
             go_wp2
             repeat (go_quiet (fail); try go_wp2)
             go_ret
             exact ⟨z7_, z6_⟩
           ·rw [if_neg c59] at H
            have c59b0 : (((rd_T45 t671 x9_3).f0) == ((rd_T45 t652 ((rd_T47 t667 x9_3).f0)).f0)) = false := beq_eq_false_iff_ne.mpr c59
            have c59b1 : (((rd_T45 t671 x9_3).f0) != ((rd_T45 t652 ((rd_T47 t667 x9_3).f0)).f0)) = true := bne_iff_ne.mpr c59
            obtain rfl := Option.some.inj H
            obtain ⟨Ao68, co68, eo68⟩ := Kd.R_slice HO_7.out
            subst eo68
            have p693 : 0 ≤ (x9_3 : Int) := odt_
            have q693 : x9_3 < (t671.length : Int) := odt_
            obtain ⟨ad693, e693, hx693_0, hx693_1⟩ := at_T45 (Kd.R_reads' HO_7.out).2.2 x9_3 p693 q693
            cases e693
            replace p693 := eq_true p693
            replace q693 := eq_true q693
            have p694 : 0 ≤ (x9_3 : Int) := odt_
            have q694 : x9_3 < (t667.length : Int) := odt_
            obtain ⟨ad694, e694, hx694_0, hx694_1⟩ := at_T47 (Kd.Q_reads' HO_6.out).2.2 x9_3 p694 q694
            cases e694
            replace p694 := eq_true p694
            replace q694 := eq_true q694
            have p695 : 0 ≤ (((rd_T47 t667 x9_3).f0) : Int) := odt_
            have q695 : ((rd_T47 t667 x9_3).f0) < (t652.length : Int) := odt_
            obtain ⟨ad695, e695, hx695_0, hx695_1⟩ := at_T45 (Kd.Q_reads' HO_3.out).2.2 ((rd_T47 t667 x9_3).f0) p695 q695
            cases e695
            replace p695 := eq_true p695
            replace q695 := eq_true q695
            go_wp2
            repeat (go_quiet (fail); try go_wp2)
            go_ret
            exact ⟨z7_, z6_⟩
          ·rw [if_neg c54] at H
           have c54b0 := decide_eq_false c54
           clear c54
           obtain rfl := Option.some.inj H
           go_wp2
           repeat (go_quiet (fail); try go_wp2)
           go_ret
           exact ⟨z7_, z6_⟩

/-- THE ONE PURE STATEMENT of laws_FnKept: yours. -/
def laws_FnKept.Pure : Prop := ∀ (l0 : List Int), l0.length ≤ maxLen → l0.length * 1 ≤ 140737488351232 → (∀ x ∈ l0, (Lit.int .u8 x).wf = true) → ∃ k, laws_FnKept.f k l0 = some true
theorem laws_FnKept.walk (P : laws_FnKept.Pure) (a0 : Option Addr) (len0 cap0 : Nat) (z0 : List Int) (w : World) (w0 : (a0 = none ∧ len0 = 0 ∧ cap0 = 0 ∧ z0 = []) ∨ ∃ x, a0 = some x ∧ len0 ≤ cap0 ∧ cap0 ≤ maxLen ∧ z0.length = cap0 ∧ (∀ i, i < z0.length → w.cell? (x.add i) = some (.int .u8 (z0.getD i 0))) ∧ ∀ n ∈ z0, (Lit.int .u8 n).wf = true) (y0 : len0 * 1 ≤ 140737488351232) :
  Calls Try.prog 4 #[.slice a0 len0 cap0] w fun e w' => e = .returned (.bool true) ∧ Below w.heap.size w w' := by
 obtain ⟨l0, rfl, hr0, hm0, hw0, hc0⟩ := ReadsInt.ofRowC w0
 obtain ⟨k, h⟩ := P l0 hm0 y0 hw0
 refine (laws_FnKept.calls k _ _ l0 true w (Kd.C_of_reads (d := (0 : Int)) (h1 := fun _ => rfl) hr0) hc0 h).mono ?_
 rintro e w' ⟨rfl, hd⟩
 exact ⟨rfl, hd⟩

end Go.Proofs.Ytbiffnahknkoiaa.PFnKept
