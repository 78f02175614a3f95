/- Laid by a program of this session out of the kit's print for the law FnPaths: what it says of the machine is proved here, function by function; each contract under the conditions that it names. -/
import Derived.Test.YtmbhlfcpdbbogabMFnPathsx0
import Derived.Test.YtmbhlfcpdbbogabMFnPathsx2
import Derived.Test.YtmbhlfcpdbbogabMFnPathsx3
import Derived.Test.YtmbhlfcpdbbogabMFnPathsx5
namespace Go.Proofs.Ytmbhlfcpdbbogab.PFnPaths
open Go.RowKit Go.Proofs.YtmbhlfcpdbbogabW.PrintWords Go.Proofs.YtmbhlfcpdbbogabW.PrintLast Go.Proofs.YtmbhlfcpdbbogabW.PrintMore
attribute [local go_sem] max2_int min2_int max_two min_two max_three min_three max_four min_four   -- for this text's walks alone
set_option linter.unusedVariables false
set_option linter.unusedSimpArgs false

/-! ### spec_l3Any: function 85 -/
mutual
def spec_l3Any.l0 : Nat → List (S55) → List Int → Int → Int → Option ((List (S55)) × Int × Int)
 | 0, _, _, _, _ => none
 | k + 1, x5, x1000, x1001, x1002 => (spec_l1Below.f x1000 x1001 x1002 2).bind fun bt270 => (if (x5.length : Int) < (wrap64 (24 + bt270.1)) then (if x5.length < 8796093022208 then (spec_l3Any.l0 k (x5 ++ [(⟨1, 1⟩ : S55)]) x1000 bt270.2.1 bt270.2.2) else (none)) else (some (x5, bt270.2.1, bt270.2.2)))
def spec_l3Any.l1 : Nat → List (S55) → List Int → Int → Int → Option ((List (S55)) × Int × Int)
 | 0, _, _, _, _ => none
 | k + 1, x5, x1000, x1001, x1002 => (spec_l1Below.f x1000 x1001 x1002 2).bind fun bt279 => (if (x5.length : Int) < (wrap64 (13 + bt279.1)) then (if x5.length < 8796093022208 then (spec_l3Any.l1 k (x5 ++ [(⟨0, (x5.length : Int)⟩ : S55)]) x1000 bt279.2.1 bt279.2.2) else (none)) else (some (x5, bt279.2.1, bt279.2.2)))
end
def spec_l3Any.f (k : Nat) (s0_0 : List Int) (s0_1 : Int) (s0_2 : Int) (a1 : Int) : Option ((List (S55)) × Int × Int) := (spec_l3Tree.f k s0_0 s0_1 s0_2 a1).bind fun bt244 => ((spec_l1Below.f s0_0 bt244.2.1 bt244.2.2 (bt244.1.length : Int)).bind fun bt249 => ((spec_l1Below.f s0_0 bt249.2.1 bt249.2.2 18).bind fun bt252 => (if bt252.1 = 0 then ((spec_l2Any.f s0_0 bt252.2.1 bt252.2.2).bind fun bt255 => (if 0 ≤ bt249.1 then (if bt249.1 < (bt244.1.length : Int) then (some ((bt244.1.set (bt249.1 : Int).toNat (⟨bt255.1, (rd_T55 bt244.1 bt249.1).f1⟩ : S55)), bt255.2.1, bt255.2.2)) else (none)) else (none))) else (if bt252.1 = 1 then (if 0 ≤ bt249.1 then (if bt249.1 < (bt244.1.length : Int) then ((spec_l1PickInt.f s0_0 bt252.2.1 bt252.2.2 (([(-1), 0, 1, 13, wrap64 (((rd_T55 bt244.1 bt249.1).f1) + 1)] : List Int))).bind fun bt263 => (some ((bt244.1.set (bt249.1 : Int).toNat (⟨(rd_T55 bt244.1 bt249.1).f0, bt263.1⟩ : S55)), bt263.2.1, bt263.2.2))) else (none)) else (none)) else (if bt252.1 = 2 then (if 1 ≤ (bt244.1.length : Int) then (some ((bt244.1.drop (1 : Int).toNat), bt252.2.1, bt252.2.2)) else (none)) else (if bt252.1 = 3 then (spec_l3Any.l0 k bt244.1 s0_0 bt252.2.1 bt252.2.2) else (if bt252.1 = 4 then (spec_l3Any.l1 k (([(⟨0, 0⟩ : S55)] : List (S55))) s0_0 bt252.2.1 bt252.2.2) else (some (bt244.1, bt252.2.1, bt252.2.2)))))))))
theorem spec_l3Any.mono_l : ∀ k, (∀ y0 y1 y2 y3, LeO (spec_l3Any.l0 k y0 y1 y2 y3) (spec_l3Any.l0 (k + 1) y0 y1 y2 y3)) ∧ (∀ y0 y1 y2 y3, LeO (spec_l3Any.l1 k y0 y1 y2 y3) (spec_l3Any.l1 (k + 1) y0 y1 y2 y3))
 | 0 => ⟨fun _ _ _ _ r h => by simp [spec_l3Any.l0] at h, fun _ _ _ _ r h => by simp [spec_l3Any.l1] at h⟩
 | k + 1 => by
  obtain ⟨ih0, ih1⟩ := spec_l3Any.mono_l k
  refine ⟨?_, ?_⟩
  ·intro y0 y1 y2 y3
   unfold spec_l3Any.l0
   repeat' first | (with_reducible first | exact ih0 _ _ _ _ | exact ih1 _ _ _ _ | exact spec_l3Tree.mono _ _ _ _ _ | exact LeO.refl _ | exact LeO.none _ | refine LeO.ite ?_ ?_ | refine LeO.bind ?_ (fun _ => ?_)) | exact ih0 _ _ _ _ | exact ih1 _ _ _ _ | exact spec_l3Tree.mono _ _ _ _ _ | exact LeO.none _ | refine LeO.ite ?_ ?_ | refine LeO.bind ?_ (fun _ => ?_)
  ·intro y0 y1 y2 y3
   unfold spec_l3Any.l1
   repeat' first | (with_reducible first | exact ih0 _ _ _ _ | exact ih1 _ _ _ _ | exact spec_l3Tree.mono _ _ _ _ _ | exact LeO.refl _ | exact LeO.none _ | refine LeO.ite ?_ ?_ | refine LeO.bind ?_ (fun _ => ?_)) | exact ih0 _ _ _ _ | exact ih1 _ _ _ _ | exact spec_l3Tree.mono _ _ _ _ _ | exact LeO.none _ | refine LeO.ite ?_ ?_ | refine LeO.bind ?_ (fun _ => ?_)
theorem spec_l3Any.mono : ∀ a0 a1 a2 a3 k, LeO (spec_l3Any.f k a0 a1 a2 a3) (spec_l3Any.f (k + 1) a0 a1 a2 a3) := by
 intro a0 a1 a2 a3 k
 obtain ⟨ih0, ih1⟩ := spec_l3Any.mono_l k
 unfold spec_l3Any.f
 repeat' first | (with_reducible first | exact ih0 _ _ _ _ | exact ih1 _ _ _ _ | exact spec_l3Tree.mono _ _ _ _ _ | exact LeO.refl _ | exact LeO.none _ | refine LeO.ite ?_ ?_ | refine LeO.bind ?_ (fun _ => ?_)) | exact ih0 _ _ _ _ | exact ih1 _ _ _ _ | exact spec_l3Tree.mono _ _ _ _ _ | exact LeO.none _ | refine LeO.ite ?_ ?_ | refine LeO.bind ?_ (fun _ => ?_)
set_option maxHeartbeats 8000000 in
set_option maxRecDepth 100000 in
theorem spec_l3Any.calls (k : Nat) (g : Nat) (s0_0 : List Int) (s0_1 : Int) (s0_2 : Int) (a1 : Int) (r1 : List (S55)) (r2 : Int) (r3 : Int) (w0 w : World) (hI : IsS136 w0 w g s0_0 s0_1 s0_2) (hB : Below w0.heap.size w0 w) (h : spec_l3Any.f k s0_0 s0_1 s0_2 a1 = some (r1, r2, r3)) :
  Calls Try.prog 85 #[.pointer (some ⟨g, 0, none⟩), .int .i64 a1] w fun e w' => ∃ v0_ : Value, e = .returned (v0_) ∧ Kd.Q k55 55 w' w.heap.size (fun _ => True) v0_ r1 ∧ IsS136 w0 w' g s0_0 r2 r3 ∧ Below w0.heap.size w0 w' ∧ KeepBut w w' g none := by
 have hu55 := Try.underlying55
 have HI0 := Aside0.mk hI
 have HK := Aside0.mk (KeepBut.refl w g none)
 have HL := Aside0.mk hB.size
 clear hI
 have HW0 := Aside0.mk hB.size
 have HB := Aside0.mk hB
 clear hB
 have H : ((spec_l3Tree.f k s0_0 s0_1 s0_2 a1).bind fun bt244 => ((spec_l1Below.f s0_0 bt244.2.1 bt244.2.2 (bt244.1.length : Int)).bind fun bt249 => ((spec_l1Below.f s0_0 bt249.2.1 bt249.2.2 18).bind fun bt252 => (if bt252.1 = 0 then ((spec_l2Any.f s0_0 bt252.2.1 bt252.2.2).bind fun bt255 => (if 0 ≤ bt249.1 then (if bt249.1 < (bt244.1.length : Int) then (some ((bt244.1.set (bt249.1 : Int).toNat (⟨bt255.1, (rd_T55 bt244.1 bt249.1).f1⟩ : S55)), bt255.2.1, bt255.2.2)) else (none)) else (none))) else (if bt252.1 = 1 then (if 0 ≤ bt249.1 then (if bt249.1 < (bt244.1.length : Int) then ((spec_l1PickInt.f s0_0 bt252.2.1 bt252.2.2 (([(-1), 0, 1, 13, wrap64 (((rd_T55 bt244.1 bt249.1).f1) + 1)] : List Int))).bind fun bt263 => (some ((bt244.1.set (bt249.1 : Int).toNat (⟨(rd_T55 bt244.1 bt249.1).f0, bt263.1⟩ : S55)), bt263.2.1, bt263.2.2))) else (none)) else (none)) else (if bt252.1 = 2 then (if 1 ≤ (bt244.1.length : Int) then (some ((bt244.1.drop (1 : Int).toNat), bt252.2.1, bt252.2.2)) else (none)) else (if bt252.1 = 3 then (spec_l3Any.l0 k bt244.1 s0_0 bt252.2.1 bt252.2.2) else (if bt252.1 = 4 then (spec_l3Any.l1 k (([(⟨0, 0⟩ : S55)] : List (S55))) s0_0 bt252.2.1 bt252.2.2) else (some (bt244.1, bt252.2.1, bt252.2.2)))))))))) = some (r1, r2, r3) := h
 clear h
 replace H := Option.bind_eq_some_iff.mp H
 obtain ⟨⟨t244, t247, t248⟩, A30, H⟩ := H
 replace H : ((spec_l1Below.f s0_0 t247 t248 (t244.length : Int)).bind fun bt249 => ((spec_l1Below.f s0_0 bt249.2.1 bt249.2.2 18).bind fun bt252 => (if bt252.1 = 0 then ((spec_l2Any.f s0_0 bt252.2.1 bt252.2.2).bind fun bt255 => (if 0 ≤ bt249.1 then (if bt249.1 < (t244.length : Int) then (some ((t244.set (bt249.1 : Int).toNat (⟨bt255.1, (rd_T55 t244 bt249.1).f1⟩ : S55)), bt255.2.1, bt255.2.2)) else (none)) else (none))) else (if bt252.1 = 1 then (if 0 ≤ bt249.1 then (if bt249.1 < (t244.length : Int) then ((spec_l1PickInt.f s0_0 bt252.2.1 bt252.2.2 (([(-1), 0, 1, 13, wrap64 (((rd_T55 t244 bt249.1).f1) + 1)] : List Int))).bind fun bt263 => (some ((t244.set (bt249.1 : Int).toNat (⟨(rd_T55 t244 bt249.1).f0, bt263.1⟩ : S55)), bt263.2.1, bt263.2.2))) else (none)) else (none)) else (if bt252.1 = 2 then (if 1 ≤ (t244.length : Int) then (some ((t244.drop (1 : Int).toNat), bt252.2.1, bt252.2.2)) else (none)) else (if bt252.1 = 3 then (spec_l3Any.l0 k t244 s0_0 bt252.2.1 bt252.2.2) else (if bt252.1 = 4 then (spec_l3Any.l1 k (([(⟨0, 0⟩ : S55)] : List (S55))) s0_0 bt252.2.1 bt252.2.2) else (some (t244, bt252.2.1, bt252.2.2))))))))) = some (r1, r2, r3) := H
 have A3 := Aside0.mk A30
 clear A30
 replace H := Option.bind_eq_some_iff.mp H
 obtain ⟨⟨t249, t250, t251⟩, A40, H⟩ := H
 replace H : ((spec_l1Below.f s0_0 t250 t251 18).bind fun bt252 => (if bt252.1 = 0 then ((spec_l2Any.f s0_0 bt252.2.1 bt252.2.2).bind fun bt255 => (if 0 ≤ t249 then (if t249 < (t244.length : Int) then (some ((t244.set (t249 : Int).toNat (⟨bt255.1, (rd_T55 t244 t249).f1⟩ : S55)), bt255.2.1, bt255.2.2)) else (none)) else (none))) else (if bt252.1 = 1 then (if 0 ≤ t249 then (if t249 < (t244.length : Int) then ((spec_l1PickInt.f s0_0 bt252.2.1 bt252.2.2 (([(-1), 0, 1, 13, wrap64 (((rd_T55 t244 t249).f1) + 1)] : List Int))).bind fun bt263 => (some ((t244.set (t249 : Int).toNat (⟨(rd_T55 t244 t249).f0, bt263.1⟩ : S55)), bt263.2.1, bt263.2.2))) else (none)) else (none)) else (if bt252.1 = 2 then (if 1 ≤ (t244.length : Int) then (some ((t244.drop (1 : Int).toNat), bt252.2.1, bt252.2.2)) else (none)) else (if bt252.1 = 3 then (spec_l3Any.l0 k t244 s0_0 bt252.2.1 bt252.2.2) else (if bt252.1 = 4 then (spec_l3Any.l1 k (([(⟨0, 0⟩ : S55)] : List (S55))) s0_0 bt252.2.1 bt252.2.2) else (some (t244, bt252.2.1, bt252.2.2)))))))) = some (r1, r2, r3) := H
 have A4 := Aside0.mk A40
 clear A40
 replace H := Option.bind_eq_some_iff.mp H
 obtain ⟨⟨t252, t253, t254⟩, A50, H⟩ := H
 replace H : (if t252 = 0 then ((spec_l2Any.f s0_0 t253 t254).bind fun bt255 => (if 0 ≤ t249 then (if t249 < (t244.length : Int) then (some ((t244.set (t249 : Int).toNat (⟨bt255.1, (rd_T55 t244 t249).f1⟩ : S55)), bt255.2.1, bt255.2.2)) else (none)) else (none))) else (if t252 = 1 then (if 0 ≤ t249 then (if t249 < (t244.length : Int) then ((spec_l1PickInt.f s0_0 t253 t254 (([(-1), 0, 1, 13, wrap64 (((rd_T55 t244 t249).f1) + 1)] : List Int))).bind fun bt263 => (some ((t244.set (t249 : Int).toNat (⟨(rd_T55 t244 t249).f0, bt263.1⟩ : S55)), bt263.2.1, bt263.2.2))) else (none)) else (none)) else (if t252 = 2 then (if 1 ≤ (t244.length : Int) then (some ((t244.drop (1 : Int).toNat), t253, t254)) else (none)) else (if t252 = 3 then (spec_l3Any.l0 k t244 s0_0 t253 t254) else (if t252 = 4 then (spec_l3Any.l1 k (([(⟨0, 0⟩ : S55)] : List (S55))) s0_0 t253 t254) else (some (t244, t253, t254))))))) = some (r1, r2, r3) := H
 have A5 := Aside0.mk A50
 clear A50
 by_cases c6 : t252 = 0
 ·rw [if_pos c6] at H
  have c6b0 : (t252 == 0) = true := beq_iff_eq.mpr c6
  have c6b1 : (t252 != 0) = false := bne_eq_false_iff_eq.mpr c6
  clear c6
  replace H := Option.bind_eq_some_iff.mp H
  obtain ⟨⟨t255, t256, t257⟩, A70, H⟩ := H
  replace H : (if 0 ≤ t249 then (if t249 < (t244.length : Int) then (some ((t244.set (t249 : Int).toNat (⟨t255, (rd_T55 t244 t249).f1⟩ : S55)), t256, t257)) else (none)) else (none)) = some (r1, r2, r3) := H
  have A7 := Aside0.mk A70
  clear A70
  obtain ⟨c8b0, H⟩ := ifd_ H
  obtain ⟨c9b0, H⟩ := ifd_ H
  obtain ⟨y258, hy258⟩ : ∃ y_ : List (S55), y_ = (t244.set (t249 : Int).toNat (⟨t255, (rd_T55 t244 t249).f1⟩ : S55)) := ⟨_, rfl⟩
  replace H : (some (y258, t256, t257)) = some (r1, r2, r3) := by first | (rw [hy258]; with_reducible exact H) | (have H2_ := (Option.bind_some _ _).symm.trans H; rw [hy258]; with_reducible exact H2_) | (have H2_ := (Option.bind_some _ _).symm.trans H; with_reducible exact H2_) | with_reducible exact H | (rw [hy258]; exact H) | exact H
  have Ny258 := Aside0.mk hy258
  clear hy258
  simp only [Option.some.injEq, Prod.mk.injEq] at H
  obtain ⟨rfl, rfl, rfl⟩ := H
  go_enter Try.func85, Try.ntmps85
  go_wp2_with (first | ((with_reducible refine gate_callee (f := 114) rfl ?_); refine goesL_ (some 9) rfl rfl Try.func114 (by kernel_rfl) rfl #[.pointer (some ⟨g, 0, none⟩), .int .i64 a1] rfl z1_ ?_; (with_reducible refine (spec_l3Tree.calls k g s0_0 s0_1 s0_2 a1 t244 t247 t248 w0 _ ?side1 ?side2 A3.out).mono ?_); (case side1 => exact z3_); (case side2 => exact z4_); rintro e w11 ⟨v245, rfl, ho0, hi, hb, hk⟩; refine ⟨_, rfl, ?_⟩; have HO246 := Aside0.mk (Kd.R_lower ho0 (keep_size (w := w) (g := g) (row := none) z2_)); replace HK := Aside0.mk (KeepBut.trans z2_ hk (.inl rfl)); replace HB := Aside0.mk (hb); replace HI0 := Aside0.mk (hi); (try clear hb hk hi ho0); obtain ⟨Ao12, co12, eo12⟩ := Kd.R_slice HO246.out; subst eo12) | ((with_reducible refine gate_callee (f := 81) rfl ?_); refine goesL_ (some 13) rfl rfl Try.func81 (by kernel_rfl) rfl #[.pointer (some ⟨g, 0, none⟩), .int .i64 (t244.length : Int)] rfl z1_ ?_; (with_reducible refine (spec_l1Below.calls g s0_0 t247 t248 (t244.length : Int) t249 t250 t251 w0 _ ?side1 ?side2 A4.out).mono ?_); (case side1 => exact z3_); (case side2 => exact z4_); rintro e w13 ⟨rfl, hi, hb, hk⟩; refine ⟨_, rfl, ?_⟩; replace HO246 := Aside0.mk (Kd.R_mono (Kd.R_keep (IsS136.apart (show IsS136 w0 _ g s0_0 t247 t248 from by repeat (first | (with_reducible first | exact HI0.out | apply IsS136.alloc | apply IsS136.drewN | apply IsS136.drew | apply IsS136.set_1 | apply IsS136.set_2) | exact HI0.out)) z28_ (by decide)) hk (fun _ h => h.2)) (fun _ h => h.1)); replace HK := Aside0.mk (KeepBut.trans z2_ hk (.inl rfl)); replace HB := Aside0.mk (hb); replace HI0 := Aside0.mk (hi); (try clear hb hk hi)) | ((with_reducible refine gate_callee (f := 81) rfl ?_); refine goesL_ (some 15) rfl rfl Try.func81 (by kernel_rfl) rfl #[.pointer (some ⟨g, 0, none⟩), .int .i64 18] rfl z1_ ?_; (with_reducible refine (spec_l1Below.calls g s0_0 t250 t251 18 t252 t253 t254 w0 _ ?side1 ?side2 A5.out).mono ?_); (case side1 => exact z3_); (case side2 => exact z4_); rintro e w14 ⟨rfl, hi, hb, hk⟩; refine ⟨_, rfl, ?_⟩; replace HO246 := Aside0.mk (Kd.R_mono (Kd.R_keep (IsS136.apart (show IsS136 w0 _ g s0_0 t250 t251 from by repeat (first | (with_reducible first | exact HI0.out | apply IsS136.alloc | apply IsS136.drewN | apply IsS136.drew | apply IsS136.set_1 | apply IsS136.set_2) | exact HI0.out)) z28_ (by decide)) hk (fun _ h => h.2)) (fun _ h => h.1)); replace HK := Aside0.mk (KeepBut.trans z2_ hk (.inl rfl)); replace HB := Aside0.mk (hb); replace HI0 := Aside0.mk (hi); (try clear hb hk hi)) | ((with_reducible refine gate_callee (f := 115) rfl ?_); refine goesL_ (some 21) rfl rfl Try.func115 (by kernel_rfl) rfl #[.pointer (some ⟨g, 0, none⟩)] rfl z1_ ?_; (with_reducible refine (spec_l2Any.calls g s0_0 t253 t254 t255 t256 t257 w0 _ ?side1 ?side2 A7.out).mono ?_); (case side1 => exact z3_); (case side2 => exact z4_); rintro e w15 ⟨rfl, hi, hb, hk⟩; refine ⟨_, rfl, ?_⟩; replace HO246 := Aside0.mk (Kd.R_mono (Kd.R_keep (IsS136.apart (show IsS136 w0 _ g s0_0 t253 t254 from by repeat (first | (with_reducible first | exact HI0.out | apply IsS136.alloc | apply IsS136.drewN | apply IsS136.drew | apply IsS136.set_1 | apply IsS136.set_2) | exact HI0.out)) z28_ (by decide)) hk (fun _ h => h.2)) (fun _ h => h.1)); replace HK := Aside0.mk (KeepBut.trans z2_ hk (.inl rfl)); replace HB := Aside0.mk (hb); replace HI0 := Aside0.mk (hi); (try clear hb hk hi); have p10 : 0 ≤ (t249 : Int) := odt_; have q10 : (t249 : Int) < ((t244.length : Int) : Int) := odt_; obtain ⟨go10, co10, eo10, gb10, gl10, cl10, HG10⟩ := Kd.R_form HO246.out (by omega); (first | cases eo10 | (injection eo10 with ea_ en_ ec_; (first | subst ea_ | (injection ea_ with ea_; subst ea_)); subst ec_; clear en_)); have GB10 := Aside0.mk gb10; have GG10 := Aside0.mk HG10; clear gb10 gl10 HG10; obtain ⟨ce10, hcl10, hM10, hcc10, hfr10⟩ := Kd.R_elem HO246.out z55 (t249 : Int) p10 q10; obtain rfl := k55_openM hM10; have hx10_0 : w15.cell? ⟨go10, (t249 : Int).toNat * 2, none⟩ = some (.int .i64 ((rd_T55 t244 t249).f0)) := hcc10 0 _ rfl; have hx10_1 : w15.cell? ⟨go10, (t249 : Int).toNat * 2 + 1, none⟩ = some (.int .i64 ((rd_T55 t244 t249).f1)) := hcc10 1 _ rfl; have hf10_0 : w15.frozen? ⟨go10, (t249 : Int).toNat * 2, none⟩ = false := hfr10 0; have hf10_1 : w15.frozen? ⟨go10, (t249 : Int).toNat * 2 + 1, none⟩ = false := hfr10 1; clear hcl10 hcc10 hfr10 hM10; replace p10 := eq_true p10; replace q10 := eq_true q10; have HX16 := Aside0.mk (show Kd.R k55 55 w15 w.heap.size (fun _ => True) (.slice (some ⟨go10, 0, none⟩) t244.length co12) t244 from z28_); obtain ⟨ce16, hcl16, hM16, hcc16, hfr16⟩ := Kd.R_elem HX16.out z55 (t249 : Int) (odt_) (by have h_ : (t249 : Int) < ((t244.length : Int) : Int) := odt_; first | exact h_ | (have e_ := (Kd.R_reads' HO246.out).1; omega) | simpa using h_); obtain rfl := k55_openM hM16; have HP16 := Kd.R_seg HX16.out (t249 : Int) (odt_) (by have h_ : (t249 : Int) < ((t244.length : Int) : Int) := odt_; first | exact h_ | (have e_ := (Kd.R_reads' HO246.out).1; omega) | simpa using h_) (seg := [.int .i64 t255]) (j := 0) hcl16 hcc16 (show 1 ≤ 2 from by decide) (x' := (⟨t255, (rd_T55 t244 t249).f1⟩ : S55)) (k55_mkM _ _ _ (⟨t255, (rd_T55 t244 t249).f1⟩ : S55) ) (fun _ hk => hk); have hx16_0 := hcc16 0 _ rfl; (try simp only [show (k55).sz = 2 from rfl, Nat.mul_one, Nat.add_zero] at hx16_0); have hf16_0 := hfr16 0; (try simp only [show (k55).sz = 2 from rfl, Nat.mul_one, Nat.add_zero] at hf16_0); clear hcl16 hcc16 hfr16 hM16) | ((with_reducible refine gate_store (t := 3) (p := 23) rfl ?_); refine store_event (t := 3) (p := 23) (v := ?vo_w17) (w1 := (w15.setCell ⟨go10, (t249 : Int).toNat * 2, none⟩ (.int .i64 t255))) ?hg ?ho ?hn ?hr ?_; (case ho => rfl); (case hg => rfl); (case hn => rfl); (case hr => exact z35_); intro w17 hw; have hg : w15.grownBy w17 (some go10) := (by rw [hw]; exact HP16.2); have hp_ : Kd.R k55 55 w17 w.heap.size (fun _ => True) (.slice (some ⟨go10, 0, none⟩) t244.length co12) y258 := (by rw [hw, Ny258.out]; exact HP16.1); clear HP16; replace HI0 := Aside0.mk (IsS136.grown z3_ hg (IsS136.own_ne HI0.out HO246.out (by decide))); replace HB := Aside0.mk ((by rw [hw]; exact below_set (HB.out) (Nat.le_trans HL.out GB10.out) : Below w0.heap.size w0 w17)); replace HK := Aside0.mk (KeepBut.trans z2_ (KeepBut.of_grown hg g) (Kd.R_base2 HO246.out)); replace HO246 := Aside0.mk (hp_); clear hg hw hp_))
  go_ret
  exact ⟨_, z9_, Kd.Q_of_R z28_, z3_, z4_, z2_⟩
 ·rw [if_neg c6] at H
  have c6b0 : (t252 == 0) = false := beq_eq_false_iff_ne.mpr c6
  have c6b1 : (t252 != 0) = true := bne_iff_ne.mpr c6
  by_cases c18 : t252 = 1
  ·rw [if_pos c18] at H
   have c18b0 : (t252 == 1) = true := beq_iff_eq.mpr c18
   have c18b1 : (t252 != 1) = false := bne_eq_false_iff_eq.mpr c18
   clear c18
   obtain ⟨c19b0, H⟩ := ifd_ H
   obtain ⟨c20b0, H⟩ := ifd_ H
   obtain ⟨y260, hy260⟩ : ∃ y_ : List Int, y_ = (([(-1), 0, 1, 13, wrap64 (((rd_T55 t244 t249).f1) + 1)] : List Int)) := ⟨_, rfl⟩
   replace H : ((spec_l1PickInt.f s0_0 t253 t254 y260).bind fun bt263 => (some ((t244.set (t249 : Int).toNat (⟨(rd_T55 t244 t249).f0, bt263.1⟩ : S55)), bt263.2.1, bt263.2.2))) = some (r1, r2, r3) := by first | (rw [hy260]; with_reducible exact H) | (have H2_ := (Option.bind_some _ _).symm.trans H; rw [hy260]; with_reducible exact H2_) | (have H2_ := (Option.bind_some _ _).symm.trans H; with_reducible exact H2_) | with_reducible exact H | (rw [hy260]; exact H) | exact H
   have Ny260 := Aside0.mk hy260
   clear hy260
   replace H := Option.bind_eq_some_iff.mp H
   obtain ⟨⟨t263, t264, t265⟩, A210, H⟩ := H
   replace H : (some ((t244.set (t249 : Int).toNat (⟨(rd_T55 t244 t249).f0, t263⟩ : S55)), t264, t265)) = some (r1, r2, r3) := H
   have A21 := Aside0.mk A210
   clear A210
   obtain ⟨y266, hy266⟩ : ∃ y_ : List (S55), y_ = (t244.set (t249 : Int).toNat (⟨(rd_T55 t244 t249).f0, t263⟩ : S55)) := ⟨_, rfl⟩
   replace H : (some (y266, t264, t265)) = some (r1, r2, r3) := by first | (rw [hy266]; with_reducible exact H) | (have H2_ := (Option.bind_some _ _).symm.trans H; rw [hy266]; with_reducible exact H2_) | (have H2_ := (Option.bind_some _ _).symm.trans H; with_reducible exact H2_) | with_reducible exact H | (rw [hy266]; exact H) | exact H
   have Ny266 := Aside0.mk hy266
   clear hy266
   simp only [Option.some.injEq, Prod.mk.injEq] at H
   obtain ⟨rfl, rfl, rfl⟩ := H
   go_enter Try.func85, Try.ntmps85
   go_wp2_with (first | ((with_reducible refine gate_callee (f := 114) rfl ?_); refine goesL_ (some 9) rfl rfl Try.func114 (by kernel_rfl) rfl #[.pointer (some ⟨g, 0, none⟩), .int .i64 a1] rfl z1_ ?_; (with_reducible refine (spec_l3Tree.calls k g s0_0 s0_1 s0_2 a1 t244 t247 t248 w0 _ ?side1 ?side2 A3.out).mono ?_); (case side1 => exact z3_); (case side2 => exact z4_); rintro e w23 ⟨v245, rfl, ho0, hi, hb, hk⟩; refine ⟨_, rfl, ?_⟩; have HO246 := Aside0.mk (Kd.R_lower ho0 (keep_size (w := w) (g := g) (row := none) z2_)); replace HK := Aside0.mk (KeepBut.trans z2_ hk (.inl rfl)); replace HB := Aside0.mk (hb); replace HI0 := Aside0.mk (hi); (try clear hb hk hi ho0); obtain ⟨Ao24, co24, eo24⟩ := Kd.R_slice HO246.out; subst eo24) | ((with_reducible refine gate_callee (f := 81) rfl ?_); refine goesL_ (some 13) rfl rfl Try.func81 (by kernel_rfl) rfl #[.pointer (some ⟨g, 0, none⟩), .int .i64 (t244.length : Int)] rfl z1_ ?_; (with_reducible refine (spec_l1Below.calls g s0_0 t247 t248 (t244.length : Int) t249 t250 t251 w0 _ ?side1 ?side2 A4.out).mono ?_); (case side1 => exact z3_); (case side2 => exact z4_); rintro e w25 ⟨rfl, hi, hb, hk⟩; refine ⟨_, rfl, ?_⟩; replace HO246 := Aside0.mk (Kd.R_mono (Kd.R_keep (IsS136.apart (show IsS136 w0 _ g s0_0 t247 t248 from by repeat (first | (with_reducible first | exact HI0.out | apply IsS136.alloc | apply IsS136.drewN | apply IsS136.drew | apply IsS136.set_1 | apply IsS136.set_2) | exact HI0.out)) z28_ (by decide)) hk (fun _ h => h.2)) (fun _ h => h.1)); replace HK := Aside0.mk (KeepBut.trans z2_ hk (.inl rfl)); replace HB := Aside0.mk (hb); replace HI0 := Aside0.mk (hi); (try clear hb hk hi)) | ((with_reducible refine gate_callee (f := 81) rfl ?_); refine goesL_ (some 15) rfl rfl Try.func81 (by kernel_rfl) rfl #[.pointer (some ⟨g, 0, none⟩), .int .i64 18] rfl z1_ ?_; (with_reducible refine (spec_l1Below.calls g s0_0 t250 t251 18 t252 t253 t254 w0 _ ?side1 ?side2 A5.out).mono ?_); (case side1 => exact z3_); (case side2 => exact z4_); rintro e w26 ⟨rfl, hi, hb, hk⟩; refine ⟨_, rfl, ?_⟩; replace HO246 := Aside0.mk (Kd.R_mono (Kd.R_keep (IsS136.apart (show IsS136 w0 _ g s0_0 t250 t251 from by repeat (first | (with_reducible first | exact HI0.out | apply IsS136.alloc | apply IsS136.drewN | apply IsS136.drew | apply IsS136.set_1 | apply IsS136.set_2) | exact HI0.out)) z28_ (by decide)) hk (fun _ h => h.2)) (fun _ h => h.1)); replace HK := Aside0.mk (KeepBut.trans z2_ hk (.inl rfl)); replace HB := Aside0.mk (hb); replace HI0 := Aside0.mk (hi); (try clear hb hk hi); have p259 : 0 ≤ (t249 : Int) := odt_; have q259 : t249 < (t244.length : Int) := odt_; obtain ⟨ad259, e259, hx259_0, hx259_1⟩ := at_T55 (Kd.R_reads' HO246.out).2.2 t249 p259 q259; cases e259; replace p259 := eq_true p259; replace q259 := eq_true q259) | ((with_reducible refine gate_dst (N := 35) rfl ?_); refine Kd.R_lit (Kd.int .i64) _ 3 ?hg (N := 35) ?hd (xs := ([(-1), 0, 1, 13, wrap64 (((rd_T55 t244 t249).f1) + 1)] : List Int)) (inner := [.int .i64 (-1), .int .i64 0, .int .i64 1, .int .i64 13, .int .i64 (wrap64 (((rd_T55 t244 t249).f1) + 1))]) (ok := fun _ => True) (okp := fun _ => True) ?hr ?hp (fun _ hk => hk) trivial (Below.refl _ _) (Nat.le_refl _) (by simp) ?_; (case hd => rfl); (case hg => rfl); (case hr => exact z35_); (case hp => exact (Reps.one (show Kd.M (Kd.int .i64) _ _ _ (-1) [.int .i64 (-1)] from rfl) (Reps.one (show Kd.M (Kd.int .i64) _ _ _ 0 [.int .i64 0] from rfl) (Reps.one (show Kd.M (Kd.int .i64) _ _ _ 1 [.int .i64 1] from rfl) (Reps.one (show Kd.M (Kd.int .i64) _ _ _ 13 [.int .i64 13] from rfl) (Reps.one (show Kd.M (Kd.int .i64) _ _ _ (wrap64 (((rd_T55 t244 t249).f1) + 1)) [.int .i64 (wrap64 (((rd_T55 t244 t249).f1) + 1))] from rfl) (Reps.none _ _))))))); intro v261 w27 ho28 hb hg_ hnew_; clear hg_ hnew_; (first | rw [← Ny260.out] at ho28 | (simp only [Int.reduceToNat] at ho28; rw [← Ny260.out] at ho28)); replace HO246 := Aside0.mk (Kd.R_below z28_ hb); have HO262 := Aside0.mk (Kd.R_lower ho28 (keep_size (w := w) (g := g) (row := none) z2_)); replace HK := Aside0.mk (KeepBut.trans z2_ (KeepBut.of_below hb g none) (.inl rfl)); replace HB := Aside0.mk (below_step z4_ hb); replace HI0 := Aside0.mk (IsS136.below z3_ hb); clear hb ho28; obtain ⟨Ao29, co29, eo29⟩ := Kd.R_slice HO262.out; subst eo29) | ((with_reducible refine gate_callee (f := 111) rfl ?_); refine goesL_ (some 36) rfl rfl Try.func111 (by kernel_rfl) rfl #[.pointer (some ⟨g, 0, none⟩), .slice Ao29 y260.length co29] rfl z1_ ?_; (with_reducible refine (spec_l1PickInt.calls g s0_0 t253 t254 _ _ y260 t263 t264 t265 w0 _ ?side1 ?side2 ?side3 ?side4 ?side5 A21.out).mono ?_); (case side1 => exact z3_); (case side2 => exact z4_); (case side3 => repeat (first | exact (Kd.R_reads' HO262.out).2.2 | (with_reducible refine Kd.C_alloc ?_ _) | (with_reducible refine Kd.C_drewN ?_ _) | (with_reducible refine Kd.C_drew ?_))); (case side4 => exact (Kd.R_reads' HO262.out).2.1); (case side5 => exact far_slice (IsS136.own_ne HI0.out HO262.out (by decide))); rintro e w30 ⟨rfl, hi, hb, hk⟩; refine ⟨_, rfl, ?_⟩; replace HO246 := Aside0.mk (Kd.R_mono (Kd.R_keep (IsS136.apart (show IsS136 w0 _ g s0_0 t253 t254 from by repeat (first | (with_reducible first | exact HI0.out | apply IsS136.alloc | apply IsS136.drewN | apply IsS136.drew | apply IsS136.set_1 | apply IsS136.set_2) | exact HI0.out)) z28_ (by decide)) hk (fun _ h => h.2)) (fun _ h => h.1)); replace HO262 := Aside0.mk (Kd.R_mono (Kd.R_keep (IsS136.apart (show IsS136 w0 _ g s0_0 t253 t254 from by repeat (first | (with_reducible first | exact HI0.out | apply IsS136.alloc | apply IsS136.drewN | apply IsS136.drew | apply IsS136.set_1 | apply IsS136.set_2) | exact HI0.out)) z139_ (by decide)) hk (fun _ h => h.2)) (fun _ h => h.1)); replace HK := Aside0.mk (KeepBut.trans z2_ hk (.inl rfl)); replace HB := Aside0.mk (hb); replace HI0 := Aside0.mk (hi); (try clear hb hk hi); have p22 : 0 ≤ (t249 : Int) := odt_; have q22 : (t249 : Int) < ((t244.length : Int) : Int) := odt_; obtain ⟨go22, co22, eo22, gb22, gl22, cl22, HG22⟩ := Kd.R_form HO246.out (by omega); (first | cases eo22 | (injection eo22 with ea_ en_ ec_; (first | subst ea_ | (injection ea_ with ea_; subst ea_)); subst ec_; clear en_)); have GB22 := Aside0.mk gb22; have GG22 := Aside0.mk HG22; clear gb22 gl22 HG22; (first | simp only [add_plain] at hx259_0 | skip); (first | simp only [add_plain] at hx259_1 | skip); obtain ⟨ce22, hcl22, hM22, hcc22, hfr22⟩ := Kd.R_elem HO246.out z55 (t249 : Int) p22 q22; obtain rfl := k55_openM hM22; have hx22_0 : w30.cell? ⟨go22, (t249 : Int).toNat * 2, none⟩ = some (.int .i64 ((rd_T55 t244 t249).f0)) := hcc22 0 _ rfl; have hx22_1 : w30.cell? ⟨go22, (t249 : Int).toNat * 2 + 1, none⟩ = some (.int .i64 ((rd_T55 t244 t249).f1)) := hcc22 1 _ rfl; have hf22_0 : w30.frozen? ⟨go22, (t249 : Int).toNat * 2, none⟩ = false := hfr22 0; have hf22_1 : w30.frozen? ⟨go22, (t249 : Int).toNat * 2 + 1, none⟩ = false := hfr22 1; clear hcl22 hcc22 hfr22 hM22; replace p22 := eq_true p22; replace q22 := eq_true q22; have HX31 := Aside0.mk (show Kd.R k55 55 w30 w.heap.size (fun _ => True) (.slice (some ⟨go22, 0, none⟩) t244.length co24) t244 from z28_); obtain ⟨ce31, hcl31, hM31, hcc31, hfr31⟩ := Kd.R_elem HX31.out z55 (t249 : Int) (odt_) (by have h_ : (t249 : Int) < ((t244.length : Int) : Int) := odt_; first | exact h_ | (have e_ := (Kd.R_reads' HO246.out).1; omega) | simpa using h_); obtain rfl := k55_openM hM31; have HP31 := Kd.R_seg HX31.out (t249 : Int) (odt_) (by have h_ : (t249 : Int) < ((t244.length : Int) : Int) := odt_; first | exact h_ | (have e_ := (Kd.R_reads' HO246.out).1; omega) | simpa using h_) (seg := [.int .i64 t263]) (j := 1) hcl31 hcc31 (show 2 ≤ 2 from by decide) (x' := (⟨(rd_T55 t244 t249).f0, t263⟩ : S55)) (k55_mkM _ _ _ (⟨(rd_T55 t244 t249).f0, t263⟩ : S55) ) (fun _ hk => hk); have hx31_1 := hcc31 1 _ rfl; (try simp only [show (k55).sz = 2 from rfl, Nat.mul_one, Nat.add_zero] at hx31_1); have hf31_1 := hfr31 1; (try simp only [show (k55).sz = 2 from rfl, Nat.mul_one, Nat.add_zero] at hf31_1); clear hcl31 hcc31 hfr31 hM31) | ((with_reducible refine gate_store (t := 3) (p := 38) rfl ?_); refine store_event (t := 3) (p := 38) (v := ?vo_w32) (w1 := (w30.setCell ⟨go22, (t249 : Int).toNat * 2 + 1, none⟩ (.int .i64 t263))) ?hg ?ho ?hn ?hr ?_; (case ho => rfl); (case hg => rfl); (case hn => rfl); (case hr => exact z35_); intro w32 hw; have hg : w30.grownBy w32 (some go22) := (by rw [hw]; exact HP31.2); have hp_ : Kd.R k55 55 w32 w.heap.size (fun _ => True) (.slice (some ⟨go22, 0, none⟩) t244.length co24) y266 := (by rw [hw, Ny266.out]; exact HP31.1); clear HP31; replace HI0 := Aside0.mk (IsS136.grown z3_ hg (IsS136.own_ne HI0.out HO246.out (by decide))); replace HO262 := Aside0.mk (Kd.R_over' (v := (.slice (some ⟨go22, 0, none⟩) t244.length co24)) z139_ (Kd.R_typed HO246.out) (by decide) hg); replace HB := Aside0.mk ((by rw [hw]; exact below_set (HB.out) (Nat.le_trans HL.out GB22.out) : Below w0.heap.size w0 w32)); replace HK := Aside0.mk (KeepBut.trans z2_ (KeepBut.of_grown hg g) (Kd.R_base2 HO246.out)); replace HO246 := Aside0.mk (hp_); clear hg hw hp_))
   go_ret
   exact ⟨_, z9_, Kd.Q_of_R z28_, z3_, z4_, z2_⟩
  ·rw [if_neg c18] at H
   have c18b0 : (t252 == 1) = false := beq_eq_false_iff_ne.mpr c18
   have c18b1 : (t252 != 1) = true := bne_iff_ne.mpr c18
   by_cases c33 : t252 = 2
   ·rw [if_pos c33] at H
    have c33b0 : (t252 == 2) = true := beq_iff_eq.mpr c33
    have c33b1 : (t252 != 2) = false := bne_eq_false_iff_eq.mpr c33
    clear c33
    obtain ⟨c34b0, c34b1, H⟩ := ife_ H
    obtain ⟨y267, hy267⟩ : ∃ y_ : List (S55), y_ = (t244.drop (1 : Int).toNat) := ⟨_, rfl⟩
    replace H : (some (y267, t253, t254)) = some (r1, r2, r3) := by first | (rw [hy267]; with_reducible exact H) | (have H2_ := (Option.bind_some _ _).symm.trans H; rw [hy267]; with_reducible exact H2_) | (have H2_ := (Option.bind_some _ _).symm.trans H; with_reducible exact H2_) | with_reducible exact H | (rw [hy267]; exact H) | exact H
    have Ny267 := Aside0.mk hy267
    clear hy267
    simp only [Option.some.injEq, Prod.mk.injEq] at H
    obtain ⟨rfl, rfl, rfl⟩ := H
    go_enter Try.func85, Try.ntmps85
    go_wp2_with (first | ((with_reducible refine gate_callee (f := 114) rfl ?_); refine goesL_ (some 9) rfl rfl Try.func114 (by kernel_rfl) rfl #[.pointer (some ⟨g, 0, none⟩), .int .i64 a1] rfl z1_ ?_; (with_reducible refine (spec_l3Tree.calls k g s0_0 s0_1 s0_2 a1 t244 t247 t248 w0 _ ?side1 ?side2 A3.out).mono ?_); (case side1 => exact z3_); (case side2 => exact z4_); rintro e w35 ⟨v245, rfl, ho0, hi, hb, hk⟩; refine ⟨_, rfl, ?_⟩; have HO246 := Aside0.mk (Kd.R_lower ho0 (keep_size (w := w) (g := g) (row := none) z2_)); replace HK := Aside0.mk (KeepBut.trans z2_ hk (.inl rfl)); replace HB := Aside0.mk (hb); replace HI0 := Aside0.mk (hi); (try clear hb hk hi ho0); obtain ⟨Ao36, co36, eo36⟩ := Kd.R_slice HO246.out; subst eo36) | ((with_reducible refine gate_callee (f := 81) rfl ?_); refine goesL_ (some 13) rfl rfl Try.func81 (by kernel_rfl) rfl #[.pointer (some ⟨g, 0, none⟩), .int .i64 (t244.length : Int)] rfl z1_ ?_; (with_reducible refine (spec_l1Below.calls g s0_0 t247 t248 (t244.length : Int) t249 t250 t251 w0 _ ?side1 ?side2 A4.out).mono ?_); (case side1 => exact z3_); (case side2 => exact z4_); rintro e w37 ⟨rfl, hi, hb, hk⟩; refine ⟨_, rfl, ?_⟩; replace HO246 := Aside0.mk (Kd.R_mono (Kd.R_keep (IsS136.apart (show IsS136 w0 _ g s0_0 t247 t248 from by repeat (first | (with_reducible first | exact HI0.out | apply IsS136.alloc | apply IsS136.drewN | apply IsS136.drew | apply IsS136.set_1 | apply IsS136.set_2) | exact HI0.out)) z28_ (by decide)) hk (fun _ h => h.2)) (fun _ h => h.1)); replace HK := Aside0.mk (KeepBut.trans z2_ hk (.inl rfl)); replace HB := Aside0.mk (hb); replace HI0 := Aside0.mk (hi); (try clear hb hk hi)) | ((with_reducible refine gate_callee (f := 81) rfl ?_); refine goesL_ (some 15) rfl rfl Try.func81 (by kernel_rfl) rfl #[.pointer (some ⟨g, 0, none⟩), .int .i64 18] rfl z1_ ?_; (with_reducible refine (spec_l1Below.calls g s0_0 t250 t251 18 t252 t253 t254 w0 _ ?side1 ?side2 A5.out).mono ?_); (case side1 => exact z3_); (case side2 => exact z4_); rintro e w38 ⟨rfl, hi, hb, hk⟩; refine ⟨_, rfl, ?_⟩; replace HO246 := Aside0.mk (Kd.R_mono (Kd.R_keep (IsS136.apart (show IsS136 w0 _ g s0_0 t250 t251 from by repeat (first | (with_reducible first | exact HI0.out | apply IsS136.alloc | apply IsS136.drewN | apply IsS136.drew | apply IsS136.set_1 | apply IsS136.set_2) | exact HI0.out)) z28_ (by decide)) hk (fun _ h => h.2)) (fun _ h => h.1)); replace HK := Aside0.mk (KeepBut.trans z2_ hk (.inl rfl)); replace HB := Aside0.mk (hb); replace HI0 := Aside0.mk (hi); (try clear hb hk hi); have q39 : (1 : Int) ≤ ((t244.length : Int) : Int) := odt_; obtain ⟨i039, hi039, _, hsz39, _⟩ := info_parts info55; have hcut39 := cut_from (P := Try.prog) 38 55 .i64 Try.underlying38 hi039 2 hsz39 Ao36 t244.length co36 1 (by omega) q39; have hr39 := Kd.Q_drop (k := (1 : Int).toNat) (Kd.Q_of_R HO246.out) (by omega); obtain ⟨A39, hA39⟩ : ∃ A1, A1 = (if co36 = (1 : Int).toNat then Ao36 else (Ao36 : Option Addr).map (·.add ((1 : Int).toNat * 2))) := ⟨_, rfl⟩; obtain ⟨c39, hc39⟩ : ∃ c1, c1 = co36 - (1 : Int).toNat := ⟨_, rfl⟩; have hy39 : y267.length = t244.length - (1 : Int).toNat := (by rw [Ny267.out, List.length_drop]); rw [← Ny267.out] at hr39; rw [← hy39, ← hA39, ← hc39] at hcut39; replace hr39 : Kd.Q k55 55 w38 w.heap.size (fun _ => True) (.slice A39 y267.length c39) y267 := (by rw [hA39, hc39, hy39]; exact hr39); have HE39 : Aside0 ((Value.slice A39 y267.length c39).ownBlock = (.slice Ao36 t244.length co36 : Value).ownBlock) := ⟨by rw [hA39]; split <;> (cases (Ao36 : Option Addr) <;> rfl)⟩; clear hy39 hi039 hsz39 HO246 hA39 hc39; have HO269 := Aside0.mk hr39; clear hr39; replace q39 := eq_true q39))
    go_ret
    exact ⟨_, z9_, by (with_reducible repeat (first | apply Kd.Q_alloc | apply Kd.Q_drewN | apply Kd.Q_drew)); exact HO269.out, z3_, z4_, z2_⟩
   ·rw [if_neg c33] at H
    have c33b0 : (t252 == 2) = false := beq_eq_false_iff_ne.mpr c33
    have c33b1 : (t252 != 2) = true := bne_iff_ne.mpr c33
    by_cases c40 : t252 = 3
    ·rw [if_pos c40] at H
     have c40b0 : (t252 == 3) = true := beq_iff_eq.mpr c40
     have c40b1 : (t252 != 3) = false := bne_eq_false_iff_eq.mpr c40
     clear c40
     have H' := Aside0.mk H
     clear H
     go_enter Try.func85, Try.ntmps85
     go_wp2_with (first | ((with_reducible refine gate_callee (f := 114) rfl ?_); refine goesL_ (some 9) rfl rfl Try.func114 (by kernel_rfl) rfl #[.pointer (some ⟨g, 0, none⟩), .int .i64 a1] rfl z1_ ?_; (with_reducible refine (spec_l3Tree.calls k g s0_0 s0_1 s0_2 a1 t244 t247 t248 w0 _ ?side1 ?side2 A3.out).mono ?_); (case side1 => exact z3_); (case side2 => exact z4_); rintro e w41 ⟨v245, rfl, ho0, hi, hb, hk⟩; refine ⟨_, rfl, ?_⟩; have HO246 := Aside0.mk (Kd.R_lower ho0 (keep_size (w := w) (g := g) (row := none) z2_)); replace HK := Aside0.mk (KeepBut.trans z2_ hk (.inl rfl)); replace HB := Aside0.mk (hb); replace HI0 := Aside0.mk (hi); (try clear hb hk hi ho0); obtain ⟨Ao42, co42, eo42⟩ := Kd.R_slice HO246.out; subst eo42) | ((with_reducible refine gate_callee (f := 81) rfl ?_); refine goesL_ (some 13) rfl rfl Try.func81 (by kernel_rfl) rfl #[.pointer (some ⟨g, 0, none⟩), .int .i64 (t244.length : Int)] rfl z1_ ?_; (with_reducible refine (spec_l1Below.calls g s0_0 t247 t248 (t244.length : Int) t249 t250 t251 w0 _ ?side1 ?side2 A4.out).mono ?_); (case side1 => exact z3_); (case side2 => exact z4_); rintro e w43 ⟨rfl, hi, hb, hk⟩; refine ⟨_, rfl, ?_⟩; replace HO246 := Aside0.mk (Kd.R_mono (Kd.R_keep (IsS136.apart (show IsS136 w0 _ g s0_0 t247 t248 from by repeat (first | (with_reducible first | exact HI0.out | apply IsS136.alloc | apply IsS136.drewN | apply IsS136.drew | apply IsS136.set_1 | apply IsS136.set_2) | exact HI0.out)) z28_ (by decide)) hk (fun _ h => h.2)) (fun _ h => h.1)); replace HK := Aside0.mk (KeepBut.trans z2_ hk (.inl rfl)); replace HB := Aside0.mk (hb); replace HI0 := Aside0.mk (hi); (try clear hb hk hi)) | ((with_reducible refine gate_callee (f := 81) rfl ?_); refine goesL_ (some 15) rfl rfl Try.func81 (by kernel_rfl) rfl #[.pointer (some ⟨g, 0, none⟩), .int .i64 18] rfl z1_ ?_; (with_reducible refine (spec_l1Below.calls g s0_0 t250 t251 18 t252 t253 t254 w0 _ ?side1 ?side2 A5.out).mono ?_); (case side1 => exact z3_); (case side2 => exact z4_); rintro e w44 ⟨rfl, hi, hb, hk⟩; refine ⟨_, rfl, ?_⟩; replace HO246 := Aside0.mk (Kd.R_mono (Kd.R_keep (IsS136.apart (show IsS136 w0 _ g s0_0 t250 t251 from by repeat (first | (with_reducible first | exact HI0.out | apply IsS136.alloc | apply IsS136.drewN | apply IsS136.drew | apply IsS136.set_1 | apply IsS136.set_2) | exact HI0.out)) z28_ (by decide)) hk (fun _ h => h.2)) (fun _ h => h.1)); replace HK := Aside0.mk (KeepBut.trans z2_ hk (.inl rfl)); replace HB := Aside0.mk (hb); replace HI0 := Aside0.mk (hi); (try clear hb hk hi)))
     go_loopg [5] k (fun kq v5 w' => ∃ (x5_1 : List (S55)) (x1001_1 : Int) (x1002_1 : Int), Aside0 (spec_l3Any.l0 kq x5_1 s0_0 x1001_1 x1002_1 = some (r1, r2, r3)) ∧ Aside0 (kq ≤ k) ∧ Aside0 (Kd.R k55 55 w' w.heap.size (fun _ => True) v5 x5_1) ∧ Aside0 (IsS136 w0 w' g s0_0 x1001_1 x1002_1) ∧ Aside0 (KeepBut w w' g none) ∧ Aside0 (Below w0.heap.size w0 w'))
     case atStart => exact ⟨(t244), (t253), (t254), H', ⟨Nat.le_refl _⟩, ⟨z28_⟩, ⟨z3_⟩, ⟨z2_⟩, ⟨z4_⟩⟩
     case round =>
      clear H'
      try clear c1
      try clear p1
      try clear q1
      try clear hx1
      try clear c2
      try clear p2
      try clear q2
      try clear hx2
      try clear hf2
      try clear c3
      try clear q3
      try clear hx3
      try clear hf3
      try clear c4
      try clear c6
      try clear c6b0
      try clear c6b1
      try clear p6
      try clear c8
      try clear c8b0
      try clear c9
      try clear c9b0
      try clear c10
      try clear p10
      try clear q10
      try clear hx10
      try clear hf10
      try clear c11
      try clear c16
      try clear hx16
      try clear hf16
      try clear c18
      try clear c18b0
      try clear c18b1
      try clear c19
      try clear c19b0
      try clear c20
      try clear c20b0
      try clear c22
      try clear p22
      try clear q22
      try clear hx22
      try clear hf22
      try clear p25
      try clear q25
      try clear hx25
      try clear c31
      try clear hx31
      try clear hf31
      try clear c33
      try clear c33b0
      try clear c33b1
      try clear c34
      try clear c34b0
      try clear c34b1
      try clear c39
      try clear q39
      try clear c40
      try clear c40b0
      try clear c40b1
      try clear hx10_0
      try clear hx10_1
      try clear hx16_0
      try clear hx22_0
      try clear hx22_1
      try clear hx259_0
      try clear hx259_1
      try clear hx31_1
      try clear p10
      try clear p22
      try clear p259
      try clear q10
      try clear q22
      try clear q259
      try clear q39
      obtain ⟨x5_1, x1001_1, x1002_1, HA, HK1, HO_5, HI0, HK, HB⟩ := hrel
      cases gk with
      | zero => exact absurd HA.out (by simp [spec_l3Any.l0])
      | succ k1 =>
       have H := HA.out
       clear HA
       simp only [spec_l3Any.l0] at H
       replace H := Option.bind_eq_some_iff.mp H
       obtain ⟨⟨t270, t271, t272⟩, A450, H⟩ := H
       replace H : (if (x5_1.length : Int) < (wrap64 (24 + t270)) then (if x5_1.length < 8796093022208 then (spec_l3Any.l0 k1 (x5_1 ++ [(⟨1, 1⟩ : S55)]) s0_0 t271 t272) else (none)) else (some (x5_1, t271, t272))) = some (r1, r2, r3) := H
       have A45 := Aside0.mk A450
       clear A450
       by_cases c46 : (x5_1.length : Int) < (wrap64 (24 + t270))
       ·rw [if_pos c46] at H
        have c46b0 : decide ((x5_1.length : Int) < (wrap64 (24 + t270))) = true := decide_eq_true c46
        clear c46
        obtain ⟨c47, H⟩ := ifs_ H
        have LMc47 := Aside0.mk c47
        clear c47
        obtain ⟨y273, hy273⟩ : ∃ y_ : List (S55), y_ = (x5_1 ++ [(⟨1, 1⟩ : S55)]) := ⟨_, rfl⟩
        replace H : (spec_l3Any.l0 k1 y273 s0_0 t271 t272) = some (r1, r2, r3) := by first | (rw [hy273]; with_reducible exact H) | (have H2_ := (Option.bind_some _ _).symm.trans H; rw [hy273]; with_reducible exact H2_) | (have H2_ := (Option.bind_some _ _).symm.trans H; with_reducible exact H2_) | with_reducible exact H | (rw [hy273]; exact H) | exact H
        have Ny273 := Aside0.mk hy273
        clear hy273
        have H' := Aside0.mk H
        clear H
        obtain ⟨Ao48, co48, eo48⟩ := Kd.R_slice HO_5.out
        subst eo48
        go_wp2_with (first | ((with_reducible refine gate_callee (f := 81) rfl ?_); refine goesL_ (some 48) rfl rfl Try.func81 (by kernel_rfl) rfl #[.pointer (some ⟨g, 0, none⟩), .int .i64 2] rfl z1_ ?_; (with_reducible refine (spec_l1Below.calls g s0_0 x1001_1 x1002_1 2 t270 t271 t272 w0 _ ?side1 ?side2 A45.out).mono ?_); (case side1 => exact z3_); (case side2 => exact z4_); rintro e w49 ⟨rfl, hi, hb, hk⟩; refine ⟨_, rfl, ?_⟩; replace HO_5 := Aside0.mk (Kd.R_mono (Kd.R_keep (IsS136.apart (show IsS136 w0 _ g s0_0 x1001_1 x1002_1 from by repeat (first | (with_reducible first | exact HI0.out | apply IsS136.alloc | apply IsS136.drewN | apply IsS136.drew | apply IsS136.set_1 | apply IsS136.set_2) | exact HI0.out)) z8_ (by decide)) hk (fun _ h => h.2)) (fun _ h => h.1)); replace HK := Aside0.mk (KeepBut.trans z2_ hk (.inl rfl)); replace HB := Aside0.mk (hb); replace HI0 := Aside0.mk (hi); (try clear hb hk hi)) | ((with_reducible refine gate_builtin (b := .append) (xs := #[.tmp 51, .tmp 53]) rfl ?_); at_builtin; refine Kd.R_append k55 w.heap.size rfl (.tmp 51) (.tmp 53) 38 55 (.agg #[(.int .i64 0), (.int .i64 0)]) 16 rfl Try.underlying38 info55 rfl (by decide) (by omega) (.slice Ao48 x5_1.length co48) x5_1 (⟨1, 1⟩ : S55) [.int .i64 1, .int .i64 1] (fun _ => True) (fun _ => False) rfl rfl ?aP (fun _ hk => hk.elim) ?aF ?aO (Below.refl _ _) ?aS ?aL ?_; (case aP => exact k55_mkM _ _ _ (⟨1, 1⟩ : S55)); (case aF => exact z127_); (case aO => exact z47_); (case aS => exact z60_); (case aL => have := LMc47.out; omega); intro v274 w50 ho hb hg hat; rw [← Ny273.out] at ho; replace HB := Aside0.mk (below_weaken z4_ HL.out hb); replace HI0 := Aside0.mk (IsS136.grown z3_ hg (IsS136.own_ne HI0.out HO_5.out (by decide))); replace HK := Aside0.mk (KeepBut.trans z2_ (KeepBut.of_grown hg g) (Kd.R_base2 HO_5.out)); have HO275 := Aside0.mk (ho); clear HO_5; clear ho hb hg hat))
        go_roundg k1
        case measure => have := HK1.out; omega
        case rel => exact ⟨(y273), (t271), (t272), H', ⟨z116_⟩, ⟨by (with_reducible repeat (first | apply Kd.R_alloc | apply Kd.R_drewN | apply Kd.R_drew)); exact HO275.out⟩, ⟨z3_⟩, ⟨z2_⟩, ⟨z4_⟩⟩
       ·rw [if_neg c46] at H
        have c46b0 : decide ((x5_1.length : Int) < (wrap64 (24 + t270))) = false := decide_eq_false c46
        clear c46
        simp only [Option.some.injEq, Prod.mk.injEq] at H
        obtain ⟨rfl, rfl, rfl⟩ := H
        obtain ⟨Ao51, co51, eo51⟩ := Kd.R_slice HO_5.out
        subst eo51
        go_wp2_with (first | ((with_reducible refine gate_callee (f := 81) rfl ?_); refine goesL_ (some 48) rfl rfl Try.func81 (by kernel_rfl) rfl #[.pointer (some ⟨g, 0, none⟩), .int .i64 2] rfl z1_ ?_; (with_reducible refine (spec_l1Below.calls g s0_0 x1001_1 x1002_1 2 t270 t271 t272 w0 _ ?side1 ?side2 A45.out).mono ?_); (case side1 => exact z3_); (case side2 => exact z4_); rintro e w52 ⟨rfl, hi, hb, hk⟩; refine ⟨_, rfl, ?_⟩; replace HO_5 := Aside0.mk (Kd.R_mono (Kd.R_keep (IsS136.apart (show IsS136 w0 _ g s0_0 x1001_1 x1002_1 from by repeat (first | (with_reducible first | exact HI0.out | apply IsS136.alloc | apply IsS136.drewN | apply IsS136.drew | apply IsS136.set_1 | apply IsS136.set_2) | exact HI0.out)) z8_ (by decide)) hk (fun _ h => h.2)) (fun _ h => h.1)); replace HK := Aside0.mk (KeepBut.trans z2_ hk (.inl rfl)); replace HB := Aside0.mk (hb); replace HI0 := Aside0.mk (hi); (try clear hb hk hi)))
        go_ret
        exact ⟨_, z9_, Kd.Q_of_R z8_, z3_, z4_, z2_⟩
    ·rw [if_neg c40] at H
     have c40b0 : (t252 == 3) = false := beq_eq_false_iff_ne.mpr c40
     have c40b1 : (t252 != 3) = true := bne_iff_ne.mpr c40
     by_cases c53 : t252 = 4
     ·rw [if_pos c53] at H
      have c53b0 : (t252 == 4) = true := beq_iff_eq.mpr c53
      have c53b1 : (t252 != 4) = false := bne_eq_false_iff_eq.mpr c53
      clear c53
      obtain ⟨y276, hy276⟩ : ∃ y_ : List (S55), y_ = (([(⟨0, 0⟩ : S55)] : List (S55))) := ⟨_, rfl⟩
      replace H : (spec_l3Any.l1 k y276 s0_0 t253 t254) = some (r1, r2, r3) := by first | (rw [hy276]; with_reducible exact H) | (have H2_ := (Option.bind_some _ _).symm.trans H; rw [hy276]; with_reducible exact H2_) | (have H2_ := (Option.bind_some _ _).symm.trans H; with_reducible exact H2_) | with_reducible exact H | (rw [hy276]; exact H) | exact H
      have Ny276 := Aside0.mk hy276
      clear hy276
      have H' := Aside0.mk H
      clear H
      go_enter Try.func85, Try.ntmps85
      go_wp2_with (first | ((with_reducible refine gate_callee (f := 114) rfl ?_); refine goesL_ (some 9) rfl rfl Try.func114 (by kernel_rfl) rfl #[.pointer (some ⟨g, 0, none⟩), .int .i64 a1] rfl z1_ ?_; (with_reducible refine (spec_l3Tree.calls k g s0_0 s0_1 s0_2 a1 t244 t247 t248 w0 _ ?side1 ?side2 A3.out).mono ?_); (case side1 => exact z3_); (case side2 => exact z4_); rintro e w54 ⟨v245, rfl, ho0, hi, hb, hk⟩; refine ⟨_, rfl, ?_⟩; have HO246 := Aside0.mk (Kd.R_lower ho0 (keep_size (w := w) (g := g) (row := none) z2_)); replace HK := Aside0.mk (KeepBut.trans z2_ hk (.inl rfl)); replace HB := Aside0.mk (hb); replace HI0 := Aside0.mk (hi); (try clear hb hk hi ho0); obtain ⟨Ao55, co55, eo55⟩ := Kd.R_slice HO246.out; subst eo55) | ((with_reducible refine gate_callee (f := 81) rfl ?_); refine goesL_ (some 13) rfl rfl Try.func81 (by kernel_rfl) rfl #[.pointer (some ⟨g, 0, none⟩), .int .i64 (t244.length : Int)] rfl z1_ ?_; (with_reducible refine (spec_l1Below.calls g s0_0 t247 t248 (t244.length : Int) t249 t250 t251 w0 _ ?side1 ?side2 A4.out).mono ?_); (case side1 => exact z3_); (case side2 => exact z4_); rintro e w56 ⟨rfl, hi, hb, hk⟩; refine ⟨_, rfl, ?_⟩; replace HO246 := Aside0.mk (Kd.R_mono (Kd.R_keep (IsS136.apart (show IsS136 w0 _ g s0_0 t247 t248 from by repeat (first | (with_reducible first | exact HI0.out | apply IsS136.alloc | apply IsS136.drewN | apply IsS136.drew | apply IsS136.set_1 | apply IsS136.set_2) | exact HI0.out)) z28_ (by decide)) hk (fun _ h => h.2)) (fun _ h => h.1)); replace HK := Aside0.mk (KeepBut.trans z2_ hk (.inl rfl)); replace HB := Aside0.mk (hb); replace HI0 := Aside0.mk (hi); (try clear hb hk hi)) | ((with_reducible refine gate_callee (f := 81) rfl ?_); refine goesL_ (some 15) rfl rfl Try.func81 (by kernel_rfl) rfl #[.pointer (some ⟨g, 0, none⟩), .int .i64 18] rfl z1_ ?_; (with_reducible refine (spec_l1Below.calls g s0_0 t250 t251 18 t252 t253 t254 w0 _ ?side1 ?side2 A5.out).mono ?_); (case side1 => exact z3_); (case side2 => exact z4_); rintro e w57 ⟨rfl, hi, hb, hk⟩; refine ⟨_, rfl, ?_⟩; replace HO246 := Aside0.mk (Kd.R_mono (Kd.R_keep (IsS136.apart (show IsS136 w0 _ g s0_0 t250 t251 from by repeat (first | (with_reducible first | exact HI0.out | apply IsS136.alloc | apply IsS136.drewN | apply IsS136.drew | apply IsS136.set_1 | apply IsS136.set_2) | exact HI0.out)) z28_ (by decide)) hk (fun _ h => h.2)) (fun _ h => h.1)); replace HK := Aside0.mk (KeepBut.trans z2_ hk (.inl rfl)); replace HB := Aside0.mk (hb); replace HI0 := Aside0.mk (hi); (try clear hb hk hi)) | ((with_reducible refine gate_dst (N := 58) rfl ?_); refine Kd.R_lit k55 _ 55 ?hg (N := 58) ?hd (xs := ([(⟨0, 0⟩ : S55)] : List (S55))) (inner := [.int .i64 0, .int .i64 0]) (ok := fun _ => True) (okp := fun _ => True) ?hr ?hp (fun _ hk => hk) trivial (Below.refl _ _) (Nat.le_refl _) (by simp) ?_; (case hd => rfl); (case hg => rfl); (case hr => exact z35_); (case hp => exact (Reps.c2 (show Kd.M k55 _ _ _ (⟨0, 0⟩ : S55) [.int .i64 0, .int .i64 0] from (k55_mkM _ _ _ (⟨0, 0⟩ : S55) )) (Reps.none _ _))); intro v277 w58 ho59 hb hg_ hnew_; clear hg_ hnew_; (first | rw [← Ny276.out] at ho59 | (simp only [Int.reduceToNat] at ho59; rw [← Ny276.out] at ho59)); have HO278 := Aside0.mk (Kd.R_lower (Kd.R_new' ho59 (Kd.R_lt z28_)) (keep_size (w := w) (g := g) (row := none) z2_)); replace HO246 := Aside0.mk (Kd.R_elder' z28_ (Kd.R_base ho59) hb); replace HK := Aside0.mk (KeepBut.trans z2_ (KeepBut.of_below hb g none) (.inl rfl)); replace HB := Aside0.mk (below_step z4_ hb); replace HI0 := Aside0.mk (IsS136.below z3_ hb); clear hb ho59))
      go_loopg [5] k (fun kq v5 w' => ∃ (x5_1 : List (S55)) (x1001_1 : Int) (x1002_1 : Int), Aside0 (spec_l3Any.l1 kq x5_1 s0_0 x1001_1 x1002_1 = some (r1, r2, r3)) ∧ Aside0 (kq ≤ k) ∧ Aside0 (Kd.R k55 55 w' w.heap.size (fun _ => True) v5 x5_1) ∧ Aside0 (IsS136 w0 w' g s0_0 x1001_1 x1002_1) ∧ Aside0 (KeepBut w w' g none) ∧ Aside0 (Below w0.heap.size w0 w'))
      case atStart => exact ⟨(y276), (t253), (t254), H', ⟨Nat.le_refl _⟩, ⟨by (with_reducible repeat (first | apply Kd.R_alloc | apply Kd.R_drewN | apply Kd.R_drew)); exact Kd.R_mono HO278.out (fun _ hk => trivial)⟩, ⟨z3_⟩, ⟨z2_⟩, ⟨z4_⟩⟩
      case round =>
       clear H'
       try clear c1
       try clear p1
       try clear q1
       try clear hx1
       try clear c2
       try clear p2
       try clear q2
       try clear hx2
       try clear hf2
       try clear c3
       try clear q3
       try clear hx3
       try clear hf3
       try clear c4
       try clear c5
       try clear c6
       try clear c6b0
       try clear c6b1
       try clear p6
       try clear c8
       try clear c8b0
       try clear c9
       try clear c9b0
       try clear c10
       try clear p10
       try clear q10
       try clear hx10
       try clear hf10
       try clear c11
       try clear c16
       try clear hx16
       try clear hf16
       try clear c18
       try clear c18b0
       try clear c18b1
       try clear c19
       try clear c19b0
       try clear c20
       try clear c20b0
       try clear c22
       try clear p22
       try clear q22
       try clear hx22
       try clear hf22
       try clear p25
       try clear q25
       try clear hx25
       try clear c31
       try clear hx31
       try clear hf31
       try clear c33
       try clear c33b0
       try clear c33b1
       try clear c34
       try clear c34b0
       try clear c34b1
       try clear c39
       try clear q39
       try clear c40
       try clear c40b0
       try clear c40b1
       try clear c46
       try clear c46b0
       try clear c47
       try clear c53
       try clear c53b0
       try clear c53b1
       try clear hx10_0
       try clear hx10_1
       try clear hx16_0
       try clear hx22_0
       try clear hx22_1
       try clear hx259_0
       try clear hx259_1
       try clear hx31_1
       try clear p1
       try clear p10
       try clear p2
       try clear p22
       try clear p25
       try clear p259
       try clear p6
       try clear q1
       try clear q10
       try clear q2
       try clear q22
       try clear q25
       try clear q259
       try clear q3
       try clear q39
       obtain ⟨x5_1, x1001_1, x1002_1, HA, HK1, HO_5, HI0, HK, HB⟩ := hrel
       cases gk with
       | zero => exact absurd HA.out (by simp [spec_l3Any.l1])
       | succ k1 =>
        have H := HA.out
        clear HA
        simp only [spec_l3Any.l1] at H
        replace H := Option.bind_eq_some_iff.mp H
        obtain ⟨⟨t279, t280, t281⟩, A600, H⟩ := H
        replace H : (if (x5_1.length : Int) < (wrap64 (13 + t279)) then (if x5_1.length < 8796093022208 then (spec_l3Any.l1 k1 (x5_1 ++ [(⟨0, (x5_1.length : Int)⟩ : S55)]) s0_0 t280 t281) else (none)) else (some (x5_1, t280, t281))) = some (r1, r2, r3) := H
        have A60 := Aside0.mk A600
        clear A600
        by_cases c61 : (x5_1.length : Int) < (wrap64 (13 + t279))
        ·rw [if_pos c61] at H
         have c61b0 : decide ((x5_1.length : Int) < (wrap64 (13 + t279))) = true := decide_eq_true c61
         clear c61
         obtain ⟨c62, H⟩ := ifs_ H
         have LMc62 := Aside0.mk c62
         clear c62
         obtain ⟨y282, hy282⟩ : ∃ y_ : List (S55), y_ = (x5_1 ++ [(⟨0, (x5_1.length : Int)⟩ : S55)]) := ⟨_, rfl⟩
         replace H : (spec_l3Any.l1 k1 y282 s0_0 t280 t281) = some (r1, r2, r3) := by first | (rw [hy282]; with_reducible exact H) | (have H2_ := (Option.bind_some _ _).symm.trans H; rw [hy282]; with_reducible exact H2_) | (have H2_ := (Option.bind_some _ _).symm.trans H; with_reducible exact H2_) | with_reducible exact H | (rw [hy282]; exact H) | exact H
         have Ny282 := Aside0.mk hy282
         clear hy282
         have H' := Aside0.mk H
         clear H
         obtain ⟨Ao63, co63, eo63⟩ := Kd.R_slice HO_5.out
         subst eo63
         go_wp2_with (first | ((with_reducible refine gate_callee (f := 81) rfl ?_); refine goesL_ (some 62) rfl rfl Try.func81 (by kernel_rfl) rfl #[.pointer (some ⟨g, 0, none⟩), .int .i64 2] rfl z1_ ?_; (with_reducible refine (spec_l1Below.calls g s0_0 x1001_1 x1002_1 2 t279 t280 t281 w0 _ ?side1 ?side2 A60.out).mono ?_); (case side1 => exact z3_); (case side2 => exact z4_); rintro e w64 ⟨rfl, hi, hb, hk⟩; refine ⟨_, rfl, ?_⟩; replace HO_5 := Aside0.mk (Kd.R_mono (Kd.R_keep (IsS136.apart (show IsS136 w0 _ g s0_0 x1001_1 x1002_1 from by repeat (first | (with_reducible first | exact HI0.out | apply IsS136.alloc | apply IsS136.drewN | apply IsS136.drew | apply IsS136.set_1 | apply IsS136.set_2) | exact HI0.out)) z8_ (by decide)) hk (fun _ h => h.2)) (fun _ h => h.1)); replace HK := Aside0.mk (KeepBut.trans z2_ hk (.inl rfl)); replace HB := Aside0.mk (hb); replace HI0 := Aside0.mk (hi); (try clear hb hk hi)) | ((with_reducible refine gate_builtin (b := .append) (xs := #[.tmp 65, .tmp 69]) rfl ?_); at_builtin; refine Kd.R_append k55 w.heap.size rfl (.tmp 65) (.tmp 69) 38 55 (.agg #[(.int .i64 0), (.int .i64 0)]) 16 rfl Try.underlying38 info55 rfl (by decide) (by omega) (.slice Ao63 x5_1.length co63) x5_1 (⟨0, (x5_1.length : Int)⟩ : S55) [.int .i64 0, .int .i64 (x5_1.length : Int)] (fun _ => True) (fun _ => False) rfl rfl ?aP (fun _ hk => hk.elim) ?aF ?aO (Below.refl _ _) ?aS ?aL ?_; (case aP => exact k55_mkM _ _ _ (⟨0, (x5_1.length : Int)⟩ : S55)); (case aF => exact z127_); (case aO => exact z47_); (case aS => exact z60_); (case aL => have := LMc62.out; omega); intro v283 w65 ho hb hg hat; rw [← Ny282.out] at ho; replace HB := Aside0.mk (below_weaken z4_ HL.out hb); replace HI0 := Aside0.mk (IsS136.grown z3_ hg (IsS136.own_ne HI0.out HO_5.out (by decide))); replace HK := Aside0.mk (KeepBut.trans z2_ (KeepBut.of_grown hg g) (Kd.R_base2 HO_5.out)); have HO284 := Aside0.mk (ho); clear HO_5; clear ho hb hg hat))
         go_roundg k1
         case measure => have := HK1.out; omega
         case rel => exact ⟨(y282), (t280), (t281), H', ⟨z116_⟩, ⟨by (with_reducible repeat (first | apply Kd.R_alloc | apply Kd.R_drewN | apply Kd.R_drew)); exact HO284.out⟩, ⟨z3_⟩, ⟨z2_⟩, ⟨z4_⟩⟩
        ·rw [if_neg c61] at H
         have c61b0 : decide ((x5_1.length : Int) < (wrap64 (13 + t279))) = false := decide_eq_false c61
         clear c61
         simp only [Option.some.injEq, Prod.mk.injEq] at H
         obtain ⟨rfl, rfl, rfl⟩ := H
         obtain ⟨Ao66, co66, eo66⟩ := Kd.R_slice HO_5.out
         subst eo66
         go_wp2_with (first | ((with_reducible refine gate_callee (f := 81) rfl ?_); refine goesL_ (some 62) rfl rfl Try.func81 (by kernel_rfl) rfl #[.pointer (some ⟨g, 0, none⟩), .int .i64 2] rfl z1_ ?_; (with_reducible refine (spec_l1Below.calls g s0_0 x1001_1 x1002_1 2 t279 t280 t281 w0 _ ?side1 ?side2 A60.out).mono ?_); (case side1 => exact z3_); (case side2 => exact z4_); rintro e w67 ⟨rfl, hi, hb, hk⟩; refine ⟨_, rfl, ?_⟩; replace HO_5 := Aside0.mk (Kd.R_mono (Kd.R_keep (IsS136.apart (show IsS136 w0 _ g s0_0 x1001_1 x1002_1 from by repeat (first | (with_reducible first | exact HI0.out | apply IsS136.alloc | apply IsS136.drewN | apply IsS136.drew | apply IsS136.set_1 | apply IsS136.set_2) | exact HI0.out)) z8_ (by decide)) hk (fun _ h => h.2)) (fun _ h => h.1)); replace HK := Aside0.mk (KeepBut.trans z2_ hk (.inl rfl)); replace HB := Aside0.mk (hb); replace HI0 := Aside0.mk (hi); (try clear hb hk hi)))
         go_ret
         exact ⟨_, z9_, Kd.Q_of_R z8_, z3_, z4_, z2_⟩
     ·rw [if_neg c53] at H
      have c53b0 : (t252 == 4) = false := beq_eq_false_iff_ne.mpr c53
      have c53b1 : (t252 != 4) = true := bne_iff_ne.mpr c53
      simp only [Option.some.injEq, Prod.mk.injEq] at H
      obtain ⟨rfl, rfl, rfl⟩ := H
      go_enter Try.func85, Try.ntmps85
      go_wp2_with (first | ((with_reducible refine gate_callee (f := 114) rfl ?_); refine goesL_ (some 9) rfl rfl Try.func114 (by kernel_rfl) rfl #[.pointer (some ⟨g, 0, none⟩), .int .i64 a1] rfl z1_ ?_; (with_reducible refine (spec_l3Tree.calls k g s0_0 s0_1 s0_2 a1 t244 t247 t248 w0 _ ?side1 ?side2 A3.out).mono ?_); (case side1 => exact z3_); (case side2 => exact z4_); rintro e w68 ⟨v245, rfl, ho0, hi, hb, hk⟩; refine ⟨_, rfl, ?_⟩; have HO246 := Aside0.mk (Kd.R_lower ho0 (keep_size (w := w) (g := g) (row := none) z2_)); replace HK := Aside0.mk (KeepBut.trans z2_ hk (.inl rfl)); replace HB := Aside0.mk (hb); replace HI0 := Aside0.mk (hi); (try clear hb hk hi ho0); obtain ⟨Ao69, co69, eo69⟩ := Kd.R_slice HO246.out; subst eo69) | ((with_reducible refine gate_callee (f := 81) rfl ?_); refine goesL_ (some 13) rfl rfl Try.func81 (by kernel_rfl) rfl #[.pointer (some ⟨g, 0, none⟩), .int .i64 (t244.length : Int)] rfl z1_ ?_; (with_reducible refine (spec_l1Below.calls g s0_0 t247 t248 (t244.length : Int) t249 t250 t251 w0 _ ?side1 ?side2 A4.out).mono ?_); (case side1 => exact z3_); (case side2 => exact z4_); rintro e w70 ⟨rfl, hi, hb, hk⟩; refine ⟨_, rfl, ?_⟩; replace HO246 := Aside0.mk (Kd.R_mono (Kd.R_keep (IsS136.apart (show IsS136 w0 _ g s0_0 t247 t248 from by repeat (first | (with_reducible first | exact HI0.out | apply IsS136.alloc | apply IsS136.drewN | apply IsS136.drew | apply IsS136.set_1 | apply IsS136.set_2) | exact HI0.out)) z28_ (by decide)) hk (fun _ h => h.2)) (fun _ h => h.1)); replace HK := Aside0.mk (KeepBut.trans z2_ hk (.inl rfl)); replace HB := Aside0.mk (hb); replace HI0 := Aside0.mk (hi); (try clear hb hk hi)) | ((with_reducible refine gate_callee (f := 81) rfl ?_); refine goesL_ (some 15) rfl rfl Try.func81 (by kernel_rfl) rfl #[.pointer (some ⟨g, 0, none⟩), .int .i64 18] rfl z1_ ?_; (with_reducible refine (spec_l1Below.calls g s0_0 t250 t251 18 t252 t253 t254 w0 _ ?side1 ?side2 A5.out).mono ?_); (case side1 => exact z3_); (case side2 => exact z4_); rintro e w71 ⟨rfl, hi, hb, hk⟩; refine ⟨_, rfl, ?_⟩; replace HO246 := Aside0.mk (Kd.R_mono (Kd.R_keep (IsS136.apart (show IsS136 w0 _ g s0_0 t250 t251 from by repeat (first | (with_reducible first | exact HI0.out | apply IsS136.alloc | apply IsS136.drewN | apply IsS136.drew | apply IsS136.set_1 | apply IsS136.set_2) | exact HI0.out)) z28_ (by decide)) hk (fun _ h => h.2)) (fun _ h => h.1)); replace HK := Aside0.mk (KeepBut.trans z2_ hk (.inl rfl)); replace HB := Aside0.mk (hb); replace HI0 := Aside0.mk (hi); (try clear hb hk hi)))
      go_ret
      exact ⟨_, z9_, Kd.Q_of_R z28_, z3_, z4_, z2_⟩

/-! ### spec_l3Where: function 74 -/
def spec_l3Where.f (k : Nat) (s0_0 : List Int) (s0_1 : Int) (s0_2 : Int) : Option ((List (S55)) × Int × Int × Int) := (spec_l3Any.f k s0_0 s0_1 s0_2 12).bind fun bt285 => ((spec_l1Once.f s0_0 bt285.2.1 bt285.2.2 10).bind fun bt290 => (if bt290.1 = true then ((spec_l1PickInt.f s0_0 bt290.2.1 bt290.2.2 (([(-1), (bt285.1.length : Int)] : List Int))).bind fun bt296 => (some (bt285.1, bt296.1, bt296.2.1, bt296.2.2))) else ((spec_l1Below.f s0_0 bt290.2.1 bt290.2.2 (mx 1 (bt285.1.length : Int))).bind fun bt299 => (some (bt285.1, bt299.1, bt299.2.1, bt299.2.2)))))
theorem spec_l3Where.mono : ∀ a0 a1 a2 k, LeO (spec_l3Where.f k a0 a1 a2) (spec_l3Where.f (k + 1) a0 a1 a2) := by
 intro a0 a1 a2 k
 unfold spec_l3Where.f
 repeat' first | (with_reducible first | exact spec_l3Any.mono _ _ _ _ _ | exact LeO.refl _ | exact LeO.none _ | refine LeO.ite ?_ ?_ | refine LeO.bind ?_ (fun _ => ?_)) | exact spec_l3Any.mono _ _ _ _ _ | exact LeO.none _ | refine LeO.ite ?_ ?_ | refine LeO.bind ?_ (fun _ => ?_)
set_option maxHeartbeats 8000000 in
set_option maxRecDepth 100000 in
theorem spec_l3Where.calls (k : Nat) (g : Nat) (s0_0 : List Int) (s0_1 : Int) (s0_2 : Int) (r1 : List (S55)) (r2 : Int) (r3 : Int) (r4 : Int) (w0 w : World) (hI : IsS136 w0 w g s0_0 s0_1 s0_2) (hB : Below w0.heap.size w0 w) (h : spec_l3Where.f k s0_0 s0_1 s0_2 = some (r1, r2, r3, r4)) :
  Calls Try.prog 74 #[.pointer (some ⟨g, 0, none⟩)] w fun e w' => ∃ v0_ : Value, e = .returned (.tuple #[v0_, .int .i64 r2]) ∧ Kd.Q k55 55 w' w.heap.size (fun _ => True) v0_ r1 ∧ IsS136 w0 w' g s0_0 r3 r4 ∧ Below w0.heap.size w0 w' ∧ KeepBut w w' g none := by
 have HI0 := Aside0.mk hI
 have HK := Aside0.mk (KeepBut.refl w g none)
 have HL := Aside0.mk hB.size
 clear hI
 have HW0 := Aside0.mk hB.size
 have HB := Aside0.mk hB
 clear hB
 have H : ((spec_l3Any.f k s0_0 s0_1 s0_2 12).bind fun bt285 => ((spec_l1Once.f s0_0 bt285.2.1 bt285.2.2 10).bind fun bt290 => (if bt290.1 = true then ((spec_l1PickInt.f s0_0 bt290.2.1 bt290.2.2 (([(-1), (bt285.1.length : Int)] : List Int))).bind fun bt296 => (some (bt285.1, bt296.1, bt296.2.1, bt296.2.2))) else ((spec_l1Below.f s0_0 bt290.2.1 bt290.2.2 (mx 1 (bt285.1.length : Int))).bind fun bt299 => (some (bt285.1, bt299.1, bt299.2.1, bt299.2.2)))))) = some (r1, r2, r3, r4) := h
 clear h
 replace H := Option.bind_eq_some_iff.mp H
 obtain ⟨⟨t285, t288, t289⟩, A20, H⟩ := H
 replace H : ((spec_l1Once.f s0_0 t288 t289 10).bind fun bt290 => (if bt290.1 = true then ((spec_l1PickInt.f s0_0 bt290.2.1 bt290.2.2 (([(-1), (t285.length : Int)] : List Int))).bind fun bt296 => (some (t285, bt296.1, bt296.2.1, bt296.2.2))) else ((spec_l1Below.f s0_0 bt290.2.1 bt290.2.2 (mx 1 (t285.length : Int))).bind fun bt299 => (some (t285, bt299.1, bt299.2.1, bt299.2.2))))) = some (r1, r2, r3, r4) := H
 have A2 := Aside0.mk A20
 clear A20
 replace H := Option.bind_eq_some_iff.mp H
 obtain ⟨⟨t290, t291, t292⟩, A30, H⟩ := H
 replace H : (if t290 = true then ((spec_l1PickInt.f s0_0 t291 t292 (([(-1), (t285.length : Int)] : List Int))).bind fun bt296 => (some (t285, bt296.1, bt296.2.1, bt296.2.2))) else ((spec_l1Below.f s0_0 t291 t292 (mx 1 (t285.length : Int))).bind fun bt299 => (some (t285, bt299.1, bt299.2.1, bt299.2.2)))) = some (r1, r2, r3, r4) := H
 have A3 := Aside0.mk A30
 clear A30
 by_cases c4 : t290 = true
 ·subst c4
  replace H := ift_ H
  obtain ⟨y293, hy293⟩ : ∃ y_ : List Int, y_ = (([(-1), (t285.length : Int)] : List Int)) := ⟨_, rfl⟩
  replace H : ((spec_l1PickInt.f s0_0 t291 t292 y293).bind fun bt296 => (some (t285, bt296.1, bt296.2.1, bt296.2.2))) = some (r1, r2, r3, r4) := by first | (rw [hy293]; with_reducible exact H) | (have H2_ := (Option.bind_some _ _).symm.trans H; rw [hy293]; with_reducible exact H2_) | (have H2_ := (Option.bind_some _ _).symm.trans H; with_reducible exact H2_) | with_reducible exact H | (rw [hy293]; exact H) | exact H
  have Ny293 := Aside0.mk hy293
  clear hy293
  replace H := Option.bind_eq_some_iff.mp H
  obtain ⟨⟨t296, t297, t298⟩, A50, H⟩ := H
  replace H : (some (t285, t296, t297, t298)) = some (r1, r2, r3, r4) := H
  have A5 := Aside0.mk A50
  clear A50
  simp only [Option.some.injEq, Prod.mk.injEq] at H
  obtain ⟨rfl, rfl, rfl, rfl⟩ := H
  go_enter Try.func74, Try.ntmps74
  go_wp2_with (first | ((with_reducible refine gate_callee (f := 85) rfl ?_); refine goesL_ (some 6) rfl rfl Try.func85 (by kernel_rfl) rfl #[.pointer (some ⟨g, 0, none⟩), .int .i64 12] rfl z1_ ?_; (with_reducible refine (spec_l3Any.calls k g s0_0 s0_1 s0_2 12 t285 t288 t289 w0 _ ?side1 ?side2 A2.out).mono ?_); (case side1 => exact z3_); (case side2 => exact z4_); rintro e w6 ⟨v286, rfl, ho0, hi, hb, hk⟩; refine ⟨_, rfl, ?_⟩; have HO287 := Aside0.mk (Kd.Q_lower ho0 (keep_size (w := w) (g := g) (row := none) z2_)); replace HK := Aside0.mk (KeepBut.trans z2_ hk (.inl rfl)); replace HB := Aside0.mk (hb); replace HI0 := Aside0.mk (hi); (try clear hb hk hi ho0)) | ((with_reducible refine gate_callee (f := 80) rfl ?_); refine goesL_ (some 8) rfl rfl Try.func80 (by kernel_rfl) rfl #[.pointer (some ⟨g, 0, none⟩), .int .i64 10] rfl z1_ ?_; (with_reducible refine (spec_l1Once.calls g s0_0 t288 t289 10 true t291 t292 w0 _ ?side1 ?side2 A3.out).mono ?_); (case side1 => exact z3_); (case side2 => exact z4_); rintro e w7 ⟨rfl, hi, hb, hk⟩; refine ⟨_, rfl, ?_⟩; replace HO287 := Aside0.mk (Kd.Q_mono (Kd.Q_keep (IsS136.apartQ (show IsS136 w0 _ g s0_0 t288 t289 from by repeat (first | (with_reducible first | exact HI0.out | apply IsS136.alloc | apply IsS136.drewN | apply IsS136.drew | apply IsS136.set_1 | apply IsS136.set_2) | exact HI0.out)) z84_ (by decide)) hk (fun _ h => h.2)) (fun _ h => h.1)); replace HK := Aside0.mk (KeepBut.trans z2_ hk (.inl rfl)); replace HB := Aside0.mk (hb); replace HI0 := Aside0.mk (hi); (try clear hb hk hi); obtain ⟨Ao8, co8, eo8, _⟩ := Kd.Q_slice HO287.out; subst eo8) | ((with_reducible refine gate_dst (N := 13) rfl ?_); refine Kd.R_lit (Kd.int .i64) _ 3 ?hg (N := 13) ?hd (xs := ([(-1), (t285.length : Int)] : List Int)) (inner := [.int .i64 (-1), .int .i64 (t285.length : Int)]) (ok := fun _ => True) (okp := fun _ => True) ?hr ?hp (fun _ hk => hk) trivial (Below.refl _ _) (Nat.le_refl _) (by simp) ?_; (case hd => rfl); (case hg => rfl); (case hr => exact z35_); (case hp => exact (Reps.one (show Kd.M (Kd.int .i64) _ _ _ (-1) [.int .i64 (-1)] from rfl) (Reps.one (show Kd.M (Kd.int .i64) _ _ _ (t285.length : Int) [.int .i64 (t285.length : Int)] from rfl) (Reps.none _ _)))); intro v294 w9 ho10 hb hg_ hnew_; clear hg_ hnew_; (first | rw [← Ny293.out] at ho10 | (simp only [Int.reduceToNat] at ho10; rw [← Ny293.out] at ho10)); replace HO287 := Aside0.mk (Kd.Q_below z84_ hb); have HO295 := Aside0.mk (Kd.R_lower ho10 (keep_size (w := w) (g := g) (row := none) z2_)); replace HK := Aside0.mk (KeepBut.trans z2_ (KeepBut.of_below hb g none) (.inl rfl)); replace HB := Aside0.mk (below_step z4_ hb); replace HI0 := Aside0.mk (IsS136.below z3_ hb); clear hb ho10; obtain ⟨Ao11, co11, eo11⟩ := Kd.R_slice HO295.out; subst eo11) | ((with_reducible refine gate_callee (f := 111) rfl ?_); refine goesL_ (some 14) rfl rfl Try.func111 (by kernel_rfl) rfl #[.pointer (some ⟨g, 0, none⟩), .slice Ao11 y293.length co11] rfl z1_ ?_; (with_reducible refine (spec_l1PickInt.calls g s0_0 t291 t292 _ _ y293 t296 t297 t298 w0 _ ?side1 ?side2 ?side3 ?side4 ?side5 A5.out).mono ?_); (case side1 => exact z3_); (case side2 => exact z4_); (case side3 => repeat (first | exact (Kd.R_reads' HO295.out).2.2 | (with_reducible refine Kd.C_alloc ?_ _) | (with_reducible refine Kd.C_drewN ?_ _) | (with_reducible refine Kd.C_drew ?_))); (case side4 => exact (Kd.R_reads' HO295.out).2.1); (case side5 => exact far_slice (IsS136.own_ne HI0.out HO295.out (by decide))); rintro e w12 ⟨rfl, hi, hb, hk⟩; refine ⟨_, rfl, ?_⟩; replace HO287 := Aside0.mk (Kd.Q_mono (Kd.Q_keep (IsS136.apartQ (show IsS136 w0 _ g s0_0 t291 t292 from by repeat (first | (with_reducible first | exact HI0.out | apply IsS136.alloc | apply IsS136.drewN | apply IsS136.drew | apply IsS136.set_1 | apply IsS136.set_2) | exact HI0.out)) z84_ (by decide)) hk (fun _ h => h.2)) (fun _ h => h.1)); replace HO295 := Aside0.mk (Kd.R_mono (Kd.R_keep (IsS136.apart (show IsS136 w0 _ g s0_0 t291 t292 from by repeat (first | (with_reducible first | exact HI0.out | apply IsS136.alloc | apply IsS136.drewN | apply IsS136.drew | apply IsS136.set_1 | apply IsS136.set_2) | exact HI0.out)) (by (with_reducible repeat (first | apply Kd.R_alloc | apply Kd.R_drewN | apply Kd.R_drew)); exact HO295.out) (by decide)) hk (fun _ h => h.2)) (fun _ h => h.1)); replace HK := Aside0.mk (KeepBut.trans z2_ hk (.inl rfl)); replace HB := Aside0.mk (hb); replace HI0 := Aside0.mk (hi); (try clear hb hk hi)))
  go_ret2
  exact ⟨_, z9_, z84_, z3_, z4_, z2_⟩
 ·replace c4 := Bool.eq_false_iff.mpr c4
  subst c4
  replace H := iff_ H
  obtain ⟨ji13, hji13⟩ : ∃ j_ : Int, (mx 1 (t285.length : Int)) = j_ := ⟨_, rfl⟩
  replace H : ((spec_l1Below.f s0_0 t291 t292 (ji13)).bind fun bt299 => (some (t285, bt299.1, bt299.2.1, bt299.2.2))) = some (r1, r2, r3, r4) := by first | (rw [hji13] at H; exact H) | (simp only [hji13] at H ⊢; exact H)
  (try rw [hji13] at A2)
  (try rw [hji13] at A3)
  (try (have hji13l : 1 ≤ ji13 := by (rw [← hji13]; unfold mx; (repeat' split) <;> omega)))
  (try (have hji13m : 0 ≤ ji13 := by omega))
  have hji13_ : (if 1 < (t285.length : Int) then (t285.length : Int) else 1) = ji13 := hji13
  replace H := Option.bind_eq_some_iff.mp H
  obtain ⟨⟨t299, t300, t301⟩, A140, H⟩ := H
  replace H : (some (t285, t299, t300, t301)) = some (r1, r2, r3, r4) := H
  have A14 := Aside0.mk A140
  clear A140
  simp only [Option.some.injEq, Prod.mk.injEq] at H
  obtain ⟨rfl, rfl, rfl, rfl⟩ := H
  go_enter Try.func74, Try.ntmps74
  go_wp2_with (first | ((with_reducible refine gate_callee (f := 85) rfl ?_); refine goesL_ (some 6) rfl rfl Try.func85 (by kernel_rfl) rfl #[.pointer (some ⟨g, 0, none⟩), .int .i64 12] rfl z1_ ?_; (with_reducible refine (spec_l3Any.calls k g s0_0 s0_1 s0_2 12 t285 t288 t289 w0 _ ?side1 ?side2 A2.out).mono ?_); (case side1 => exact z3_); (case side2 => exact z4_); rintro e w15 ⟨v286, rfl, ho0, hi, hb, hk⟩; refine ⟨_, rfl, ?_⟩; have HO287 := Aside0.mk (Kd.Q_lower ho0 (keep_size (w := w) (g := g) (row := none) z2_)); replace HK := Aside0.mk (KeepBut.trans z2_ hk (.inl rfl)); replace HB := Aside0.mk (hb); replace HI0 := Aside0.mk (hi); (try clear hb hk hi ho0)) | ((with_reducible refine gate_callee (f := 80) rfl ?_); refine goesL_ (some 8) rfl rfl Try.func80 (by kernel_rfl) rfl #[.pointer (some ⟨g, 0, none⟩), .int .i64 10] rfl z1_ ?_; (with_reducible refine (spec_l1Once.calls g s0_0 t288 t289 10 false t291 t292 w0 _ ?side1 ?side2 A3.out).mono ?_); (case side1 => exact z3_); (case side2 => exact z4_); rintro e w16 ⟨rfl, hi, hb, hk⟩; refine ⟨_, rfl, ?_⟩; replace HO287 := Aside0.mk (Kd.Q_mono (Kd.Q_keep (IsS136.apartQ (show IsS136 w0 _ g s0_0 t288 t289 from by repeat (first | (with_reducible first | exact HI0.out | apply IsS136.alloc | apply IsS136.drewN | apply IsS136.drew | apply IsS136.set_1 | apply IsS136.set_2) | exact HI0.out)) z84_ (by decide)) hk (fun _ h => h.2)) (fun _ h => h.1)); replace HK := Aside0.mk (KeepBut.trans z2_ hk (.inl rfl)); replace HB := Aside0.mk (hb); replace HI0 := Aside0.mk (hi); (try clear hb hk hi); obtain ⟨Ao17, co17, eo17, _⟩ := Kd.Q_slice HO287.out; subst eo17) | ((with_reducible refine gate_callee (f := 81) rfl ?_); refine goesL_ (some 20) rfl rfl Try.func81 (by kernel_rfl) rfl #[.pointer (some ⟨g, 0, none⟩), .int .i64 ji13] rfl (by (try simp only [List.map_toArray, List.map_cons, List.map_nil]); first | done | (simp only [hji13]; rfl) | rfl | (simp only [List.length_drop, List.length_take]; rfl)) ?_; (with_reducible refine (spec_l1Below.calls g s0_0 t291 t292 ji13 t299 t300 t301 w0 _ ?side1 ?side2 A14.out).mono ?_); (case side1 => exact z3_); (case side2 => exact z4_); rintro e w18 ⟨rfl, hi, hb, hk⟩; refine ⟨_, rfl, ?_⟩; replace HO287 := Aside0.mk (Kd.Q_mono (Kd.Q_keep (IsS136.apartQ (show IsS136 w0 _ g s0_0 t291 t292 from by repeat (first | (with_reducible first | exact HI0.out | apply IsS136.alloc | apply IsS136.drewN | apply IsS136.drew | apply IsS136.set_1 | apply IsS136.set_2) | exact HI0.out)) z84_ (by decide)) hk (fun _ h => h.2)) (fun _ h => h.1)); replace HK := Aside0.mk (KeepBut.trans z2_ hk (.inl rfl)); replace HB := Aside0.mk (hb); replace HI0 := Aside0.mk (hi); (try clear hb hk hi)))
  go_ret2
  exact ⟨_, by first | rfl | (simp [errW_none, errW_some] <;> rfl) | (simp only [← hji13]; first | rfl | (simp [errW_none, errW_some] <;> rfl)) | (simp [*, errW_none, errW_some] <;> rfl), z84_, z3_, z4_, z2_⟩

/-! ### spec_l1New: function 75 -/
def spec_l1New.l0 : Nat → List Int → Int → Int → Option (List Int × Int × Int)
 | 0, _, _, _ => none
 | k + 1, x0, x3, x4 => if x4 < (x0.length : Int) then (if x4 < 4000 then (if 0 ≤ x4 then (spec_l1New.l0 k x0 (Go.bits .and .i64 (wrap64 ((wrap64 ((wrap64 (x3 * 131)) + (wrap64 (rd x0 x4)))) + 7)) 1073741823) (wrap64 (x4 + 1))) else (none)) else (some (x0, 0, x3))) else (some (x0, 0, x3))
def spec_l1New.f (k : Nat) (l0 : List Int) : Option (List Int × Int × Int) := spec_l1New.l0 k l0 (wrap64 (10101 + (l0.length : Int))) 0
theorem spec_l1New.mono_l : ∀ k, (∀ y0 y1 y2, LeO (spec_l1New.l0 k y0 y1 y2) (spec_l1New.l0 (k + 1) y0 y1 y2))
 | 0 => fun _ _ _ r h => by simp [spec_l1New.l0] at h
 | k + 1 => by
  have ih0 := spec_l1New.mono_l k
  ·intro y0 y1 y2
   unfold spec_l1New.l0
   repeat' first | (with_reducible first | exact ih0 _ _ _ | exact LeO.refl _ | exact LeO.none _ | refine LeO.ite ?_ ?_ | refine LeO.bind ?_ (fun _ => ?_)) | exact ih0 _ _ _ | exact LeO.none _ | refine LeO.ite ?_ ?_ | refine LeO.bind ?_ (fun _ => ?_)
theorem spec_l1New.mono : ∀ a0 k, LeO (spec_l1New.f k a0) (spec_l1New.f (k + 1) a0) := by
 intro a0 k
 have ih0 := spec_l1New.mono_l k
 unfold spec_l1New.f
 repeat' first | (with_reducible first | exact ih0 _ _ _ | exact LeO.refl _ | exact LeO.none _ | refine LeO.ite ?_ ?_ | refine LeO.bind ?_ (fun _ => ?_)) | exact ih0 _ _ _ | exact LeO.none _ | refine LeO.ite ?_ ?_ | refine LeO.bind ?_ (fun _ => ?_)
set_option maxHeartbeats 8000000 in
set_option maxRecDepth 100000 in
theorem spec_l1New.calls (k : Nat) (A0 : Option Addr) (c0 : Nat) (l0 : List Int) (r1 : List Int) (r2 : Int) (r3 : Int) (w0 w : World) (hB : Below w0.heap.size w0 w) (hr0 : Kd.C (Kd.int .u8) w0 A0 l0.length l0) (hc0 : l0.length ≤ c0) (h : spec_l1New.f k l0 = some (r1, r2, r3)) :
  Calls Try.prog 75 #[.slice A0 l0.length c0] w fun e w' => ∃ g_ : Nat, e = .returned (.pointer (some ⟨g_, 0, none⟩)) ∧ IsS136 w0 w' g_ r1 r2 r3 ∧ Below w0.heap.size w0 w' ∧ Below w.heap.size w w' := by
 have hu136 := Try.underlying136
 have HR0 := Aside0.mk hr0
 have HC0 := Aside0.mk hc0
 clear hr0 hc0
 have HBW := Aside0.mk (Below.refl w.heap.size w)
 have HW0 := Aside0.mk hB.size
 have HB := Aside0.mk hB
 clear hB
 have H : (spec_l1New.l0 k l0 (wrap64 (10101 + (l0.length : Int))) 0) = some (r1, r2, r3) := h
 clear h
 have H' := Aside0.mk H
 clear H
 go_enter Try.func75, Try.ntmps75
 go_wp2
 go_loopg [3, 4] k (fun kq v3 v4 w' => ∃ (x3_1 : Int) (x4_1 : Int), v3 = .int .i64 x3_1 ∧ v4 = .int .i64 x4_1 ∧ Aside0 (spec_l1New.l0 kq l0 x3_1 x4_1 = some (r1, r2, r3)) ∧ Aside0 (kq ≤ k) ∧ Aside0 (Below w0.heap.size w0 w') ∧ Aside0 (Below w.heap.size w w'))
 case atStart => exact ⟨(wrap64 (10101 + (l0.length : Int))), (0), z15_, z15_, H', ⟨Nat.le_refl _⟩, ⟨z0_⟩, ⟨z77_⟩⟩
 case round =>
  clear H'
  obtain ⟨x3_1, x4_1, rfl, rfl, HA, HK1, HB, HBW2⟩ := hrel
  clear HBW
  have HBW := HBW2
  clear HBW2
  cases gk with
  | zero => exact absurd HA.out (by simp [spec_l1New.l0])
  | succ k1 =>
   have H := HA.out
   clear HA
   simp only [spec_l1New.l0] at H
   by_cases c2 : x4_1 < (l0.length : Int)
   ·rw [if_pos c2] at H
    have c2b0 : decide (x4_1 < (l0.length : Int)) = true := decide_eq_true c2
    clear c2
    by_cases c3 : x4_1 < 4000
    ·rw [if_pos c3] at H
     have c3b0 : decide (x4_1 < 4000) = true := decide_eq_true c3
     clear c3
     obtain ⟨c4b0, H⟩ := ifd_ H
     have H' := Aside0.mk H
     clear H
     have p302 : 0 ≤ (x4_1 : Int) := odt_
     have q302 : x4_1 < (l0.length : Int) := odt_
     obtain ⟨ad302, e302, hx302_0⟩ := Kd.at_int HR0.out x4_1 p302 q302
     cases e302
     replace hx302_0 := pw_cell_below HB.out hx302_0
     replace p302 := eq_true p302
     replace q302 := eq_true q302
     go_wp2
     go_roundg k1
     case measure => have := HK1.out; omega
     case rel => exact ⟨(Go.bits .and .i64 (wrap64 ((wrap64 ((wrap64 (x3_1 * 131)) + (wrap64 (rd l0 x4_1)))) + 7)) 1073741823), (wrap64 (x4_1 + 1)), z15_, z15_, H', ⟨z116_⟩, ⟨z0_⟩, ⟨z77_⟩⟩
    ·rw [if_neg c3] at H
     have c3b0 : decide (x4_1 < 4000) = false := decide_eq_false c3
     clear c3
     simp only [Option.some.injEq, Prod.mk.injEq] at H
     obtain ⟨rfl, rfl, rfl⟩ := H
     go_wp2_with (first | ((with_reducible refine gate_dst (N := 31) rfl ?_); refine box_event ?hg (N := 31) ?hd (cs := #[.slice A0 l0.length c0, .int .i64 0, .int .i64 x3_1]) (t := 136) ?hr ?_; (case hd => rfl); (case hg => rfl); (case hr => exact z35_); intro gb303 hg w5 hbox hb; replace HB := Aside0.mk (below_step z0_ hb); have BK303 := Aside0.mk (hbox); have GW303 := Aside0.mk ((by rw [hg]; exact (below_size z77_) : w.heap.size ≤ gb303)); have GE303 := Aside0.mk ((Nat.le_trans HW0.out (by rw [hg]; exact (below_size z77_) : w.heap.size ≤ gb303) : w0.heap.size ≤ gb303)); replace HBW := Aside0.mk (below_step HBW.out hb); clear hb hbox hg))
     go_ret
     exact ⟨_, rfl, (show IsS136 w0 _ gb303 l0 0 x3_1 from ⟨_, _, by (with_reducible repeat (first | refine blk_drewN ?_ _ | refine blk_drew ?_ | refine blk_alloc ?_ _)); exact BK303.out, GE303.out, HR0.out⟩), by repeat (first | (with_reducible first | exact HB.out | apply below_alloc | apply pw_below_drewN | apply below_drew1 | refine below_set ?_ GE303.out) | exact HB.out), by repeat (first | (with_reducible first | exact HBW.out | apply below_alloc | apply pw_below_drewN | apply below_drew1 | refine below_set ?_ GW303.out) | exact HBW.out)⟩
   ·rw [if_neg c2] at H
    have c2b0 : decide (x4_1 < (l0.length : Int)) = false := decide_eq_false c2
    clear c2
    simp only [Option.some.injEq, Prod.mk.injEq] at H
    obtain ⟨rfl, rfl, rfl⟩ := H
    go_wp2_with (first | ((with_reducible refine gate_dst (N := 31) rfl ?_); refine box_event ?hg (N := 31) ?hd (cs := #[.slice A0 l0.length c0, .int .i64 0, .int .i64 x3_1]) (t := 136) ?hr ?_; (case hd => rfl); (case hg => rfl); (case hr => exact z35_); intro gb304 hg w6 hbox hb; replace HB := Aside0.mk (below_step z0_ hb); have BK304 := Aside0.mk (hbox); have GW304 := Aside0.mk ((by rw [hg]; exact (below_size z77_) : w.heap.size ≤ gb304)); have GE304 := Aside0.mk ((Nat.le_trans HW0.out (by rw [hg]; exact (below_size z77_) : w.heap.size ≤ gb304) : w0.heap.size ≤ gb304)); replace HBW := Aside0.mk (below_step HBW.out hb); clear hb hbox hg))
    go_ret
    exact ⟨_, rfl, (show IsS136 w0 _ gb304 l0 0 x3_1 from ⟨_, _, by (with_reducible repeat (first | refine blk_drewN ?_ _ | refine blk_drew ?_ | refine blk_alloc ?_ _)); exact BK304.out, GE304.out, HR0.out⟩), by repeat (first | (with_reducible first | exact HB.out | apply below_alloc | apply pw_below_drewN | apply below_drew1 | refine below_set ?_ GE304.out) | exact HB.out), by repeat (first | (with_reducible first | exact HBW.out | apply below_alloc | apply pw_below_drewN | apply below_drew1 | refine below_set ?_ GW304.out) | exact HBW.out)⟩

/-! ### spec_DrawPathOf: function 23 -/
def spec_DrawPathOf.f (k : Nat) (l0 : List Int) : Option ((List (S55)) × Int) := (spec_l1New.f k l0).bind fun bt305 => ((spec_l3Where.f k bt305.1 bt305.2.1 bt305.2.2).bind fun bt309 => (some (bt309.1, bt309.2.1)))
theorem spec_DrawPathOf.mono : ∀ a0 k, LeO (spec_DrawPathOf.f k a0) (spec_DrawPathOf.f (k + 1) a0) := by
 intro a0 k
 unfold spec_DrawPathOf.f
 repeat' first | (with_reducible first | exact spec_l1New.mono _ _ | exact spec_l3Where.mono _ _ _ _ | exact LeO.refl _ | exact LeO.none _ | refine LeO.ite ?_ ?_ | refine LeO.bind ?_ (fun _ => ?_)) | exact spec_l1New.mono _ _ | exact spec_l3Where.mono _ _ _ _ | exact LeO.none _ | refine LeO.ite ?_ ?_ | refine LeO.bind ?_ (fun _ => ?_)
set_option maxHeartbeats 8000000 in
set_option maxRecDepth 100000 in
theorem spec_DrawPathOf.calls (k : Nat) (A0 : Option Addr) (c0 : Nat) (l0 : List Int) (r1 : List (S55)) (r2 : Int) (w : World) (hr0 : Kd.C (Kd.int .u8) w A0 l0.length l0) (hc0 : l0.length ≤ c0) (h : spec_DrawPathOf.f k l0 = some (r1, r2)) :
  Calls Try.prog 23 #[.slice A0 l0.length c0] w fun e w' => ∃ v0_ : Value, e = .returned (.tuple #[v0_, .int .i64 r2]) ∧ Kd.Q k55 55 w' w.heap.size (fun _ => True) v0_ r1 ∧ Below w.heap.size w w' := by
 have HR0 := Aside0.mk hr0
 have HC0 := Aside0.mk hc0
 clear hr0 hc0
 have HB := Aside0.mk (Below.refl w.heap.size w)
 have H : ((spec_l1New.f k l0).bind fun bt305 => ((spec_l3Where.f k bt305.1 bt305.2.1 bt305.2.2).bind fun bt309 => (some (bt309.1, bt309.2.1)))) = some (r1, r2) := h
 clear h
 replace H := Option.bind_eq_some_iff.mp H
 obtain ⟨⟨t305, t306, t307⟩, A20, H⟩ := H
 replace H : ((spec_l3Where.f k t305 t306 t307).bind fun bt309 => (some (bt309.1, bt309.2.1))) = some (r1, r2) := H
 have A2 := Aside0.mk A20
 clear A20
 replace H := Option.bind_eq_some_iff.mp H
 obtain ⟨⟨t309, t312, t313, t314⟩, A30, H⟩ := H
 replace H : (some (t309, t312)) = some (r1, r2) := H
 have A3 := Aside0.mk A30
 clear A30
 simp only [Option.some.injEq, Prod.mk.injEq] at H
 obtain ⟨rfl, rfl⟩ := H
 go_enter Try.func23, Try.ntmps23
 go_wp2_with (first | ((with_reducible refine gate_callee (f := 75) rfl ?_); refine goesL_ (some 5) rfl rfl Try.func75 (by kernel_rfl) rfl #[.slice A0 l0.length c0] rfl z1_ ?_; (with_reducible refine (spec_l1New.calls k _ _ l0 t305 t306 t307 w _ ?side1 ?side2 ?side3 A2.out).mono ?_); (case side1 => exact z0_); (case side2 => exact HR0.out); (case side3 => exact HC0.out); rintro e w4 ⟨g308, rfl, hi, hb, hb2⟩; refine ⟨_, rfl, ?_⟩; replace HB := Aside0.mk (hb); have HI308 := Aside0.mk (hi); (try clear hb hb2 hi)) | ((with_reducible refine gate_callee (f := 74) rfl ?_); refine goesL_ (some 6) rfl rfl Try.func74 (by kernel_rfl) rfl #[.pointer (some ⟨g308, 0, none⟩)] rfl z1_ ?_; (with_reducible refine (spec_l3Where.calls k g308 t305 t306 t307 t309 t312 t313 t314 w _ ?side1 ?side2 A3.out).mono ?_); (case side1 => repeat (first | (with_reducible first | exact HI308.out | apply IsS136.alloc | apply IsS136.drewN | apply IsS136.drew | apply IsS136.set_1 | apply IsS136.set_2) | exact HI308.out)); (case side2 => exact z103_); rintro e w5 ⟨v310, rfl, ho0, hi, hb, hk⟩; refine ⟨_, rfl, ?_⟩; have HO311 := Aside0.mk (Kd.Q_lower ho0 (below_size z103_)); replace HB := Aside0.mk (hb); replace HI308 := Aside0.mk (hi); (try clear hb hk hi ho0)))
 go_ret2
 exact ⟨_, z9_, by (with_reducible repeat (first | apply Kd.Q_alloc | apply Kd.Q_drewN | apply Kd.Q_drew)); exact HO311.out, z103_⟩

/-! ### impl_KidRank: function 77 -/
def impl_KidRank.f (k : Nat) (l0 : List (S55)) (a1 : Int) : Option (Int) := (impl_ParentOf.f k l0 a1).bind fun t315 => ((impl_KidsOf.f k l0 t315).bind fun t316 => ((slices_Index_int_int.f k t316 a1).bind fun t319 => (some t319)))
theorem impl_KidRank.mono : ∀ a0 a1 k, LeO (impl_KidRank.f k a0 a1) (impl_KidRank.f (k + 1) a0 a1) := by
 intro a0 a1 k
 unfold impl_KidRank.f
 repeat' first | (with_reducible first | exact impl_KidsOf.mono _ _ _ | exact impl_ParentOf.mono _ _ _ | exact slices_Index_int_int.mono _ _ _ | exact LeO.refl _ | exact LeO.none _ | refine LeO.ite ?_ ?_ | refine LeO.bind ?_ (fun _ => ?_)) | exact impl_KidsOf.mono _ _ _ | exact impl_ParentOf.mono _ _ _ | exact slices_Index_int_int.mono _ _ _ | exact LeO.none _ | refine LeO.ite ?_ ?_ | refine LeO.bind ?_ (fun _ => ?_)
set_option maxHeartbeats 8000000 in
set_option maxRecDepth 100000 in
theorem impl_KidRank.calls (k : Nat) (A0 : Option Addr) (c0 : Nat) (l0 : List (S55)) (a1 : Int) (r : Int) (w : World) (hr0 : Kd.C k55 w A0 l0.length l0) (hc0 : l0.length ≤ c0) (h : impl_KidRank.f k l0 a1 = some r) :
  Calls Try.prog 77 #[.slice A0 l0.length c0, .int .i64 a1] w fun e w' => e = .returned (.int .i64 r) ∧ Below w.heap.size w w' := by
 have HR0 := Aside0.mk hr0
 have HC0 := Aside0.mk hc0
 clear hr0 hc0
 have HB := Aside0.mk (Below.refl w.heap.size w)
 have H : ((impl_ParentOf.f k l0 a1).bind fun t315 => ((impl_KidsOf.f k l0 t315).bind fun t316 => ((slices_Index_int_int.f k t316 a1).bind fun t319 => (some t319)))) = some r := h
 clear h
 obtain ⟨t315, A3, H⟩ := bnd_ H
 obtain ⟨t316, A4, H⟩ := bnd_ H
 obtain ⟨t319, A5, H⟩ := bnd_ H
 obtain rfl := Option.some.inj H
 go_enter Try.func77, Try.ntmps77
 go_wp2_with (first | ((with_reducible refine gate_callee (f := 70) rfl ?_); refine goesL_ (some 8) rfl rfl Try.func70 (by kernel_rfl) rfl #[.slice A0 l0.length c0, .int .i64 a1] rfl z1_ ?_; (with_reducible refine (impl_ParentOf.calls k _ _ l0 a1 t315 _ ?side1 ?side2 A3.out).mono ?_); (case side1 => exact z14_); (case side2 => exact HC0.out); rintro e w6 ⟨rfl, hb⟩; refine ⟨_, rfl, ?_⟩; replace HB := Aside0.mk (below_step z0_ hb); (try clear hb)) | ((with_reducible refine gate_callee (f := 71) rfl ?_); refine goesL_ (some 9) rfl rfl Try.func71 (by kernel_rfl) rfl #[.slice A0 l0.length c0, .int .i64 t315] rfl z1_ ?_; (with_reducible refine (impl_KidsOf.calls k _ _ l0 t315 t316 _ ?side1 ?side2 A4.out).mono ?_); (case side1 => exact z7_); (case side2 => exact HC0.out); rintro e w7 ⟨v317, rfl, ho0, hb⟩; refine ⟨_, rfl, ?_⟩; have HO318 := Aside0.mk (Kd.R_lower ho0 (below_size z0_)); replace HB := Aside0.mk (below_step z0_ hb); (try clear hb ho0); obtain ⟨Ao8, co8, eo8⟩ := Kd.R_slice HO318.out; subst eo8) | ((with_reducible refine gate_callee (f := 72) rfl ?_); refine goesL_ (some 11) rfl rfl Try.func72 (by kernel_rfl) rfl #[.slice Ao8 t316.length co8, .int .i64 a1] rfl z1_ ?_; (with_reducible refine (slices_Index_int_int.calls k _ _ t316 a1 t319 _ ?side1 ?side2 A5.out).mono ?_); (case side1 => repeat (first | exact (Kd.R_reads' HO318.out).2.2 | (with_reducible refine Kd.C_alloc ?_ _) | (with_reducible refine Kd.C_drewN ?_ _) | (with_reducible refine Kd.C_drew ?_))); (case side2 => exact (Kd.R_reads' HO318.out).2.1); rintro e w' ⟨rfl, ⟨nd, rfl⟩⟩; refine ⟨_, rfl, ?_⟩))
 go_ret
 exact ⟨z9_, z0_⟩

end Go.Proofs.Ytmbhlfcpdbbogab.PFnPaths
