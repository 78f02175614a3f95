/- Laid by a program of this session out of the kit's print for the law FnExactPatch: what it says of the machine is proved here, function by function; each contract under the conditions that it names. -/
import Derived.Test.YtbiffnahknkoiaaMFnExactPatchx0
import Derived.Test.YtbiffnahknkoiaaMFnExactPatchx9
namespace Go.Proofs.Ytbiffnahknkoiaa.PFnExactPatch
open Go.RowKit Go.Proofs.YtbiffnahknkoiaaW.PrintWords Go.Proofs.YtbiffnahknkoiaaW.PrintLast Go.Proofs.YtbiffnahknkoiaaW.PrintMore
attribute [local go_sem] max2_int min2_int max_two min_two max_three min_three max_four min_four   -- for this text's walks alone
set_option linter.unusedVariables false
set_option linter.unusedSimpArgs false

/-! ### impl_depthOk: function 78 -/
def impl_depthOk.f (l0 : List (S45)) (a1 : Int) : Option (Bool) := if a1 = 0 then (if 0 < (l0.length : Int) then (some (((rd_T45 l0 0).f1) == 0)) else (none)) else (if 0 ≤ a1 then (if a1 < (l0.length : Int) then (if 0 ≤ (wrap64 (a1 - 1)) then (if (wrap64 (a1 - 1)) < (l0.length : Int) then ((impl_within.f ((rd_T45 l0 a1).f1) 1 (wrap64 (((rd_T45 l0 (wrap64 (a1 - 1))).f1) + 1))).bind fun t365 => (some t365)) else (none)) else (none)) else (none)) else (none))
set_option maxHeartbeats 8000000 in
set_option maxRecDepth 100000 in
theorem impl_depthOk.calls (A0 : Option Addr) (c0 : Nat) (l0 : List (S45)) (a1 : Int) (r : Bool) (w : World) (hr0 : Kd.C k45 w A0 l0.length l0) (hc0 : l0.length ≤ c0) (h : impl_depthOk.f l0 a1 = some r) :
  Calls Try.prog 78 #[.slice A0 l0.length c0, .int .i64 a1] w fun e w' => e = .returned (.bool r) ∧ Drawn0 w w' := by
 have HR0 := Aside0.mk hr0
 have HC0 := Aside0.mk hc0
 clear hr0 hc0
 have H : (if a1 = 0 then (if 0 < (l0.length : Int) then (some (((rd_T45 l0 0).f1) == 0)) else (none)) else (if 0 ≤ a1 then (if a1 < (l0.length : Int) then (if 0 ≤ (wrap64 (a1 - 1)) then (if (wrap64 (a1 - 1)) < (l0.length : Int) then ((impl_within.f ((rd_T45 l0 a1).f1) 1 (wrap64 (((rd_T45 l0 (wrap64 (a1 - 1))).f1) + 1))).bind fun t365 => (some t365)) else (none)) else (none)) else (none)) else (none))) = some r := h
 clear h
 by_cases c3 : a1 = 0
 ·rw [if_pos c3] at H
  have c3b0 : (a1 == 0) = true := beq_iff_eq.mpr c3
  have c3b1 : (a1 != 0) = false := bne_eq_false_iff_eq.mpr c3
  clear c3
  obtain ⟨c4, H⟩ := ifs_ H
  have c4b0 := decide_eq_true c4
  have c4b1 : decide (0 < l0.length) = true := decide_eq_true (by omega)
  clear c4
  obtain rfl := Option.some.inj H
  have p362 : 0 ≤ (0 : Int) := (by omega)
  have q362 : 0 < (l0.length : Int) := odt_
  obtain ⟨ad362, e362, hx362_0, hx362_1⟩ := at_T45 HR0.out 0 p362 q362
  cases e362
  have qi362 : (0 < l0.length) = True := eq_true (by omega)
  (try rw [show ((0 : Int)).toNat = 0 from rfl] at hx362_0)
  (try rw [show 0 * 2 = 0 from rfl] at hx362_0)
  (try rw [Addr.add_zero'] at hx362_0)
  (try rw [show ((0 : Int)).toNat = 0 from rfl] at hx362_1)
  (try rw [show 0 * 2 = 0 from rfl] at hx362_1)
  (try rw [Addr.add_zero'] at hx362_1)
  replace p362 := eq_true p362
  replace q362 := eq_true q362
  go_enter Try.func78, Try.ntmps78
  go_wp2
  repeat (go_quiet (fail); try go_wp2)
  go_ret
  exact ⟨z8_, z83_⟩
 ·rw [if_neg c3] at H
  have c3b0 : (a1 == 0) = false := beq_eq_false_iff_ne.mpr c3
  have c3b1 : (a1 != 0) = true := bne_iff_ne.mpr c3
  obtain ⟨c5b0, H⟩ := ifd_ H
  obtain ⟨c6b0, H⟩ := ifd_ H
  obtain ⟨ji7, hji7⟩ : ∃ j_ : Int, (wrap64 (a1 - 1)) = j_ := ⟨_, rfl⟩
  first | rw [hji7] at H | simp only [hji7] at H
  have hji7w : (IntKind.i64.wrap (a1 - 1)) = ji7 := (i64_w _).trans hji7
  obtain ⟨c8b0, H⟩ := ifd_ H
  obtain ⟨c9b0, H⟩ := ifd_ H
  obtain ⟨t365, A10, H⟩ := bnd_ H
  obtain rfl := Option.some.inj H
  obtain ⟨p363, q363, ad363, e363, hx363_0, hx363_1⟩ := ato45_ HR0 a1
  cases e363
  obtain ⟨p364, q364, ad364, e364, hx364_0, hx364_1⟩ := ato45_ HR0 (ji7)
  obtain rfl : ad363 = ad364 := (by injection e364)
  go_enter Try.func78, Try.ntmps78
  go_wp2_with (first | (go_at_call 67; (with_reducible refine (impl_within.calls ((rd_T45 l0 a1).f1) 1 (wrap64 (((rd_T45 l0 (ji7)).f1) + 1)) t365 _ A10.out).mono ?_); rintro e w' ⟨rfl, ⟨nd, rfl⟩⟩; (try first | exact ⟨rfl, _, World.drewN_drewN _ _ _⟩ | exact ⟨rfl, _, Eq.trans (World.drewN_drewN _ _ _) (congrArg (World.drewN _) (Nat.add_assoc _ _ _))⟩)))
  repeat (go_quiet (first | (go_at_call 67; (with_reducible refine (impl_within.calls ((rd_T45 l0 a1).f1) 1 (wrap64 (((rd_T45 l0 (ji7)).f1) + 1)) t365 _ A10.out).mono ?_); rintro e w' ⟨rfl, ⟨nd, rfl⟩⟩; (try first | exact ⟨rfl, _, World.drewN_drewN _ _ _⟩ | exact ⟨rfl, _, Eq.trans (World.drewN_drewN _ _ _) (congrArg (World.drewN _) (Nat.add_assoc _ _ _))⟩))); try go_wp2_with (first | (go_at_call 67; (with_reducible refine (impl_within.calls ((rd_T45 l0 a1).f1) 1 (wrap64 (((rd_T45 l0 (ji7)).f1) + 1)) t365 _ A10.out).mono ?_); rintro e w' ⟨rfl, ⟨nd, rfl⟩⟩; (try first | exact ⟨rfl, _, World.drewN_drewN _ _ _⟩ | exact ⟨rfl, _, Eq.trans (World.drewN_drewN _ _ _) (congrArg (World.drewN _) (Nat.add_assoc _ _ _))⟩))))
  go_ret
  exact ⟨by first | rfl | (simp; done) | (simp only [← hji7] <;> (first | rfl | simp)) | (simp [*]; done), z83_⟩

/-! ### impl_getNode: function 68 -/
def impl_getNode.f (k : Nat) (l0 : List (S45)) (a1 : ByteArray) : Option ((List (S45)) × ByteArray × Int) := (impl_ReadVar.f k a1).bind fun bt366 => (if bt366.2 = 0 then (some (l0, a1, 1)) else ((impl_LabelOk.f bt366.1).bind fun t368 => (if t368 = true then (if 0 ≤ bt366.2 then (if bt366.2 ≤ (a1.size : Int) then ((impl_ReadVar.f k (a1.extract (bt366.2 : Int).toNat a1.size)).bind fun bt369 => (if l0.length < 8796093022208 then ((some (l0 ++ [(⟨bt366.1, bt369.1⟩ : S45)] : List (S45))).bind fun y371 => (if bt369.2 = 0 then (some (y371, a1.extract (bt366.2 : Int).toNat a1.size, 1)) else (if bt369.1 > 12 then (some (y371, a1.extract (bt366.2 : Int).toNat a1.size, 4)) else ((impl_depthOk.f y371 (wrap64 ((y371.length : Int) - 1))).bind fun t374 => (if t374 = true then (if 0 ≤ bt369.2 then (if bt369.2 ≤ ((a1.extract (bt366.2 : Int).toNat a1.size).size : Int) then (some (y371, (a1.extract (bt366.2 : Int).toNat a1.size).extract (bt369.2 : Int).toNat (a1.extract (bt366.2 : Int).toNat a1.size).size, 0)) else (none)) else (none)) else (some (y371, a1.extract (bt366.2 : Int).toNat a1.size, 5))))))) else (none))) else (none)) else (none)) else (some (l0, a1, 3)))))
set_option maxHeartbeats 8000000 in
set_option maxRecDepth 100000 in
theorem impl_getNode.calls (k : Nat) (P0_ : Nat → Prop) (u9000_ : Value) (l0 : List (S45)) (a1 : ByteArray) (r1 : List (S45)) (r2 : ByteArray) (r3 : Int) (w0 w : World) (hB : Below w0.heap.size w0 w) (ho0 : Kd.R k45 45 w w0.heap.size P0_ u9000_ l0) (h : impl_getNode.f k l0 a1 = some (r1, r2, r3)) :
  Calls Try.prog 68 #[u9000_, .string a1] w fun e w' => ∃ v0_ : Value, e = .returned (.tuple #[v0_, .string r2, .int .i64 r3]) ∧ Kd.R k45 45 w' w0.heap.size (fun k_ => (P0_ k_ ∨ w.heap.size ≤ k_)) v0_ r1 ∧ Below w0.heap.size w0 w' ∧ Kept w w' (fun k_ => P0_ k_) := by
 have hu45 := Try.underlying45
 have HO0 := Aside0.mk (show Kd.R k45 45 w w0.heap.size (fun k_ => (P0_ k_ ∨ w.heap.size ≤ k_)) u9000_ l0 from Kd.R_mono ho0 (fun k_ hk => (.inl hk)))
 have HK := Aside0.mk (Kept.refl w (fun k_ => P0_ k_))
 have HW0 := Aside0.mk hB.size
 have HB := Aside0.mk hB
 clear hB
 have H : ((impl_ReadVar.f k a1).bind fun bt366 => (if bt366.2 = 0 then (some (l0, a1, 1)) else ((impl_LabelOk.f bt366.1).bind fun t368 => (if t368 = true then (if 0 ≤ bt366.2 then (if bt366.2 ≤ (a1.size : Int) then ((impl_ReadVar.f k (a1.extract (bt366.2 : Int).toNat a1.size)).bind fun bt369 => (if l0.length < 8796093022208 then ((some (l0 ++ [(⟨bt366.1, bt369.1⟩ : S45)] : List (S45))).bind fun y371 => (if bt369.2 = 0 then (some (y371, a1.extract (bt366.2 : Int).toNat a1.size, 1)) else (if bt369.1 > 12 then (some (y371, a1.extract (bt366.2 : Int).toNat a1.size, 4)) else ((impl_depthOk.f y371 (wrap64 ((y371.length : Int) - 1))).bind fun t374 => (if t374 = true then (if 0 ≤ bt369.2 then (if bt369.2 ≤ ((a1.extract (bt366.2 : Int).toNat a1.size).size : Int) then (some (y371, (a1.extract (bt366.2 : Int).toNat a1.size).extract (bt369.2 : Int).toNat (a1.extract (bt366.2 : Int).toNat a1.size).size, 0)) else (none)) else (none)) else (some (y371, a1.extract (bt366.2 : Int).toNat a1.size, 5))))))) else (none))) else (none)) else (none)) else (some (l0, a1, 3)))))) = some (r1, r2, r3) := h
 clear h
 replace H := Option.bind_eq_some_iff.mp H
 obtain ⟨⟨t366, t367⟩, A30, H⟩ := H
 try dsimp only at H
 have A3 := Aside0.mk A30
 clear A30
 by_cases c4 : t367 = 0
 ·rw [if_pos c4] at H
  have c4b0 : (t367 == 0) = true := beq_iff_eq.mpr c4
  have c4b1 : (t367 != 0) = false := bne_eq_false_iff_eq.mpr c4
  clear c4
  simp only [Option.some.injEq, Prod.mk.injEq] at H
  obtain ⟨rfl, rfl, rfl⟩ := H
  go_enter Try.func68, Try.ntmps68
  go_wp2_with (first | (go_at_call 66; (with_reducible refine (impl_ReadVar.calls k a1 t366 t367 _ A3.out).mono ?_); rintro e w5 ⟨rfl, hb⟩; replace HO0 := Aside0.mk (Kd.R_below z9_ hb); replace HK := Aside0.mk (Kept.below (S := (fun k_ => P0_ k_)) z7_ hb); replace HB := Aside0.mk (below_step z0_ hb); (try clear hb)))
  repeat (go_quiet (first | (go_at_call 66; (with_reducible refine (impl_ReadVar.calls k a1 t366 t367 _ A3.out).mono ?_); rintro e w5 ⟨rfl, hb⟩; replace HO0 := Aside0.mk (Kd.R_below z9_ hb); replace HK := Aside0.mk (Kept.below (S := (fun k_ => P0_ k_)) z7_ hb); replace HB := Aside0.mk (below_step z0_ hb); (try clear hb))); try go_wp2_with (first | (go_at_call 66; (with_reducible refine (impl_ReadVar.calls k a1 t366 t367 _ A3.out).mono ?_); rintro e w5 ⟨rfl, hb⟩; replace HO0 := Aside0.mk (Kd.R_below z9_ hb); replace HK := Aside0.mk (Kept.below (S := (fun k_ => P0_ k_)) z7_ hb); replace HB := Aside0.mk (below_step z0_ hb); (try clear hb))))
  go_ret3
  exact ⟨_, z3_, z9_, z0_, z7_⟩
 ·rw [if_neg c4] at H
  have c4b0 : (t367 == 0) = false := beq_eq_false_iff_ne.mpr c4
  have c4b1 : (t367 != 0) = true := bne_iff_ne.mpr c4
  obtain ⟨t368, A6, H⟩ := bnd_ H
  by_cases c7 : t368 = true
  ·subst c7
   replace H := ift_ H
   obtain ⟨c8b0, c8b1, H⟩ := ife_ H
   obtain ⟨c9b0, c9b1, H⟩ := ife_ H
   replace H := Option.bind_eq_some_iff.mp H
   obtain ⟨⟨t369, t370⟩, A100, H⟩ := H
   try dsimp only at H
   have A10 := Aside0.mk A100
   clear A100
   obtain ⟨c11, H⟩ := ifs_ H
   have LMc11 := Aside0.mk c11
   clear c11
   first | ((with_reducible have hz_ := gy_ H); obtain ⟨y371, Ny371, H⟩ := hz_) | (generalize hy_ : ((l0 ++ [(⟨t366, t369⟩ : S45)]) : List (S45)) = y371 at H; have Ny371 := Aside0.mk hy_.symm; clear hy_)
   by_cases c12 : t370 = 0
   ·rw [if_pos c12] at H
    have c12b0 : (t370 == 0) = true := beq_iff_eq.mpr c12
    have c12b1 : (t370 != 0) = false := bne_eq_false_iff_eq.mpr c12
    clear c12
    simp only [Option.some.injEq, Prod.mk.injEq] at H
    obtain ⟨rfl, rfl, rfl⟩ := H
    go_enter Try.func68, Try.ntmps68
    go_wp2_with (first | (go_at_call 66; (with_reducible refine (impl_ReadVar.calls k a1 t366 t367 _ A3.out).mono ?_); rintro e w13 ⟨rfl, hb⟩; replace HO0 := Aside0.mk (Kd.R_below z9_ hb); replace HK := Aside0.mk (Kept.below (S := (fun k_ => P0_ k_)) z7_ hb); replace HB := Aside0.mk (below_step z0_ hb); (try clear hb)) | (go_at_call 77; (with_reducible refine (impl_LabelOk.calls t366 true _ A6.out).mono ?_); rintro e w' ⟨rfl, ⟨nd, rfl⟩⟩; (try first | exact ⟨rfl, _, World.drewN_drewN _ _ _⟩ | exact ⟨rfl, _, Eq.trans (World.drewN_drewN _ _ _) (congrArg (World.drewN _) (Nat.add_assoc _ _ _))⟩)) | (go_at_call 66; (with_reducible refine (impl_ReadVar.calls k (a1.extract (t367 : Int).toNat a1.size) t369 t370 _ A10.out).mono ?_); rintro e w14 ⟨rfl, hb⟩; replace HO0 := Aside0.mk (Kd.R_below z9_ hb); replace HK := Aside0.mk (Kept.below (S := (fun k_ => P0_ k_)) z7_ hb); replace HB := Aside0.mk (below_step z0_ hb); (try clear hb)) | ((with_reducible refine gate_builtin (b := .append) (xs := #[.tmp 34, .tmp 38]) rfl ?_); at_builtin; refine Kd.R_append k45 (w0 := w0) w0.heap.size rfl (.tmp 34) (.tmp 38) 30 45 (.agg #[(.int .i64 0), (.int .i64 0)]) 16 rfl Try.underlying30 info45 rfl (by decide) (by omega) u9000_ l0 (⟨t366, t369⟩ : S45) [.int .i64 t366, .int .i64 t369] (fun k_ => (P0_ k_ ∨ w.heap.size ≤ k_)) (fun _ => False) rfl rfl ?aP (fun _ hk => hk.elim) ?aF ?aO ?aB ?aS ?aL ?_; (case aP => exact z95_); (case aB => exact z16_); (case aF => exact z28_); (case aO => exact z51_); (case aS => exact z11_); (case aL => exact z126_); intro v372 w15 ho hb hg hat; rw [← Ny371.out] at ho; replace HB := Aside0.mk (hb); replace HK := Aside0.mk (Kept.of_grown (S := (fun k_ => P0_ k_)) hg z7_ (fun k_ e_ => (HO0.out.1 k_ e_))); have HO373 := Aside0.mk (ho); clear HO0; clear ho hb hg hat))
    repeat (go_quiet (first | (go_at_call 66; (with_reducible refine (impl_ReadVar.calls k a1 t366 t367 _ A3.out).mono ?_); rintro e w13 ⟨rfl, hb⟩; replace HO0 := Aside0.mk (Kd.R_below z9_ hb); replace HK := Aside0.mk (Kept.below (S := (fun k_ => P0_ k_)) z7_ hb); replace HB := Aside0.mk (below_step z0_ hb); (try clear hb)) | (go_at_call 77; (with_reducible refine (impl_LabelOk.calls t366 true _ A6.out).mono ?_); rintro e w' ⟨rfl, ⟨nd, rfl⟩⟩; (try first | exact ⟨rfl, _, World.drewN_drewN _ _ _⟩ | exact ⟨rfl, _, Eq.trans (World.drewN_drewN _ _ _) (congrArg (World.drewN _) (Nat.add_assoc _ _ _))⟩)) | (go_at_call 66; (with_reducible refine (impl_ReadVar.calls k (a1.extract (t367 : Int).toNat a1.size) t369 t370 _ A10.out).mono ?_); rintro e w14 ⟨rfl, hb⟩; replace HO0 := Aside0.mk (Kd.R_below z9_ hb); replace HK := Aside0.mk (Kept.below (S := (fun k_ => P0_ k_)) z7_ hb); replace HB := Aside0.mk (below_step z0_ hb); (try clear hb)) | ((with_reducible refine gate_builtin (b := .append) (xs := #[.tmp 34, .tmp 38]) rfl ?_); at_builtin; refine Kd.R_append k45 (w0 := w0) w0.heap.size rfl (.tmp 34) (.tmp 38) 30 45 (.agg #[(.int .i64 0), (.int .i64 0)]) 16 rfl Try.underlying30 info45 rfl (by decide) (by omega) u9000_ l0 (⟨t366, t369⟩ : S45) [.int .i64 t366, .int .i64 t369] (fun k_ => (P0_ k_ ∨ w.heap.size ≤ k_)) (fun _ => False) rfl rfl ?aP (fun _ hk => hk.elim) ?aF ?aO ?aB ?aS ?aL ?_; (case aP => exact z95_); (case aB => exact z16_); (case aF => exact z28_); (case aO => exact z51_); (case aS => exact z11_); (case aL => exact z126_); intro v372 w15 ho hb hg hat; rw [← Ny371.out] at ho; replace HB := Aside0.mk (hb); replace HK := Aside0.mk (Kept.of_grown (S := (fun k_ => P0_ k_)) hg z7_ (fun k_ e_ => (HO0.out.1 k_ e_))); have HO373 := Aside0.mk (ho); clear HO0; clear ho hb hg hat)); try go_wp2_with (first | (go_at_call 66; (with_reducible refine (impl_ReadVar.calls k a1 t366 t367 _ A3.out).mono ?_); rintro e w13 ⟨rfl, hb⟩; replace HO0 := Aside0.mk (Kd.R_below z9_ hb); replace HK := Aside0.mk (Kept.below (S := (fun k_ => P0_ k_)) z7_ hb); replace HB := Aside0.mk (below_step z0_ hb); (try clear hb)) | (go_at_call 77; (with_reducible refine (impl_LabelOk.calls t366 true _ A6.out).mono ?_); rintro e w' ⟨rfl, ⟨nd, rfl⟩⟩; (try first | exact ⟨rfl, _, World.drewN_drewN _ _ _⟩ | exact ⟨rfl, _, Eq.trans (World.drewN_drewN _ _ _) (congrArg (World.drewN _) (Nat.add_assoc _ _ _))⟩)) | (go_at_call 66; (with_reducible refine (impl_ReadVar.calls k (a1.extract (t367 : Int).toNat a1.size) t369 t370 _ A10.out).mono ?_); rintro e w14 ⟨rfl, hb⟩; replace HO0 := Aside0.mk (Kd.R_below z9_ hb); replace HK := Aside0.mk (Kept.below (S := (fun k_ => P0_ k_)) z7_ hb); replace HB := Aside0.mk (below_step z0_ hb); (try clear hb)) | ((with_reducible refine gate_builtin (b := .append) (xs := #[.tmp 34, .tmp 38]) rfl ?_); at_builtin; refine Kd.R_append k45 (w0 := w0) w0.heap.size rfl (.tmp 34) (.tmp 38) 30 45 (.agg #[(.int .i64 0), (.int .i64 0)]) 16 rfl Try.underlying30 info45 rfl (by decide) (by omega) u9000_ l0 (⟨t366, t369⟩ : S45) [.int .i64 t366, .int .i64 t369] (fun k_ => (P0_ k_ ∨ w.heap.size ≤ k_)) (fun _ => False) rfl rfl ?aP (fun _ hk => hk.elim) ?aF ?aO ?aB ?aS ?aL ?_; (case aP => exact z95_); (case aB => exact z16_); (case aF => exact z28_); (case aO => exact z51_); (case aS => exact z11_); (case aL => exact z126_); intro v372 w15 ho hb hg hat; rw [← Ny371.out] at ho; replace HB := Aside0.mk (hb); replace HK := Aside0.mk (Kept.of_grown (S := (fun k_ => P0_ k_)) hg z7_ (fun k_ e_ => (HO0.out.1 k_ e_))); have HO373 := Aside0.mk (ho); clear HO0; clear ho hb hg hat)))
    go_ret3
    exact ⟨_, z3_, z103_, z0_, z7_⟩
   ·rw [if_neg c12] at H
    have c12b0 : (t370 == 0) = false := beq_eq_false_iff_ne.mpr c12
    have c12b1 : (t370 != 0) = true := bne_iff_ne.mpr c12
    by_cases c16 : t369 > 12
    ·rw [if_pos c16] at H
     have c16b0 := decide_eq_true c16
     clear c16
     simp only [Option.some.injEq, Prod.mk.injEq] at H
     obtain ⟨rfl, rfl, rfl⟩ := H
     go_enter Try.func68, Try.ntmps68
     go_wp2_with (first | (go_at_call 66; (with_reducible refine (impl_ReadVar.calls k a1 t366 t367 _ A3.out).mono ?_); rintro e w17 ⟨rfl, hb⟩; replace HO0 := Aside0.mk (Kd.R_below z9_ hb); replace HK := Aside0.mk (Kept.below (S := (fun k_ => P0_ k_)) z7_ hb); replace HB := Aside0.mk (below_step z0_ hb); (try clear hb)) | (go_at_call 77; (with_reducible refine (impl_LabelOk.calls t366 true _ A6.out).mono ?_); rintro e w' ⟨rfl, ⟨nd, rfl⟩⟩; (try first | exact ⟨rfl, _, World.drewN_drewN _ _ _⟩ | exact ⟨rfl, _, Eq.trans (World.drewN_drewN _ _ _) (congrArg (World.drewN _) (Nat.add_assoc _ _ _))⟩)) | (go_at_call 66; (with_reducible refine (impl_ReadVar.calls k (a1.extract (t367 : Int).toNat a1.size) t369 t370 _ A10.out).mono ?_); rintro e w18 ⟨rfl, hb⟩; replace HO0 := Aside0.mk (Kd.R_below z9_ hb); replace HK := Aside0.mk (Kept.below (S := (fun k_ => P0_ k_)) z7_ hb); replace HB := Aside0.mk (below_step z0_ hb); (try clear hb)) | ((with_reducible refine gate_builtin (b := .append) (xs := #[.tmp 34, .tmp 38]) rfl ?_); at_builtin; refine Kd.R_append k45 (w0 := w0) w0.heap.size rfl (.tmp 34) (.tmp 38) 30 45 (.agg #[(.int .i64 0), (.int .i64 0)]) 16 rfl Try.underlying30 info45 rfl (by decide) (by omega) u9000_ l0 (⟨t366, t369⟩ : S45) [.int .i64 t366, .int .i64 t369] (fun k_ => (P0_ k_ ∨ w.heap.size ≤ k_)) (fun _ => False) rfl rfl ?aP (fun _ hk => hk.elim) ?aF ?aO ?aB ?aS ?aL ?_; (case aP => exact z95_); (case aB => exact z16_); (case aF => exact z28_); (case aO => exact z51_); (case aS => exact z11_); (case aL => exact z126_); intro v372 w19 ho hb hg hat; rw [← Ny371.out] at ho; replace HB := Aside0.mk (hb); replace HK := Aside0.mk (Kept.of_grown (S := (fun k_ => P0_ k_)) hg z7_ (fun k_ e_ => (HO0.out.1 k_ e_))); have HO373 := Aside0.mk (ho); clear HO0; clear ho hb hg hat))
     repeat (go_quiet (first | (go_at_call 66; (with_reducible refine (impl_ReadVar.calls k a1 t366 t367 _ A3.out).mono ?_); rintro e w17 ⟨rfl, hb⟩; replace HO0 := Aside0.mk (Kd.R_below z9_ hb); replace HK := Aside0.mk (Kept.below (S := (fun k_ => P0_ k_)) z7_ hb); replace HB := Aside0.mk (below_step z0_ hb); (try clear hb)) | (go_at_call 77; (with_reducible refine (impl_LabelOk.calls t366 true _ A6.out).mono ?_); rintro e w' ⟨rfl, ⟨nd, rfl⟩⟩; (try first | exact ⟨rfl, _, World.drewN_drewN _ _ _⟩ | exact ⟨rfl, _, Eq.trans (World.drewN_drewN _ _ _) (congrArg (World.drewN _) (Nat.add_assoc _ _ _))⟩)) | (go_at_call 66; (with_reducible refine (impl_ReadVar.calls k (a1.extract (t367 : Int).toNat a1.size) t369 t370 _ A10.out).mono ?_); rintro e w18 ⟨rfl, hb⟩; replace HO0 := Aside0.mk (Kd.R_below z9_ hb); replace HK := Aside0.mk (Kept.below (S := (fun k_ => P0_ k_)) z7_ hb); replace HB := Aside0.mk (below_step z0_ hb); (try clear hb)) | ((with_reducible refine gate_builtin (b := .append) (xs := #[.tmp 34, .tmp 38]) rfl ?_); at_builtin; refine Kd.R_append k45 (w0 := w0) w0.heap.size rfl (.tmp 34) (.tmp 38) 30 45 (.agg #[(.int .i64 0), (.int .i64 0)]) 16 rfl Try.underlying30 info45 rfl (by decide) (by omega) u9000_ l0 (⟨t366, t369⟩ : S45) [.int .i64 t366, .int .i64 t369] (fun k_ => (P0_ k_ ∨ w.heap.size ≤ k_)) (fun _ => False) rfl rfl ?aP (fun _ hk => hk.elim) ?aF ?aO ?aB ?aS ?aL ?_; (case aP => exact z95_); (case aB => exact z16_); (case aF => exact z28_); (case aO => exact z51_); (case aS => exact z11_); (case aL => exact z126_); intro v372 w19 ho hb hg hat; rw [← Ny371.out] at ho; replace HB := Aside0.mk (hb); replace HK := Aside0.mk (Kept.of_grown (S := (fun k_ => P0_ k_)) hg z7_ (fun k_ e_ => (HO0.out.1 k_ e_))); have HO373 := Aside0.mk (ho); clear HO0; clear ho hb hg hat)); try go_wp2_with (first | (go_at_call 66; (with_reducible refine (impl_ReadVar.calls k a1 t366 t367 _ A3.out).mono ?_); rintro e w17 ⟨rfl, hb⟩; replace HO0 := Aside0.mk (Kd.R_below z9_ hb); replace HK := Aside0.mk (Kept.below (S := (fun k_ => P0_ k_)) z7_ hb); replace HB := Aside0.mk (below_step z0_ hb); (try clear hb)) | (go_at_call 77; (with_reducible refine (impl_LabelOk.calls t366 true _ A6.out).mono ?_); rintro e w' ⟨rfl, ⟨nd, rfl⟩⟩; (try first | exact ⟨rfl, _, World.drewN_drewN _ _ _⟩ | exact ⟨rfl, _, Eq.trans (World.drewN_drewN _ _ _) (congrArg (World.drewN _) (Nat.add_assoc _ _ _))⟩)) | (go_at_call 66; (with_reducible refine (impl_ReadVar.calls k (a1.extract (t367 : Int).toNat a1.size) t369 t370 _ A10.out).mono ?_); rintro e w18 ⟨rfl, hb⟩; replace HO0 := Aside0.mk (Kd.R_below z9_ hb); replace HK := Aside0.mk (Kept.below (S := (fun k_ => P0_ k_)) z7_ hb); replace HB := Aside0.mk (below_step z0_ hb); (try clear hb)) | ((with_reducible refine gate_builtin (b := .append) (xs := #[.tmp 34, .tmp 38]) rfl ?_); at_builtin; refine Kd.R_append k45 (w0 := w0) w0.heap.size rfl (.tmp 34) (.tmp 38) 30 45 (.agg #[(.int .i64 0), (.int .i64 0)]) 16 rfl Try.underlying30 info45 rfl (by decide) (by omega) u9000_ l0 (⟨t366, t369⟩ : S45) [.int .i64 t366, .int .i64 t369] (fun k_ => (P0_ k_ ∨ w.heap.size ≤ k_)) (fun _ => False) rfl rfl ?aP (fun _ hk => hk.elim) ?aF ?aO ?aB ?aS ?aL ?_; (case aP => exact z95_); (case aB => exact z16_); (case aF => exact z28_); (case aO => exact z51_); (case aS => exact z11_); (case aL => exact z126_); intro v372 w19 ho hb hg hat; rw [← Ny371.out] at ho; replace HB := Aside0.mk (hb); replace HK := Aside0.mk (Kept.of_grown (S := (fun k_ => P0_ k_)) hg z7_ (fun k_ e_ => (HO0.out.1 k_ e_))); have HO373 := Aside0.mk (ho); clear HO0; clear ho hb hg hat)))
     go_ret3
     exact ⟨_, z3_, z103_, z0_, z7_⟩
    ·rw [if_neg c16] at H
     have c16b0 := decide_eq_false c16
     clear c16
     obtain ⟨t374, A20, H⟩ := bnd_ H
     by_cases c21 : t374 = true
     ·subst c21
      replace H := ift_ H
      obtain ⟨c22b0, c22b1, H⟩ := ife_ H
      obtain ⟨c23b0, c23b1, H⟩ := ife_ H
      simp only [Option.some.injEq, Prod.mk.injEq] at H
      obtain ⟨rfl, rfl, rfl⟩ := H
      have hq_ : (a1.extract (t367 : Int).toNat a1.size).size = a1.size - (t367 : Int).toNat := by simp
      try simp only [hq_] at c23b0
      try simp only [hq_] at c23b1
      try simp only [hq_]
      go_enter Try.func68, Try.ntmps68
      go_wp2_with (first | (go_at_call 66; (with_reducible refine (impl_ReadVar.calls k a1 t366 t367 _ A3.out).mono ?_); rintro e w24 ⟨rfl, hb⟩; replace HO0 := Aside0.mk (Kd.R_below z9_ hb); replace HK := Aside0.mk (Kept.below (S := (fun k_ => P0_ k_)) z7_ hb); replace HB := Aside0.mk (below_step z0_ hb); (try clear hb)) | (go_at_call 77; (with_reducible refine (impl_LabelOk.calls t366 true _ A6.out).mono ?_); rintro e w' ⟨rfl, ⟨nd, rfl⟩⟩; (try first | exact ⟨rfl, _, World.drewN_drewN _ _ _⟩ | exact ⟨rfl, _, Eq.trans (World.drewN_drewN _ _ _) (congrArg (World.drewN _) (Nat.add_assoc _ _ _))⟩)) | (go_at_call 66; (with_reducible refine (impl_ReadVar.calls k (a1.extract (t367 : Int).toNat a1.size) t369 t370 _ A10.out).mono ?_); rintro e w25 ⟨rfl, hb⟩; replace HO0 := Aside0.mk (Kd.R_below z9_ hb); replace HK := Aside0.mk (Kept.below (S := (fun k_ => P0_ k_)) z7_ hb); replace HB := Aside0.mk (below_step z0_ hb); (try clear hb)) | ((with_reducible refine gate_builtin (b := .append) (xs := #[.tmp 34, .tmp 38]) rfl ?_); at_builtin; refine Kd.R_append k45 (w0 := w0) w0.heap.size rfl (.tmp 34) (.tmp 38) 30 45 (.agg #[(.int .i64 0), (.int .i64 0)]) 16 rfl Try.underlying30 info45 rfl (by decide) (by omega) u9000_ l0 (⟨t366, t369⟩ : S45) [.int .i64 t366, .int .i64 t369] (fun k_ => (P0_ k_ ∨ w.heap.size ≤ k_)) (fun _ => False) rfl rfl ?aP (fun _ hk => hk.elim) ?aF ?aO ?aB ?aS ?aL ?_; (case aP => exact z95_); (case aB => exact z16_); (case aF => exact z28_); (case aO => exact z51_); (case aS => exact z11_); (case aL => exact z126_); intro v372 w26 ho hb hg hat; rw [← Ny371.out] at ho; replace HB := Aside0.mk (hb); replace HK := Aside0.mk (Kept.of_grown (S := (fun k_ => P0_ k_)) hg z7_ (fun k_ e_ => (HO0.out.1 k_ e_))); have HO373 := Aside0.mk (ho); clear HO0; clear ho hb hg hat; obtain ⟨Ao27, co27, eo27⟩ := Kd.R_slice HO373.out; subst eo27) | (go_at_call 78; (with_reducible refine (impl_depthOk.calls _ _ y371 (wrap64 ((y371.length : Int) - 1)) true _ ?side1 ?side2 A20.out).mono ?_); (case side1 => exact z61_); (case side2 => exact z147_); rintro e w' ⟨rfl, ⟨nd, rfl⟩⟩; (try first | exact ⟨rfl, _, World.drewN_drewN _ _ _⟩ | exact ⟨rfl, _, Eq.trans (World.drewN_drewN _ _ _) (congrArg (World.drewN _) (Nat.add_assoc _ _ _))⟩)))
      repeat (go_quiet (first | (go_at_call 66; (with_reducible refine (impl_ReadVar.calls k a1 t366 t367 _ A3.out).mono ?_); rintro e w24 ⟨rfl, hb⟩; replace HO0 := Aside0.mk (Kd.R_below z9_ hb); replace HK := Aside0.mk (Kept.below (S := (fun k_ => P0_ k_)) z7_ hb); replace HB := Aside0.mk (below_step z0_ hb); (try clear hb)) | (go_at_call 77; (with_reducible refine (impl_LabelOk.calls t366 true _ A6.out).mono ?_); rintro e w' ⟨rfl, ⟨nd, rfl⟩⟩; (try first | exact ⟨rfl, _, World.drewN_drewN _ _ _⟩ | exact ⟨rfl, _, Eq.trans (World.drewN_drewN _ _ _) (congrArg (World.drewN _) (Nat.add_assoc _ _ _))⟩)) | (go_at_call 66; (with_reducible refine (impl_ReadVar.calls k (a1.extract (t367 : Int).toNat a1.size) t369 t370 _ A10.out).mono ?_); rintro e w25 ⟨rfl, hb⟩; replace HO0 := Aside0.mk (Kd.R_below z9_ hb); replace HK := Aside0.mk (Kept.below (S := (fun k_ => P0_ k_)) z7_ hb); replace HB := Aside0.mk (below_step z0_ hb); (try clear hb)) | ((with_reducible refine gate_builtin (b := .append) (xs := #[.tmp 34, .tmp 38]) rfl ?_); at_builtin; refine Kd.R_append k45 (w0 := w0) w0.heap.size rfl (.tmp 34) (.tmp 38) 30 45 (.agg #[(.int .i64 0), (.int .i64 0)]) 16 rfl Try.underlying30 info45 rfl (by decide) (by omega) u9000_ l0 (⟨t366, t369⟩ : S45) [.int .i64 t366, .int .i64 t369] (fun k_ => (P0_ k_ ∨ w.heap.size ≤ k_)) (fun _ => False) rfl rfl ?aP (fun _ hk => hk.elim) ?aF ?aO ?aB ?aS ?aL ?_; (case aP => exact z95_); (case aB => exact z16_); (case aF => exact z28_); (case aO => exact z51_); (case aS => exact z11_); (case aL => exact z126_); intro v372 w26 ho hb hg hat; rw [← Ny371.out] at ho; replace HB := Aside0.mk (hb); replace HK := Aside0.mk (Kept.of_grown (S := (fun k_ => P0_ k_)) hg z7_ (fun k_ e_ => (HO0.out.1 k_ e_))); have HO373 := Aside0.mk (ho); clear HO0; clear ho hb hg hat; obtain ⟨Ao27, co27, eo27⟩ := Kd.R_slice HO373.out; subst eo27) | (go_at_call 78; (with_reducible refine (impl_depthOk.calls _ _ y371 (wrap64 ((y371.length : Int) - 1)) true _ ?side1 ?side2 A20.out).mono ?_); (case side1 => exact z61_); (case side2 => exact z147_); rintro e w' ⟨rfl, ⟨nd, rfl⟩⟩; (try first | exact ⟨rfl, _, World.drewN_drewN _ _ _⟩ | exact ⟨rfl, _, Eq.trans (World.drewN_drewN _ _ _) (congrArg (World.drewN _) (Nat.add_assoc _ _ _))⟩))); try go_wp2_with (first | (go_at_call 66; (with_reducible refine (impl_ReadVar.calls k a1 t366 t367 _ A3.out).mono ?_); rintro e w24 ⟨rfl, hb⟩; replace HO0 := Aside0.mk (Kd.R_below z9_ hb); replace HK := Aside0.mk (Kept.below (S := (fun k_ => P0_ k_)) z7_ hb); replace HB := Aside0.mk (below_step z0_ hb); (try clear hb)) | (go_at_call 77; (with_reducible refine (impl_LabelOk.calls t366 true _ A6.out).mono ?_); rintro e w' ⟨rfl, ⟨nd, rfl⟩⟩; (try first | exact ⟨rfl, _, World.drewN_drewN _ _ _⟩ | exact ⟨rfl, _, Eq.trans (World.drewN_drewN _ _ _) (congrArg (World.drewN _) (Nat.add_assoc _ _ _))⟩)) | (go_at_call 66; (with_reducible refine (impl_ReadVar.calls k (a1.extract (t367 : Int).toNat a1.size) t369 t370 _ A10.out).mono ?_); rintro e w25 ⟨rfl, hb⟩; replace HO0 := Aside0.mk (Kd.R_below z9_ hb); replace HK := Aside0.mk (Kept.below (S := (fun k_ => P0_ k_)) z7_ hb); replace HB := Aside0.mk (below_step z0_ hb); (try clear hb)) | ((with_reducible refine gate_builtin (b := .append) (xs := #[.tmp 34, .tmp 38]) rfl ?_); at_builtin; refine Kd.R_append k45 (w0 := w0) w0.heap.size rfl (.tmp 34) (.tmp 38) 30 45 (.agg #[(.int .i64 0), (.int .i64 0)]) 16 rfl Try.underlying30 info45 rfl (by decide) (by omega) u9000_ l0 (⟨t366, t369⟩ : S45) [.int .i64 t366, .int .i64 t369] (fun k_ => (P0_ k_ ∨ w.heap.size ≤ k_)) (fun _ => False) rfl rfl ?aP (fun _ hk => hk.elim) ?aF ?aO ?aB ?aS ?aL ?_; (case aP => exact z95_); (case aB => exact z16_); (case aF => exact z28_); (case aO => exact z51_); (case aS => exact z11_); (case aL => exact z126_); intro v372 w26 ho hb hg hat; rw [← Ny371.out] at ho; replace HB := Aside0.mk (hb); replace HK := Aside0.mk (Kept.of_grown (S := (fun k_ => P0_ k_)) hg z7_ (fun k_ e_ => (HO0.out.1 k_ e_))); have HO373 := Aside0.mk (ho); clear HO0; clear ho hb hg hat; obtain ⟨Ao27, co27, eo27⟩ := Kd.R_slice HO373.out; subst eo27) | (go_at_call 78; (with_reducible refine (impl_depthOk.calls _ _ y371 (wrap64 ((y371.length : Int) - 1)) true _ ?side1 ?side2 A20.out).mono ?_); (case side1 => exact z61_); (case side2 => exact z147_); rintro e w' ⟨rfl, ⟨nd, rfl⟩⟩; (try first | exact ⟨rfl, _, World.drewN_drewN _ _ _⟩ | exact ⟨rfl, _, Eq.trans (World.drewN_drewN _ _ _) (congrArg (World.drewN _) (Nat.add_assoc _ _ _))⟩))))
      go_ret3
      exact ⟨_, z3_, z103_, z0_, z7_⟩
     ·replace c21 := Bool.eq_false_iff.mpr c21
      subst c21
      replace H := iff_ H
      simp only [Option.some.injEq, Prod.mk.injEq] at H
      obtain ⟨rfl, rfl, rfl⟩ := H
      go_enter Try.func68, Try.ntmps68
      go_wp2_with (first | (go_at_call 66; (with_reducible refine (impl_ReadVar.calls k a1 t366 t367 _ A3.out).mono ?_); rintro e w28 ⟨rfl, hb⟩; replace HO0 := Aside0.mk (Kd.R_below z9_ hb); replace HK := Aside0.mk (Kept.below (S := (fun k_ => P0_ k_)) z7_ hb); replace HB := Aside0.mk (below_step z0_ hb); (try clear hb)) | (go_at_call 77; (with_reducible refine (impl_LabelOk.calls t366 true _ A6.out).mono ?_); rintro e w' ⟨rfl, ⟨nd, rfl⟩⟩; (try first | exact ⟨rfl, _, World.drewN_drewN _ _ _⟩ | exact ⟨rfl, _, Eq.trans (World.drewN_drewN _ _ _) (congrArg (World.drewN _) (Nat.add_assoc _ _ _))⟩)) | (go_at_call 66; (with_reducible refine (impl_ReadVar.calls k (a1.extract (t367 : Int).toNat a1.size) t369 t370 _ A10.out).mono ?_); rintro e w29 ⟨rfl, hb⟩; replace HO0 := Aside0.mk (Kd.R_below z9_ hb); replace HK := Aside0.mk (Kept.below (S := (fun k_ => P0_ k_)) z7_ hb); replace HB := Aside0.mk (below_step z0_ hb); (try clear hb)) | ((with_reducible refine gate_builtin (b := .append) (xs := #[.tmp 34, .tmp 38]) rfl ?_); at_builtin; refine Kd.R_append k45 (w0 := w0) w0.heap.size rfl (.tmp 34) (.tmp 38) 30 45 (.agg #[(.int .i64 0), (.int .i64 0)]) 16 rfl Try.underlying30 info45 rfl (by decide) (by omega) u9000_ l0 (⟨t366, t369⟩ : S45) [.int .i64 t366, .int .i64 t369] (fun k_ => (P0_ k_ ∨ w.heap.size ≤ k_)) (fun _ => False) rfl rfl ?aP (fun _ hk => hk.elim) ?aF ?aO ?aB ?aS ?aL ?_; (case aP => exact z95_); (case aB => exact z16_); (case aF => exact z28_); (case aO => exact z51_); (case aS => exact z11_); (case aL => exact z126_); intro v372 w30 ho hb hg hat; rw [← Ny371.out] at ho; replace HB := Aside0.mk (hb); replace HK := Aside0.mk (Kept.of_grown (S := (fun k_ => P0_ k_)) hg z7_ (fun k_ e_ => (HO0.out.1 k_ e_))); have HO373 := Aside0.mk (ho); clear HO0; clear ho hb hg hat; obtain ⟨Ao31, co31, eo31⟩ := Kd.R_slice HO373.out; subst eo31) | (go_at_call 78; (with_reducible refine (impl_depthOk.calls _ _ y371 (wrap64 ((y371.length : Int) - 1)) false _ ?side1 ?side2 A20.out).mono ?_); (case side1 => exact z61_); (case side2 => exact z147_); rintro e w' ⟨rfl, ⟨nd, rfl⟩⟩; (try first | exact ⟨rfl, _, World.drewN_drewN _ _ _⟩ | exact ⟨rfl, _, Eq.trans (World.drewN_drewN _ _ _) (congrArg (World.drewN _) (Nat.add_assoc _ _ _))⟩)))
      repeat (go_quiet (first | (go_at_call 66; (with_reducible refine (impl_ReadVar.calls k a1 t366 t367 _ A3.out).mono ?_); rintro e w28 ⟨rfl, hb⟩; replace HO0 := Aside0.mk (Kd.R_below z9_ hb); replace HK := Aside0.mk (Kept.below (S := (fun k_ => P0_ k_)) z7_ hb); replace HB := Aside0.mk (below_step z0_ hb); (try clear hb)) | (go_at_call 77; (with_reducible refine (impl_LabelOk.calls t366 true _ A6.out).mono ?_); rintro e w' ⟨rfl, ⟨nd, rfl⟩⟩; (try first | exact ⟨rfl, _, World.drewN_drewN _ _ _⟩ | exact ⟨rfl, _, Eq.trans (World.drewN_drewN _ _ _) (congrArg (World.drewN _) (Nat.add_assoc _ _ _))⟩)) | (go_at_call 66; (with_reducible refine (impl_ReadVar.calls k (a1.extract (t367 : Int).toNat a1.size) t369 t370 _ A10.out).mono ?_); rintro e w29 ⟨rfl, hb⟩; replace HO0 := Aside0.mk (Kd.R_below z9_ hb); replace HK := Aside0.mk (Kept.below (S := (fun k_ => P0_ k_)) z7_ hb); replace HB := Aside0.mk (below_step z0_ hb); (try clear hb)) | ((with_reducible refine gate_builtin (b := .append) (xs := #[.tmp 34, .tmp 38]) rfl ?_); at_builtin; refine Kd.R_append k45 (w0 := w0) w0.heap.size rfl (.tmp 34) (.tmp 38) 30 45 (.agg #[(.int .i64 0), (.int .i64 0)]) 16 rfl Try.underlying30 info45 rfl (by decide) (by omega) u9000_ l0 (⟨t366, t369⟩ : S45) [.int .i64 t366, .int .i64 t369] (fun k_ => (P0_ k_ ∨ w.heap.size ≤ k_)) (fun _ => False) rfl rfl ?aP (fun _ hk => hk.elim) ?aF ?aO ?aB ?aS ?aL ?_; (case aP => exact z95_); (case aB => exact z16_); (case aF => exact z28_); (case aO => exact z51_); (case aS => exact z11_); (case aL => exact z126_); intro v372 w30 ho hb hg hat; rw [← Ny371.out] at ho; replace HB := Aside0.mk (hb); replace HK := Aside0.mk (Kept.of_grown (S := (fun k_ => P0_ k_)) hg z7_ (fun k_ e_ => (HO0.out.1 k_ e_))); have HO373 := Aside0.mk (ho); clear HO0; clear ho hb hg hat; obtain ⟨Ao31, co31, eo31⟩ := Kd.R_slice HO373.out; subst eo31) | (go_at_call 78; (with_reducible refine (impl_depthOk.calls _ _ y371 (wrap64 ((y371.length : Int) - 1)) false _ ?side1 ?side2 A20.out).mono ?_); (case side1 => exact z61_); (case side2 => exact z147_); rintro e w' ⟨rfl, ⟨nd, rfl⟩⟩; (try first | exact ⟨rfl, _, World.drewN_drewN _ _ _⟩ | exact ⟨rfl, _, Eq.trans (World.drewN_drewN _ _ _) (congrArg (World.drewN _) (Nat.add_assoc _ _ _))⟩))); try go_wp2_with (first | (go_at_call 66; (with_reducible refine (impl_ReadVar.calls k a1 t366 t367 _ A3.out).mono ?_); rintro e w28 ⟨rfl, hb⟩; replace HO0 := Aside0.mk (Kd.R_below z9_ hb); replace HK := Aside0.mk (Kept.below (S := (fun k_ => P0_ k_)) z7_ hb); replace HB := Aside0.mk (below_step z0_ hb); (try clear hb)) | (go_at_call 77; (with_reducible refine (impl_LabelOk.calls t366 true _ A6.out).mono ?_); rintro e w' ⟨rfl, ⟨nd, rfl⟩⟩; (try first | exact ⟨rfl, _, World.drewN_drewN _ _ _⟩ | exact ⟨rfl, _, Eq.trans (World.drewN_drewN _ _ _) (congrArg (World.drewN _) (Nat.add_assoc _ _ _))⟩)) | (go_at_call 66; (with_reducible refine (impl_ReadVar.calls k (a1.extract (t367 : Int).toNat a1.size) t369 t370 _ A10.out).mono ?_); rintro e w29 ⟨rfl, hb⟩; replace HO0 := Aside0.mk (Kd.R_below z9_ hb); replace HK := Aside0.mk (Kept.below (S := (fun k_ => P0_ k_)) z7_ hb); replace HB := Aside0.mk (below_step z0_ hb); (try clear hb)) | ((with_reducible refine gate_builtin (b := .append) (xs := #[.tmp 34, .tmp 38]) rfl ?_); at_builtin; refine Kd.R_append k45 (w0 := w0) w0.heap.size rfl (.tmp 34) (.tmp 38) 30 45 (.agg #[(.int .i64 0), (.int .i64 0)]) 16 rfl Try.underlying30 info45 rfl (by decide) (by omega) u9000_ l0 (⟨t366, t369⟩ : S45) [.int .i64 t366, .int .i64 t369] (fun k_ => (P0_ k_ ∨ w.heap.size ≤ k_)) (fun _ => False) rfl rfl ?aP (fun _ hk => hk.elim) ?aF ?aO ?aB ?aS ?aL ?_; (case aP => exact z95_); (case aB => exact z16_); (case aF => exact z28_); (case aO => exact z51_); (case aS => exact z11_); (case aL => exact z126_); intro v372 w30 ho hb hg hat; rw [← Ny371.out] at ho; replace HB := Aside0.mk (hb); replace HK := Aside0.mk (Kept.of_grown (S := (fun k_ => P0_ k_)) hg z7_ (fun k_ e_ => (HO0.out.1 k_ e_))); have HO373 := Aside0.mk (ho); clear HO0; clear ho hb hg hat; obtain ⟨Ao31, co31, eo31⟩ := Kd.R_slice HO373.out; subst eo31) | (go_at_call 78; (with_reducible refine (impl_depthOk.calls _ _ y371 (wrap64 ((y371.length : Int) - 1)) false _ ?side1 ?side2 A20.out).mono ?_); (case side1 => exact z61_); (case side2 => exact z147_); rintro e w' ⟨rfl, ⟨nd, rfl⟩⟩; (try first | exact ⟨rfl, _, World.drewN_drewN _ _ _⟩ | exact ⟨rfl, _, Eq.trans (World.drewN_drewN _ _ _) (congrArg (World.drewN _) (Nat.add_assoc _ _ _))⟩))))
      go_ret3
      exact ⟨_, z3_, z103_, z0_, z7_⟩
  ·replace c7 := Bool.eq_false_iff.mpr c7
   subst c7
   replace H := iff_ H
   simp only [Option.some.injEq, Prod.mk.injEq] at H
   obtain ⟨rfl, rfl, rfl⟩ := H
   go_enter Try.func68, Try.ntmps68
   go_wp2_with (first | (go_at_call 66; (with_reducible refine (impl_ReadVar.calls k a1 t366 t367 _ A3.out).mono ?_); rintro e w32 ⟨rfl, hb⟩; replace HO0 := Aside0.mk (Kd.R_below z9_ hb); replace HK := Aside0.mk (Kept.below (S := (fun k_ => P0_ k_)) z7_ hb); replace HB := Aside0.mk (below_step z0_ hb); (try clear hb)) | (go_at_call 77; (with_reducible refine (impl_LabelOk.calls t366 false _ A6.out).mono ?_); rintro e w' ⟨rfl, ⟨nd, rfl⟩⟩; (try first | exact ⟨rfl, _, World.drewN_drewN _ _ _⟩ | exact ⟨rfl, _, Eq.trans (World.drewN_drewN _ _ _) (congrArg (World.drewN _) (Nat.add_assoc _ _ _))⟩)))
   repeat (go_quiet (first | (go_at_call 66; (with_reducible refine (impl_ReadVar.calls k a1 t366 t367 _ A3.out).mono ?_); rintro e w32 ⟨rfl, hb⟩; replace HO0 := Aside0.mk (Kd.R_below z9_ hb); replace HK := Aside0.mk (Kept.below (S := (fun k_ => P0_ k_)) z7_ hb); replace HB := Aside0.mk (below_step z0_ hb); (try clear hb)) | (go_at_call 77; (with_reducible refine (impl_LabelOk.calls t366 false _ A6.out).mono ?_); rintro e w' ⟨rfl, ⟨nd, rfl⟩⟩; (try first | exact ⟨rfl, _, World.drewN_drewN _ _ _⟩ | exact ⟨rfl, _, Eq.trans (World.drewN_drewN _ _ _) (congrArg (World.drewN _) (Nat.add_assoc _ _ _))⟩))); try go_wp2_with (first | (go_at_call 66; (with_reducible refine (impl_ReadVar.calls k a1 t366 t367 _ A3.out).mono ?_); rintro e w32 ⟨rfl, hb⟩; replace HO0 := Aside0.mk (Kd.R_below z9_ hb); replace HK := Aside0.mk (Kept.below (S := (fun k_ => P0_ k_)) z7_ hb); replace HB := Aside0.mk (below_step z0_ hb); (try clear hb)) | (go_at_call 77; (with_reducible refine (impl_LabelOk.calls t366 false _ A6.out).mono ?_); rintro e w' ⟨rfl, ⟨nd, rfl⟩⟩; (try first | exact ⟨rfl, _, World.drewN_drewN _ _ _⟩ | exact ⟨rfl, _, Eq.trans (World.drewN_drewN _ _ _) (congrArg (World.drewN _) (Nat.add_assoc _ _ _))⟩))))
   go_ret3
   exact ⟨_, z3_, z9_, z0_, z7_⟩

/-! ### impl_GetTree: function 33 -/
def impl_GetTree.l0 : Nat → List (S45) → ByteArray → Int → Int → Option ((List (S45)) × Int)
 | 0, _, _, _, _ => none
 | k + 1, x6, x7, x27, x28 => if x28 < x27 then ((impl_getNode.f k x6 x7).bind fun bt387 => (if bt387.2.2 = 0 then (impl_GetTree.l0 k bt387.1 bt387.2.1 x27 (wrap64 (x28 + 1))) else (some ((([] : List (S45))), bt387.2.2)))) else (if x7.toList = ([] : List UInt8) then (some (x6, 0)) else (some ((([] : List (S45))), 6)))
def impl_GetTree.f (k : Nat) (a0 : ByteArray) : Option ((List (S45)) × Int) := (impl_ReadVar.f k a0).bind fun bt375 => (if bt375.2 = 0 then (some ((([] : List (S45))), 1)) else ((impl_within.f bt375.1 1 24).bind fun t380 => (if t380 = true then (if 0 ≤ bt375.2 then (if bt375.2 ≤ (a0.size : Int) then (impl_GetTree.l0 k (([] : List (S45))) (a0.extract (bt375.2 : Int).toNat a0.size) bt375.1 0) else (none)) else (none)) else (some ((([] : List (S45))), 2)))))
set_option maxHeartbeats 8000000 in
set_option maxRecDepth 100000 in
theorem impl_GetTree.calls (k : Nat) (a0 : ByteArray) (r1 : List (S45)) (r2 : Int) (w : World) (h : impl_GetTree.f k a0 = some (r1, r2)) :
  Calls Try.prog 33 #[.string a0] w fun e w' => ∃ v0_ : Value, e = .returned (.tuple #[v0_, .int .i64 r2]) ∧ Kd.R k45 45 w' w.heap.size (fun _ => True) v0_ r1 ∧ Below w.heap.size w w' := by
 have HB := Aside0.mk (Below.refl w.heap.size w)
 have H : ((impl_ReadVar.f k a0).bind fun bt375 => (if bt375.2 = 0 then (some ((([] : List (S45))), 1)) else ((impl_within.f bt375.1 1 24).bind fun t380 => (if t380 = true then (if 0 ≤ bt375.2 then (if bt375.2 ≤ (a0.size : Int) then (impl_GetTree.l0 k (([] : List (S45))) (a0.extract (bt375.2 : Int).toNat a0.size) bt375.1 0) else (none)) else (none)) else (some ((([] : List (S45))), 2)))))) = some (r1, r2) := h
 clear h
 replace H := Option.bind_eq_some_iff.mp H
 obtain ⟨⟨t375, t376⟩, A20, H⟩ := H
 try dsimp only at H
 have A2 := Aside0.mk A20
 clear A20
 by_cases c3 : t376 = 0
 ·rw [if_pos c3] at H
  have c3b0 : (t376 == 0) = true := beq_iff_eq.mpr c3
  have c3b1 : (t376 != 0) = false := bne_eq_false_iff_eq.mpr c3
  clear c3
  first | ((with_reducible have hz_ := gy_ H); obtain ⟨y377, Ny377, H⟩ := hz_) | (generalize hy_ : ((([] : List (S45))) : List (S45)) = y377 at H; have Ny377 := Aside0.mk hy_.symm; clear hy_)
  simp only [Option.some.injEq, Prod.mk.injEq] at H
  obtain ⟨rfl, rfl⟩ := H
  go_enter Try.func33, Try.ntmps33
  go_wp2_with (first | ((with_reducible refine gate_callee (f := 66) rfl ?_); refine goesL_ (some 11) rfl rfl Try.func66 (by kernel_rfl) rfl #[.string a0] rfl z1_ ?_; (with_reducible refine (impl_ReadVar.calls k a0 t375 t376 _ A2.out).mono ?_); rintro e w4 ⟨rfl, hb⟩; refine ⟨_, rfl, ?_⟩; replace HB := Aside0.mk (below_step z0_ hb); (try clear hb)) | ((with_reducible refine gate_dst (N := 17) rfl ?_); refine Kd.R_lit k45 _ 45 ?hg (N := 17) ?hd (xs := ([] : List (S45))) (inner := []) (ok := fun _ => True) (okp := fun _ => True) ?hr ?hp (fun _ hk => hk) trivial (Below.refl _ _) (Nat.le_refl _) (by simp) ?_; (case hd => rfl); (case hg => rfl); (case hr => exact z10_); (case hp => exact z75_); intro v378 w5 ho6 hb hg_ hnew_; clear hg_ hnew_; (first | rw [← Ny377.out] at ho6 | (simp only [Int.reduceToNat] at ho6; rw [← Ny377.out] at ho6)); have HO379 := Aside0.mk (Kd.R_lower ho6 (below_size z0_)); replace HB := Aside0.mk (below_step z0_ hb); clear hb ho6))
  go_ret2
  exact ⟨_, z3_, by (with_reducible repeat (first | apply Kd.R_alloc | apply Kd.R_drewN | apply Kd.R_drew)); exact HO379.out, z0_⟩
 ·rw [if_neg c3] at H
  have c3b0 : (t376 == 0) = false := beq_eq_false_iff_ne.mpr c3
  have c3b1 : (t376 != 0) = true := bne_iff_ne.mpr c3
  obtain ⟨t380, A7, H⟩ := bnd_ H
  by_cases c8 : t380 = true
  ·subst c8
   replace H := ift_ H
   first | ((with_reducible have hz_ := gy_ H); obtain ⟨y384, Ny384, H⟩ := hz_) | (generalize hy_ : ((([] : List (S45))) : List (S45)) = y384 at H; have Ny384 := Aside0.mk hy_.symm; clear hy_)
   obtain ⟨c9b0, c9b1, H⟩ := ife_ H
   obtain ⟨c10b0, c10b1, H⟩ := ife_ H
   have H' := Aside0.mk H
   clear H
   go_enter Try.func33, Try.ntmps33
   try go_wp2_with (first | ((with_reducible refine gate_callee (f := 66) rfl ?_); refine goesL_ (some 11) rfl rfl Try.func66 (by kernel_rfl) rfl #[.string a0] rfl z1_ ?_; (with_reducible refine (impl_ReadVar.calls k a0 t375 t376 _ A2.out).mono ?_); rintro e w11 ⟨rfl, hb⟩; refine ⟨_, rfl, ?_⟩; replace HB := Aside0.mk (below_step z0_ hb); (try clear hb)) | ((with_reducible refine gate_callee (f := 67) rfl ?_); refine goesL_ (some 20) rfl rfl Try.func67 (by kernel_rfl) rfl #[.int .i64 t375, .int .i64 1, .int .i64 24] rfl z1_ ?_; (with_reducible refine (impl_within.calls t375 1 24 true _ A7.out).mono ?_); rintro e w' ⟨rfl, ⟨nd, rfl⟩⟩; refine ⟨_, rfl, ?_⟩))
   (try (rw [drewN_self w11]; generalize hq_ : World.drewN w11 _ = w11; have n0_ : Aside0 (Below w.heap.size w w11) := ⟨by rw [← hq_]; exact z0_⟩; clear HB hq_; have HB := n0_; clear n0_))
   have n0_ := Aside0.mk (below_drew1 HB.out)
   clear HB
   have HB := n0_
   clear n0_
   refine start_ (n := 7) (S := fun w' => True) (ds := []) (fl_ 7 0) (by kernel_rfl) rfl (fl_zero _) trivial (fun hHeld => ?_)
   generalize w11.drew = w12 at HB hHeld ⊢
   refine pure_ (i := 1) (N := some 24) (v := ?_) (a' := ?_) #[false, true, false, false, false, false, false] rfl rfl (by kernel_rfl) (fun _ _ _ h => h) (Or.inl ⟨by rfl, ?_⟩) ?_ ?_
   rotate_left
   ·intro w'
    go_simp
    with_reducible rfl
   rotate_left
   ·simp only [Act.put, List.setIfInBounds_toArray, List.set_cons_zero, List.set_cons_succ, i64_w, i32_w]
    rfl
   refine pure_ (i := 2) (N := some 25) (v := ?_) (a' := ?_) #[false, true, true, false, false, false, false] rfl rfl (by kernel_rfl) (fun _ _ _ h => h) (Or.inl ⟨by rfl, ?_⟩) ?_ ?_
   rotate_left
   ·intro w'
    go_simp
    with_reducible rfl
   rotate_left
   ·simp only [Act.put, List.setIfInBounds_toArray, List.set_cons_zero, List.set_cons_succ, i64_w, i32_w]
    rfl
   refine pure_ (i := 3) (N := some 26) (v := ?_) (a' := ?_) #[false, true, true, true, false, false, false] rfl rfl (by kernel_rfl) (fun _ _ _ h => h) (Or.inl ⟨by rfl, ?_⟩) ?_ ?_
   rotate_left
   ·intro w'
    go_simp
    with_reducible rfl
   rotate_left
   ·simp only [Act.put, List.setIfInBounds_toArray, List.set_cons_zero, List.set_cons_succ, i64_w, i32_w]
    rfl
   refine one_ (i := 0) (N := some 23) (fl_ 7 4) rfl rfl (by kernel_rfl) (by decide) (fun K hK => ?_)
   refine Kd.R_lit_step k45 _ 45 ?hg (N := 23) ?hd (xs := ([] : List (S45))) (inner := []) (ok := fun _ => True) (okp := fun _ => True) ?hr ?hp (fun _ hk => hk) trivial (Below.refl _ _) (Nat.le_refl _) (by simp) ?_; (case hd => rfl); (case hg => rfl); (case hr => exact z10_); (case hp => exact z75_)
   intro v385 w13 ho14 hb hg_ hnew_
   clear hg_ hnew_
   (first | rw [← Ny384.out] at ho14 | (simp only [Int.reduceToNat] at ho14; rw [← Ny384.out] at ho14))
   have n0_ := Aside0.mk (Kd.R_lower ho14 (below_size z0_))
   have n1_ := Aside0.mk (below_step z0_ hb)
   clear HB
   have HO386 := n0_
   have HB := n1_
   clear n0_ n1_
   clear hb ho14
   refine hK.out _ _ trivial (fun hHeld => ?_)
   clear hK K
   refine zn_ rfl ?_
   refine pure_ (i := 4) (N := some 6) (v := ?_) (a' := ?_) #[true, true, true, true, true, false, false] rfl rfl (by kernel_rfl) (fun _ _ _ h => h) (Or.inl ⟨by rfl, ?_⟩) ?_ ?_
   rotate_left
   ·intro w'
    go_simp
    with_reducible rfl
   rotate_left
   ·simp only [Act.put, List.setIfInBounds_toArray, List.set_cons_zero, List.set_cons_succ, i64_w, i32_w]
    rfl
   refine pure_ (i := 5) (N := some 7) (v := ?_) (a' := ?_) #[true, true, true, true, true, true, false] rfl rfl (by kernel_rfl) (fun _ _ _ h => h) (Or.inl ⟨by rfl, ?_⟩) ?_ ?_
   rotate_left
   ·intro w'
    go_simp
    with_reducible rfl
   rotate_left
   ·simp only [Act.put, List.setIfInBounds_toArray, List.set_cons_zero, List.set_cons_succ, i64_w, i32_w]
    rfl
   refine pure_ (i := 6) (N := some 8) (v := ?_) (a' := ?_) #[true, true, true, true, true, true, true] rfl rfl (by kernel_rfl) (fun _ _ _ h => h) (Or.inl ⟨by rfl, ?_⟩) ?_ ?_
   rotate_left
   ·intro w'
    go_simp
    with_reducible rfl
   rotate_left
   ·simp only [Act.put, List.setIfInBounds_toArray, List.set_cons_zero, List.set_cons_succ, i64_w, i32_w]
    rfl
   refine done_ (by kernel_rfl) ?_
   try go_wp2
   go_loopg [6, 7, 28] k (fun kq v6 v7 v28 w' => ∃ (x6_1 : List (S45)) (x7_1 : ByteArray) (x28_1 : Int), v7 = .string x7_1 ∧ v28 = .int .i64 x28_1 ∧ Aside0 (impl_GetTree.l0 kq x6_1 x7_1 t375 x28_1 = some (r1, r2)) ∧ Aside0 (kq ≤ k) ∧ Aside0 (Kd.R k45 45 w' w.heap.size (fun _ => True) v6 x6_1) ∧ Aside0 (Below w.heap.size w w'))
   case atStart => exact ⟨(y384), (a0.extract (t376 : Int).toNat a0.size), (0), z8_, z8_, H', ⟨Nat.le_refl _⟩, ⟨by (with_reducible repeat (first | apply Kd.R_alloc | apply Kd.R_drewN | apply Kd.R_drew)); exact HO386.out⟩, ⟨z0_⟩⟩
   case round =>
    clear H'
    try clear c1
    try clear p2
    try clear c3
    try clear c3b0
    try clear c3b1
    try clear c6
    try clear c8
    try clear c9
    try clear c9b0
    try clear c9b1
    try clear c10
    try clear c10b0
    try clear c10b1
    obtain ⟨x6_1, x7_1, x28_1, rfl, rfl, HA, HK1, HO_6, HB⟩ := hrel
    cases gk with
    | zero => exact absurd HA.out (by simp [impl_GetTree.l0])
    | succ k1 =>
     have H := HA.out
     clear HA
     simp only [impl_GetTree.l0] at H
     by_cases c15 : x28_1 < t375
     ·rw [if_pos c15] at H
      have c15b0 := decide_eq_true c15
      clear c15
      replace H := Option.bind_eq_some_iff.mp H
      obtain ⟨⟨t387, t390, t391⟩, A160, H⟩ := H
      try dsimp only at H
      have A16 := Aside0.mk A160
      clear A160
      by_cases c17 : t391 = 0
      ·rw [if_pos c17] at H
       have c17b0 : (t391 == 0) = true := beq_iff_eq.mpr c17
       have c17b1 : (t391 != 0) = false := bne_eq_false_iff_eq.mpr c17
       clear c17
       have H' := Aside0.mk H
       clear H
       obtain ⟨Ao18, co18, eo18⟩ := Kd.R_slice HO_6.out
       subst eo18
       go_wp2_with (first | ((with_reducible refine gate_callee (f := 68) rfl ?_); refine goesL_ (some 33) rfl rfl Try.func68 (by kernel_rfl) rfl #[.slice Ao18 x6_1.length co18, .string x7_1] rfl z1_ ?_; (with_reducible refine (impl_getNode.calls k1 (fun k_ => some k_ = (.slice Ao18 x6_1.length co18 : Value).ownBlock) (.slice Ao18 x6_1.length co18) x6_1 x7_1 t387 t390 t391 w _ ?side1 ?side2 A16.out).mono ?_); (case side1 => exact z0_); (case side2 => exact z154_); rintro e w19 ⟨v388, rfl, ho0, hb, hkp⟩; refine ⟨_, rfl, ?_⟩; have HO389 := Aside0.mk (Kd.R_mono (ok' := fun k_ => True) ho0 (fun k_ hk_ => trivial)); replace HB := Aside0.mk (hb); clear HO_6; (try clear hb hkp ho0)))
       go_roundg k1
       case measure => have := HK1.out; omega
       case rel => exact ⟨(t387), (t390), (wrap64 (x28_1 + 1)), z8_, z8_, H', ⟨z93_⟩, ⟨z122_⟩, ⟨z0_⟩⟩
      ·rw [if_neg c17] at H
       have c17b0 : (t391 == 0) = false := beq_eq_false_iff_ne.mpr c17
       have c17b1 : (t391 != 0) = true := bne_iff_ne.mpr c17
       first | ((with_reducible have hz_ := gy_ H); obtain ⟨y392, Ny392, H⟩ := hz_) | (generalize hy_ : ((([] : List (S45))) : List (S45)) = y392 at H; have Ny392 := Aside0.mk hy_.symm; clear hy_)
       simp only [Option.some.injEq, Prod.mk.injEq] at H
       obtain ⟨rfl, rfl⟩ := H
       obtain ⟨Ao20, co20, eo20⟩ := Kd.R_slice HO_6.out
       subst eo20
       go_wp2_with (first | ((with_reducible refine gate_callee (f := 68) rfl ?_); refine goesL_ (some 33) rfl rfl Try.func68 (by kernel_rfl) rfl #[.slice Ao20 x6_1.length co20, .string x7_1] rfl z1_ ?_; (with_reducible refine (impl_getNode.calls k1 (fun k_ => some k_ = (.slice Ao20 x6_1.length co20 : Value).ownBlock) (.slice Ao20 x6_1.length co20) x6_1 x7_1 t387 t390 t391 w _ ?side1 ?side2 A16.out).mono ?_); (case side1 => exact z0_); (case side2 => exact z154_); rintro e w21 ⟨v388, rfl, ho0, hb, hkp⟩; refine ⟨_, rfl, ?_⟩; have HO389 := Aside0.mk (Kd.R_mono (ok' := fun k_ => True) ho0 (fun k_ hk_ => trivial)); replace HB := Aside0.mk (hb); clear HO_6; (try clear hb hkp ho0)) | ((with_reducible refine gate_dst (N := 39) rfl ?_); refine Kd.R_lit k45 _ 45 ?hg (N := 39) ?hd (xs := ([] : List (S45))) (inner := []) (ok := fun _ => True) (okp := fun _ => True) ?hr ?hp (fun _ hk => hk) trivial (Below.refl _ _) (Nat.le_refl _) (by simp) ?_; (case hd => rfl); (case hg => rfl); (case hr => exact z10_); (case hp => exact z75_); intro v393 w22 ho23 hb hg_ hnew_; clear hg_ hnew_; (first | rw [← Ny392.out] at ho23 | (simp only [Int.reduceToNat] at ho23; rw [← Ny392.out] at ho23)); have HO394 := Aside0.mk (Kd.R_lower (Kd.R_new' ho23 (Kd.R_lt z122_)) (below_size z0_)); replace HO389 := Aside0.mk (Kd.R_elder' z122_ (Kd.R_base ho23) hb); replace HB := Aside0.mk (below_step z0_ hb); clear hb ho23))
       go_ret2
       exact ⟨_, z3_, by (with_reducible repeat (first | apply Kd.R_alloc | apply Kd.R_drewN | apply Kd.R_drew)); exact Kd.R_mono HO394.out (fun _ hk => trivial), z0_⟩
     ·rw [if_neg c15] at H
      have c15b0 := decide_eq_false c15
      clear c15
      by_cases c24 : x7_1.toList = ([] : List UInt8)
      ·rw [if_pos c24] at H
       have c24b0 : (x7_1.toList == ([] : List UInt8)) = true := beq_iff_eq.mpr c24
       have c24b1 : (x7_1.toList != ([] : List UInt8)) = false := bne_eq_false_iff_eq.mpr c24
       clear c24
       simp only [Option.some.injEq, Prod.mk.injEq] at H
       obtain ⟨rfl, rfl⟩ := H
       go_wp2
       go_ret2
       exact ⟨_, z3_, z62_, z0_⟩
      ·rw [if_neg c24] at H
       have c24b0 : (x7_1.toList == ([] : List UInt8)) = false := beq_eq_false_iff_ne.mpr c24
       have c24b1 : (x7_1.toList != ([] : List UInt8)) = true := bne_iff_ne.mpr c24
       first | ((with_reducible have hz_ := gy_ H); obtain ⟨y395, Ny395, H⟩ := hz_) | (generalize hy_ : ((([] : List (S45))) : List (S45)) = y395 at H; have Ny395 := Aside0.mk hy_.symm; clear hy_)
       simp only [Option.some.injEq, Prod.mk.injEq] at H
       obtain ⟨rfl, rfl⟩ := H
       go_wp2_with (first | ((with_reducible refine gate_dst (N := 44) rfl ?_); refine Kd.R_lit k45 _ 45 ?hg (N := 44) ?hd (xs := ([] : List (S45))) (inner := []) (ok := fun _ => True) (okp := fun _ => True) ?hr ?hp (fun _ hk => hk) trivial (Below.refl _ _) (Nat.le_refl _) (by simp) ?_; (case hd => rfl); (case hg => rfl); (case hr => exact z10_); (case hp => exact z75_); intro v396 w25 ho26 hb hg_ hnew_; clear hg_ hnew_; (first | rw [← Ny395.out] at ho26 | (simp only [Int.reduceToNat] at ho26; rw [← Ny395.out] at ho26)); have HO397 := Aside0.mk (Kd.R_lower (Kd.R_new' ho26 (Kd.R_lt z62_)) (below_size z0_)); replace HO_6 := Aside0.mk (Kd.R_elder' z62_ (Kd.R_base ho26) hb); replace HB := Aside0.mk (below_step z0_ hb); clear hb ho26))
       go_ret2
       exact ⟨_, z3_, by (with_reducible repeat (first | apply Kd.R_alloc | apply Kd.R_drewN | apply Kd.R_drew)); exact Kd.R_mono HO397.out (fun _ hk => trivial), z0_⟩
  ·replace c8 := Bool.eq_false_iff.mpr c8
   subst c8
   replace H := iff_ H
   first | ((with_reducible have hz_ := gy_ H); obtain ⟨y381, Ny381, H⟩ := hz_) | (generalize hy_ : ((([] : List (S45))) : List (S45)) = y381 at H; have Ny381 := Aside0.mk hy_.symm; clear hy_)
   simp only [Option.some.injEq, Prod.mk.injEq] at H
   obtain ⟨rfl, rfl⟩ := H
   go_enter Try.func33, Try.ntmps33
   go_wp2_with (first | ((with_reducible refine gate_callee (f := 66) rfl ?_); refine goesL_ (some 11) rfl rfl Try.func66 (by kernel_rfl) rfl #[.string a0] rfl z1_ ?_; (with_reducible refine (impl_ReadVar.calls k a0 t375 t376 _ A2.out).mono ?_); rintro e w27 ⟨rfl, hb⟩; refine ⟨_, rfl, ?_⟩; replace HB := Aside0.mk (below_step z0_ hb); (try clear hb)) | ((with_reducible refine gate_callee (f := 67) rfl ?_); refine goesL_ (some 20) rfl rfl Try.func67 (by kernel_rfl) rfl #[.int .i64 t375, .int .i64 1, .int .i64 24] rfl z1_ ?_; (with_reducible refine (impl_within.calls t375 1 24 false _ A7.out).mono ?_); rintro e w' ⟨rfl, ⟨nd, rfl⟩⟩; refine ⟨_, rfl, ?_⟩) | ((with_reducible refine gate_dst (N := 22) rfl ?_); refine Kd.R_lit k45 _ 45 ?hg (N := 22) ?hd (xs := ([] : List (S45))) (inner := []) (ok := fun _ => True) (okp := fun _ => True) ?hr ?hp (fun _ hk => hk) trivial (Below.refl _ _) (Nat.le_refl _) (by simp) ?_; (case hd => rfl); (case hg => rfl); (case hr => exact z10_); (case hp => exact z75_); intro v382 w28 ho29 hb hg_ hnew_; clear hg_ hnew_; (first | rw [← Ny381.out] at ho29 | (simp only [Int.reduceToNat] at ho29; rw [← Ny381.out] at ho29)); have HO383 := Aside0.mk (Kd.R_lower ho29 (below_size z0_)); replace HB := Aside0.mk (below_step z0_ hb); clear hb ho29))
   go_ret2
   exact ⟨_, z3_, by (with_reducible repeat (first | apply Kd.R_alloc | apply Kd.R_drewN | apply Kd.R_drew)); exact HO383.out, z0_⟩

/-- A state of type 109 at block g of W; what its slices lead to came in by w0. -/
def IsS109 (w0 W : World) (g : Nat) (f0 : ByteArray) (f1 : Int) : Prop := W.heap[g]? = some (.cells #[.string f0, .int .i64 f1] 109 (0, 0)) ∧ w0.heap.size ≤ g
theorem IsS109.grown {w0 W : World} {g : Nat} {f0 : ByteArray} {f1 : Int} {W1 : World} {row : Option Nat} (h : IsS109 w0 W g f0 f1) (hw : W.grownBy W1 row) (hne : some g ≠ row) : IsS109 w0 W1 g f0 f1 := by
 obtain ⟨hb, hg⟩ := h
 exact ⟨blk_grown hb hw hne, hg⟩
theorem IsS109.own_neN {w0 W : World} {g : Nat} {f0 : ByteArray} {f1 : Int} {α : Type} {d : Kd α} {e : Nat} {base : Nat} {ok : Nat → Prop} {v : Value} {xs : List α} (h : IsS109 w0 W g f0 f1) (ho : Kd.N d e W base ok v xs) (ht : e ≠ 109) : some g ≠ v.ownBlock := by
 obtain ⟨hb, hg⟩ := h
 exact Kd.N_ne ho hb ht
theorem IsS109.fresh {w0 W : World} {g : Nat} {f0 : ByteArray} {f1 : Int} (h : IsS109 w0 W g f0 f1) : ∀ k, W.heap.size ≤ k → k ≠ g := by
 obtain ⟨hb, hg⟩ := h
 exact Kd.freshB hb
theorem IsS109.kept {w0 W : World} {g : Nat} {f0 : ByteArray} {f1 : Int} {W1 : World} {S : Nat → Prop} (h : IsS109 w0 W g f0 f1) (hk : Kept W W1 S) (hne : ¬ S g) : IsS109 w0 W1 g f0 f1 := by
 obtain ⟨hb, hg⟩ := h
 exact ⟨blk_kept hb hk hne, hg⟩
theorem IsS109.below {w0 W : World} {g : Nat} {f0 : ByteArray} {f1 : Int} {W1 : World} (h : IsS109 w0 W g f0 f1) (hw : Below W.heap.size W W1) : IsS109 w0 W1 g f0 f1 := h.grown (grown_of_below hw none) (by simp)
theorem IsS109.alloc {w0 W : World} {g : Nat} {f0 : ByteArray} {f1 : Int} (h : IsS109 w0 W g f0 f1) (o : Obj) : IsS109 w0 (W.alloc o) g f0 f1 := h.below (below_alloc (Below.refl _ _) o)
theorem IsS109.drewN {w0 W : World} {g : Nat} {f0 : ByteArray} {f1 : Int} (h : IsS109 w0 W g f0 f1) (m : Nat) : IsS109 w0 (W.drewN m) g f0 f1 := h
theorem IsS109.drew {w0 W : World} {g : Nat} {f0 : ByteArray} {f1 : Int} (h : IsS109 w0 W g f0 f1) : IsS109 w0 W.drew g f0 f1 := h
theorem IsS109.at_ {w0 W : World} {g : Nat} {f0 : ByteArray} {f1 : Int} {w' : World} {m : Nat} (hq : W.drewN m = w') (h : IsS109 w0 W g f0 f1) : IsS109 w0 w' g f0 f1 := by subst hq; exact IsS109.drewN h m
theorem IsS109.apart {w0 W : World} {g : Nat} {f0 : ByteArray} {f1 : Int} {α : Type} {d : Kd α} {e : Nat} {base : Nat} {ok : Nat → Prop} {v : Value} {xs : List α} (h : IsS109 w0 W g f0 f1) (ho : d.R e W base ok v xs) (ht : ∀ q, q ∈ e :: d.E → q ≠ 109) : d.R e W base (fun k => ok k ∧ k ≠ g) v xs := by
 obtain ⟨hb, hg⟩ := h
 exact Kd.R_types ho hb ht
theorem IsS109.own_ne {w0 W : World} {g : Nat} {f0 : ByteArray} {f1 : Int} {α : Type} {d : Kd α} {e : Nat} {base : Nat} {ok : Nat → Prop} {v : Value} {xs : List α} (h : IsS109 w0 W g f0 f1) (ho : d.R e W base ok v xs) (ht : e ≠ 109) : some g ≠ v.ownBlock := by
 obtain ⟨hb, hg⟩ := h
 exact Kd.R_ne ho hb ht
theorem IsS109.apartQ {w0 W : World} {g : Nat} {f0 : ByteArray} {f1 : Int} {α : Type} {d : Kd α} {e : Nat} {base : Nat} {ok : Nat → Prop} {v : Value} {xs : List α} (h : IsS109 w0 W g f0 f1) (ho : d.Q e W base ok v xs) (ht : ∀ q, q ∈ e :: d.E → q ≠ 109) : d.Q e W base (fun k => ok k ∧ k ≠ g) v xs := by
 obtain ⟨hb, hg⟩ := h
 exact Kd.Q_types ho hb ht
theorem IsS109.own_neQ {w0 W : World} {g : Nat} {f0 : ByteArray} {f1 : Int} {α : Type} {d : Kd α} {e : Nat} {base : Nat} {ok : Nat → Prop} {v : Value} {xs : List α} (h : IsS109 w0 W g f0 f1) (ho : d.Q e W base ok v xs) (ht : e ≠ 109) : some g ≠ v.ownBlock := by
 obtain ⟨hb, hg⟩ := h
 exact Kd.Q_ne ho hb ht
theorem IsS109.apartS {w0 W : World} {g : Nat} {f0 : ByteArray} {f1 : Int} {α : Type} {d : Kd α} {e : Nat} {base : Nat} {ok : Nat → Prop} {v : Value} {xs : List α} (h : IsS109 w0 W g f0 f1) (ho : d.S e W base ok v xs) (ht : ∀ q, q ∈ e :: d.E → q ≠ 109) : d.S e W base (fun k => ok k ∧ k ≠ g) v xs := by
 obtain ⟨hb, hg⟩ := h
 exact Kd.S_types ho hb ht
theorem IsS109.own_neS {w0 W : World} {g : Nat} {f0 : ByteArray} {f1 : Int} {α : Type} {d : Kd α} {e : Nat} {base : Nat} {ok : Nat → Prop} {v : Value} {xs : List α} (h : IsS109 w0 W g f0 f1) (ho : d.S e W base ok v xs) (ht : e ≠ 109) : some g ≠ v.ownBlock := by
 obtain ⟨hb, hg⟩ := h
 exact Kd.S_ne ho hb ht
theorem IsS109.lt {w0 W : World} {g : Nat} {f0 : ByteArray} {f1 : Int} (h : IsS109 w0 W g f0 f1) : g < W.heap.size := by
 obtain ⟨hb, hg⟩ := h
 exact blk_lt hb
theorem IsS109.ge {w0 W : World} {g : Nat} {f0 : ByteArray} {f1 : Int} (h : IsS109 w0 W g f0 f1) : w0.heap.size ≤ g := by
 obtain ⟨hb, hg⟩ := h
 exact hg
theorem IsS109.ne_blk {w0 W : World} {g : Nat} {f0 : ByteArray} {f1 : Int} {a : Nat} {cs : Array Value} {t : TypeId} {fr : Nat × Nat} (h : IsS109 w0 W g f0 f1) (hb2 : W.heap[a]? = some (.cells cs t fr)) (ht : t ≠ 109) : g ≠ a := by
 obtain ⟨hb, hg⟩ := h
 rintro rfl
 rw [hb] at hb2
 injection hb2 with hb2
 injection hb2 with _ ht2
 exact ht ht2.symm
theorem IsS109.far {w0 W : World} {g : Nat} {f0 : ByteArray} {f1 : Int} {p : Addr} (h : IsS109 w0 W g f0 f1) (hne : g ≠ p.block) (u : Value) : IsS109 w0 (W.setCell p u) g f0 f1 := by
 obtain ⟨hb, hg⟩ := h
 exact ⟨blk_far hb hne u, hg⟩
theorem cellS109_0 {W : World} {g : Nat} {f0 : ByteArray} {f1 : Int} (h : W.heap[g]? = some (.cells #[.string f0, .int .i64 f1] 109 (0, 0))) : W.cell? ⟨g, 0, none⟩ = some (.string f0) := (blk_cell h 0).trans rfl
theorem IsS109.set_0 {w0 W : World} {g : Nat} {f0 : ByteArray} {f1 : Int} (h : IsS109 w0 W g f0 f1) (x : ByteArray) : IsS109 w0 (W.setCell ⟨g, 0, none⟩ (.string x)) g x f1 := by
 obtain ⟨hb, hg⟩ := h
 exact ⟨by simpa using blk_set hb 0 (.string x), hg⟩
theorem cellS109_1 {W : World} {g : Nat} {f0 : ByteArray} {f1 : Int} (h : W.heap[g]? = some (.cells #[.string f0, .int .i64 f1] 109 (0, 0))) : W.cell? ⟨g, 1, none⟩ = some (.int .i64 f1) := (blk_cell h 1).trans rfl
theorem IsS109.set_1 {w0 W : World} {g : Nat} {f0 : ByteArray} {f1 : Int} (h : IsS109 w0 W g f0 f1) (x : Int) : IsS109 w0 (W.setCell ⟨g, 1, none⟩ (.int .i64 x)) g f0 x := by
 obtain ⟨hb, hg⟩ := h
 exact ⟨by simpa using blk_set hb 1 (.int .i64 x), hg⟩
theorem IsS109.new (w0 W : World) (f0 : ByteArray) (f1 : Int) (hB : Below w0.heap.size w0 W) : IsS109 w0 (W.alloc (.cells #[.string f0, .int .i64 f1] 109)) W.heap.size f0 f1 := ⟨by simpa using heap_alloc_new W _, hB.size⟩

/-! ### impl_script_number: function 69 -/
def impl_script_number.f (k : Nat) (s0_0 : ByteArray) (s0_1 : Int) (a1 : Int) (a2 : Int) (a3 : Int) : Option (Int × ByteArray × Int) := if s0_1 = 0 then ((impl_ReadVar.f k s0_0).bind fun bt399 => (if bt399.2 = 0 then (some (0, s0_0, 1)) else ((impl_within.f bt399.1 a1 a2).bind fun t401 => (if t401 = true then (if 0 ≤ bt399.2 then (if bt399.2 ≤ (s0_0.size : Int) then (some (bt399.1, s0_0.extract (bt399.2 : Int).toNat s0_0.size, s0_1)) else (none)) else (none)) else (some (0, s0_0, a3)))))) else (some (0, s0_0, s0_1))
set_option maxHeartbeats 8000000 in
set_option maxRecDepth 100000 in
theorem impl_script_number.calls (k : Nat) (g : Nat) (s0_0 : ByteArray) (s0_1 : Int) (a1 : Int) (a2 : Int) (a3 : Int) (r1 : Int) (r2 : ByteArray) (r3 : Int) (w0 w : World) (hI : IsS109 w0 w g s0_0 s0_1) (hB : Below w0.heap.size w0 w) (h : impl_script_number.f k s0_0 s0_1 a1 a2 a3 = some (r1, r2, r3)) :
  Calls Try.prog 69 #[.pointer (some ⟨g, 0, none⟩), .int .i64 a1, .int .i64 a2, .int .i64 a3] w fun e w' => e = .returned (.int .i64 r1) ∧ IsS109 w0 w' g r2 r3 ∧ Below w0.heap.size w0 w' ∧ KeepBut w w' g none := by
 have HI0 := Aside0.mk hI
 have HK := Aside0.mk (KeepBut.refl w g none)
 have HL := Aside0.mk hB.size
 clear hI
 have HW0 := Aside0.mk hB.size
 have HB := Aside0.mk hB
 clear hB
 have H : (if s0_1 = 0 then ((impl_ReadVar.f k s0_0).bind fun bt399 => (if bt399.2 = 0 then (some (0, s0_0, 1)) else ((impl_within.f bt399.1 a1 a2).bind fun t401 => (if t401 = true then (if 0 ≤ bt399.2 then (if bt399.2 ≤ (s0_0.size : Int) then (some (bt399.1, s0_0.extract (bt399.2 : Int).toNat s0_0.size, s0_1)) else (none)) else (none)) else (some (0, s0_0, a3)))))) else (some (0, s0_0, s0_1))) = some (r1, r2, r3) := h
 clear h
 by_cases c5 : s0_1 = 0
 ·rw [if_pos c5] at H
  have c5b0 : (s0_1 == 0) = true := beq_iff_eq.mpr c5
  have c5b1 : (s0_1 != 0) = false := bne_eq_false_iff_eq.mpr c5
  clear c5
  replace H := Option.bind_eq_some_iff.mp H
  obtain ⟨⟨t399, t400⟩, A60, H⟩ := H
  try dsimp only at H
  have A6 := Aside0.mk A60
  clear A60
  by_cases c7 : t400 = 0
  ·rw [if_pos c7] at H
   have c7b0 : (t400 == 0) = true := beq_iff_eq.mpr c7
   have c7b1 : (t400 != 0) = false := bne_eq_false_iff_eq.mpr c7
   clear c7
   simp only [Option.some.injEq, Prod.mk.injEq] at H
   obtain ⟨rfl, rfl, rfl⟩ := H
   obtain ⟨HGz8, hgz8⟩ := HI0.out
   have hcz8_0 := cellS109_0 HGz8
   have hcz8_1 := cellS109_1 HGz8
   have hfz8_0 := blk_frozen HGz8 0
   have hfz8_1 := blk_frozen HGz8 1
   clear HGz8 hgz8
   go_enter Try.func69, Try.ntmps69
   go_wp2_with (first | ((with_reducible refine gate_callee (f := 66) rfl ?_); refine goesL_ (some 21) rfl rfl Try.func66 (by kernel_rfl) rfl #[.string s0_0] rfl z1_ ?_; (with_reducible refine (impl_ReadVar.calls k s0_0 t399 t400 _ A6.out).mono ?_); rintro e w9 ⟨rfl, hb⟩; refine ⟨_, rfl, ?_⟩; replace HK := Aside0.mk (KeepBut.trans z32_ (KeepBut.of_below hb g none) (.inl rfl)); replace HB := Aside0.mk (below_step z44_ hb); replace HI0 := Aside0.mk (IsS109.below z43_ hb); (try clear hb); obtain ⟨HGz10, hgz10⟩ := HI0.out; have hcz10_0 := cellS109_0 HGz10; have hcz10_1 := cellS109_1 HGz10; have hfz10_0 := blk_frozen HGz10 0; have hfz10_1 := blk_frozen HGz10 1; clear HGz10 hgz10))
   go_ret
   exact ⟨z3_, z43_, z44_, z32_⟩
  ·rw [if_neg c7] at H
   have c7b0 : (t400 == 0) = false := beq_eq_false_iff_ne.mpr c7
   have c7b1 : (t400 != 0) = true := bne_iff_ne.mpr c7
   obtain ⟨t401, A11, H⟩ := bnd_ H
   by_cases c12 : t401 = true
   ·subst c12
    replace H := ift_ H
    obtain ⟨c13b0, c13b1, H⟩ := ife_ H
    obtain ⟨c14b0, c14b1, H⟩ := ife_ H
    simp only [Option.some.injEq, Prod.mk.injEq] at H
    obtain ⟨rfl, rfl, rfl⟩ := H
    obtain ⟨HGz15, hgz15⟩ := HI0.out
    have hcz15_0 := cellS109_0 HGz15
    have hcz15_1 := cellS109_1 HGz15
    have hfz15_0 := blk_frozen HGz15 0
    have hfz15_1 := blk_frozen HGz15 1
    clear HGz15 hgz15
    go_enter Try.func69, Try.ntmps69
    go_wp2_with (first | ((with_reducible refine gate_callee (f := 66) rfl ?_); refine goesL_ (some 21) rfl rfl Try.func66 (by kernel_rfl) rfl #[.string s0_0] rfl z1_ ?_; (with_reducible refine (impl_ReadVar.calls k s0_0 t399 t400 _ A6.out).mono ?_); rintro e w16 ⟨rfl, hb⟩; refine ⟨_, rfl, ?_⟩; replace HK := Aside0.mk (KeepBut.trans z32_ (KeepBut.of_below hb g none) (.inl rfl)); replace HB := Aside0.mk (below_step z44_ hb); replace HI0 := Aside0.mk (IsS109.below z43_ hb); (try clear hb)) | ((with_reducible refine gate_callee (f := 67) rfl ?_); refine goesL_ (some 44) rfl rfl Try.func67 (by kernel_rfl) rfl #[.int .i64 t399, .int .i64 a1, .int .i64 a2] rfl z1_ ?_; (with_reducible refine (impl_within.calls t399 a1 a2 true _ A11.out).mono ?_); rintro e w' ⟨rfl, ⟨nd, rfl⟩⟩; refine ⟨_, rfl, ?_⟩; (try (rw [drewN_self w16]; generalize hq_ : World.drewN w16 _ = w16; have n0_ : Aside0 (IsS109 w0 w16 g s0_0 s0_1) := ⟨z106_⟩; have n1_ : Aside0 (KeepBut w w16 g none) := ⟨z118_⟩; have n2_ : Aside0 (Below w0.heap.size w0 w16) := ⟨z108_⟩; clear HI0 HK HB hq_; have HI0 := n0_; have HK := n1_; have HB := n2_; clear n0_ n1_ n2_)); obtain ⟨HGz17, hgz17⟩ := HI0.out; have hcz17_0 := cellS109_0 HGz17; have hcz17_1 := cellS109_1 HGz17; have hfz17_0 := blk_frozen HGz17 0; have hfz17_1 := blk_frozen HGz17 1; clear HGz17 hgz17))
    go_ret
    exact ⟨z3_, z43_, z44_, z32_⟩
   ·replace c12 := Bool.eq_false_iff.mpr c12
    subst c12
    replace H := iff_ H
    simp only [Option.some.injEq, Prod.mk.injEq] at H
    obtain ⟨rfl, rfl, rfl⟩ := H
    obtain ⟨HGz18, hgz18⟩ := HI0.out
    have hcz18_0 := cellS109_0 HGz18
    have hcz18_1 := cellS109_1 HGz18
    have hfz18_0 := blk_frozen HGz18 0
    have hfz18_1 := blk_frozen HGz18 1
    clear HGz18 hgz18
    go_enter Try.func69, Try.ntmps69
    go_wp2_with (first | ((with_reducible refine gate_callee (f := 66) rfl ?_); refine goesL_ (some 21) rfl rfl Try.func66 (by kernel_rfl) rfl #[.string s0_0] rfl z1_ ?_; (with_reducible refine (impl_ReadVar.calls k s0_0 t399 t400 _ A6.out).mono ?_); rintro e w19 ⟨rfl, hb⟩; refine ⟨_, rfl, ?_⟩; replace HK := Aside0.mk (KeepBut.trans z32_ (KeepBut.of_below hb g none) (.inl rfl)); replace HB := Aside0.mk (below_step z44_ hb); replace HI0 := Aside0.mk (IsS109.below z43_ hb); (try clear hb)) | ((with_reducible refine gate_callee (f := 67) rfl ?_); refine goesL_ (some 44) rfl rfl Try.func67 (by kernel_rfl) rfl #[.int .i64 t399, .int .i64 a1, .int .i64 a2] rfl z1_ ?_; (with_reducible refine (impl_within.calls t399 a1 a2 false _ A11.out).mono ?_); rintro e w' ⟨rfl, ⟨nd, rfl⟩⟩; refine ⟨_, rfl, ?_⟩; (try (rw [drewN_self w19]; generalize hq_ : World.drewN w19 _ = w19; have n0_ : Aside0 (IsS109 w0 w19 g s0_0 s0_1) := ⟨z106_⟩; have n1_ : Aside0 (KeepBut w w19 g none) := ⟨z118_⟩; have n2_ : Aside0 (Below w0.heap.size w0 w19) := ⟨z108_⟩; clear HI0 HK HB hq_; have HI0 := n0_; have HK := n1_; have HB := n2_; clear n0_ n1_ n2_)); obtain ⟨HGz20, hgz20⟩ := HI0.out; have hcz20_0 := cellS109_0 HGz20; have hcz20_1 := cellS109_1 HGz20; have hfz20_0 := blk_frozen HGz20 0; have hfz20_1 := blk_frozen HGz20 1; clear HGz20 hgz20))
    go_ret
    exact ⟨z3_, z43_, z44_, z32_⟩
 ·rw [if_neg c5] at H
  have c5b0 : (s0_1 == 0) = false := beq_eq_false_iff_ne.mpr c5
  have c5b1 : (s0_1 != 0) = true := bne_iff_ne.mpr c5
  simp only [Option.some.injEq, Prod.mk.injEq] at H
  obtain ⟨rfl, rfl, rfl⟩ := H
  obtain ⟨HGz21, hgz21⟩ := HI0.out
  have hcz21_0 := cellS109_0 HGz21
  have hcz21_1 := cellS109_1 HGz21
  have hfz21_0 := blk_frozen HGz21 0
  have hfz21_1 := blk_frozen HGz21 1
  clear HGz21 hgz21
  go_enter Try.func69, Try.ntmps69
  go_wp2
  go_ret
  exact ⟨z3_, z43_, z44_, z32_⟩

end Go.Proofs.Ytbiffnahknkoiaa.PFnExactPatch
