/- Laid by a program of this session out of the kit's print for the law FnExactHistAt: what it says of the machine is proved here, function by function; each contract under the conditions that it names. -/
import Derived.Test.YtdapeboajjidmaaMFnExactHistAtx0
import Derived.Test.YtdapeboajjidmaaMFnExactHistAtx9
namespace Go.Proofs.Ytdapeboajjidmaa.PFnExactHistAt
open Go.RowKit Go.Proofs.YtdapeboajjidmaaW.PrintWords Go.Proofs.YtdapeboajjidmaaW.PrintLast Go.Proofs.YtdapeboajjidmaaW.PrintMore
attribute [local go_sem] max2_int min2_int max_two min_two max_three min_three max_four min_four   -- for this text's walks alone
set_option linter.unusedVariables false
set_option linter.unusedSimpArgs false

/-! ### impl_hasNode: function 131 -/
def impl_hasNode.f (k : Nat) (l0 : List (S80)) (a1 : Int) : Option (Bool) := (impl_TreeOk.f k l0).bind fun t349 => (if t349 = true then ((impl_within.f a1 0 (wrap64 ((l0.length : Int) - 1))).bind fun t350 => (some t350)) else (some false))
set_option maxHeartbeats 8000000 in
set_option maxRecDepth 100000 in
theorem impl_hasNode.calls (k : Nat) (A0 : Option Addr) (c0 : Nat) (l0 : List (S80)) (a1 : Int) (r : Bool) (w : World) (hr0 : Kd.C k80 w A0 l0.length l0) (hc0 : l0.length ≤ c0) (h : impl_hasNode.f k l0 a1 = some r) :
  Calls Try.prog 131 #[.slice A0 l0.length c0, .int .i64 a1] w fun e w' => e = .returned (.bool r) ∧ Below w.heap.size w w' := by
 have HR0 := Aside0.mk hr0
 have HC0 := Aside0.mk hc0
 clear hr0 hc0
 have HB := Aside0.mk (Below.refl w.heap.size w)
 have H : ((impl_TreeOk.f k l0).bind fun t349 => (if t349 = true then ((impl_within.f a1 0 (wrap64 ((l0.length : Int) - 1))).bind fun t350 => (some t350)) else (some false))) = some r := h
 clear h
 obtain ⟨t349, A3, H⟩ := bnd_ H
 by_cases c4 : t349 = true
 ·subst c4
  replace H := ift_ H
  obtain ⟨t350, A5, H⟩ := bnd_ H
  obtain rfl := Option.some.inj H
  go_enter Try.func131, Try.ntmps131
  go_wp2_with (first | ((with_reducible refine gate_callee (f := 50) rfl ?_); refine goesL_ (some 6) rfl rfl Try.func50 (by kernel_rfl) rfl #[.slice A0 l0.length c0] rfl z1_ ?_; (with_reducible refine (impl_TreeOk.calls k _ _ l0 true _ ?side1 ?side2 A3.out).mono ?_); (case side1 => exact z19_); (case side2 => exact HC0.out); rintro e w6 ⟨rfl, hb⟩; refine ⟨_, rfl, ?_⟩; replace HB := Aside0.mk (below_step z0_ hb); (try clear hb)) | (go_at_call 63; (with_reducible refine (impl_within.calls a1 0 (wrap64 ((l0.length : Int) - 1)) t350 _ A5.out).mono ?_); rintro e w' ⟨rfl, ⟨nd, rfl⟩⟩))
  go_ret
  exact ⟨z3_, z0_⟩
 ·replace c4 := Bool.eq_false_iff.mpr c4
  subst c4
  replace H := iff_ H
  obtain rfl := Option.some.inj H
  go_enter Try.func131, Try.ntmps131
  go_wp2_with (first | ((with_reducible refine gate_callee (f := 50) rfl ?_); refine goesL_ (some 6) rfl rfl Try.func50 (by kernel_rfl) rfl #[.slice A0 l0.length c0] rfl z1_ ?_; (with_reducible refine (impl_TreeOk.calls k _ _ l0 false _ ?side1 ?side2 A3.out).mono ?_); (case side1 => exact z19_); (case side2 => exact HC0.out); rintro e w7 ⟨rfl, hb⟩; refine ⟨_, rfl, ?_⟩; replace HB := Aside0.mk (below_step z0_ hb); (try clear hb)))
  go_ret
  exact ⟨z3_, z0_⟩

/-! ### impl_KidsOf: function 106 -/
def impl_KidsOf.l0 : Nat → List (S80) → Int → List Int → Int → Option (List Int)
 | 0, _, _, _, _ => none
 | k + 1, x0, x1, x5, x6 => (impl_endOf.f k x0 x1).bind fun t355 => (if x6 < t355 then (if 0 ≤ x6 then (if x6 < (x0.length : Int) then (if 0 ≤ x1 then (if x1 < (x0.length : Int) then (if ((rd_T80 x0 x6).f1) = (wrap64 (((rd_T80 x0 x1).f1) + 1)) then (if x5.length < 17592186044416 then (impl_KidsOf.l0 k x0 x1 (x5 ++ [x6]) (wrap64 (x6 + 1))) else (none)) else (impl_KidsOf.l0 k x0 x1 x5 (wrap64 (x6 + 1)))) else (none)) else (none)) else (none)) else (none)) else (some x5))
def impl_KidsOf.f (k : Nat) (l0 : List (S80)) (a1 : Int) : Option (List Int) := (some (([] : List Int) : List Int)).bind fun y351 => ((impl_hasNode.f k l0 a1).bind fun t354 => (if t354 = true then (impl_KidsOf.l0 k l0 a1 y351 (wrap64 (a1 + 1))) else (some y351)))
set_option maxHeartbeats 8000000 in
set_option maxRecDepth 100000 in
theorem impl_KidsOf.calls (k : Nat) (A0 : Option Addr) (c0 : Nat) (l0 : List (S80)) (a1 : Int) (r : List Int) (w : World) (hr0 : Kd.C k80 w A0 l0.length l0) (hc0 : l0.length ≤ c0) (h : impl_KidsOf.f k l0 a1 = some r) :
  Calls Try.prog 106 #[.slice A0 l0.length c0, .int .i64 a1] w fun e w' => ∃ v0_ : Value, e = .returned (v0_) ∧ Kd.R (Kd.int .i64) 3 w' w.heap.size (fun _ => True) v0_ r ∧ Below w.heap.size w w' := by
 have HR0 := Aside0.mk hr0
 have HC0 := Aside0.mk hc0
 clear hr0 hc0
 have HB := Aside0.mk (Below.refl w.heap.size w)
 have H : ((some (([] : List Int) : List Int)).bind fun y351 => ((impl_hasNode.f k l0 a1).bind fun t354 => (if t354 = true then (impl_KidsOf.l0 k l0 a1 y351 (wrap64 (a1 + 1))) else (some y351)))) = some r := h
 clear h
 first | ((with_reducible have hz_ := gy_ H); obtain ⟨y351, Ny351, H⟩ := hz_) | (generalize hy_ : ((([] : List Int)) : List Int) = y351 at H; have Ny351 := Aside0.mk hy_.symm; clear hy_)
 obtain ⟨t354, A3, H⟩ := bnd_ H
 by_cases c4 : t354 = true
 ·subst c4
  replace H := ift_ H
  have H' := Aside0.mk H
  clear H
  go_enter Try.func106, Try.ntmps106
  go_wp2_with (first | ((with_reducible refine gate_dst (N := 7) rfl ?_); refine Kd.R_lit (Kd.int .i64) _ 3 ?hg (N := 7) ?hd (xs := ([] : List Int)) (inner := []) (ok := fun _ => True) (okp := fun _ => True) ?hr ?hp (fun _ hk => hk) trivial (Below.refl _ _) (Nat.le_refl _) (by simp) ?_; (case hd => rfl); (case hg => rfl); (case hr => exact z9_); (case hp => exact z108_); intro v352 w5 ho6 hb hg_ hnew_; clear hg_ hnew_; (first | rw [← Ny351.out] at ho6 | (simp only [Int.reduceToNat] at ho6; rw [← Ny351.out] at ho6)); have HO353 := Aside0.mk (Kd.R_lower ho6 (below_size z0_)); replace HB := Aside0.mk (below_step z0_ hb); clear hb ho6) | (go_at_call 131; (with_reducible refine (impl_hasNode.calls k _ _ l0 a1 true _ ?side1 ?side2 A3.out).mono ?_); (case side1 => exact z2_); (case side2 => exact HC0.out); rintro e w7 ⟨rfl, hb⟩; replace HO353 := Aside0.mk (Kd.R_below z62_ hb); replace HB := Aside0.mk (below_step z0_ hb); (try clear hb)))
  repeat (go_quiet (first | ((with_reducible refine gate_dst (N := 7) rfl ?_); refine Kd.R_lit (Kd.int .i64) _ 3 ?hg (N := 7) ?hd (xs := ([] : List Int)) (inner := []) (ok := fun _ => True) (okp := fun _ => True) ?hr ?hp (fun _ hk => hk) trivial (Below.refl _ _) (Nat.le_refl _) (by simp) ?_; (case hd => rfl); (case hg => rfl); (case hr => exact z9_); (case hp => exact z108_); intro v352 w5 ho6 hb hg_ hnew_; clear hg_ hnew_; (first | rw [← Ny351.out] at ho6 | (simp only [Int.reduceToNat] at ho6; rw [← Ny351.out] at ho6)); have HO353 := Aside0.mk (Kd.R_lower ho6 (below_size z0_)); replace HB := Aside0.mk (below_step z0_ hb); clear hb ho6) | (go_at_call 131; (with_reducible refine (impl_hasNode.calls k _ _ l0 a1 true _ ?side1 ?side2 A3.out).mono ?_); (case side1 => exact z2_); (case side2 => exact HC0.out); rintro e w7 ⟨rfl, hb⟩; replace HO353 := Aside0.mk (Kd.R_below z62_ hb); replace HB := Aside0.mk (below_step z0_ hb); (try clear hb))); try go_wp2_with (first | ((with_reducible refine gate_dst (N := 7) rfl ?_); refine Kd.R_lit (Kd.int .i64) _ 3 ?hg (N := 7) ?hd (xs := ([] : List Int)) (inner := []) (ok := fun _ => True) (okp := fun _ => True) ?hr ?hp (fun _ hk => hk) trivial (Below.refl _ _) (Nat.le_refl _) (by simp) ?_; (case hd => rfl); (case hg => rfl); (case hr => exact z9_); (case hp => exact z108_); intro v352 w5 ho6 hb hg_ hnew_; clear hg_ hnew_; (first | rw [← Ny351.out] at ho6 | (simp only [Int.reduceToNat] at ho6; rw [← Ny351.out] at ho6)); have HO353 := Aside0.mk (Kd.R_lower ho6 (below_size z0_)); replace HB := Aside0.mk (below_step z0_ hb); clear hb ho6) | (go_at_call 131; (with_reducible refine (impl_hasNode.calls k _ _ l0 a1 true _ ?side1 ?side2 A3.out).mono ?_); (case side1 => exact z2_); (case side2 => exact HC0.out); rintro e w7 ⟨rfl, hb⟩; replace HO353 := Aside0.mk (Kd.R_below z62_ hb); replace HB := Aside0.mk (below_step z0_ hb); (try clear hb))))
  go_loopg [5, 6] k (fun kq v5 v6 w' => ∃ (x5_1 : List Int) (x6_1 : Int), v6 = .int .i64 x6_1 ∧ Aside0 (impl_KidsOf.l0 kq l0 a1 x5_1 x6_1 = some r) ∧ Aside0 (kq ≤ k) ∧ Aside0 (Kd.R (Kd.int .i64) 3 w' w.heap.size (fun _ => True) v5 x5_1) ∧ Aside0 (Below w.heap.size w w'))
  case atStart => exact ⟨(y351), (wrap64 (a1 + 1)), z5_, H', ⟨Nat.le_refl _⟩, ⟨z62_⟩, ⟨z0_⟩⟩
  case round =>
   clear H'
   try clear c1
   try clear p2
   try clear c4
   try clear p6
   obtain ⟨x5_1, x6_1, rfl, HA, HK1, HO_5, HB⟩ := hrel
   cases gk with
   | zero => exact absurd HA.out (by simp [impl_KidsOf.l0])
   | succ k1 =>
    have H := HA.out
    clear HA
    simp only [impl_KidsOf.l0] at H
    obtain ⟨t355, A8, H⟩ := bnd_ H
    by_cases c9 : x6_1 < t355
    ·rw [if_pos c9] at H
     have c9b0 := decide_eq_true c9
     clear c9
     obtain ⟨c10b0, H⟩ := ifd_ H
     obtain ⟨c11b0, H⟩ := ifd_ H
     obtain ⟨c12b0, H⟩ := ifd_ H
     obtain ⟨c13b0, H⟩ := ifd_ H
     by_cases c14 : ((rd_T80 l0 x6_1).f1) = (wrap64 (((rd_T80 l0 a1).f1) + 1))
     ·rw [if_pos c14] at H
      have c14b0 : (((rd_T80 l0 x6_1).f1) == (wrap64 (((rd_T80 l0 a1).f1) + 1))) = true := beq_iff_eq.mpr c14
      have c14b1 : (((rd_T80 l0 x6_1).f1) != (wrap64 (((rd_T80 l0 a1).f1) + 1))) = false := bne_eq_false_iff_eq.mpr c14
      clear c14
      obtain ⟨c15, H⟩ := ifs_ H
      have LMc15 := Aside0.mk c15
      clear c15
      first | ((with_reducible have hz_ := gy_ H); obtain ⟨y358, Ny358, H⟩ := hz_) | (generalize hy_ : ((x5_1 ++ [x6_1]) : List Int) = y358 at H; have Ny358 := Aside0.mk hy_.symm; clear hy_)
      have H' := Aside0.mk H
      clear H
      go_wp2_with (first | (go_at_call 97; (with_reducible refine (impl_endOf.calls k1 _ _ l0 a1 t355 _ ?side1 ?side2 A8.out).mono ?_); (case side1 => exact z2_); (case side2 => exact HC0.out); rintro e w' ⟨rfl, ⟨nd, rfl⟩⟩; (try first | exact ⟨rfl, _, World.drewN_drewN _ _ _⟩ | exact ⟨rfl, _, Eq.trans (World.drewN_drewN _ _ _) (congrArg (World.drewN _) (Nat.add_assoc _ _ _))⟩); have p356 : 0 ≤ (x6_1 : Int) := odt_; have q356 : x6_1 < (l0.length : Int) := odt_; obtain ⟨ad356, e356, hx356_0, hx356_1⟩ := at_T80 HR0.out x6_1 p356 q356; cases e356; replace hx356_0 := (HB.out.cell (World.block_lt_of_cell? w _ hx356_0)).trans hx356_0; replace hx356_1 := (HB.out.cell (World.block_lt_of_cell? w _ hx356_1)).trans hx356_1; replace p356 := eq_true p356; replace q356 := eq_true q356; have p357 : 0 ≤ (a1 : Int) := odt_; have q357 : a1 < (l0.length : Int) := odt_; obtain ⟨ad357, e357, hx357_0, hx357_1⟩ := at_T80 HR0.out a1 p357 q357; obtain rfl : ad356 = ad357 := (by injection e357); replace hx357_0 := (HB.out.cell (World.block_lt_of_cell? w _ hx357_0)).trans hx357_0; replace hx357_1 := (HB.out.cell (World.block_lt_of_cell? w _ hx357_1)).trans hx357_1; replace p357 := eq_true p357; replace q357 := eq_true q357) | ((with_reducible refine gate_builtin (b := .append) (xs := #[.tmp 34, .tmp 36]) rfl ?_); at_builtin; refine Kd.R_append (Kd.int .i64) (w0 := w) w.heap.size rfl (.tmp 34) (.tmp 36) 61 3 (.int .i64 0) 8 rfl Try.underlying61 info3 rfl (by decide) (by omega) u5 x5_1 x6_1 [.int .i64 x6_1] (fun _ => True) (fun _ => False) rfl rfl ?aP (fun _ hk => hk.elim) ?aF ?aO ?aB ?aS ?aL ?_; (case aP => exact rfl); (case aB => exact z35_); (case aF => exact z110_); (case aO => exact z74_); (case aS => exact z42_); (case aL => have := LMc15.out; omega); intro v359 w16 ho hb hg hat; rw [← Ny358.out] at ho; replace HB := Aside0.mk (hb); have HO360 := Aside0.mk (ho); clear HO_5; clear ho hb hg hat))
      repeat (go_quiet (first | (go_at_call 97; (with_reducible refine (impl_endOf.calls k1 _ _ l0 a1 t355 _ ?side1 ?side2 A8.out).mono ?_); (case side1 => exact z2_); (case side2 => exact HC0.out); rintro e w' ⟨rfl, ⟨nd, rfl⟩⟩; (try first | exact ⟨rfl, _, World.drewN_drewN _ _ _⟩ | exact ⟨rfl, _, Eq.trans (World.drewN_drewN _ _ _) (congrArg (World.drewN _) (Nat.add_assoc _ _ _))⟩); have p356 : 0 ≤ (x6_1 : Int) := odt_; have q356 : x6_1 < (l0.length : Int) := odt_; obtain ⟨ad356, e356, hx356_0, hx356_1⟩ := at_T80 HR0.out x6_1 p356 q356; cases e356; replace hx356_0 := (HB.out.cell (World.block_lt_of_cell? w _ hx356_0)).trans hx356_0; replace hx356_1 := (HB.out.cell (World.block_lt_of_cell? w _ hx356_1)).trans hx356_1; replace p356 := eq_true p356; replace q356 := eq_true q356; have p357 : 0 ≤ (a1 : Int) := odt_; have q357 : a1 < (l0.length : Int) := odt_; obtain ⟨ad357, e357, hx357_0, hx357_1⟩ := at_T80 HR0.out a1 p357 q357; obtain rfl : ad356 = ad357 := (by injection e357); replace hx357_0 := (HB.out.cell (World.block_lt_of_cell? w _ hx357_0)).trans hx357_0; replace hx357_1 := (HB.out.cell (World.block_lt_of_cell? w _ hx357_1)).trans hx357_1; replace p357 := eq_true p357; replace q357 := eq_true q357) | ((with_reducible refine gate_builtin (b := .append) (xs := #[.tmp 34, .tmp 36]) rfl ?_); at_builtin; refine Kd.R_append (Kd.int .i64) (w0 := w) w.heap.size rfl (.tmp 34) (.tmp 36) 61 3 (.int .i64 0) 8 rfl Try.underlying61 info3 rfl (by decide) (by omega) u5 x5_1 x6_1 [.int .i64 x6_1] (fun _ => True) (fun _ => False) rfl rfl ?aP (fun _ hk => hk.elim) ?aF ?aO ?aB ?aS ?aL ?_; (case aP => exact rfl); (case aB => exact z35_); (case aF => exact z110_); (case aO => exact z74_); (case aS => exact z42_); (case aL => have := LMc15.out; omega); intro v359 w16 ho hb hg hat; rw [← Ny358.out] at ho; replace HB := Aside0.mk (hb); have HO360 := Aside0.mk (ho); clear HO_5; clear ho hb hg hat)); try go_wp2_with (first | (go_at_call 97; (with_reducible refine (impl_endOf.calls k1 _ _ l0 a1 t355 _ ?side1 ?side2 A8.out).mono ?_); (case side1 => exact z2_); (case side2 => exact HC0.out); rintro e w' ⟨rfl, ⟨nd, rfl⟩⟩; (try first | exact ⟨rfl, _, World.drewN_drewN _ _ _⟩ | exact ⟨rfl, _, Eq.trans (World.drewN_drewN _ _ _) (congrArg (World.drewN _) (Nat.add_assoc _ _ _))⟩); have p356 : 0 ≤ (x6_1 : Int) := odt_; have q356 : x6_1 < (l0.length : Int) := odt_; obtain ⟨ad356, e356, hx356_0, hx356_1⟩ := at_T80 HR0.out x6_1 p356 q356; cases e356; replace hx356_0 := (HB.out.cell (World.block_lt_of_cell? w _ hx356_0)).trans hx356_0; replace hx356_1 := (HB.out.cell (World.block_lt_of_cell? w _ hx356_1)).trans hx356_1; replace p356 := eq_true p356; replace q356 := eq_true q356; have p357 : 0 ≤ (a1 : Int) := odt_; have q357 : a1 < (l0.length : Int) := odt_; obtain ⟨ad357, e357, hx357_0, hx357_1⟩ := at_T80 HR0.out a1 p357 q357; obtain rfl : ad356 = ad357 := (by injection e357); replace hx357_0 := (HB.out.cell (World.block_lt_of_cell? w _ hx357_0)).trans hx357_0; replace hx357_1 := (HB.out.cell (World.block_lt_of_cell? w _ hx357_1)).trans hx357_1; replace p357 := eq_true p357; replace q357 := eq_true q357) | ((with_reducible refine gate_builtin (b := .append) (xs := #[.tmp 34, .tmp 36]) rfl ?_); at_builtin; refine Kd.R_append (Kd.int .i64) (w0 := w) w.heap.size rfl (.tmp 34) (.tmp 36) 61 3 (.int .i64 0) 8 rfl Try.underlying61 info3 rfl (by decide) (by omega) u5 x5_1 x6_1 [.int .i64 x6_1] (fun _ => True) (fun _ => False) rfl rfl ?aP (fun _ hk => hk.elim) ?aF ?aO ?aB ?aS ?aL ?_; (case aP => exact rfl); (case aB => exact z35_); (case aF => exact z110_); (case aO => exact z74_); (case aS => exact z42_); (case aL => have := LMc15.out; omega); intro v359 w16 ho hb hg hat; rw [← Ny358.out] at ho; replace HB := Aside0.mk (hb); have HO360 := Aside0.mk (ho); clear HO_5; clear ho hb hg hat)))
      go_roundg k1
      case measure => have := HK1.out; omega
      case rel => exact ⟨(y358), (wrap64 (x6_1 + 1)), z5_, H', ⟨z66_⟩, ⟨by (with_reducible repeat (first | apply Kd.R_alloc | apply Kd.R_drewN | apply Kd.R_drew)); exact HO360.out⟩, ⟨z0_⟩⟩
     ·rw [if_neg c14] at H
      have c14b0 : (((rd_T80 l0 x6_1).f1) == (wrap64 (((rd_T80 l0 a1).f1) + 1))) = false := beq_eq_false_iff_ne.mpr c14
      have c14b1 : (((rd_T80 l0 x6_1).f1) != (wrap64 (((rd_T80 l0 a1).f1) + 1))) = true := bne_iff_ne.mpr c14
      have H' := Aside0.mk H
      clear H
      go_wp2_with (first | (go_at_call 97; (with_reducible refine (impl_endOf.calls k1 _ _ l0 a1 t355 _ ?side1 ?side2 A8.out).mono ?_); (case side1 => exact z2_); (case side2 => exact HC0.out); rintro e w' ⟨rfl, ⟨nd, rfl⟩⟩; (try first | exact ⟨rfl, _, World.drewN_drewN _ _ _⟩ | exact ⟨rfl, _, Eq.trans (World.drewN_drewN _ _ _) (congrArg (World.drewN _) (Nat.add_assoc _ _ _))⟩); have p356 : 0 ≤ (x6_1 : Int) := odt_; have q356 : x6_1 < (l0.length : Int) := odt_; obtain ⟨ad356, e356, hx356_0, hx356_1⟩ := at_T80 HR0.out x6_1 p356 q356; cases e356; replace hx356_0 := (HB.out.cell (World.block_lt_of_cell? w _ hx356_0)).trans hx356_0; replace hx356_1 := (HB.out.cell (World.block_lt_of_cell? w _ hx356_1)).trans hx356_1; replace p356 := eq_true p356; replace q356 := eq_true q356; have p357 : 0 ≤ (a1 : Int) := odt_; have q357 : a1 < (l0.length : Int) := odt_; obtain ⟨ad357, e357, hx357_0, hx357_1⟩ := at_T80 HR0.out a1 p357 q357; obtain rfl : ad356 = ad357 := (by injection e357); replace hx357_0 := (HB.out.cell (World.block_lt_of_cell? w _ hx357_0)).trans hx357_0; replace hx357_1 := (HB.out.cell (World.block_lt_of_cell? w _ hx357_1)).trans hx357_1; replace p357 := eq_true p357; replace q357 := eq_true q357))
      repeat (go_quiet (first | (go_at_call 97; (with_reducible refine (impl_endOf.calls k1 _ _ l0 a1 t355 _ ?side1 ?side2 A8.out).mono ?_); (case side1 => exact z2_); (case side2 => exact HC0.out); rintro e w' ⟨rfl, ⟨nd, rfl⟩⟩; (try first | exact ⟨rfl, _, World.drewN_drewN _ _ _⟩ | exact ⟨rfl, _, Eq.trans (World.drewN_drewN _ _ _) (congrArg (World.drewN _) (Nat.add_assoc _ _ _))⟩); have p356 : 0 ≤ (x6_1 : Int) := odt_; have q356 : x6_1 < (l0.length : Int) := odt_; obtain ⟨ad356, e356, hx356_0, hx356_1⟩ := at_T80 HR0.out x6_1 p356 q356; cases e356; replace hx356_0 := (HB.out.cell (World.block_lt_of_cell? w _ hx356_0)).trans hx356_0; replace hx356_1 := (HB.out.cell (World.block_lt_of_cell? w _ hx356_1)).trans hx356_1; replace p356 := eq_true p356; replace q356 := eq_true q356; have p357 : 0 ≤ (a1 : Int) := odt_; have q357 : a1 < (l0.length : Int) := odt_; obtain ⟨ad357, e357, hx357_0, hx357_1⟩ := at_T80 HR0.out a1 p357 q357; obtain rfl : ad356 = ad357 := (by injection e357); replace hx357_0 := (HB.out.cell (World.block_lt_of_cell? w _ hx357_0)).trans hx357_0; replace hx357_1 := (HB.out.cell (World.block_lt_of_cell? w _ hx357_1)).trans hx357_1; replace p357 := eq_true p357; replace q357 := eq_true q357)); try go_wp2_with (first | (go_at_call 97; (with_reducible refine (impl_endOf.calls k1 _ _ l0 a1 t355 _ ?side1 ?side2 A8.out).mono ?_); (case side1 => exact z2_); (case side2 => exact HC0.out); rintro e w' ⟨rfl, ⟨nd, rfl⟩⟩; (try first | exact ⟨rfl, _, World.drewN_drewN _ _ _⟩ | exact ⟨rfl, _, Eq.trans (World.drewN_drewN _ _ _) (congrArg (World.drewN _) (Nat.add_assoc _ _ _))⟩); have p356 : 0 ≤ (x6_1 : Int) := odt_; have q356 : x6_1 < (l0.length : Int) := odt_; obtain ⟨ad356, e356, hx356_0, hx356_1⟩ := at_T80 HR0.out x6_1 p356 q356; cases e356; replace hx356_0 := (HB.out.cell (World.block_lt_of_cell? w _ hx356_0)).trans hx356_0; replace hx356_1 := (HB.out.cell (World.block_lt_of_cell? w _ hx356_1)).trans hx356_1; replace p356 := eq_true p356; replace q356 := eq_true q356; have p357 : 0 ≤ (a1 : Int) := odt_; have q357 : a1 < (l0.length : Int) := odt_; obtain ⟨ad357, e357, hx357_0, hx357_1⟩ := at_T80 HR0.out a1 p357 q357; obtain rfl : ad356 = ad357 := (by injection e357); replace hx357_0 := (HB.out.cell (World.block_lt_of_cell? w _ hx357_0)).trans hx357_0; replace hx357_1 := (HB.out.cell (World.block_lt_of_cell? w _ hx357_1)).trans hx357_1; replace p357 := eq_true p357; replace q357 := eq_true q357)))
      go_roundg k1
      case measure => have := HK1.out; omega
      case rel => exact ⟨(x5_1), (wrap64 (x6_1 + 1)), z5_, H', ⟨z66_⟩, ⟨z23_⟩, ⟨z0_⟩⟩
    ·rw [if_neg c9] at H
     have c9b0 := decide_eq_false c9
     clear c9
     obtain rfl := Option.some.inj H
     go_wp2_with (first | (go_at_call 97; (with_reducible refine (impl_endOf.calls k1 _ _ l0 a1 t355 _ ?side1 ?side2 A8.out).mono ?_); (case side1 => exact z2_); (case side2 => exact HC0.out); rintro e w' ⟨rfl, ⟨nd, rfl⟩⟩; (try first | exact ⟨rfl, _, World.drewN_drewN _ _ _⟩ | exact ⟨rfl, _, Eq.trans (World.drewN_drewN _ _ _) (congrArg (World.drewN _) (Nat.add_assoc _ _ _))⟩)))
     repeat (go_quiet (first | (go_at_call 97; (with_reducible refine (impl_endOf.calls k1 _ _ l0 a1 t355 _ ?side1 ?side2 A8.out).mono ?_); (case side1 => exact z2_); (case side2 => exact HC0.out); rintro e w' ⟨rfl, ⟨nd, rfl⟩⟩; (try first | exact ⟨rfl, _, World.drewN_drewN _ _ _⟩ | exact ⟨rfl, _, Eq.trans (World.drewN_drewN _ _ _) (congrArg (World.drewN _) (Nat.add_assoc _ _ _))⟩))); try go_wp2_with (first | (go_at_call 97; (with_reducible refine (impl_endOf.calls k1 _ _ l0 a1 t355 _ ?side1 ?side2 A8.out).mono ?_); (case side1 => exact z2_); (case side2 => exact HC0.out); rintro e w' ⟨rfl, ⟨nd, rfl⟩⟩; (try first | exact ⟨rfl, _, World.drewN_drewN _ _ _⟩ | exact ⟨rfl, _, Eq.trans (World.drewN_drewN _ _ _) (congrArg (World.drewN _) (Nat.add_assoc _ _ _))⟩))))
     go_ret
     exact ⟨_, z3_, z23_, z0_⟩
 ·replace c4 := Bool.eq_false_iff.mpr c4
  subst c4
  replace H := iff_ H
  obtain rfl := Option.some.inj H
  go_enter Try.func106, Try.ntmps106
  go_wp2_with (first | ((with_reducible refine gate_dst (N := 7) rfl ?_); refine Kd.R_lit (Kd.int .i64) _ 3 ?hg (N := 7) ?hd (xs := ([] : List Int)) (inner := []) (ok := fun _ => True) (okp := fun _ => True) ?hr ?hp (fun _ hk => hk) trivial (Below.refl _ _) (Nat.le_refl _) (by simp) ?_; (case hd => rfl); (case hg => rfl); (case hr => exact z9_); (case hp => exact z108_); intro v352 w17 ho18 hb hg_ hnew_; clear hg_ hnew_; (first | rw [← Ny351.out] at ho18 | (simp only [Int.reduceToNat] at ho18; rw [← Ny351.out] at ho18)); have HO353 := Aside0.mk (Kd.R_lower ho18 (below_size z0_)); replace HB := Aside0.mk (below_step z0_ hb); clear hb ho18) | (go_at_call 131; (with_reducible refine (impl_hasNode.calls k _ _ l0 a1 false _ ?side1 ?side2 A3.out).mono ?_); (case side1 => exact z2_); (case side2 => exact HC0.out); rintro e w19 ⟨rfl, hb⟩; replace HO353 := Aside0.mk (Kd.R_below z62_ hb); replace HB := Aside0.mk (below_step z0_ hb); (try clear hb)))
  repeat (go_quiet (first | ((with_reducible refine gate_dst (N := 7) rfl ?_); refine Kd.R_lit (Kd.int .i64) _ 3 ?hg (N := 7) ?hd (xs := ([] : List Int)) (inner := []) (ok := fun _ => True) (okp := fun _ => True) ?hr ?hp (fun _ hk => hk) trivial (Below.refl _ _) (Nat.le_refl _) (by simp) ?_; (case hd => rfl); (case hg => rfl); (case hr => exact z9_); (case hp => exact z108_); intro v352 w17 ho18 hb hg_ hnew_; clear hg_ hnew_; (first | rw [← Ny351.out] at ho18 | (simp only [Int.reduceToNat] at ho18; rw [← Ny351.out] at ho18)); have HO353 := Aside0.mk (Kd.R_lower ho18 (below_size z0_)); replace HB := Aside0.mk (below_step z0_ hb); clear hb ho18) | (go_at_call 131; (with_reducible refine (impl_hasNode.calls k _ _ l0 a1 false _ ?side1 ?side2 A3.out).mono ?_); (case side1 => exact z2_); (case side2 => exact HC0.out); rintro e w19 ⟨rfl, hb⟩; replace HO353 := Aside0.mk (Kd.R_below z62_ hb); replace HB := Aside0.mk (below_step z0_ hb); (try clear hb))); try go_wp2_with (first | ((with_reducible refine gate_dst (N := 7) rfl ?_); refine Kd.R_lit (Kd.int .i64) _ 3 ?hg (N := 7) ?hd (xs := ([] : List Int)) (inner := []) (ok := fun _ => True) (okp := fun _ => True) ?hr ?hp (fun _ hk => hk) trivial (Below.refl _ _) (Nat.le_refl _) (by simp) ?_; (case hd => rfl); (case hg => rfl); (case hr => exact z9_); (case hp => exact z108_); intro v352 w17 ho18 hb hg_ hnew_; clear hg_ hnew_; (first | rw [← Ny351.out] at ho18 | (simp only [Int.reduceToNat] at ho18; rw [← Ny351.out] at ho18)); have HO353 := Aside0.mk (Kd.R_lower ho18 (below_size z0_)); replace HB := Aside0.mk (below_step z0_ hb); clear hb ho18) | (go_at_call 131; (with_reducible refine (impl_hasNode.calls k _ _ l0 a1 false _ ?side1 ?side2 A3.out).mono ?_); (case side1 => exact z2_); (case side2 => exact HC0.out); rintro e w19 ⟨rfl, hb⟩; replace HO353 := Aside0.mk (Kd.R_below z62_ hb); replace HB := Aside0.mk (below_step z0_ hb); (try clear hb))))
  go_ret
  exact ⟨_, z3_, z62_, z0_⟩

/-! ### impl_NodeAt: function 78 -/
def impl_NodeAt.l0 : Nat → List (S80) → Int → List Int → Int → Int → Option (Int)
 | 0, _, _, _, _, _ => none
 | k + 1, x0, x5, x12, x13, x14 => if x14 < x13 then (if 0 ≤ x14 then (if x14 < (x12.length : Int) then ((impl_KidsOf.f k x0 x5).bind fun t363 => ((impl_within.f (rd x12 x14) 0 (wrap64 ((t363.length : Int) - 1))).bind fun t366 => (if t366 = true then (if 0 ≤ (rd x12 x14) then (if (rd x12 x14) < (t363.length : Int) then (impl_NodeAt.l0 k x0 (rd t363 (rd x12 x14)) x12 x13 (wrap64 (x14 + 1))) else (none)) else (none)) else (some (-1))))) else (none)) else (none)) else (some x5)
def impl_NodeAt.f (k : Nat) (l0 : List (S80)) (l1 : List Int) : Option (Int) := (impl_TreeOk.f k l0).bind fun t361 => (if t361 = true then (impl_NodeAt.l0 k l0 0 l1 (l1.length : Int) 0) else (some (-1)))
set_option maxHeartbeats 8000000 in
set_option maxRecDepth 100000 in
theorem impl_NodeAt.calls (k : Nat) (A0 : Option Addr) (c0 : Nat) (l0 : List (S80)) (A1 : Option Addr) (c1 : Nat) (l1 : List Int) (r : Int) (w : World) (hr0 : Kd.C k80 w A0 l0.length l0) (hc0 : l0.length ≤ c0) (hr1 : Kd.C (Kd.int .i64) w A1 l1.length l1) (hc1 : l1.length ≤ c1) (h : impl_NodeAt.f k l0 l1 = some r) :
  Calls Try.prog 78 #[.slice A0 l0.length c0, .slice A1 l1.length c1] w fun e w' => e = .returned (.int .i64 r) ∧ Below w.heap.size w w' := by
 have HR0 := Aside0.mk hr0
 have HC0 := Aside0.mk hc0
 clear hr0 hc0
 have HR1 := Aside0.mk hr1
 have HC1 := Aside0.mk hc1
 clear hr1 hc1
 have HB := Aside0.mk (Below.refl w.heap.size w)
 have H : ((impl_TreeOk.f k l0).bind fun t361 => (if t361 = true then (impl_NodeAt.l0 k l0 0 l1 (l1.length : Int) 0) else (some (-1)))) = some r := h
 clear h
 obtain ⟨t361, A3, H⟩ := bnd_ H
 by_cases c4 : t361 = true
 ·subst c4
  replace H := ift_ H
  have H' := Aside0.mk H
  clear H
  go_enter Try.func78, Try.ntmps78
  go_wp2_with (first | ((with_reducible refine gate_callee (f := 50) rfl ?_); refine goesL_ (some 10) rfl rfl Try.func50 (by kernel_rfl) rfl #[.slice A0 l0.length c0] rfl z1_ ?_; (with_reducible refine (impl_TreeOk.calls k _ _ l0 true _ ?side1 ?side2 A3.out).mono ?_); (case side1 => exact z19_); (case side2 => exact HC0.out); rintro e w5 ⟨rfl, hb⟩; refine ⟨_, rfl, ?_⟩; replace HB := Aside0.mk (below_step z0_ hb); (try clear hb)))
  go_loopg [5, 14] k (fun kq v5 v14 w' => ∃ (x5_1 : Int) (x14_1 : Int), v5 = .int .i64 x5_1 ∧ v14 = .int .i64 x14_1 ∧ Aside0 (impl_NodeAt.l0 kq l0 x5_1 l1 (l1.length : Int) x14_1 = some r) ∧ Aside0 (kq ≤ k) ∧ Aside0 (Below w.heap.size w w'))
  case atStart => exact ⟨(0), (0), z5_, z5_, H', ⟨Nat.le_refl _⟩, ⟨z0_⟩⟩
  case round =>
   clear H'
   try clear c1
   try clear p2
   try clear c4
   try clear c5
   obtain ⟨x5_1, x14_1, rfl, rfl, HA, HK1, HB⟩ := hrel
   cases gk with
   | zero => exact absurd HA.out (by simp [impl_NodeAt.l0])
   | succ k1 =>
    have H := HA.out
    clear HA
    simp only [impl_NodeAt.l0] at H
    by_cases c6 : x14_1 < (l1.length : Int)
    ·rw [if_pos c6] at H
     have c6b0 := decide_eq_true c6
     clear c6
     obtain ⟨c7b0, H⟩ := ifd_ H
     obtain ⟨c8b0, H⟩ := ifd_ H
     obtain ⟨t363, A9, H⟩ := bnd_ H
     obtain ⟨t366, A10, H⟩ := bnd_ H
     by_cases c11 : t366 = true
     ·subst c11
      replace H := ift_ H
      obtain ⟨c12b0, H⟩ := ifd_ H
      obtain ⟨c13b0, H⟩ := ifd_ H
      have H' := Aside0.mk H
      clear H
      have p362 : 0 ≤ (x14_1 : Int) := odt_
      have q362 : x14_1 < (l1.length : Int) := odt_
      obtain ⟨ad362, e362, hx362_0⟩ := Kd.at_int HR1.out x14_1 p362 q362
      cases e362
      replace hx362_0 := (HB.out.cell (World.block_lt_of_cell? w _ hx362_0)).trans hx362_0
      replace p362 := eq_true p362
      replace q362 := eq_true q362
      go_wp2_with (first | ((with_reducible refine gate_callee (f := 106) rfl ?_); refine goesL_ (some 20) rfl rfl Try.func106 (by kernel_rfl) rfl #[.slice A0 l0.length c0, .int .i64 x5_1] rfl z1_ ?_; (with_reducible refine (impl_KidsOf.calls k1 _ _ l0 x5_1 t363 _ ?side1 ?side2 A9.out).mono ?_); (case side1 => exact z2_); (case side2 => exact HC0.out); rintro e w14 ⟨v364, rfl, ho0, hb⟩; refine ⟨_, rfl, ?_⟩; have HO365 := Aside0.mk (Kd.R_lower ho0 (below_size z0_)); replace HB := Aside0.mk (below_step z0_ hb); (try clear hb ho0); obtain ⟨Ao15, co15, eo15⟩ := Kd.R_slice HO365.out; subst eo15) | ((with_reducible refine gate_callee (f := 63) rfl ?_); refine goesL_ (some 25) rfl rfl Try.func63 (by kernel_rfl) rfl #[.int .i64 (rd l1 x14_1), .int .i64 0, .int .i64 (wrap64 ((t363.length : Int) - 1))] rfl z1_ ?_; (with_reducible refine (impl_within.calls (rd l1 x14_1) 0 (wrap64 ((t363.length : Int) - 1)) true _ A10.out).mono ?_); rintro e w' ⟨rfl, ⟨nd, rfl⟩⟩; refine ⟨_, rfl, ?_⟩; have p367 : 0 ≤ ((rd l1 x14_1) : Int) := odt_; have q367 : (rd l1 x14_1) < (t363.length : Int) := odt_; obtain ⟨ad367, e367, hx367_0⟩ := Kd.at_int (Kd.R_reads' HO365.out).2.2 (rd l1 x14_1) p367 q367; cases e367; replace p367 := eq_true p367; replace q367 := eq_true q367))
      go_roundg k1
      case measure => have := HK1.out; omega
      case rel => exact ⟨(rd t363 (rd l1 x14_1)), (wrap64 (x14_1 + 1)), z5_, z5_, H', ⟨z66_⟩, ⟨z0_⟩⟩
     ·replace c11 := Bool.eq_false_iff.mpr c11
      subst c11
      replace H := iff_ H
      obtain rfl := Option.some.inj H
      have p362 : 0 ≤ (x14_1 : Int) := odt_
      have q362 : x14_1 < (l1.length : Int) := odt_
      obtain ⟨ad362, e362, hx362_0⟩ := Kd.at_int HR1.out x14_1 p362 q362
      cases e362
      replace hx362_0 := (HB.out.cell (World.block_lt_of_cell? w _ hx362_0)).trans hx362_0
      replace p362 := eq_true p362
      replace q362 := eq_true q362
      go_wp2_with (first | ((with_reducible refine gate_callee (f := 106) rfl ?_); refine goesL_ (some 20) rfl rfl Try.func106 (by kernel_rfl) rfl #[.slice A0 l0.length c0, .int .i64 x5_1] rfl z1_ ?_; (with_reducible refine (impl_KidsOf.calls k1 _ _ l0 x5_1 t363 _ ?side1 ?side2 A9.out).mono ?_); (case side1 => exact z2_); (case side2 => exact HC0.out); rintro e w16 ⟨v364, rfl, ho0, hb⟩; refine ⟨_, rfl, ?_⟩; have HO365 := Aside0.mk (Kd.R_lower ho0 (below_size z0_)); replace HB := Aside0.mk (below_step z0_ hb); (try clear hb ho0); obtain ⟨Ao17, co17, eo17⟩ := Kd.R_slice HO365.out; subst eo17) | ((with_reducible refine gate_callee (f := 63) rfl ?_); refine goesL_ (some 25) rfl rfl Try.func63 (by kernel_rfl) rfl #[.int .i64 (rd l1 x14_1), .int .i64 0, .int .i64 (wrap64 ((t363.length : Int) - 1))] rfl z1_ ?_; (with_reducible refine (impl_within.calls (rd l1 x14_1) 0 (wrap64 ((t363.length : Int) - 1)) false _ A10.out).mono ?_); rintro e w' ⟨rfl, ⟨nd, rfl⟩⟩; refine ⟨_, rfl, ?_⟩))
      go_ret
      exact ⟨z3_, z0_⟩
    ·rw [if_neg c6] at H
     have c6b0 := decide_eq_false c6
     clear c6
     obtain rfl := Option.some.inj H
     go_wp2
     go_ret
     exact ⟨z3_, z0_⟩
 ·replace c4 := Bool.eq_false_iff.mpr c4
  subst c4
  replace H := iff_ H
  obtain rfl := Option.some.inj H
  go_enter Try.func78, Try.ntmps78
  go_wp2_with (first | ((with_reducible refine gate_callee (f := 50) rfl ?_); refine goesL_ (some 10) rfl rfl Try.func50 (by kernel_rfl) rfl #[.slice A0 l0.length c0] rfl z1_ ?_; (with_reducible refine (impl_TreeOk.calls k _ _ l0 false _ ?side1 ?side2 A3.out).mono ?_); (case side1 => exact z19_); (case side2 => exact HC0.out); rintro e w18 ⟨rfl, hb⟩; refine ⟨_, rfl, ?_⟩; replace HB := Aside0.mk (below_step z0_ hb); (try clear hb)))
  go_ret
  exact ⟨z3_, z0_⟩

end Go.Proofs.Ytdapeboajjidmaa.PFnExactHistAt
