/- Laid by a program of this session out of the kit's print for the law FnInverted: what it says of the machine is proved here, function by function; each contract under the conditions that it names. -/
import Derived.Test.YtdapeboajjidmabMFnInvertedx0
import Derived.Test.YtdapeboajjidmabMFnInvertedx11
namespace Go.Proofs.Ytdapeboajjidmab.PFnInverted
open Go.RowKit Go.Proofs.YtdapeboajjidmabW.PrintWords Go.Proofs.YtdapeboajjidmabW.PrintLast Go.Proofs.YtdapeboajjidmabW.PrintMore
attribute [local go_sem] max2_int min2_int max_two min_two max_three min_three max_four min_four   -- for this text's walks alone
set_option linter.unusedVariables false
set_option linter.unusedSimpArgs false

/-! ### impl_endOf: function 111 -/
def impl_endOf.l0 : Nat → List (S62) → Int → Int → Option (Int)
 | 0, _, _, _ => none
 | k + 1, x0, x1, x5 => if x5 < (x0.length : Int) then (if 0 ≤ x5 then (if 0 ≤ x1 then (if x1 < (x0.length : Int) then (if ((rd_T62 x0 x5).f1) > ((rd_T62 x0 x1).f1) then (impl_endOf.l0 k x0 x1 (wrap64 (x5 + 1))) else (some x5)) else (none)) else (none)) else (none)) else (some x5)
def impl_endOf.f (k : Nat) (l0 : List (S62)) (a1 : Int) : Option (Int) := impl_endOf.l0 k l0 a1 (wrap64 (a1 + 1))
set_option maxHeartbeats 8000000 in
set_option maxRecDepth 100000 in
theorem impl_endOf.calls (k : Nat) (A0 : Option Addr) (c0 : Nat) (l0 : List (S62)) (a1 : Int) (r : Int) (w : World) (hr0 : Kd.C k62 w A0 l0.length l0) (hc0 : l0.length ≤ c0) (h : impl_endOf.f k l0 a1 = some r) :
  Calls Try.prog 111 #[.slice A0 l0.length c0, .int .i64 a1] w fun e w' => e = .returned (.int .i64 r) ∧ Drawn0 w w' := by
 have HR0 := Aside0.mk hr0
 have HC0 := Aside0.mk hc0
 clear hr0 hc0
 have H : (impl_endOf.l0 k l0 a1 (wrap64 (a1 + 1))) = some r := h
 clear h
 have H' := Aside0.mk H
 clear H
 go_enter Try.func111, Try.ntmps111
 go_wp2
 repeat (go_quiet (fail); try go_wp2)
 go_loopg [5] k (fun kq v5 w' => ∃ (x5_1 : Int), v5 = .int .i64 x5_1 ∧ Aside0 (impl_endOf.l0 kq l0 a1 x5_1 = some r) ∧ Aside0 (kq ≤ k) ∧ Drawn0 w w')
 case atStart => exact ⟨(wrap64 (a1 + 1)), z15_, H', ⟨Nat.le_refl _⟩, z68_⟩
 case round =>
  clear H'
  try clear c1
  try clear p2
  obtain ⟨x5_1, rfl, HA, HK1, ⟨m1, rfl⟩⟩ := hrel
  cases gk with
  | zero => exact absurd HA.out (by simp [impl_endOf.l0])
  | succ k1 =>
   have H := HA.out
   clear HA
   simp only [impl_endOf.l0] at H
   by_cases c3 : x5_1 < (l0.length : Int)
   ·rw [if_pos c3] at H
    have c3b0 := decide_eq_true c3
    clear c3
    obtain ⟨c4b0, H⟩ := ifd_ H
    obtain ⟨c5b0, H⟩ := ifd_ H
    obtain ⟨c6b0, H⟩ := ifd_ H
    by_cases c7 : ((rd_T62 l0 x5_1).f1) > ((rd_T62 l0 a1).f1)
    ·rw [if_pos c7] at H
     have c7b0 := decide_eq_true c7
     clear c7
     have H' := Aside0.mk H
     clear H
     obtain ⟨p471, q471, ad471, e471, hx471_0, hx471_1⟩ := ato62_ HR0 x5_1
     cases e471
     obtain ⟨p472, q472, ad472, e472, hx472_0, hx472_1⟩ := ato62_ HR0 a1
     obtain rfl : ad471 = ad472 := (by injection e472)
     go_wp2
     repeat (go_quiet (fail); try go_wp2)
     go_roundg k1
     case measure => have := HK1.out; omega
     case rel => exact ⟨(wrap64 (x5_1 + 1)), z15_, H', ⟨z122_⟩, z68_⟩
    ·rw [if_neg c7] at H
     have c7b0 := decide_eq_false c7
     clear c7
     obtain rfl := Option.some.inj H
     obtain ⟨p471, q471, ad471, e471, hx471_0, hx471_1⟩ := ato62_ HR0 x5_1
     cases e471
     obtain ⟨p472, q472, ad472, e472, hx472_0, hx472_1⟩ := ato62_ HR0 a1
     obtain rfl : ad471 = ad472 := (by injection e472)
     go_wp2
     repeat (go_quiet (fail); try go_wp2)
     go_ret
     exact ⟨z15_, z68_⟩
   ·rw [if_neg c3] at H
    have c3b0 := decide_eq_false c3
    clear c3
    obtain rfl := Option.some.inj H
    go_wp2
    repeat (go_quiet (fail); try go_wp2)
    go_ret
    exact ⟨z15_, z68_⟩

/-! ### impl_KidsOf: function 55 -/
def impl_KidsOf.l0 : Nat → List (S62) → Int → List Int → Int → Option (List Int)
 | 0, _, _, _, _ => none
 | k + 1, x0, x1, x5, x6 => (impl_endOf.f k x0 x1).bind fun t477 => (if x6 < t477 then (if 0 ≤ x6 then (if x6 < (x0.length : Int) then (if 0 ≤ x1 then (if x1 < (x0.length : Int) then (if ((rd_T62 x0 x6).f1) = (wrap64 (((rd_T62 x0 x1).f1) + 1)) then (if x5.length < 17592186044416 then (impl_KidsOf.l0 k x0 x1 (x5 ++ [x6]) (wrap64 (x6 + 1))) else (none)) else (impl_KidsOf.l0 k x0 x1 x5 (wrap64 (x6 + 1)))) else (none)) else (none)) else (none)) else (none)) else (some x5))
def impl_KidsOf.f (k : Nat) (l0 : List (S62)) (a1 : Int) : Option (List Int) := (some (([] : List Int) : List Int)).bind fun y473 => ((impl_hasNode.f k l0 a1).bind fun t476 => (if t476 = true then (impl_KidsOf.l0 k l0 a1 y473 (wrap64 (a1 + 1))) else (some y473)))
set_option maxHeartbeats 8000000 in
set_option maxRecDepth 100000 in
theorem impl_KidsOf.calls (k : Nat) (A0 : Option Addr) (c0 : Nat) (l0 : List (S62)) (a1 : Int) (r : List Int) (w : World) (hr0 : Kd.C k62 w A0 l0.length l0) (hc0 : l0.length ≤ c0) (h : impl_KidsOf.f k l0 a1 = some r) :
  Calls Try.prog 55 #[.slice A0 l0.length c0, .int .i64 a1] w fun e w' => ∃ v0_ : Value, e = .returned (v0_) ∧ Kd.R (Kd.int .i64) 3 w' w.heap.size (fun _ => True) v0_ r ∧ Below w.heap.size w w' := by
 have HR0 := Aside0.mk hr0
 have HC0 := Aside0.mk hc0
 clear hr0 hc0
 have HB := Aside0.mk (Below.refl w.heap.size w)
 have H : ((some (([] : List Int) : List Int)).bind fun y473 => ((impl_hasNode.f k l0 a1).bind fun t476 => (if t476 = true then (impl_KidsOf.l0 k l0 a1 y473 (wrap64 (a1 + 1))) else (some y473)))) = some r := h
 clear h
 first | ((with_reducible have hz_ := gy_ H); obtain ⟨y473, Ny473, H⟩ := hz_) | (generalize hy_ : (([] : List Int)) = y473 at H; have Ny473 := Aside0.mk hy_.symm; clear hy_)
 obtain ⟨t476, A3, H⟩ := bnd_ H
 by_cases c4 : t476 = true
 ·subst c4
  replace H := ift_ H
  have H' := Aside0.mk H
  clear H
  go_enter Try.func55, Try.ntmps55
  go_wp2_with (first | ((with_reducible refine gate_dst (N := 7) rfl ?_); refine Kd.R_lit (Kd.int .i64) _ 3 ?hg (N := 7) ?hd (xs := ([] : List Int)) (inner := []) (ok := fun _ => True) (okp := fun _ => True) ?hr ?hp (fun _ hk => hk) trivial (Below.refl _ _) (Nat.le_refl _) (by simp) ?_; (case hd => rfl); (case hg => rfl); (case hr => exact z21_); (case hp => exact z144_); intro v474 w5 ho6 hb hg_ hnew_; clear hg_ hnew_; (first | rw [← Ny473.out] at ho6 | (simp only [Int.reduceToNat] at ho6; rw [← Ny473.out] at ho6)); have HO475 := Aside0.mk (Kd.R_lower ho6 (below_size z0_)); replace HB := Aside0.mk (below_step z0_ hb); clear hb ho6) | (go_at_call 110; (with_reducible refine (impl_hasNode.calls k _ _ l0 a1 true _ ?side1 ?side2 A3.out).mono ?_); (case side1 => exact z2_); (case side2 => exact HC0.out); rintro e w7 ⟨rfl, hb⟩; replace HO475 := Aside0.mk (Kd.R_below z93_ hb); replace HB := Aside0.mk (below_step z0_ hb); (try clear hb)))
  repeat (go_quiet (first | ((with_reducible refine gate_dst (N := 7) rfl ?_); refine Kd.R_lit (Kd.int .i64) _ 3 ?hg (N := 7) ?hd (xs := ([] : List Int)) (inner := []) (ok := fun _ => True) (okp := fun _ => True) ?hr ?hp (fun _ hk => hk) trivial (Below.refl _ _) (Nat.le_refl _) (by simp) ?_; (case hd => rfl); (case hg => rfl); (case hr => exact z21_); (case hp => exact z144_); intro v474 w5 ho6 hb hg_ hnew_; clear hg_ hnew_; (first | rw [← Ny473.out] at ho6 | (simp only [Int.reduceToNat] at ho6; rw [← Ny473.out] at ho6)); have HO475 := Aside0.mk (Kd.R_lower ho6 (below_size z0_)); replace HB := Aside0.mk (below_step z0_ hb); clear hb ho6) | (go_at_call 110; (with_reducible refine (impl_hasNode.calls k _ _ l0 a1 true _ ?side1 ?side2 A3.out).mono ?_); (case side1 => exact z2_); (case side2 => exact HC0.out); rintro e w7 ⟨rfl, hb⟩; replace HO475 := Aside0.mk (Kd.R_below z93_ hb); replace HB := Aside0.mk (below_step z0_ hb); (try clear hb))); try go_wp2_with (first | ((with_reducible refine gate_dst (N := 7) rfl ?_); refine Kd.R_lit (Kd.int .i64) _ 3 ?hg (N := 7) ?hd (xs := ([] : List Int)) (inner := []) (ok := fun _ => True) (okp := fun _ => True) ?hr ?hp (fun _ hk => hk) trivial (Below.refl _ _) (Nat.le_refl _) (by simp) ?_; (case hd => rfl); (case hg => rfl); (case hr => exact z21_); (case hp => exact z144_); intro v474 w5 ho6 hb hg_ hnew_; clear hg_ hnew_; (first | rw [← Ny473.out] at ho6 | (simp only [Int.reduceToNat] at ho6; rw [← Ny473.out] at ho6)); have HO475 := Aside0.mk (Kd.R_lower ho6 (below_size z0_)); replace HB := Aside0.mk (below_step z0_ hb); clear hb ho6) | (go_at_call 110; (with_reducible refine (impl_hasNode.calls k _ _ l0 a1 true _ ?side1 ?side2 A3.out).mono ?_); (case side1 => exact z2_); (case side2 => exact HC0.out); rintro e w7 ⟨rfl, hb⟩; replace HO475 := Aside0.mk (Kd.R_below z93_ hb); replace HB := Aside0.mk (below_step z0_ hb); (try clear hb))))
  go_loopg [5, 6] k (fun kq v5 v6 w' => ∃ (x5_1 : List Int) (x6_1 : Int), v6 = .int .i64 x6_1 ∧ Aside0 (impl_KidsOf.l0 kq l0 a1 x5_1 x6_1 = some r) ∧ Aside0 (kq ≤ k) ∧ Aside0 (Kd.R (Kd.int .i64) 3 w' w.heap.size (fun _ => True) v5 x5_1) ∧ Aside0 (Below w.heap.size w w'))
  case atStart => exact ⟨(y473), (wrap64 (a1 + 1)), z15_, H', ⟨Nat.le_refl _⟩, ⟨z93_⟩, ⟨z0_⟩⟩
  case round =>
   clear H'
   try clear p2
   try clear c4
   try clear c5
   try clear p6
   obtain ⟨x5_1, x6_1, rfl, HA, HK1, HO_5, HB⟩ := hrel
   cases gk with
   | zero => exact absurd HA.out (by simp [impl_KidsOf.l0])
   | succ k1 =>
    have H := HA.out
    clear HA
    simp only [impl_KidsOf.l0] at H
    obtain ⟨t477, A8, H⟩ := bnd_ H
    by_cases c9 : x6_1 < t477
    ·rw [if_pos c9] at H
     have c9b0 := decide_eq_true c9
     clear c9
     obtain ⟨c10b0, H⟩ := ifd_ H
     obtain ⟨c11b0, H⟩ := ifd_ H
     obtain ⟨c12b0, H⟩ := ifd_ H
     obtain ⟨c13b0, H⟩ := ifd_ H
     by_cases c14 : ((rd_T62 l0 x6_1).f1) = (wrap64 (((rd_T62 l0 a1).f1) + 1))
     ·rw [if_pos c14] at H
      have c14b0 : (((rd_T62 l0 x6_1).f1) == (wrap64 (((rd_T62 l0 a1).f1) + 1))) = true := beq_iff_eq.mpr c14
      have c14b1 : (((rd_T62 l0 x6_1).f1) != (wrap64 (((rd_T62 l0 a1).f1) + 1))) = false := bne_eq_false_iff_eq.mpr c14
      clear c14
      obtain ⟨c15, H⟩ := ifs_ H
      have LMc15 := Aside0.mk c15
      clear c15
      first | ((with_reducible have hz_ := gy_ H); obtain ⟨y480, Ny480, H⟩ := hz_) | (generalize hy_ : (x5_1 ++ [x6_1]) = y480 at H; have Ny480 := Aside0.mk hy_.symm; clear hy_)
      have H' := Aside0.mk H
      clear H
      go_wp2_with (first | (go_at_call 111; (with_reducible refine (impl_endOf.calls k1 _ _ l0 a1 t477 _ ?side1 ?side2 A8.out).mono ?_); (case side1 => exact z2_); (case side2 => exact HC0.out); rintro e w' ⟨rfl, ⟨nd, rfl⟩⟩; (try first | exact ⟨rfl, _, World.drewN_drewN _ _ _⟩ | exact ⟨rfl, _, Eq.trans (World.drewN_drewN _ _ _) (congrArg (World.drewN _) (Nat.add_assoc _ _ _))⟩); have p478 : 0 ≤ (x6_1 : Int) := odt_; have q478 : x6_1 < (l0.length : Int) := odt_; obtain ⟨ad478, e478, hx478_0, hx478_1⟩ := at_T62 HR0.out x6_1 p478 q478; cases e478; replace hx478_0 := (HB.out.cell (World.block_lt_of_cell? w _ hx478_0)).trans hx478_0; replace hx478_1 := (HB.out.cell (World.block_lt_of_cell? w _ hx478_1)).trans hx478_1; replace p478 := eq_true p478; replace q478 := eq_true q478; have p479 : 0 ≤ (a1 : Int) := odt_; have q479 : a1 < (l0.length : Int) := odt_; obtain ⟨ad479, e479, hx479_0, hx479_1⟩ := at_T62 HR0.out a1 p479 q479; obtain rfl : ad478 = ad479 := (by injection e479); replace hx479_0 := (HB.out.cell (World.block_lt_of_cell? w _ hx479_0)).trans hx479_0; replace hx479_1 := (HB.out.cell (World.block_lt_of_cell? w _ hx479_1)).trans hx479_1; replace p479 := eq_true p479; replace q479 := eq_true q479) | ((with_reducible refine gate_builtin (b := .append) (xs := #[.tmp 34, .tmp 36]) rfl ?_); at_builtin; refine Kd.R_append (Kd.int .i64) (w0 := w) w.heap.size rfl (.tmp 34) (.tmp 36) 49 3 (.int .i64 0) 8 rfl Try.underlying49 info3 rfl (by decide) (by omega) u5 x5_1 x6_1 [.int .i64 x6_1] (fun _ => True) (fun _ => False) rfl rfl ?aP (fun _ hk => hk.elim) ?aF ?aO ?aB ?aS ?aL ?_; (case aP => exact rfl); (case aB => exact z61_); (case aF => exact z126_); (case aO => exact z70_); (case aS => exact z62_); (case aL => have := LMc15.out; omega); intro v481 w16 ho hb hg hat; rw [← Ny480.out] at ho; replace HB := Aside0.mk (hb); have HO482 := Aside0.mk (ho); clear HO_5; clear ho hb hg hat))
      repeat (go_quiet (first | (go_at_call 111; (with_reducible refine (impl_endOf.calls k1 _ _ l0 a1 t477 _ ?side1 ?side2 A8.out).mono ?_); (case side1 => exact z2_); (case side2 => exact HC0.out); rintro e w' ⟨rfl, ⟨nd, rfl⟩⟩; (try first | exact ⟨rfl, _, World.drewN_drewN _ _ _⟩ | exact ⟨rfl, _, Eq.trans (World.drewN_drewN _ _ _) (congrArg (World.drewN _) (Nat.add_assoc _ _ _))⟩); have p478 : 0 ≤ (x6_1 : Int) := odt_; have q478 : x6_1 < (l0.length : Int) := odt_; obtain ⟨ad478, e478, hx478_0, hx478_1⟩ := at_T62 HR0.out x6_1 p478 q478; cases e478; replace hx478_0 := (HB.out.cell (World.block_lt_of_cell? w _ hx478_0)).trans hx478_0; replace hx478_1 := (HB.out.cell (World.block_lt_of_cell? w _ hx478_1)).trans hx478_1; replace p478 := eq_true p478; replace q478 := eq_true q478; have p479 : 0 ≤ (a1 : Int) := odt_; have q479 : a1 < (l0.length : Int) := odt_; obtain ⟨ad479, e479, hx479_0, hx479_1⟩ := at_T62 HR0.out a1 p479 q479; obtain rfl : ad478 = ad479 := (by injection e479); replace hx479_0 := (HB.out.cell (World.block_lt_of_cell? w _ hx479_0)).trans hx479_0; replace hx479_1 := (HB.out.cell (World.block_lt_of_cell? w _ hx479_1)).trans hx479_1; replace p479 := eq_true p479; replace q479 := eq_true q479) | ((with_reducible refine gate_builtin (b := .append) (xs := #[.tmp 34, .tmp 36]) rfl ?_); at_builtin; refine Kd.R_append (Kd.int .i64) (w0 := w) w.heap.size rfl (.tmp 34) (.tmp 36) 49 3 (.int .i64 0) 8 rfl Try.underlying49 info3 rfl (by decide) (by omega) u5 x5_1 x6_1 [.int .i64 x6_1] (fun _ => True) (fun _ => False) rfl rfl ?aP (fun _ hk => hk.elim) ?aF ?aO ?aB ?aS ?aL ?_; (case aP => exact rfl); (case aB => exact z61_); (case aF => exact z126_); (case aO => exact z70_); (case aS => exact z62_); (case aL => have := LMc15.out; omega); intro v481 w16 ho hb hg hat; rw [← Ny480.out] at ho; replace HB := Aside0.mk (hb); have HO482 := Aside0.mk (ho); clear HO_5; clear ho hb hg hat)); try go_wp2_with (first | (go_at_call 111; (with_reducible refine (impl_endOf.calls k1 _ _ l0 a1 t477 _ ?side1 ?side2 A8.out).mono ?_); (case side1 => exact z2_); (case side2 => exact HC0.out); rintro e w' ⟨rfl, ⟨nd, rfl⟩⟩; (try first | exact ⟨rfl, _, World.drewN_drewN _ _ _⟩ | exact ⟨rfl, _, Eq.trans (World.drewN_drewN _ _ _) (congrArg (World.drewN _) (Nat.add_assoc _ _ _))⟩); have p478 : 0 ≤ (x6_1 : Int) := odt_; have q478 : x6_1 < (l0.length : Int) := odt_; obtain ⟨ad478, e478, hx478_0, hx478_1⟩ := at_T62 HR0.out x6_1 p478 q478; cases e478; replace hx478_0 := (HB.out.cell (World.block_lt_of_cell? w _ hx478_0)).trans hx478_0; replace hx478_1 := (HB.out.cell (World.block_lt_of_cell? w _ hx478_1)).trans hx478_1; replace p478 := eq_true p478; replace q478 := eq_true q478; have p479 : 0 ≤ (a1 : Int) := odt_; have q479 : a1 < (l0.length : Int) := odt_; obtain ⟨ad479, e479, hx479_0, hx479_1⟩ := at_T62 HR0.out a1 p479 q479; obtain rfl : ad478 = ad479 := (by injection e479); replace hx479_0 := (HB.out.cell (World.block_lt_of_cell? w _ hx479_0)).trans hx479_0; replace hx479_1 := (HB.out.cell (World.block_lt_of_cell? w _ hx479_1)).trans hx479_1; replace p479 := eq_true p479; replace q479 := eq_true q479) | ((with_reducible refine gate_builtin (b := .append) (xs := #[.tmp 34, .tmp 36]) rfl ?_); at_builtin; refine Kd.R_append (Kd.int .i64) (w0 := w) w.heap.size rfl (.tmp 34) (.tmp 36) 49 3 (.int .i64 0) 8 rfl Try.underlying49 info3 rfl (by decide) (by omega) u5 x5_1 x6_1 [.int .i64 x6_1] (fun _ => True) (fun _ => False) rfl rfl ?aP (fun _ hk => hk.elim) ?aF ?aO ?aB ?aS ?aL ?_; (case aP => exact rfl); (case aB => exact z61_); (case aF => exact z126_); (case aO => exact z70_); (case aS => exact z62_); (case aL => have := LMc15.out; omega); intro v481 w16 ho hb hg hat; rw [← Ny480.out] at ho; replace HB := Aside0.mk (hb); have HO482 := Aside0.mk (ho); clear HO_5; clear ho hb hg hat)))
      go_roundg k1
      case measure => have := HK1.out; omega
      case rel => exact ⟨(y480), (wrap64 (x6_1 + 1)), z15_, H', ⟨z122_⟩, ⟨by (with_reducible repeat (first | apply Kd.R_alloc | apply Kd.R_drewN | apply Kd.R_drew)); exact HO482.out⟩, ⟨z0_⟩⟩
     ·rw [if_neg c14] at H
      have c14b0 : (((rd_T62 l0 x6_1).f1) == (wrap64 (((rd_T62 l0 a1).f1) + 1))) = false := beq_eq_false_iff_ne.mpr c14
      have c14b1 : (((rd_T62 l0 x6_1).f1) != (wrap64 (((rd_T62 l0 a1).f1) + 1))) = true := bne_iff_ne.mpr c14
      have H' := Aside0.mk H
      clear H
      go_wp2_with (first | (go_at_call 111; (with_reducible refine (impl_endOf.calls k1 _ _ l0 a1 t477 _ ?side1 ?side2 A8.out).mono ?_); (case side1 => exact z2_); (case side2 => exact HC0.out); rintro e w' ⟨rfl, ⟨nd, rfl⟩⟩; (try first | exact ⟨rfl, _, World.drewN_drewN _ _ _⟩ | exact ⟨rfl, _, Eq.trans (World.drewN_drewN _ _ _) (congrArg (World.drewN _) (Nat.add_assoc _ _ _))⟩); have p478 : 0 ≤ (x6_1 : Int) := odt_; have q478 : x6_1 < (l0.length : Int) := odt_; obtain ⟨ad478, e478, hx478_0, hx478_1⟩ := at_T62 HR0.out x6_1 p478 q478; cases e478; replace hx478_0 := (HB.out.cell (World.block_lt_of_cell? w _ hx478_0)).trans hx478_0; replace hx478_1 := (HB.out.cell (World.block_lt_of_cell? w _ hx478_1)).trans hx478_1; replace p478 := eq_true p478; replace q478 := eq_true q478; have p479 : 0 ≤ (a1 : Int) := odt_; have q479 : a1 < (l0.length : Int) := odt_; obtain ⟨ad479, e479, hx479_0, hx479_1⟩ := at_T62 HR0.out a1 p479 q479; obtain rfl : ad478 = ad479 := (by injection e479); replace hx479_0 := (HB.out.cell (World.block_lt_of_cell? w _ hx479_0)).trans hx479_0; replace hx479_1 := (HB.out.cell (World.block_lt_of_cell? w _ hx479_1)).trans hx479_1; replace p479 := eq_true p479; replace q479 := eq_true q479))
      repeat (go_quiet (first | (go_at_call 111; (with_reducible refine (impl_endOf.calls k1 _ _ l0 a1 t477 _ ?side1 ?side2 A8.out).mono ?_); (case side1 => exact z2_); (case side2 => exact HC0.out); rintro e w' ⟨rfl, ⟨nd, rfl⟩⟩; (try first | exact ⟨rfl, _, World.drewN_drewN _ _ _⟩ | exact ⟨rfl, _, Eq.trans (World.drewN_drewN _ _ _) (congrArg (World.drewN _) (Nat.add_assoc _ _ _))⟩); have p478 : 0 ≤ (x6_1 : Int) := odt_; have q478 : x6_1 < (l0.length : Int) := odt_; obtain ⟨ad478, e478, hx478_0, hx478_1⟩ := at_T62 HR0.out x6_1 p478 q478; cases e478; replace hx478_0 := (HB.out.cell (World.block_lt_of_cell? w _ hx478_0)).trans hx478_0; replace hx478_1 := (HB.out.cell (World.block_lt_of_cell? w _ hx478_1)).trans hx478_1; replace p478 := eq_true p478; replace q478 := eq_true q478; have p479 : 0 ≤ (a1 : Int) := odt_; have q479 : a1 < (l0.length : Int) := odt_; obtain ⟨ad479, e479, hx479_0, hx479_1⟩ := at_T62 HR0.out a1 p479 q479; obtain rfl : ad478 = ad479 := (by injection e479); replace hx479_0 := (HB.out.cell (World.block_lt_of_cell? w _ hx479_0)).trans hx479_0; replace hx479_1 := (HB.out.cell (World.block_lt_of_cell? w _ hx479_1)).trans hx479_1; replace p479 := eq_true p479; replace q479 := eq_true q479)); try go_wp2_with (first | (go_at_call 111; (with_reducible refine (impl_endOf.calls k1 _ _ l0 a1 t477 _ ?side1 ?side2 A8.out).mono ?_); (case side1 => exact z2_); (case side2 => exact HC0.out); rintro e w' ⟨rfl, ⟨nd, rfl⟩⟩; (try first | exact ⟨rfl, _, World.drewN_drewN _ _ _⟩ | exact ⟨rfl, _, Eq.trans (World.drewN_drewN _ _ _) (congrArg (World.drewN _) (Nat.add_assoc _ _ _))⟩); have p478 : 0 ≤ (x6_1 : Int) := odt_; have q478 : x6_1 < (l0.length : Int) := odt_; obtain ⟨ad478, e478, hx478_0, hx478_1⟩ := at_T62 HR0.out x6_1 p478 q478; cases e478; replace hx478_0 := (HB.out.cell (World.block_lt_of_cell? w _ hx478_0)).trans hx478_0; replace hx478_1 := (HB.out.cell (World.block_lt_of_cell? w _ hx478_1)).trans hx478_1; replace p478 := eq_true p478; replace q478 := eq_true q478; have p479 : 0 ≤ (a1 : Int) := odt_; have q479 : a1 < (l0.length : Int) := odt_; obtain ⟨ad479, e479, hx479_0, hx479_1⟩ := at_T62 HR0.out a1 p479 q479; obtain rfl : ad478 = ad479 := (by injection e479); replace hx479_0 := (HB.out.cell (World.block_lt_of_cell? w _ hx479_0)).trans hx479_0; replace hx479_1 := (HB.out.cell (World.block_lt_of_cell? w _ hx479_1)).trans hx479_1; replace p479 := eq_true p479; replace q479 := eq_true q479)))
      go_roundg k1
      case measure => have := HK1.out; omega
      case rel => exact ⟨(x5_1), (wrap64 (x6_1 + 1)), z15_, H', ⟨z122_⟩, ⟨z14_⟩, ⟨z0_⟩⟩
    ·rw [if_neg c9] at H
     have c9b0 := decide_eq_false c9
     clear c9
     obtain rfl := Option.some.inj H
     go_wp2_with (first | (go_at_call 111; (with_reducible refine (impl_endOf.calls k1 _ _ l0 a1 t477 _ ?side1 ?side2 A8.out).mono ?_); (case side1 => exact z2_); (case side2 => exact HC0.out); rintro e w' ⟨rfl, ⟨nd, rfl⟩⟩; (try first | exact ⟨rfl, _, World.drewN_drewN _ _ _⟩ | exact ⟨rfl, _, Eq.trans (World.drewN_drewN _ _ _) (congrArg (World.drewN _) (Nat.add_assoc _ _ _))⟩)))
     repeat (go_quiet (first | (go_at_call 111; (with_reducible refine (impl_endOf.calls k1 _ _ l0 a1 t477 _ ?side1 ?side2 A8.out).mono ?_); (case side1 => exact z2_); (case side2 => exact HC0.out); rintro e w' ⟨rfl, ⟨nd, rfl⟩⟩; (try first | exact ⟨rfl, _, World.drewN_drewN _ _ _⟩ | exact ⟨rfl, _, Eq.trans (World.drewN_drewN _ _ _) (congrArg (World.drewN _) (Nat.add_assoc _ _ _))⟩))); try go_wp2_with (first | (go_at_call 111; (with_reducible refine (impl_endOf.calls k1 _ _ l0 a1 t477 _ ?side1 ?side2 A8.out).mono ?_); (case side1 => exact z2_); (case side2 => exact HC0.out); rintro e w' ⟨rfl, ⟨nd, rfl⟩⟩; (try first | exact ⟨rfl, _, World.drewN_drewN _ _ _⟩ | exact ⟨rfl, _, Eq.trans (World.drewN_drewN _ _ _) (congrArg (World.drewN _) (Nat.add_assoc _ _ _))⟩))))
     go_ret
     exact ⟨_, z6_, z14_, z0_⟩
 ·replace c4 := Bool.eq_false_iff.mpr c4
  subst c4
  replace H := iff_ H
  obtain rfl := Option.some.inj H
  go_enter Try.func55, Try.ntmps55
  go_wp2_with (first | ((with_reducible refine gate_dst (N := 7) rfl ?_); refine Kd.R_lit (Kd.int .i64) _ 3 ?hg (N := 7) ?hd (xs := ([] : List Int)) (inner := []) (ok := fun _ => True) (okp := fun _ => True) ?hr ?hp (fun _ hk => hk) trivial (Below.refl _ _) (Nat.le_refl _) (by simp) ?_; (case hd => rfl); (case hg => rfl); (case hr => exact z21_); (case hp => exact z144_); intro v474 w17 ho18 hb hg_ hnew_; clear hg_ hnew_; (first | rw [← Ny473.out] at ho18 | (simp only [Int.reduceToNat] at ho18; rw [← Ny473.out] at ho18)); have HO475 := Aside0.mk (Kd.R_lower ho18 (below_size z0_)); replace HB := Aside0.mk (below_step z0_ hb); clear hb ho18) | (go_at_call 110; (with_reducible refine (impl_hasNode.calls k _ _ l0 a1 false _ ?side1 ?side2 A3.out).mono ?_); (case side1 => exact z2_); (case side2 => exact HC0.out); rintro e w19 ⟨rfl, hb⟩; replace HO475 := Aside0.mk (Kd.R_below z93_ hb); replace HB := Aside0.mk (below_step z0_ hb); (try clear hb)))
  repeat (go_quiet (first | ((with_reducible refine gate_dst (N := 7) rfl ?_); refine Kd.R_lit (Kd.int .i64) _ 3 ?hg (N := 7) ?hd (xs := ([] : List Int)) (inner := []) (ok := fun _ => True) (okp := fun _ => True) ?hr ?hp (fun _ hk => hk) trivial (Below.refl _ _) (Nat.le_refl _) (by simp) ?_; (case hd => rfl); (case hg => rfl); (case hr => exact z21_); (case hp => exact z144_); intro v474 w17 ho18 hb hg_ hnew_; clear hg_ hnew_; (first | rw [← Ny473.out] at ho18 | (simp only [Int.reduceToNat] at ho18; rw [← Ny473.out] at ho18)); have HO475 := Aside0.mk (Kd.R_lower ho18 (below_size z0_)); replace HB := Aside0.mk (below_step z0_ hb); clear hb ho18) | (go_at_call 110; (with_reducible refine (impl_hasNode.calls k _ _ l0 a1 false _ ?side1 ?side2 A3.out).mono ?_); (case side1 => exact z2_); (case side2 => exact HC0.out); rintro e w19 ⟨rfl, hb⟩; replace HO475 := Aside0.mk (Kd.R_below z93_ hb); replace HB := Aside0.mk (below_step z0_ hb); (try clear hb))); try go_wp2_with (first | ((with_reducible refine gate_dst (N := 7) rfl ?_); refine Kd.R_lit (Kd.int .i64) _ 3 ?hg (N := 7) ?hd (xs := ([] : List Int)) (inner := []) (ok := fun _ => True) (okp := fun _ => True) ?hr ?hp (fun _ hk => hk) trivial (Below.refl _ _) (Nat.le_refl _) (by simp) ?_; (case hd => rfl); (case hg => rfl); (case hr => exact z21_); (case hp => exact z144_); intro v474 w17 ho18 hb hg_ hnew_; clear hg_ hnew_; (first | rw [← Ny473.out] at ho18 | (simp only [Int.reduceToNat] at ho18; rw [← Ny473.out] at ho18)); have HO475 := Aside0.mk (Kd.R_lower ho18 (below_size z0_)); replace HB := Aside0.mk (below_step z0_ hb); clear hb ho18) | (go_at_call 110; (with_reducible refine (impl_hasNode.calls k _ _ l0 a1 false _ ?side1 ?side2 A3.out).mono ?_); (case side1 => exact z2_); (case side2 => exact HC0.out); rintro e w19 ⟨rfl, hb⟩; replace HO475 := Aside0.mk (Kd.R_below z93_ hb); replace HB := Aside0.mk (below_step z0_ hb); (try clear hb))))
  go_ret
  exact ⟨_, z6_, z93_, z0_⟩

/-! ### impl_NodeAt: function 103 -/
def impl_NodeAt.l0 : Nat → List (S62) → Int → List Int → Int → Int → Option (Int)
 | 0, _, _, _, _, _ => none
 | k + 1, x0, x5, x12, x13, x14 => if x14 < x13 then (if 0 ≤ x14 then (if x14 < (x12.length : Int) then ((impl_KidsOf.f k x0 x5).bind fun t485 => ((impl_within.f (rd x12 x14) 0 (wrap64 ((t485.length : Int) - 1))).bind fun t488 => (if t488 = true then (if 0 ≤ (rd x12 x14) then (if (rd x12 x14) < (t485.length : Int) then (impl_NodeAt.l0 k x0 (rd t485 (rd x12 x14)) x12 x13 (wrap64 (x14 + 1))) else (none)) else (none)) else (some (-1))))) else (none)) else (none)) else (some x5)
def impl_NodeAt.f (k : Nat) (l0 : List (S62)) (l1 : List Int) : Option (Int) := (impl_TreeOk.f k l0).bind fun t483 => (if t483 = true then (impl_NodeAt.l0 k l0 0 l1 (l1.length : Int) 0) else (some (-1)))
set_option maxHeartbeats 8000000 in
set_option maxRecDepth 100000 in
theorem impl_NodeAt.calls (k : Nat) (A0 : Option Addr) (c0 : Nat) (l0 : List (S62)) (A1 : Option Addr) (c1 : Nat) (l1 : List Int) (r : Int) (w : World) (hr0 : Kd.C k62 w A0 l0.length l0) (hc0 : l0.length ≤ c0) (hr1 : Kd.C (Kd.int .i64) w A1 l1.length l1) (hc1 : l1.length ≤ c1) (h : impl_NodeAt.f k l0 l1 = some r) :
  Calls Try.prog 103 #[.slice A0 l0.length c0, .slice A1 l1.length c1] w fun e w' => e = .returned (.int .i64 r) ∧ Below w.heap.size w w' := by
 have HR0 := Aside0.mk hr0
 have HC0 := Aside0.mk hc0
 clear hr0 hc0
 have HR1 := Aside0.mk hr1
 have HC1 := Aside0.mk hc1
 clear hr1 hc1
 have HB := Aside0.mk (Below.refl w.heap.size w)
 have H : ((impl_TreeOk.f k l0).bind fun t483 => (if t483 = true then (impl_NodeAt.l0 k l0 0 l1 (l1.length : Int) 0) else (some (-1)))) = some r := h
 clear h
 obtain ⟨t483, A3, H⟩ := bnd_ H
 by_cases c4 : t483 = true
 ·subst c4
  replace H := ift_ H
  have H' := Aside0.mk H
  clear H
  go_enter Try.func103, Try.ntmps103
  go_wp2_with (first | ((with_reducible refine gate_callee (f := 52) rfl ?_); refine goesL_ (some 10) rfl rfl Try.func52 (by kernel_rfl) rfl #[.slice A0 l0.length c0] rfl z1_ ?_; (with_reducible refine (impl_TreeOk.calls k _ _ l0 true _ ?side1 ?side2 A3.out).mono ?_); (case side1 => exact z17_); (case side2 => exact HC0.out); rintro e w5 ⟨rfl, hb⟩; refine ⟨_, rfl, ?_⟩; replace HB := Aside0.mk (below_step z0_ hb); (try clear hb)))
  go_loopg [5, 14] k (fun kq v5 v14 w' => ∃ (x5_1 : Int) (x14_1 : Int), v5 = .int .i64 x5_1 ∧ v14 = .int .i64 x14_1 ∧ Aside0 (impl_NodeAt.l0 kq l0 x5_1 l1 (l1.length : Int) x14_1 = some r) ∧ Aside0 (kq ≤ k) ∧ Aside0 (Below w.heap.size w w'))
  case atStart => exact ⟨(0), (0), z15_, z15_, H', ⟨Nat.le_refl _⟩, ⟨z0_⟩⟩
  case round =>
   clear H'
   try clear c1
   try clear p2
   try clear c4
   try clear c5
   obtain ⟨x5_1, x14_1, rfl, rfl, HA, HK1, HB⟩ := hrel
   cases gk with
   | zero => exact absurd HA.out (by simp [impl_NodeAt.l0])
   | succ k1 =>
    have H := HA.out
    clear HA
    simp only [impl_NodeAt.l0] at H
    by_cases c6 : x14_1 < (l1.length : Int)
    ·rw [if_pos c6] at H
     have c6b0 := decide_eq_true c6
     clear c6
     obtain ⟨c7b0, H⟩ := ifd_ H
     obtain ⟨c8b0, H⟩ := ifd_ H
     obtain ⟨t485, A9, H⟩ := bnd_ H
     obtain ⟨t488, A10, H⟩ := bnd_ H
     by_cases c11 : t488 = true
     ·subst c11
      replace H := ift_ H
      obtain ⟨c12b0, H⟩ := ifd_ H
      obtain ⟨c13b0, H⟩ := ifd_ H
      have H' := Aside0.mk H
      clear H
      have p484 : 0 ≤ (x14_1 : Int) := odt_
      have q484 : x14_1 < (l1.length : Int) := odt_
      obtain ⟨ad484, e484, hx484_0⟩ := Kd.at_int HR1.out x14_1 p484 q484
      cases e484
      replace hx484_0 := (HB.out.cell (World.block_lt_of_cell? w _ hx484_0)).trans hx484_0
      replace p484 := eq_true p484
      replace q484 := eq_true q484
      go_wp2_with (first | ((with_reducible refine gate_callee (f := 55) rfl ?_); refine goesL_ (some 20) rfl rfl Try.func55 (by kernel_rfl) rfl #[.slice A0 l0.length c0, .int .i64 x5_1] rfl z1_ ?_; (with_reducible refine (impl_KidsOf.calls k1 _ _ l0 x5_1 t485 _ ?side1 ?side2 A9.out).mono ?_); (case side1 => exact z2_); (case side2 => exact HC0.out); rintro e w14 ⟨v486, rfl, ho0, hb⟩; refine ⟨_, rfl, ?_⟩; have HO487 := Aside0.mk (Kd.R_lower ho0 (below_size z0_)); replace HB := Aside0.mk (below_step z0_ hb); (try clear hb ho0); obtain ⟨Ao15, co15, eo15⟩ := Kd.R_slice HO487.out; subst eo15) | ((with_reducible refine gate_callee (f := 81) rfl ?_); refine goesL_ (some 25) rfl rfl Try.func81 (by kernel_rfl) rfl #[.int .i64 (rd l1 x14_1), .int .i64 0, .int .i64 (wrap64 ((t485.length : Int) - 1))] rfl z1_ ?_; (with_reducible refine (impl_within.calls (rd l1 x14_1) 0 (wrap64 ((t485.length : Int) - 1)) true _ A10.out).mono ?_); rintro e w' ⟨rfl, ⟨nd, rfl⟩⟩; refine ⟨_, rfl, ?_⟩; have p489 : 0 ≤ ((rd l1 x14_1) : Int) := odt_; have q489 : (rd l1 x14_1) < (t485.length : Int) := odt_; obtain ⟨ad489, e489, hx489_0⟩ := Kd.at_int (Kd.R_reads' HO487.out).2.2 (rd l1 x14_1) p489 q489; cases e489; replace p489 := eq_true p489; replace q489 := eq_true q489))
      go_roundg k1
      case measure => have := HK1.out; omega
      case rel => exact ⟨(rd t485 (rd l1 x14_1)), (wrap64 (x14_1 + 1)), z15_, z15_, H', ⟨z122_⟩, ⟨z0_⟩⟩
     ·replace c11 := Bool.eq_false_iff.mpr c11
      subst c11
      replace H := iff_ H
      obtain rfl := Option.some.inj H
      have p484 : 0 ≤ (x14_1 : Int) := odt_
      have q484 : x14_1 < (l1.length : Int) := odt_
      obtain ⟨ad484, e484, hx484_0⟩ := Kd.at_int HR1.out x14_1 p484 q484
      cases e484
      replace hx484_0 := (HB.out.cell (World.block_lt_of_cell? w _ hx484_0)).trans hx484_0
      replace p484 := eq_true p484
      replace q484 := eq_true q484
      go_wp2_with (first | ((with_reducible refine gate_callee (f := 55) rfl ?_); refine goesL_ (some 20) rfl rfl Try.func55 (by kernel_rfl) rfl #[.slice A0 l0.length c0, .int .i64 x5_1] rfl z1_ ?_; (with_reducible refine (impl_KidsOf.calls k1 _ _ l0 x5_1 t485 _ ?side1 ?side2 A9.out).mono ?_); (case side1 => exact z2_); (case side2 => exact HC0.out); rintro e w16 ⟨v486, rfl, ho0, hb⟩; refine ⟨_, rfl, ?_⟩; have HO487 := Aside0.mk (Kd.R_lower ho0 (below_size z0_)); replace HB := Aside0.mk (below_step z0_ hb); (try clear hb ho0); obtain ⟨Ao17, co17, eo17⟩ := Kd.R_slice HO487.out; subst eo17) | ((with_reducible refine gate_callee (f := 81) rfl ?_); refine goesL_ (some 25) rfl rfl Try.func81 (by kernel_rfl) rfl #[.int .i64 (rd l1 x14_1), .int .i64 0, .int .i64 (wrap64 ((t485.length : Int) - 1))] rfl z1_ ?_; (with_reducible refine (impl_within.calls (rd l1 x14_1) 0 (wrap64 ((t485.length : Int) - 1)) false _ A10.out).mono ?_); rintro e w' ⟨rfl, ⟨nd, rfl⟩⟩; refine ⟨_, rfl, ?_⟩))
      go_ret
      exact ⟨z6_, z0_⟩
    ·rw [if_neg c6] at H
     have c6b0 := decide_eq_false c6
     clear c6
     obtain rfl := Option.some.inj H
     go_wp2
     go_ret
     exact ⟨z6_, z0_⟩
 ·replace c4 := Bool.eq_false_iff.mpr c4
  subst c4
  replace H := iff_ H
  obtain rfl := Option.some.inj H
  go_enter Try.func103, Try.ntmps103
  go_wp2_with (first | ((with_reducible refine gate_callee (f := 52) rfl ?_); refine goesL_ (some 10) rfl rfl Try.func52 (by kernel_rfl) rfl #[.slice A0 l0.length c0] rfl z1_ ?_; (with_reducible refine (impl_TreeOk.calls k _ _ l0 false _ ?side1 ?side2 A3.out).mono ?_); (case side1 => exact z17_); (case side2 => exact HC0.out); rintro e w18 ⟨rfl, hb⟩; refine ⟨_, rfl, ?_⟩; replace HB := Aside0.mk (below_step z0_ hb); (try clear hb)))
  go_ret
  exact ⟨z6_, z0_⟩

end Go.Proofs.Ytdapeboajjidmab.PFnInverted
