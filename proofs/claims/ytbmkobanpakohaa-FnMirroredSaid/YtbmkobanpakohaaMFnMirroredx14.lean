/- Laid by a program of this session out of the kit's print for the law FnMirrored: what it says of the machine is proved here, function by function; each contract under the conditions that it names. -/
import Derived.Test.YtbmkobanpakohaaMFnMirroredx0
import Derived.Test.YtbmkobanpakohaaMFnMirroredx2
import Derived.Test.YtbmkobanpakohaaMFnMirroredx3
import Derived.Test.YtbmkobanpakohaaMFnMirroredx13
namespace Go.Proofs.Ytbmkobanpakohaa.PFnMirrored
open Go.RowKit Go.Proofs.YtbmkobanpakohaaW.PrintWords Go.Proofs.YtbmkobanpakohaaW.PrintLast Go.Proofs.YtbmkobanpakohaaW.PrintMore
attribute [local go_sem] max2_int min2_int max_two min_two max_three min_three max_four min_four   -- for this text's walks alone
set_option linter.unusedVariables false
set_option linter.unusedSimpArgs false

/-! ### impl_KidsOf: function 76 -/
def impl_KidsOf.l0 : Nat → List (S61) → Int → List Int → Int → Option (List Int)
 | 0, _, _, _, _ => none
 | k + 1, x0, x1, x5, x6 => (impl_endOf.f k x0 x1).bind fun t574 => (if x6 < t574 then (if 0 ≤ x6 then (if x6 < (x0.length : Int) then (if 0 ≤ x1 then (if x1 < (x0.length : Int) then (if ((rd_T61 x0 x6).f1) = (wrap64 (((rd_T61 x0 x1).f1) + 1)) then (if x5.length < 17592186044416 then (impl_KidsOf.l0 k x0 x1 (x5 ++ [x6]) (wrap64 (x6 + 1))) else (none)) else (impl_KidsOf.l0 k x0 x1 x5 (wrap64 (x6 + 1)))) else (none)) else (none)) else (none)) else (none)) else (some x5))
def impl_KidsOf.f (k : Nat) (l0 : List (S61)) (a1 : Int) : Option (List Int) := (some (([] : List Int) : List Int)).bind fun y570 => ((impl_hasNode.f k l0 a1).bind fun t573 => (if t573 = true then (impl_KidsOf.l0 k l0 a1 y570 (wrap64 (a1 + 1))) else (some y570)))
set_option maxHeartbeats 8000000 in
set_option maxRecDepth 100000 in
theorem impl_KidsOf.calls (k : Nat) (A0 : Option Addr) (c0 : Nat) (l0 : List (S61)) (a1 : Int) (r : List Int) (w : World) (hr0 : Kd.C k61 w A0 l0.length l0) (hc0 : l0.length ≤ c0) (h : impl_KidsOf.f k l0 a1 = some r) :
  Calls Try.prog 76 #[.slice A0 l0.length c0, .int .i64 a1] w fun e w' => ∃ v0_ : Value, e = .returned (v0_) ∧ Kd.R (Kd.int .i64) 3 w' w.heap.size (fun _ => True) v0_ r ∧ Below w.heap.size w w' := by
 have HR0 := Aside0.mk hr0
 have HC0 := Aside0.mk hc0
 clear hr0 hc0
 have HB := Aside0.mk (Below.refl w.heap.size w)
 have H : ((some (([] : List Int) : List Int)).bind fun y570 => ((impl_hasNode.f k l0 a1).bind fun t573 => (if t573 = true then (impl_KidsOf.l0 k l0 a1 y570 (wrap64 (a1 + 1))) else (some y570)))) = some r := h
 clear h
 ((with_reducible have hz_ := gy_ H); obtain ⟨y570, Ny570, H⟩ := hz_)
 obtain ⟨t573, A3, H⟩ := bnd_ H
 by_cases c4 : t573 = true
 ·subst c4
  replace H := ift_ H
  have H' := Aside0.mk H
  clear H
  go_enter Try.func76, Try.ntmps76
  go_wp2_with (first | ((with_reducible refine gate_dst (N := 7) rfl ?_); refine Kd.R_lit (Kd.int .i64) _ 3 ?hg (N := 7) ?hd (xs := ([] : List Int)) (inner := []) (ok := fun _ => True) (okp := fun _ => True) ?hr ?hp (fun _ hk => hk) trivial (Below.refl _ _) (Nat.le_refl _) (by simp) ?_; (case hd => rfl); (case hg => rfl); (case hr => exact z19_); (case hp => exact z212_); intro v571 w5 ho6 hb hg_ hnew_; clear hg_ hnew_; (rw [← Ny570.out] at ho6); have HO572 := Aside0.mk (Kd.R_lower ho6 (below_size z0_)); replace HB := Aside0.mk (below_step z0_ hb); clear hb ho6) | (go_at_call 88; (with_reducible refine (impl_hasNode.calls k _ _ l0 a1 true _ ?side1 ?side2 A3.out).mono ?_); (case side1 => exact z7_); (case side2 => exact HC0.out); rintro e w7 ⟨rfl, hb⟩; replace HO572 := Aside0.mk (Kd.R_below z100_ hb); replace HB := Aside0.mk (below_step z0_ hb); (try clear hb)))
  go_loopg [5, 6] k (fun kq v5 v6 w' => ∃ (x5_1 : List Int) (x6_1 : Int), v6 = .int .i64 x6_1 ∧ Aside0 (impl_KidsOf.l0 kq l0 a1 x5_1 x6_1 = some r) ∧ Aside0 (kq ≤ k) ∧ Aside0 (Kd.R (Kd.int .i64) 3 w' w.heap.size (fun _ => True) v5 x5_1) ∧ Aside0 (Below w.heap.size w w'))
  case atStart => exact ⟨(y570), (wrap64 (a1 + 1)), z10_, H', ⟨Nat.le_refl _⟩, ⟨z100_⟩, ⟨z0_⟩⟩
  case round =>
   clear H'
   obtain ⟨x5_1, x6_1, rfl, HA, HK1, HO_5, HB⟩ := hrel
   cases gk with
   | zero => exact absurd HA.out (by simp [impl_KidsOf.l0])
   | succ k1 =>
    have H := HA.out
    clear HA
    simp only [impl_KidsOf.l0] at H
    obtain ⟨t574, A8, H⟩ := bnd_ H
    by_cases c9 : x6_1 < t574
    ·rw [if_pos c9] at H
     have c9b0 := decide_eq_true c9
     clear c9
     obtain ⟨c10b0, H⟩ := ifd_ H
     obtain ⟨c11b0, H⟩ := ifd_ H
     obtain ⟨c12b0, H⟩ := ifd_ H
     obtain ⟨c13b0, H⟩ := ifd_ H
     by_cases c14 : ((rd_T61 l0 x6_1).f1) = (wrap64 (((rd_T61 l0 a1).f1) + 1))
     ·rw [if_pos c14] at H
      have c14b0 : (((rd_T61 l0 x6_1).f1) == (wrap64 (((rd_T61 l0 a1).f1) + 1))) = true := beq_iff_eq.mpr c14
      have c14b1 : (((rd_T61 l0 x6_1).f1) != (wrap64 (((rd_T61 l0 a1).f1) + 1))) = false := bne_eq_false_iff_eq.mpr c14
      clear c14
      obtain ⟨c15, H⟩ := ifs_ H
      have LMc15 := Aside0.mk c15
      clear c15
      (generalize hy_ : ((x5_1 ++ [x6_1]) : List Int) = y577 at H; have Ny577 := Aside0.mk hy_.symm; clear hy_)
      have H' := Aside0.mk H
      clear H
      go_wp2_with ((go_at_call 59; (with_reducible refine (impl_endOf.calls k1 _ _ l0 a1 t574 _ ?side1 ?side2 A8.out).mono ?_); (case side1 => exact z7_); (case side2 => exact HC0.out); rintro e w' ⟨rfl, ⟨nd, rfl⟩⟩; have p575 : 0 ≤ (x6_1 : Int) := odt_; have q575 : x6_1 < (l0.length : Int) := odt_; obtain ⟨ad575, e575, hx575_0, hx575_1⟩ := at_T61 HR0.out x6_1 p575 q575; cases e575; replace hx575_0 := (HB.out.cell (World.block_lt_of_cell? w _ hx575_0)).trans hx575_0; replace hx575_1 := (HB.out.cell (World.block_lt_of_cell? w _ hx575_1)).trans hx575_1; replace p575 := eq_true p575; replace q575 := eq_true q575; have p576 : 0 ≤ (a1 : Int) := odt_; have q576 : a1 < (l0.length : Int) := odt_; obtain ⟨ad576, e576, hx576_0, hx576_1⟩ := at_T61 HR0.out a1 p576 q576; obtain rfl : ad575 = ad576 := (by injection e576); replace hx576_0 := (HB.out.cell (World.block_lt_of_cell? w _ hx576_0)).trans hx576_0; replace hx576_1 := (HB.out.cell (World.block_lt_of_cell? w _ hx576_1)).trans hx576_1; replace p576 := eq_true p576; replace q576 := eq_true q576))
      repeat (go_quiet (fail); try go_wp2_with (((with_reducible refine gate_builtin (b := .append) (xs := #[.tmp 34, .tmp 36]) rfl ?_); at_builtin; refine Kd.R_append (Kd.int .i64) (w0 := w) w.heap.size rfl (.tmp 34) (.tmp 36) 30 3 (.int .i64 0) 8 rfl Try.underlying30 info3 rfl (by decide) (by omega) u5 x5_1 x6_1 [.int .i64 x6_1] (fun _ => True) (fun _ => False) rfl rfl ?aP (fun _ hk => hk.elim) ?aF ?aO ?aB ?aS ?aL ?_; (case aP => exact rfl); (case aB => exact z84_); (case aF => exact z206_); (case aO => exact z81_); (case aS => exact z78_); (case aL => have := LMc15.out; omega); intro v578 w16 ho hb hg hat; rw [← Ny577.out] at ho; replace HB := Aside0.mk (hb); have HO579 := Aside0.mk (ho); clear HO_5; clear ho hb hg hat)))
      go_roundg k1
      case measure => have := HK1.out; omega
      case rel => exact ⟨(y577), (wrap64 (x6_1 + 1)), z10_, H', ⟨z143_⟩, ⟨by exact HO579.out⟩, ⟨z0_⟩⟩
     ·rw [if_neg c14] at H
      have c14b0 : (((rd_T61 l0 x6_1).f1) == (wrap64 (((rd_T61 l0 a1).f1) + 1))) = false := beq_eq_false_iff_ne.mpr c14
      have c14b1 : (((rd_T61 l0 x6_1).f1) != (wrap64 (((rd_T61 l0 a1).f1) + 1))) = true := bne_iff_ne.mpr c14
      have H' := Aside0.mk H
      clear H
      go_wp2_with ((go_at_call 59; (with_reducible refine (impl_endOf.calls k1 _ _ l0 a1 t574 _ ?side1 ?side2 A8.out).mono ?_); (case side1 => exact z7_); (case side2 => exact HC0.out); rintro e w' ⟨rfl, ⟨nd, rfl⟩⟩; have p575 : 0 ≤ (x6_1 : Int) := odt_; have q575 : x6_1 < (l0.length : Int) := odt_; obtain ⟨ad575, e575, hx575_0, hx575_1⟩ := at_T61 HR0.out x6_1 p575 q575; cases e575; replace hx575_0 := (HB.out.cell (World.block_lt_of_cell? w _ hx575_0)).trans hx575_0; replace hx575_1 := (HB.out.cell (World.block_lt_of_cell? w _ hx575_1)).trans hx575_1; replace p575 := eq_true p575; replace q575 := eq_true q575; have p576 : 0 ≤ (a1 : Int) := odt_; have q576 : a1 < (l0.length : Int) := odt_; obtain ⟨ad576, e576, hx576_0, hx576_1⟩ := at_T61 HR0.out a1 p576 q576; obtain rfl : ad575 = ad576 := (by injection e576); replace hx576_0 := (HB.out.cell (World.block_lt_of_cell? w _ hx576_0)).trans hx576_0; replace hx576_1 := (HB.out.cell (World.block_lt_of_cell? w _ hx576_1)).trans hx576_1; replace p576 := eq_true p576; replace q576 := eq_true q576))
      repeat (go_quiet (fail); try go_wp2)
      go_roundg k1
      case measure => have := HK1.out; omega
      case rel => exact ⟨(x5_1), (wrap64 (x6_1 + 1)), z10_, H', ⟨z143_⟩, ⟨z8_⟩, ⟨z0_⟩⟩
    ·rw [if_neg c9] at H
     have c9b0 := decide_eq_false c9
     clear c9
     obtain rfl := Option.some.inj H
     go_wp2_with ((go_at_call 59; (with_reducible refine (impl_endOf.calls k1 _ _ l0 a1 t574 _ ?side1 ?side2 A8.out).mono ?_); (case side1 => exact z7_); (case side2 => exact HC0.out); rintro e w' ⟨rfl, ⟨nd, rfl⟩⟩))
     go_ret
     exact ⟨_, z6_, z8_, z0_⟩
 ·replace c4 := Bool.eq_false_iff.mpr c4
  subst c4
  replace H := iff_ H
  obtain rfl := Option.some.inj H
  go_enter Try.func76, Try.ntmps76
  go_wp2_with (first | ((with_reducible refine gate_dst (N := 7) rfl ?_); refine Kd.R_lit (Kd.int .i64) _ 3 ?hg (N := 7) ?hd (xs := ([] : List Int)) (inner := []) (ok := fun _ => True) (okp := fun _ => True) ?hr ?hp (fun _ hk => hk) trivial (Below.refl _ _) (Nat.le_refl _) (by simp) ?_; (case hd => rfl); (case hg => rfl); (case hr => exact z19_); (case hp => exact z212_); intro v571 w17 ho18 hb hg_ hnew_; clear hg_ hnew_; (rw [← Ny570.out] at ho18); have HO572 := Aside0.mk (Kd.R_lower ho18 (below_size z0_)); replace HB := Aside0.mk (below_step z0_ hb); clear hb ho18) | (go_at_call 88; (with_reducible refine (impl_hasNode.calls k _ _ l0 a1 false _ ?side1 ?side2 A3.out).mono ?_); (case side1 => exact z7_); (case side2 => exact HC0.out); rintro e w19 ⟨rfl, hb⟩; replace HO572 := Aside0.mk (Kd.R_below z100_ hb); replace HB := Aside0.mk (below_step z0_ hb); (try clear hb)))
  go_ret
  exact ⟨_, z6_, z100_, z0_⟩

/-! ### slices_Reverse_int_int: function 77 -/
def slices_Reverse_int_int.l0 : Nat → List Int → Int → Int → Option (List Int)
 | 0, _, _, _ => none
 | k + 1, x0, x2, x3 => if x2 < x3 then (if 0 ≤ x3 then (if x3 < (x0.length : Int) then (if 0 ≤ x2 then (if x2 < (x0.length : Int) then (slices_Reverse_int_int.l0 k ((x0.set (x2 : Int).toNat (rd x0 x3)).set (x3 : Int).toNat (rd x0 x2)) (wrap64 (x2 + 1)) (wrap64 (x3 - 1))) else (none)) else (none)) else (none)) else (none)) else (some x0)
def slices_Reverse_int_int.f (k : Nat) (l0 : List Int) : Option (List Int) := slices_Reverse_int_int.l0 k l0 0 (wrap64 ((l0.length : Int) - 1))
def slices_Reverse_int_int.T3 : Bool × List (List Nat × List Nat) := (true, [([], []), ([], []), ([], []), ([], []), ([], []), ([], []), ([4, 5], [4, 5]), ([6], [6]), ([], []), ([], []), ([8, 9], [8, 9]), ([10], [10]), ([0, 1, 0, 1, 4, 5, 6, 7, 11], [0, 1]), ([12, 7, 0, 1, 4, 5, 6, 7, 11], [7, 12]), ([2, 3, 0, 1, 2, 3, 4, 5, 6, 7, 8, 9, 10, 11, 12, 13], [2, 3]), ([14, 11, 13, 0, 1, 2, 3, 4, 5, 6, 7, 8, 9, 10, 11, 12, 13], [11, 14])])
def slices_Reverse_int_int.B3 : List Nat := [0, 0, 0, 0, 0, 0, 48, 112, 0, 0, 768, 1792, 4083, 8179, 16383, 32767]
theorem slices_Reverse_int_int.tab3 : rtab .any (opsOf Try.f77 3) = slices_Reverse_int_int.T3 := by kernel_rfl
theorem slices_Reverse_int_int.bits3 : waitsOk slices_Reverse_int_int.T3.2 slices_Reverse_int_int.B3 = true := by kernel_rfl
set_option maxHeartbeats 8000000 in
set_option maxRecDepth 100000 in
theorem slices_Reverse_int_int.calls (k : Nat) (P0_ : Nat → Prop) (u9000_ : Value) (l0 : List Int) (r : List Int) (w0 w : World) (hB : Below w0.heap.size w0 w) (ho0 : Kd.R (Kd.int .i64) 3 w w0.heap.size P0_ u9000_ l0) (h : slices_Reverse_int_int.f k l0 = some r) :
  Calls Try.prog 77 #[u9000_] w fun e w' => e = .returned (.tuple #[]) ∧ Kd.R (Kd.int .i64) 3 w' w0.heap.size (fun k_ => (P0_ k_ ∨ w.heap.size ≤ k_)) u9000_ r ∧ Below w0.heap.size w0 w' ∧ Kept w w' (fun k_ => P0_ k_) := by
 have HO0 := Aside0.mk (show Kd.R (Kd.int .i64) 3 w w0.heap.size (fun k_ => (P0_ k_ ∨ w.heap.size ≤ k_)) u9000_ l0 from Kd.R_mono ho0 (fun k_ hk => (.inl hk)))
 have HK := Aside0.mk (Kept.refl w (fun k_ => P0_ k_))
 have HW0 := Aside0.mk hB.size
 have HB := Aside0.mk hB
 clear hB
 have H : (slices_Reverse_int_int.l0 k l0 0 (wrap64 ((l0.length : Int) - 1))) = some r := h
 clear h
 have H' := Aside0.mk H
 clear H
 obtain ⟨Ao2, co2, eo2⟩ := Kd.R_slice HO0.out
 subst eo2
 go_enter Try.func77, Try.ntmps77
 go_wp2
 go_loopg [2, 3] k (fun kq v2 v3 w' => ∃ (x0_1 : List Int) (x2_1 : Int) (x3_1 : Int), v2 = .int .i64 x2_1 ∧ v3 = .int .i64 x3_1 ∧ Aside0 (slices_Reverse_int_int.l0 kq x0_1 x2_1 x3_1 = some r) ∧ Aside0 (kq ≤ k) ∧ Aside0 (Kd.R (Kd.int .i64) 3 w' w0.heap.size (fun k_ => (P0_ k_ ∨ w.heap.size ≤ k_)) (.slice Ao2 l0.length co2) x0_1) ∧ Aside0 (Kept w w' (fun k_ => P0_ k_)) ∧ Aside0 (Below w0.heap.size w0 w'))
 case atStart => exact ⟨(l0), (0), (wrap64 ((l0.length : Int) - 1)), z10_, z10_, H', ⟨Nat.le_refl _⟩, ⟨by exact HO0.out⟩, ⟨z213_⟩, ⟨z0_⟩⟩
 case round =>
  clear H'
  obtain ⟨x0_1, x2_1, x3_1, rfl, rfl, HA, HK1, HO_0, HK, HB⟩ := hrel
  have hl0_1 := (Kd.R_reads' HO_0.out).1
  rw [hl0_1] at HO_0
  (try simp only [hl0_1])
  cases gk with
  | zero => exact absurd HA.out (by simp [slices_Reverse_int_int.l0])
  | succ k1 =>
   have H := HA.out
   clear HA
   simp only [slices_Reverse_int_int.l0] at H
   by_cases c3 : x2_1 < x3_1
   ·rw [if_pos c3] at H
    have c3b0 := decide_eq_true c3
    clear c3
    obtain ⟨c4b0, H⟩ := ifd_ H
    obtain ⟨c5b0, H⟩ := ifd_ H
    obtain ⟨c6b0, H⟩ := ifd_ H
    obtain ⟨c7b0, H⟩ := ifd_ H
    (generalize hy_ : ((x0_1.set (x2_1 : Int).toNat (rd x0_1 x3_1)) : List Int) = y582 at H; have Ny582 := Aside0.mk hy_.symm; clear hy_)
    (generalize hy_ : ((y582.set (x3_1 : Int).toNat (rd x0_1 x2_1)) : List Int) = y583 at H; have Ny583 := Aside0.mk hy_.symm; clear hy_)
    have H' := Aside0.mk H
    clear H
    try go_wp2
    have n0_ := Aside0.mk (Kd.R_drew HO_0.out)
    have n1_ := Aside0.mk (Kept.drew HK.out)
    have n2_ := Aside0.mk (below_drew1 HB.out)
    clear HO_0
    clear HK
    clear HB
    have HO_0 := n0_
    have HK := n1_
    have HB := n2_
    clear n0_ n1_ n2_
    have p580 : 0 ≤ (x3_1 : Int) := odt_
    have q580 : x3_1 < (x0_1.length : Int) := odt_
    obtain ⟨ad580, e580, hx580_0⟩ := Kd.at_int (Kd.R_reads' HO_0.out).2.2 x3_1 p580 q580
    cases e580
    replace p580 := eq_true p580
    replace q580 := eq_true q580
    have p581 : 0 ≤ (x2_1 : Int) := odt_
    have q581 : x2_1 < (x0_1.length : Int) := odt_
    obtain ⟨ad581, e581, hx581_0⟩ := Kd.at_int (Kd.R_reads' HO_0.out).2.2 x2_1 p581 q581
    obtain rfl : ad580 = ad581 := (by injection e581)
    replace p581 := eq_true p581
    replace q581 := eq_true q581
    have p8 : 0 ≤ (x2_1 : Int) := odt_
    have q8 : (x2_1 : Int) < ((x0_1.length : Int) : Int) := odt_
    obtain ⟨go8, co8, eo8, gb8, gl8, cl8, HG8⟩ := Kd.R_form HO_0.out (by omega)
    (cases eo8)
    have GB8 := Aside0.mk gb8
    have GG8 := Aside0.mk HG8
    clear gb8 gl8 HG8
    have HMgo8 := Aside0.mk (show (P0_ go8 ∨ w.heap.size ≤ go8) from (HO_0.out.1 _ rfl))
    (simp only [add_plain] at hx580_0)
    (simp only [add_plain] at hx581_0)
    obtain ⟨hx8_0, hf8_0⟩ := Kd.R_celln 0 HO_0.out (x2_1 : Int) p8 q8
    replace p8 := eq_true p8
    replace q8 := eq_true q8
    have HP11 := Kd.R_putn HO_0.out (x2_1 : Int) (rd x0_1 x3_1)
    rw [← Ny582.out] at HP11
    have HQ11 := Aside0.mk HP11
    clear HP11
    have p9 : 0 ≤ (x3_1 : Int) := odt_
    have q9 : (x3_1 : Int) < ((x0_1.length : Int) : Int) := odt_
    obtain ⟨hx9_0, hf9_0⟩ := Kd.R_celln 0 HQ11.out (x3_1 : Int) p9 q9
    replace p9 := eq_true p9
    replace q9 := eq_true q9
    have HP12 := Kd.R_putn HQ11.out (x3_1 : Int) (rd x0_1 x2_1)
    rw [← Ny583.out] at HP12
    have HQ12 := Aside0.mk HP12
    clear HP12
    refine start_ (n := 16) (S := fun w' => w'.cell? ⟨go8, (x3_1).toNat, none⟩ = some (.int .i64 (rd x0_1 x3_1)) ∧ w'.cell? ⟨go8, (x2_1).toNat, none⟩ = some (.int .i64 (rd x0_1 x2_1))) (ds := [13, 15]) (fl_ 16 0) (by kernel_rfl) rfl (fl_zero _) ⟨hx580_0, hx581_0⟩ (fun hHeld => ?_); refine with_tabW slices_Reverse_int_int.tab3 slices_Reverse_int_int.bits3 (fun HT_ HW_ => ?_)
    generalize wr.drew = w10 at HO_0 HK HB GG8 HQ11 HQ12 hf8_0 hf9_0 hx580_0 hx581_0 hx8_0 hx9_0 hHeld ⊢
    iterate 7 refine zp_ HT_ rfl rfl (by kernel_rfl) (fun _ _ _ h => h) (by rfl) ?_
    refine zpg_ (i := 8) (ra_ [7, 1, 1, 7]) HT_ rfl rfl (by kernel_rfl) (fun _ _ _ h => h) (by rfl) ?_
    refine zpg_ (i := 9) (ra_ [7, 1, 2, 6]) HT_ rfl rfl (by kernel_rfl) (fun _ _ _ h => h) (by rfl) ?_
    refine zpg_ (i := 10) (ra_ [7, 1, 3, 5]) HT_ rfl rfl (by kernel_rfl) (fun _ _ _ h => h) (by rfl) ?_
    refine ztg_ (i := 7) (fl_ 16 11) HT_ HW_ rfl rfl (by kernel_rfl) (fun _ _ _ h => h) (by rfl) hHeld ?_ z145_
    refine zt_ HT_ HW_ rfl rfl (by kernel_rfl) (fun _ _ _ h => h) (by rfl) hHeld ?_ z145_
    refine zp_ HT_ rfl rfl (by kernel_rfl) (fun _ _ _ h => h) (by rfl) ?_
    refine last_ (i := 13) (N := none) (fl_ 16 14) rfl rfl (one_of HT_.out (by kernel_rfl)) (by decide) (fun K hK => ?_)
    refine skip_ (w1 := ?_) (by rfl) rfl ?_ ?_
    rotate_left
    ·go_simp
     rfl
    refine hK.out _ _ ?_
    clear hK K
    refine zp_ HT_ rfl rfl (by kernel_rfl) (fun _ _ _ h => h) (by rfl) ?_
    refine last_ (i := 15) (N := none) (fl_ 16 16) rfl rfl (one_of HT_.out (by kernel_rfl)) (by decide) (fun K hK => ?_)
    refine skip_ (w1 := ?_) (by rfl) rfl ?_ ?_
    rotate_left
    ·go_simp
     rfl
    refine hK.out _ _ ?_
    clear hK K
    refine done_ (done_of HT_.out (by kernel_rfl)) ?_
    try go_wp2
    (try simp only [← hl0_1])
    go_roundg k1
    case measure => have := HK1.out; omega
    case rel => exact ⟨(y583), (wrap64 (x2_1 + 1)), (wrap64 (x3_1 - 1)), z10_, z10_, H', ⟨z143_⟩, ⟨by (try simp only [hl0_1]); exact HQ12.out⟩, ⟨by repeat ((with_reducible first | exact HK.out | refine Kept.setCell ?_ HMgo8.out _))⟩, ⟨by repeat ((with_reducible first | exact HB.out | refine below_set ?_ GB8.out))⟩⟩
   ·rw [if_neg c3] at H
    have c3b0 := decide_eq_false c3
    clear c3
    obtain rfl := Option.some.inj H
    go_wp2
    go_end0
    exact ⟨z6_, (by exact z234_), z0_, z213_⟩

/-! ### impl_mirrored: function 58 -/
mutual
def impl_mirrored.l0 : Nat → List (S61) → List (S61) → List Int → Int → Int → Option ((List (S61)))
 | 0, _, _, _, _, _ => none
 | k + 1, x0, x5, x19, x20, x21 => if x21 < x20 then (if 0 ≤ x21 then (if x21 < (x19.length : Int) then ((impl_mirrored.f k x0 (rd x19 x21)).bind fun t593 => (if x5.length + t593.length < 8796093022208 then (impl_mirrored.l0 k x0 (x5 ++ t593) x19 x20 (wrap64 (x21 + 1))) else (none))) else (none)) else (none)) else (some x5)
def impl_mirrored.f : Nat → List (S61) → Int → Option ((List (S61)))
 | 0, _, _ => none
 | k + 1, l0, a1 => if 0 ≤ a1 then (if a1 < (l0.length : Int) then ((impl_KidsOf.f k l0 a1).bind fun t588 => ((slices_Reverse_int_int.f k t588).bind fun t591 => (impl_mirrored.l0 k l0 (([(⟨(rd_T61 l0 a1).f0, (rd_T61 l0 a1).f1⟩ : S61)] : List (S61))) t591 (t588.length : Int) 0))) else (none)) else (none)
end
def impl_mirrored.T1 : Bool × List (List Nat × List Nat) := (true, [([], []), ([], []), ([0, 1], [0, 1]), ([2], [2]), ([3], [3]), ([], []), ([], []), ([5, 6], [5, 6]), ([4, 7, 0, 1, 2, 3, 4], [4]), ([7, 8, 0, 1, 2, 3, 4, 5, 6, 7, 8], [7])])
def impl_mirrored.B1 : List Nat := [0, 0, 3, 7, 15, 0, 0, 96, 255, 511]
theorem impl_mirrored.tab1 : rtab .any (opsOf Try.f58 1) = impl_mirrored.T1 := by kernel_rfl
theorem impl_mirrored.bits1 : waitsOk impl_mirrored.T1.2 impl_mirrored.B1 = true := by kernel_rfl
set_option maxHeartbeats 8000000 in
set_option maxRecDepth 100000 in
theorem impl_mirrored.calls (k : Nat) : ∀ (A0 : Option Addr) (c0 : Nat) (l0 : List (S61)) (a1 : Int) (r : List (S61)) (w : World) (hr0 : Kd.C k61 w A0 l0.length l0) (hc0 : l0.length ≤ c0) (h : impl_mirrored.f k l0 a1 = some r),
  Calls Try.prog 58 #[.slice A0 l0.length c0, .int .i64 a1] w fun e w' => ∃ v0_ : Value, e = .returned (v0_) ∧ Kd.R k61 61 w' w.heap.size (fun _ => True) v0_ r ∧ Below w.heap.size w w' := by
 induction k using Nat.strongRecOn with
 | _ k ih =>
 intro A0 c0 l0 a1 r w hr0 hc0 h
 cases k with
 | zero => exact absurd h (by simp [impl_mirrored.f])
 | succ k =>
 simp only [impl_mirrored.f] at h
 have hu61 := Try.underlying61
 have HR0 := Aside0.mk hr0
 have HC0 := Aside0.mk hc0
 clear hr0 hc0
 have HB := Aside0.mk (Below.refl w.heap.size w)
 have H : (if 0 ≤ a1 then (if a1 < (l0.length : Int) then ((impl_KidsOf.f k l0 a1).bind fun t588 => ((slices_Reverse_int_int.f k t588).bind fun t591 => (impl_mirrored.l0 k l0 (([(⟨(rd_T61 l0 a1).f0, (rd_T61 l0 a1).f1⟩ : S61)] : List (S61))) t591 (t588.length : Int) 0))) else (none)) else (none)) = some r := h
 clear h
 obtain ⟨c3b0, H⟩ := ifd_ H
 obtain ⟨c4b0, H⟩ := ifd_ H
 (generalize hy_ : ((([(⟨(rd_T61 l0 a1).f0, (rd_T61 l0 a1).f1⟩ : S61)] : List (S61))) : List (S61)) = y585 at H; have Ny585 := Aside0.mk hy_.symm; clear hy_)
 obtain ⟨t588, A5, H⟩ := bnd_ H
 obtain ⟨t591, A6, H⟩ := bnd_ H
 have H' := Aside0.mk H
 clear H
 go_enter Try.func58, Try.ntmps58
 try go_wp2
 have n0_ := Aside0.mk (below_drew1 HB.out)
 clear HB
 have HB := n0_
 clear n0_
 obtain ⟨p584, q584, ad584, e584, hw584_0, hw584_1, hx584_0, hx584_1⟩ := atw61_ HR0 HB a1
 cases e584
 refine start_ (n := 10) (S := fun w' => True) (ds := []) (fl_ 10 0) (by kernel_rfl) rfl (fl_zero _) trivial (fun hHeld => ?_); refine with_tabW impl_mirrored.tab1 impl_mirrored.bits1 (fun HT_ HW_ => ?_)
 generalize w.drew = w7 at HB hx584_0 hx584_1 hHeld ⊢
 iterate 2 refine zp_ HT_ rfl rfl (by kernel_rfl) (fun _ _ _ h => h) (by rfl) ?_
 refine zpg_ (i := 5) (ra_ [2, 3, 1, 4]) HT_ rfl rfl (by kernel_rfl) (fun _ _ _ h => h) (by rfl) ?_
 refine zpg_ (i := 6) (ra_ [2, 3, 2, 3]) HT_ rfl rfl (by kernel_rfl) (fun _ _ _ h => h) (by rfl) ?_
 refine inv_at [2, 3, 4, 7, 8, 9] (fun a0_ b a w' => ∃ (v586 : Value) (v589 : Value) (m8_ : Value) (m9_ : Value), a = putSel a0_ b [(2, 11, .pointer (some (ad584.add ((a1).toNat * 2)))), (3, 12, .agg #[.int .i64 ((rd_T61 l0 a1).f0), .int .i64 ((rd_T61 l0 a1).f1)]), (4, 13, v586), (7, 16, v589), (8, 5, m8_), (9, 6, m9_)] ∧ (Below w.heap.size w w') ∧ (b 4 = true → Kd.R k61 61 w' w.heap.size (fun _ => True) v586 y585) ∧ (b 7 = true → Kd.R (Kd.int .i64) 3 w' w.heap.size (fun _ => True) v589 t588) ∧ (b 8 = true → (m8_ : Value) = v586) ∧ (b 9 = true → (m9_ : Value) = v589)) HT_.out HW_.out (by kernel_rfl) (by kernel_rfl) ?_ ?_ ?_
 ·exact ⟨.bool false, .bool false, .bool false, .bool false, by simp only [putSel, Bool.false_eq_true, if_false], HB.out, fun h_ => absurd h_ (by decide), fun h_ => absurd h_ (by decide), fun h_ => absurd h_ (by decide), fun h_ => absurd h_ (by decide)⟩
 ·skip
  clear HB
  refine steps_cons ?_ ?_
  ·rintro b a w' ⟨v586, v589, m8_, m9_, ha, Q_HB, Q_HO587, Q_HO590, Q_X8_, Q_X9_⟩ hb_ hon hoff
   refine ⟨_, rfl, fun K hK => ?_⟩
   have e9 : a.tmps[9]? = some (.slice (some ad584) l0.length c0) := by rw [ha]; exact (putSel_off rfl).trans rfl
   have e10 : a.tmps[10]? = some (.int .i64 a1) := by rw [ha]; exact (putSel_off rfl).trans rfl
   replace ha := Aside0.mk ha
   have HB := Aside0.mk Q_HB
   have hs0_ : w'.cell? (ad584.add ((a1).toNat * 2)) = some (.int .i64 ((rd_T61 l0 a1).f0)) := ((HB.out.cell (World.block_lt_of_cell? w _ hw584_0)).trans hw584_0)
   have hs1_ : w'.cell? ⟨(ad584.add ((a1).toNat * 2)).block, (ad584.add ((a1).toNat * 2)).off + 1, none⟩ = some (.int .i64 ((rd_T61 l0 a1).f1)) := ((HB.out.cell (World.block_lt_of_cell? w _ hw584_1)).trans hw584_1)
   refine value_ (w1 := w') (v := .pointer (some (ad584.add ((a1).toNat * 2)))) (by rfl) rfl ?_ ?_
   ·go_simp
   refine hK.out _ _ ⟨v586, v589, m8_, m9_, (by rw [ha.out]; exact putSel_upk 0 hb_ rfl rfl rfl), Q_HB, fun h0_ => absurd ((hoff 4 (by kernel_rfl)).symm.trans h0_) (by decide), Q_HO590, fun h0_ => absurd ((hoff 8 (by kernel_rfl)).symm.trans h0_) (by decide), fun h0_ => absurd ((hoff 9 (by kernel_rfl)).symm.trans h0_) (by decide)⟩
  refine steps_cons ?_ ?_
  ·rintro b a w' ⟨v586, v589, m8_, m9_, ha, Q_HB, Q_HO587, Q_HO590, Q_X8_, Q_X9_⟩ hb_ hon hoff
   refine ⟨_, rfl, fun K hK => ?_⟩
   have e11 : a.tmps[11]? = some (.pointer (some (ad584.add ((a1).toNat * 2)))) := by rw [ha]; exact putSel_on (e := (2, 11, .pointer (some (ad584.add ((a1).toNat * 2))))) 0 rfl rfl (hon 2 (by kernel_rfl)) rfl
   replace ha := Aside0.mk ha
   have HB := Aside0.mk Q_HB
   have hs0_ : w'.cell? (ad584.add ((a1).toNat * 2)) = some (.int .i64 ((rd_T61 l0 a1).f0)) := ((HB.out.cell (World.block_lt_of_cell? w _ hw584_0)).trans hw584_0)
   have hs1_ : w'.cell? ⟨(ad584.add ((a1).toNat * 2)).block, (ad584.add ((a1).toNat * 2)).off + 1, none⟩ = some (.int .i64 ((rd_T61 l0 a1).f1)) := ((HB.out.cell (World.block_lt_of_cell? w _ hw584_1)).trans hw584_1)
   refine value_ (w1 := w') (v := .agg #[.int .i64 ((rd_T61 l0 a1).f0), .int .i64 ((rd_T61 l0 a1).f1)]) (by rfl) rfl ?_ ?_
   ·go_simp
   refine hK.out _ _ ⟨v586, v589, m8_, m9_, (by rw [ha.out]; exact putSel_upk 1 hb_ rfl rfl rfl), Q_HB, fun h0_ => absurd ((hoff 4 (by kernel_rfl)).symm.trans h0_) (by decide), Q_HO590, fun h0_ => absurd ((hoff 8 (by kernel_rfl)).symm.trans h0_) (by decide), fun h0_ => absurd ((hoff 9 (by kernel_rfl)).symm.trans h0_) (by decide)⟩
  refine steps_cons ?_ ?_
  ·rintro b a w' ⟨v586, v589, m8_, m9_, ha, Q_HB, Q_HO587, Q_HO590, Q_X8_, Q_X9_⟩ hb_ hon hoff
   refine ⟨_, rfl, fun K hK => ?_⟩
   have e12 : a.tmps[12]? = some (.agg #[.int .i64 ((rd_T61 l0 a1).f0), .int .i64 ((rd_T61 l0 a1).f1)]) := by rw [ha]; exact putSel_on (e := (3, 12, .agg #[.int .i64 ((rd_T61 l0 a1).f0), .int .i64 ((rd_T61 l0 a1).f1)])) 1 rfl rfl (hon 3 (by kernel_rfl)) rfl
   replace ha := Aside0.mk ha
   have HB := Aside0.mk Q_HB
   refine Kd.R_lit_step k61 _ 61 ?hg (N := 13) ?hd (xs := ([(⟨(rd_T61 l0 a1).f0, (rd_T61 l0 a1).f1⟩ : S61)] : List (S61))) (inner := [.int .i64 ((rd_T61 l0 a1).f0), .int .i64 ((rd_T61 l0 a1).f1)]) (ok := fun _ => True) (okp := fun _ => True) ?hr ?hp (fun _ hk => hk) trivial (Below.refl _ _) (Nat.le_refl _) (by simp) ?_; (case hd => rfl); (case hg => rfl); (case hr => exact z19_); (case hp => exact (Reps.c2 (show Kd.M k61 _ _ _ (⟨(rd_T61 l0 a1).f0, (rd_T61 l0 a1).f1⟩ : S61) [.int .i64 ((rd_T61 l0 a1).f0), .int .i64 ((rd_T61 l0 a1).f1)] from (k61_mkM _ _ _ (⟨(rd_T61 l0 a1).f0, (rd_T61 l0 a1).f1⟩ : S61) )) (Reps.none _ _)))
   intro v586 w8 ho9 hb hg_ hnew_
   clear hg_ hnew_
   (rw [← Ny585.out] at ho9)
   have n0_ := Aside0.mk (Kd.R_lower ho9 (below_size z0_))
   have n1_ := Aside0.mk (below_step z0_ hb)
   have z_HO590 := fun (h0_ : b 7 = true) => (show Kd.R (Kd.int .i64) 3 w8 w.heap.size (fun _ => True) v589 t588 from by exact (Kd.R_below z219_ hb))
   clear HB
   have HO587 := n0_
   have HB := n1_
   clear n0_ n1_
   clear hb ho9
   refine hK.out _ _ ⟨v586, v589, m8_, m9_, (by rw [ha.out]; exact putSel_upk 2 hb_ rfl rfl rfl), z0_, fun _ => z229_, z_HO590, fun h0_ => absurd ((hoff 8 (by kernel_rfl)).symm.trans h0_) (by decide), fun h0_ => absurd ((hoff 9 (by kernel_rfl)).symm.trans h0_) (by decide)⟩
  refine steps_cons ?_ ?_
  ·rintro b a w' ⟨v586, v589, m8_, m9_, ha, Q_HB, Q_HO587, Q_HO590, Q_X8_, Q_X9_⟩ hb_ hon hoff
   refine ⟨_, rfl, fun K hK => ?_⟩
   have e14 : a.tmps[14]? = some (.slice (some ad584) l0.length c0) := by rw [ha]; exact (putSel_off rfl).trans rfl
   have e15 : a.tmps[15]? = some (.int .i64 a1) := by rw [ha]; exact (putSel_off rfl).trans rfl
   replace ha := Aside0.mk ha
   have HB := Aside0.mk Q_HB
   refine goes_ Try.func76 (by kernel_rfl) rfl #[.slice (some ad584) l0.length c0, .int .i64 a1] (by rfl) rfl rfl (by (simp only [List.map_toArray, List.map_cons, List.map_nil, Act.eval, Array.getD_eq_getD_getElem?, Option.getD_some, e14, e15]; done)) ?_
   with_reducible refine (impl_KidsOf.calls k _ _ l0 a1 t588 _ ?side1 ?side2 A5.out).mono ?_
   (case side1 => exact z7_)
   (case side2 => exact HC0.out)
   rintro e w8 ⟨v589, rfl, ho0, hb⟩
   refine ⟨_, rfl, ?_⟩
   have n0_ := Aside0.mk (Kd.R_lower ho0 (below_size z0_))
   have n1_ := Aside0.mk (below_step z0_ hb)
   have z_HO587 := fun (h0_ : b 4 = true) => (show Kd.R k61 61 w8 w.heap.size (fun _ => True) v586 y585 from by exact (Kd.R_below z220_ hb))
   clear HB
   have HO590 := n0_
   have HB := n1_
   clear n0_ n1_
   (try clear hb)
   (try clear ho0)
   refine hK.out _ _ ⟨v586, v589, m8_, m9_, (by rw [ha.out]; exact putSel_upk 3 hb_ rfl rfl rfl), z0_, z_HO587, fun _ => z230_, fun h0_ => absurd ((hoff 8 (by kernel_rfl)).symm.trans h0_) (by decide), fun h0_ => absurd ((hoff 9 (by kernel_rfl)).symm.trans h0_) (by decide)⟩
  refine steps_cons ?_ ?_
  ·rintro b a w' ⟨v586, v589, m8_, m9_, ha, Q_HB, Q_HO587, Q_HO590, Q_X8_, Q_X9_⟩ hb_ hon hoff
   refine ⟨_, rfl, fun K hK => ?_⟩
   have e13 : a.tmps[13]? = some (v586) := by rw [ha]; exact putSel_on (e := (4, 13, v586)) 2 rfl rfl (hon 4 (by kernel_rfl)) rfl
   replace ha := Aside0.mk ha
   have HB := Aside0.mk Q_HB
   have HO587 := Aside0.mk (Q_HO587 (hon 4 (by kernel_rfl)))
   have HO590 := Aside0.mk (Q_HO590 (hon 7 (by kernel_rfl)))
   refine value_ (w1 := w') (v := v586) (by rfl) rfl ?_ ?_
   ·go_simp
   refine hK.out _ _ ⟨v586, v589, (v586), m9_, (by rw [ha.out]; exact putSel_upk 4 hb_ rfl rfl rfl), Q_HB, Q_HO587, Q_HO590, fun _ => rfl, fun h0_ => absurd ((hoff 9 (by kernel_rfl)).symm.trans h0_) (by decide)⟩
  refine steps_cons ?_ ?_
  ·rintro b a w' ⟨v586, v589, m8_, m9_, ha, Q_HB, Q_HO587, Q_HO590, Q_X8_, Q_X9_⟩ hb_ hon hoff
   refine ⟨_, rfl, fun K hK => ?_⟩
   have e16 : a.tmps[16]? = some (v589) := by rw [ha]; exact putSel_on (e := (7, 16, v589)) 3 rfl rfl (hon 7 (by kernel_rfl)) rfl
   replace ha := Aside0.mk ha
   have HB := Aside0.mk Q_HB
   have HO587 := Aside0.mk (Q_HO587 (hon 4 (by kernel_rfl)))
   have HO590 := Aside0.mk (Q_HO590 (hon 7 (by kernel_rfl)))
   refine value_ (w1 := w') (v := v589) (by rfl) rfl ?_ ?_
   ·go_simp
   refine hK.out _ _ ⟨v586, v589, m8_, (v589), (by rw [ha.out]; exact putSel_upk 5 hb_ rfl rfl rfl), Q_HB, Q_HO587, Q_HO590, Q_X8_, fun _ => rfl⟩
  exact steps_nil
 rintro b a w11 hall ⟨v586, v589, m8_, m9_, ha, Q_HB, Q_HO587, Q_HO590, Q_X8_, Q_X9_⟩
 clear HB
 have hb2_ := hall 2 (by kernel_rfl)
 have hb3_ := hall 3 (by kernel_rfl)
 have hb4_ := hall 4 (by kernel_rfl)
 have hb7_ := hall 7 (by kernel_rfl)
 have hb8_ := hall 8 (by kernel_rfl)
 have hb9_ := hall 9 (by kernel_rfl)
 subst ha
 obtain rfl := Q_X8_ hb8_
 obtain rfl := Q_X9_ hb9_
 simp only [putSel, hb2_, hb3_, hb4_, hb7_, hb8_, hb9_, if_true, Act.put, List.setIfInBounds_toArray, List.set_cons_zero, List.set_cons_succ]
 have HB := Aside0.mk Q_HB
 clear Q_HB
 have HO587 := Aside0.mk (Q_HO587 hb4_)
 clear Q_HO587
 have HO590 := Aside0.mk (Q_HO590 hb7_)
 clear Q_HO590
 clear hall hb2_ hb3_ hb4_ hb7_ hb8_ hb9_
 obtain ⟨Ao12, co12, eo12⟩ := Kd.R_slice HO590.out
 subst eo12
 try go_wp2_with (((with_reducible refine gate_callee (f := 77) rfl ?_); refine goesL_ (some 18) rfl rfl Try.func77 (by kernel_rfl) rfl #[.slice Ao12 t588.length co12] rfl z1_ ?_; (with_reducible refine (slices_Reverse_int_int.calls k (fun k_ => some k_ = (.slice Ao12 t588.length co12 : Value).ownBlock) (.slice Ao12 t588.length co12) t588 t591 w _ ?side1 ?side2 A6.out).mono ?_); (case side1 => exact z0_); (case side2 => exact Kd.R_tight rfl HO590.out); rintro e w13 ⟨rfl, hy0, hb, hkp⟩; refine ⟨_, rfl, ?_⟩; replace HO587 := Aside0.mk (Kd.R_mono (ok' := fun k_ => True) (Kd.R_keptB ((Kd.R_apart' HO587.out (Kd.R_typed HO590.out) (by decide))) hkp (fun k_ hk_ hs_ => (hk_.2) hs_)) (fun k_ hk_ => trivial)); replace HO590 := Aside0.mk (Kd.R_reok rfl hy0 (fun k_ e_ => HO590.out.1 k_ e_)); replace HB := Aside0.mk (hb); (try clear hb hkp hy0)))
 go_loopg [5, 21] k (fun kq v5 v21 w' => ∃ (x5_1 : List (S61)) (x21_1 : Int), v21 = .int .i64 x21_1 ∧ Aside0 (impl_mirrored.l0 kq l0 x5_1 t591 (t588.length : Int) x21_1 = some r) ∧ Aside0 (kq ≤ k) ∧ Aside0 (Kd.R k61 61 w' w.heap.size (fun _ => True) v5 x5_1) ∧ Aside0 (Kd.R (Kd.int .i64) 3 w' w.heap.size (fun _ => True) (.slice Ao12 t588.length co12) t591) ∧ Aside0 (Below w.heap.size w w'))
 case atStart => exact ⟨(y585), (0), z10_, H', ⟨Nat.le_refl _⟩, ⟨z229_⟩, ⟨z230_⟩, ⟨z0_⟩⟩
 case round =>
  clear H'
  obtain ⟨x5_1, x21_1, rfl, HA, HK1, HO_5, HO_19, HB⟩ := hrel
  have hl19_1 := (Kd.R_reads' HO_19.out).1
  rw [hl19_1] at HO_19
  (try simp only [hl19_1])
  cases gk with
  | zero => exact absurd HA.out (by simp [impl_mirrored.l0])
  | succ k1 =>
   have H := HA.out
   clear HA
   simp only [impl_mirrored.l0] at H
   by_cases c14 : x21_1 < (t588.length : Int)
   ·rw [if_pos c14] at H
    have c14b0 := decide_eq_true c14
    clear c14
    obtain ⟨c15b0, H⟩ := ifd_ H
    obtain ⟨c16b0, H⟩ := ifd_ H
    obtain ⟨t593, A17, H⟩ := bnd_ H
    obtain ⟨c18, H⟩ := ifs_ H
    have LMc18 := Aside0.mk c18
    clear c18
    (generalize hy_ : ((x5_1 ++ t593) : List (S61)) = y596 at H; have Ny596 := Aside0.mk hy_.symm; clear hy_)
    have H' := Aside0.mk H
    clear H
    have p592 : 0 ≤ (x21_1 : Int) := odt_
    have q592 : x21_1 < (t591.length : Int) := odt_
    obtain ⟨ad592, e592, hx592_0⟩ := Kd.at_int (Kd.R_reads' HO_19.out).2.2 x21_1 p592 q592
    cases e592
    replace p592 := eq_true p592
    replace q592 := eq_true q592
    go_wp2_with (first | ((with_reducible refine gate_callee (f := 58) rfl ?_); refine goesL_ (some 28) rfl rfl Try.func58 (by kernel_rfl) rfl #[.slice (some ad584) l0.length c0, .int .i64 (rd t591 x21_1)] rfl z1_ ?_; (with_reducible refine (ih k1 z143_ _ _ l0 (rd t591 x21_1) t593 _ ?side1 ?side2 A17.out).mono ?_); (case side1 => exact z7_); (case side2 => exact HC0.out); rintro e w19 ⟨v594, rfl, ho0, hb⟩; refine ⟨_, rfl, ?_⟩; replace HO_19 := Aside0.mk (Kd.R_below z231_ hb); have HO595 := Aside0.mk (Kd.R_lower (Kd.R_new' ho0 (Kd.R_lt z8_)) (below_size z0_)); replace HO_5 := Aside0.mk (Kd.R_elder' z8_ (Kd.R_base ho0) hb); replace HB := Aside0.mk (below_step z0_ hb); (try clear hb ho0); obtain ⟨Ao21, co21, eo21⟩ := Kd.R_slice HO595.out; subst eo21) | ((with_reducible refine gate_builtin (b := .append) (xs := #[.tmp 25, .tmp 28]) rfl ?_); at_builtin; refine Kd.R_append_rows k61 (w0 := w) w.heap.size rfl (.tmp 25) (.tmp 28) 25 61 (.agg #[(.int .i64 0), (.int .i64 0)]) 16 rfl Try.underlying25 info61 rfl (by decide) (by omega) u5 x5_1 t593 _ _ _ (fun k_ => some k_ ≠ (.slice Ao21 t593.length co21 : Value).ownBlock) (fun _ => False) rfl rfl ?aO ?aR (fun _ _ h => h) (fun _ h => h.elim) ?aF ?aB ?aS ?aL ?_; (case aR => repeat (exact (Kd.R_reads' HO595.out).2.2)); (case aB => exact z84_); (case aF => exact (fun k_ hk => Kd.fresh' (Kd.R_lt z232_) k_ hk)); (case aO => exact (by exact Kd.R_mono HO_5.out (fun _ hk => hk.2))); (case aS => exact z78_); (case aL => have := LMc18.out; omega); intro v597 w20 ho hb hg hat; rw [← Ny596.out] at ho; replace HO_19 := Aside0.mk (Kd.R_over' z231_ (Kd.R_typed z8_) (by decide) hg); replace HO595 := Aside0.mk (Kd.R_after (ok := (fun _ => True)) z232_ hg hat); replace HB := Aside0.mk (hb); have HO598 := Aside0.mk (ho); clear HO_5; clear ho hb hg hat))
    (try simp only [← hl19_1])
    go_roundg k1
    case measure => have := HK1.out; omega
    case rel => exact ⟨(y596), (wrap64 (x21_1 + 1)), z10_, H', ⟨z143_⟩, ⟨by exact Kd.R_mono HO598.out (fun _ hk => trivial)⟩, ⟨by (try simp only [hl19_1]); exact HO_19.out⟩, ⟨z0_⟩⟩
   ·rw [if_neg c14] at H
    have c14b0 := decide_eq_false c14
    (try rw [hl19_1] at c14b0)
    clear c14
    obtain rfl := Option.some.inj H
    go_wp2
    go_ret
    exact ⟨_, z6_, z8_, z0_⟩

/-! ### impl_Mirror: function 32 -/
def impl_Mirror.f (k : Nat) (l0 : List (S61)) : Option ((List (S61))) := (impl_TreeOk.f k l0).bind fun t599 => (if t599 = true then ((impl_mirrored.f k l0 0).bind fun t600 => (some t600)) else (some (([] : List (S61)))))
set_option maxHeartbeats 8000000 in
set_option maxRecDepth 100000 in
theorem impl_Mirror.calls (k : Nat) (A0 : Option Addr) (c0 : Nat) (l0 : List (S61)) (r : List (S61)) (w : World) (hr0 : Kd.C k61 w A0 l0.length l0) (hc0 : l0.length ≤ c0) (h : impl_Mirror.f k l0 = some r) :
  Calls Try.prog 32 #[.slice A0 l0.length c0] w fun e w' => ∃ v0_ : Value, e = .returned (v0_) ∧ Kd.R k61 61 w' w.heap.size (fun _ => True) v0_ r ∧ Below w.heap.size w w' := by
 have HR0 := Aside0.mk hr0
 have HC0 := Aside0.mk hc0
 clear hr0 hc0
 have HB := Aside0.mk (Below.refl w.heap.size w)
 have H : ((impl_TreeOk.f k l0).bind fun t599 => (if t599 = true then ((impl_mirrored.f k l0 0).bind fun t600 => (some t600)) else (some (([] : List (S61)))))) = some r := h
 clear h
 obtain ⟨t599, A2, H⟩ := bnd_ H
 by_cases c3 : t599 = true
 ·subst c3
  replace H := ift_ H
  obtain ⟨t600, A4, H⟩ := bnd_ H
  obtain rfl := Option.some.inj H
  go_enter Try.func32, Try.ntmps32
  go_wp2_with (first | ((with_reducible refine gate_callee (f := 57) rfl ?_); refine goesL_ (some 4) rfl rfl Try.func57 (by kernel_rfl) rfl #[.slice A0 l0.length c0] rfl z1_ ?_; (with_reducible refine (impl_TreeOk.calls k _ _ l0 true _ ?side1 ?side2 A2.out).mono ?_); (case side1 => exact z22_); (case side2 => exact HC0.out); rintro e w5 ⟨rfl, hb⟩; refine ⟨_, rfl, ?_⟩; replace HB := Aside0.mk (below_step z0_ hb); (try clear hb)) | ((with_reducible refine gate_callee (f := 58) rfl ?_); refine goesL_ (some 8) rfl rfl Try.func58 (by kernel_rfl) rfl #[.slice A0 l0.length c0, .int .i64 0] rfl z1_ ?_; (with_reducible refine (impl_mirrored.calls k _ _ l0 0 t600 _ ?side1 ?side2 A4.out).mono ?_); (case side1 => exact z7_); (case side2 => exact HC0.out); rintro e w6 ⟨v601, rfl, ho0, hb⟩; refine ⟨_, rfl, ?_⟩; have HO602 := Aside0.mk (Kd.R_lower ho0 (below_size z0_)); replace HB := Aside0.mk (below_step z0_ hb); (try clear hb ho0)))
  go_ret
  exact ⟨_, z6_, by exact HO602.out, z0_⟩
 ·replace c3 := Bool.eq_false_iff.mpr c3
  subst c3
  replace H := iff_ H
  (generalize hy_ : ((([] : List (S61))) : List (S61)) = y603 at H; have Ny603 := Aside0.mk hy_.symm; clear hy_)
  obtain rfl := Option.some.inj H
  go_enter Try.func32, Try.ntmps32
  go_wp2_with (first | ((with_reducible refine gate_callee (f := 57) rfl ?_); refine goesL_ (some 4) rfl rfl Try.func57 (by kernel_rfl) rfl #[.slice A0 l0.length c0] rfl z1_ ?_; (with_reducible refine (impl_TreeOk.calls k _ _ l0 false _ ?side1 ?side2 A2.out).mono ?_); (case side1 => exact z22_); (case side2 => exact HC0.out); rintro e w7 ⟨rfl, hb⟩; refine ⟨_, rfl, ?_⟩; replace HB := Aside0.mk (below_step z0_ hb); (try clear hb)) | ((with_reducible refine gate_dst (N := 6) rfl ?_); refine Kd.R_lit k61 _ 61 ?hg (N := 6) ?hd (xs := ([] : List (S61))) (inner := []) (ok := fun _ => True) (okp := fun _ => True) ?hr ?hp (fun _ hk => hk) trivial (Below.refl _ _) (Nat.le_refl _) (by simp) ?_; (case hd => rfl); (case hg => rfl); (case hr => exact z19_); (case hp => exact z212_); intro v604 w8 ho9 hb hg_ hnew_; clear hg_ hnew_; (rw [← Ny603.out] at ho9); have HO605 := Aside0.mk (Kd.R_lower ho9 (below_size z0_)); replace HB := Aside0.mk (below_step z0_ hb); clear hb ho9))
  go_ret
  exact ⟨_, z6_, by exact HO605.out, z0_⟩

end Go.Proofs.Ytbmkobanpakohaa.PFnMirrored
