/- Laid by a program of this session out of the kit's print for the law FnExactMedian: what it says of the machine is proved here, function by function; each contract under the conditions that it names. -/
import Derived.Test.YtbmkobanpakohaaMFnExactMedianx0
import Derived.Test.YtbmkobanpakohaaMFnExactMedianx4
import Derived.Test.YtbmkobanpakohaaMFnExactMedianx5
namespace Go.Proofs.Ytbmkobanpakohaa.PFnExactMedian
open Go.RowKit Go.Proofs.YtbmkobanpakohaaW.PrintWords Go.Proofs.YtbmkobanpakohaaW.PrintLast Go.Proofs.YtbmkobanpakohaaW.PrintMore
attribute [local go_sem] max2_int min2_int max_two min_two max_three min_three max_four min_four   -- for this text's walks alone
set_option linter.unusedVariables false
set_option linter.unusedSimpArgs false

/-! ### spec_KidsOf: function 101 -/
mutual
def spec_KidsOf.l0 : Nat → List (S61) → Int → List Int → Int → Option (List Int)
 | 0, _, _, _, _ => none
 | k + 1, x0, x1, x5, x6 => (spec_l3At.f k x0 x1).bind fun t185 => (if t185 = true then ((spec_EndOf.f k x0 x1).bind fun t186 => (spec_KidsOf.j1 k x0 x1 x5 x6 (decide (x6 < t186)))) else (spec_KidsOf.j1 k x0 x1 x5 x6 false))
def spec_KidsOf.j1 : Nat → List (S61) → Int → List Int → Int → Bool → Option (List Int)
 | 0, _, _, _, _, _ => none
 | k + 1, x0, x1, x5, x6, x19 => if x19 = true then (if 0 ≤ x6 then (if x6 < (x0.length : Int) then (if 0 ≤ x1 then (if x1 < (x0.length : Int) then (if ((rd_T61 x0 x6).f1) = (wrap64 (((rd_T61 x0 x1).f1) + 1)) then (if x5.length < 17592186044416 then (spec_KidsOf.l0 k x0 x1 (x5 ++ [x6]) (wrap64 (x6 + 1))) else (none)) else (spec_KidsOf.l0 k x0 x1 x5 (wrap64 (x6 + 1)))) else (none)) else (none)) else (none)) else (none)) else (some x5)
end
def spec_KidsOf.f (k : Nat) (l0 : List (S61)) (a1 : Int) : Option (List Int) := spec_KidsOf.l0 k l0 a1 (([] : List Int)) (wrap64 (a1 + 1))
set_option maxHeartbeats 8000000 in
set_option maxRecDepth 100000 in
theorem spec_KidsOf.calls (k : Nat) (A0 : Option Addr) (c0 : Nat) (l0 : List (S61)) (a1 : Int) (r : List Int) (w : World) (hr0 : Kd.C k61 w A0 l0.length l0) (hc0 : l0.length ≤ c0) (h : spec_KidsOf.f k l0 a1 = some r) :
  Calls Try.prog 101 #[.slice A0 l0.length c0, .int .i64 a1] w fun e w' => ∃ v0_ : Value, e = .returned (v0_) ∧ Kd.R (Kd.int .i64) 3 w' w.heap.size (fun _ => True) v0_ r ∧ Below w.heap.size w w' := by
 have HR0 := Aside0.mk hr0
 have HC0 := Aside0.mk hc0
 clear hr0 hc0
 have HB := Aside0.mk (Below.refl w.heap.size w)
 have H : (spec_KidsOf.l0 k l0 a1 (([] : List Int)) (wrap64 (a1 + 1))) = some r := h
 clear h
 first | ((with_reducible have hz_ := gy_ H); obtain ⟨y182, Ny182, H⟩ := hz_) | (generalize hy_ : ((([] : List Int)) : List Int) = y182 at H; have Ny182 := Aside0.mk hy_.symm; clear hy_)
 have H' := Aside0.mk H
 clear H
 go_enter Try.func101, Try.ntmps101
 go_wp2_with (first | ((with_reducible refine gate_dst (N := 7) rfl ?_); refine Kd.R_lit (Kd.int .i64) _ 3 ?hg (N := 7) ?hd (xs := ([] : List Int)) (inner := []) (ok := fun _ => True) (okp := fun _ => True) ?hr ?hp (fun _ hk => hk) trivial (Below.refl _ _) (Nat.le_refl _) (by simp) ?_; (case hd => rfl); (case hg => rfl); (case hr => exact z9_); (case hp => exact z199_); intro v183 w3 ho4 hb hg_ hnew_; clear hg_ hnew_; (first | rw [← Ny182.out] at ho4 | (simp only [Int.reduceToNat] at ho4; rw [← Ny182.out] at ho4)); have HO184 := Aside0.mk (Kd.R_lower ho4 (below_size z0_)); replace HB := Aside0.mk (below_step z0_ hb); clear hb ho4))
 repeat (go_quiet (first | ((with_reducible refine gate_dst (N := 7) rfl ?_); refine Kd.R_lit (Kd.int .i64) _ 3 ?hg (N := 7) ?hd (xs := ([] : List Int)) (inner := []) (ok := fun _ => True) (okp := fun _ => True) ?hr ?hp (fun _ hk => hk) trivial (Below.refl _ _) (Nat.le_refl _) (by simp) ?_; (case hd => rfl); (case hg => rfl); (case hr => exact z9_); (case hp => exact z199_); intro v183 w3 ho4 hb hg_ hnew_; clear hg_ hnew_; (first | rw [← Ny182.out] at ho4 | (simp only [Int.reduceToNat] at ho4; rw [← Ny182.out] at ho4)); have HO184 := Aside0.mk (Kd.R_lower ho4 (below_size z0_)); replace HB := Aside0.mk (below_step z0_ hb); clear hb ho4)); try go_wp2_with (first | ((with_reducible refine gate_dst (N := 7) rfl ?_); refine Kd.R_lit (Kd.int .i64) _ 3 ?hg (N := 7) ?hd (xs := ([] : List Int)) (inner := []) (ok := fun _ => True) (okp := fun _ => True) ?hr ?hp (fun _ hk => hk) trivial (Below.refl _ _) (Nat.le_refl _) (by simp) ?_; (case hd => rfl); (case hg => rfl); (case hr => exact z9_); (case hp => exact z199_); intro v183 w3 ho4 hb hg_ hnew_; clear hg_ hnew_; (first | rw [← Ny182.out] at ho4 | (simp only [Int.reduceToNat] at ho4; rw [← Ny182.out] at ho4)); have HO184 := Aside0.mk (Kd.R_lower ho4 (below_size z0_)); replace HB := Aside0.mk (below_step z0_ hb); clear hb ho4)))
 go_loopg [5, 6] k (fun kq v5 v6 w' => ∃ (x5_1 : List Int) (x6_1 : Int), v6 = .int .i64 x6_1 ∧ Aside0 (spec_KidsOf.l0 kq l0 a1 x5_1 x6_1 = some r) ∧ Aside0 (kq ≤ k) ∧ Aside0 (Kd.R (Kd.int .i64) 3 w' w.heap.size (fun _ => True) v5 x5_1) ∧ Aside0 (Below w.heap.size w w'))
 case atStart => exact ⟨(y182), (wrap64 (a1 + 1)), z4_, H', ⟨Nat.le_refl _⟩, ⟨by (with_reducible repeat (first | apply Kd.R_alloc | apply Kd.R_drewN | apply Kd.R_drew)); exact HO184.out⟩, ⟨z0_⟩⟩
 case round =>
  clear H'
  obtain ⟨x5_1, x6_1, rfl, HA, HK1, HO_5, HB⟩ := hrel
  cases gk with
  | zero => exact absurd HA.out (by simp [spec_KidsOf.l0])
  | succ k1 =>
   have H := HA.out
   clear HA
   simp only [spec_KidsOf.l0] at H
   have HC5 := Aside0.mk H
   clear H
   go_upto_region 3 with (fail)
   repeat (go_quiet (fail); go_upto_region 3 with (fail))
   go_cut [19] (fun v19 wc => ∃ (kq : Nat) (x19_4 : Bool), v19 = .bool x19_4 ∧ Aside0 (spec_KidsOf.j1 kq l0 a1 x5_1 x6_1 x19_4 = some r) ∧ Aside0 (kq ≤ k1) ∧ Aside0 (Kd.R (Kd.int .i64) 3 wc w.heap.size (fun _ => True) u5 x5_1) ∧ Aside0 (Below w.heap.size w wc))
   case first =>
    have H := HC5.out
    clear HC5
    obtain ⟨t185, A6, H⟩ := bnd_ H
    by_cases c7 : t185 = true
    ·subst c7
     replace H := ift_ H
     obtain ⟨t186, A8, H⟩ := bnd_ H
     have H' := Aside0.mk H
     clear H
     go_wp2_with (first | (go_at_call 78; (with_reducible refine (spec_l3At.calls k1 _ _ l0 a1 true _ ?side1 ?side2 A6.out).mono ?_); (case side1 => exact z3_); (case side2 => exact HC0.out); rintro e w9 ⟨rfl, hb⟩; replace HO_5 := Aside0.mk (Kd.R_below z21_ hb); replace HB := Aside0.mk (below_step z0_ hb); (try clear hb)) | (go_at_call 60; (with_reducible refine (spec_EndOf.calls k1 _ _ l0 a1 t186 _ ?side1 ?side2 A8.out).mono ?_); (case side1 => exact z3_); (case side2 => exact HC0.out); rintro e w10 ⟨rfl, hb⟩; replace HO_5 := Aside0.mk (Kd.R_below z21_ hb); replace HB := Aside0.mk (below_step z0_ hb); (try clear hb)))
     repeat (go_quiet (first | (go_at_call 78; (with_reducible refine (spec_l3At.calls k1 _ _ l0 a1 true _ ?side1 ?side2 A6.out).mono ?_); (case side1 => exact z3_); (case side2 => exact HC0.out); rintro e w9 ⟨rfl, hb⟩; replace HO_5 := Aside0.mk (Kd.R_below z21_ hb); replace HB := Aside0.mk (below_step z0_ hb); (try clear hb)) | (go_at_call 60; (with_reducible refine (spec_EndOf.calls k1 _ _ l0 a1 t186 _ ?side1 ?side2 A8.out).mono ?_); (case side1 => exact z3_); (case side2 => exact HC0.out); rintro e w10 ⟨rfl, hb⟩; replace HO_5 := Aside0.mk (Kd.R_below z21_ hb); replace HB := Aside0.mk (below_step z0_ hb); (try clear hb))); try go_wp2_with (first | (go_at_call 78; (with_reducible refine (spec_l3At.calls k1 _ _ l0 a1 true _ ?side1 ?side2 A6.out).mono ?_); (case side1 => exact z3_); (case side2 => exact HC0.out); rintro e w9 ⟨rfl, hb⟩; replace HO_5 := Aside0.mk (Kd.R_below z21_ hb); replace HB := Aside0.mk (below_step z0_ hb); (try clear hb)) | (go_at_call 60; (with_reducible refine (spec_EndOf.calls k1 _ _ l0 a1 t186 _ ?side1 ?side2 A8.out).mono ?_); (case side1 => exact z3_); (case side2 => exact HC0.out); rintro e w10 ⟨rfl, hb⟩; replace HO_5 := Aside0.mk (Kd.R_below z21_ hb); replace HB := Aside0.mk (below_step z0_ hb); (try clear hb))))
     go_meet
     case rel => exact ⟨_, (decide (x6_1 < t186)), z4_, H', ⟨by have := HK1.out; first | omega | exact Nat.le_refl _⟩, ⟨z21_⟩, ⟨z0_⟩⟩
    ·replace c7 := Bool.eq_false_iff.mpr c7
     subst c7
     replace H := iff_ H
     have H' := Aside0.mk H
     clear H
     go_wp2_with (first | (go_at_call 78; (with_reducible refine (spec_l3At.calls k1 _ _ l0 a1 false _ ?side1 ?side2 A6.out).mono ?_); (case side1 => exact z3_); (case side2 => exact HC0.out); rintro e w11 ⟨rfl, hb⟩; replace HO_5 := Aside0.mk (Kd.R_below z21_ hb); replace HB := Aside0.mk (below_step z0_ hb); (try clear hb)))
     repeat (go_quiet (first | (go_at_call 78; (with_reducible refine (spec_l3At.calls k1 _ _ l0 a1 false _ ?side1 ?side2 A6.out).mono ?_); (case side1 => exact z3_); (case side2 => exact HC0.out); rintro e w11 ⟨rfl, hb⟩; replace HO_5 := Aside0.mk (Kd.R_below z21_ hb); replace HB := Aside0.mk (below_step z0_ hb); (try clear hb))); try go_wp2_with (first | (go_at_call 78; (with_reducible refine (spec_l3At.calls k1 _ _ l0 a1 false _ ?side1 ?side2 A6.out).mono ?_); (case side1 => exact z3_); (case side2 => exact HC0.out); rintro e w11 ⟨rfl, hb⟩; replace HO_5 := Aside0.mk (Kd.R_below z21_ hb); replace HB := Aside0.mk (below_step z0_ hb); (try clear hb))))
     go_meet
     case rel => exact ⟨_, (false), z4_, H', ⟨by have := HK1.out; first | omega | exact Nat.le_refl _⟩, ⟨z21_⟩, ⟨z0_⟩⟩
   case rest =>
    clear HC5
    obtain ⟨kq, x19_4, rfl, HA, HJ4, HO_5, HB⟩ := hcut
    cases kq with
    | zero => exact absurd HA.out (by simp [spec_KidsOf.j1])
    | succ kj4 =>
     have H := HA.out
     clear HA
     simp only [spec_KidsOf.j1] at H
     by_cases c12 : x19_4 = true
     ·subst c12
      replace H := ift_ H
      obtain ⟨c13b0, H⟩ := ifd_ H
      obtain ⟨c14b0, H⟩ := ifd_ H
      obtain ⟨c15b0, H⟩ := ifd_ H
      obtain ⟨c16b0, H⟩ := ifd_ H
      by_cases c17 : ((rd_T61 l0 x6_1).f1) = (wrap64 (((rd_T61 l0 a1).f1) + 1))
      ·rw [if_pos c17] at H
       have c17b0 : (((rd_T61 l0 x6_1).f1) == (wrap64 (((rd_T61 l0 a1).f1) + 1))) = true := beq_iff_eq.mpr c17
       have c17b1 : (((rd_T61 l0 x6_1).f1) != (wrap64 (((rd_T61 l0 a1).f1) + 1))) = false := bne_eq_false_iff_eq.mpr c17
       clear c17
       obtain ⟨c18, H⟩ := ifs_ H
       have LMc18 := Aside0.mk c18
       clear c18
       first | ((with_reducible have hz_ := gy_ H); obtain ⟨y189, Ny189, H⟩ := hz_) | (generalize hy_ : ((x5_1 ++ [x6_1]) : List Int) = y189 at H; have Ny189 := Aside0.mk hy_.symm; clear hy_)
       have H' := Aside0.mk H
       clear H
       obtain ⟨p187, q187, ad187, e187, hx187_0, hx187_1⟩ := atb61_ HR0 HB x6_1
       cases e187
       obtain ⟨p188, q188, ad188, e188, hx188_0, hx188_1⟩ := atb61_ HR0 HB a1
       obtain rfl : ad187 = ad188 := (by injection e188)
       go_wp2_with (first | ((with_reducible refine gate_builtin (b := .append) (xs := #[.tmp 34, .tmp 36]) rfl ?_); at_builtin; refine Kd.R_append (Kd.int .i64) (w0 := w) w.heap.size rfl (.tmp 34) (.tmp 36) 30 3 (.int .i64 0) 8 rfl Try.underlying30 info3 rfl (by decide) (by omega) u5 x5_1 x6_1 [.int .i64 x6_1] (fun _ => True) (fun _ => False) rfl rfl ?aP (fun _ hk => hk.elim) ?aF ?aO ?aB ?aS ?aL ?_; (case aP => exact rfl); (case aB => exact z35_); (case aF => exact (fun _ _ => trivial)); (case aO => exact z127_); (case aS => exact z32_); (case aL => have := LMc18.out; omega); intro v190 w19 ho hb hg hat; rw [← Ny189.out] at ho; replace HB := Aside0.mk (hb); have HO191 := Aside0.mk (ho); clear HO_5; clear ho hb hg hat))
       repeat (go_quiet (first | ((with_reducible refine gate_builtin (b := .append) (xs := #[.tmp 34, .tmp 36]) rfl ?_); at_builtin; refine Kd.R_append (Kd.int .i64) (w0 := w) w.heap.size rfl (.tmp 34) (.tmp 36) 30 3 (.int .i64 0) 8 rfl Try.underlying30 info3 rfl (by decide) (by omega) u5 x5_1 x6_1 [.int .i64 x6_1] (fun _ => True) (fun _ => False) rfl rfl ?aP (fun _ hk => hk.elim) ?aF ?aO ?aB ?aS ?aL ?_; (case aP => exact rfl); (case aB => exact z35_); (case aF => exact (fun _ _ => trivial)); (case aO => exact z127_); (case aS => exact z32_); (case aL => have := LMc18.out; omega); intro v190 w19 ho hb hg hat; rw [← Ny189.out] at ho; replace HB := Aside0.mk (hb); have HO191 := Aside0.mk (ho); clear HO_5; clear ho hb hg hat)); try go_wp2_with (first | ((with_reducible refine gate_builtin (b := .append) (xs := #[.tmp 34, .tmp 36]) rfl ?_); at_builtin; refine Kd.R_append (Kd.int .i64) (w0 := w) w.heap.size rfl (.tmp 34) (.tmp 36) 30 3 (.int .i64 0) 8 rfl Try.underlying30 info3 rfl (by decide) (by omega) u5 x5_1 x6_1 [.int .i64 x6_1] (fun _ => True) (fun _ => False) rfl rfl ?aP (fun _ hk => hk.elim) ?aF ?aO ?aB ?aS ?aL ?_; (case aP => exact rfl); (case aB => exact z35_); (case aF => exact (fun _ _ => trivial)); (case aO => exact z127_); (case aS => exact z32_); (case aL => have := LMc18.out; omega); intro v190 w19 ho hb hg hat; rw [← Ny189.out] at ho; replace HB := Aside0.mk (hb); have HO191 := Aside0.mk (ho); clear HO_5; clear ho hb hg hat)))
       go_roundg kj4
       case measure => have := HK1.out; have := HJ4.out; omega
       case rel => exact ⟨(y189), (wrap64 (x6_1 + 1)), z4_, H', ⟨by have := HK1.out; have := HJ4.out; omega⟩, ⟨by (with_reducible repeat (first | apply Kd.R_alloc | apply Kd.R_drewN | apply Kd.R_drew)); exact HO191.out⟩, ⟨z0_⟩⟩
      ·rw [if_neg c17] at H
       have c17b0 : (((rd_T61 l0 x6_1).f1) == (wrap64 (((rd_T61 l0 a1).f1) + 1))) = false := beq_eq_false_iff_ne.mpr c17
       have c17b1 : (((rd_T61 l0 x6_1).f1) != (wrap64 (((rd_T61 l0 a1).f1) + 1))) = true := bne_iff_ne.mpr c17
       have H' := Aside0.mk H
       clear H
       obtain ⟨p187, q187, ad187, e187, hx187_0, hx187_1⟩ := atb61_ HR0 HB x6_1
       cases e187
       obtain ⟨p188, q188, ad188, e188, hx188_0, hx188_1⟩ := atb61_ HR0 HB a1
       obtain rfl : ad187 = ad188 := (by injection e188)
       go_wp2
       repeat (go_quiet (fail); try go_wp2)
       go_roundg kj4
       case measure => have := HK1.out; have := HJ4.out; omega
       case rel => exact ⟨(x5_1), (wrap64 (x6_1 + 1)), z4_, H', ⟨by have := HK1.out; have := HJ4.out; omega⟩, ⟨z21_⟩, ⟨z0_⟩⟩
     ·replace c12 := Bool.eq_false_iff.mpr c12
      subst c12
      replace H := iff_ H
      obtain rfl := Option.some.inj H
      go_wp2
      repeat (go_quiet (fail); try go_wp2)
      go_ret
      exact ⟨_, z5_, z21_, z0_⟩

/-! ### spec_l6Post: function 97 -/
mutual
def spec_l6Post.l0 : Nat → List (S61) → Int → List Int → List Int → Int → Option (List Int)
 | 0, _, _, _, _, _ => none
 | k + 1, x0, x1, x5, x6, x7 => if x7 < (x6.length : Int) then (if 0 ≤ x7 then ((spec_l6Post.f k x0 (rd x6 x7)).bind fun t199 => (if x5.length + t199.length < 17592186044416 then (spec_l6Post.l0 k x0 x1 (x5 ++ t199) x6 (wrap64 (x7 + 1))) else (none))) else (none)) else (if x5.length < 17592186044416 then (some (x5 ++ [x1])) else (none))
def spec_l6Post.f : Nat → List (S61) → Int → Option (List Int)
 | 0, _, _ => none
 | k + 1, l0, a1 => (spec_KidsOf.f k l0 a1).bind fun t195 => (spec_l6Post.l0 k l0 a1 (([] : List Int)) t195 0)
end
set_option maxHeartbeats 8000000 in
set_option maxRecDepth 100000 in
theorem spec_l6Post.calls (k : Nat) : ∀ (A0 : Option Addr) (c0 : Nat) (l0 : List (S61)) (a1 : Int) (r : List Int) (w : World) (hr0 : Kd.C k61 w A0 l0.length l0) (hc0 : l0.length ≤ c0) (h : spec_l6Post.f k l0 a1 = some r),
  Calls Try.prog 97 #[.slice A0 l0.length c0, .int .i64 a1] w fun e w' => ∃ v0_ : Value, e = .returned (v0_) ∧ Kd.R (Kd.int .i64) 3 w' w.heap.size (fun _ => True) v0_ r ∧ Below w.heap.size w w' := by
 induction k using Nat.strongRecOn with
 | _ k ih =>
 intro A0 c0 l0 a1 r w hr0 hc0 h
 cases k with
 | zero => exact absurd h (by simp [spec_l6Post.f])
 | succ k =>
 simp only [spec_l6Post.f] at h
 have HR0 := Aside0.mk hr0
 have HC0 := Aside0.mk hc0
 clear hr0 hc0
 have HB := Aside0.mk (Below.refl w.heap.size w)
 have H : ((spec_KidsOf.f k l0 a1).bind fun t195 => (spec_l6Post.l0 k l0 a1 (([] : List Int)) t195 0)) = some r := h
 clear h
 first | ((with_reducible have hz_ := gy_ H); obtain ⟨y192, Ny192, H⟩ := hz_) | (generalize hy_ : ((([] : List Int)) : List Int) = y192 at H; have Ny192 := Aside0.mk hy_.symm; clear hy_)
 obtain ⟨t195, A3, H⟩ := bnd_ H
 have H' := Aside0.mk H
 clear H
 go_enter Try.func97, Try.ntmps97
 go_wp2_with (first | ((with_reducible refine gate_dst (N := 8) rfl ?_); refine Kd.R_lit (Kd.int .i64) _ 3 ?hg (N := 8) ?hd (xs := ([] : List Int)) (inner := []) (ok := fun _ => True) (okp := fun _ => True) ?hr ?hp (fun _ hk => hk) trivial (Below.refl _ _) (Nat.le_refl _) (by simp) ?_; (case hd => rfl); (case hg => rfl); (case hr => exact z9_); (case hp => exact z199_); intro v193 w4 ho5 hb hg_ hnew_; clear hg_ hnew_; (first | rw [← Ny192.out] at ho5 | (simp only [Int.reduceToNat] at ho5; rw [← Ny192.out] at ho5)); have HO194 := Aside0.mk (Kd.R_lower ho5 (below_size z0_)); replace HB := Aside0.mk (below_step z0_ hb); clear hb ho5) | ((with_reducible refine gate_callee (f := 101) rfl ?_); refine goesL_ (some 11) rfl rfl Try.func101 (by kernel_rfl) rfl #[.slice A0 l0.length c0, .int .i64 a1] rfl z1_ ?_; (with_reducible refine (spec_KidsOf.calls k _ _ l0 a1 t195 _ ?side1 ?side2 A3.out).mono ?_); (case side1 => exact z3_); (case side2 => exact HC0.out); rintro e w6 ⟨v196, rfl, ho0, hb⟩; refine ⟨_, rfl, ?_⟩; have HO197 := Aside0.mk (Kd.R_lower (Kd.R_new' ho0 (Kd.R_lt z219_)) (below_size z0_)); replace HO194 := Aside0.mk (Kd.R_elder' z219_ (Kd.R_base ho0) hb); replace HB := Aside0.mk (below_step z0_ hb); (try clear hb ho0)))
 go_loopg [5, 7] k (fun kq v5 v7 w' => ∃ (x5_1 : List Int) (x7_1 : Int), v7 = .int .i64 x7_1 ∧ Aside0 (spec_l6Post.l0 kq l0 a1 x5_1 t195 x7_1 = some r) ∧ Aside0 (kq ≤ k) ∧ Aside0 (Kd.R (Kd.int .i64) 3 w' w.heap.size (fun k_ => some k_ ≠ (v196 : Value).ownBlock) v5 x5_1) ∧ Aside0 (Kd.R (Kd.int .i64) 3 w' w.heap.size (fun k_ => some k_ ≠ (v5 : Value).ownBlock) v196 t195) ∧ Aside0 (Below w.heap.size w w'))
 case atStart => exact ⟨(y192), (0), z4_, H', ⟨Nat.le_refl _⟩, ⟨by (with_reducible repeat (first | apply Kd.R_alloc | apply Kd.R_drewN | apply Kd.R_drew)); exact Kd.R_mono HO194.out (fun _ hk => hk.2)⟩, ⟨by (with_reducible repeat (first | apply Kd.R_alloc | apply Kd.R_drewN | apply Kd.R_drew)); exact Kd.R_mono HO197.out (fun _ hk => hk.2)⟩, ⟨z0_⟩⟩
 case round =>
  clear H'
  obtain ⟨x5_1, x7_1, rfl, HA, HK1, HO_5, HO_6, HB⟩ := hrel
  cases gk with
  | zero => exact absurd HA.out (by simp [spec_l6Post.l0])
  | succ k1 =>
   have H := HA.out
   clear HA
   simp only [spec_l6Post.l0] at H
   by_cases c7 : x7_1 < (t195.length : Int)
   ·rw [if_pos c7] at H
    have c7b0 := decide_eq_true c7
    clear c7
    obtain ⟨c8b0, H⟩ := ifd_ H
    obtain ⟨t199, A9, H⟩ := bnd_ H
    obtain ⟨c10, H⟩ := ifs_ H
    have LMc10 := Aside0.mk c10
    clear c10
    first | ((with_reducible have hz_ := gy_ H); obtain ⟨y202, Ny202, H⟩ := hz_) | (generalize hy_ : ((x5_1 ++ t199) : List Int) = y202 at H; have Ny202 := Aside0.mk hy_.symm; clear hy_)
    have H' := Aside0.mk H
    clear H
    obtain ⟨Ao11, co11, eo11⟩ := Kd.R_slice HO_6.out
    subst eo11
    have p198 : 0 ≤ (x7_1 : Int) := odt_
    have q198 : x7_1 < (t195.length : Int) := odt_
    obtain ⟨ad198, e198, hx198_0⟩ := Kd.at_int (Kd.R_reads' HO_6.out).2.2 x7_1 p198 q198
    cases e198
    replace p198 := eq_true p198
    replace q198 := eq_true q198
    go_wp2_with (first | ((with_reducible refine gate_callee (f := 97) rfl ?_); refine goesL_ (some 24) rfl rfl Try.func97 (by kernel_rfl) rfl #[.slice A0 l0.length c0, .int .i64 (rd t195 x7_1)] rfl z1_ ?_; (with_reducible refine (ih k1 z155_ _ _ l0 (rd t195 x7_1) t199 _ ?side1 ?side2 A9.out).mono ?_); (case side1 => exact z3_); (case side2 => exact HC0.out); rintro e w12 ⟨v200, rfl, ho0, hb⟩; refine ⟨_, rfl, ?_⟩; have HO201 := Aside0.mk (Kd.R_lower (Kd.R_new' (Kd.R_new' ho0 (Kd.R_lt z21_)) (Kd.R_lt z169_)) (below_size z0_)); replace HO_5 := Aside0.mk (Kd.R_elder' z21_ (Kd.R_base ho0) hb); replace HO_6 := Aside0.mk (Kd.R_elder' z169_ (Kd.R_base ho0) hb); replace HB := Aside0.mk (below_step z0_ hb); (try clear hb ho0); obtain ⟨Ao14, co14, eo14⟩ := Kd.R_slice HO201.out; subst eo14) | ((with_reducible refine gate_builtin (b := .append) (xs := #[.tmp 18, .tmp 24]) rfl ?_); at_builtin; refine Kd.R_append_rows (Kd.int .i64) (w0 := w) w.heap.size rfl (.tmp 18) (.tmp 24) 30 3 (.int .i64 0) 8 rfl Try.underlying30 info3 rfl (by decide) (by omega) u5 x5_1 t199 _ _ _ (fun k_ => some k_ ≠ (.slice (some ad198) t195.length co11 : Value).ownBlock ∧ some k_ ≠ (.slice Ao14 t199.length co14 : Value).ownBlock) (fun _ => False) rfl rfl ?aO ?aR (fun _ _ h => h) (fun _ h => h.elim) ?aF ?aB ?aS ?aL ?_; (case aR => repeat (first | exact (Kd.R_reads' HO201.out).2.2 | (with_reducible refine Kd.C_alloc ?_ _) | (with_reducible refine Kd.C_drewN ?_ _) | (with_reducible refine Kd.C_drew ?_))); (case aB => exact z35_); (case aF => exact (fun k_ hk => ⟨Kd.fresh' (Kd.R_lt z169_) k_ hk, Kd.fresh' (Kd.R_lt (by (with_reducible repeat (first | apply Kd.R_alloc | apply Kd.R_drewN | apply Kd.R_drew)); exact HO201.out)) k_ hk⟩)); (case aO => exact z127_); (case aS => exact z32_); (case aL => have := LMc10.out; omega); intro v203 w13 ho hb hg hat; rw [← Ny202.out] at ho; replace HO_6 := Aside0.mk (Kd.R_after (ok := (fun k_ => some k_ ≠ (.slice Ao14 t199.length co14 : Value).ownBlock)) (by (with_reducible repeat (first | apply Kd.R_alloc | apply Kd.R_drewN | apply Kd.R_drew)); exact Kd.R_mono HO_6.out (fun _ hk => ⟨hk.2, hk.1⟩)) hg hat); replace HO201 := Aside0.mk (Kd.R_after (ok := (fun k_ => some k_ ≠ (.slice (some ad198) t195.length co11 : Value).ownBlock)) (by (with_reducible repeat (first | apply Kd.R_alloc | apply Kd.R_drewN | apply Kd.R_drew)); exact Kd.R_mono HO201.out (fun _ hk => ⟨hk.2, hk.1.2⟩)) hg hat); replace HB := Aside0.mk (hb); have HO204 := Aside0.mk (ho); clear HO_5; clear ho hb hg hat))
    go_roundg k1
    case measure => have := HK1.out; omega
    case rel => exact ⟨(y202), (wrap64 (x7_1 + 1)), z4_, H', ⟨z155_⟩, ⟨by (with_reducible repeat (first | apply Kd.R_alloc | apply Kd.R_drewN | apply Kd.R_drew)); exact Kd.R_mono HO204.out (fun _ hk => hk.1)⟩, ⟨by (with_reducible repeat (first | apply Kd.R_alloc | apply Kd.R_drewN | apply Kd.R_drew)); exact Kd.R_mono HO_6.out (fun _ hk => hk.2)⟩, ⟨z0_⟩⟩
   ·rw [if_neg c7] at H
    have c7b0 := decide_eq_false c7
    clear c7
    obtain ⟨c15, H⟩ := ifs_ H
    have LMc15 := Aside0.mk c15
    clear c15
    first | ((with_reducible have hz_ := gy_ H); obtain ⟨y205, Ny205, H⟩ := hz_) | (generalize hy_ : ((x5_1 ++ [a1]) : List Int) = y205 at H; have Ny205 := Aside0.mk hy_.symm; clear hy_)
    obtain rfl := Option.some.inj H
    obtain ⟨Ao16, co16, eo16⟩ := Kd.R_slice HO_6.out
    subst eo16
    go_wp2_with (first | ((with_reducible refine gate_builtin (b := .append) (xs := #[.tmp 26, .tmp 28]) rfl ?_); at_builtin; refine Kd.R_append (Kd.int .i64) (w0 := w) w.heap.size rfl (.tmp 26) (.tmp 28) 30 3 (.int .i64 0) 8 rfl Try.underlying30 info3 rfl (by decide) (by omega) u5 x5_1 a1 [.int .i64 a1] (fun k_ => some k_ ≠ (.slice Ao16 t195.length co16 : Value).ownBlock) (fun _ => False) rfl rfl ?aP (fun _ hk => hk.elim) ?aF ?aO ?aB ?aS ?aL ?_; (case aP => exact rfl); (case aB => exact z35_); (case aF => exact (fun k_ hk => Kd.fresh' (Kd.R_lt z169_) k_ hk)); (case aO => exact z127_); (case aS => exact z32_); (case aL => have := LMc15.out; omega); intro v206 w17 ho hb hg hat; rw [← Ny205.out] at ho; replace HO_6 := Aside0.mk (Kd.R_after (ok := (fun _ => True)) (by (with_reducible repeat (first | apply Kd.R_alloc | apply Kd.R_drewN | apply Kd.R_drew)); exact Kd.R_mono HO_6.out (fun _ hk => ⟨trivial, hk⟩)) hg hat); replace HB := Aside0.mk (hb); have HO207 := Aside0.mk (ho); clear HO_5; clear ho hb hg hat))
    go_ret
    exact ⟨_, z5_, by (with_reducible repeat (first | apply Kd.R_alloc | apply Kd.R_drewN | apply Kd.R_drew)); exact Kd.R_mono HO207.out (fun _ hk => trivial), z0_⟩

/-! ### spec_PostOrder: function 90 -/
def spec_PostOrder.f (k : Nat) (l0 : List (S61)) : Option (List Int) := (spec_TreeOk.f k l0).bind fun t208 => (if t208 = true then ((spec_l6Post.f k l0 0).bind fun t209 => (some t209)) else (some (([] : List Int))))
set_option maxHeartbeats 8000000 in
set_option maxRecDepth 100000 in
theorem spec_PostOrder.calls (k : Nat) (A0 : Option Addr) (c0 : Nat) (l0 : List (S61)) (r : List Int) (w : World) (hr0 : Kd.C k61 w A0 l0.length l0) (hc0 : l0.length ≤ c0) (h : spec_PostOrder.f k l0 = some r) :
  Calls Try.prog 90 #[.slice A0 l0.length c0] w fun e w' => ∃ v0_ : Value, e = .returned (v0_) ∧ Kd.R (Kd.int .i64) 3 w' w.heap.size (fun _ => True) v0_ r ∧ Below w.heap.size w w' := by
 have HR0 := Aside0.mk hr0
 have HC0 := Aside0.mk hc0
 clear hr0 hc0
 have HB := Aside0.mk (Below.refl w.heap.size w)
 have H : ((spec_TreeOk.f k l0).bind fun t208 => (if t208 = true then ((spec_l6Post.f k l0 0).bind fun t209 => (some t209)) else (some (([] : List Int))))) = some r := h
 clear h
 obtain ⟨t208, A2, H⟩ := bnd_ H
 by_cases c3 : t208 = true
 ·subst c3
  replace H := ift_ H
  obtain ⟨t209, A4, H⟩ := bnd_ H
  obtain rfl := Option.some.inj H
  go_enter Try.func90, Try.ntmps90
  go_wp2_with (first | ((with_reducible refine gate_callee (f := 28) rfl ?_); refine goesL_ (some 4) rfl rfl Try.func28 (by kernel_rfl) rfl #[.slice A0 l0.length c0] rfl z1_ ?_; (with_reducible refine (spec_TreeOk.calls k _ _ l0 true _ ?side1 ?side2 A2.out).mono ?_); (case side1 => exact z30_); (case side2 => exact HC0.out); rintro e w5 ⟨rfl, hb⟩; refine ⟨_, rfl, ?_⟩; replace HB := Aside0.mk (below_step z0_ hb); (try clear hb)) | ((with_reducible refine gate_callee (f := 97) rfl ?_); refine goesL_ (some 8) rfl rfl Try.func97 (by kernel_rfl) rfl #[.slice A0 l0.length c0, .int .i64 0] rfl z1_ ?_; (with_reducible refine (spec_l6Post.calls k _ _ l0 0 t209 _ ?side1 ?side2 A4.out).mono ?_); (case side1 => exact z3_); (case side2 => exact HC0.out); rintro e w6 ⟨v210, rfl, ho0, hb⟩; refine ⟨_, rfl, ?_⟩; have HO211 := Aside0.mk (Kd.R_lower ho0 (below_size z0_)); replace HB := Aside0.mk (below_step z0_ hb); (try clear hb ho0)))
  go_ret
  exact ⟨_, z5_, by (with_reducible repeat (first | apply Kd.R_alloc | apply Kd.R_drewN | apply Kd.R_drew)); exact HO211.out, z0_⟩
 ·replace c3 := Bool.eq_false_iff.mpr c3
  subst c3
  replace H := iff_ H
  first | ((with_reducible have hz_ := gy_ H); obtain ⟨y212, Ny212, H⟩ := hz_) | (generalize hy_ : ((([] : List Int)) : List Int) = y212 at H; have Ny212 := Aside0.mk hy_.symm; clear hy_)
  obtain rfl := Option.some.inj H
  go_enter Try.func90, Try.ntmps90
  go_wp2_with (first | ((with_reducible refine gate_callee (f := 28) rfl ?_); refine goesL_ (some 4) rfl rfl Try.func28 (by kernel_rfl) rfl #[.slice A0 l0.length c0] rfl z1_ ?_; (with_reducible refine (spec_TreeOk.calls k _ _ l0 false _ ?side1 ?side2 A2.out).mono ?_); (case side1 => exact z30_); (case side2 => exact HC0.out); rintro e w7 ⟨rfl, hb⟩; refine ⟨_, rfl, ?_⟩; replace HB := Aside0.mk (below_step z0_ hb); (try clear hb)) | ((with_reducible refine gate_dst (N := 6) rfl ?_); refine Kd.R_lit (Kd.int .i64) _ 3 ?hg (N := 6) ?hd (xs := ([] : List Int)) (inner := []) (ok := fun _ => True) (okp := fun _ => True) ?hr ?hp (fun _ hk => hk) trivial (Below.refl _ _) (Nat.le_refl _) (by simp) ?_; (case hd => rfl); (case hg => rfl); (case hr => exact z9_); (case hp => exact z199_); intro v213 w8 ho9 hb hg_ hnew_; clear hg_ hnew_; (first | rw [← Ny212.out] at ho9 | (simp only [Int.reduceToNat] at ho9; rw [← Ny212.out] at ho9)); have HO214 := Aside0.mk (Kd.R_lower ho9 (below_size z0_)); replace HB := Aside0.mk (below_step z0_ hb); clear hb ho9))
  go_ret
  exact ⟨_, z5_, by (with_reducible repeat (first | apply Kd.R_alloc | apply Kd.R_drewN | apply Kd.R_drew)); exact HO214.out, z0_⟩

/-! ### spec_l8Labels: function 80 -/
def spec_l8Labels.l0 : Nat → List (S61) → List Int → List Int → Int → Option (List Int)
 | 0, _, _, _, _ => none
 | k + 1, x0, x3, x4, x5 => if x5 < (x4.length : Int) then (if 0 ≤ x5 then (if 0 ≤ (rd x4 x5) then (if (rd x4 x5) < (x0.length : Int) then (if x3.length < 17592186044416 then (spec_l8Labels.l0 k x0 (x3 ++ [(rd_T61 x0 (rd x4 x5)).f0]) x4 (wrap64 (x5 + 1))) else (none)) else (none)) else (none)) else (none)) else (some x3)
def spec_l8Labels.f (k : Nat) (l0 : List (S61)) : Option (List Int) := (spec_PostOrder.f k l0).bind fun t218 => (spec_l8Labels.l0 k l0 (([] : List Int)) t218 0)
set_option maxHeartbeats 8000000 in
set_option maxRecDepth 100000 in
theorem spec_l8Labels.calls (k : Nat) (A0 : Option Addr) (c0 : Nat) (l0 : List (S61)) (r : List Int) (w : World) (hr0 : Kd.C k61 w A0 l0.length l0) (hc0 : l0.length ≤ c0) (h : spec_l8Labels.f k l0 = some r) :
  Calls Try.prog 80 #[.slice A0 l0.length c0] w fun e w' => ∃ v0_ : Value, e = .returned (v0_) ∧ Kd.R (Kd.int .i64) 3 w' w.heap.size (fun _ => True) v0_ r ∧ Below w.heap.size w w' := by
 have HR0 := Aside0.mk hr0
 have HC0 := Aside0.mk hc0
 clear hr0 hc0
 have HB := Aside0.mk (Below.refl w.heap.size w)
 have H : ((spec_PostOrder.f k l0).bind fun t218 => (spec_l8Labels.l0 k l0 (([] : List Int)) t218 0)) = some r := h
 clear h
 first | ((with_reducible have hz_ := gy_ H); obtain ⟨y215, Ny215, H⟩ := hz_) | (generalize hy_ : ((([] : List Int)) : List Int) = y215 at H; have Ny215 := Aside0.mk hy_.symm; clear hy_)
 obtain ⟨t218, A2, H⟩ := bnd_ H
 have H' := Aside0.mk H
 clear H
 go_enter Try.func80, Try.ntmps80
 go_wp2_with (first | ((with_reducible refine gate_dst (N := 6) rfl ?_); refine Kd.R_lit (Kd.int .i64) _ 3 ?hg (N := 6) ?hd (xs := ([] : List Int)) (inner := []) (ok := fun _ => True) (okp := fun _ => True) ?hr ?hp (fun _ hk => hk) trivial (Below.refl _ _) (Nat.le_refl _) (by simp) ?_; (case hd => rfl); (case hg => rfl); (case hr => exact z9_); (case hp => exact z199_); intro v216 w3 ho4 hb hg_ hnew_; clear hg_ hnew_; (first | rw [← Ny215.out] at ho4 | (simp only [Int.reduceToNat] at ho4; rw [← Ny215.out] at ho4)); have HO217 := Aside0.mk (Kd.R_lower ho4 (below_size z0_)); replace HB := Aside0.mk (below_step z0_ hb); clear hb ho4) | ((with_reducible refine gate_callee (f := 90) rfl ?_); refine goesL_ (some 8) rfl rfl Try.func90 (by kernel_rfl) rfl #[.slice A0 l0.length c0] rfl z1_ ?_; (with_reducible refine (spec_PostOrder.calls k _ _ l0 t218 _ ?side1 ?side2 A2.out).mono ?_); (case side1 => exact z3_); (case side2 => exact HC0.out); rintro e w5 ⟨v219, rfl, ho0, hb⟩; refine ⟨_, rfl, ?_⟩; have HO220 := Aside0.mk (Kd.R_lower (Kd.R_new' ho0 (Kd.R_lt z220_)) (below_size z0_)); replace HO217 := Aside0.mk (Kd.R_elder' z220_ (Kd.R_base ho0) hb); replace HB := Aside0.mk (below_step z0_ hb); (try clear hb ho0)))
 go_loopg [3, 5] k (fun kq v3 v5 w' => ∃ (x3_1 : List Int) (x5_1 : Int), v5 = .int .i64 x5_1 ∧ Aside0 (spec_l8Labels.l0 kq l0 x3_1 t218 x5_1 = some r) ∧ Aside0 (kq ≤ k) ∧ Aside0 (Kd.R (Kd.int .i64) 3 w' w.heap.size (fun k_ => some k_ ≠ (v219 : Value).ownBlock) v3 x3_1) ∧ Aside0 (Kd.R (Kd.int .i64) 3 w' w.heap.size (fun k_ => some k_ ≠ (v3 : Value).ownBlock) v219 t218) ∧ Aside0 (Below w.heap.size w w'))
 case atStart => exact ⟨(y215), (0), z4_, H', ⟨Nat.le_refl _⟩, ⟨by (with_reducible repeat (first | apply Kd.R_alloc | apply Kd.R_drewN | apply Kd.R_drew)); exact Kd.R_mono HO217.out (fun _ hk => hk.2)⟩, ⟨by (with_reducible repeat (first | apply Kd.R_alloc | apply Kd.R_drewN | apply Kd.R_drew)); exact Kd.R_mono HO220.out (fun _ hk => hk.2)⟩, ⟨z0_⟩⟩
 case round =>
  clear H'
  obtain ⟨x3_1, x5_1, rfl, HA, HK1, HO_3, HO_4, HB⟩ := hrel
  cases gk with
  | zero => exact absurd HA.out (by simp [spec_l8Labels.l0])
  | succ k1 =>
   have H := HA.out
   clear HA
   simp only [spec_l8Labels.l0] at H
   by_cases c6 : x5_1 < (t218.length : Int)
   ·rw [if_pos c6] at H
    have c6b0 := decide_eq_true c6
    clear c6
    obtain ⟨c7b0, H⟩ := ifd_ H
    obtain ⟨c8b0, H⟩ := ifd_ H
    obtain ⟨c9b0, H⟩ := ifd_ H
    obtain ⟨c10, H⟩ := ifs_ H
    have LMc10 := Aside0.mk c10
    clear c10
    first | ((with_reducible have hz_ := gy_ H); obtain ⟨y223, Ny223, H⟩ := hz_) | (generalize hy_ : ((x3_1 ++ [(rd_T61 l0 (rd t218 x5_1)).f0]) : List Int) = y223 at H; have Ny223 := Aside0.mk hy_.symm; clear hy_)
    have H' := Aside0.mk H
    clear H
    obtain ⟨Ao11, co11, eo11⟩ := Kd.R_slice HO_4.out
    subst eo11
    have p221 : 0 ≤ (x5_1 : Int) := odt_
    have q221 : x5_1 < (t218.length : Int) := odt_
    obtain ⟨ad221, e221, hx221_0⟩ := Kd.at_int (Kd.R_reads' HO_4.out).2.2 x5_1 p221 q221
    cases e221
    replace p221 := eq_true p221
    replace q221 := eq_true q221
    obtain ⟨p222, q222, ad222, e222, hx222_0, hx222_1⟩ := atb61_ HR0 HB (rd t218 x5_1)
    cases e222
    go_wp2_with (first | ((with_reducible refine gate_builtin (b := .append) (xs := #[.tmp 15, .tmp 24]) rfl ?_); at_builtin; refine Kd.R_append (Kd.int .i64) (w0 := w) w.heap.size rfl (.tmp 15) (.tmp 24) 30 3 (.int .i64 0) 8 rfl Try.underlying30 info3 rfl (by decide) (by omega) u3 x3_1 ((rd_T61 l0 (rd t218 x5_1)).f0) [.int .i64 ((rd_T61 l0 (rd t218 x5_1)).f0)] (fun k_ => some k_ ≠ (.slice (some ad221) t218.length co11 : Value).ownBlock) (fun _ => False) rfl rfl ?aP (fun _ hk => hk.elim) ?aF ?aO ?aB ?aS ?aL ?_; (case aP => exact rfl); (case aB => exact z35_); (case aF => exact z118_); (case aO => exact z83_); (case aS => exact z32_); (case aL => have := LMc10.out; omega); intro v224 w12 ho hb hg hat; rw [← Ny223.out] at ho; replace HO_4 := Aside0.mk (Kd.R_after (ok := (fun _ => True)) z129_ hg hat); replace HB := Aside0.mk (hb); have HO225 := Aside0.mk (ho); clear HO_3; clear ho hb hg hat))
    go_roundg k1
    case measure => have := HK1.out; omega
    case rel => exact ⟨(y223), (wrap64 (x5_1 + 1)), z4_, H', ⟨z155_⟩, ⟨by (with_reducible repeat (first | apply Kd.R_alloc | apply Kd.R_drewN | apply Kd.R_drew)); exact HO225.out⟩, ⟨z215_⟩, ⟨z0_⟩⟩
   ·rw [if_neg c6] at H
    have c6b0 := decide_eq_false c6
    clear c6
    obtain rfl := Option.some.inj H
    obtain ⟨Ao13, co13, eo13⟩ := Kd.R_slice HO_4.out
    subst eo13
    go_wp2
    go_ret
    exact ⟨_, z5_, z132_, z0_⟩

/-! ### spec_RankOf: function 91 -/
def spec_RankOf.l0 : Nat → List Int → List Int → Int → Option (List Int)
 | 0, _, _, _ => none
 | k + 1, x3, x4, x5 => if x5 < (x3.length : Int) then (if 0 ≤ x5 then (if 0 ≤ (rd x3 x5) then (if (rd x3 x5) < (x4.length : Int) then (spec_RankOf.l0 k x3 (x4.set ((rd x3 x5) : Int).toNat x5) (wrap64 (x5 + 1))) else (none)) else (none)) else (none)) else (some x4)
def spec_RankOf.f (k : Nat) (l0 : List (S61)) : Option (List Int) := (spec_PostOrder.f k l0).bind fun t226 => (if 0 ≤ (t226.length : Int) then (if ((t226.length : Int) : Int).toNat ≤ 35184372088832 then (spec_RankOf.l0 k t226 (List.replicate ((t226.length : Int) : Int).toNat 0) 0) else (none)) else (none))
set_option maxHeartbeats 8000000 in
set_option maxRecDepth 100000 in
theorem spec_RankOf.calls (k : Nat) (A0 : Option Addr) (c0 : Nat) (l0 : List (S61)) (r : List Int) (w : World) (hr0 : Kd.C k61 w A0 l0.length l0) (hc0 : l0.length ≤ c0) (h : spec_RankOf.f k l0 = some r) :
  Calls Try.prog 91 #[.slice A0 l0.length c0] w fun e w' => ∃ v0_ : Value, e = .returned (v0_) ∧ Kd.R (Kd.int .i64) 3 w' w.heap.size (fun _ => True) v0_ r ∧ Below w.heap.size w w' := by
 have HR0 := Aside0.mk hr0
 have HC0 := Aside0.mk hc0
 clear hr0 hc0
 have HB := Aside0.mk (Below.refl w.heap.size w)
 have H : ((spec_PostOrder.f k l0).bind fun t226 => (if 0 ≤ (t226.length : Int) then (if ((t226.length : Int) : Int).toNat ≤ 35184372088832 then (spec_RankOf.l0 k t226 (List.replicate ((t226.length : Int) : Int).toNat 0) 0) else (none)) else (none))) = some r := h
 clear h
 obtain ⟨t226, A2, H⟩ := bnd_ H
 obtain ⟨c3b0, c3b1, H⟩ := ife_ H
 obtain ⟨c4b0, c4b1, H⟩ := ife_ H
 first | ((with_reducible have hz_ := gy_ H); obtain ⟨y229, Ny229, H⟩ := hz_) | (generalize hy_ : ((List.replicate ((t226.length : Int) : Int).toNat 0) : List Int) = y229 at H; have Ny229 := Aside0.mk hy_.symm; clear hy_)
 have H' := Aside0.mk H
 clear H
 go_enter Try.func91, Try.ntmps91
 go_wp2_with (first | ((with_reducible refine gate_callee (f := 90) rfl ?_); refine goesL_ (some 7) rfl rfl Try.func90 (by kernel_rfl) rfl #[.slice A0 l0.length c0] rfl z1_ ?_; (with_reducible refine (spec_PostOrder.calls k _ _ l0 t226 _ ?side1 ?side2 A2.out).mono ?_); (case side1 => exact z30_); (case side2 => exact HC0.out); rintro e w5 ⟨v227, rfl, ho0, hb⟩; refine ⟨_, rfl, ?_⟩; have HO228 := Aside0.mk (Kd.R_lower ho0 (below_size z0_)); replace HB := Aside0.mk (below_step z0_ hb); (try clear hb ho0); obtain ⟨Ao6, co6, eo6⟩ := Kd.R_slice HO228.out; subst eo6) | ((with_reducible refine gate_dst (N := 10) rfl ?_); refine Kd.R_make (Kd.int .i64) _ 3 rfl (N := 10) rfl 30 _ _ rfl (t226.length : Int) rfl rfl Try.underlying30 (.int .i64 0) 8 info3 rfl (by decide) (by omega) 0 (ok := fun _ => True) (okp := fun _ => True) rfl (fun _ hk => hk) trivial (odt_) (Nat.le_trans (Nat.mul_le_mul_right _ (odt_ : (t226.length : Int).toNat ≤ 35184372088832)) (by omega)) (Below.refl _ _) (Nat.le_refl _) ?_; intro v230 w7 ho8 hb hg_ hnew_; clear hg_ hnew_; (first | rw [← Ny229.out] at ho8 | (simp only [Int.reduceToNat] at ho8; rw [← Ny229.out] at ho8)); have HO231 := Aside0.mk (Kd.R_lower (Kd.R_new' ho8 (Kd.R_lt z221_)) (below_size z0_)); replace HO228 := Aside0.mk (Kd.R_elder' z221_ (Kd.R_base ho8) hb); replace HB := Aside0.mk (below_step z0_ hb); clear hb ho8))
 go_loopg [5] k (fun kq v5 w' => ∃ (x4_1 : List Int) (x5_1 : Int), v5 = .int .i64 x5_1 ∧ Aside0 (spec_RankOf.l0 kq t226 x4_1 x5_1 = some r) ∧ Aside0 (kq ≤ k) ∧ Aside0 (Kd.R (Kd.int .i64) 3 w' w.heap.size (fun k_ => some k_ ≠ (v230 : Value).ownBlock) (.slice Ao6 t226.length co6) t226) ∧ Aside0 (Kd.R (Kd.int .i64) 3 w' w.heap.size (fun k_ => some k_ ≠ ((.slice Ao6 t226.length co6) : Value).ownBlock) v230 x4_1) ∧ Aside0 (Below w.heap.size w w'))
 case atStart => exact ⟨(y229), (0), z4_, H', ⟨Nat.le_refl _⟩, ⟨by (with_reducible repeat (first | apply Kd.R_alloc | apply Kd.R_drewN | apply Kd.R_drew)); exact Kd.R_mono HO228.out (fun _ hk => hk.2)⟩, ⟨by (with_reducible repeat (first | apply Kd.R_alloc | apply Kd.R_drewN | apply Kd.R_drew)); exact Kd.R_mono HO231.out (fun _ hk => hk.2)⟩, ⟨z0_⟩⟩
 case round =>
  clear H'
  obtain ⟨x4_1, x5_1, rfl, HA, HK1, HO_3, HO_4, HB⟩ := hrel
  cases gk with
  | zero => exact absurd HA.out (by simp [spec_RankOf.l0])
  | succ k1 =>
   have H := HA.out
   clear HA
   simp only [spec_RankOf.l0] at H
   by_cases c9 : x5_1 < (t226.length : Int)
   ·rw [if_pos c9] at H
    have c9b0 := decide_eq_true c9
    clear c9
    obtain ⟨c10b0, H⟩ := ifd_ H
    obtain ⟨c11b0, H⟩ := ifd_ H
    obtain ⟨c12b0, H⟩ := ifd_ H
    first | ((with_reducible have hz_ := gy_ H); obtain ⟨y233, Ny233, H⟩ := hz_) | (generalize hy_ : ((x4_1.set ((rd t226 x5_1) : Int).toNat x5_1) : List Int) = y233 at H; have Ny233 := Aside0.mk hy_.symm; clear hy_)
    have H' := Aside0.mk H
    clear H
    have p232 : 0 ≤ (x5_1 : Int) := odt_
    have q232 : x5_1 < (t226.length : Int) := odt_
    obtain ⟨ad232, e232, hx232_0⟩ := Kd.at_int (Kd.R_reads' HO_3.out).2.2 x5_1 p232 q232
    cases e232
    replace p232 := eq_true p232
    replace q232 := eq_true q232
    have p13 : 0 ≤ ((rd t226 x5_1) : Int) := odt_
    have q13 : ((rd t226 x5_1) : Int) < ((x4_1.length : Int) : Int) := odt_
    obtain ⟨go13, co13, eo13, gb13, gl13, cl13, HG13⟩ := Kd.R_form HO_4.out (by omega)
    (first | cases eo13 | (injection eo13 with ea_ en_ ec_; (first | subst ea_ | (injection ea_ with ea_; subst ea_)); subst ec_; clear en_))
    have GB13 := Aside0.mk gb13
    have GG13 := Aside0.mk HG13
    clear gb13 gl13 HG13
    obtain ⟨hx13_0, hf13_0⟩ := Kd.R_celln 0 HO_4.out ((rd t226 x5_1) : Int) p13 q13
    replace p13 := eq_true p13
    replace q13 := eq_true q13
    have HP14 := Kd.R_putg HO_4.out ((rd t226 x5_1) : Int) x5_1
    go_wp2_with (first | ((with_reducible refine gate_store (t := 3) (p := 23) rfl ?_); refine store_event (t := 3) (p := 23) (v := ?vo_w15) (w1 := (wr.setCell ⟨go13, ((rd t226 x5_1) : Int).toNat, none⟩ (.int .i64 x5_1))) ?hg ?ho ?hn ?hr ?_; (case ho => rfl); (case hg => rfl); (case hn => rfl); (case hr => exact z9_); intro w15 hw; have hg : wr.grownBy w15 (some go13) := (by rw [hw]; exact HP14.2); have hp_ : Kd.R (Kd.int .i64) 3 w15 w.heap.size (fun k_ => some k_ ≠ (.slice (some ad232) t226.length co6 : Value).ownBlock) (.slice (some ⟨go13, 0, none⟩) x4_1.length co13) y233 := (by rw [hw, Ny233.out]; exact HP14.1); clear HP14; replace HO_3 := Aside0.mk (Kd.R_after (v := (.slice (some ⟨go13, 0, none⟩) x4_1.length co13)) (v1 := (.slice (some ⟨go13, 0, none⟩) x4_1.length co13)) (ok := (fun _ => True)) (by (with_reducible repeat (first | apply Kd.R_alloc | apply Kd.R_drewN | apply Kd.R_drew)); exact Kd.R_mono HO_3.out (fun _ hk => ⟨trivial, hk⟩)) hg (.inl rfl)); replace HO_4 := Aside0.mk (hp_); replace HB := Aside0.mk ((by rw [hw]; exact below_set (HB.out) GB13.out : Below w.heap.size w w15)); clear hg hw hp_))
    go_roundg k1
    case measure => have := HK1.out; omega
    case rel => exact ⟨(y233), (wrap64 (x5_1 + 1)), z4_, H', ⟨z155_⟩, ⟨by (with_reducible repeat (first | apply Kd.R_alloc | apply Kd.R_drewN | apply Kd.R_drew)); exact Kd.R_mono HO_3.out (fun _ hk => hk.2)⟩, ⟨z36_⟩, ⟨z0_⟩⟩
   ·rw [if_neg c9] at H
    have c9b0 := decide_eq_false c9
    clear c9
    obtain rfl := Option.some.inj H
    go_wp2
    go_ret
    exact ⟨_, z5_, z214_, z0_⟩

end Go.Proofs.Ytbmkobanpakohaa.PFnExactMedian
