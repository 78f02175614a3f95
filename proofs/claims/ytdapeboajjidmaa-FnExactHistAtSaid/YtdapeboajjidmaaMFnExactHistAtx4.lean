/- Laid by a program of this session out of the kit's print for the law FnExactHistAt: what it says of the machine is proved here, function by function; each contract under the conditions that it names. -/
import Derived.Test.YtdapeboajjidmaaMFnExactHistAtx0
import Derived.Test.YtdapeboajjidmaaMFnExactHistAtx2
import Derived.Test.YtdapeboajjidmaaMFnExactHistAtx3
namespace Go.Proofs.Ytdapeboajjidmaa.PFnExactHistAt
open Go.RowKit Go.Proofs.YtdapeboajjidmaaW.PrintWords Go.Proofs.YtdapeboajjidmaaW.PrintLast Go.Proofs.YtdapeboajjidmaaW.PrintMore
attribute [local go_sem] max2_int min2_int max_two min_two max_three min_three max_four min_four   -- for this text's walks alone
set_option linter.unusedVariables false
set_option linter.unusedSimpArgs false

/-! ### spec_l3Copy: function 45 -/
def spec_l3Copy.f (l0 : List (S80)) : Option ((List (S80))) := (some (([] : List (S80)) : List (S80))).bind fun y126 => (if y126.length + l0.length < 8796093022208 then (some (y126 ++ l0)) else (none))
set_option maxHeartbeats 8000000 in
set_option maxRecDepth 100000 in
theorem spec_l3Copy.calls (A0 : Option Addr) (c0 : Nat) (l0 : List (S80)) (r : List (S80)) (w : World) (hr0 : Kd.C k80 w A0 l0.length l0) (hc0 : l0.length ≤ c0) (h : spec_l3Copy.f l0 = some r) :
  Calls Try.prog 45 #[.slice A0 l0.length c0] w fun e w' => ∃ v0_ : Value, e = .returned (v0_) ∧ Kd.R k80 80 w' w.heap.size (fun _ => True) v0_ r ∧ Below w.heap.size w w' := by
 have HR0 := Aside0.mk hr0
 have HC0 := Aside0.mk hc0
 clear hr0 hc0
 have HB := Aside0.mk (Below.refl w.heap.size w)
 have H : ((some (([] : List (S80)) : List (S80))).bind fun y126 => (if y126.length + l0.length < 8796093022208 then (some (y126 ++ l0)) else (none))) = some r := h
 clear h
 first | ((with_reducible have hz_ := gy_ H); obtain ⟨y126, Ny126, H⟩ := hz_) | (generalize hy_ : ((([] : List (S80))) : List (S80)) = y126 at H; have Ny126 := Aside0.mk hy_.symm; clear hy_)
 obtain ⟨c2, H⟩ := ifs_ H
 have LMc2 := Aside0.mk c2
 clear c2
 first | ((with_reducible have hz_ := gy_ H); obtain ⟨y129, Ny129, H⟩ := hz_) | (generalize hy_ : ((y126 ++ l0) : List (S80)) = y129 at H; have Ny129 := Aside0.mk hy_.symm; clear hy_)
 obtain rfl := Option.some.inj H
 go_enter Try.func45, Try.ntmps45
 go_wp2_with (first | ((with_reducible refine gate_dst (N := 3) rfl ?_); refine Kd.R_lit k80 _ 80 ?hg (N := 3) ?hd (xs := ([] : List (S80))) (inner := []) (ok := fun _ => True) (okp := fun _ => True) ?hr ?hp (fun _ hk => hk) trivial (Below.refl _ _) (Nat.le_refl _) (by simp) ?_; (case hd => rfl); (case hg => rfl); (case hr => exact z9_); (case hp => exact z108_); intro v127 w3 ho4 hb hg_ hnew_; clear hg_ hnew_; (first | rw [← Ny126.out] at ho4 | (simp only [Int.reduceToNat] at ho4; rw [← Ny126.out] at ho4)); have HO128 := Aside0.mk (Kd.R_lower ho4 (below_size z0_)); replace HB := Aside0.mk (below_step z0_ hb); clear hb ho4) | ((with_reducible refine gate_builtin (b := .append) (xs := #[.tmp 3, .tmp 4]) rfl ?_); at_builtin; refine Kd.R_append_rows k80 (w0 := w) w.heap.size rfl (.tmp 3) (.tmp 4) 29 80 (.agg #[(.int .i64 0), (.int .i64 0)]) 16 rfl Try.underlying29 info80 rfl (by decide) (by omega) v127 y126 l0 _ _ _ (fun _ => True) (fun _ => False) rfl rfl ?aO ?aR (fun _ _ h => h) (fun _ h => h.elim) ?aF ?aB ?aS ?aL ?_; (case aR => exact z2_); (case aB => exact z35_); (case aF => exact z110_); (case aO => exact (by (with_reducible repeat (first | apply Kd.R_alloc | apply Kd.R_drewN | apply Kd.R_drew)); exact HO128.out)); (case aS => exact z42_); (case aL => have := LMc2.out; omega); intro v130 w5 ho hb hg hat; rw [← Ny129.out] at ho; replace HB := Aside0.mk (hb); have HO131 := Aside0.mk (ho); clear HO128; clear ho hb hg hat))
 go_ret
 exact ⟨_, z3_, by (with_reducible repeat (first | apply Kd.R_alloc | apply Kd.R_drewN | apply Kd.R_drew)); exact HO131.out, z0_⟩

/-! ### spec_l3At: function 124 -/
def spec_l3At.f (k : Nat) (l0 : List (S80)) (a1 : Int) : Option (Bool) := (spec_TreeOk.f k l0).bind fun t132 => (if t132 = true then ((spec_l1In.f a1 0 (wrap64 ((l0.length : Int) - 1))).bind fun t133 => (some t133)) else (some false))
set_option maxHeartbeats 8000000 in
set_option maxRecDepth 100000 in
theorem spec_l3At.calls (k : Nat) (A0 : Option Addr) (c0 : Nat) (l0 : List (S80)) (a1 : Int) (r : Bool) (w : World) (hr0 : Kd.C k80 w A0 l0.length l0) (hc0 : l0.length ≤ c0) (h : spec_l3At.f k l0 a1 = some r) :
  Calls Try.prog 124 #[.slice A0 l0.length c0, .int .i64 a1] w fun e w' => e = .returned (.bool r) ∧ Below w.heap.size w w' := by
 have HR0 := Aside0.mk hr0
 have HC0 := Aside0.mk hc0
 clear hr0 hc0
 have HB := Aside0.mk (Below.refl w.heap.size w)
 have H : ((spec_TreeOk.f k l0).bind fun t132 => (if t132 = true then ((spec_l1In.f a1 0 (wrap64 ((l0.length : Int) - 1))).bind fun t133 => (some t133)) else (some false))) = some r := h
 clear h
 obtain ⟨t132, A3, H⟩ := bnd_ H
 by_cases c4 : t132 = true
 ·subst c4
  replace H := ift_ H
  obtain ⟨t133, A5, H⟩ := bnd_ H
  obtain rfl := Option.some.inj H
  go_enter Try.func124, Try.ntmps124
  go_wp2_with (first | ((with_reducible refine gate_callee (f := 38) rfl ?_); refine goesL_ (some 6) rfl rfl Try.func38 (by kernel_rfl) rfl #[.slice A0 l0.length c0] rfl z1_ ?_; (with_reducible refine (spec_TreeOk.calls k _ _ l0 true _ ?side1 ?side2 A3.out).mono ?_); (case side1 => exact z19_); (case side2 => exact HC0.out); rintro e w6 ⟨rfl, hb⟩; refine ⟨_, rfl, ?_⟩; replace HB := Aside0.mk (below_step z0_ hb); (try clear hb)) | (go_at_call 60; (with_reducible refine (spec_l1In.calls a1 0 (wrap64 ((l0.length : Int) - 1)) t133 _ A5.out).mono ?_); rintro e w' ⟨rfl, ⟨nd, rfl⟩⟩))
  go_ret
  exact ⟨z3_, z0_⟩
 ·replace c4 := Bool.eq_false_iff.mpr c4
  subst c4
  replace H := iff_ H
  obtain rfl := Option.some.inj H
  go_enter Try.func124, Try.ntmps124
  go_wp2_with (first | ((with_reducible refine gate_callee (f := 38) rfl ?_); refine goesL_ (some 6) rfl rfl Try.func38 (by kernel_rfl) rfl #[.slice A0 l0.length c0] rfl z1_ ?_; (with_reducible refine (spec_TreeOk.calls k _ _ l0 false _ ?side1 ?side2 A3.out).mono ?_); (case side1 => exact z19_); (case side2 => exact HC0.out); rintro e w7 ⟨rfl, hb⟩; refine ⟨_, rfl, ?_⟩; replace HB := Aside0.mk (below_step z0_ hb); (try clear hb)))
  go_ret
  exact ⟨z3_, z0_⟩

/-! ### spec_EndOf: function 91 -/
def spec_EndOf.l0 : Nat → List (S80) → Int → Int → Option (Int)
 | 0, _, _, _ => none
 | k + 1, x0, x1, x5 => if x5 < (x0.length : Int) then (if 0 ≤ x5 then (if 0 ≤ x1 then (if x1 < (x0.length : Int) then (if ((rd_T80 x0 x5).f1) > ((rd_T80 x0 x1).f1) then (spec_EndOf.l0 k x0 x1 (wrap64 (x5 + 1))) else (some x5)) else (none)) else (none)) else (none)) else (some x5)
def spec_EndOf.f (k : Nat) (l0 : List (S80)) (a1 : Int) : Option (Int) := (spec_l3At.f k l0 a1).bind fun t134 => (if t134 = true then (spec_EndOf.l0 k l0 a1 (wrap64 (a1 + 1))) else (some (-1)))
set_option maxHeartbeats 8000000 in
set_option maxRecDepth 100000 in
theorem spec_EndOf.calls (k : Nat) (A0 : Option Addr) (c0 : Nat) (l0 : List (S80)) (a1 : Int) (r : Int) (w : World) (hr0 : Kd.C k80 w A0 l0.length l0) (hc0 : l0.length ≤ c0) (h : spec_EndOf.f k l0 a1 = some r) :
  Calls Try.prog 91 #[.slice A0 l0.length c0, .int .i64 a1] w fun e w' => e = .returned (.int .i64 r) ∧ Below w.heap.size w w' := by
 have HR0 := Aside0.mk hr0
 have HC0 := Aside0.mk hc0
 clear hr0 hc0
 have HB := Aside0.mk (Below.refl w.heap.size w)
 have H : ((spec_l3At.f k l0 a1).bind fun t134 => (if t134 = true then (spec_EndOf.l0 k l0 a1 (wrap64 (a1 + 1))) else (some (-1)))) = some r := h
 clear h
 obtain ⟨t134, A3, H⟩ := bnd_ H
 by_cases c4 : t134 = true
 ·subst c4
  replace H := ift_ H
  have H' := Aside0.mk H
  clear H
  go_enter Try.func91, Try.ntmps91
  go_wp2_with (first | (go_at_call 124; (with_reducible refine (spec_l3At.calls k _ _ l0 a1 true _ ?side1 ?side2 A3.out).mono ?_); (case side1 => exact z19_); (case side2 => exact HC0.out); rintro e w5 ⟨rfl, hb⟩; replace HB := Aside0.mk (below_step z0_ hb); (try clear hb)))
  repeat (go_quiet (first | (go_at_call 124; (with_reducible refine (spec_l3At.calls k _ _ l0 a1 true _ ?side1 ?side2 A3.out).mono ?_); (case side1 => exact z19_); (case side2 => exact HC0.out); rintro e w5 ⟨rfl, hb⟩; replace HB := Aside0.mk (below_step z0_ hb); (try clear hb))); try go_wp2_with (first | (go_at_call 124; (with_reducible refine (spec_l3At.calls k _ _ l0 a1 true _ ?side1 ?side2 A3.out).mono ?_); (case side1 => exact z19_); (case side2 => exact HC0.out); rintro e w5 ⟨rfl, hb⟩; replace HB := Aside0.mk (below_step z0_ hb); (try clear hb))))
  go_loopg [5] k (fun kq v5 w' => ∃ (x5_1 : Int), v5 = .int .i64 x5_1 ∧ Aside0 (spec_EndOf.l0 kq l0 a1 x5_1 = some r) ∧ Aside0 (kq ≤ k) ∧ Aside0 (Below w.heap.size w w'))
  case atStart => exact ⟨(wrap64 (a1 + 1)), z5_, H', ⟨Nat.le_refl _⟩, ⟨z0_⟩⟩
  case round =>
   clear H'
   try clear p2
   try clear c4
   obtain ⟨x5_1, rfl, HA, HK1, HB⟩ := hrel
   cases gk with
   | zero => exact absurd HA.out (by simp [spec_EndOf.l0])
   | succ k1 =>
    have H := HA.out
    clear HA
    simp only [spec_EndOf.l0] at H
    by_cases c6 : x5_1 < (l0.length : Int)
    ·rw [if_pos c6] at H
     have c6b0 := decide_eq_true c6
     clear c6
     obtain ⟨c7b0, H⟩ := ifd_ H
     obtain ⟨c8b0, H⟩ := ifd_ H
     obtain ⟨c9b0, H⟩ := ifd_ H
     by_cases c10 : ((rd_T80 l0 x5_1).f1) > ((rd_T80 l0 a1).f1)
     ·rw [if_pos c10] at H
      have c10b0 := decide_eq_true c10
      clear c10
      have H' := Aside0.mk H
      clear H
      obtain ⟨p135, q135, ad135, e135, hx135_0, hx135_1⟩ := atb80_ HR0 HB x5_1
      cases e135
      obtain ⟨p136, q136, ad136, e136, hx136_0, hx136_1⟩ := atb80_ HR0 HB a1
      obtain rfl : ad135 = ad136 := (by injection e136)
      go_wp2
      repeat (go_quiet (fail); try go_wp2)
      go_roundg k1
      case measure => have := HK1.out; omega
      case rel => exact ⟨(wrap64 (x5_1 + 1)), z5_, H', ⟨z66_⟩, ⟨z0_⟩⟩
     ·rw [if_neg c10] at H
      have c10b0 := decide_eq_false c10
      clear c10
      obtain rfl := Option.some.inj H
      obtain ⟨p135, q135, ad135, e135, hx135_0, hx135_1⟩ := atb80_ HR0 HB x5_1
      cases e135
      obtain ⟨p136, q136, ad136, e136, hx136_0, hx136_1⟩ := atb80_ HR0 HB a1
      obtain rfl : ad135 = ad136 := (by injection e136)
      go_wp2
      repeat (go_quiet (fail); try go_wp2)
      go_ret
      exact ⟨z3_, z0_⟩
    ·rw [if_neg c6] at H
     have c6b0 := decide_eq_false c6
     clear c6
     obtain rfl := Option.some.inj H
     go_wp2
     repeat (go_quiet (fail); try go_wp2)
     go_ret
     exact ⟨z3_, z0_⟩
 ·replace c4 := Bool.eq_false_iff.mpr c4
  subst c4
  replace H := iff_ H
  obtain rfl := Option.some.inj H
  go_enter Try.func91, Try.ntmps91
  go_wp2_with (first | (go_at_call 124; (with_reducible refine (spec_l3At.calls k _ _ l0 a1 false _ ?side1 ?side2 A3.out).mono ?_); (case side1 => exact z19_); (case side2 => exact HC0.out); rintro e w11 ⟨rfl, hb⟩; replace HB := Aside0.mk (below_step z0_ hb); (try clear hb)))
  repeat (go_quiet (first | (go_at_call 124; (with_reducible refine (spec_l3At.calls k _ _ l0 a1 false _ ?side1 ?side2 A3.out).mono ?_); (case side1 => exact z19_); (case side2 => exact HC0.out); rintro e w11 ⟨rfl, hb⟩; replace HB := Aside0.mk (below_step z0_ hb); (try clear hb))); try go_wp2_with (first | (go_at_call 124; (with_reducible refine (spec_l3At.calls k _ _ l0 a1 false _ ?side1 ?side2 A3.out).mono ?_); (case side1 => exact z19_); (case side2 => exact HC0.out); rintro e w11 ⟨rfl, hb⟩; replace HB := Aside0.mk (below_step z0_ hb); (try clear hb))))
  go_ret
  exact ⟨z3_, z0_⟩

/-! ### spec_KidsOf: function 105 -/
mutual
def spec_KidsOf.l0 : Nat → List (S80) → Int → List Int → Int → Option (List Int)
 | 0, _, _, _, _ => none
 | k + 1, x0, x1, x5, x6 => (spec_l3At.f k x0 x1).bind fun t140 => (if t140 = true then ((spec_EndOf.f k x0 x1).bind fun t141 => (spec_KidsOf.j1 k x0 x1 x5 x6 (decide (x6 < t141)))) else (spec_KidsOf.j1 k x0 x1 x5 x6 false))
def spec_KidsOf.j1 : Nat → List (S80) → Int → List Int → Int → Bool → Option (List Int)
 | 0, _, _, _, _, _ => none
 | k + 1, x0, x1, x5, x6, x19 => if x19 = true then (if 0 ≤ x6 then (if x6 < (x0.length : Int) then (if 0 ≤ x1 then (if x1 < (x0.length : Int) then (if ((rd_T80 x0 x6).f1) = (wrap64 (((rd_T80 x0 x1).f1) + 1)) then (if x5.length < 17592186044416 then (spec_KidsOf.l0 k x0 x1 (x5 ++ [x6]) (wrap64 (x6 + 1))) else (none)) else (spec_KidsOf.l0 k x0 x1 x5 (wrap64 (x6 + 1)))) else (none)) else (none)) else (none)) else (none)) else (some x5)
end
def spec_KidsOf.f (k : Nat) (l0 : List (S80)) (a1 : Int) : Option (List Int) := spec_KidsOf.l0 k l0 a1 (([] : List Int)) (wrap64 (a1 + 1))
set_option maxHeartbeats 8000000 in
set_option maxRecDepth 100000 in
theorem spec_KidsOf.calls (k : Nat) (A0 : Option Addr) (c0 : Nat) (l0 : List (S80)) (a1 : Int) (r : List Int) (w : World) (hr0 : Kd.C k80 w A0 l0.length l0) (hc0 : l0.length ≤ c0) (h : spec_KidsOf.f k l0 a1 = some r) :
  Calls Try.prog 105 #[.slice A0 l0.length c0, .int .i64 a1] w fun e w' => ∃ v0_ : Value, e = .returned (v0_) ∧ Kd.R (Kd.int .i64) 3 w' w.heap.size (fun _ => True) v0_ r ∧ Below w.heap.size w w' := by
 have HR0 := Aside0.mk hr0
 have HC0 := Aside0.mk hc0
 clear hr0 hc0
 have HB := Aside0.mk (Below.refl w.heap.size w)
 have H : (spec_KidsOf.l0 k l0 a1 (([] : List Int)) (wrap64 (a1 + 1))) = some r := h
 clear h
 first | ((with_reducible have hz_ := gy_ H); obtain ⟨y137, Ny137, H⟩ := hz_) | (generalize hy_ : ((([] : List Int)) : List Int) = y137 at H; have Ny137 := Aside0.mk hy_.symm; clear hy_)
 have H' := Aside0.mk H
 clear H
 go_enter Try.func105, Try.ntmps105
 go_wp2_with (first | ((with_reducible refine gate_dst (N := 7) rfl ?_); refine Kd.R_lit (Kd.int .i64) _ 3 ?hg (N := 7) ?hd (xs := ([] : List Int)) (inner := []) (ok := fun _ => True) (okp := fun _ => True) ?hr ?hp (fun _ hk => hk) trivial (Below.refl _ _) (Nat.le_refl _) (by simp) ?_; (case hd => rfl); (case hg => rfl); (case hr => exact z9_); (case hp => exact z108_); intro v138 w3 ho4 hb hg_ hnew_; clear hg_ hnew_; (first | rw [← Ny137.out] at ho4 | (simp only [Int.reduceToNat] at ho4; rw [← Ny137.out] at ho4)); have HO139 := Aside0.mk (Kd.R_lower ho4 (below_size z0_)); replace HB := Aside0.mk (below_step z0_ hb); clear hb ho4))
 repeat (go_quiet (first | ((with_reducible refine gate_dst (N := 7) rfl ?_); refine Kd.R_lit (Kd.int .i64) _ 3 ?hg (N := 7) ?hd (xs := ([] : List Int)) (inner := []) (ok := fun _ => True) (okp := fun _ => True) ?hr ?hp (fun _ hk => hk) trivial (Below.refl _ _) (Nat.le_refl _) (by simp) ?_; (case hd => rfl); (case hg => rfl); (case hr => exact z9_); (case hp => exact z108_); intro v138 w3 ho4 hb hg_ hnew_; clear hg_ hnew_; (first | rw [← Ny137.out] at ho4 | (simp only [Int.reduceToNat] at ho4; rw [← Ny137.out] at ho4)); have HO139 := Aside0.mk (Kd.R_lower ho4 (below_size z0_)); replace HB := Aside0.mk (below_step z0_ hb); clear hb ho4)); try go_wp2_with (first | ((with_reducible refine gate_dst (N := 7) rfl ?_); refine Kd.R_lit (Kd.int .i64) _ 3 ?hg (N := 7) ?hd (xs := ([] : List Int)) (inner := []) (ok := fun _ => True) (okp := fun _ => True) ?hr ?hp (fun _ hk => hk) trivial (Below.refl _ _) (Nat.le_refl _) (by simp) ?_; (case hd => rfl); (case hg => rfl); (case hr => exact z9_); (case hp => exact z108_); intro v138 w3 ho4 hb hg_ hnew_; clear hg_ hnew_; (first | rw [← Ny137.out] at ho4 | (simp only [Int.reduceToNat] at ho4; rw [← Ny137.out] at ho4)); have HO139 := Aside0.mk (Kd.R_lower ho4 (below_size z0_)); replace HB := Aside0.mk (below_step z0_ hb); clear hb ho4)))
 go_loopg [5, 6] k (fun kq v5 v6 w' => ∃ (x5_1 : List Int) (x6_1 : Int), v6 = .int .i64 x6_1 ∧ Aside0 (spec_KidsOf.l0 kq l0 a1 x5_1 x6_1 = some r) ∧ Aside0 (kq ≤ k) ∧ Aside0 (Kd.R (Kd.int .i64) 3 w' w.heap.size (fun _ => True) v5 x5_1) ∧ Aside0 (Below w.heap.size w w'))
 case atStart => exact ⟨(y137), (wrap64 (a1 + 1)), z5_, H', ⟨Nat.le_refl _⟩, ⟨by (with_reducible repeat (first | apply Kd.R_alloc | apply Kd.R_drewN | apply Kd.R_drew)); exact HO139.out⟩, ⟨z0_⟩⟩
 case round =>
  clear H'
  try clear c1
  try clear p2
  obtain ⟨x5_1, x6_1, rfl, HA, HK1, HO_5, HB⟩ := hrel
  cases gk with
  | zero => exact absurd HA.out (by simp [spec_KidsOf.l0])
  | succ k1 =>
   have H := HA.out
   clear HA
   simp only [spec_KidsOf.l0] at H
   have HC5 := Aside0.mk H
   clear H
   go_upto_region 3 with (fail)
   repeat (go_quiet (fail); go_upto_region 3 with (fail))
   go_cut [19] (fun v19 wc => ∃ (kq : Nat) (x19_4 : Bool), v19 = .bool x19_4 ∧ Aside0 (spec_KidsOf.j1 kq l0 a1 x5_1 x6_1 x19_4 = some r) ∧ Aside0 (kq ≤ k1) ∧ Aside0 (Kd.R (Kd.int .i64) 3 wc w.heap.size (fun _ => True) u5 x5_1) ∧ Aside0 (Below w.heap.size w wc))
   case first =>
    have H := HC5.out
    clear HC5
    obtain ⟨t140, A6, H⟩ := bnd_ H
    by_cases c7 : t140 = true
    ·subst c7
     replace H := ift_ H
     obtain ⟨t141, A8, H⟩ := bnd_ H
     have H' := Aside0.mk H
     clear H
     go_wp2_with (first | (go_at_call 124; (with_reducible refine (spec_l3At.calls k1 _ _ l0 a1 true _ ?side1 ?side2 A6.out).mono ?_); (case side1 => exact z2_); (case side2 => exact HC0.out); rintro e w9 ⟨rfl, hb⟩; replace HO_5 := Aside0.mk (Kd.R_below z23_ hb); replace HB := Aside0.mk (below_step z0_ hb); (try clear hb)) | (go_at_call 91; (with_reducible refine (spec_EndOf.calls k1 _ _ l0 a1 t141 _ ?side1 ?side2 A8.out).mono ?_); (case side1 => exact z2_); (case side2 => exact HC0.out); rintro e w10 ⟨rfl, hb⟩; replace HO_5 := Aside0.mk (Kd.R_below z23_ hb); replace HB := Aside0.mk (below_step z0_ hb); (try clear hb)))
     repeat (go_quiet (first | (go_at_call 124; (with_reducible refine (spec_l3At.calls k1 _ _ l0 a1 true _ ?side1 ?side2 A6.out).mono ?_); (case side1 => exact z2_); (case side2 => exact HC0.out); rintro e w9 ⟨rfl, hb⟩; replace HO_5 := Aside0.mk (Kd.R_below z23_ hb); replace HB := Aside0.mk (below_step z0_ hb); (try clear hb)) | (go_at_call 91; (with_reducible refine (spec_EndOf.calls k1 _ _ l0 a1 t141 _ ?side1 ?side2 A8.out).mono ?_); (case side1 => exact z2_); (case side2 => exact HC0.out); rintro e w10 ⟨rfl, hb⟩; replace HO_5 := Aside0.mk (Kd.R_below z23_ hb); replace HB := Aside0.mk (below_step z0_ hb); (try clear hb))); try go_wp2_with (first | (go_at_call 124; (with_reducible refine (spec_l3At.calls k1 _ _ l0 a1 true _ ?side1 ?side2 A6.out).mono ?_); (case side1 => exact z2_); (case side2 => exact HC0.out); rintro e w9 ⟨rfl, hb⟩; replace HO_5 := Aside0.mk (Kd.R_below z23_ hb); replace HB := Aside0.mk (below_step z0_ hb); (try clear hb)) | (go_at_call 91; (with_reducible refine (spec_EndOf.calls k1 _ _ l0 a1 t141 _ ?side1 ?side2 A8.out).mono ?_); (case side1 => exact z2_); (case side2 => exact HC0.out); rintro e w10 ⟨rfl, hb⟩; replace HO_5 := Aside0.mk (Kd.R_below z23_ hb); replace HB := Aside0.mk (below_step z0_ hb); (try clear hb))))
     go_meet
     case rel => exact ⟨_, (decide (x6_1 < t141)), z5_, H', ⟨by have := HK1.out; first | omega | exact Nat.le_refl _⟩, ⟨z23_⟩, ⟨z0_⟩⟩
    ·replace c7 := Bool.eq_false_iff.mpr c7
     subst c7
     replace H := iff_ H
     have H' := Aside0.mk H
     clear H
     go_wp2_with (first | (go_at_call 124; (with_reducible refine (spec_l3At.calls k1 _ _ l0 a1 false _ ?side1 ?side2 A6.out).mono ?_); (case side1 => exact z2_); (case side2 => exact HC0.out); rintro e w11 ⟨rfl, hb⟩; replace HO_5 := Aside0.mk (Kd.R_below z23_ hb); replace HB := Aside0.mk (below_step z0_ hb); (try clear hb)))
     repeat (go_quiet (first | (go_at_call 124; (with_reducible refine (spec_l3At.calls k1 _ _ l0 a1 false _ ?side1 ?side2 A6.out).mono ?_); (case side1 => exact z2_); (case side2 => exact HC0.out); rintro e w11 ⟨rfl, hb⟩; replace HO_5 := Aside0.mk (Kd.R_below z23_ hb); replace HB := Aside0.mk (below_step z0_ hb); (try clear hb))); try go_wp2_with (first | (go_at_call 124; (with_reducible refine (spec_l3At.calls k1 _ _ l0 a1 false _ ?side1 ?side2 A6.out).mono ?_); (case side1 => exact z2_); (case side2 => exact HC0.out); rintro e w11 ⟨rfl, hb⟩; replace HO_5 := Aside0.mk (Kd.R_below z23_ hb); replace HB := Aside0.mk (below_step z0_ hb); (try clear hb))))
     go_meet
     case rel => exact ⟨_, (false), z5_, H', ⟨by have := HK1.out; first | omega | exact Nat.le_refl _⟩, ⟨z23_⟩, ⟨z0_⟩⟩
   case rest =>
    clear HC5
    try clear c1
    try clear p2
    try clear p6
    try clear c7
    try clear c10
    try clear p2
    obtain ⟨kq, x19_4, rfl, HA, HJ4, HO_5, HB⟩ := hcut
    cases kq with
    | zero => exact absurd HA.out (by simp [spec_KidsOf.j1])
    | succ kj4 =>
     have H := HA.out
     clear HA
     simp only [spec_KidsOf.j1] at H
     by_cases c12 : x19_4 = true
     ·subst c12
      replace H := ift_ H
      obtain ⟨c13b0, H⟩ := ifd_ H
      obtain ⟨c14b0, H⟩ := ifd_ H
      obtain ⟨c15b0, H⟩ := ifd_ H
      obtain ⟨c16b0, H⟩ := ifd_ H
      by_cases c17 : ((rd_T80 l0 x6_1).f1) = (wrap64 (((rd_T80 l0 a1).f1) + 1))
      ·rw [if_pos c17] at H
       have c17b0 : (((rd_T80 l0 x6_1).f1) == (wrap64 (((rd_T80 l0 a1).f1) + 1))) = true := beq_iff_eq.mpr c17
       have c17b1 : (((rd_T80 l0 x6_1).f1) != (wrap64 (((rd_T80 l0 a1).f1) + 1))) = false := bne_eq_false_iff_eq.mpr c17
       clear c17
       obtain ⟨c18, H⟩ := ifs_ H
       have LMc18 := Aside0.mk c18
       clear c18
       first | ((with_reducible have hz_ := gy_ H); obtain ⟨y144, Ny144, H⟩ := hz_) | (generalize hy_ : ((x5_1 ++ [x6_1]) : List Int) = y144 at H; have Ny144 := Aside0.mk hy_.symm; clear hy_)
       have H' := Aside0.mk H
       clear H
       obtain ⟨p142, q142, ad142, e142, hx142_0, hx142_1⟩ := atb80_ HR0 HB x6_1
       cases e142
       obtain ⟨p143, q143, ad143, e143, hx143_0, hx143_1⟩ := atb80_ HR0 HB a1
       obtain rfl : ad142 = ad143 := (by injection e143)
       go_wp2_with (first | ((with_reducible refine gate_builtin (b := .append) (xs := #[.tmp 34, .tmp 36]) rfl ?_); at_builtin; refine Kd.R_append (Kd.int .i64) (w0 := w) w.heap.size rfl (.tmp 34) (.tmp 36) 61 3 (.int .i64 0) 8 rfl Try.underlying61 info3 rfl (by decide) (by omega) u5 x5_1 x6_1 [.int .i64 x6_1] (fun _ => True) (fun _ => False) rfl rfl ?aP (fun _ hk => hk.elim) ?aF ?aO ?aB ?aS ?aL ?_; (case aP => exact rfl); (case aB => exact z35_); (case aF => exact z110_); (case aO => exact z74_); (case aS => exact z42_); (case aL => have := LMc18.out; omega); intro v145 w19 ho hb hg hat; rw [← Ny144.out] at ho; replace HB := Aside0.mk (hb); have HO146 := Aside0.mk (ho); clear HO_5; clear ho hb hg hat))
       repeat (go_quiet (first | ((with_reducible refine gate_builtin (b := .append) (xs := #[.tmp 34, .tmp 36]) rfl ?_); at_builtin; refine Kd.R_append (Kd.int .i64) (w0 := w) w.heap.size rfl (.tmp 34) (.tmp 36) 61 3 (.int .i64 0) 8 rfl Try.underlying61 info3 rfl (by decide) (by omega) u5 x5_1 x6_1 [.int .i64 x6_1] (fun _ => True) (fun _ => False) rfl rfl ?aP (fun _ hk => hk.elim) ?aF ?aO ?aB ?aS ?aL ?_; (case aP => exact rfl); (case aB => exact z35_); (case aF => exact z110_); (case aO => exact z74_); (case aS => exact z42_); (case aL => have := LMc18.out; omega); intro v145 w19 ho hb hg hat; rw [← Ny144.out] at ho; replace HB := Aside0.mk (hb); have HO146 := Aside0.mk (ho); clear HO_5; clear ho hb hg hat)); try go_wp2_with (first | ((with_reducible refine gate_builtin (b := .append) (xs := #[.tmp 34, .tmp 36]) rfl ?_); at_builtin; refine Kd.R_append (Kd.int .i64) (w0 := w) w.heap.size rfl (.tmp 34) (.tmp 36) 61 3 (.int .i64 0) 8 rfl Try.underlying61 info3 rfl (by decide) (by omega) u5 x5_1 x6_1 [.int .i64 x6_1] (fun _ => True) (fun _ => False) rfl rfl ?aP (fun _ hk => hk.elim) ?aF ?aO ?aB ?aS ?aL ?_; (case aP => exact rfl); (case aB => exact z35_); (case aF => exact z110_); (case aO => exact z74_); (case aS => exact z42_); (case aL => have := LMc18.out; omega); intro v145 w19 ho hb hg hat; rw [← Ny144.out] at ho; replace HB := Aside0.mk (hb); have HO146 := Aside0.mk (ho); clear HO_5; clear ho hb hg hat)))
       go_roundg kj4
       case measure => have := HK1.out; have := HJ4.out; omega
       case rel => exact ⟨(y144), (wrap64 (x6_1 + 1)), z5_, H', ⟨by have := HK1.out; have := HJ4.out; omega⟩, ⟨by (with_reducible repeat (first | apply Kd.R_alloc | apply Kd.R_drewN | apply Kd.R_drew)); exact HO146.out⟩, ⟨z0_⟩⟩
      ·rw [if_neg c17] at H
       have c17b0 : (((rd_T80 l0 x6_1).f1) == (wrap64 (((rd_T80 l0 a1).f1) + 1))) = false := beq_eq_false_iff_ne.mpr c17
       have c17b1 : (((rd_T80 l0 x6_1).f1) != (wrap64 (((rd_T80 l0 a1).f1) + 1))) = true := bne_iff_ne.mpr c17
       have H' := Aside0.mk H
       clear H
       obtain ⟨p142, q142, ad142, e142, hx142_0, hx142_1⟩ := atb80_ HR0 HB x6_1
       cases e142
       obtain ⟨p143, q143, ad143, e143, hx143_0, hx143_1⟩ := atb80_ HR0 HB a1
       obtain rfl : ad142 = ad143 := (by injection e143)
       go_wp2
       repeat (go_quiet (fail); try go_wp2)
       go_roundg kj4
       case measure => have := HK1.out; have := HJ4.out; omega
       case rel => exact ⟨(x5_1), (wrap64 (x6_1 + 1)), z5_, H', ⟨by have := HK1.out; have := HJ4.out; omega⟩, ⟨z23_⟩, ⟨z0_⟩⟩
     ·replace c12 := Bool.eq_false_iff.mpr c12
      subst c12
      replace H := iff_ H
      obtain rfl := Option.some.inj H
      go_wp2
      repeat (go_quiet (fail); try go_wp2)
      go_ret
      exact ⟨_, z3_, z23_, z0_⟩

/-! ### spec_NodeAt: function 89 -/
def spec_NodeAt.l0 : Nat → List (S80) → List Int → Int → Int → Option (Int)
 | 0, _, _, _, _ => none
 | k + 1, x0, x1, x5, x6 => if x6 < (x1.length : Int) then ((spec_KidsOf.f k x0 x5).bind fun t148 => (if 0 ≤ x6 then ((spec_l1In.f (rd x1 x6) 0 (wrap64 ((t148.length : Int) - 1))).bind fun t152 => (if t152 = true then (if 0 ≤ (rd x1 x6) then (if (rd x1 x6) < (t148.length : Int) then (spec_NodeAt.l0 k x0 x1 (rd t148 (rd x1 x6)) (wrap64 (x6 + 1))) else (none)) else (none)) else (some (-1)))) else (none))) else (some x5)
def spec_NodeAt.f (k : Nat) (l0 : List (S80)) (l1 : List Int) : Option (Int) := (spec_TreeOk.f k l0).bind fun t147 => (if t147 = true then (spec_NodeAt.l0 k l0 l1 0 0) else (some (-1)))
set_option maxHeartbeats 8000000 in
set_option maxRecDepth 100000 in
theorem spec_NodeAt.calls (k : Nat) (A0 : Option Addr) (c0 : Nat) (l0 : List (S80)) (A1 : Option Addr) (c1 : Nat) (l1 : List Int) (r : Int) (w : World) (hr0 : Kd.C k80 w A0 l0.length l0) (hc0 : l0.length ≤ c0) (hr1 : Kd.C (Kd.int .i64) w A1 l1.length l1) (hc1 : l1.length ≤ c1) (h : spec_NodeAt.f k l0 l1 = some r) :
  Calls Try.prog 89 #[.slice A0 l0.length c0, .slice A1 l1.length c1] w fun e w' => e = .returned (.int .i64 r) ∧ Below w.heap.size w w' := by
 have HR0 := Aside0.mk hr0
 have HC0 := Aside0.mk hc0
 clear hr0 hc0
 have HR1 := Aside0.mk hr1
 have HC1 := Aside0.mk hc1
 clear hr1 hc1
 have HB := Aside0.mk (Below.refl w.heap.size w)
 have H : ((spec_TreeOk.f k l0).bind fun t147 => (if t147 = true then (spec_NodeAt.l0 k l0 l1 0 0) else (some (-1)))) = some r := h
 clear h
 obtain ⟨t147, A3, H⟩ := bnd_ H
 by_cases c4 : t147 = true
 ·subst c4
  replace H := ift_ H
  have H' := Aside0.mk H
  clear H
  go_enter Try.func89, Try.ntmps89
  go_wp2_with (first | ((with_reducible refine gate_callee (f := 38) rfl ?_); refine goesL_ (some 9) rfl rfl Try.func38 (by kernel_rfl) rfl #[.slice A0 l0.length c0] rfl z1_ ?_; (with_reducible refine (spec_TreeOk.calls k _ _ l0 true _ ?side1 ?side2 A3.out).mono ?_); (case side1 => exact z19_); (case side2 => exact HC0.out); rintro e w5 ⟨rfl, hb⟩; refine ⟨_, rfl, ?_⟩; replace HB := Aside0.mk (below_step z0_ hb); (try clear hb)))
  go_loopg [5, 6] k (fun kq v5 v6 w' => ∃ (x5_1 : Int) (x6_1 : Int), v5 = .int .i64 x5_1 ∧ v6 = .int .i64 x6_1 ∧ Aside0 (spec_NodeAt.l0 kq l0 l1 x5_1 x6_1 = some r) ∧ Aside0 (kq ≤ k) ∧ Aside0 (Below w.heap.size w w'))
  case atStart => exact ⟨(0), (0), z5_, z5_, H', ⟨Nat.le_refl _⟩, ⟨z0_⟩⟩
  case round =>
   clear H'
   try clear c1
   try clear p2
   try clear c3
   try clear c4
   obtain ⟨x5_1, x6_1, rfl, rfl, HA, HK1, HB⟩ := hrel
   cases gk with
   | zero => exact absurd HA.out (by simp [spec_NodeAt.l0])
   | succ k1 =>
    have H := HA.out
    clear HA
    simp only [spec_NodeAt.l0] at H
    by_cases c6 : x6_1 < (l1.length : Int)
    ·rw [if_pos c6] at H
     have c6b0 := decide_eq_true c6
     clear c6
     obtain ⟨t148, A7, H⟩ := bnd_ H
     obtain ⟨c8b0, H⟩ := ifd_ H
     obtain ⟨t152, A9, H⟩ := bnd_ H
     by_cases c10 : t152 = true
     ·subst c10
      replace H := ift_ H
      obtain ⟨c11b0, H⟩ := ifd_ H
      obtain ⟨c12b0, H⟩ := ifd_ H
      have H' := Aside0.mk H
      clear H
      go_wp2_with (first | ((with_reducible refine gate_callee (f := 105) rfl ?_); refine goesL_ (some 19) rfl rfl Try.func105 (by kernel_rfl) rfl #[.slice A0 l0.length c0, .int .i64 x5_1] rfl z1_ ?_; (with_reducible refine (spec_KidsOf.calls k1 _ _ l0 x5_1 t148 _ ?side1 ?side2 A7.out).mono ?_); (case side1 => exact z2_); (case side2 => exact HC0.out); rintro e w13 ⟨v149, rfl, ho0, hb⟩; refine ⟨_, rfl, ?_⟩; have HO150 := Aside0.mk (Kd.R_lower ho0 (below_size z0_)); replace HB := Aside0.mk (below_step z0_ hb); (try clear hb ho0); have p151 : 0 ≤ (x6_1 : Int) := odt_; have q151 : x6_1 < (l1.length : Int) := odt_; obtain ⟨ad151, e151, hx151_0⟩ := Kd.at_int HR1.out x6_1 p151 q151; cases e151; replace hx151_0 := (HB.out.cell (World.block_lt_of_cell? w _ hx151_0)).trans hx151_0; replace p151 := eq_true p151; replace q151 := eq_true q151; obtain ⟨Ao14, co14, eo14⟩ := Kd.R_slice HO150.out; subst eo14) | ((with_reducible refine gate_callee (f := 60) rfl ?_); refine goesL_ (some 27) rfl rfl Try.func60 (by kernel_rfl) rfl #[.int .i64 (rd l1 x6_1), .int .i64 0, .int .i64 (wrap64 ((t148.length : Int) - 1))] rfl z1_ ?_; (with_reducible refine (spec_l1In.calls (rd l1 x6_1) 0 (wrap64 ((t148.length : Int) - 1)) true _ A9.out).mono ?_); rintro e w' ⟨rfl, ⟨nd, rfl⟩⟩; refine ⟨_, rfl, ?_⟩; have p153 : 0 ≤ (x6_1 : Int) := odt_; have q153 : x6_1 < (l1.length : Int) := odt_; obtain ⟨ad153, e153, hx153_0⟩ := Kd.at_int HR1.out x6_1 p153 q153; obtain rfl : ad151 = ad153 := (by injection e153); replace hx153_0 := (HB.out.cell (World.block_lt_of_cell? w _ hx153_0)).trans hx153_0; replace p153 := eq_true p153; replace q153 := eq_true q153; have p154 : 0 ≤ ((rd l1 x6_1) : Int) := odt_; have q154 : (rd l1 x6_1) < (t148.length : Int) := odt_; obtain ⟨ad154, e154, hx154_0⟩ := Kd.at_int (Kd.R_reads' HO150.out).2.2 (rd l1 x6_1) p154 q154; cases e154; replace p154 := eq_true p154; replace q154 := eq_true q154))
      go_roundg k1
      case measure => have := HK1.out; omega
      case rel => exact ⟨(rd t148 (rd l1 x6_1)), (wrap64 (x6_1 + 1)), z5_, z5_, H', ⟨z66_⟩, ⟨z0_⟩⟩
     ·replace c10 := Bool.eq_false_iff.mpr c10
      subst c10
      replace H := iff_ H
      obtain rfl := Option.some.inj H
      go_wp2_with (first | ((with_reducible refine gate_callee (f := 105) rfl ?_); refine goesL_ (some 19) rfl rfl Try.func105 (by kernel_rfl) rfl #[.slice A0 l0.length c0, .int .i64 x5_1] rfl z1_ ?_; (with_reducible refine (spec_KidsOf.calls k1 _ _ l0 x5_1 t148 _ ?side1 ?side2 A7.out).mono ?_); (case side1 => exact z2_); (case side2 => exact HC0.out); rintro e w15 ⟨v149, rfl, ho0, hb⟩; refine ⟨_, rfl, ?_⟩; have HO150 := Aside0.mk (Kd.R_lower ho0 (below_size z0_)); replace HB := Aside0.mk (below_step z0_ hb); (try clear hb ho0); have p151 : 0 ≤ (x6_1 : Int) := odt_; have q151 : x6_1 < (l1.length : Int) := odt_; obtain ⟨ad151, e151, hx151_0⟩ := Kd.at_int HR1.out x6_1 p151 q151; cases e151; replace hx151_0 := (HB.out.cell (World.block_lt_of_cell? w _ hx151_0)).trans hx151_0; replace p151 := eq_true p151; replace q151 := eq_true q151; obtain ⟨Ao16, co16, eo16⟩ := Kd.R_slice HO150.out; subst eo16) | ((with_reducible refine gate_callee (f := 60) rfl ?_); refine goesL_ (some 27) rfl rfl Try.func60 (by kernel_rfl) rfl #[.int .i64 (rd l1 x6_1), .int .i64 0, .int .i64 (wrap64 ((t148.length : Int) - 1))] rfl z1_ ?_; (with_reducible refine (spec_l1In.calls (rd l1 x6_1) 0 (wrap64 ((t148.length : Int) - 1)) false _ A9.out).mono ?_); rintro e w' ⟨rfl, ⟨nd, rfl⟩⟩; refine ⟨_, rfl, ?_⟩))
      go_ret
      exact ⟨z3_, z0_⟩
    ·rw [if_neg c6] at H
     have c6b0 := decide_eq_false c6
     clear c6
     obtain rfl := Option.some.inj H
     go_wp2
     go_ret
     exact ⟨z3_, z0_⟩
 ·replace c4 := Bool.eq_false_iff.mpr c4
  subst c4
  replace H := iff_ H
  obtain rfl := Option.some.inj H
  go_enter Try.func89, Try.ntmps89
  go_wp2_with (first | ((with_reducible refine gate_callee (f := 38) rfl ?_); refine goesL_ (some 9) rfl rfl Try.func38 (by kernel_rfl) rfl #[.slice A0 l0.length c0] rfl z1_ ?_; (with_reducible refine (spec_TreeOk.calls k _ _ l0 false _ ?side1 ?side2 A3.out).mono ?_); (case side1 => exact z19_); (case side2 => exact HC0.out); rintro e w17 ⟨rfl, hb⟩; refine ⟨_, rfl, ?_⟩; replace HB := Aside0.mk (below_step z0_ hb); (try clear hb)))
  go_ret
  exact ⟨z3_, z0_⟩

end Go.Proofs.Ytdapeboajjidmaa.PFnExactHistAt
