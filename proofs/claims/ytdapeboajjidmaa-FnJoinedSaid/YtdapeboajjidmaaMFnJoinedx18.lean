/- Laid by a program of this session out of the kit's print for the law FnJoined: what it says of the machine is proved here, function by function; each contract under the conditions that it names. -/
import Derived.Test.YtdapeboajjidmaaMFnJoinedx0
import Derived.Test.YtdapeboajjidmaaMFnJoinedx12
import Derived.Test.YtdapeboajjidmaaMFnJoinedx17
namespace Go.Proofs.Ytdapeboajjidmaa.PFnJoined
open Go.RowKit Go.Proofs.YtdapeboajjidmaaW.PrintWords Go.Proofs.YtdapeboajjidmaaW.PrintLast Go.Proofs.YtdapeboajjidmaaW.PrintMore
attribute [local go_sem] max2_int min2_int max_two min_two max_three min_three max_four min_four   -- for this text's walks alone
set_option linter.unusedVariables false
set_option linter.unusedSimpArgs false

/-! ### impl_CostOk: function 77 -/
mutual
def impl_CostOk.j0 : Nat → Bool → List Int → List Int → List Int → Option (Bool)
 | 0, _, _, _, _ => none
 | k + 1, x19, x661000, x661001, x661002 => if x19 = true then (some false) else (impl_CostOk.l0 k 0 x661000 x661001 x661002)
def impl_CostOk.l0 : Nat → Int → List Int → List Int → List Int → Option (Bool)
 | 0, _, _, _, _ => none
 | k + 1, x20, x661000, x661001, x661002 => if x20 < 6 then (if 0 ≤ (wrap64 ((wrap64 (x20 * 6)) + x20)) then (if (wrap64 ((wrap64 (x20 * 6)) + x20)) < (x661002.length : Int) then (if (rd x661002 (wrap64 ((wrap64 (x20 * 6)) + x20))) = 0 then (impl_CostOk.l0 k (wrap64 (x20 + 1)) x661000 x661001 x661002) else (some false)) else (none)) else (none)) else (some true)
end
def impl_CostOk.f (k : Nat) (l0_0 : List Int) (l0_1 : List Int) (l0_2 : List Int) : Option (Bool) := (impl_pricesOk.f k l0_0 6).bind fun t661 => (if t661 = true then ((impl_pricesOk.f k l0_1 6).bind fun t662 => (if t662 = true then ((impl_pricesOk.f k l0_2 36).bind fun t663 => (impl_CostOk.j0 k (!t663) l0_0 l0_1 l0_2)) else (impl_CostOk.j0 k true l0_0 l0_1 l0_2))) else (impl_CostOk.j0 k true l0_0 l0_1 l0_2))
set_option maxHeartbeats 8000000 in
set_option maxRecDepth 100000 in
theorem impl_CostOk.calls (k : Nat) (A0_0 : Option Addr) (c0_0 : Nat) (l0_0 : List Int) (A0_1 : Option Addr) (c0_1 : Nat) (l0_1 : List Int) (A0_2 : Option Addr) (c0_2 : Nat) (l0_2 : List Int) (r : Bool) (w : World) (hr0_0 : Kd.C (Kd.int .i64) w A0_0 l0_0.length l0_0) (hc0_0 : l0_0.length ≤ c0_0) (hr0_1 : Kd.C (Kd.int .i64) w A0_1 l0_1.length l0_1) (hc0_1 : l0_1.length ≤ c0_1) (hr0_2 : Kd.C (Kd.int .i64) w A0_2 l0_2.length l0_2) (hc0_2 : l0_2.length ≤ c0_2) (h : impl_CostOk.f k l0_0 l0_1 l0_2 = some r) :
  Calls Try.prog 77 #[.agg #[.slice A0_0 l0_0.length c0_0, .slice A0_1 l0_1.length c0_1, .slice A0_2 l0_2.length c0_2]] w fun e w' => e = .returned (.bool r) ∧ Below w.heap.size w w' := by
 have hu63 := Try.underlying63
 have HR0_0 := Aside0.mk hr0_0
 have HC0_0 := Aside0.mk hc0_0
 clear hr0_0 hc0_0
 have HR0_1 := Aside0.mk hr0_1
 have HC0_1 := Aside0.mk hc0_1
 clear hr0_1 hc0_1
 have HR0_2 := Aside0.mk hr0_2
 have HC0_2 := Aside0.mk hc0_2
 clear hr0_2 hc0_2
 have HB := Aside0.mk (Below.refl w.heap.size w)
 have H : ((impl_pricesOk.f k l0_0 6).bind fun t661 => (if t661 = true then ((impl_pricesOk.f k l0_1 6).bind fun t662 => (if t662 = true then ((impl_pricesOk.f k l0_2 36).bind fun t663 => (impl_CostOk.j0 k (!t663) l0_0 l0_1 l0_2)) else (impl_CostOk.j0 k true l0_0 l0_1 l0_2))) else (impl_CostOk.j0 k true l0_0 l0_1 l0_2))) = some r := h
 clear h
 have HC2 := Aside0.mk H
 clear H
 go_enter Try.func77, Try.ntmps77
 go_upto_region 1 with (first | ((with_reducible refine gate_dst (N := 1) rfl ?_); refine box_event ?hg (N := 1) ?hd (cs := #[.slice A0_0 l0_0.length c0_0, .slice A0_1 l0_1.length c0_1, .slice A0_2 l0_2.length c0_2]) (t := 63) ?hr ?_; (case hd => rfl); (case hg => rfl); (case hr => exact z20_); intro gb660 hg w3 hbox hb; have BK660 := Aside0.mk (hbox); have GW660 := Aside0.mk ((by rw [hg]; exact (below_size z0_) : w.heap.size ≤ gb660)); have GE660 := Aside0.mk ((by rw [hg]; exact (below_size z0_) : w.heap.size ≤ gb660)); replace HB := Aside0.mk (below_step z0_ hb); clear hb hbox hg))
 (try simp only [Act.put, List.setIfInBounds_toArray, List.set_cons_zero, List.set_cons_succ])
 go_cut [19] (fun v19 wc => ∃ (kq : Nat) (x19_1 : Bool), v19 = .bool x19_1 ∧ Aside0 (impl_CostOk.j0 kq x19_1 l0_0 l0_1 l0_2 = some r) ∧ Aside0 (kq ≤ k) ∧ Aside0 (wc.heap[gb660]? = some (.cells #[(.slice A0_0 l0_0.length c0_0), (.slice A0_1 l0_1.length c0_1), (.slice A0_2 l0_2.length c0_2)] 63 (0, 0))) ∧ Aside0 (Below w.heap.size w wc))
 case first =>
  have H := HC2.out
  clear HC2
  obtain ⟨t661, A4, H⟩ := bnd_ H
  by_cases c5 : t661 = true
  ·subst c5
   replace H := ift_ H
   obtain ⟨t662, A6, H⟩ := bnd_ H
   by_cases c7 : t662 = true
   ·subst c7
    replace H := ift_ H
    obtain ⟨t663, A8, H⟩ := bnd_ H
    have H' := Aside0.mk H
    clear H
    obtain ⟨hcz9_0, hcz9_1, hcz9_2, hfz9_0, hfz9_1, hfz9_2⟩ := bx3_ BK660.out
    go_wp2_with (first | ((with_reducible refine gate_callee (f := 115) rfl ?_); refine goesL_ (some 6) rfl rfl Try.func115 (by kernel_rfl) rfl #[.slice A0_0 l0_0.length c0_0, .int .i64 6] rfl z1_ ?_; (with_reducible refine (impl_pricesOk.calls k _ _ l0_0 6 true _ ?side1 ?side2 A4.out).mono ?_); (case side1 => exact z39_); (case side2 => exact HC0_0.out); rintro e w' ⟨rfl, ⟨nd, rfl⟩⟩; refine ⟨_, rfl, ?_⟩) | (go_at_call 115; (with_reducible refine (impl_pricesOk.calls k _ _ l0_1 6 true _ ?side1 ?side2 A6.out).mono ?_); (case side1 => exact z107_); (case side2 => exact HC0_1.out); rintro e w' ⟨rfl, ⟨nd, rfl⟩⟩) | (go_at_call 115; (with_reducible refine (impl_pricesOk.calls k _ _ l0_2 36 t663 _ ?side1 ?side2 A8.out).mono ?_); (case side1 => repeat (first | exact (Kd.C_below HR0_2.out z47_) | (with_reducible refine Kd.C_alloc ?_ _) | (with_reducible refine Kd.C_drewN ?_ _) | (with_reducible refine Kd.C_drew ?_))); (case side2 => exact HC0_2.out); rintro e w' ⟨rfl, ⟨nd, rfl⟩⟩))
    go_meet
    case rel => exact ⟨_, (!t663), z11_, H', ⟨z129_⟩, ⟨z118_⟩, ⟨z47_⟩⟩
   ·replace c7 := Bool.eq_false_iff.mpr c7
    subst c7
    replace H := iff_ H
    have H' := Aside0.mk H
    clear H
    obtain ⟨hcz10_0, hcz10_1, hcz10_2, hfz10_0, hfz10_1, hfz10_2⟩ := bx3_ BK660.out
    go_wp2_with (first | ((with_reducible refine gate_callee (f := 115) rfl ?_); refine goesL_ (some 6) rfl rfl Try.func115 (by kernel_rfl) rfl #[.slice A0_0 l0_0.length c0_0, .int .i64 6] rfl z1_ ?_; (with_reducible refine (impl_pricesOk.calls k _ _ l0_0 6 true _ ?side1 ?side2 A4.out).mono ?_); (case side1 => exact z39_); (case side2 => exact HC0_0.out); rintro e w' ⟨rfl, ⟨nd, rfl⟩⟩; refine ⟨_, rfl, ?_⟩) | (go_at_call 115; (with_reducible refine (impl_pricesOk.calls k _ _ l0_1 6 false _ ?side1 ?side2 A6.out).mono ?_); (case side1 => exact z107_); (case side2 => exact HC0_1.out); rintro e w' ⟨rfl, ⟨nd, rfl⟩⟩))
    go_meet
    case rel => exact ⟨_, (true), z11_, H', ⟨z129_⟩, ⟨z118_⟩, ⟨z47_⟩⟩
  ·replace c5 := Bool.eq_false_iff.mpr c5
   subst c5
   replace H := iff_ H
   have H' := Aside0.mk H
   clear H
   obtain ⟨hcz11_0, hcz11_1, hcz11_2, hfz11_0, hfz11_1, hfz11_2⟩ := bx3_ BK660.out
   go_wp2_with (first | ((with_reducible refine gate_callee (f := 115) rfl ?_); refine goesL_ (some 6) rfl rfl Try.func115 (by kernel_rfl) rfl #[.slice A0_0 l0_0.length c0_0, .int .i64 6] rfl z1_ ?_; (with_reducible refine (impl_pricesOk.calls k _ _ l0_0 6 false _ ?side1 ?side2 A4.out).mono ?_); (case side1 => exact z39_); (case side2 => exact HC0_0.out); rintro e w' ⟨rfl, ⟨nd, rfl⟩⟩; refine ⟨_, rfl, ?_⟩))
   go_meet
   case rel => exact ⟨_, (true), z11_, H', ⟨z129_⟩, ⟨z118_⟩, ⟨z47_⟩⟩
 case rest =>
  clear HC2
  try clear c1
  try clear p2
  try clear c5
  try clear c7
  try clear c11
  try clear hcz10_0
  try clear hcz10_1
  try clear hcz10_2
  try clear hcz11_0
  try clear hcz11_1
  try clear hcz11_2
  try clear hcz9_0
  try clear hcz9_1
  try clear hcz9_2
  try clear hfz10_0
  try clear hfz10_1
  try clear hfz10_2
  try clear hfz11_0
  try clear hfz11_1
  try clear hfz11_2
  try clear hfz9_0
  try clear hfz9_1
  try clear hfz9_2
  obtain ⟨kq, x19_1, rfl, HA, HJ1, BK660, HB⟩ := hcut
  cases kq with
  | zero => exact absurd HA.out (by simp [impl_CostOk.j0])
  | succ kj1 =>
   have H := HA.out
   clear HA
   simp only [impl_CostOk.j0] at H
   by_cases c12 : x19_1 = true
   ·subst c12
    replace H := ift_ H
    obtain rfl := Option.some.inj H
    go_wp2
    go_ret
    exact ⟨z6_, z47_⟩
   ·replace c12 := Bool.eq_false_iff.mpr c12
    subst c12
    replace H := iff_ H
    have H' := Aside0.mk H
    clear H
    go_wp2
    go_loopg [20] kj1 (fun kq v20 w' => ∃ (x20_2 : Int), v20 = .int .i64 x20_2 ∧ Aside0 (impl_CostOk.l0 kq x20_2 l0_0 l0_1 l0_2 = some r) ∧ Aside0 (kq ≤ kj1) ∧ Aside0 (w'.heap[gb660]? = some (.cells #[(.slice A0_0 l0_0.length c0_0), (.slice A0_1 l0_1.length c0_1), (.slice A0_2 l0_2.length c0_2)] 63 (0, 0))) ∧ Aside0 (Below w.heap.size w w'))
    case atStart => exact ⟨(0), z11_, H', ⟨Nat.le_refl _⟩, ⟨z118_⟩, ⟨z47_⟩⟩
    case round =>
     clear H'
     try clear c1
     try clear p2
     try clear c5
     try clear c7
     try clear c11
     try clear c12
     try clear hcz10_0
     try clear hcz10_1
     try clear hcz10_2
     try clear hcz11_0
     try clear hcz11_1
     try clear hcz11_2
     try clear hcz9_0
     try clear hcz9_1
     try clear hcz9_2
     try clear hfz10_0
     try clear hfz10_1
     try clear hfz10_2
     try clear hfz11_0
     try clear hfz11_1
     try clear hfz11_2
     try clear hfz9_0
     try clear hfz9_1
     try clear hfz9_2
     try clear p2
     obtain ⟨x20_2, rfl, HA, HK2, BK660, HB⟩ := hrel
     cases gk with
     | zero => exact absurd HA.out (by simp [impl_CostOk.l0])
     | succ k2 =>
      have H := HA.out
      clear HA
      simp only [impl_CostOk.l0] at H
      by_cases c13 : x20_2 < 6
      ·rw [if_pos c13] at H
       have c13b0 := decide_eq_true c13
       clear c13
       obtain ⟨ji14, hji14⟩ : ∃ j_ : Int, (wrap64 ((wrap64 (x20_2 * 6)) + x20_2)) = j_ := ⟨_, rfl⟩
       first | rw [hji14] at H | simp only [hji14] at H
       have hji14w : (IntKind.i64.wrap ((wrap64 (x20_2 * 6)) + x20_2)) = ji14 := (i64_w _).trans hji14
       obtain ⟨c15b0, H⟩ := ifd_ H
       obtain ⟨c16b0, H⟩ := ifd_ H
       by_cases c17 : (rd l0_2 (ji14)) = 0
       ·rw [if_pos c17] at H
        have c17b0 : ((rd l0_2 (ji14)) == 0) = true := beq_iff_eq.mpr c17
        have c17b1 : ((rd l0_2 (ji14)) != 0) = false := bne_eq_false_iff_eq.mpr c17
        clear c17
        have H' := Aside0.mk H
        clear H
        obtain ⟨hcz18_0, hcz18_1, hcz18_2, hfz18_0, hfz18_1, hfz18_2⟩ := bx3_ BK660.out
        have p664 : 0 ≤ ((ji14) : Int) := odt_
        have q664 : (ji14) < (l0_2.length : Int) := odt_
        obtain ⟨ad664, e664, hx664_0⟩ := Kd.at_int HR0_2.out (ji14) p664 q664
        cases e664
        replace hx664_0 := (HB.out.cell (World.block_lt_of_cell? w _ hx664_0)).trans hx664_0
        replace p664 := eq_true p664
        replace q664 := eq_true q664
        go_wp2
        go_roundg k2
        case measure => have := HJ1.out; have := HK2.out; omega
        case rel => exact ⟨(wrap64 (x20_2 + 1)), z11_, H', ⟨by have := HJ1.out; have := HK2.out; omega⟩, ⟨z118_⟩, ⟨z47_⟩⟩
       ·rw [if_neg c17] at H
        have c17b0 : ((rd l0_2 (ji14)) == 0) = false := beq_eq_false_iff_ne.mpr c17
        have c17b1 : ((rd l0_2 (ji14)) != 0) = true := bne_iff_ne.mpr c17
        obtain rfl := Option.some.inj H
        obtain ⟨hcz19_0, hcz19_1, hcz19_2, hfz19_0, hfz19_1, hfz19_2⟩ := bx3_ BK660.out
        have p664 : 0 ≤ ((ji14) : Int) := odt_
        have q664 : (ji14) < (l0_2.length : Int) := odt_
        obtain ⟨ad664, e664, hx664_0⟩ := Kd.at_int HR0_2.out (ji14) p664 q664
        cases e664
        replace hx664_0 := (HB.out.cell (World.block_lt_of_cell? w _ hx664_0)).trans hx664_0
        replace p664 := eq_true p664
        replace q664 := eq_true q664
        go_wp2
        go_ret
        exact ⟨by first | rfl | (simp [errW_none, errW_some] <;> rfl) | (simp only [← hji14]; first | rfl | (simp [errW_none, errW_some] <;> rfl)) | (simp [*, errW_none, errW_some] <;> rfl), z47_⟩
      ·rw [if_neg c13] at H
       have c13b0 := decide_eq_false c13
       clear c13
       obtain rfl := Option.some.inj H
       go_wp2
       go_ret
       exact ⟨z6_, z47_⟩

/-! ### impl_RelCost: function 79 -/
def impl_RelCost.f (k : Nat) (l0_0 : List Int) (l0_1 : List Int) (l0_2 : List Int) (a1 : Int) (a2 : Int) : Option (Int) := (impl_CostOk.f k l0_0 l0_1 l0_2).bind fun t666 => (if t666 = true then ((impl_LabelOk.f a1).bind fun t667 => (if t667 = true then ((impl_LabelOk.f a2).bind fun t668 => (if t668 = true then (if 0 ≤ (wrap64 ((wrap64 (a1 * 6)) + a2)) then (if (wrap64 ((wrap64 (a1 * 6)) + a2)) < (l0_2.length : Int) then (some (rd l0_2 (wrap64 ((wrap64 (a1 * 6)) + a2)))) else (none)) else (none)) else (some 0))) else (some 0))) else (some 0))
set_option maxHeartbeats 8000000 in
set_option maxRecDepth 100000 in
theorem impl_RelCost.calls (k : Nat) (A0_0 : Option Addr) (c0_0 : Nat) (l0_0 : List Int) (A0_1 : Option Addr) (c0_1 : Nat) (l0_1 : List Int) (A0_2 : Option Addr) (c0_2 : Nat) (l0_2 : List Int) (a1 : Int) (a2 : Int) (r : Int) (w : World) (hr0_0 : Kd.C (Kd.int .i64) w A0_0 l0_0.length l0_0) (hc0_0 : l0_0.length ≤ c0_0) (hr0_1 : Kd.C (Kd.int .i64) w A0_1 l0_1.length l0_1) (hc0_1 : l0_1.length ≤ c0_1) (hr0_2 : Kd.C (Kd.int .i64) w A0_2 l0_2.length l0_2) (hc0_2 : l0_2.length ≤ c0_2) (h : impl_RelCost.f k l0_0 l0_1 l0_2 a1 a2 = some r) :
  Calls Try.prog 79 #[.agg #[.slice A0_0 l0_0.length c0_0, .slice A0_1 l0_1.length c0_1, .slice A0_2 l0_2.length c0_2], .int .i64 a1, .int .i64 a2] w fun e w' => e = .returned (.int .i64 r) ∧ Below w.heap.size w w' := by
 have hu63 := Try.underlying63
 have HR0_0 := Aside0.mk hr0_0
 have HC0_0 := Aside0.mk hc0_0
 clear hr0_0 hc0_0
 have HR0_1 := Aside0.mk hr0_1
 have HC0_1 := Aside0.mk hc0_1
 clear hr0_1 hc0_1
 have HR0_2 := Aside0.mk hr0_2
 have HC0_2 := Aside0.mk hc0_2
 clear hr0_2 hc0_2
 have HB := Aside0.mk (Below.refl w.heap.size w)
 have H : ((impl_CostOk.f k l0_0 l0_1 l0_2).bind fun t666 => (if t666 = true then ((impl_LabelOk.f a1).bind fun t667 => (if t667 = true then ((impl_LabelOk.f a2).bind fun t668 => (if t668 = true then (if 0 ≤ (wrap64 ((wrap64 (a1 * 6)) + a2)) then (if (wrap64 ((wrap64 (a1 * 6)) + a2)) < (l0_2.length : Int) then (some (rd l0_2 (wrap64 ((wrap64 (a1 * 6)) + a2)))) else (none)) else (none)) else (some 0))) else (some 0))) else (some 0))) = some r := h
 clear h
 obtain ⟨t666, A4, H⟩ := bnd_ H
 by_cases c5 : t666 = true
 ·subst c5
  replace H := ift_ H
  obtain ⟨t667, A6, H⟩ := bnd_ H
  by_cases c7 : t667 = true
  ·subst c7
   replace H := ift_ H
   obtain ⟨t668, A8, H⟩ := bnd_ H
   by_cases c9 : t668 = true
   ·subst c9
    replace H := ift_ H
    obtain ⟨ji10, hji10⟩ : ∃ j_ : Int, (wrap64 ((wrap64 (a1 * 6)) + a2)) = j_ := ⟨_, rfl⟩
    first | rw [hji10] at H | simp only [hji10] at H
    (try rw [hji10] at A4)
    (try rw [hji10] at A6)
    (try rw [hji10] at A8)
    have hji10w : (IntKind.i64.wrap ((wrap64 (a1 * 6)) + a2)) = ji10 := (i64_w _).trans hji10
    obtain ⟨c11b0, H⟩ := ifd_ H
    obtain ⟨c12b0, H⟩ := ifd_ H
    obtain rfl := Option.some.inj H
    go_enter Try.func79, Try.ntmps79
    go_wp2_with (first | ((with_reducible refine gate_dst (N := 3) rfl ?_); refine box_event ?hg (N := 3) ?hd (cs := #[.slice A0_0 l0_0.length c0_0, .slice A0_1 l0_1.length c0_1, .slice A0_2 l0_2.length c0_2]) (t := 63) ?hr ?_; (case hd => rfl); (case hg => rfl); (case hr => exact z20_); intro gb665 hg w13 hbox hb; have BK665 := Aside0.mk (hbox); have GW665 := Aside0.mk ((by rw [hg]; exact (below_size z0_) : w.heap.size ≤ gb665)); have GE665 := Aside0.mk ((by rw [hg]; exact (below_size z0_) : w.heap.size ≤ gb665)); replace HB := Aside0.mk (below_step z0_ hb); clear hb hbox hg; obtain ⟨hcz14_0, hcz14_1, hcz14_2, hfz14_0, hfz14_1, hfz14_2⟩ := bx3_ BK665.out) | ((with_reducible refine gate_callee (f := 77) rfl ?_); refine goesL_ (some 8) rfl rfl Try.func77 (by kernel_rfl) rfl #[.agg #[.slice A0_0 l0_0.length c0_0, .slice A0_1 l0_1.length c0_1, .slice A0_2 l0_2.length c0_2]] rfl z1_ ?_; (with_reducible refine (impl_CostOk.calls k _ _ l0_0 _ _ l0_1 _ _ l0_2 true _ ?side1 ?side2 ?side3 ?side4 ?side5 ?side6 A4.out).mono ?_); (case side1 => exact z39_); (case side2 => exact HC0_0.out); (case side3 => exact z33_); (case side4 => exact HC0_1.out); (case side5 => exact z49_); (case side6 => exact HC0_2.out); rintro e w15 ⟨rfl, hb⟩; refine ⟨_, rfl, ?_⟩; replace BK665 := Aside0.mk (blk_below (g := gb665) (o := .cells #[.slice A0_0 l0_0.length c0_0, .slice A0_1 l0_1.length c0_1, .slice A0_2 l0_2.length c0_2] 63 (0, 0)) z134_ hb); replace HB := Aside0.mk (below_step z64_ hb); (try clear hb)) | (go_at_call 94; (with_reducible refine (impl_LabelOk.calls a1 true _ A6.out).mono ?_); rintro e w' ⟨rfl, ⟨nd, rfl⟩⟩) | (go_at_call 94; (with_reducible refine (impl_LabelOk.calls a2 true _ A8.out).mono ?_); rintro e w' ⟨rfl, ⟨nd, rfl⟩⟩; obtain ⟨hcz16_0, hcz16_1, hcz16_2, hfz16_0, hfz16_1, hfz16_2⟩ := bx3_ BK665.out; have p669 : 0 ≤ ((ji10) : Int) := odt_; have q669 : (ji10) < (l0_2.length : Int) := odt_; obtain ⟨ad669, e669, hx669_0⟩ := Kd.at_int HR0_2.out (ji10) p669 q669; cases e669; replace hx669_0 := (HB.out.cell (World.block_lt_of_cell? w _ hx669_0)).trans hx669_0; replace p669 := eq_true p669; replace q669 := eq_true q669))
    go_ret
    exact ⟨by first | rfl | (simp [errW_none, errW_some] <;> rfl) | (simp only [← hji10]; first | rfl | (simp [errW_none, errW_some] <;> rfl)) | (simp [*, errW_none, errW_some] <;> rfl), z64_⟩
   ·replace c9 := Bool.eq_false_iff.mpr c9
    subst c9
    replace H := iff_ H
    obtain rfl := Option.some.inj H
    go_enter Try.func79, Try.ntmps79
    go_wp2_with (first | ((with_reducible refine gate_dst (N := 3) rfl ?_); refine box_event ?hg (N := 3) ?hd (cs := #[.slice A0_0 l0_0.length c0_0, .slice A0_1 l0_1.length c0_1, .slice A0_2 l0_2.length c0_2]) (t := 63) ?hr ?_; (case hd => rfl); (case hg => rfl); (case hr => exact z20_); intro gb665 hg w17 hbox hb; have BK665 := Aside0.mk (hbox); have GW665 := Aside0.mk ((by rw [hg]; exact (below_size z0_) : w.heap.size ≤ gb665)); have GE665 := Aside0.mk ((by rw [hg]; exact (below_size z0_) : w.heap.size ≤ gb665)); replace HB := Aside0.mk (below_step z0_ hb); clear hb hbox hg; obtain ⟨hcz18_0, hcz18_1, hcz18_2, hfz18_0, hfz18_1, hfz18_2⟩ := bx3_ BK665.out) | ((with_reducible refine gate_callee (f := 77) rfl ?_); refine goesL_ (some 8) rfl rfl Try.func77 (by kernel_rfl) rfl #[.agg #[.slice A0_0 l0_0.length c0_0, .slice A0_1 l0_1.length c0_1, .slice A0_2 l0_2.length c0_2]] rfl z1_ ?_; (with_reducible refine (impl_CostOk.calls k _ _ l0_0 _ _ l0_1 _ _ l0_2 true _ ?side1 ?side2 ?side3 ?side4 ?side5 ?side6 A4.out).mono ?_); (case side1 => exact z39_); (case side2 => exact HC0_0.out); (case side3 => exact z33_); (case side4 => exact HC0_1.out); (case side5 => exact z49_); (case side6 => exact HC0_2.out); rintro e w19 ⟨rfl, hb⟩; refine ⟨_, rfl, ?_⟩; replace BK665 := Aside0.mk (blk_below (g := gb665) (o := .cells #[.slice A0_0 l0_0.length c0_0, .slice A0_1 l0_1.length c0_1, .slice A0_2 l0_2.length c0_2] 63 (0, 0)) z134_ hb); replace HB := Aside0.mk (below_step z64_ hb); (try clear hb)) | (go_at_call 94; (with_reducible refine (impl_LabelOk.calls a1 true _ A6.out).mono ?_); rintro e w' ⟨rfl, ⟨nd, rfl⟩⟩) | (go_at_call 94; (with_reducible refine (impl_LabelOk.calls a2 false _ A8.out).mono ?_); rintro e w' ⟨rfl, ⟨nd, rfl⟩⟩))
    go_ret
    exact ⟨z6_, z64_⟩
  ·replace c7 := Bool.eq_false_iff.mpr c7
   subst c7
   replace H := iff_ H
   obtain rfl := Option.some.inj H
   go_enter Try.func79, Try.ntmps79
   go_wp2_with (first | ((with_reducible refine gate_dst (N := 3) rfl ?_); refine box_event ?hg (N := 3) ?hd (cs := #[.slice A0_0 l0_0.length c0_0, .slice A0_1 l0_1.length c0_1, .slice A0_2 l0_2.length c0_2]) (t := 63) ?hr ?_; (case hd => rfl); (case hg => rfl); (case hr => exact z20_); intro gb665 hg w20 hbox hb; have BK665 := Aside0.mk (hbox); have GW665 := Aside0.mk ((by rw [hg]; exact (below_size z0_) : w.heap.size ≤ gb665)); have GE665 := Aside0.mk ((by rw [hg]; exact (below_size z0_) : w.heap.size ≤ gb665)); replace HB := Aside0.mk (below_step z0_ hb); clear hb hbox hg; obtain ⟨hcz21_0, hcz21_1, hcz21_2, hfz21_0, hfz21_1, hfz21_2⟩ := bx3_ BK665.out) | ((with_reducible refine gate_callee (f := 77) rfl ?_); refine goesL_ (some 8) rfl rfl Try.func77 (by kernel_rfl) rfl #[.agg #[.slice A0_0 l0_0.length c0_0, .slice A0_1 l0_1.length c0_1, .slice A0_2 l0_2.length c0_2]] rfl z1_ ?_; (with_reducible refine (impl_CostOk.calls k _ _ l0_0 _ _ l0_1 _ _ l0_2 true _ ?side1 ?side2 ?side3 ?side4 ?side5 ?side6 A4.out).mono ?_); (case side1 => exact z39_); (case side2 => exact HC0_0.out); (case side3 => exact z33_); (case side4 => exact HC0_1.out); (case side5 => exact z49_); (case side6 => exact HC0_2.out); rintro e w22 ⟨rfl, hb⟩; refine ⟨_, rfl, ?_⟩; replace BK665 := Aside0.mk (blk_below (g := gb665) (o := .cells #[.slice A0_0 l0_0.length c0_0, .slice A0_1 l0_1.length c0_1, .slice A0_2 l0_2.length c0_2] 63 (0, 0)) z134_ hb); replace HB := Aside0.mk (below_step z64_ hb); (try clear hb)) | (go_at_call 94; (with_reducible refine (impl_LabelOk.calls a1 false _ A6.out).mono ?_); rintro e w' ⟨rfl, ⟨nd, rfl⟩⟩))
   go_ret
   exact ⟨z6_, z64_⟩
 ·replace c5 := Bool.eq_false_iff.mpr c5
  subst c5
  replace H := iff_ H
  obtain rfl := Option.some.inj H
  go_enter Try.func79, Try.ntmps79
  go_wp2_with (first | ((with_reducible refine gate_dst (N := 3) rfl ?_); refine box_event ?hg (N := 3) ?hd (cs := #[.slice A0_0 l0_0.length c0_0, .slice A0_1 l0_1.length c0_1, .slice A0_2 l0_2.length c0_2]) (t := 63) ?hr ?_; (case hd => rfl); (case hg => rfl); (case hr => exact z20_); intro gb665 hg w23 hbox hb; have BK665 := Aside0.mk (hbox); have GW665 := Aside0.mk ((by rw [hg]; exact (below_size z0_) : w.heap.size ≤ gb665)); have GE665 := Aside0.mk ((by rw [hg]; exact (below_size z0_) : w.heap.size ≤ gb665)); replace HB := Aside0.mk (below_step z0_ hb); clear hb hbox hg; obtain ⟨hcz24_0, hcz24_1, hcz24_2, hfz24_0, hfz24_1, hfz24_2⟩ := bx3_ BK665.out) | ((with_reducible refine gate_callee (f := 77) rfl ?_); refine goesL_ (some 8) rfl rfl Try.func77 (by kernel_rfl) rfl #[.agg #[.slice A0_0 l0_0.length c0_0, .slice A0_1 l0_1.length c0_1, .slice A0_2 l0_2.length c0_2]] rfl z1_ ?_; (with_reducible refine (impl_CostOk.calls k _ _ l0_0 _ _ l0_1 _ _ l0_2 false _ ?side1 ?side2 ?side3 ?side4 ?side5 ?side6 A4.out).mono ?_); (case side1 => exact z39_); (case side2 => exact HC0_0.out); (case side3 => exact z33_); (case side4 => exact HC0_1.out); (case side5 => exact z49_); (case side6 => exact HC0_2.out); rintro e w25 ⟨rfl, hb⟩; refine ⟨_, rfl, ?_⟩; replace BK665 := Aside0.mk (blk_below (g := gb665) (o := .cells #[.slice A0_0 l0_0.length c0_0, .slice A0_1 l0_1.length c0_1, .slice A0_2 l0_2.length c0_2] 63 (0, 0)) z134_ hb); replace HB := Aside0.mk (below_step z64_ hb); (try clear hb)))
  go_ret
  exact ⟨z6_, z64_⟩

/-! ### impl_DelCost: function 80 -/
def impl_DelCost.f (k : Nat) (l0_0 : List Int) (l0_1 : List Int) (l0_2 : List Int) (a1 : Int) : Option (Int) := (impl_CostOk.f k l0_0 l0_1 l0_2).bind fun t671 => (if t671 = true then ((impl_LabelOk.f a1).bind fun t672 => (if t672 = true then (if 0 ≤ a1 then (if a1 < (l0_0.length : Int) then (some (rd l0_0 a1)) else (none)) else (none)) else (some 0))) else (some 0))
set_option maxHeartbeats 8000000 in
set_option maxRecDepth 100000 in
theorem impl_DelCost.calls (k : Nat) (A0_0 : Option Addr) (c0_0 : Nat) (l0_0 : List Int) (A0_1 : Option Addr) (c0_1 : Nat) (l0_1 : List Int) (A0_2 : Option Addr) (c0_2 : Nat) (l0_2 : List Int) (a1 : Int) (r : Int) (w : World) (hr0_0 : Kd.C (Kd.int .i64) w A0_0 l0_0.length l0_0) (hc0_0 : l0_0.length ≤ c0_0) (hr0_1 : Kd.C (Kd.int .i64) w A0_1 l0_1.length l0_1) (hc0_1 : l0_1.length ≤ c0_1) (hr0_2 : Kd.C (Kd.int .i64) w A0_2 l0_2.length l0_2) (hc0_2 : l0_2.length ≤ c0_2) (h : impl_DelCost.f k l0_0 l0_1 l0_2 a1 = some r) :
  Calls Try.prog 80 #[.agg #[.slice A0_0 l0_0.length c0_0, .slice A0_1 l0_1.length c0_1, .slice A0_2 l0_2.length c0_2], .int .i64 a1] w fun e w' => e = .returned (.int .i64 r) ∧ Below w.heap.size w w' := by
 have hu63 := Try.underlying63
 have HR0_0 := Aside0.mk hr0_0
 have HC0_0 := Aside0.mk hc0_0
 clear hr0_0 hc0_0
 have HR0_1 := Aside0.mk hr0_1
 have HC0_1 := Aside0.mk hc0_1
 clear hr0_1 hc0_1
 have HR0_2 := Aside0.mk hr0_2
 have HC0_2 := Aside0.mk hc0_2
 clear hr0_2 hc0_2
 have HB := Aside0.mk (Below.refl w.heap.size w)
 have H : ((impl_CostOk.f k l0_0 l0_1 l0_2).bind fun t671 => (if t671 = true then ((impl_LabelOk.f a1).bind fun t672 => (if t672 = true then (if 0 ≤ a1 then (if a1 < (l0_0.length : Int) then (some (rd l0_0 a1)) else (none)) else (none)) else (some 0))) else (some 0))) = some r := h
 clear h
 obtain ⟨t671, A3, H⟩ := bnd_ H
 by_cases c4 : t671 = true
 ·subst c4
  replace H := ift_ H
  obtain ⟨t672, A5, H⟩ := bnd_ H
  by_cases c6 : t672 = true
  ·subst c6
   replace H := ift_ H
   obtain ⟨c7b0, H⟩ := ifd_ H
   obtain ⟨c8b0, H⟩ := ifd_ H
   obtain rfl := Option.some.inj H
   go_enter Try.func80, Try.ntmps80
   go_wp2_with (first | ((with_reducible refine gate_dst (N := 2) rfl ?_); refine box_event ?hg (N := 2) ?hd (cs := #[.slice A0_0 l0_0.length c0_0, .slice A0_1 l0_1.length c0_1, .slice A0_2 l0_2.length c0_2]) (t := 63) ?hr ?_; (case hd => rfl); (case hg => rfl); (case hr => exact z20_); intro gb670 hg w9 hbox hb; have BK670 := Aside0.mk (hbox); have GW670 := Aside0.mk ((by rw [hg]; exact (below_size z0_) : w.heap.size ≤ gb670)); have GE670 := Aside0.mk ((by rw [hg]; exact (below_size z0_) : w.heap.size ≤ gb670)); replace HB := Aside0.mk (below_step z0_ hb); clear hb hbox hg; obtain ⟨hcz10_0, hcz10_1, hcz10_2, hfz10_0, hfz10_1, hfz10_2⟩ := bx3_ BK670.out) | ((with_reducible refine gate_callee (f := 77) rfl ?_); refine goesL_ (some 6) rfl rfl Try.func77 (by kernel_rfl) rfl #[.agg #[.slice A0_0 l0_0.length c0_0, .slice A0_1 l0_1.length c0_1, .slice A0_2 l0_2.length c0_2]] rfl z1_ ?_; (with_reducible refine (impl_CostOk.calls k _ _ l0_0 _ _ l0_1 _ _ l0_2 true _ ?side1 ?side2 ?side3 ?side4 ?side5 ?side6 A3.out).mono ?_); (case side1 => exact z39_); (case side2 => exact HC0_0.out); (case side3 => exact z33_); (case side4 => exact HC0_1.out); (case side5 => exact z49_); (case side6 => exact HC0_2.out); rintro e w11 ⟨rfl, hb⟩; refine ⟨_, rfl, ?_⟩; replace BK670 := Aside0.mk (blk_below (g := gb670) (o := .cells #[.slice A0_0 l0_0.length c0_0, .slice A0_1 l0_1.length c0_1, .slice A0_2 l0_2.length c0_2] 63 (0, 0)) z159_ hb); replace HB := Aside0.mk (below_step z74_ hb); (try clear hb)) | (go_at_call 94; (with_reducible refine (impl_LabelOk.calls a1 true _ A5.out).mono ?_); rintro e w' ⟨rfl, ⟨nd, rfl⟩⟩; obtain ⟨hcz12_0, hcz12_1, hcz12_2, hfz12_0, hfz12_1, hfz12_2⟩ := bx3_ BK670.out; have p673 : 0 ≤ (a1 : Int) := odt_; have q673 : a1 < (l0_0.length : Int) := odt_; obtain ⟨ad673, e673, hx673_0⟩ := Kd.at_int HR0_0.out a1 p673 q673; cases e673; replace hx673_0 := (HB.out.cell (World.block_lt_of_cell? w _ hx673_0)).trans hx673_0; replace p673 := eq_true p673; replace q673 := eq_true q673))
   go_ret
   exact ⟨z6_, z74_⟩
  ·replace c6 := Bool.eq_false_iff.mpr c6
   subst c6
   replace H := iff_ H
   obtain rfl := Option.some.inj H
   go_enter Try.func80, Try.ntmps80
   go_wp2_with (first | ((with_reducible refine gate_dst (N := 2) rfl ?_); refine box_event ?hg (N := 2) ?hd (cs := #[.slice A0_0 l0_0.length c0_0, .slice A0_1 l0_1.length c0_1, .slice A0_2 l0_2.length c0_2]) (t := 63) ?hr ?_; (case hd => rfl); (case hg => rfl); (case hr => exact z20_); intro gb670 hg w13 hbox hb; have BK670 := Aside0.mk (hbox); have GW670 := Aside0.mk ((by rw [hg]; exact (below_size z0_) : w.heap.size ≤ gb670)); have GE670 := Aside0.mk ((by rw [hg]; exact (below_size z0_) : w.heap.size ≤ gb670)); replace HB := Aside0.mk (below_step z0_ hb); clear hb hbox hg; obtain ⟨hcz14_0, hcz14_1, hcz14_2, hfz14_0, hfz14_1, hfz14_2⟩ := bx3_ BK670.out) | ((with_reducible refine gate_callee (f := 77) rfl ?_); refine goesL_ (some 6) rfl rfl Try.func77 (by kernel_rfl) rfl #[.agg #[.slice A0_0 l0_0.length c0_0, .slice A0_1 l0_1.length c0_1, .slice A0_2 l0_2.length c0_2]] rfl z1_ ?_; (with_reducible refine (impl_CostOk.calls k _ _ l0_0 _ _ l0_1 _ _ l0_2 true _ ?side1 ?side2 ?side3 ?side4 ?side5 ?side6 A3.out).mono ?_); (case side1 => exact z39_); (case side2 => exact HC0_0.out); (case side3 => exact z33_); (case side4 => exact HC0_1.out); (case side5 => exact z49_); (case side6 => exact HC0_2.out); rintro e w15 ⟨rfl, hb⟩; refine ⟨_, rfl, ?_⟩; replace BK670 := Aside0.mk (blk_below (g := gb670) (o := .cells #[.slice A0_0 l0_0.length c0_0, .slice A0_1 l0_1.length c0_1, .slice A0_2 l0_2.length c0_2] 63 (0, 0)) z159_ hb); replace HB := Aside0.mk (below_step z74_ hb); (try clear hb)) | (go_at_call 94; (with_reducible refine (impl_LabelOk.calls a1 false _ A5.out).mono ?_); rintro e w' ⟨rfl, ⟨nd, rfl⟩⟩))
   go_ret
   exact ⟨z6_, z74_⟩
 ·replace c4 := Bool.eq_false_iff.mpr c4
  subst c4
  replace H := iff_ H
  obtain rfl := Option.some.inj H
  go_enter Try.func80, Try.ntmps80
  go_wp2_with (first | ((with_reducible refine gate_dst (N := 2) rfl ?_); refine box_event ?hg (N := 2) ?hd (cs := #[.slice A0_0 l0_0.length c0_0, .slice A0_1 l0_1.length c0_1, .slice A0_2 l0_2.length c0_2]) (t := 63) ?hr ?_; (case hd => rfl); (case hg => rfl); (case hr => exact z20_); intro gb670 hg w16 hbox hb; have BK670 := Aside0.mk (hbox); have GW670 := Aside0.mk ((by rw [hg]; exact (below_size z0_) : w.heap.size ≤ gb670)); have GE670 := Aside0.mk ((by rw [hg]; exact (below_size z0_) : w.heap.size ≤ gb670)); replace HB := Aside0.mk (below_step z0_ hb); clear hb hbox hg; obtain ⟨hcz17_0, hcz17_1, hcz17_2, hfz17_0, hfz17_1, hfz17_2⟩ := bx3_ BK670.out) | ((with_reducible refine gate_callee (f := 77) rfl ?_); refine goesL_ (some 6) rfl rfl Try.func77 (by kernel_rfl) rfl #[.agg #[.slice A0_0 l0_0.length c0_0, .slice A0_1 l0_1.length c0_1, .slice A0_2 l0_2.length c0_2]] rfl z1_ ?_; (with_reducible refine (impl_CostOk.calls k _ _ l0_0 _ _ l0_1 _ _ l0_2 false _ ?side1 ?side2 ?side3 ?side4 ?side5 ?side6 A3.out).mono ?_); (case side1 => exact z39_); (case side2 => exact HC0_0.out); (case side3 => exact z33_); (case side4 => exact HC0_1.out); (case side5 => exact z49_); (case side6 => exact HC0_2.out); rintro e w18 ⟨rfl, hb⟩; refine ⟨_, rfl, ?_⟩; replace BK670 := Aside0.mk (blk_below (g := gb670) (o := .cells #[.slice A0_0 l0_0.length c0_0, .slice A0_1 l0_1.length c0_1, .slice A0_2 l0_2.length c0_2] 63 (0, 0)) z159_ hb); replace HB := Aside0.mk (below_step z74_ hb); (try clear hb)))
  go_ret
  exact ⟨z6_, z74_⟩

/-! ### impl_InsCost: function 81 -/
def impl_InsCost.f (k : Nat) (l0_0 : List Int) (l0_1 : List Int) (l0_2 : List Int) (a1 : Int) : Option (Int) := (impl_CostOk.f k l0_0 l0_1 l0_2).bind fun t675 => (if t675 = true then ((impl_LabelOk.f a1).bind fun t676 => (if t676 = true then (if 0 ≤ a1 then (if a1 < (l0_1.length : Int) then (some (rd l0_1 a1)) else (none)) else (none)) else (some 0))) else (some 0))
set_option maxHeartbeats 8000000 in
set_option maxRecDepth 100000 in
theorem impl_InsCost.calls (k : Nat) (A0_0 : Option Addr) (c0_0 : Nat) (l0_0 : List Int) (A0_1 : Option Addr) (c0_1 : Nat) (l0_1 : List Int) (A0_2 : Option Addr) (c0_2 : Nat) (l0_2 : List Int) (a1 : Int) (r : Int) (w : World) (hr0_0 : Kd.C (Kd.int .i64) w A0_0 l0_0.length l0_0) (hc0_0 : l0_0.length ≤ c0_0) (hr0_1 : Kd.C (Kd.int .i64) w A0_1 l0_1.length l0_1) (hc0_1 : l0_1.length ≤ c0_1) (hr0_2 : Kd.C (Kd.int .i64) w A0_2 l0_2.length l0_2) (hc0_2 : l0_2.length ≤ c0_2) (h : impl_InsCost.f k l0_0 l0_1 l0_2 a1 = some r) :
  Calls Try.prog 81 #[.agg #[.slice A0_0 l0_0.length c0_0, .slice A0_1 l0_1.length c0_1, .slice A0_2 l0_2.length c0_2], .int .i64 a1] w fun e w' => e = .returned (.int .i64 r) ∧ Below w.heap.size w w' := by
 have hu63 := Try.underlying63
 have HR0_0 := Aside0.mk hr0_0
 have HC0_0 := Aside0.mk hc0_0
 clear hr0_0 hc0_0
 have HR0_1 := Aside0.mk hr0_1
 have HC0_1 := Aside0.mk hc0_1
 clear hr0_1 hc0_1
 have HR0_2 := Aside0.mk hr0_2
 have HC0_2 := Aside0.mk hc0_2
 clear hr0_2 hc0_2
 have HB := Aside0.mk (Below.refl w.heap.size w)
 have H : ((impl_CostOk.f k l0_0 l0_1 l0_2).bind fun t675 => (if t675 = true then ((impl_LabelOk.f a1).bind fun t676 => (if t676 = true then (if 0 ≤ a1 then (if a1 < (l0_1.length : Int) then (some (rd l0_1 a1)) else (none)) else (none)) else (some 0))) else (some 0))) = some r := h
 clear h
 obtain ⟨t675, A3, H⟩ := bnd_ H
 by_cases c4 : t675 = true
 ·subst c4
  replace H := ift_ H
  obtain ⟨t676, A5, H⟩ := bnd_ H
  by_cases c6 : t676 = true
  ·subst c6
   replace H := ift_ H
   obtain ⟨c7b0, H⟩ := ifd_ H
   obtain ⟨c8b0, H⟩ := ifd_ H
   obtain rfl := Option.some.inj H
   go_enter Try.func81, Try.ntmps81
   go_wp2_with (first | ((with_reducible refine gate_dst (N := 2) rfl ?_); refine box_event ?hg (N := 2) ?hd (cs := #[.slice A0_0 l0_0.length c0_0, .slice A0_1 l0_1.length c0_1, .slice A0_2 l0_2.length c0_2]) (t := 63) ?hr ?_; (case hd => rfl); (case hg => rfl); (case hr => exact z20_); intro gb674 hg w9 hbox hb; have BK674 := Aside0.mk (hbox); have GW674 := Aside0.mk ((by rw [hg]; exact (below_size z0_) : w.heap.size ≤ gb674)); have GE674 := Aside0.mk ((by rw [hg]; exact (below_size z0_) : w.heap.size ≤ gb674)); replace HB := Aside0.mk (below_step z0_ hb); clear hb hbox hg; obtain ⟨hcz10_0, hcz10_1, hcz10_2, hfz10_0, hfz10_1, hfz10_2⟩ := bx3_ BK674.out) | ((with_reducible refine gate_callee (f := 77) rfl ?_); refine goesL_ (some 6) rfl rfl Try.func77 (by kernel_rfl) rfl #[.agg #[.slice A0_0 l0_0.length c0_0, .slice A0_1 l0_1.length c0_1, .slice A0_2 l0_2.length c0_2]] rfl z1_ ?_; (with_reducible refine (impl_CostOk.calls k _ _ l0_0 _ _ l0_1 _ _ l0_2 true _ ?side1 ?side2 ?side3 ?side4 ?side5 ?side6 A3.out).mono ?_); (case side1 => exact z39_); (case side2 => exact HC0_0.out); (case side3 => exact z33_); (case side4 => exact HC0_1.out); (case side5 => exact z49_); (case side6 => exact HC0_2.out); rintro e w11 ⟨rfl, hb⟩; refine ⟨_, rfl, ?_⟩; replace BK674 := Aside0.mk (blk_below (g := gb674) (o := .cells #[.slice A0_0 l0_0.length c0_0, .slice A0_1 l0_1.length c0_1, .slice A0_2 l0_2.length c0_2] 63 (0, 0)) z160_ hb); replace HB := Aside0.mk (below_step z75_ hb); (try clear hb)) | (go_at_call 94; (with_reducible refine (impl_LabelOk.calls a1 true _ A5.out).mono ?_); rintro e w' ⟨rfl, ⟨nd, rfl⟩⟩; obtain ⟨hcz12_0, hcz12_1, hcz12_2, hfz12_0, hfz12_1, hfz12_2⟩ := bx3_ BK674.out; have p677 : 0 ≤ (a1 : Int) := odt_; have q677 : a1 < (l0_1.length : Int) := odt_; obtain ⟨ad677, e677, hx677_0⟩ := Kd.at_int HR0_1.out a1 p677 q677; cases e677; replace hx677_0 := (HB.out.cell (World.block_lt_of_cell? w _ hx677_0)).trans hx677_0; replace p677 := eq_true p677; replace q677 := eq_true q677))
   go_ret
   exact ⟨z6_, z75_⟩
  ·replace c6 := Bool.eq_false_iff.mpr c6
   subst c6
   replace H := iff_ H
   obtain rfl := Option.some.inj H
   go_enter Try.func81, Try.ntmps81
   go_wp2_with (first | ((with_reducible refine gate_dst (N := 2) rfl ?_); refine box_event ?hg (N := 2) ?hd (cs := #[.slice A0_0 l0_0.length c0_0, .slice A0_1 l0_1.length c0_1, .slice A0_2 l0_2.length c0_2]) (t := 63) ?hr ?_; (case hd => rfl); (case hg => rfl); (case hr => exact z20_); intro gb674 hg w13 hbox hb; have BK674 := Aside0.mk (hbox); have GW674 := Aside0.mk ((by rw [hg]; exact (below_size z0_) : w.heap.size ≤ gb674)); have GE674 := Aside0.mk ((by rw [hg]; exact (below_size z0_) : w.heap.size ≤ gb674)); replace HB := Aside0.mk (below_step z0_ hb); clear hb hbox hg; obtain ⟨hcz14_0, hcz14_1, hcz14_2, hfz14_0, hfz14_1, hfz14_2⟩ := bx3_ BK674.out) | ((with_reducible refine gate_callee (f := 77) rfl ?_); refine goesL_ (some 6) rfl rfl Try.func77 (by kernel_rfl) rfl #[.agg #[.slice A0_0 l0_0.length c0_0, .slice A0_1 l0_1.length c0_1, .slice A0_2 l0_2.length c0_2]] rfl z1_ ?_; (with_reducible refine (impl_CostOk.calls k _ _ l0_0 _ _ l0_1 _ _ l0_2 true _ ?side1 ?side2 ?side3 ?side4 ?side5 ?side6 A3.out).mono ?_); (case side1 => exact z39_); (case side2 => exact HC0_0.out); (case side3 => exact z33_); (case side4 => exact HC0_1.out); (case side5 => exact z49_); (case side6 => exact HC0_2.out); rintro e w15 ⟨rfl, hb⟩; refine ⟨_, rfl, ?_⟩; replace BK674 := Aside0.mk (blk_below (g := gb674) (o := .cells #[.slice A0_0 l0_0.length c0_0, .slice A0_1 l0_1.length c0_1, .slice A0_2 l0_2.length c0_2] 63 (0, 0)) z160_ hb); replace HB := Aside0.mk (below_step z75_ hb); (try clear hb)) | (go_at_call 94; (with_reducible refine (impl_LabelOk.calls a1 false _ A5.out).mono ?_); rintro e w' ⟨rfl, ⟨nd, rfl⟩⟩))
   go_ret
   exact ⟨z6_, z75_⟩
 ·replace c4 := Bool.eq_false_iff.mpr c4
  subst c4
  replace H := iff_ H
  obtain rfl := Option.some.inj H
  go_enter Try.func81, Try.ntmps81
  go_wp2_with (first | ((with_reducible refine gate_dst (N := 2) rfl ?_); refine box_event ?hg (N := 2) ?hd (cs := #[.slice A0_0 l0_0.length c0_0, .slice A0_1 l0_1.length c0_1, .slice A0_2 l0_2.length c0_2]) (t := 63) ?hr ?_; (case hd => rfl); (case hg => rfl); (case hr => exact z20_); intro gb674 hg w16 hbox hb; have BK674 := Aside0.mk (hbox); have GW674 := Aside0.mk ((by rw [hg]; exact (below_size z0_) : w.heap.size ≤ gb674)); have GE674 := Aside0.mk ((by rw [hg]; exact (below_size z0_) : w.heap.size ≤ gb674)); replace HB := Aside0.mk (below_step z0_ hb); clear hb hbox hg; obtain ⟨hcz17_0, hcz17_1, hcz17_2, hfz17_0, hfz17_1, hfz17_2⟩ := bx3_ BK674.out) | ((with_reducible refine gate_callee (f := 77) rfl ?_); refine goesL_ (some 6) rfl rfl Try.func77 (by kernel_rfl) rfl #[.agg #[.slice A0_0 l0_0.length c0_0, .slice A0_1 l0_1.length c0_1, .slice A0_2 l0_2.length c0_2]] rfl z1_ ?_; (with_reducible refine (impl_CostOk.calls k _ _ l0_0 _ _ l0_1 _ _ l0_2 false _ ?side1 ?side2 ?side3 ?side4 ?side5 ?side6 A3.out).mono ?_); (case side1 => exact z39_); (case side2 => exact HC0_0.out); (case side3 => exact z33_); (case side4 => exact HC0_1.out); (case side5 => exact z49_); (case side6 => exact HC0_2.out); rintro e w18 ⟨rfl, hb⟩; refine ⟨_, rfl, ?_⟩; replace BK674 := Aside0.mk (blk_below (g := gb674) (o := .cells #[.slice A0_0 l0_0.length c0_0, .slice A0_1 l0_1.length c0_1, .slice A0_2 l0_2.length c0_2] 63 (0, 0)) z160_ hb); replace HB := Aside0.mk (below_step z75_ hb); (try clear hb)))
  go_ret
  exact ⟨z6_, z75_⟩

end Go.Proofs.Ytdapeboajjidmaa.PFnJoined
