/- Laid by a program of this session out of the kit's print for the law FnExactNearest: what it says of the machine is proved here, function by function; each contract under the conditions that it names. -/
import Derived.Test.YtbmkobanpakohaaMFnExactNearestx0
import Derived.Test.YtbmkobanpakohaaMFnExactNearestx1
import Derived.Test.YtbmkobanpakohaaMFnExactNearestx2
namespace Go.Proofs.Ytbmkobanpakohaa.PFnExactNearest
open Go.RowKit Go.Proofs.YtbmkobanpakohaaW.PrintWords Go.Proofs.YtbmkobanpakohaaW.PrintLast Go.Proofs.YtbmkobanpakohaaW.PrintMore
attribute [local go_sem] max2_int min2_int max_two min_two max_three min_three max_four min_four   -- for this text's walks alone
set_option linter.unusedVariables false
set_option linter.unusedSimpArgs false

/-! ### spec_l7In: function 89 -/
def spec_l7In.l0 : Nat → List Int → Int → Int → Option (Bool)
 | 0, _, _, _ => none
 | k + 1, x0, x1, x5 => if x5 < (x0.length : Int) then (if 0 ≤ x5 then ((spec_l1In.f (rd x0 x5) 0 1000).bind fun t132 => (if t132 = true then (spec_l7In.l0 k x0 x1 (wrap64 (x5 + 1))) else (some false))) else (none)) else (some ((x0.length : Int) == x1))
def spec_l7In.f (k : Nat) (l0 : List Int) (a1 : Int) : Option (Bool) := spec_l7In.l0 k l0 a1 0
set_option maxHeartbeats 8000000 in
set_option maxRecDepth 100000 in
theorem spec_l7In.calls (k : Nat) (A0 : Option Addr) (c0 : Nat) (l0 : List Int) (a1 : Int) (r : Bool) (w : World) (hr0 : Kd.C (Kd.int .i64) w A0 l0.length l0) (hc0 : l0.length ≤ c0) (h : spec_l7In.f k l0 a1 = some r) :
  Calls Try.prog 89 #[.slice A0 l0.length c0, .int .i64 a1] w fun e w' => e = .returned (.bool r) ∧ Drawn0 w w' := by
 have HR0 := Aside0.mk hr0
 have HC0 := Aside0.mk hc0
 clear hr0 hc0
 have H : (spec_l7In.l0 k l0 a1 0) = some r := h
 clear h
 have H' := Aside0.mk H
 clear H
 go_enter Try.func89, Try.ntmps89
 go_wp2
 go_loopg [5] k (fun kq v5 w' => ∃ (x5_1 : Int), v5 = .int .i64 x5_1 ∧ Aside0 (spec_l7In.l0 kq l0 a1 x5_1 = some r) ∧ Aside0 (kq ≤ k) ∧ Drawn0 w w')
 case atStart => exact ⟨(0), z4_, H', ⟨Nat.le_refl _⟩, z28_⟩
 case round =>
  clear H'
  try clear p2
  obtain ⟨x5_1, rfl, HA, HK1, ⟨m1, rfl⟩⟩ := hrel
  cases gk with
  | zero => exact absurd HA.out (by simp [spec_l7In.l0])
  | succ k1 =>
   have H := HA.out
   clear HA
   simp only [spec_l7In.l0] at H
   by_cases c3 : x5_1 < (l0.length : Int)
   ·rw [if_pos c3] at H
    have c3b0 := decide_eq_true c3
    clear c3
    obtain ⟨c4b0, H⟩ := ifd_ H
    obtain ⟨t132, A5, H⟩ := bnd_ H
    by_cases c6 : t132 = true
    ·subst c6
     replace H := ift_ H
     have H' := Aside0.mk H
     clear H
     have p131 : 0 ≤ (x5_1 : Int) := odt_
     have q131 : x5_1 < (l0.length : Int) := odt_
     obtain ⟨ad131, e131, hx131_0⟩ := Kd.at_int HR0.out x5_1 p131 q131
     cases e131
     replace p131 := eq_true p131
     replace q131 := eq_true q131
     go_wp2_with (first | ((with_reducible refine gate_callee (f := 55) rfl ?_); refine goesL_ (some 16) rfl rfl Try.func55 (by kernel_rfl) rfl #[.int .i64 (rd l0 x5_1), .int .i64 0, .int .i64 1000] rfl z1_ ?_; (with_reducible refine (spec_l1In.calls (rd l0 x5_1) 0 1000 true _ A5.out).mono ?_); rintro e w' ⟨rfl, ⟨nd, rfl⟩⟩; refine ⟨_, rfl, ?_⟩))
     go_roundg k1
     case measure => have := HK1.out; omega
     case rel => exact ⟨(wrap64 (x5_1 + 1)), z4_, H', ⟨z116_⟩, z28_⟩
    ·replace c6 := Bool.eq_false_iff.mpr c6
     subst c6
     replace H := iff_ H
     obtain rfl := Option.some.inj H
     have p131 : 0 ≤ (x5_1 : Int) := odt_
     have q131 : x5_1 < (l0.length : Int) := odt_
     obtain ⟨ad131, e131, hx131_0⟩ := Kd.at_int HR0.out x5_1 p131 q131
     cases e131
     replace p131 := eq_true p131
     replace q131 := eq_true q131
     go_wp2_with (first | ((with_reducible refine gate_callee (f := 55) rfl ?_); refine goesL_ (some 16) rfl rfl Try.func55 (by kernel_rfl) rfl #[.int .i64 (rd l0 x5_1), .int .i64 0, .int .i64 1000] rfl z1_ ?_; (with_reducible refine (spec_l1In.calls (rd l0 x5_1) 0 1000 false _ A5.out).mono ?_); rintro e w' ⟨rfl, ⟨nd, rfl⟩⟩; refine ⟨_, rfl, ?_⟩))
     go_ret
     exact ⟨z4_, z28_⟩
   ·rw [if_neg c3] at H
    have c3b0 := decide_eq_false c3
    clear c3
    obtain rfl := Option.some.inj H
    go_wp2
    go_ret
    exact ⟨z4_, z28_⟩

/-! ### spec_CostOk: function 79 -/
mutual
def spec_CostOk.j0 : Nat → Bool → List Int → List Int → List Int → Option (Bool)
 | 0, _, _, _, _ => none
 | k + 1, x19, x134000, x134001, x134002 => if x19 = true then (some false) else (spec_CostOk.l0 k 0 x134000 x134001 x134002)
def spec_CostOk.l0 : Nat → Int → List Int → List Int → List Int → Option (Bool)
 | 0, _, _, _, _ => none
 | k + 1, x3, x134000, x134001, x134002 => if x3 < 6 then (if 0 ≤ (wrap64 ((wrap64 (x3 * 6)) + x3)) then (if (wrap64 ((wrap64 (x3 * 6)) + x3)) < (x134002.length : Int) then (if (rd x134002 (wrap64 ((wrap64 (x3 * 6)) + x3))) = 0 then (spec_CostOk.l0 k (wrap64 (x3 + 1)) x134000 x134001 x134002) else (some false)) else (none)) else (none)) else (some true)
end
def spec_CostOk.f (k : Nat) (l0_0 : List Int) (l0_1 : List Int) (l0_2 : List Int) : Option (Bool) := (spec_l7In.f k l0_0 6).bind fun t134 => (if t134 = true then ((spec_l7In.f k l0_1 6).bind fun t135 => (if t135 = true then ((spec_l7In.f k l0_2 36).bind fun t136 => (spec_CostOk.j0 k (!t136) l0_0 l0_1 l0_2)) else (spec_CostOk.j0 k true l0_0 l0_1 l0_2))) else (spec_CostOk.j0 k true l0_0 l0_1 l0_2))
set_option maxHeartbeats 8000000 in
set_option maxRecDepth 100000 in
theorem spec_CostOk.calls (k : Nat) (A0_0 : Option Addr) (c0_0 : Nat) (l0_0 : List Int) (A0_1 : Option Addr) (c0_1 : Nat) (l0_1 : List Int) (A0_2 : Option Addr) (c0_2 : Nat) (l0_2 : List Int) (r : Bool) (w : World) (hr0_0 : Kd.C (Kd.int .i64) w A0_0 l0_0.length l0_0) (hc0_0 : l0_0.length ≤ c0_0) (hr0_1 : Kd.C (Kd.int .i64) w A0_1 l0_1.length l0_1) (hc0_1 : l0_1.length ≤ c0_1) (hr0_2 : Kd.C (Kd.int .i64) w A0_2 l0_2.length l0_2) (hc0_2 : l0_2.length ≤ c0_2) (h : spec_CostOk.f k l0_0 l0_1 l0_2 = some r) :
  Calls Try.prog 79 #[.agg #[.slice A0_0 l0_0.length c0_0, .slice A0_1 l0_1.length c0_1, .slice A0_2 l0_2.length c0_2]] w fun e w' => e = .returned (.bool r) ∧ Below w.heap.size w w' := by
 have hu38 := Try.underlying38
 have HR0_0 := Aside0.mk hr0_0
 have HC0_0 := Aside0.mk hc0_0
 clear hr0_0 hc0_0
 have HR0_1 := Aside0.mk hr0_1
 have HC0_1 := Aside0.mk hc0_1
 clear hr0_1 hc0_1
 have HR0_2 := Aside0.mk hr0_2
 have HC0_2 := Aside0.mk hc0_2
 clear hr0_2 hc0_2
 have HB := Aside0.mk (Below.refl w.heap.size w)
 have H : ((spec_l7In.f k l0_0 6).bind fun t134 => (if t134 = true then ((spec_l7In.f k l0_1 6).bind fun t135 => (if t135 = true then ((spec_l7In.f k l0_2 36).bind fun t136 => (spec_CostOk.j0 k (!t136) l0_0 l0_1 l0_2)) else (spec_CostOk.j0 k true l0_0 l0_1 l0_2))) else (spec_CostOk.j0 k true l0_0 l0_1 l0_2))) = some r := h
 clear h
 have HC2 := Aside0.mk H
 clear H
 go_enter Try.func79, Try.ntmps79
 go_upto_region 1 with (first | ((with_reducible refine gate_dst (N := 1) rfl ?_); refine box_event ?hg (N := 1) ?hd (cs := #[.slice A0_0 l0_0.length c0_0, .slice A0_1 l0_1.length c0_1, .slice A0_2 l0_2.length c0_2]) (t := 38) ?hr ?_; (case hd => rfl); (case hg => rfl); (case hr => exact z9_); intro gb133 hg w3 hbox hb; have BK133 := Aside0.mk (hbox); have GW133 := Aside0.mk ((by rw [hg]; exact (below_size z0_) : w.heap.size ≤ gb133)); have GE133 := Aside0.mk ((by rw [hg]; exact (below_size z0_) : w.heap.size ≤ gb133)); replace HB := Aside0.mk (below_step z0_ hb); clear hb hbox hg))
 (try simp only [Act.put, List.setIfInBounds_toArray, List.set_cons_zero, List.set_cons_succ])
 go_cut [19] (fun v19 wc => ∃ (kq : Nat) (x19_1 : Bool), v19 = .bool x19_1 ∧ Aside0 (spec_CostOk.j0 kq x19_1 l0_0 l0_1 l0_2 = some r) ∧ Aside0 (kq ≤ k) ∧ Aside0 (wc.heap[gb133]? = some (.cells #[(.slice A0_0 l0_0.length c0_0), (.slice A0_1 l0_1.length c0_1), (.slice A0_2 l0_2.length c0_2)] 38 (0, 0))) ∧ Aside0 (Below w.heap.size w wc))
 case first =>
  have H := HC2.out
  clear HC2
  obtain ⟨t134, A4, H⟩ := bnd_ H
  by_cases c5 : t134 = true
  ·subst c5
   replace H := ift_ H
   obtain ⟨t135, A6, H⟩ := bnd_ H
   by_cases c7 : t135 = true
   ·subst c7
    replace H := ift_ H
    obtain ⟨t136, A8, H⟩ := bnd_ H
    have H' := Aside0.mk H
    clear H
    obtain ⟨hcz9_0, hcz9_1, hcz9_2, hfz9_0, hfz9_1, hfz9_2⟩ := bx3_ BK133.out
    go_wp2_with (first | ((with_reducible refine gate_callee (f := 89) rfl ?_); refine goesL_ (some 6) rfl rfl Try.func89 (by kernel_rfl) rfl #[.slice A0_0 l0_0.length c0_0, .int .i64 6] rfl z1_ ?_; (with_reducible refine (spec_l7In.calls k _ _ l0_0 6 true _ ?side1 ?side2 A4.out).mono ?_); (case side1 => exact z13_); (case side2 => exact HC0_0.out); rintro e w' ⟨rfl, ⟨nd, rfl⟩⟩; refine ⟨_, rfl, ?_⟩) | (go_at_call 89; (with_reducible refine (spec_l7In.calls k _ _ l0_1 6 true _ ?side1 ?side2 A6.out).mono ?_); (case side1 => exact z113_); (case side2 => exact HC0_1.out); rintro e w' ⟨rfl, ⟨nd, rfl⟩⟩) | (go_at_call 89; (with_reducible refine (spec_l7In.calls k _ _ l0_2 36 t136 _ ?side1 ?side2 A8.out).mono ?_); (case side1 => repeat (first | exact (Kd.C_below HR0_2.out z40_) | (with_reducible refine Kd.C_alloc ?_ _) | (with_reducible refine Kd.C_drewN ?_ _) | (with_reducible refine Kd.C_drew ?_))); (case side2 => exact HC0_2.out); rintro e w' ⟨rfl, ⟨nd, rfl⟩⟩))
    go_meet
    case rel => exact ⟨_, (!t136), z4_, H', ⟨z153_⟩, ⟨z124_⟩, ⟨z40_⟩⟩
   ·replace c7 := Bool.eq_false_iff.mpr c7
    subst c7
    replace H := iff_ H
    have H' := Aside0.mk H
    clear H
    obtain ⟨hcz10_0, hcz10_1, hcz10_2, hfz10_0, hfz10_1, hfz10_2⟩ := bx3_ BK133.out
    go_wp2_with (first | ((with_reducible refine gate_callee (f := 89) rfl ?_); refine goesL_ (some 6) rfl rfl Try.func89 (by kernel_rfl) rfl #[.slice A0_0 l0_0.length c0_0, .int .i64 6] rfl z1_ ?_; (with_reducible refine (spec_l7In.calls k _ _ l0_0 6 true _ ?side1 ?side2 A4.out).mono ?_); (case side1 => exact z13_); (case side2 => exact HC0_0.out); rintro e w' ⟨rfl, ⟨nd, rfl⟩⟩; refine ⟨_, rfl, ?_⟩) | (go_at_call 89; (with_reducible refine (spec_l7In.calls k _ _ l0_1 6 false _ ?side1 ?side2 A6.out).mono ?_); (case side1 => exact z113_); (case side2 => exact HC0_1.out); rintro e w' ⟨rfl, ⟨nd, rfl⟩⟩))
    go_meet
    case rel => exact ⟨_, (true), z4_, H', ⟨z153_⟩, ⟨z124_⟩, ⟨z40_⟩⟩
  ·replace c5 := Bool.eq_false_iff.mpr c5
   subst c5
   replace H := iff_ H
   have H' := Aside0.mk H
   clear H
   obtain ⟨hcz11_0, hcz11_1, hcz11_2, hfz11_0, hfz11_1, hfz11_2⟩ := bx3_ BK133.out
   go_wp2_with (first | ((with_reducible refine gate_callee (f := 89) rfl ?_); refine goesL_ (some 6) rfl rfl Try.func89 (by kernel_rfl) rfl #[.slice A0_0 l0_0.length c0_0, .int .i64 6] rfl z1_ ?_; (with_reducible refine (spec_l7In.calls k _ _ l0_0 6 false _ ?side1 ?side2 A4.out).mono ?_); (case side1 => exact z13_); (case side2 => exact HC0_0.out); rintro e w' ⟨rfl, ⟨nd, rfl⟩⟩; refine ⟨_, rfl, ?_⟩))
   go_meet
   case rel => exact ⟨_, (true), z4_, H', ⟨z153_⟩, ⟨z124_⟩, ⟨z40_⟩⟩
 case rest =>
  clear HC2
  try clear p2
  try clear c5
  try clear c7
  try clear c8
  try clear hcz10_0
  try clear hcz10_1
  try clear hcz10_2
  try clear hcz11_0
  try clear hcz11_1
  try clear hcz11_2
  try clear hcz9_0
  try clear hcz9_1
  try clear hcz9_2
  try clear hfz10_0
  try clear hfz10_1
  try clear hfz10_2
  try clear hfz11_0
  try clear hfz11_1
  try clear hfz11_2
  try clear hfz9_0
  try clear hfz9_1
  try clear hfz9_2
  obtain ⟨kq, x19_1, rfl, HA, HJ1, BK133, HB⟩ := hcut
  cases kq with
  | zero => exact absurd HA.out (by simp [spec_CostOk.j0])
  | succ kj1 =>
   have H := HA.out
   clear HA
   simp only [spec_CostOk.j0] at H
   by_cases c12 : x19_1 = true
   ·subst c12
    replace H := ift_ H
    obtain rfl := Option.some.inj H
    go_wp2
    go_ret
    exact ⟨z5_, z40_⟩
   ·replace c12 := Bool.eq_false_iff.mpr c12
    subst c12
    replace H := iff_ H
    have H' := Aside0.mk H
    clear H
    go_wp2
    go_loopg [3] kj1 (fun kq v3 w' => ∃ (x3_2 : Int), v3 = .int .i64 x3_2 ∧ Aside0 (spec_CostOk.l0 kq x3_2 l0_0 l0_1 l0_2 = some r) ∧ Aside0 (kq ≤ kj1) ∧ Aside0 (w'.heap[gb133]? = some (.cells #[(.slice A0_0 l0_0.length c0_0), (.slice A0_1 l0_1.length c0_1), (.slice A0_2 l0_2.length c0_2)] 38 (0, 0))) ∧ Aside0 (Below w.heap.size w w'))
    case atStart => exact ⟨(0), z4_, H', ⟨Nat.le_refl _⟩, ⟨z124_⟩, ⟨z40_⟩⟩
    case round =>
     clear H'
     try clear c1
     try clear p2
     try clear c5
     try clear c7
     try clear c8
     try clear c12
     try clear hcz10_0
     try clear hcz10_1
     try clear hcz10_2
     try clear hcz11_0
     try clear hcz11_1
     try clear hcz11_2
     try clear hcz9_0
     try clear hcz9_1
     try clear hcz9_2
     try clear hfz10_0
     try clear hfz10_1
     try clear hfz10_2
     try clear hfz11_0
     try clear hfz11_1
     try clear hfz11_2
     try clear hfz9_0
     try clear hfz9_1
     try clear hfz9_2
     try clear p2
     obtain ⟨x3_2, rfl, HA, HK2, BK133, HB⟩ := hrel
     cases gk with
     | zero => exact absurd HA.out (by simp [spec_CostOk.l0])
     | succ k2 =>
      have H := HA.out
      clear HA
      simp only [spec_CostOk.l0] at H
      by_cases c13 : x3_2 < 6
      ·rw [if_pos c13] at H
       have c13b0 := decide_eq_true c13
       clear c13
       obtain ⟨ji14, hji14⟩ : ∃ j_ : Int, (wrap64 ((wrap64 (x3_2 * 6)) + x3_2)) = j_ := ⟨_, rfl⟩
       first | rw [hji14] at H | simp only [hji14] at H
       have hji14w : (IntKind.i64.wrap ((wrap64 (x3_2 * 6)) + x3_2)) = ji14 := (i64_w _).trans hji14
       obtain ⟨c15b0, H⟩ := ifd_ H
       obtain ⟨c16b0, H⟩ := ifd_ H
       by_cases c17 : (rd l0_2 (ji14)) = 0
       ·rw [if_pos c17] at H
        have c17b0 : ((rd l0_2 (ji14)) == 0) = true := beq_iff_eq.mpr c17
        have c17b1 : ((rd l0_2 (ji14)) != 0) = false := bne_eq_false_iff_eq.mpr c17
        clear c17
        have H' := Aside0.mk H
        clear H
        obtain ⟨hcz18_0, hcz18_1, hcz18_2, hfz18_0, hfz18_1, hfz18_2⟩ := bx3_ BK133.out
        have p137 : 0 ≤ ((ji14) : Int) := odt_
        have q137 : (ji14) < (l0_2.length : Int) := odt_
        obtain ⟨ad137, e137, hx137_0⟩ := Kd.at_int HR0_2.out (ji14) p137 q137
        cases e137
        replace hx137_0 := (HB.out.cell (World.block_lt_of_cell? w _ hx137_0)).trans hx137_0
        replace p137 := eq_true p137
        replace q137 := eq_true q137
        go_wp2
        go_roundg k2
        case measure => have := HJ1.out; have := HK2.out; omega
        case rel => exact ⟨(wrap64 (x3_2 + 1)), z4_, H', ⟨by have := HJ1.out; have := HK2.out; omega⟩, ⟨z124_⟩, ⟨z40_⟩⟩
       ·rw [if_neg c17] at H
        have c17b0 : ((rd l0_2 (ji14)) == 0) = false := beq_eq_false_iff_ne.mpr c17
        have c17b1 : ((rd l0_2 (ji14)) != 0) = true := bne_iff_ne.mpr c17
        obtain rfl := Option.some.inj H
        obtain ⟨hcz19_0, hcz19_1, hcz19_2, hfz19_0, hfz19_1, hfz19_2⟩ := bx3_ BK133.out
        have p137 : 0 ≤ ((ji14) : Int) := odt_
        have q137 : (ji14) < (l0_2.length : Int) := odt_
        obtain ⟨ad137, e137, hx137_0⟩ := Kd.at_int HR0_2.out (ji14) p137 q137
        cases e137
        replace hx137_0 := (HB.out.cell (World.block_lt_of_cell? w _ hx137_0)).trans hx137_0
        replace p137 := eq_true p137
        replace q137 := eq_true q137
        go_wp2
        go_ret
        exact ⟨z185_, z40_⟩
      ·rw [if_neg c13] at H
       have c13b0 := decide_eq_false c13
       clear c13
       obtain rfl := Option.some.inj H
       go_wp2
       go_ret
       exact ⟨z5_, z40_⟩

/-! ### spec_l8Three: function 61 -/
def spec_l8Three.f (k : Nat) (l0 : List (S61)) (l1 : List (S61)) (l2_0 : List Int) (l2_1 : List Int) (l2_2 : List Int) : Option (Bool) := (spec_TreeOk.f k l0).bind fun t139 => (if t139 = true then ((spec_TreeOk.f k l1).bind fun t140 => (if t140 = true then ((spec_CostOk.f k l2_0 l2_1 l2_2).bind fun t141 => (some t141)) else (some false))) else (some false))
set_option maxHeartbeats 8000000 in
set_option maxRecDepth 100000 in
theorem spec_l8Three.calls (k : Nat) (A0 : Option Addr) (c0 : Nat) (l0 : List (S61)) (A1 : Option Addr) (c1 : Nat) (l1 : List (S61)) (A2_0 : Option Addr) (c2_0 : Nat) (l2_0 : List Int) (A2_1 : Option Addr) (c2_1 : Nat) (l2_1 : List Int) (A2_2 : Option Addr) (c2_2 : Nat) (l2_2 : List Int) (r : Bool) (w : World) (hr0 : Kd.C k61 w A0 l0.length l0) (hc0 : l0.length ≤ c0) (hr1 : Kd.C k61 w A1 l1.length l1) (hc1 : l1.length ≤ c1) (hr2_0 : Kd.C (Kd.int .i64) w A2_0 l2_0.length l2_0) (hc2_0 : l2_0.length ≤ c2_0) (hr2_1 : Kd.C (Kd.int .i64) w A2_1 l2_1.length l2_1) (hc2_1 : l2_1.length ≤ c2_1) (hr2_2 : Kd.C (Kd.int .i64) w A2_2 l2_2.length l2_2) (hc2_2 : l2_2.length ≤ c2_2) (h : spec_l8Three.f k l0 l1 l2_0 l2_1 l2_2 = some r) :
  Calls Try.prog 61 #[.slice A0 l0.length c0, .slice A1 l1.length c1, .agg #[.slice A2_0 l2_0.length c2_0, .slice A2_1 l2_1.length c2_1, .slice A2_2 l2_2.length c2_2]] w fun e w' => e = .returned (.bool r) ∧ Below w.heap.size w w' := by
 have hu38 := Try.underlying38
 have HR0 := Aside0.mk hr0
 have HC0 := Aside0.mk hc0
 clear hr0 hc0
 have HR1 := Aside0.mk hr1
 have HC1 := Aside0.mk hc1
 clear hr1 hc1
 have HR2_0 := Aside0.mk hr2_0
 have HC2_0 := Aside0.mk hc2_0
 clear hr2_0 hc2_0
 have HR2_1 := Aside0.mk hr2_1
 have HC2_1 := Aside0.mk hc2_1
 clear hr2_1 hc2_1
 have HR2_2 := Aside0.mk hr2_2
 have HC2_2 := Aside0.mk hc2_2
 clear hr2_2 hc2_2
 have HB := Aside0.mk (Below.refl w.heap.size w)
 have H : ((spec_TreeOk.f k l0).bind fun t139 => (if t139 = true then ((spec_TreeOk.f k l1).bind fun t140 => (if t140 = true then ((spec_CostOk.f k l2_0 l2_1 l2_2).bind fun t141 => (some t141)) else (some false))) else (some false))) = some r := h
 clear h
 obtain ⟨t139, A4, H⟩ := bnd_ H
 by_cases c5 : t139 = true
 ·subst c5
  replace H := ift_ H
  obtain ⟨t140, A6, H⟩ := bnd_ H
  by_cases c7 : t140 = true
  ·subst c7
   replace H := ift_ H
   obtain ⟨t141, A8, H⟩ := bnd_ H
   obtain rfl := Option.some.inj H
   go_enter Try.func61, Try.ntmps61
   go_wp2_with (first | ((with_reducible refine gate_dst (N := 5) rfl ?_); refine box_event ?hg (N := 5) ?hd (cs := #[.slice A2_0 l2_0.length c2_0, .slice A2_1 l2_1.length c2_1, .slice A2_2 l2_2.length c2_2]) (t := 38) ?hr ?_; (case hd => rfl); (case hg => rfl); (case hr => exact z9_); intro gb138 hg w9 hbox hb; have BK138 := Aside0.mk (hbox); have GW138 := Aside0.mk ((by rw [hg]; exact (below_size z0_) : w.heap.size ≤ gb138)); have GE138 := Aside0.mk ((by rw [hg]; exact (below_size z0_) : w.heap.size ≤ gb138)); replace HB := Aside0.mk (below_step z0_ hb); clear hb hbox hg) | ((with_reducible refine gate_callee (f := 28) rfl ?_); refine goesL_ (some 8) rfl rfl Try.func28 (by kernel_rfl) rfl #[.slice A0 l0.length c0] rfl z1_ ?_; (with_reducible refine (spec_TreeOk.calls k _ _ l0 true _ ?side1 ?side2 A4.out).mono ?_); (case side1 => exact z3_); (case side2 => exact HC0.out); rintro e w10 ⟨rfl, hb⟩; refine ⟨_, rfl, ?_⟩; replace BK138 := Aside0.mk (blk_below z109_ hb); replace HB := Aside0.mk (below_step z57_ hb); (try clear hb)) | (go_at_call 28; (with_reducible refine (spec_TreeOk.calls k _ _ l1 true _ ?side1 ?side2 A6.out).mono ?_); (case side1 => exact z10_); (case side2 => exact HC1.out); rintro e w11 ⟨rfl, hb⟩; replace BK138 := Aside0.mk (blk_below z109_ hb); replace HB := Aside0.mk (below_step z57_ hb); (try clear hb); obtain ⟨hcz12_0, hcz12_1, hcz12_2, hfz12_0, hfz12_1, hfz12_2⟩ := bx3_ BK138.out) | (go_at_call 79; (with_reducible refine (spec_CostOk.calls k _ _ l2_0 _ _ l2_1 _ _ l2_2 t141 _ ?side1 ?side2 ?side3 ?side4 ?side5 ?side6 A8.out).mono ?_); (case side1 => exact z19_); (case side2 => exact HC2_0.out); (case side3 => exact z20_); (case side4 => exact HC2_1.out); (case side5 => exact z21_); (case side6 => exact HC2_2.out); rintro e w13 ⟨rfl, hb⟩; replace BK138 := Aside0.mk (blk_below z109_ hb); replace HB := Aside0.mk (below_step z57_ hb); (try clear hb)))
   go_ret
   exact ⟨z5_, z57_⟩
  ·replace c7 := Bool.eq_false_iff.mpr c7
   subst c7
   replace H := iff_ H
   obtain rfl := Option.some.inj H
   go_enter Try.func61, Try.ntmps61
   go_wp2_with (first | ((with_reducible refine gate_dst (N := 5) rfl ?_); refine box_event ?hg (N := 5) ?hd (cs := #[.slice A2_0 l2_0.length c2_0, .slice A2_1 l2_1.length c2_1, .slice A2_2 l2_2.length c2_2]) (t := 38) ?hr ?_; (case hd => rfl); (case hg => rfl); (case hr => exact z9_); intro gb138 hg w14 hbox hb; have BK138 := Aside0.mk (hbox); have GW138 := Aside0.mk ((by rw [hg]; exact (below_size z0_) : w.heap.size ≤ gb138)); have GE138 := Aside0.mk ((by rw [hg]; exact (below_size z0_) : w.heap.size ≤ gb138)); replace HB := Aside0.mk (below_step z0_ hb); clear hb hbox hg) | ((with_reducible refine gate_callee (f := 28) rfl ?_); refine goesL_ (some 8) rfl rfl Try.func28 (by kernel_rfl) rfl #[.slice A0 l0.length c0] rfl z1_ ?_; (with_reducible refine (spec_TreeOk.calls k _ _ l0 true _ ?side1 ?side2 A4.out).mono ?_); (case side1 => exact z3_); (case side2 => exact HC0.out); rintro e w15 ⟨rfl, hb⟩; refine ⟨_, rfl, ?_⟩; replace BK138 := Aside0.mk (blk_below z109_ hb); replace HB := Aside0.mk (below_step z57_ hb); (try clear hb)) | (go_at_call 28; (with_reducible refine (spec_TreeOk.calls k _ _ l1 false _ ?side1 ?side2 A6.out).mono ?_); (case side1 => exact z10_); (case side2 => exact HC1.out); rintro e w16 ⟨rfl, hb⟩; replace BK138 := Aside0.mk (blk_below z109_ hb); replace HB := Aside0.mk (below_step z57_ hb); (try clear hb)))
   go_ret
   exact ⟨z5_, z57_⟩
 ·replace c5 := Bool.eq_false_iff.mpr c5
  subst c5
  replace H := iff_ H
  obtain rfl := Option.some.inj H
  go_enter Try.func61, Try.ntmps61
  go_wp2_with (first | ((with_reducible refine gate_dst (N := 5) rfl ?_); refine box_event ?hg (N := 5) ?hd (cs := #[.slice A2_0 l2_0.length c2_0, .slice A2_1 l2_1.length c2_1, .slice A2_2 l2_2.length c2_2]) (t := 38) ?hr ?_; (case hd => rfl); (case hg => rfl); (case hr => exact z9_); intro gb138 hg w17 hbox hb; have BK138 := Aside0.mk (hbox); have GW138 := Aside0.mk ((by rw [hg]; exact (below_size z0_) : w.heap.size ≤ gb138)); have GE138 := Aside0.mk ((by rw [hg]; exact (below_size z0_) : w.heap.size ≤ gb138)); replace HB := Aside0.mk (below_step z0_ hb); clear hb hbox hg) | ((with_reducible refine gate_callee (f := 28) rfl ?_); refine goesL_ (some 8) rfl rfl Try.func28 (by kernel_rfl) rfl #[.slice A0 l0.length c0] rfl z1_ ?_; (with_reducible refine (spec_TreeOk.calls k _ _ l0 false _ ?side1 ?side2 A4.out).mono ?_); (case side1 => exact z3_); (case side2 => exact HC0.out); rintro e w18 ⟨rfl, hb⟩; refine ⟨_, rfl, ?_⟩; replace BK138 := Aside0.mk (blk_below z109_ hb); replace HB := Aside0.mk (below_step z57_ hb); (try clear hb)))
  go_ret
  exact ⟨z5_, z57_⟩

/-! ### spec_l3At: function 78 -/
def spec_l3At.f (k : Nat) (l0 : List (S61)) (a1 : Int) : Option (Bool) := (spec_TreeOk.f k l0).bind fun t142 => (if t142 = true then ((spec_l1In.f a1 0 (wrap64 ((l0.length : Int) - 1))).bind fun t143 => (some t143)) else (some false))
set_option maxHeartbeats 8000000 in
set_option maxRecDepth 100000 in
theorem spec_l3At.calls (k : Nat) (A0 : Option Addr) (c0 : Nat) (l0 : List (S61)) (a1 : Int) (r : Bool) (w : World) (hr0 : Kd.C k61 w A0 l0.length l0) (hc0 : l0.length ≤ c0) (h : spec_l3At.f k l0 a1 = some r) :
  Calls Try.prog 78 #[.slice A0 l0.length c0, .int .i64 a1] w fun e w' => e = .returned (.bool r) ∧ Below w.heap.size w w' := by
 have HR0 := Aside0.mk hr0
 have HC0 := Aside0.mk hc0
 clear hr0 hc0
 have HB := Aside0.mk (Below.refl w.heap.size w)
 have H : ((spec_TreeOk.f k l0).bind fun t142 => (if t142 = true then ((spec_l1In.f a1 0 (wrap64 ((l0.length : Int) - 1))).bind fun t143 => (some t143)) else (some false))) = some r := h
 clear h
 obtain ⟨t142, A3, H⟩ := bnd_ H
 by_cases c4 : t142 = true
 ·subst c4
  replace H := ift_ H
  obtain ⟨t143, A5, H⟩ := bnd_ H
  obtain rfl := Option.some.inj H
  go_enter Try.func78, Try.ntmps78
  go_wp2_with (first | ((with_reducible refine gate_callee (f := 28) rfl ?_); refine goesL_ (some 6) rfl rfl Try.func28 (by kernel_rfl) rfl #[.slice A0 l0.length c0] rfl z1_ ?_; (with_reducible refine (spec_TreeOk.calls k _ _ l0 true _ ?side1 ?side2 A3.out).mono ?_); (case side1 => exact z33_); (case side2 => exact HC0.out); rintro e w6 ⟨rfl, hb⟩; refine ⟨_, rfl, ?_⟩; replace HB := Aside0.mk (below_step z0_ hb); (try clear hb)) | (go_at_call 55; (with_reducible refine (spec_l1In.calls a1 0 (wrap64 ((l0.length : Int) - 1)) t143 _ A5.out).mono ?_); rintro e w' ⟨rfl, ⟨nd, rfl⟩⟩))
  go_ret
  exact ⟨z5_, z0_⟩
 ·replace c4 := Bool.eq_false_iff.mpr c4
  subst c4
  replace H := iff_ H
  obtain rfl := Option.some.inj H
  go_enter Try.func78, Try.ntmps78
  go_wp2_with (first | ((with_reducible refine gate_callee (f := 28) rfl ?_); refine goesL_ (some 6) rfl rfl Try.func28 (by kernel_rfl) rfl #[.slice A0 l0.length c0] rfl z1_ ?_; (with_reducible refine (spec_TreeOk.calls k _ _ l0 false _ ?side1 ?side2 A3.out).mono ?_); (case side1 => exact z33_); (case side2 => exact HC0.out); rintro e w7 ⟨rfl, hb⟩; refine ⟨_, rfl, ?_⟩; replace HB := Aside0.mk (below_step z0_ hb); (try clear hb)))
  go_ret
  exact ⟨z5_, z0_⟩

/-! ### spec_EndOf: function 60 -/
def spec_EndOf.l0 : Nat → List (S61) → Int → Int → Option (Int)
 | 0, _, _, _ => none
 | k + 1, x0, x1, x5 => if x5 < (x0.length : Int) then (if 0 ≤ x5 then (if 0 ≤ x1 then (if x1 < (x0.length : Int) then (if ((rd_T61 x0 x5).f1) > ((rd_T61 x0 x1).f1) then (spec_EndOf.l0 k x0 x1 (wrap64 (x5 + 1))) else (some x5)) else (none)) else (none)) else (none)) else (some x5)
def spec_EndOf.f (k : Nat) (l0 : List (S61)) (a1 : Int) : Option (Int) := (spec_l3At.f k l0 a1).bind fun t144 => (if t144 = true then (spec_EndOf.l0 k l0 a1 (wrap64 (a1 + 1))) else (some (-1)))
set_option maxHeartbeats 8000000 in
set_option maxRecDepth 100000 in
theorem spec_EndOf.calls (k : Nat) (A0 : Option Addr) (c0 : Nat) (l0 : List (S61)) (a1 : Int) (r : Int) (w : World) (hr0 : Kd.C k61 w A0 l0.length l0) (hc0 : l0.length ≤ c0) (h : spec_EndOf.f k l0 a1 = some r) :
  Calls Try.prog 60 #[.slice A0 l0.length c0, .int .i64 a1] w fun e w' => e = .returned (.int .i64 r) ∧ Below w.heap.size w w' := by
 have HR0 := Aside0.mk hr0
 have HC0 := Aside0.mk hc0
 clear hr0 hc0
 have HB := Aside0.mk (Below.refl w.heap.size w)
 have H : ((spec_l3At.f k l0 a1).bind fun t144 => (if t144 = true then (spec_EndOf.l0 k l0 a1 (wrap64 (a1 + 1))) else (some (-1)))) = some r := h
 clear h
 obtain ⟨t144, A3, H⟩ := bnd_ H
 by_cases c4 : t144 = true
 ·subst c4
  replace H := ift_ H
  have H' := Aside0.mk H
  clear H
  go_enter Try.func60, Try.ntmps60
  go_wp2_with (first | (go_at_call 78; (with_reducible refine (spec_l3At.calls k _ _ l0 a1 true _ ?side1 ?side2 A3.out).mono ?_); (case side1 => exact z33_); (case side2 => exact HC0.out); rintro e w5 ⟨rfl, hb⟩; replace HB := Aside0.mk (below_step z0_ hb); (try clear hb)))
  repeat (go_quiet (first | (go_at_call 78; (with_reducible refine (spec_l3At.calls k _ _ l0 a1 true _ ?side1 ?side2 A3.out).mono ?_); (case side1 => exact z33_); (case side2 => exact HC0.out); rintro e w5 ⟨rfl, hb⟩; replace HB := Aside0.mk (below_step z0_ hb); (try clear hb))); try go_wp2_with (first | (go_at_call 78; (with_reducible refine (spec_l3At.calls k _ _ l0 a1 true _ ?side1 ?side2 A3.out).mono ?_); (case side1 => exact z33_); (case side2 => exact HC0.out); rintro e w5 ⟨rfl, hb⟩; replace HB := Aside0.mk (below_step z0_ hb); (try clear hb))))
  go_loopg [5] k (fun kq v5 w' => ∃ (x5_1 : Int), v5 = .int .i64 x5_1 ∧ Aside0 (spec_EndOf.l0 kq l0 a1 x5_1 = some r) ∧ Aside0 (kq ≤ k) ∧ Aside0 (Below w.heap.size w w'))
  case atStart => exact ⟨(wrap64 (a1 + 1)), z4_, H', ⟨Nat.le_refl _⟩, ⟨z0_⟩⟩
  case round =>
   clear H'
   try clear p2
   try clear c4
   obtain ⟨x5_1, rfl, HA, HK1, HB⟩ := hrel
   cases gk with
   | zero => exact absurd HA.out (by simp [spec_EndOf.l0])
   | succ k1 =>
    have H := HA.out
    clear HA
    simp only [spec_EndOf.l0] at H
    by_cases c6 : x5_1 < (l0.length : Int)
    ·rw [if_pos c6] at H
     have c6b0 := decide_eq_true c6
     clear c6
     obtain ⟨c7b0, H⟩ := ifd_ H
     obtain ⟨c8b0, H⟩ := ifd_ H
     obtain ⟨c9b0, H⟩ := ifd_ H
     by_cases c10 : ((rd_T61 l0 x5_1).f1) > ((rd_T61 l0 a1).f1)
     ·rw [if_pos c10] at H
      have c10b0 := decide_eq_true c10
      clear c10
      have H' := Aside0.mk H
      clear H
      obtain ⟨p145, q145, ad145, e145, hx145_0, hx145_1⟩ := atb61_ HR0 HB x5_1
      cases e145
      obtain ⟨p146, q146, ad146, e146, hx146_0, hx146_1⟩ := atb61_ HR0 HB a1
      obtain rfl : ad145 = ad146 := (by injection e146)
      go_wp2
      repeat (go_quiet (fail); try go_wp2)
      go_roundg k1
      case measure => have := HK1.out; omega
      case rel => exact ⟨(wrap64 (x5_1 + 1)), z4_, H', ⟨z116_⟩, ⟨z0_⟩⟩
     ·rw [if_neg c10] at H
      have c10b0 := decide_eq_false c10
      clear c10
      obtain rfl := Option.some.inj H
      obtain ⟨p145, q145, ad145, e145, hx145_0, hx145_1⟩ := atb61_ HR0 HB x5_1
      cases e145
      obtain ⟨p146, q146, ad146, e146, hx146_0, hx146_1⟩ := atb61_ HR0 HB a1
      obtain rfl : ad145 = ad146 := (by injection e146)
      go_wp2
      repeat (go_quiet (fail); try go_wp2)
      go_ret
      exact ⟨z5_, z0_⟩
    ·rw [if_neg c6] at H
     have c6b0 := decide_eq_false c6
     clear c6
     obtain rfl := Option.some.inj H
     go_wp2
     repeat (go_quiet (fail); try go_wp2)
     go_ret
     exact ⟨z5_, z0_⟩
 ·replace c4 := Bool.eq_false_iff.mpr c4
  subst c4
  replace H := iff_ H
  obtain rfl := Option.some.inj H
  go_enter Try.func60, Try.ntmps60
  go_wp2_with (first | (go_at_call 78; (with_reducible refine (spec_l3At.calls k _ _ l0 a1 false _ ?side1 ?side2 A3.out).mono ?_); (case side1 => exact z33_); (case side2 => exact HC0.out); rintro e w11 ⟨rfl, hb⟩; replace HB := Aside0.mk (below_step z0_ hb); (try clear hb)))
  repeat (go_quiet (first | (go_at_call 78; (with_reducible refine (spec_l3At.calls k _ _ l0 a1 false _ ?side1 ?side2 A3.out).mono ?_); (case side1 => exact z33_); (case side2 => exact HC0.out); rintro e w11 ⟨rfl, hb⟩; replace HB := Aside0.mk (below_step z0_ hb); (try clear hb))); try go_wp2_with (first | (go_at_call 78; (with_reducible refine (spec_l3At.calls k _ _ l0 a1 false _ ?side1 ?side2 A3.out).mono ?_); (case side1 => exact z33_); (case side2 => exact HC0.out); rintro e w11 ⟨rfl, hb⟩; replace HB := Aside0.mk (below_step z0_ hb); (try clear hb))))
  go_ret
  exact ⟨z5_, z0_⟩

end Go.Proofs.Ytbmkobanpakohaa.PFnExactNearest
