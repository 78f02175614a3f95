/- Laid by a program of this session out of the kit's print for the law FnKept: what it says of the machine is proved here, function by function; each contract under the conditions that it names. -/
import Derived.Test.YtbiffnahknkoiaaMFnKeptx0
import Derived.Test.YtbiffnahknkoiaaMFnKeptx2
import Derived.Test.YtbiffnahknkoiaaMFnKeptx4
import Derived.Test.YtbiffnahknkoiaaMFnKeptx5
namespace Go.Proofs.Ytbiffnahknkoiaa.PFnKept
open Go.RowKit Go.Proofs.YtbiffnahknkoiaaW.PrintWords Go.Proofs.YtbiffnahknkoiaaW.PrintLast Go.Proofs.YtbiffnahknkoiaaW.PrintMore
attribute [local go_sem] max2_int min2_int max_two min_two max_three min_three max_four min_four   -- for this text's walks alone
set_option linter.unusedVariables false
set_option linter.unusedSimpArgs false

/-! ### spec_l3Near: function 98 -/
mutual
def spec_l3Near.l0 : Nat → List (S45) → Int → List Int → Int → Int → Option ((List (S45)) × Int × Int)
 | 0, _, _, _, _, _ => none
 | k + 1, x5, x6, x1000, x1001, x1002 => if x6 > 0 then (spec_l3Near.j1 k x5 x6 (decide ((x5.length : Int) > 0)) x1000 x1001 x1002) else (spec_l3Near.j1 k x5 x6 false x1000 x1001 x1002)
def spec_l3Near.j1 : Nat → List (S45) → Int → Bool → List Int → Int → Int → Option ((List (S45)) × Int × Int)
 | 0, _, _, _, _, _, _ => none
 | k + 1, x5, x6, x19, x1000, x1001, x1002 => if x19 = true then ((spec_l1Below.f x1000 x1001 x1002 (x5.length : Int)).bind fun bt235 => ((spec_l1Below.f x1000 bt235.2.1 bt235.2.2 3).bind fun bt238 => (if bt238.1 = 0 then ((spec_l2Label.f x1000 bt238.2.1 bt238.2.2).bind fun bt241 => (if 0 ≤ bt235.1 then (if bt235.1 < (x5.length : Int) then (spec_l3Near.l0 k (x5.set (bt235.1 : Int).toNat (⟨bt241.1, (rd_T45 x5 bt235.1).f1⟩ : S45)) (wrap64 (x6 - 1)) x1000 bt241.2.1 bt241.2.2) else (none)) else (none))) else (if bt238.1 = 1 then (if bt235.1 > 0 then (if (x5.length : Int) > 1 then (if 0 ≤ bt235.1 then (if bt235.1 ≤ (x5.length : Int) then ((spec_l3Copy.f (x5.take (bt235.1 : Int).toNat)).bind fun t249 => (if 0 ≤ (wrap64 (bt235.1 + 1)) then (if (wrap64 (bt235.1 + 1)) ≤ (x5.length : Int) then ((some (x5.drop ((wrap64 (bt235.1 + 1)) : Int).toNat : List (S45))).bind fun y252 => (if t249.length + y252.length < 8796093022208 then (spec_l3Near.l0 k (t249 ++ y252) (wrap64 (x6 - 1)) x1000 bt238.2.1 bt238.2.2) else (none))) else (none)) else (none))) else (none)) else (none)) else (spec_l3Near.l0 k x5 (wrap64 (x6 - 1)) x1000 bt238.2.1 bt238.2.2)) else (spec_l3Near.l0 k x5 (wrap64 (x6 - 1)) x1000 bt238.2.1 bt238.2.2)) else ((spec_l3Copy.f x5).bind fun t259 => ((spec_l2Label.f x1000 bt238.2.1 bt238.2.2).bind fun bt262 => (if 0 ≤ (wrap64 ((x5.length : Int) - 1)) then (if (wrap64 ((x5.length : Int) - 1)) < (x5.length : Int) then ((spec_l1Below.f x1000 bt262.2.1 bt262.2.2 (wrap64 (((rd_T45 x5 (wrap64 ((x5.length : Int) - 1))).f1) + 1))).bind fun bt266 => (if t259.length < 8796093022208 then (spec_l3Near.l0 k (t259 ++ [(⟨bt262.1, wrap64 (1 + bt266.1)⟩ : S45)]) (wrap64 (x6 - 1)) x1000 bt266.2.1 bt266.2.2) else (none))) else (none)) else (none)))))))) else ((spec_TreeOk.f k x5).bind fun t272 => (if t272 = true then (some (x5, x1001, x1002)) else ((spec_l3Tree.f k x1000 x1001 x1002 8).bind fun bt273 => (some (bt273.1, bt273.2.1, bt273.2.2)))))
end
def spec_l3Near.f (k : Nat) (s0_0 : List Int) (s0_1 : Int) (s0_2 : Int) (l1 : List (S45)) : Option ((List (S45)) × Int × Int) := (spec_l3Copy.f l1).bind fun t229 => ((spec_l1Below.f s0_0 s0_1 s0_2 3).bind fun bt232 => (spec_l3Near.l0 k t229 (wrap64 (1 + bt232.1)) s0_0 bt232.2.1 bt232.2.2))
def spec_l3Near.T7 : Bool × List (List Nat × List Nat) := (true, [([], []), ([0], [0]), ([], []), ([2, 1], [2]), ([], []), ([], []), ([], []), ([6], [6]), ([7], [7]), ([5, 8], [5, 8]), ([9], [9]), ([10], [10]), ([11], [11]), ([4, 12, 3], [4, 12]), ([13], [13]), ([3, 14], [3, 14]), ([15], [15]), ([1, 16, 13], [1, 16]), ([17, 17, 0, 1, 2, 3, 4, 5, 6, 7, 8, 9, 10, 11, 12, 13, 14, 15, 16, 17], [0, 5, 6, 17])])
def spec_l3Near.B7 : List Nat := [0, 1, 0, 7, 0, 0, 0, 64, 192, 480, 992, 2016, 4064, 8191, 16383, 32767, 65535, 131071, 262143]
theorem spec_l3Near.tab7 : rtab .any (opsOf Try.f98 7) = spec_l3Near.T7 := by kernel_rfl
theorem spec_l3Near.bits7 : waitsOk spec_l3Near.T7.2 spec_l3Near.B7 = true := by kernel_rfl
def spec_l3Near.T12 : Bool × List (List Nat × List Nat) := (true, [([], []), ([], []), ([0, 1], [0, 1]), ([2], [2]), ([], []), ([], []), ([5], [5]), ([4, 6], [4, 6]), ([3, 7, 3], [3, 7]), ([8, 8, 0, 1, 2, 3, 4, 5, 6, 7, 8], [0, 4, 8])])
def spec_l3Near.B12 : List Nat := [0, 0, 3, 7, 0, 0, 32, 112, 255, 511]
theorem spec_l3Near.tab12 : rtab .any (opsOf Try.f98 12) = spec_l3Near.T12 := by kernel_rfl
theorem spec_l3Near.bits12 : waitsOk spec_l3Near.T12.2 spec_l3Near.B12 = true := by kernel_rfl
set_option maxHeartbeats 8000000 in
set_option maxRecDepth 100000 in
theorem spec_l3Near.calls (k : Nat) (g : Nat) (s0_0 : List Int) (s0_1 : Int) (s0_2 : Int) (A1 : Option Addr) (c1 : Nat) (l1 : List (S45)) (r1 : List (S45)) (r2 : Int) (r3 : Int) (w0 w : World) (hI : IsS115 w0 w g s0_0 s0_1 s0_2) (hB : Below w0.heap.size w0 w) (hr1 : ∀ W_, KeepBut w W_ g none → Kd.C k45 W_ A1 l1.length l1) (hc1 : l1.length ≤ c1) (h : spec_l3Near.f k s0_0 s0_1 s0_2 l1 = some (r1, r2, r3)) :
  Calls Try.prog 98 #[.pointer (some ⟨g, 0, none⟩), .slice A1 l1.length c1] w fun e w' => ∃ v0_ : Value, e = .returned (v0_) ∧ Kd.R k45 45 w' w.heap.size (fun _ => True) v0_ r1 ∧ IsS115 w0 w' g s0_0 r2 r3 ∧ Below w0.heap.size w0 w' ∧ KeepBut w w' g none := by
 have hu45 := Try.underlying45
 have HR1 := Aside0.mk hr1
 have HC1 := Aside0.mk hc1
 clear hr1 hc1
 have HI0 := Aside0.mk hI
 have HK := Aside0.mk (KeepBut.refl w g none)
 have HL := Aside0.mk hB.size
 clear hI
 have HW0 := Aside0.mk hB.size
 have HB := Aside0.mk hB
 clear hB
 have H : ((spec_l3Copy.f l1).bind fun t229 => ((spec_l1Below.f s0_0 s0_1 s0_2 3).bind fun bt232 => (spec_l3Near.l0 k t229 (wrap64 (1 + bt232.1)) s0_0 bt232.2.1 bt232.2.2))) = some (r1, r2, r3) := h
 clear h
 obtain ⟨t229, A3, H⟩ := bnd_ H
 replace H := Option.bind_eq_some_iff.mp H
 obtain ⟨⟨t232, t233, t234⟩, A40, H⟩ := H
 try dsimp only at H
 have A4 := Aside0.mk A40
 clear A40
 have H' := Aside0.mk H
 clear H
 go_enter Try.func98, Try.ntmps98
 go_wp2_with (first | ((with_reducible refine gate_callee (f := 45) rfl ?_); refine goesL_ (some 9) rfl rfl Try.func45 (by kernel_rfl) rfl #[.slice A1 l1.length c1] rfl z4_ ?_; (with_reducible refine (spec_l3Copy.calls _ _ l1 t229 _ ?side1 ?side2 A3.out).mono ?_); (case side1 => exact z127_); (case side2 => exact HC1.out); rintro e w5 ⟨v230, rfl, ho0, hb⟩; refine ⟨_, rfl, ?_⟩; have HO231 := Aside0.mk (Kd.R_lower ho0 (keep_size (w := w) (g := g) (row := none) z1_)); replace HK := Aside0.mk (KeepBut.trans z1_ (KeepBut.of_below hb g none) (.inl rfl)); replace HB := Aside0.mk (below_step z3_ hb); replace HI0 := Aside0.mk (IsS115.below z2_ hb); (try clear hb ho0)) | ((with_reducible refine gate_callee (f := 84) rfl ?_); refine goesL_ (some 11) rfl rfl Try.func84 (by kernel_rfl) rfl #[.pointer (some ⟨g, 0, none⟩), .int .i64 3] rfl z4_ ?_; (with_reducible refine (spec_l1Below.calls g s0_0 s0_1 s0_2 3 t232 t233 t234 w0 _ ?side1 ?side2 A4.out).mono ?_); (case side1 => exact z2_); (case side2 => exact z3_); rintro e w6 ⟨rfl, hi, hb, hk⟩; refine ⟨_, rfl, ?_⟩; replace HO231 := Aside0.mk (Kd.R_mono (Kd.R_keep (IsS115.apart (show IsS115 w0 _ g s0_0 s0_1 s0_2 from by repeat (first | (with_reducible first | exact HI0.out | apply IsS115.alloc | apply IsS115.drewN | apply IsS115.drew | apply IsS115.set_1 | apply IsS115.set_2) | exact HI0.out)) z198_ (by decide)) hk (fun _ h => h.2)) (fun _ h => h.1)); replace HK := Aside0.mk (KeepBut.trans z1_ hk (.inl rfl)); replace HB := Aside0.mk (hb); replace HI0 := Aside0.mk (hi); (try clear hb hk hi)))
 go_loopg [5, 6] k (fun kq v5 v6 w' => ∃ (x5_1 : List (S45)) (x6_1 : Int) (x1001_1 : Int) (x1002_1 : Int), v6 = .int .i64 x6_1 ∧ Aside0 (spec_l3Near.l0 kq x5_1 x6_1 s0_0 x1001_1 x1002_1 = some (r1, r2, r3)) ∧ Aside0 (kq ≤ k) ∧ Aside0 (Kd.R k45 45 w' w.heap.size (fun _ => True) v5 x5_1) ∧ Aside0 (IsS115 w0 w' g s0_0 x1001_1 x1002_1) ∧ Aside0 (KeepBut w w' g none) ∧ Aside0 (Below w0.heap.size w0 w'))
 case atStart => exact ⟨(t229), (wrap64 (1 + t232)), (t233), (t234), z9_, H', ⟨Nat.le_refl _⟩, ⟨z198_⟩, ⟨z2_⟩, ⟨z1_⟩, ⟨z3_⟩⟩
 case round =>
  clear H'
  try clear c1
  try clear p2
  try clear c4
  try clear p6
  obtain ⟨x5_1, x6_1, x1001_1, x1002_1, rfl, HA, HK1, HO_5, HI0, HK, HB⟩ := hrel
  cases gk with
  | zero => exact absurd HA.out (by simp [spec_l3Near.l0])
  | succ k1 =>
   have H := HA.out
   clear HA
   simp only [spec_l3Near.l0] at H
   have HC7 := Aside0.mk H
   clear H
   go_upto_region 3 with (fail)
   go_cut [19] (fun v19 wc => ∃ (kq : Nat) (x19_6 : Bool), v19 = .bool x19_6 ∧ Aside0 (spec_l3Near.j1 kq x5_1 x6_1 x19_6 s0_0 x1001_1 x1002_1 = some (r1, r2, r3)) ∧ Aside0 (kq ≤ k1) ∧ Aside0 (Kd.R k45 45 wc w.heap.size (fun _ => True) u5 x5_1) ∧ Aside0 (IsS115 w0 wc g s0_0 x1001_1 x1002_1) ∧ Aside0 (KeepBut w wc g none) ∧ Aside0 (Below w0.heap.size w0 wc))
   case first =>
    have H := HC7.out
    clear HC7
    by_cases c8 : x6_1 > 0
    ·rw [if_pos c8] at H
     have c8b0 := decide_eq_true c8
     clear c8
     (first | rw [c8b0] | rw [c8b1] | (simp only [i64_w, i32_w]; rw [c8b0]) | skip)
     have H' := Aside0.mk H
     clear H
     obtain ⟨Ao9, co9, eo9⟩ := Kd.R_slice HO_5.out
     subst eo9
     go_wp2
     go_meet
     case rel => exact ⟨_, (decide ((x5_1.length : Int) > 0)), z9_, H', ⟨z153_⟩, ⟨z5_⟩, ⟨z2_⟩, ⟨z1_⟩, ⟨z3_⟩⟩
    ·rw [if_neg c8] at H
     have c8b0 := decide_eq_false c8
     clear c8
     (first | rw [c8b0] | rw [c8b1] | (simp only [i64_w, i32_w]; rw [c8b0]) | skip)
     have H' := Aside0.mk H
     clear H
     go_wp2
     go_meet
     case rel => exact ⟨_, (false), z9_, H', ⟨z153_⟩, ⟨z5_⟩, ⟨z2_⟩, ⟨z1_⟩, ⟨z3_⟩⟩
   case rest =>
    clear HC7
    try clear c1
    try clear p2
    try clear c4
    try clear p6
    try clear c8
    try clear c8b0
    try clear c9
    try clear p2
    try clear p6
    obtain ⟨kq, x19_6, rfl, HA, HJ6, HO_5, HI0, HK, HB⟩ := hcut
    cases kq with
    | zero => exact absurd HA.out (by simp [spec_l3Near.j1])
    | succ kj6 =>
     have H := HA.out
     clear HA
     simp only [spec_l3Near.j1] at H
     by_cases c10 : x19_6 = true
     ·subst c10
      replace H := ift_ H
      replace H := Option.bind_eq_some_iff.mp H
      obtain ⟨⟨t235, t236, t237⟩, A110, H⟩ := H
      try dsimp only at H
      have A11 := Aside0.mk A110
      clear A110
      replace H := Option.bind_eq_some_iff.mp H
      obtain ⟨⟨t238, t239, t240⟩, A120, H⟩ := H
      try dsimp only at H
      have A12 := Aside0.mk A120
      clear A120
      by_cases c13 : t238 = 0
      ·rw [if_pos c13] at H
       have c13b0 : (t238 == 0) = true := beq_iff_eq.mpr c13
       have c13b1 : (t238 != 0) = false := bne_eq_false_iff_eq.mpr c13
       clear c13
       replace H := Option.bind_eq_some_iff.mp H
       obtain ⟨⟨t241, t242, t243⟩, A140, H⟩ := H
       try dsimp only at H
       have A14 := Aside0.mk A140
       clear A140
       obtain ⟨c15b0, H⟩ := ifd_ H
       obtain ⟨c16b0, H⟩ := ifd_ H
       first | ((with_reducible have hz_ := gy_ H); obtain ⟨y244, Ny244, H⟩ := hz_) | (generalize hy_ : ((x5_1.set (t235 : Int).toNat (⟨t241, (rd_T45 x5_1 t235).f1⟩ : S45)) : List (S45)) = y244 at H; have Ny244 := Aside0.mk hy_.symm; clear hy_)
       have H' := Aside0.mk H
       clear H
       obtain ⟨Ao18, co18, eo18⟩ := Kd.R_slice HO_5.out
       subst eo18
       go_wp2_with (first | ((with_reducible refine gate_callee (f := 84) rfl ?_); refine goesL_ (some 25) rfl rfl Try.func84 (by kernel_rfl) rfl #[.pointer (some ⟨g, 0, none⟩), .int .i64 (x5_1.length : Int)] rfl z4_ ?_; (with_reducible refine (spec_l1Below.calls g s0_0 x1001_1 x1002_1 (x5_1.length : Int) t235 t236 t237 w0 _ ?side1 ?side2 A11.out).mono ?_); (case side1 => exact z2_); (case side2 => exact z3_); rintro e w19 ⟨rfl, hi, hb, hk⟩; refine ⟨_, rfl, ?_⟩; replace HO_5 := Aside0.mk (Kd.R_mono (Kd.R_keep (IsS115.apart (show IsS115 w0 _ g s0_0 x1001_1 x1002_1 from by repeat (first | (with_reducible first | exact HI0.out | apply IsS115.alloc | apply IsS115.drewN | apply IsS115.drew | apply IsS115.set_1 | apply IsS115.set_2) | exact HI0.out)) z5_ (by decide)) hk (fun _ h => h.2)) (fun _ h => h.1)); replace HK := Aside0.mk (KeepBut.trans z1_ hk (.inl rfl)); replace HB := Aside0.mk (hb); replace HI0 := Aside0.mk (hi); (try clear hb hk hi)) | ((with_reducible refine gate_callee (f := 84) rfl ?_); refine goesL_ (some 27) rfl rfl Try.func84 (by kernel_rfl) rfl #[.pointer (some ⟨g, 0, none⟩), .int .i64 3] rfl z4_ ?_; (with_reducible refine (spec_l1Below.calls g s0_0 t236 t237 3 t238 t239 t240 w0 _ ?side1 ?side2 A12.out).mono ?_); (case side1 => exact z2_); (case side2 => exact z3_); rintro e w20 ⟨rfl, hi, hb, hk⟩; refine ⟨_, rfl, ?_⟩; replace HO_5 := Aside0.mk (Kd.R_mono (Kd.R_keep (IsS115.apart (show IsS115 w0 _ g s0_0 t236 t237 from by repeat (first | (with_reducible first | exact HI0.out | apply IsS115.alloc | apply IsS115.drewN | apply IsS115.drew | apply IsS115.set_1 | apply IsS115.set_2) | exact HI0.out)) z5_ (by decide)) hk (fun _ h => h.2)) (fun _ h => h.1)); replace HK := Aside0.mk (KeepBut.trans z1_ hk (.inl rfl)); replace HB := Aside0.mk (hb); replace HI0 := Aside0.mk (hi); (try clear hb hk hi)) | ((with_reducible refine gate_callee (f := 104) rfl ?_); refine goesL_ (some 51) rfl rfl Try.func104 (by kernel_rfl) rfl #[.pointer (some ⟨g, 0, none⟩)] rfl z4_ ?_; (with_reducible refine (spec_l2Label.calls g s0_0 t239 t240 t241 t242 t243 w0 _ ?side1 ?side2 A14.out).mono ?_); (case side1 => exact z2_); (case side2 => exact z3_); rintro e w21 ⟨rfl, hi, hb, hk⟩; refine ⟨_, rfl, ?_⟩; replace HO_5 := Aside0.mk (Kd.R_mono (Kd.R_keep (IsS115.apart (show IsS115 w0 _ g s0_0 t239 t240 from by repeat (first | (with_reducible first | exact HI0.out | apply IsS115.alloc | apply IsS115.drewN | apply IsS115.drew | apply IsS115.set_1 | apply IsS115.set_2) | exact HI0.out)) z5_ (by decide)) hk (fun _ h => h.2)) (fun _ h => h.1)); replace HK := Aside0.mk (KeepBut.trans z1_ hk (.inl rfl)); replace HB := Aside0.mk (hb); replace HI0 := Aside0.mk (hi); (try clear hb hk hi); have p17 : 0 ≤ (t235 : Int) := odt_; have q17 : (t235 : Int) < ((x5_1.length : Int) : Int) := odt_; obtain ⟨go17, co17, eo17, gb17, gl17, cl17, HG17⟩ := Kd.R_form HO_5.out (by omega); (first | cases eo17 | (injection eo17 with ea_ en_ ec_; (first | subst ea_ | (injection ea_ with ea_; subst ea_)); subst ec_; clear en_)); have GB17 := Aside0.mk gb17; have GG17 := Aside0.mk HG17; clear gb17 gl17 HG17; obtain ⟨ce17, hcl17, hM17, hcc17, hfr17⟩ := Kd.R_elem HO_5.out z45 (t235 : Int) p17 q17; obtain rfl := k45_openM hM17; have hx17_0 : w21.cell? ⟨go17, (t235 : Int).toNat * 2, none⟩ = some (.int .i64 ((rd_T45 x5_1 t235).f0)) := hcc17 0 _ rfl; have hx17_1 : w21.cell? ⟨go17, (t235 : Int).toNat * 2 + 1, none⟩ = some (.int .i64 ((rd_T45 x5_1 t235).f1)) := hcc17 1 _ rfl; have hf17_0 : w21.frozen? ⟨go17, (t235 : Int).toNat * 2, none⟩ = false := hfr17 0; have hf17_1 : w21.frozen? ⟨go17, (t235 : Int).toNat * 2 + 1, none⟩ = false := hfr17 1; clear hcl17 hcc17 hfr17 hM17; replace p17 := eq_true p17; replace q17 := eq_true q17; have HX22 := Aside0.mk (show Kd.R k45 45 w21 w.heap.size (fun _ => True) (.slice (some ⟨go17, 0, none⟩) x5_1.length co18) x5_1 from z5_); obtain ⟨ce22, hcl22, hM22, hcc22, hfr22⟩ := Kd.R_elem HX22.out z45 (t235 : Int) (odt_) (by have h_ : (t235 : Int) < ((x5_1.length : Int) : Int) := odt_; first | exact h_ | (have e_ := (Kd.R_reads' HO_5.out).1; omega) | simpa using h_); obtain rfl := k45_openM hM22; have HP22 := Kd.R_seg HX22.out (t235 : Int) (odt_) (by have h_ : (t235 : Int) < ((x5_1.length : Int) : Int) := odt_; first | exact h_ | (have e_ := (Kd.R_reads' HO_5.out).1; omega) | simpa using h_) (seg := [.int .i64 t241]) (j := 0) hcl22 hcc22 (show 1 ≤ 2 from by decide) (x' := (⟨t241, (rd_T45 x5_1 t235).f1⟩ : S45)) (k45_mkM _ _ _ (⟨t241, (rd_T45 x5_1 t235).f1⟩ : S45) ) (fun _ hk => hk); have hx22_0 := hcc22 0 _ rfl; (try simp only [show (k45).sz = 2 from rfl, Nat.mul_one, Nat.add_zero] at hx22_0); have hf22_0 := hfr22 0; (try simp only [show (k45).sz = 2 from rfl, Nat.mul_one, Nat.add_zero] at hf22_0); clear hcl22 hcc22 hfr22 hM22) | ((with_reducible refine gate_store (t := 3) (p := 53) rfl ?_); refine store_event (t := 3) (p := 53) (v := ?vo_w23) (w1 := (w21.setCell ⟨go17, (t235 : Int).toNat * 2, none⟩ (.int .i64 t241))) ?hg ?ho ?hn ?hr ?_; (case ho => rfl); (case hg => rfl); (case hn => rfl); (case hr => exact z26_); intro w23 hw; have hg : w21.grownBy w23 (some go17) := (by rw [hw]; exact HP22.2); have hp_ : Kd.R k45 45 w23 w.heap.size (fun _ => True) (.slice (some ⟨go17, 0, none⟩) x5_1.length co18) y244 := (by rw [hw, Ny244.out]; exact HP22.1); clear HP22; replace HI0 := Aside0.mk (IsS115.grown z2_ hg (IsS115.own_ne HI0.out HO_5.out (by decide))); replace HB := Aside0.mk ((by rw [hw]; exact below_set (HB.out) (Nat.le_trans HL.out GB17.out) : Below w0.heap.size w0 w23)); replace HK := Aside0.mk (KeepBut.trans z1_ (KeepBut.of_grown hg g) (Kd.R_base2 HO_5.out)); replace HO_5 := Aside0.mk (hp_); clear hg hw hp_))
       go_roundg kj6
       case measure => have := HK1.out; have := HJ6.out; omega
       case rel => exact ⟨(y244), (wrap64 (x6_1 - 1)), (t242), (t243), z9_, H', ⟨z208_⟩, ⟨z5_⟩, ⟨z2_⟩, ⟨z1_⟩, ⟨z3_⟩⟩
      ·rw [if_neg c13] at H
       have c13b0 : (t238 == 0) = false := beq_eq_false_iff_ne.mpr c13
       have c13b1 : (t238 != 0) = true := bne_iff_ne.mpr c13
       by_cases c24 : t238 = 1
       ·rw [if_pos c24] at H
        have c24b0 : (t238 == 1) = true := beq_iff_eq.mpr c24
        have c24b1 : (t238 != 1) = false := bne_eq_false_iff_eq.mpr c24
        clear c24
        by_cases c25 : t235 > 0
        ·rw [if_pos c25] at H
         have c25b0 := decide_eq_true c25
         clear c25
         by_cases c26 : (x5_1.length : Int) > 1
         ·rw [if_pos c26] at H
          have c26b0 := decide_eq_true c26
          have c26b1 : decide (1 < x5_1.length) = true := decide_eq_true (by omega)
          clear c26
          obtain ⟨c27b0, c27b1, H⟩ := ife_ H
          obtain ⟨c28b0, c28b1, H⟩ := ife_ H
          first | ((with_reducible have hz_ := gy_ H); obtain ⟨y245, Ny245, H⟩ := hz_) | (generalize hy_ : ((x5_1.take (t235 : Int).toNat) : List (S45)) = y245 at H; have Ny245 := Aside0.mk hy_.symm; clear hy_)
          obtain ⟨t249, A29, H⟩ := bnd_ H
          obtain ⟨ji30, hji30⟩ : ∃ j_ : Int, (wrap64 (t235 + 1)) = j_ := ⟨_, rfl⟩
          first | rw [hji30] at H | simp only [hji30] at H
          (try rw [hji30] at A11)
          (try rw [hji30] at A12)
          (try rw [hji30] at A29)
          have hji30w : (IntKind.i64.wrap (t235 + 1)) = ji30 := (i64_w _).trans hji30
          obtain ⟨c31b0, c31b1, H⟩ := ife_ H
          obtain ⟨c32b0, c32b1, H⟩ := ife_ H
          first | ((with_reducible have hz_ := gy_ H); obtain ⟨y252, Ny252, H⟩ := hz_) | (generalize hy_ : ((x5_1.drop ((ji30) : Int).toNat) : List (S45)) = y252 at H; have Ny252 := Aside0.mk hy_.symm; clear hy_)
          obtain ⟨c33, H⟩ := ifs_ H
          have LMc33 := Aside0.mk c33
          clear c33
          first | ((with_reducible have hz_ := gy_ H); obtain ⟨y256, Ny256, H⟩ := hz_) | (generalize hy_ : ((t249 ++ y252) : List (S45)) = y256 at H; have Ny256 := Aside0.mk hy_.symm; clear hy_)
          have H' := Aside0.mk H
          clear H
          obtain ⟨Ao34, co34, eo34⟩ := Kd.R_slice HO_5.out
          subst eo34
          try go_wp2_with (first | ((with_reducible refine gate_callee (f := 84) rfl ?_); refine goesL_ (some 25) rfl rfl Try.func84 (by kernel_rfl) rfl #[.pointer (some ⟨g, 0, none⟩), .int .i64 (x5_1.length : Int)] rfl z4_ ?_; (with_reducible refine (spec_l1Below.calls g s0_0 x1001_1 x1002_1 (x5_1.length : Int) t235 t236 t237 w0 _ ?side1 ?side2 A11.out).mono ?_); (case side1 => exact z2_); (case side2 => exact z3_); rintro e w35 ⟨rfl, hi, hb, hk⟩; refine ⟨_, rfl, ?_⟩; replace HO_5 := Aside0.mk (Kd.R_mono (Kd.R_keep (IsS115.apart (show IsS115 w0 _ g s0_0 x1001_1 x1002_1 from by repeat (first | (with_reducible first | exact HI0.out | apply IsS115.alloc | apply IsS115.drewN | apply IsS115.drew | apply IsS115.set_1 | apply IsS115.set_2) | exact HI0.out)) z5_ (by decide)) hk (fun _ h => h.2)) (fun _ h => h.1)); replace HK := Aside0.mk (KeepBut.trans z1_ hk (.inl rfl)); replace HB := Aside0.mk (hb); replace HI0 := Aside0.mk (hi); (try clear hb hk hi)) | ((with_reducible refine gate_callee (f := 84) rfl ?_); refine goesL_ (some 27) rfl rfl Try.func84 (by kernel_rfl) rfl #[.pointer (some ⟨g, 0, none⟩), .int .i64 3] rfl z4_ ?_; (with_reducible refine (spec_l1Below.calls g s0_0 t236 t237 3 t238 t239 t240 w0 _ ?side1 ?side2 A12.out).mono ?_); (case side1 => exact z2_); (case side2 => exact z3_); rintro e w36 ⟨rfl, hi, hb, hk⟩; refine ⟨_, rfl, ?_⟩; replace HO_5 := Aside0.mk (Kd.R_mono (Kd.R_keep (IsS115.apart (show IsS115 w0 _ g s0_0 t236 t237 from by repeat (first | (with_reducible first | exact HI0.out | apply IsS115.alloc | apply IsS115.drewN | apply IsS115.drew | apply IsS115.set_1 | apply IsS115.set_2) | exact HI0.out)) z5_ (by decide)) hk (fun _ h => h.2)) (fun _ h => h.1)); replace HK := Aside0.mk (KeepBut.trans z1_ hk (.inl rfl)); replace HB := Aside0.mk (hb); replace HI0 := Aside0.mk (hi); (try clear hb hk hi)))
          have n0_ := Aside0.mk (Kd.R_drew HO_5.out)
          have n1_ := Aside0.mk (IsS115.drew HI0.out)
          have n2_ := Aside0.mk (keep_drew HK.out)
          have n3_ := Aside0.mk (below_drew1 HB.out)
          clear HO_5
          clear HI0
          clear HK
          clear HB
          have HO_5 := n0_
          have HI0 := n1_
          have HK := n2_
          have HB := n3_
          clear n0_ n1_ n2_ n3_
          have q38 : (t235 : Int) ≤ ((x5_1.length : Int) : Int) := odt_
          obtain ⟨i038, hi038, _, hsz38, _⟩ := info_parts info45
          have hroom38 : x5_1.length ≤ co34 := (Kd.R_reads' HO_5.out).2.1
          have hC38 : Kd.C k45 _ Ao34 x5_1.length x5_1 := (Kd.R_reads' HO_5.out).2.2
          have hcut38 := cut_to (P := Try.prog) 30 45 .i64 Try.underlying30 hi038 Ao34 x5_1.length co34 t235 (odt_) q38 hroom38
          have hr38 := Kd.C_take (m := (t235 : Int).toNat) hC38 (by omega)
          have hy38 : y245.length = (t235 : Int).toNat := (by rw [Ny245.out, List.length_take]; omega)
          rw [← Ny245.out] at hr38
          rw [← hy38] at hcut38
          have HR248 := Aside0.mk hr38
          have HC248 := Aside0.mk (show y245.length ≤ co34 from by omega)
          clear hr38 hC38 hroom38 hi038 hsz38
          have KY38 := Aside0.mk hy38
          clear hy38
          have KL38 := Aside0.mk (show (t235 : Int).toNat ≤ x5_1.length from by omega)
          replace q38 := eq_true q38
          have q39 : ((ji30) : Int) ≤ ((x5_1.length : Int) : Int) := odt_
          obtain ⟨i039, hi039, _, hsz39, _⟩ := info_parts info45
          have hroom39 : x5_1.length ≤ co34 := (Kd.R_reads' HO_5.out).2.1
          have hC39 : Kd.C k45 _ Ao34 x5_1.length x5_1 := (Kd.R_reads' HO_5.out).2.2
          have q039 : (0 : Int) ≤ ((ji30) : Int) := odt_
          have hcut39 := cut_from (P := Try.prog) 30 45 .i64 Try.underlying30 hi039 2 hsz39 Ao34 x5_1.length co34 (ji30) q039 q39
          have hr39 := Kd.C_drop (m := ((ji30) : Int).toNat) (c := co34) hC39 (by omega) hroom39
          obtain ⟨A39, hA39⟩ : ∃ A1, A1 = (if co34 = ((ji30) : Int).toNat then Ao34 else (Ao34 : Option Addr).map (·.add (((ji30) : Int).toNat * 2))) := ⟨_, rfl⟩
          obtain ⟨c39, hc39⟩ : ∃ c1, c1 = co34 - ((ji30) : Int).toNat := ⟨_, rfl⟩
          have hy39 : y252.length = x5_1.length - ((ji30) : Int).toNat := (by rw [Ny252.out, List.length_drop] <;> omega)
          rw [show (x5_1).drop ((ji30) : Int).toNat = y252 from Ny252.out.symm] at hr39
          replace hr39 : Kd.C k45 _ A39 y252.length y252 := (by rw [hA39]; exact hr39)
          rw [← hy39, ← hA39, ← hc39] at hcut39
          have HR255 := Aside0.mk hr39
          have HC255 := Aside0.mk (show y252.length ≤ c39 from by rw [hy39, hc39]; exact Nat.sub_le_sub_right hroom39 _)
          clear hr39 hC39 hroom39 hi039 hsz39 hc39
          have KY39 := Aside0.mk hy39
          have KA39 := Aside0.mk hA39
          clear hy39 hA39
          have KL39 := Aside0.mk (show ((ji30) : Int).toNat ≤ x5_1.length from by omega)
          replace q39 := eq_true q39
          refine start_ (n := 10) (S := fun w' => True) (ds := []) (fl_ 10 0) (by kernel_rfl) rfl (fl_zero _) trivial (fun hHeld => ?_); refine with_tabW spec_l3Near.tab12 spec_l3Near.bits12 (fun HT_ HW_ => ?_)
          generalize w36.drew = w37 at HO_5 HI0 HK HB HR248 HR255 hHeld ⊢
          iterate 3 refine zp_ HT_ rfl rfl (by kernel_rfl) (fun _ _ _ h => h) (by rfl) ?_
          refine zpg_ (i := 4) (ra_ [3, 1, 1, 5]) HT_ rfl rfl (by kernel_rfl) (fun _ _ _ h => h) (by rfl) ?_
          refine zpg_ (i := 5) (ra_ [3, 1, 2, 4]) HT_ rfl rfl (by kernel_rfl) (fun _ _ _ h => h) (by rfl) ?_
          refine zpg_ (i := 6) (ra_ [3, 1, 3, 3]) HT_ rfl rfl (by kernel_rfl) (fun _ _ _ h => h) (by rfl) ?_
          refine zpg_ (i := 7) (ra_ [3, 1, 4, 2]) HT_ rfl rfl (by kernel_rfl) (fun _ _ _ h => h) (by rfl) ?_
          refine one_ (i := 3) (N := some 66) (fl_ 10 8) rfl rfl (one_of HT_.out (by kernel_rfl)) (by decide) (fun K hK => ?_)
          refine goes_ Try.func45 (by kernel_rfl) rfl #[.slice Ao34 y245.length co34] (by rfl) rfl rfl z4_ ?_
          with_reducible refine (spec_l3Copy.calls _ _ y245 t249 _ ?side1 ?side2 A29.out).mono ?_
          (case side1 => repeat (first | exact z160_ | (with_reducible refine Kd.C_alloc ?_ _) | (with_reducible refine Kd.C_drewN ?_ _) | (with_reducible refine Kd.C_drew ?_)))
          (case side2 => exact HC248.out)
          rintro e w40 ⟨v250, rfl, ho0, hb⟩
          refine ⟨_, rfl, ?_⟩
          have n0_ := Aside0.mk (Kd.R_elder' z5_ (Kd.R_base ho0) hb)
          have n1_ := Aside0.mk (Kd.R_lower (Kd.R_new' ho0 (Kd.R_lt z5_)) (keep_size (w := w) (g := g) (row := none) z1_))
          have n2_ := Aside0.mk (IsS115.below z2_ hb)
          have n3_ := Aside0.mk (Kd.C_below z160_ hb)
          have n4_ := Aside0.mk (Kd.C_below z161_ hb)
          have n5_ := Aside0.mk (KeepBut.trans z1_ (KeepBut.of_below hb g none) (.inl rfl))
          have n6_ := Aside0.mk (below_step z3_ hb)
          clear HO_5
          clear HI0
          clear HR248
          clear HR255
          clear HK
          clear HB
          have HO_5 := n0_
          have HO251 := n1_
          have HI0 := n2_
          have HR248 := n3_
          have HR255 := n4_
          have HK := n5_
          have HB := n6_
          clear n0_ n1_ n2_ n3_ n4_ n5_ n6_
          (try clear hb)
          (try clear hb2)
          (try clear hk)
          (try clear hi)
          (try clear ho0)
          refine hK.out _ _ trivial (fun hHeld => ?_)
          clear hK K
          refine zn_ rfl ?_
          refine one_ (i := 8) (N := some 71) (fl_ 10 9) rfl rfl (one_of HT_.out (by kernel_rfl)) (by decide) (fun K hK => ?_)
          refine Kd.R_append_rows_step k45 w.heap.size (by rfl) (.tmp 66) (.tmp 70) 30 45 (.agg #[(.int .i64 0), (.int .i64 0)]) 16 rfl Try.underlying30 info45 rfl (by decide) (by omega) v250 t249 y252 _ _ _ (fun k_ => some k_ ≠ (.slice Ao34 x5_1.length co34 : Value).ownBlock) (fun _ => False) rfl rfl ?aO ?aR (fun _ _ h => h) (fun _ h => h.elim) ?aF (Below.refl _ _) ?aS ?aL ?_
          (case aR => repeat (first | exact z161_ | (with_reducible refine Kd.C_alloc ?_ _) | (with_reducible refine Kd.C_drewN ?_ _) | (with_reducible refine Kd.C_drew ?_)))
          (case aF => exact z105_)
          (case aO => exact (by (with_reducible repeat (first | apply Kd.R_alloc | apply Kd.R_drewN | apply Kd.R_drew)); exact Kd.R_mono HO251.out (fun _ hk => hk.2)))
          (case aS => exact z33_)
          (case aL => have := LMc33.out; omega)
          intro v257 w41 ho hb hg hat
          rw [← Ny256.out] at ho
          have n0_ := Aside0.mk (Kd.R_after (ok := (fun _ => True)) z5_ hg hat)
          have n1_ := Aside0.mk (IsS115.grown z2_ hg (IsS115.own_ne HI0.out HO251.out (by decide)))
          have n2_ := Aside0.mk (below_weaken z3_ HL.out hb)
          have n3_ := Aside0.mk (KeepBut.trans z1_ (KeepBut.of_grown hg g) (Kd.R_base2 HO251.out))
          have n4_ := Aside0.mk ((show Kd.C k45 w41 Ao34 y245.length y245 from by rw [Ny245.out]; exact Kd.C_take (m := (t235 : Int).toNat) ((Kd.R_reads' (Kd.R_after (ok := (fun _ => True)) z5_ hg hat)).2.2) KL38.out))
          have n5_ := Aside0.mk ((show Kd.C k45 w41 A39 y252.length y252 from by rw [Ny252.out, KA39.out]; exact Kd.C_drop (m := ((ji30) : Int).toNat) (c := co34) ((Kd.R_reads' (Kd.R_after (ok := (fun _ => True)) z5_ hg hat)).2.2) KL39.out ((Kd.R_reads' (Kd.R_after (ok := (fun _ => True)) z5_ hg hat)).2.1)))
          have n6_ := Aside0.mk (ho)
          clear HO_5
          clear HI0
          clear HB
          clear HK
          clear HR248
          clear HR255
          clear HO251
          have HO_5 := n0_
          have HI0 := n1_
          have HB := n2_
          have HK := n3_
          have HR248 := n4_
          have HR255 := n5_
          have HO258 := n6_
          clear n0_ n1_ n2_ n3_ n4_ n5_ n6_
          clear ho hb hg hat
          refine hK.out _ _ trivial (fun hHeld => ?_)
          clear hK K
          refine zn_ rfl ?_
          refine zp_ HT_ rfl rfl (by kernel_rfl) (fun _ _ _ h => h) (by rfl) ?_
          refine done_ (done_of HT_.out (by kernel_rfl)) ?_
          try go_wp2
          go_roundg kj6
          case measure => have := HK1.out; have := HJ6.out; omega
          case rel => exact ⟨(y256), (wrap64 (x6_1 - 1)), (t239), (t240), z9_, H', ⟨z208_⟩, ⟨by (with_reducible repeat (first | apply Kd.R_alloc | apply Kd.R_drewN | apply Kd.R_drew)); exact Kd.R_mono HO258.out (fun _ hk => trivial)⟩, ⟨z2_⟩, ⟨z1_⟩, ⟨z3_⟩⟩
         ·rw [if_neg c26] at H
          have c26b0 := decide_eq_false c26
          have c26b1 : decide (1 < x5_1.length) = false := decide_eq_false (by omega)
          clear c26
          have H' := Aside0.mk H
          clear H
          obtain ⟨Ao42, co42, eo42⟩ := Kd.R_slice HO_5.out
          subst eo42
          go_wp2_with (first | ((with_reducible refine gate_callee (f := 84) rfl ?_); refine goesL_ (some 25) rfl rfl Try.func84 (by kernel_rfl) rfl #[.pointer (some ⟨g, 0, none⟩), .int .i64 (x5_1.length : Int)] rfl z4_ ?_; (with_reducible refine (spec_l1Below.calls g s0_0 x1001_1 x1002_1 (x5_1.length : Int) t235 t236 t237 w0 _ ?side1 ?side2 A11.out).mono ?_); (case side1 => exact z2_); (case side2 => exact z3_); rintro e w43 ⟨rfl, hi, hb, hk⟩; refine ⟨_, rfl, ?_⟩; replace HO_5 := Aside0.mk (Kd.R_mono (Kd.R_keep (IsS115.apart (show IsS115 w0 _ g s0_0 x1001_1 x1002_1 from by repeat (first | (with_reducible first | exact HI0.out | apply IsS115.alloc | apply IsS115.drewN | apply IsS115.drew | apply IsS115.set_1 | apply IsS115.set_2) | exact HI0.out)) z5_ (by decide)) hk (fun _ h => h.2)) (fun _ h => h.1)); replace HK := Aside0.mk (KeepBut.trans z1_ hk (.inl rfl)); replace HB := Aside0.mk (hb); replace HI0 := Aside0.mk (hi); (try clear hb hk hi)) | ((with_reducible refine gate_callee (f := 84) rfl ?_); refine goesL_ (some 27) rfl rfl Try.func84 (by kernel_rfl) rfl #[.pointer (some ⟨g, 0, none⟩), .int .i64 3] rfl z4_ ?_; (with_reducible refine (spec_l1Below.calls g s0_0 t236 t237 3 t238 t239 t240 w0 _ ?side1 ?side2 A12.out).mono ?_); (case side1 => exact z2_); (case side2 => exact z3_); rintro e w44 ⟨rfl, hi, hb, hk⟩; refine ⟨_, rfl, ?_⟩; replace HO_5 := Aside0.mk (Kd.R_mono (Kd.R_keep (IsS115.apart (show IsS115 w0 _ g s0_0 t236 t237 from by repeat (first | (with_reducible first | exact HI0.out | apply IsS115.alloc | apply IsS115.drewN | apply IsS115.drew | apply IsS115.set_1 | apply IsS115.set_2) | exact HI0.out)) z5_ (by decide)) hk (fun _ h => h.2)) (fun _ h => h.1)); replace HK := Aside0.mk (KeepBut.trans z1_ hk (.inl rfl)); replace HB := Aside0.mk (hb); replace HI0 := Aside0.mk (hi); (try clear hb hk hi)))
          go_roundg kj6
          case measure => have := HK1.out; have := HJ6.out; omega
          case rel => exact ⟨(x5_1), (wrap64 (x6_1 - 1)), (t239), (t240), z9_, H', ⟨z208_⟩, ⟨z5_⟩, ⟨z2_⟩, ⟨z1_⟩, ⟨z3_⟩⟩
        ·rw [if_neg c25] at H
         have c25b0 := decide_eq_false c25
         clear c25
         have H' := Aside0.mk H
         clear H
         obtain ⟨Ao45, co45, eo45⟩ := Kd.R_slice HO_5.out
         subst eo45
         go_wp2_with (first | ((with_reducible refine gate_callee (f := 84) rfl ?_); refine goesL_ (some 25) rfl rfl Try.func84 (by kernel_rfl) rfl #[.pointer (some ⟨g, 0, none⟩), .int .i64 (x5_1.length : Int)] rfl z4_ ?_; (with_reducible refine (spec_l1Below.calls g s0_0 x1001_1 x1002_1 (x5_1.length : Int) t235 t236 t237 w0 _ ?side1 ?side2 A11.out).mono ?_); (case side1 => exact z2_); (case side2 => exact z3_); rintro e w46 ⟨rfl, hi, hb, hk⟩; refine ⟨_, rfl, ?_⟩; replace HO_5 := Aside0.mk (Kd.R_mono (Kd.R_keep (IsS115.apart (show IsS115 w0 _ g s0_0 x1001_1 x1002_1 from by repeat (first | (with_reducible first | exact HI0.out | apply IsS115.alloc | apply IsS115.drewN | apply IsS115.drew | apply IsS115.set_1 | apply IsS115.set_2) | exact HI0.out)) z5_ (by decide)) hk (fun _ h => h.2)) (fun _ h => h.1)); replace HK := Aside0.mk (KeepBut.trans z1_ hk (.inl rfl)); replace HB := Aside0.mk (hb); replace HI0 := Aside0.mk (hi); (try clear hb hk hi)) | ((with_reducible refine gate_callee (f := 84) rfl ?_); refine goesL_ (some 27) rfl rfl Try.func84 (by kernel_rfl) rfl #[.pointer (some ⟨g, 0, none⟩), .int .i64 3] rfl z4_ ?_; (with_reducible refine (spec_l1Below.calls g s0_0 t236 t237 3 t238 t239 t240 w0 _ ?side1 ?side2 A12.out).mono ?_); (case side1 => exact z2_); (case side2 => exact z3_); rintro e w47 ⟨rfl, hi, hb, hk⟩; refine ⟨_, rfl, ?_⟩; replace HO_5 := Aside0.mk (Kd.R_mono (Kd.R_keep (IsS115.apart (show IsS115 w0 _ g s0_0 t236 t237 from by repeat (first | (with_reducible first | exact HI0.out | apply IsS115.alloc | apply IsS115.drewN | apply IsS115.drew | apply IsS115.set_1 | apply IsS115.set_2) | exact HI0.out)) z5_ (by decide)) hk (fun _ h => h.2)) (fun _ h => h.1)); replace HK := Aside0.mk (KeepBut.trans z1_ hk (.inl rfl)); replace HB := Aside0.mk (hb); replace HI0 := Aside0.mk (hi); (try clear hb hk hi)))
         go_roundg kj6
         case measure => have := HK1.out; have := HJ6.out; omega
         case rel => exact ⟨(x5_1), (wrap64 (x6_1 - 1)), (t239), (t240), z9_, H', ⟨z208_⟩, ⟨z5_⟩, ⟨z2_⟩, ⟨z1_⟩, ⟨z3_⟩⟩
       ·rw [if_neg c24] at H
        have c24b0 : (t238 == 1) = false := beq_eq_false_iff_ne.mpr c24
        have c24b1 : (t238 != 1) = true := bne_iff_ne.mpr c24
        obtain ⟨t259, A48, H⟩ := bnd_ H
        replace H := Option.bind_eq_some_iff.mp H
        obtain ⟨⟨t262, t263, t264⟩, A490, H⟩ := H
        try dsimp only at H
        have A49 := Aside0.mk A490
        clear A490
        obtain ⟨ji50, hji50⟩ : ∃ j_ : Int, (wrap64 ((x5_1.length : Int) - 1)) = j_ := ⟨_, rfl⟩
        first | rw [hji50] at H | simp only [hji50] at H
        (try rw [hji50] at A11)
        (try rw [hji50] at A12)
        (try rw [hji50] at A48)
        (try rw [hji50] at A49)
        have hji50w : (IntKind.i64.wrap ((x5_1.length : Int) - 1)) = ji50 := (i64_w _).trans hji50
        obtain ⟨c51b0, H⟩ := ifd_ H
        obtain ⟨c52b0, H⟩ := ifd_ H
        replace H := Option.bind_eq_some_iff.mp H
        obtain ⟨⟨t266, t267, t268⟩, A530, H⟩ := H
        try dsimp only at H
        have A53 := Aside0.mk A530
        clear A530
        obtain ⟨c54, H⟩ := ifs_ H
        have LMc54 := Aside0.mk c54
        clear c54
        first | ((with_reducible have hz_ := gy_ H); obtain ⟨y269, Ny269, H⟩ := hz_) | (generalize hy_ : ((t259 ++ [(⟨t262, wrap64 (1 + t266)⟩ : S45)]) : List (S45)) = y269 at H; have Ny269 := Aside0.mk hy_.symm; clear hy_)
        have H' := Aside0.mk H
        clear H
        obtain ⟨Ao55, co55, eo55⟩ := Kd.R_slice HO_5.out
        subst eo55
        try go_wp2_with (first | ((with_reducible refine gate_callee (f := 84) rfl ?_); refine goesL_ (some 25) rfl rfl Try.func84 (by kernel_rfl) rfl #[.pointer (some ⟨g, 0, none⟩), .int .i64 (x5_1.length : Int)] rfl z4_ ?_; (with_reducible refine (spec_l1Below.calls g s0_0 x1001_1 x1002_1 (x5_1.length : Int) t235 t236 t237 w0 _ ?side1 ?side2 A11.out).mono ?_); (case side1 => exact z2_); (case side2 => exact z3_); rintro e w56 ⟨rfl, hi, hb, hk⟩; refine ⟨_, rfl, ?_⟩; replace HO_5 := Aside0.mk (Kd.R_mono (Kd.R_keep (IsS115.apart (show IsS115 w0 _ g s0_0 x1001_1 x1002_1 from by repeat (first | (with_reducible first | exact HI0.out | apply IsS115.alloc | apply IsS115.drewN | apply IsS115.drew | apply IsS115.set_1 | apply IsS115.set_2) | exact HI0.out)) z5_ (by decide)) hk (fun _ h => h.2)) (fun _ h => h.1)); replace HK := Aside0.mk (KeepBut.trans z1_ hk (.inl rfl)); replace HB := Aside0.mk (hb); replace HI0 := Aside0.mk (hi); (try clear hb hk hi)) | ((with_reducible refine gate_callee (f := 84) rfl ?_); refine goesL_ (some 27) rfl rfl Try.func84 (by kernel_rfl) rfl #[.pointer (some ⟨g, 0, none⟩), .int .i64 3] rfl z4_ ?_; (with_reducible refine (spec_l1Below.calls g s0_0 t236 t237 3 t238 t239 t240 w0 _ ?side1 ?side2 A12.out).mono ?_); (case side1 => exact z2_); (case side2 => exact z3_); rintro e w57 ⟨rfl, hi, hb, hk⟩; refine ⟨_, rfl, ?_⟩; replace HO_5 := Aside0.mk (Kd.R_mono (Kd.R_keep (IsS115.apart (show IsS115 w0 _ g s0_0 t236 t237 from by repeat (first | (with_reducible first | exact HI0.out | apply IsS115.alloc | apply IsS115.drewN | apply IsS115.drew | apply IsS115.set_1 | apply IsS115.set_2) | exact HI0.out)) z5_ (by decide)) hk (fun _ h => h.2)) (fun _ h => h.1)); replace HK := Aside0.mk (KeepBut.trans z1_ hk (.inl rfl)); replace HB := Aside0.mk (hb); replace HI0 := Aside0.mk (hi); (try clear hb hk hi)))
        have n0_ := Aside0.mk (Kd.R_drew HO_5.out)
        have n1_ := Aside0.mk (IsS115.drew HI0.out)
        have n2_ := Aside0.mk (keep_drew HK.out)
        have n3_ := Aside0.mk (below_drew1 HB.out)
        clear HO_5
        clear HI0
        clear HK
        clear HB
        have HO_5 := n0_
        have HI0 := n1_
        have HK := n2_
        have HB := n3_
        clear n0_ n1_ n2_ n3_
        have p265 : 0 ≤ ((ji50) : Int) := odt_
        have q265 : (ji50) < (x5_1.length : Int) := odt_
        obtain ⟨ad265, e265, hx265_0, hx265_1⟩ := at_T45 (Kd.R_reads' HO_5.out).2.2 (ji50) p265 q265
        cases e265
        replace p265 := eq_true p265
        replace q265 := eq_true q265
        refine start_ (n := 19) (S := fun w' => w'.cell? (ad265.add (((ji50)).toNat * 2)) = some (.int .i64 ((rd_T45 x5_1 (ji50)).f0)) ∧ w'.cell? ⟨(ad265.add (((ji50)).toNat * 2)).block, (ad265.add (((ji50)).toNat * 2)).off + 1, none⟩ = some (.int .i64 ((rd_T45 x5_1 (ji50)).f1))) (ds := [16, 17]) (fl_ 19 0) (by kernel_rfl) rfl (fl_zero _) ⟨hx265_0, hx265_1⟩ (fun hHeld => ?_); refine with_tabW spec_l3Near.tab7 spec_l3Near.bits7 (fun HT_ HW_ => ?_)
        generalize w57.drew = w58 at HO_5 HI0 HK HB hx265_0 hx265_1 hHeld ⊢
        refine zp_ HT_ rfl rfl (by kernel_rfl) (fun _ _ _ h => h) (by rfl) ?_
        refine zpg_ (i := 2) (ra_ [1, 1, 1, 16]) HT_ rfl rfl (by kernel_rfl) (fun _ _ _ h => h) (by rfl) ?_
        refine zpg_ (i := 4) (ra_ [1, 1, 1, 1, 1, 14]) HT_ rfl rfl (by kernel_rfl) (fun _ _ _ h => h) (by rfl) ?_
        refine zpg_ (i := 5) (ra_ [1, 1, 1, 1, 2, 13]) HT_ rfl rfl (by kernel_rfl) (fun _ _ _ h => h) (by rfl) ?_
        refine zpg_ (i := 6) (ra_ [1, 1, 1, 1, 3, 12]) HT_ rfl rfl (by kernel_rfl) (fun _ _ _ h => h) (by rfl) ?_
        refine zpg_ (i := 7) (ra_ [1, 1, 1, 1, 4, 11]) HT_ rfl rfl (by kernel_rfl) (fun _ _ _ h => h) (by rfl) ?_
        refine zpg_ (i := 8) (ra_ [1, 1, 1, 1, 5, 10]) HT_ rfl rfl (by kernel_rfl) (fun _ _ _ h => h) (by rfl) ?_
        refine zpg_ (i := 9) (ra_ [1, 1, 1, 1, 6, 9]) HT_ rfl rfl (by kernel_rfl) (fun _ _ _ h => h) (by rfl) ?_
        refine zpg_ (i := 10) (ra_ [1, 1, 1, 1, 7, 8]) HT_ rfl rfl (by kernel_rfl) (fun _ _ _ h => h) (by rfl) ?_
        refine ztg_ (i := 11) (ra_ [1, 1, 1, 1, 8, 7]) HT_ HW_ rfl rfl (by kernel_rfl) (fun _ _ _ h => h) (by rfl) hHeld ?_ z111_
        refine zpg_ (i := 12) (ra_ [1, 1, 1, 1, 9, 6]) HT_ rfl rfl (by kernel_rfl) (fun _ _ _ h => h) (by rfl) ?_
        refine one_ (i := 1) (N := some 29) (ra_ [3, 1, 9, 6]) rfl rfl (one_of HT_.out (by kernel_rfl)) (by decide) (fun K hK => ?_)
        refine goes_ Try.func45 (by kernel_rfl) rfl #[.slice (some ad265) x5_1.length co55] (by rfl) rfl rfl z4_ ?_
        with_reducible refine (spec_l3Copy.calls _ _ x5_1 t259 _ ?side1 ?side2 A48.out).mono ?_
        (case side1 => exact z136_)
        (case side2 => exact (Kd.R_reads' HO_5.out).2.1)
        rintro e w59 ⟨v260, rfl, ho0, hb⟩
        have HS0_ := (hb.cell (World.block_lt_of_cell? _ _ (hHeld.1))).trans (hHeld.1)
        have HS1_ := (hb.cell (World.block_lt_of_cell? _ _ (hHeld.2))).trans (hHeld.2)
        refine ⟨_, rfl, ?_⟩
        have n0_ := Aside0.mk (Kd.R_elder' z5_ (Kd.R_base ho0) hb)
        have n1_ := Aside0.mk (Kd.R_lower (Kd.R_new' ho0 (Kd.R_lt z5_)) (keep_size (w := w) (g := g) (row := none) z1_))
        have n2_ := Aside0.mk (IsS115.below z2_ hb)
        have n3_ := Aside0.mk (KeepBut.trans z1_ (KeepBut.of_below hb g none) (.inl rfl))
        have n4_ := Aside0.mk (below_step z3_ hb)
        clear HO_5
        clear HI0
        clear HK
        clear HB
        have HO_5 := n0_
        have HO261 := n1_
        have HI0 := n2_
        have HK := n3_
        have HB := n4_
        clear n0_ n1_ n2_ n3_ n4_
        (try clear hb)
        (try clear hb2)
        (try clear hk)
        (try clear hi)
        (try clear ho0)
        refine hK.out _ _ ⟨HS0_, HS1_⟩ (fun hHeld => ?_)
        clear hK K
        refine zn_ rfl ?_
        refine one_ (i := 3) (N := some 31) (fl_ 19 13) rfl rfl (one_of HT_.out (by kernel_rfl)) (by decide) (fun K hK => ?_)
        refine goes_ Try.func104 (by kernel_rfl) rfl #[.pointer (some ⟨g, 0, none⟩)] (by rfl) rfl rfl z4_ ?_
        with_reducible refine (spec_l2Label.calls g s0_0 t239 t240 t262 t263 t264 w0 _ ?side1 ?side2 A49.out).mono ?_
        (case side1 => exact z2_)
        (case side2 => exact z3_)
        rintro e w60 ⟨rfl, hi, hb, hk⟩
        have HS0_ := keep_cell hk (hHeld.1) z82_
        have HS1_ := keep_cell hk (hHeld.2) z82_
        refine ⟨_, rfl, ?_⟩
        have n0_ := Aside0.mk (Kd.R_mono (Kd.R_keep (IsS115.apart (show IsS115 w0 _ g s0_0 t239 t240 from by repeat (first | (with_reducible first | exact HI0.out | apply IsS115.alloc | apply IsS115.drewN | apply IsS115.drew | apply IsS115.set_1 | apply IsS115.set_2) | exact HI0.out)) z5_ (by decide)) hk (fun _ h => h.2)) (fun _ h => h.1))
        have n1_ := Aside0.mk (Kd.R_mono (Kd.R_keep (IsS115.apart (show IsS115 w0 _ g s0_0 t239 t240 from by repeat (first | (with_reducible first | exact HI0.out | apply IsS115.alloc | apply IsS115.drewN | apply IsS115.drew | apply IsS115.set_1 | apply IsS115.set_2) | exact HI0.out)) z199_ (by decide)) hk (fun _ h => h.2)) (fun _ h => h.1))
        have n2_ := Aside0.mk (KeepBut.trans z1_ hk (.inl rfl))
        have n3_ := Aside0.mk (hb)
        have n4_ := Aside0.mk (hi)
        clear HO_5
        clear HO261
        clear HK
        clear HB
        clear HI0
        have HO_5 := n0_
        have HO261 := n1_
        have HK := n2_
        have HB := n3_
        have HI0 := n4_
        clear n0_ n1_ n2_ n3_ n4_
        (try clear hb)
        (try clear hb2)
        (try clear hk)
        (try clear hi)
        refine hK.out _ _ ⟨HS0_, HS1_⟩ (fun hHeld => ?_)
        clear hK K
        refine zn_ rfl ?_
        refine one_ (i := 13) (N := some 41) (fl_ 19 14) rfl rfl (one_of HT_.out (by kernel_rfl)) (by decide) (fun K hK => ?_)
        refine goes_ Try.func84 (by kernel_rfl) rfl #[.pointer (some ⟨g, 0, none⟩), .int .i64 (wrap64 (((rd_T45 x5_1 (ji50)).f1) + 1))] (by rfl) rfl rfl (by (try simp only [List.map_toArray, List.map_cons, List.map_nil]); first | done | (simp only [hji50]; rfl) | rfl | (simp only [List.length_drop, List.length_take]; rfl)) ?_
        with_reducible refine (spec_l1Below.calls g s0_0 t263 t264 (wrap64 (((rd_T45 x5_1 (ji50)).f1) + 1)) t266 t267 t268 w0 _ ?side1 ?side2 A53.out).mono ?_
        (case side1 => exact z2_)
        (case side2 => exact z3_)
        rintro e w61 ⟨rfl, hi, hb, hk⟩
        have HS0_ := keep_cell hk (hHeld.1) z82_
        have HS1_ := keep_cell hk (hHeld.2) z82_
        refine ⟨_, rfl, ?_⟩
        have n0_ := Aside0.mk (Kd.R_mono (Kd.R_keep (IsS115.apart (show IsS115 w0 _ g s0_0 t263 t264 from by repeat (first | (with_reducible first | exact HI0.out | apply IsS115.alloc | apply IsS115.drewN | apply IsS115.drew | apply IsS115.set_1 | apply IsS115.set_2) | exact HI0.out)) z5_ (by decide)) hk (fun _ h => h.2)) (fun _ h => h.1))
        have n1_ := Aside0.mk (Kd.R_mono (Kd.R_keep (IsS115.apart (show IsS115 w0 _ g s0_0 t263 t264 from by repeat (first | (with_reducible first | exact HI0.out | apply IsS115.alloc | apply IsS115.drewN | apply IsS115.drew | apply IsS115.set_1 | apply IsS115.set_2) | exact HI0.out)) z199_ (by decide)) hk (fun _ h => h.2)) (fun _ h => h.1))
        have n2_ := Aside0.mk (KeepBut.trans z1_ hk (.inl rfl))
        have n3_ := Aside0.mk (hb)
        have n4_ := Aside0.mk (hi)
        clear HO_5
        clear HO261
        clear HK
        clear HB
        clear HI0
        have HO_5 := n0_
        have HO261 := n1_
        have HK := n2_
        have HB := n3_
        have HI0 := n4_
        clear n0_ n1_ n2_ n3_ n4_
        (try clear hb)
        (try clear hb2)
        (try clear hk)
        (try clear hi)
        refine hK.out _ _ ⟨HS0_, HS1_⟩ (fun hHeld => ?_)
        clear hK K
        refine zn_ rfl ?_
        iterate 2 refine zp_ HT_ rfl rfl (by kernel_rfl) (fun _ _ _ h => h) (by rfl) ?_
        refine last_ (i := 16) (N := some 44) (fl_ 19 17) rfl rfl (one_of HT_.out (by kernel_rfl)) (by decide) (fun K hK => ?_)
        refine value_ (w1 := ?_) (v := ?_) (by rfl) rfl ?_ ?_
        rotate_left 2
        ·go_simp
         constructor
         ·rfl
         ·rfl
        refine hK.out _ _ ?_
        clear hK K
        refine zn_ rfl ?_
        refine last_ (i := 17) (N := some 45) (fl_ 19 18) rfl rfl (one_of HT_.out (by kernel_rfl)) (by decide) (fun K hK => ?_)
        refine Kd.R_append_step k45 w.heap.size (by rfl) (.tmp 29) (.tmp 44) 30 45 (.agg #[(.int .i64 0), (.int .i64 0)]) 16 rfl Try.underlying30 info45 rfl (by decide) (by omega) v260 t259 (⟨t262, wrap64 (1 + t266)⟩ : S45) [.int .i64 t262, .int .i64 (wrap64 (1 + t266))] (fun k_ => some k_ ≠ (.slice (some ad265) x5_1.length co55 : Value).ownBlock) (fun _ => False) rfl rfl ?aP (fun _ hk => hk.elim) ?aF ?aO (Below.refl _ _) ?aS ?aL ?_
        (case aP => exact k45_mkM _ _ _ (⟨t262, wrap64 (1 + t266)⟩ : S45))
        (case aF => exact z105_)
        (case aO => exact (by (with_reducible repeat (first | apply Kd.R_alloc | apply Kd.R_drewN | apply Kd.R_drew)); exact Kd.R_mono HO261.out (fun _ hk => hk.2)))
        (case aS => exact z33_)
        (case aL => have := LMc54.out; omega)
        intro v270 w62 ho hb hg hat
        rw [← Ny269.out] at ho
        have n0_ := Aside0.mk (Kd.R_after (ok := (fun _ => True)) z5_ hg hat)
        have n1_ := Aside0.mk (IsS115.grown z2_ hg (IsS115.own_ne HI0.out HO261.out (by decide)))
        have n2_ := Aside0.mk (below_weaken z3_ HL.out hb)
        have n3_ := Aside0.mk (KeepBut.trans z1_ (KeepBut.of_grown hg g) (Kd.R_base2 HO261.out))
        have n4_ := Aside0.mk (ho)
        clear HO_5
        clear HI0
        clear HB
        clear HK
        clear HO261
        have HO_5 := n0_
        have HI0 := n1_
        have HB := n2_
        have HK := n3_
        have HO271 := n4_
        clear n0_ n1_ n2_ n3_ n4_
        clear ho hb hg hat
        refine hK.out _ _ ?_
        clear hK K
        refine zn_ rfl ?_
        refine zp_ HT_ rfl rfl (by kernel_rfl) (fun _ _ _ h => h) (by rfl) ?_
        refine done_ (done_of HT_.out (by kernel_rfl)) ?_
        try go_wp2
        go_roundg kj6
        case measure => have := HK1.out; have := HJ6.out; omega
        case rel => exact ⟨(y269), (wrap64 (x6_1 - 1)), (t267), (t268), z9_, H', ⟨z208_⟩, ⟨by (with_reducible repeat (first | apply Kd.R_alloc | apply Kd.R_drewN | apply Kd.R_drew)); exact Kd.R_mono HO271.out (fun _ hk => trivial)⟩, ⟨z2_⟩, ⟨z1_⟩, ⟨z3_⟩⟩
     ·replace c10 := Bool.eq_false_iff.mpr c10
      subst c10
      replace H := iff_ H
      obtain ⟨t272, A63, H⟩ := bnd_ H
      by_cases c64 : t272 = true
      ·subst c64
       replace H := ift_ H
       simp only [Option.some.injEq, Prod.mk.injEq] at H
       obtain ⟨rfl, rfl, rfl⟩ := H
       obtain ⟨Ao65, co65, eo65⟩ := Kd.R_slice HO_5.out
       subst eo65
       go_wp2_with (first | ((with_reducible refine gate_callee (f := 16) rfl ?_); refine goesL_ (some 73) rfl rfl Try.func16 (by kernel_rfl) rfl #[.slice Ao65 x5_1.length co65] rfl z4_ ?_; (with_reducible refine (spec_TreeOk.calls kj6 _ _ x5_1 true _ ?side1 ?side2 A63.out).mono ?_); (case side1 => exact z136_); (case side2 => exact (Kd.R_reads' HO_5.out).2.1); rintro e w66 ⟨rfl, hb⟩; refine ⟨_, rfl, ?_⟩; replace HO_5 := Aside0.mk (Kd.R_below z5_ hb); replace HK := Aside0.mk (KeepBut.trans z1_ (KeepBut.of_below hb g none) (.inl rfl)); replace HB := Aside0.mk (below_step z3_ hb); replace HI0 := Aside0.mk (IsS115.below z2_ hb); (try clear hb)))
       go_ret
       exact ⟨_, z7_, z5_, z2_, z3_, z1_⟩
      ·replace c64 := Bool.eq_false_iff.mpr c64
       subst c64
       replace H := iff_ H
       replace H := Option.bind_eq_some_iff.mp H
       obtain ⟨⟨t273, t276, t277⟩, A670, H⟩ := H
       try dsimp only at H
       have A67 := Aside0.mk A670
       clear A670
       simp only [Option.some.injEq, Prod.mk.injEq] at H
       obtain ⟨rfl, rfl, rfl⟩ := H
       obtain ⟨Ao68, co68, eo68⟩ := Kd.R_slice HO_5.out
       subst eo68
       go_wp2_with (first | ((with_reducible refine gate_callee (f := 16) rfl ?_); refine goesL_ (some 73) rfl rfl Try.func16 (by kernel_rfl) rfl #[.slice Ao68 x5_1.length co68] rfl z4_ ?_; (with_reducible refine (spec_TreeOk.calls kj6 _ _ x5_1 false _ ?side1 ?side2 A63.out).mono ?_); (case side1 => exact z136_); (case side2 => exact (Kd.R_reads' HO_5.out).2.1); rintro e w69 ⟨rfl, hb⟩; refine ⟨_, rfl, ?_⟩; replace HO_5 := Aside0.mk (Kd.R_below z5_ hb); replace HK := Aside0.mk (KeepBut.trans z1_ (KeepBut.of_below hb g none) (.inl rfl)); replace HB := Aside0.mk (below_step z3_ hb); replace HI0 := Aside0.mk (IsS115.below z2_ hb); (try clear hb)) | ((with_reducible refine gate_callee (f := 83) rfl ?_); refine goesL_ (some 76) rfl rfl Try.func83 (by kernel_rfl) rfl #[.pointer (some ⟨g, 0, none⟩), .int .i64 8] rfl z4_ ?_; (with_reducible refine (spec_l3Tree.calls kj6 g s0_0 x1001_1 x1002_1 8 t273 t276 t277 w0 _ ?side1 ?side2 A67.out).mono ?_); (case side1 => exact z2_); (case side2 => exact z3_); rintro e w70 ⟨v274, rfl, ho0, hi, hb, hk⟩; refine ⟨_, rfl, ?_⟩; have HO275 := Aside0.mk (Kd.R_lower (Kd.R_new' ho0 (Kd.R_lt z5_)) (keep_size (w := w) (g := g) (row := none) z1_)); replace HO_5 := Aside0.mk (Kd.R_mono (Kd.R_told (Kd.R_oldK (IsS115.apart (show IsS115 w0 _ g s0_0 x1001_1 x1002_1 from by repeat (first | (with_reducible first | exact HI0.out | apply IsS115.alloc | apply IsS115.drewN | apply IsS115.drew | apply IsS115.set_1 | apply IsS115.set_2) | exact HI0.out)) z5_ (by decide)) hk) (Kd.R_base ho0)) (fun _ h_ => h_.1)); replace HK := Aside0.mk (KeepBut.trans z1_ hk (.inl rfl)); replace HB := Aside0.mk (hb); replace HI0 := Aside0.mk (hi); (try clear hb hk hi ho0)))
       go_ret
       exact ⟨_, z7_, by (with_reducible repeat (first | apply Kd.R_alloc | apply Kd.R_drewN | apply Kd.R_drew)); exact Kd.R_mono HO275.out (fun _ hk => trivial), z2_, z3_, z1_⟩

end Go.Proofs.Ytbiffnahknkoiaa.PFnKept
