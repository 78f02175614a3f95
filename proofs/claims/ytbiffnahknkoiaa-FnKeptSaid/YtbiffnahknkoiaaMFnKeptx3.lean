/- Laid by a program of this session out of the kit's print for the law FnKept: what it says of the machine is proved here, function by function; each contract under the conditions that it names. -/
import Derived.Test.YtbiffnahknkoiaaMFnKeptx0
import Derived.Test.YtbiffnahknkoiaaMFnKeptx2
namespace Go.Proofs.Ytbiffnahknkoiaa.PFnKept
open Go.RowKit Go.Proofs.YtbiffnahknkoiaaW.PrintWords Go.Proofs.YtbiffnahknkoiaaW.PrintLast Go.Proofs.YtbiffnahknkoiaaW.PrintMore
attribute [local go_sem] max2_int min2_int max_two min_two max_three min_three max_four min_four   -- for this text's walks alone
set_option linter.unusedVariables false
set_option linter.unusedSimpArgs false

/-! ### spec_l3Any: function 50 -/
mutual
def spec_l3Any.l0 : Nat → List (S45) → List Int → Int → Int → Option ((List (S45)) × Int × Int)
 | 0, _, _, _, _ => none
 | k + 1, x5, x1000, x1001, x1002 => (spec_l1Below.f x1000 x1001 x1002 2).bind fun bt199 => (if (x5.length : Int) < (wrap64 (24 + bt199.1)) then (if x5.length < 8796093022208 then (spec_l3Any.l0 k (x5 ++ [(⟨1, 1⟩ : S45)]) x1000 bt199.2.1 bt199.2.2) else (none)) else (some (x5, bt199.2.1, bt199.2.2)))
def spec_l3Any.l1 : Nat → List (S45) → List Int → Int → Int → Option ((List (S45)) × Int × Int)
 | 0, _, _, _, _ => none
 | k + 1, x5, x1000, x1001, x1002 => (spec_l1Below.f x1000 x1001 x1002 2).bind fun bt208 => (if (x5.length : Int) < (wrap64 (13 + bt208.1)) then (if x5.length < 8796093022208 then (spec_l3Any.l1 k (x5 ++ [(⟨0, (x5.length : Int)⟩ : S45)]) x1000 bt208.2.1 bt208.2.2) else (none)) else (some (x5, bt208.2.1, bt208.2.2)))
end
def spec_l3Any.f (k : Nat) (s0_0 : List Int) (s0_1 : Int) (s0_2 : Int) (a1 : Int) : Option ((List (S45)) × Int × Int) := (spec_l3Tree.f k s0_0 s0_1 s0_2 a1).bind fun bt173 => ((spec_l1Below.f s0_0 bt173.2.1 bt173.2.2 (bt173.1.length : Int)).bind fun bt178 => ((spec_l1Below.f s0_0 bt178.2.1 bt178.2.2 18).bind fun bt181 => (if bt181.1 = 0 then ((spec_l2Any.f s0_0 bt181.2.1 bt181.2.2).bind fun bt184 => (if 0 ≤ bt178.1 then (if bt178.1 < (bt173.1.length : Int) then (some ((bt173.1.set (bt178.1 : Int).toNat (⟨bt184.1, (rd_T45 bt173.1 bt178.1).f1⟩ : S45)), bt184.2.1, bt184.2.2)) else (none)) else (none))) else (if bt181.1 = 1 then (if 0 ≤ bt178.1 then (if bt178.1 < (bt173.1.length : Int) then ((spec_l1PickInt.f s0_0 bt181.2.1 bt181.2.2 (([(-1), 0, 1, 13, wrap64 (((rd_T45 bt173.1 bt178.1).f1) + 1)] : List Int))).bind fun bt192 => (some ((bt173.1.set (bt178.1 : Int).toNat (⟨(rd_T45 bt173.1 bt178.1).f0, bt192.1⟩ : S45)), bt192.2.1, bt192.2.2))) else (none)) else (none)) else (if bt181.1 = 2 then (if 1 ≤ (bt173.1.length : Int) then (some ((bt173.1.drop (1 : Int).toNat), bt181.2.1, bt181.2.2)) else (none)) else (if bt181.1 = 3 then (spec_l3Any.l0 k bt173.1 s0_0 bt181.2.1 bt181.2.2) else (if bt181.1 = 4 then (spec_l3Any.l1 k (([(⟨0, 0⟩ : S45)] : List (S45))) s0_0 bt181.2.1 bt181.2.2) else (some (bt173.1, bt181.2.1, bt181.2.2)))))))))
set_option maxHeartbeats 8000000 in
set_option maxRecDepth 100000 in
theorem spec_l3Any.calls (k : Nat) (g : Nat) (s0_0 : List Int) (s0_1 : Int) (s0_2 : Int) (a1 : Int) (r1 : List (S45)) (r2 : Int) (r3 : Int) (w0 w : World) (hI : IsS115 w0 w g s0_0 s0_1 s0_2) (hB : Below w0.heap.size w0 w) (h : spec_l3Any.f k s0_0 s0_1 s0_2 a1 = some (r1, r2, r3)) :
  Calls Try.prog 50 #[.pointer (some ⟨g, 0, none⟩), .int .i64 a1] w fun e w' => ∃ v0_ : Value, e = .returned (v0_) ∧ Kd.Q k45 45 w' w.heap.size (fun _ => True) v0_ r1 ∧ IsS115 w0 w' g s0_0 r2 r3 ∧ Below w0.heap.size w0 w' ∧ KeepBut w w' g none := by
 have hu45 := Try.underlying45
 have HI0 := Aside0.mk hI
 have HK := Aside0.mk (KeepBut.refl w g none)
 have HL := Aside0.mk hB.size
 clear hI
 have HW0 := Aside0.mk hB.size
 have HB := Aside0.mk hB
 clear hB
 have H : ((spec_l3Tree.f k s0_0 s0_1 s0_2 a1).bind fun bt173 => ((spec_l1Below.f s0_0 bt173.2.1 bt173.2.2 (bt173.1.length : Int)).bind fun bt178 => ((spec_l1Below.f s0_0 bt178.2.1 bt178.2.2 18).bind fun bt181 => (if bt181.1 = 0 then ((spec_l2Any.f s0_0 bt181.2.1 bt181.2.2).bind fun bt184 => (if 0 ≤ bt178.1 then (if bt178.1 < (bt173.1.length : Int) then (some ((bt173.1.set (bt178.1 : Int).toNat (⟨bt184.1, (rd_T45 bt173.1 bt178.1).f1⟩ : S45)), bt184.2.1, bt184.2.2)) else (none)) else (none))) else (if bt181.1 = 1 then (if 0 ≤ bt178.1 then (if bt178.1 < (bt173.1.length : Int) then ((spec_l1PickInt.f s0_0 bt181.2.1 bt181.2.2 (([(-1), 0, 1, 13, wrap64 (((rd_T45 bt173.1 bt178.1).f1) + 1)] : List Int))).bind fun bt192 => (some ((bt173.1.set (bt178.1 : Int).toNat (⟨(rd_T45 bt173.1 bt178.1).f0, bt192.1⟩ : S45)), bt192.2.1, bt192.2.2))) else (none)) else (none)) else (if bt181.1 = 2 then (if 1 ≤ (bt173.1.length : Int) then (some ((bt173.1.drop (1 : Int).toNat), bt181.2.1, bt181.2.2)) else (none)) else (if bt181.1 = 3 then (spec_l3Any.l0 k bt173.1 s0_0 bt181.2.1 bt181.2.2) else (if bt181.1 = 4 then (spec_l3Any.l1 k (([(⟨0, 0⟩ : S45)] : List (S45))) s0_0 bt181.2.1 bt181.2.2) else (some (bt173.1, bt181.2.1, bt181.2.2)))))))))) = some (r1, r2, r3) := h
 clear h
 replace H := Option.bind_eq_some_iff.mp H
 obtain ⟨⟨t173, t176, t177⟩, A30, H⟩ := H
 try dsimp only at H
 have A3 := Aside0.mk A30
 clear A30
 replace H := Option.bind_eq_some_iff.mp H
 obtain ⟨⟨t178, t179, t180⟩, A40, H⟩ := H
 try dsimp only at H
 have A4 := Aside0.mk A40
 clear A40
 replace H := Option.bind_eq_some_iff.mp H
 obtain ⟨⟨t181, t182, t183⟩, A50, H⟩ := H
 try dsimp only at H
 have A5 := Aside0.mk A50
 clear A50
 by_cases c6 : t181 = 0
 ·rw [if_pos c6] at H
  have c6b0 : (t181 == 0) = true := beq_iff_eq.mpr c6
  have c6b1 : (t181 != 0) = false := bne_eq_false_iff_eq.mpr c6
  clear c6
  replace H := Option.bind_eq_some_iff.mp H
  obtain ⟨⟨t184, t185, t186⟩, A70, H⟩ := H
  try dsimp only at H
  have A7 := Aside0.mk A70
  clear A70
  obtain ⟨c8b0, H⟩ := ifd_ H
  obtain ⟨c9b0, H⟩ := ifd_ H
  first | ((with_reducible have hz_ := gy_ H); obtain ⟨y187, Ny187, H⟩ := hz_) | (generalize hy_ : ((t173.set (t178 : Int).toNat (⟨t184, (rd_T45 t173 t178).f1⟩ : S45)) : List (S45)) = y187 at H; have Ny187 := Aside0.mk hy_.symm; clear hy_)
  simp only [Option.some.injEq, Prod.mk.injEq] at H
  obtain ⟨rfl, rfl, rfl⟩ := H
  go_enter Try.func50, Try.ntmps50
  go_wp2_with (first | ((with_reducible refine gate_callee (f := 83) rfl ?_); refine goesL_ (some 9) rfl rfl Try.func83 (by kernel_rfl) rfl #[.pointer (some ⟨g, 0, none⟩), .int .i64 a1] rfl z4_ ?_; (with_reducible refine (spec_l3Tree.calls k g s0_0 s0_1 s0_2 a1 t173 t176 t177 w0 _ ?side1 ?side2 A3.out).mono ?_); (case side1 => exact z2_); (case side2 => exact z3_); rintro e w11 ⟨v174, rfl, ho0, hi, hb, hk⟩; refine ⟨_, rfl, ?_⟩; have HO175 := Aside0.mk (Kd.R_lower ho0 (keep_size (w := w) (g := g) (row := none) z1_)); replace HK := Aside0.mk (KeepBut.trans z1_ hk (.inl rfl)); replace HB := Aside0.mk (hb); replace HI0 := Aside0.mk (hi); (try clear hb hk hi ho0); obtain ⟨Ao12, co12, eo12⟩ := Kd.R_slice HO175.out; subst eo12) | ((with_reducible refine gate_callee (f := 84) rfl ?_); refine goesL_ (some 13) rfl rfl Try.func84 (by kernel_rfl) rfl #[.pointer (some ⟨g, 0, none⟩), .int .i64 (t173.length : Int)] rfl z4_ ?_; (with_reducible refine (spec_l1Below.calls g s0_0 t176 t177 (t173.length : Int) t178 t179 t180 w0 _ ?side1 ?side2 A4.out).mono ?_); (case side1 => exact z2_); (case side2 => exact z3_); rintro e w13 ⟨rfl, hi, hb, hk⟩; refine ⟨_, rfl, ?_⟩; replace HO175 := Aside0.mk (Kd.R_mono (Kd.R_keep (IsS115.apart (show IsS115 w0 _ g s0_0 t176 t177 from by repeat (first | (with_reducible first | exact HI0.out | apply IsS115.alloc | apply IsS115.drewN | apply IsS115.drew | apply IsS115.set_1 | apply IsS115.set_2) | exact HI0.out)) z40_ (by decide)) hk (fun _ h => h.2)) (fun _ h => h.1)); replace HK := Aside0.mk (KeepBut.trans z1_ hk (.inl rfl)); replace HB := Aside0.mk (hb); replace HI0 := Aside0.mk (hi); (try clear hb hk hi)) | ((with_reducible refine gate_callee (f := 84) rfl ?_); refine goesL_ (some 15) rfl rfl Try.func84 (by kernel_rfl) rfl #[.pointer (some ⟨g, 0, none⟩), .int .i64 18] rfl z4_ ?_; (with_reducible refine (spec_l1Below.calls g s0_0 t179 t180 18 t181 t182 t183 w0 _ ?side1 ?side2 A5.out).mono ?_); (case side1 => exact z2_); (case side2 => exact z3_); rintro e w14 ⟨rfl, hi, hb, hk⟩; refine ⟨_, rfl, ?_⟩; replace HO175 := Aside0.mk (Kd.R_mono (Kd.R_keep (IsS115.apart (show IsS115 w0 _ g s0_0 t179 t180 from by repeat (first | (with_reducible first | exact HI0.out | apply IsS115.alloc | apply IsS115.drewN | apply IsS115.drew | apply IsS115.set_1 | apply IsS115.set_2) | exact HI0.out)) z40_ (by decide)) hk (fun _ h => h.2)) (fun _ h => h.1)); replace HK := Aside0.mk (KeepBut.trans z1_ hk (.inl rfl)); replace HB := Aside0.mk (hb); replace HI0 := Aside0.mk (hi); (try clear hb hk hi)) | ((with_reducible refine gate_callee (f := 85) rfl ?_); refine goesL_ (some 21) rfl rfl Try.func85 (by kernel_rfl) rfl #[.pointer (some ⟨g, 0, none⟩)] rfl z4_ ?_; (with_reducible refine (spec_l2Any.calls g s0_0 t182 t183 t184 t185 t186 w0 _ ?side1 ?side2 A7.out).mono ?_); (case side1 => exact z2_); (case side2 => exact z3_); rintro e w15 ⟨rfl, hi, hb, hk⟩; refine ⟨_, rfl, ?_⟩; replace HO175 := Aside0.mk (Kd.R_mono (Kd.R_keep (IsS115.apart (show IsS115 w0 _ g s0_0 t182 t183 from by repeat (first | (with_reducible first | exact HI0.out | apply IsS115.alloc | apply IsS115.drewN | apply IsS115.drew | apply IsS115.set_1 | apply IsS115.set_2) | exact HI0.out)) z40_ (by decide)) hk (fun _ h => h.2)) (fun _ h => h.1)); replace HK := Aside0.mk (KeepBut.trans z1_ hk (.inl rfl)); replace HB := Aside0.mk (hb); replace HI0 := Aside0.mk (hi); (try clear hb hk hi); have p10 : 0 ≤ (t178 : Int) := odt_; have q10 : (t178 : Int) < ((t173.length : Int) : Int) := odt_; obtain ⟨go10, co10, eo10, gb10, gl10, cl10, HG10⟩ := Kd.R_form HO175.out (by omega); (first | cases eo10 | (injection eo10 with ea_ en_ ec_; (first | subst ea_ | (injection ea_ with ea_; subst ea_)); subst ec_; clear en_)); have GB10 := Aside0.mk gb10; have GG10 := Aside0.mk HG10; clear gb10 gl10 HG10; obtain ⟨ce10, hcl10, hM10, hcc10, hfr10⟩ := Kd.R_elem HO175.out z45 (t178 : Int) p10 q10; obtain rfl := k45_openM hM10; have hx10_0 : w15.cell? ⟨go10, (t178 : Int).toNat * 2, none⟩ = some (.int .i64 ((rd_T45 t173 t178).f0)) := hcc10 0 _ rfl; have hx10_1 : w15.cell? ⟨go10, (t178 : Int).toNat * 2 + 1, none⟩ = some (.int .i64 ((rd_T45 t173 t178).f1)) := hcc10 1 _ rfl; have hf10_0 : w15.frozen? ⟨go10, (t178 : Int).toNat * 2, none⟩ = false := hfr10 0; have hf10_1 : w15.frozen? ⟨go10, (t178 : Int).toNat * 2 + 1, none⟩ = false := hfr10 1; clear hcl10 hcc10 hfr10 hM10; replace p10 := eq_true p10; replace q10 := eq_true q10; have HX16 := Aside0.mk (show Kd.R k45 45 w15 w.heap.size (fun _ => True) (.slice (some ⟨go10, 0, none⟩) t173.length co12) t173 from z40_); obtain ⟨ce16, hcl16, hM16, hcc16, hfr16⟩ := Kd.R_elem HX16.out z45 (t178 : Int) (odt_) (by have h_ : (t178 : Int) < ((t173.length : Int) : Int) := odt_; first | exact h_ | (have e_ := (Kd.R_reads' HO175.out).1; omega) | simpa using h_); obtain rfl := k45_openM hM16; have HP16 := Kd.R_seg HX16.out (t178 : Int) (odt_) (by have h_ : (t178 : Int) < ((t173.length : Int) : Int) := odt_; first | exact h_ | (have e_ := (Kd.R_reads' HO175.out).1; omega) | simpa using h_) (seg := [.int .i64 t184]) (j := 0) hcl16 hcc16 (show 1 ≤ 2 from by decide) (x' := (⟨t184, (rd_T45 t173 t178).f1⟩ : S45)) (k45_mkM _ _ _ (⟨t184, (rd_T45 t173 t178).f1⟩ : S45) ) (fun _ hk => hk); have hx16_0 := hcc16 0 _ rfl; (try simp only [show (k45).sz = 2 from rfl, Nat.mul_one, Nat.add_zero] at hx16_0); have hf16_0 := hfr16 0; (try simp only [show (k45).sz = 2 from rfl, Nat.mul_one, Nat.add_zero] at hf16_0); clear hcl16 hcc16 hfr16 hM16) | ((with_reducible refine gate_store (t := 3) (p := 23) rfl ?_); refine store_event (t := 3) (p := 23) (v := ?vo_w17) (w1 := (w15.setCell ⟨go10, (t178 : Int).toNat * 2, none⟩ (.int .i64 t184))) ?hg ?ho ?hn ?hr ?_; (case ho => rfl); (case hg => rfl); (case hn => rfl); (case hr => exact z26_); intro w17 hw; have hg : w15.grownBy w17 (some go10) := (by rw [hw]; exact HP16.2); have hp_ : Kd.R k45 45 w17 w.heap.size (fun _ => True) (.slice (some ⟨go10, 0, none⟩) t173.length co12) y187 := (by rw [hw, Ny187.out]; exact HP16.1); clear HP16; replace HI0 := Aside0.mk (IsS115.grown z2_ hg (IsS115.own_ne HI0.out HO175.out (by decide))); replace HB := Aside0.mk ((by rw [hw]; exact below_set (HB.out) (Nat.le_trans HL.out GB10.out) : Below w0.heap.size w0 w17)); replace HK := Aside0.mk (KeepBut.trans z1_ (KeepBut.of_grown hg g) (Kd.R_base2 HO175.out)); replace HO175 := Aside0.mk (hp_); clear hg hw hp_))
  go_ret
  exact ⟨_, z7_, Kd.Q_of_R z40_, z2_, z3_, z1_⟩
 ·rw [if_neg c6] at H
  have c6b0 : (t181 == 0) = false := beq_eq_false_iff_ne.mpr c6
  have c6b1 : (t181 != 0) = true := bne_iff_ne.mpr c6
  by_cases c18 : t181 = 1
  ·rw [if_pos c18] at H
   have c18b0 : (t181 == 1) = true := beq_iff_eq.mpr c18
   have c18b1 : (t181 != 1) = false := bne_eq_false_iff_eq.mpr c18
   clear c18
   obtain ⟨c19b0, H⟩ := ifd_ H
   obtain ⟨c20b0, H⟩ := ifd_ H
   first | ((with_reducible have hz_ := gy_ H); obtain ⟨y189, Ny189, H⟩ := hz_) | (generalize hy_ : ((([(-1), 0, 1, 13, wrap64 (((rd_T45 t173 t178).f1) + 1)] : List Int)) : List Int) = y189 at H; have Ny189 := Aside0.mk hy_.symm; clear hy_)
   replace H := Option.bind_eq_some_iff.mp H
   obtain ⟨⟨t192, t193, t194⟩, A210, H⟩ := H
   try dsimp only at H
   have A21 := Aside0.mk A210
   clear A210
   first | ((with_reducible have hz_ := gy_ H); obtain ⟨y195, Ny195, H⟩ := hz_) | (generalize hy_ : ((t173.set (t178 : Int).toNat (⟨(rd_T45 t173 t178).f0, t192⟩ : S45)) : List (S45)) = y195 at H; have Ny195 := Aside0.mk hy_.symm; clear hy_)
   simp only [Option.some.injEq, Prod.mk.injEq] at H
   obtain ⟨rfl, rfl, rfl⟩ := H
   go_enter Try.func50, Try.ntmps50
   go_wp2_with (first | ((with_reducible refine gate_callee (f := 83) rfl ?_); refine goesL_ (some 9) rfl rfl Try.func83 (by kernel_rfl) rfl #[.pointer (some ⟨g, 0, none⟩), .int .i64 a1] rfl z4_ ?_; (with_reducible refine (spec_l3Tree.calls k g s0_0 s0_1 s0_2 a1 t173 t176 t177 w0 _ ?side1 ?side2 A3.out).mono ?_); (case side1 => exact z2_); (case side2 => exact z3_); rintro e w23 ⟨v174, rfl, ho0, hi, hb, hk⟩; refine ⟨_, rfl, ?_⟩; have HO175 := Aside0.mk (Kd.R_lower ho0 (keep_size (w := w) (g := g) (row := none) z1_)); replace HK := Aside0.mk (KeepBut.trans z1_ hk (.inl rfl)); replace HB := Aside0.mk (hb); replace HI0 := Aside0.mk (hi); (try clear hb hk hi ho0); obtain ⟨Ao24, co24, eo24⟩ := Kd.R_slice HO175.out; subst eo24) | ((with_reducible refine gate_callee (f := 84) rfl ?_); refine goesL_ (some 13) rfl rfl Try.func84 (by kernel_rfl) rfl #[.pointer (some ⟨g, 0, none⟩), .int .i64 (t173.length : Int)] rfl z4_ ?_; (with_reducible refine (spec_l1Below.calls g s0_0 t176 t177 (t173.length : Int) t178 t179 t180 w0 _ ?side1 ?side2 A4.out).mono ?_); (case side1 => exact z2_); (case side2 => exact z3_); rintro e w25 ⟨rfl, hi, hb, hk⟩; refine ⟨_, rfl, ?_⟩; replace HO175 := Aside0.mk (Kd.R_mono (Kd.R_keep (IsS115.apart (show IsS115 w0 _ g s0_0 t176 t177 from by repeat (first | (with_reducible first | exact HI0.out | apply IsS115.alloc | apply IsS115.drewN | apply IsS115.drew | apply IsS115.set_1 | apply IsS115.set_2) | exact HI0.out)) z40_ (by decide)) hk (fun _ h => h.2)) (fun _ h => h.1)); replace HK := Aside0.mk (KeepBut.trans z1_ hk (.inl rfl)); replace HB := Aside0.mk (hb); replace HI0 := Aside0.mk (hi); (try clear hb hk hi)) | ((with_reducible refine gate_callee (f := 84) rfl ?_); refine goesL_ (some 15) rfl rfl Try.func84 (by kernel_rfl) rfl #[.pointer (some ⟨g, 0, none⟩), .int .i64 18] rfl z4_ ?_; (with_reducible refine (spec_l1Below.calls g s0_0 t179 t180 18 t181 t182 t183 w0 _ ?side1 ?side2 A5.out).mono ?_); (case side1 => exact z2_); (case side2 => exact z3_); rintro e w26 ⟨rfl, hi, hb, hk⟩; refine ⟨_, rfl, ?_⟩; replace HO175 := Aside0.mk (Kd.R_mono (Kd.R_keep (IsS115.apart (show IsS115 w0 _ g s0_0 t179 t180 from by repeat (first | (with_reducible first | exact HI0.out | apply IsS115.alloc | apply IsS115.drewN | apply IsS115.drew | apply IsS115.set_1 | apply IsS115.set_2) | exact HI0.out)) z40_ (by decide)) hk (fun _ h => h.2)) (fun _ h => h.1)); replace HK := Aside0.mk (KeepBut.trans z1_ hk (.inl rfl)); replace HB := Aside0.mk (hb); replace HI0 := Aside0.mk (hi); (try clear hb hk hi); have p188 : 0 ≤ (t178 : Int) := odt_; have q188 : t178 < (t173.length : Int) := odt_; obtain ⟨ad188, e188, hx188_0, hx188_1⟩ := at_T45 (Kd.R_reads' HO175.out).2.2 t178 p188 q188; cases e188; replace p188 := eq_true p188; replace q188 := eq_true q188) | ((with_reducible refine gate_dst (N := 35) rfl ?_); refine Kd.R_lit (Kd.int .i64) _ 3 ?hg (N := 35) ?hd (xs := ([(-1), 0, 1, 13, wrap64 (((rd_T45 t173 t178).f1) + 1)] : List Int)) (inner := [.int .i64 (-1), .int .i64 0, .int .i64 1, .int .i64 13, .int .i64 (wrap64 (((rd_T45 t173 t178).f1) + 1))]) (ok := fun _ => True) (okp := fun _ => True) ?hr ?hp (fun _ hk => hk) trivial (Below.refl _ _) (Nat.le_refl _) (by simp) ?_; (case hd => rfl); (case hg => rfl); (case hr => exact z26_); (case hp => exact (Reps.one (show Kd.M (Kd.int .i64) _ _ _ (-1) [.int .i64 (-1)] from rfl) (Reps.one (show Kd.M (Kd.int .i64) _ _ _ 0 [.int .i64 0] from rfl) (Reps.one (show Kd.M (Kd.int .i64) _ _ _ 1 [.int .i64 1] from rfl) (Reps.one (show Kd.M (Kd.int .i64) _ _ _ 13 [.int .i64 13] from rfl) (Reps.one (show Kd.M (Kd.int .i64) _ _ _ (wrap64 (((rd_T45 t173 t178).f1) + 1)) [.int .i64 (wrap64 (((rd_T45 t173 t178).f1) + 1))] from rfl) (Reps.none _ _))))))); intro v190 w27 ho28 hb hg_ hnew_; clear hg_ hnew_; (first | rw [← Ny189.out] at ho28 | (simp only [Int.reduceToNat] at ho28; rw [← Ny189.out] at ho28)); replace HO175 := Aside0.mk (Kd.R_below z40_ hb); have HO191 := Aside0.mk (Kd.R_lower ho28 (keep_size (w := w) (g := g) (row := none) z1_)); replace HK := Aside0.mk (KeepBut.trans z1_ (KeepBut.of_below hb g none) (.inl rfl)); replace HB := Aside0.mk (below_step z3_ hb); replace HI0 := Aside0.mk (IsS115.below z2_ hb); clear hb ho28; obtain ⟨Ao29, co29, eo29⟩ := Kd.R_slice HO191.out; subst eo29) | ((with_reducible refine gate_callee (f := 86) rfl ?_); refine goesL_ (some 36) rfl rfl Try.func86 (by kernel_rfl) rfl #[.pointer (some ⟨g, 0, none⟩), .slice Ao29 y189.length co29] rfl z4_ ?_; (with_reducible refine (spec_l1PickInt.calls g s0_0 t182 t183 _ _ y189 t192 t193 t194 w0 _ ?side1 ?side2 ?side3 ?side4 ?side5 A21.out).mono ?_); (case side1 => exact z2_); (case side2 => exact z3_); (case side3 => repeat (first | exact (Kd.R_reads' HO191.out).2.2 | (with_reducible refine Kd.C_alloc ?_ _) | (with_reducible refine Kd.C_drewN ?_ _) | (with_reducible refine Kd.C_drew ?_))); (case side4 => exact (Kd.R_reads' HO191.out).2.1); (case side5 => exact far_slice (IsS115.own_ne HI0.out HO191.out (by decide))); rintro e w30 ⟨rfl, hi, hb, hk⟩; refine ⟨_, rfl, ?_⟩; replace HO175 := Aside0.mk (Kd.R_mono (Kd.R_keep (IsS115.apart (show IsS115 w0 _ g s0_0 t182 t183 from by repeat (first | (with_reducible first | exact HI0.out | apply IsS115.alloc | apply IsS115.drewN | apply IsS115.drew | apply IsS115.set_1 | apply IsS115.set_2) | exact HI0.out)) z40_ (by decide)) hk (fun _ h => h.2)) (fun _ h => h.1)); replace HO191 := Aside0.mk (Kd.R_mono (Kd.R_keep (IsS115.apart (show IsS115 w0 _ g s0_0 t182 t183 from by repeat (first | (with_reducible first | exact HI0.out | apply IsS115.alloc | apply IsS115.drewN | apply IsS115.drew | apply IsS115.set_1 | apply IsS115.set_2) | exact HI0.out)) z197_ (by decide)) hk (fun _ h => h.2)) (fun _ h => h.1)); replace HK := Aside0.mk (KeepBut.trans z1_ hk (.inl rfl)); replace HB := Aside0.mk (hb); replace HI0 := Aside0.mk (hi); (try clear hb hk hi); have p22 : 0 ≤ (t178 : Int) := odt_; have q22 : (t178 : Int) < ((t173.length : Int) : Int) := odt_; obtain ⟨go22, co22, eo22, gb22, gl22, cl22, HG22⟩ := Kd.R_form HO175.out (by omega); (first | cases eo22 | (injection eo22 with ea_ en_ ec_; (first | subst ea_ | (injection ea_ with ea_; subst ea_)); subst ec_; clear en_)); have GB22 := Aside0.mk gb22; have GG22 := Aside0.mk HG22; clear gb22 gl22 HG22; (first | simp only [add_plain] at hx188_0 | skip); (first | simp only [add_plain] at hx188_1 | skip); obtain ⟨ce22, hcl22, hM22, hcc22, hfr22⟩ := Kd.R_elem HO175.out z45 (t178 : Int) p22 q22; obtain rfl := k45_openM hM22; have hx22_0 : w30.cell? ⟨go22, (t178 : Int).toNat * 2, none⟩ = some (.int .i64 ((rd_T45 t173 t178).f0)) := hcc22 0 _ rfl; have hx22_1 : w30.cell? ⟨go22, (t178 : Int).toNat * 2 + 1, none⟩ = some (.int .i64 ((rd_T45 t173 t178).f1)) := hcc22 1 _ rfl; have hf22_0 : w30.frozen? ⟨go22, (t178 : Int).toNat * 2, none⟩ = false := hfr22 0; have hf22_1 : w30.frozen? ⟨go22, (t178 : Int).toNat * 2 + 1, none⟩ = false := hfr22 1; clear hcl22 hcc22 hfr22 hM22; replace p22 := eq_true p22; replace q22 := eq_true q22; have HX31 := Aside0.mk (show Kd.R k45 45 w30 w.heap.size (fun _ => True) (.slice (some ⟨go22, 0, none⟩) t173.length co24) t173 from z40_); obtain ⟨ce31, hcl31, hM31, hcc31, hfr31⟩ := Kd.R_elem HX31.out z45 (t178 : Int) (odt_) (by have h_ : (t178 : Int) < ((t173.length : Int) : Int) := odt_; first | exact h_ | (have e_ := (Kd.R_reads' HO175.out).1; omega) | simpa using h_); obtain rfl := k45_openM hM31; have HP31 := Kd.R_seg HX31.out (t178 : Int) (odt_) (by have h_ : (t178 : Int) < ((t173.length : Int) : Int) := odt_; first | exact h_ | (have e_ := (Kd.R_reads' HO175.out).1; omega) | simpa using h_) (seg := [.int .i64 t192]) (j := 1) hcl31 hcc31 (show 2 ≤ 2 from by decide) (x' := (⟨(rd_T45 t173 t178).f0, t192⟩ : S45)) (k45_mkM _ _ _ (⟨(rd_T45 t173 t178).f0, t192⟩ : S45) ) (fun _ hk => hk); have hx31_1 := hcc31 1 _ rfl; (try simp only [show (k45).sz = 2 from rfl, Nat.mul_one, Nat.add_zero] at hx31_1); have hf31_1 := hfr31 1; (try simp only [show (k45).sz = 2 from rfl, Nat.mul_one, Nat.add_zero] at hf31_1); clear hcl31 hcc31 hfr31 hM31) | ((with_reducible refine gate_store (t := 3) (p := 38) rfl ?_); refine store_event (t := 3) (p := 38) (v := ?vo_w32) (w1 := (w30.setCell ⟨go22, (t178 : Int).toNat * 2 + 1, none⟩ (.int .i64 t192))) ?hg ?ho ?hn ?hr ?_; (case ho => rfl); (case hg => rfl); (case hn => rfl); (case hr => exact z26_); intro w32 hw; have hg : w30.grownBy w32 (some go22) := (by rw [hw]; exact HP31.2); have hp_ : Kd.R k45 45 w32 w.heap.size (fun _ => True) (.slice (some ⟨go22, 0, none⟩) t173.length co24) y195 := (by rw [hw, Ny195.out]; exact HP31.1); clear HP31; replace HI0 := Aside0.mk (IsS115.grown z2_ hg (IsS115.own_ne HI0.out HO175.out (by decide))); replace HO191 := Aside0.mk (Kd.R_over' (v := (.slice (some ⟨go22, 0, none⟩) t173.length co24)) z197_ (Kd.R_typed HO175.out) (by decide) hg); replace HB := Aside0.mk ((by rw [hw]; exact below_set (HB.out) (Nat.le_trans HL.out GB22.out) : Below w0.heap.size w0 w32)); replace HK := Aside0.mk (KeepBut.trans z1_ (KeepBut.of_grown hg g) (Kd.R_base2 HO175.out)); replace HO175 := Aside0.mk (hp_); clear hg hw hp_))
   go_ret
   exact ⟨_, z7_, Kd.Q_of_R z40_, z2_, z3_, z1_⟩
  ·rw [if_neg c18] at H
   have c18b0 : (t181 == 1) = false := beq_eq_false_iff_ne.mpr c18
   have c18b1 : (t181 != 1) = true := bne_iff_ne.mpr c18
   by_cases c33 : t181 = 2
   ·rw [if_pos c33] at H
    have c33b0 : (t181 == 2) = true := beq_iff_eq.mpr c33
    have c33b1 : (t181 != 2) = false := bne_eq_false_iff_eq.mpr c33
    clear c33
    obtain ⟨c34b0, c34b1, H⟩ := ife_ H
    first | ((with_reducible have hz_ := gy_ H); obtain ⟨y196, Ny196, H⟩ := hz_) | (generalize hy_ : ((t173.drop (1 : Int).toNat) : List (S45)) = y196 at H; have Ny196 := Aside0.mk hy_.symm; clear hy_)
    simp only [Option.some.injEq, Prod.mk.injEq] at H
    obtain ⟨rfl, rfl, rfl⟩ := H
    go_enter Try.func50, Try.ntmps50
    go_wp2_with (first | ((with_reducible refine gate_callee (f := 83) rfl ?_); refine goesL_ (some 9) rfl rfl Try.func83 (by kernel_rfl) rfl #[.pointer (some ⟨g, 0, none⟩), .int .i64 a1] rfl z4_ ?_; (with_reducible refine (spec_l3Tree.calls k g s0_0 s0_1 s0_2 a1 t173 t176 t177 w0 _ ?side1 ?side2 A3.out).mono ?_); (case side1 => exact z2_); (case side2 => exact z3_); rintro e w35 ⟨v174, rfl, ho0, hi, hb, hk⟩; refine ⟨_, rfl, ?_⟩; have HO175 := Aside0.mk (Kd.R_lower ho0 (keep_size (w := w) (g := g) (row := none) z1_)); replace HK := Aside0.mk (KeepBut.trans z1_ hk (.inl rfl)); replace HB := Aside0.mk (hb); replace HI0 := Aside0.mk (hi); (try clear hb hk hi ho0); obtain ⟨Ao36, co36, eo36⟩ := Kd.R_slice HO175.out; subst eo36) | ((with_reducible refine gate_callee (f := 84) rfl ?_); refine goesL_ (some 13) rfl rfl Try.func84 (by kernel_rfl) rfl #[.pointer (some ⟨g, 0, none⟩), .int .i64 (t173.length : Int)] rfl z4_ ?_; (with_reducible refine (spec_l1Below.calls g s0_0 t176 t177 (t173.length : Int) t178 t179 t180 w0 _ ?side1 ?side2 A4.out).mono ?_); (case side1 => exact z2_); (case side2 => exact z3_); rintro e w37 ⟨rfl, hi, hb, hk⟩; refine ⟨_, rfl, ?_⟩; replace HO175 := Aside0.mk (Kd.R_mono (Kd.R_keep (IsS115.apart (show IsS115 w0 _ g s0_0 t176 t177 from by repeat (first | (with_reducible first | exact HI0.out | apply IsS115.alloc | apply IsS115.drewN | apply IsS115.drew | apply IsS115.set_1 | apply IsS115.set_2) | exact HI0.out)) z40_ (by decide)) hk (fun _ h => h.2)) (fun _ h => h.1)); replace HK := Aside0.mk (KeepBut.trans z1_ hk (.inl rfl)); replace HB := Aside0.mk (hb); replace HI0 := Aside0.mk (hi); (try clear hb hk hi)) | ((with_reducible refine gate_callee (f := 84) rfl ?_); refine goesL_ (some 15) rfl rfl Try.func84 (by kernel_rfl) rfl #[.pointer (some ⟨g, 0, none⟩), .int .i64 18] rfl z4_ ?_; (with_reducible refine (spec_l1Below.calls g s0_0 t179 t180 18 t181 t182 t183 w0 _ ?side1 ?side2 A5.out).mono ?_); (case side1 => exact z2_); (case side2 => exact z3_); rintro e w38 ⟨rfl, hi, hb, hk⟩; refine ⟨_, rfl, ?_⟩; replace HO175 := Aside0.mk (Kd.R_mono (Kd.R_keep (IsS115.apart (show IsS115 w0 _ g s0_0 t179 t180 from by repeat (first | (with_reducible first | exact HI0.out | apply IsS115.alloc | apply IsS115.drewN | apply IsS115.drew | apply IsS115.set_1 | apply IsS115.set_2) | exact HI0.out)) z40_ (by decide)) hk (fun _ h => h.2)) (fun _ h => h.1)); replace HK := Aside0.mk (KeepBut.trans z1_ hk (.inl rfl)); replace HB := Aside0.mk (hb); replace HI0 := Aside0.mk (hi); (try clear hb hk hi); have q39 : (1 : Int) ≤ ((t173.length : Int) : Int) := odt_; obtain ⟨i039, hi039, _, hsz39, _⟩ := info_parts info45; have hcut39 := cut_from (P := Try.prog) 30 45 .i64 Try.underlying30 hi039 2 hsz39 Ao36 t173.length co36 1 (by omega) q39; have hr39 := Kd.Q_drop (k := (1 : Int).toNat) (Kd.Q_of_R HO175.out) (by omega); obtain ⟨A39, hA39⟩ : ∃ A1, A1 = (if co36 = (1 : Int).toNat then Ao36 else (Ao36 : Option Addr).map (·.add ((1 : Int).toNat * 2))) := ⟨_, rfl⟩; obtain ⟨c39, hc39⟩ : ∃ c1, c1 = co36 - (1 : Int).toNat := ⟨_, rfl⟩; have hy39 : y196.length = t173.length - (1 : Int).toNat := (by rw [Ny196.out, List.length_drop]); rw [← Ny196.out] at hr39; rw [← hy39, ← hA39, ← hc39] at hcut39; replace hr39 : Kd.Q k45 45 w38 w.heap.size (fun _ => True) (.slice A39 y196.length c39) y196 := (by rw [hA39, hc39, hy39]; exact hr39); have HE39 : Aside0 ((Value.slice A39 y196.length c39).ownBlock = (.slice Ao36 t173.length co36 : Value).ownBlock) := ⟨by rw [hA39]; split <;> (cases (Ao36 : Option Addr) <;> rfl)⟩; clear hy39 hi039 hsz39 HO175 hA39 hc39; have HO198 := Aside0.mk hr39; clear hr39; replace q39 := eq_true q39))
    go_ret
    exact ⟨_, z7_, by (with_reducible repeat (first | apply Kd.Q_alloc | apply Kd.Q_drewN | apply Kd.Q_drew)); exact HO198.out, z2_, z3_, z1_⟩
   ·rw [if_neg c33] at H
    have c33b0 : (t181 == 2) = false := beq_eq_false_iff_ne.mpr c33
    have c33b1 : (t181 != 2) = true := bne_iff_ne.mpr c33
    by_cases c40 : t181 = 3
    ·rw [if_pos c40] at H
     have c40b0 : (t181 == 3) = true := beq_iff_eq.mpr c40
     have c40b1 : (t181 != 3) = false := bne_eq_false_iff_eq.mpr c40
     clear c40
     have H' := Aside0.mk H
     clear H
     go_enter Try.func50, Try.ntmps50
     go_wp2_with (first | ((with_reducible refine gate_callee (f := 83) rfl ?_); refine goesL_ (some 9) rfl rfl Try.func83 (by kernel_rfl) rfl #[.pointer (some ⟨g, 0, none⟩), .int .i64 a1] rfl z4_ ?_; (with_reducible refine (spec_l3Tree.calls k g s0_0 s0_1 s0_2 a1 t173 t176 t177 w0 _ ?side1 ?side2 A3.out).mono ?_); (case side1 => exact z2_); (case side2 => exact z3_); rintro e w41 ⟨v174, rfl, ho0, hi, hb, hk⟩; refine ⟨_, rfl, ?_⟩; have HO175 := Aside0.mk (Kd.R_lower ho0 (keep_size (w := w) (g := g) (row := none) z1_)); replace HK := Aside0.mk (KeepBut.trans z1_ hk (.inl rfl)); replace HB := Aside0.mk (hb); replace HI0 := Aside0.mk (hi); (try clear hb hk hi ho0); obtain ⟨Ao42, co42, eo42⟩ := Kd.R_slice HO175.out; subst eo42) | ((with_reducible refine gate_callee (f := 84) rfl ?_); refine goesL_ (some 13) rfl rfl Try.func84 (by kernel_rfl) rfl #[.pointer (some ⟨g, 0, none⟩), .int .i64 (t173.length : Int)] rfl z4_ ?_; (with_reducible refine (spec_l1Below.calls g s0_0 t176 t177 (t173.length : Int) t178 t179 t180 w0 _ ?side1 ?side2 A4.out).mono ?_); (case side1 => exact z2_); (case side2 => exact z3_); rintro e w43 ⟨rfl, hi, hb, hk⟩; refine ⟨_, rfl, ?_⟩; replace HO175 := Aside0.mk (Kd.R_mono (Kd.R_keep (IsS115.apart (show IsS115 w0 _ g s0_0 t176 t177 from by repeat (first | (with_reducible first | exact HI0.out | apply IsS115.alloc | apply IsS115.drewN | apply IsS115.drew | apply IsS115.set_1 | apply IsS115.set_2) | exact HI0.out)) z40_ (by decide)) hk (fun _ h => h.2)) (fun _ h => h.1)); replace HK := Aside0.mk (KeepBut.trans z1_ hk (.inl rfl)); replace HB := Aside0.mk (hb); replace HI0 := Aside0.mk (hi); (try clear hb hk hi)) | ((with_reducible refine gate_callee (f := 84) rfl ?_); refine goesL_ (some 15) rfl rfl Try.func84 (by kernel_rfl) rfl #[.pointer (some ⟨g, 0, none⟩), .int .i64 18] rfl z4_ ?_; (with_reducible refine (spec_l1Below.calls g s0_0 t179 t180 18 t181 t182 t183 w0 _ ?side1 ?side2 A5.out).mono ?_); (case side1 => exact z2_); (case side2 => exact z3_); rintro e w44 ⟨rfl, hi, hb, hk⟩; refine ⟨_, rfl, ?_⟩; replace HO175 := Aside0.mk (Kd.R_mono (Kd.R_keep (IsS115.apart (show IsS115 w0 _ g s0_0 t179 t180 from by repeat (first | (with_reducible first | exact HI0.out | apply IsS115.alloc | apply IsS115.drewN | apply IsS115.drew | apply IsS115.set_1 | apply IsS115.set_2) | exact HI0.out)) z40_ (by decide)) hk (fun _ h => h.2)) (fun _ h => h.1)); replace HK := Aside0.mk (KeepBut.trans z1_ hk (.inl rfl)); replace HB := Aside0.mk (hb); replace HI0 := Aside0.mk (hi); (try clear hb hk hi)))
     go_loopg [5] k (fun kq v5 w' => ∃ (x5_1 : List (S45)) (x1001_1 : Int) (x1002_1 : Int), Aside0 (spec_l3Any.l0 kq x5_1 s0_0 x1001_1 x1002_1 = some (r1, r2, r3)) ∧ Aside0 (kq ≤ k) ∧ Aside0 (Kd.R k45 45 w' w.heap.size (fun _ => True) v5 x5_1) ∧ Aside0 (IsS115 w0 w' g s0_0 x1001_1 x1002_1) ∧ Aside0 (KeepBut w w' g none) ∧ Aside0 (Below w0.heap.size w0 w'))
     case atStart => exact ⟨(t173), (t182), (t183), H', ⟨Nat.le_refl _⟩, ⟨z40_⟩, ⟨z2_⟩, ⟨z1_⟩, ⟨z3_⟩⟩
     case round =>
      clear H'
      try clear c1
      try clear p1
      try clear q1
      try clear hx1
      try clear c2
      try clear p2
      try clear q2
      try clear hx2
      try clear hf2
      try clear c3
      try clear q3
      try clear hx3
      try clear hf3
      try clear c4
      try clear c5
      try clear c6
      try clear c6b0
      try clear c6b1
      try clear p6
      try clear c8
      try clear c8b0
      try clear c9
      try clear c9b0
      try clear c10
      try clear p10
      try clear q10
      try clear hx10
      try clear hf10
      try clear c16
      try clear hx16
      try clear hf16
      try clear c18
      try clear c18b0
      try clear c18b1
      try clear p18
      try clear q18
      try clear hx18
      try clear c19
      try clear c19b0
      try clear c20
      try clear c20b0
      try clear c22
      try clear p22
      try clear q22
      try clear hx22
      try clear hf22
      try clear c31
      try clear hx31
      try clear hf31
      try clear c33
      try clear c33b0
      try clear c33b1
      try clear c34
      try clear c34b0
      try clear c34b1
      try clear c39
      try clear q39
      try clear c40
      try clear c40b0
      try clear c40b1
      try clear hx10_0
      try clear hx10_1
      try clear hx16_0
      try clear hx188_0
      try clear hx188_1
      try clear hx22_0
      try clear hx22_1
      try clear hx31_1
      try clear p10
      try clear p188
      try clear p22
      try clear q10
      try clear q188
      try clear q22
      try clear q39
      obtain ⟨x5_1, x1001_1, x1002_1, HA, HK1, HO_5, HI0, HK, HB⟩ := hrel
      cases gk with
      | zero => exact absurd HA.out (by simp [spec_l3Any.l0])
      | succ k1 =>
       have H := HA.out
       clear HA
       simp only [spec_l3Any.l0] at H
       replace H := Option.bind_eq_some_iff.mp H
       obtain ⟨⟨t199, t200, t201⟩, A450, H⟩ := H
       try dsimp only at H
       have A45 := Aside0.mk A450
       clear A450
       by_cases c46 : (x5_1.length : Int) < (wrap64 (24 + t199))
       ·rw [if_pos c46] at H
        have c46b0 := decide_eq_true c46
        clear c46
        obtain ⟨c47, H⟩ := ifs_ H
        have LMc47 := Aside0.mk c47
        clear c47
        first | ((with_reducible have hz_ := gy_ H); obtain ⟨y202, Ny202, H⟩ := hz_) | (generalize hy_ : ((x5_1 ++ [(⟨1, 1⟩ : S45)]) : List (S45)) = y202 at H; have Ny202 := Aside0.mk hy_.symm; clear hy_)
        have H' := Aside0.mk H
        clear H
        obtain ⟨Ao48, co48, eo48⟩ := Kd.R_slice HO_5.out
        subst eo48
        go_wp2_with (first | ((with_reducible refine gate_callee (f := 84) rfl ?_); refine goesL_ (some 48) rfl rfl Try.func84 (by kernel_rfl) rfl #[.pointer (some ⟨g, 0, none⟩), .int .i64 2] rfl z4_ ?_; (with_reducible refine (spec_l1Below.calls g s0_0 x1001_1 x1002_1 2 t199 t200 t201 w0 _ ?side1 ?side2 A45.out).mono ?_); (case side1 => exact z2_); (case side2 => exact z3_); rintro e w49 ⟨rfl, hi, hb, hk⟩; refine ⟨_, rfl, ?_⟩; replace HO_5 := Aside0.mk (Kd.R_mono (Kd.R_keep (IsS115.apart (show IsS115 w0 _ g s0_0 x1001_1 x1002_1 from by repeat (first | (with_reducible first | exact HI0.out | apply IsS115.alloc | apply IsS115.drewN | apply IsS115.drew | apply IsS115.set_1 | apply IsS115.set_2) | exact HI0.out)) z5_ (by decide)) hk (fun _ h => h.2)) (fun _ h => h.1)); replace HK := Aside0.mk (KeepBut.trans z1_ hk (.inl rfl)); replace HB := Aside0.mk (hb); replace HI0 := Aside0.mk (hi); (try clear hb hk hi)) | ((with_reducible refine gate_builtin (b := .append) (xs := #[.tmp 51, .tmp 53]) rfl ?_); at_builtin; refine Kd.R_append k45 w.heap.size rfl (.tmp 51) (.tmp 53) 30 45 (.agg #[(.int .i64 0), (.int .i64 0)]) 16 rfl Try.underlying30 info45 rfl (by decide) (by omega) (.slice Ao48 x5_1.length co48) x5_1 (⟨1, 1⟩ : S45) [.int .i64 1, .int .i64 1] (fun _ => True) (fun _ => False) rfl rfl ?aP (fun _ hk => hk.elim) ?aF ?aO (Below.refl _ _) ?aS ?aL ?_; (case aP => exact k45_mkM _ _ _ (⟨1, 1⟩ : S45)); (case aF => exact z168_); (case aO => exact z70_); (case aS => exact z33_); (case aL => have := LMc47.out; omega); intro v203 w50 ho hb hg hat; rw [← Ny202.out] at ho; replace HB := Aside0.mk (below_weaken z3_ HL.out hb); replace HI0 := Aside0.mk (IsS115.grown z2_ hg (IsS115.own_ne HI0.out HO_5.out (by decide))); replace HK := Aside0.mk (KeepBut.trans z1_ (KeepBut.of_grown hg g) (Kd.R_base2 HO_5.out)); have HO204 := Aside0.mk (ho); clear HO_5; clear ho hb hg hat))
        go_roundg k1
        case measure => have := HK1.out; omega
        case rel => exact ⟨(y202), (t200), (t201), H', ⟨z140_⟩, ⟨by (with_reducible repeat (first | apply Kd.R_alloc | apply Kd.R_drewN | apply Kd.R_drew)); exact HO204.out⟩, ⟨z2_⟩, ⟨z1_⟩, ⟨z3_⟩⟩
       ·rw [if_neg c46] at H
        have c46b0 := decide_eq_false c46
        clear c46
        simp only [Option.some.injEq, Prod.mk.injEq] at H
        obtain ⟨rfl, rfl, rfl⟩ := H
        obtain ⟨Ao51, co51, eo51⟩ := Kd.R_slice HO_5.out
        subst eo51
        go_wp2_with (first | ((with_reducible refine gate_callee (f := 84) rfl ?_); refine goesL_ (some 48) rfl rfl Try.func84 (by kernel_rfl) rfl #[.pointer (some ⟨g, 0, none⟩), .int .i64 2] rfl z4_ ?_; (with_reducible refine (spec_l1Below.calls g s0_0 x1001_1 x1002_1 2 t199 t200 t201 w0 _ ?side1 ?side2 A45.out).mono ?_); (case side1 => exact z2_); (case side2 => exact z3_); rintro e w52 ⟨rfl, hi, hb, hk⟩; refine ⟨_, rfl, ?_⟩; replace HO_5 := Aside0.mk (Kd.R_mono (Kd.R_keep (IsS115.apart (show IsS115 w0 _ g s0_0 x1001_1 x1002_1 from by repeat (first | (with_reducible first | exact HI0.out | apply IsS115.alloc | apply IsS115.drewN | apply IsS115.drew | apply IsS115.set_1 | apply IsS115.set_2) | exact HI0.out)) z5_ (by decide)) hk (fun _ h => h.2)) (fun _ h => h.1)); replace HK := Aside0.mk (KeepBut.trans z1_ hk (.inl rfl)); replace HB := Aside0.mk (hb); replace HI0 := Aside0.mk (hi); (try clear hb hk hi)))
        go_ret
        exact ⟨_, z7_, Kd.Q_of_R z5_, z2_, z3_, z1_⟩
    ·rw [if_neg c40] at H
     have c40b0 : (t181 == 3) = false := beq_eq_false_iff_ne.mpr c40
     have c40b1 : (t181 != 3) = true := bne_iff_ne.mpr c40
     by_cases c53 : t181 = 4
     ·rw [if_pos c53] at H
      have c53b0 : (t181 == 4) = true := beq_iff_eq.mpr c53
      have c53b1 : (t181 != 4) = false := bne_eq_false_iff_eq.mpr c53
      clear c53
      first | ((with_reducible have hz_ := gy_ H); obtain ⟨y205, Ny205, H⟩ := hz_) | (generalize hy_ : ((([(⟨0, 0⟩ : S45)] : List (S45))) : List (S45)) = y205 at H; have Ny205 := Aside0.mk hy_.symm; clear hy_)
      have H' := Aside0.mk H
      clear H
      go_enter Try.func50, Try.ntmps50
      go_wp2_with (first | ((with_reducible refine gate_callee (f := 83) rfl ?_); refine goesL_ (some 9) rfl rfl Try.func83 (by kernel_rfl) rfl #[.pointer (some ⟨g, 0, none⟩), .int .i64 a1] rfl z4_ ?_; (with_reducible refine (spec_l3Tree.calls k g s0_0 s0_1 s0_2 a1 t173 t176 t177 w0 _ ?side1 ?side2 A3.out).mono ?_); (case side1 => exact z2_); (case side2 => exact z3_); rintro e w54 ⟨v174, rfl, ho0, hi, hb, hk⟩; refine ⟨_, rfl, ?_⟩; have HO175 := Aside0.mk (Kd.R_lower ho0 (keep_size (w := w) (g := g) (row := none) z1_)); replace HK := Aside0.mk (KeepBut.trans z1_ hk (.inl rfl)); replace HB := Aside0.mk (hb); replace HI0 := Aside0.mk (hi); (try clear hb hk hi ho0); obtain ⟨Ao55, co55, eo55⟩ := Kd.R_slice HO175.out; subst eo55) | ((with_reducible refine gate_callee (f := 84) rfl ?_); refine goesL_ (some 13) rfl rfl Try.func84 (by kernel_rfl) rfl #[.pointer (some ⟨g, 0, none⟩), .int .i64 (t173.length : Int)] rfl z4_ ?_; (with_reducible refine (spec_l1Below.calls g s0_0 t176 t177 (t173.length : Int) t178 t179 t180 w0 _ ?side1 ?side2 A4.out).mono ?_); (case side1 => exact z2_); (case side2 => exact z3_); rintro e w56 ⟨rfl, hi, hb, hk⟩; refine ⟨_, rfl, ?_⟩; replace HO175 := Aside0.mk (Kd.R_mono (Kd.R_keep (IsS115.apart (show IsS115 w0 _ g s0_0 t176 t177 from by repeat (first | (with_reducible first | exact HI0.out | apply IsS115.alloc | apply IsS115.drewN | apply IsS115.drew | apply IsS115.set_1 | apply IsS115.set_2) | exact HI0.out)) z40_ (by decide)) hk (fun _ h => h.2)) (fun _ h => h.1)); replace HK := Aside0.mk (KeepBut.trans z1_ hk (.inl rfl)); replace HB := Aside0.mk (hb); replace HI0 := Aside0.mk (hi); (try clear hb hk hi)) | ((with_reducible refine gate_callee (f := 84) rfl ?_); refine goesL_ (some 15) rfl rfl Try.func84 (by kernel_rfl) rfl #[.pointer (some ⟨g, 0, none⟩), .int .i64 18] rfl z4_ ?_; (with_reducible refine (spec_l1Below.calls g s0_0 t179 t180 18 t181 t182 t183 w0 _ ?side1 ?side2 A5.out).mono ?_); (case side1 => exact z2_); (case side2 => exact z3_); rintro e w57 ⟨rfl, hi, hb, hk⟩; refine ⟨_, rfl, ?_⟩; replace HO175 := Aside0.mk (Kd.R_mono (Kd.R_keep (IsS115.apart (show IsS115 w0 _ g s0_0 t179 t180 from by repeat (first | (with_reducible first | exact HI0.out | apply IsS115.alloc | apply IsS115.drewN | apply IsS115.drew | apply IsS115.set_1 | apply IsS115.set_2) | exact HI0.out)) z40_ (by decide)) hk (fun _ h => h.2)) (fun _ h => h.1)); replace HK := Aside0.mk (KeepBut.trans z1_ hk (.inl rfl)); replace HB := Aside0.mk (hb); replace HI0 := Aside0.mk (hi); (try clear hb hk hi)) | ((with_reducible refine gate_dst (N := 58) rfl ?_); refine Kd.R_lit k45 _ 45 ?hg (N := 58) ?hd (xs := ([(⟨0, 0⟩ : S45)] : List (S45))) (inner := [.int .i64 0, .int .i64 0]) (ok := fun _ => True) (okp := fun _ => True) ?hr ?hp (fun _ hk => hk) trivial (Below.refl _ _) (Nat.le_refl _) (by simp) ?_; (case hd => rfl); (case hg => rfl); (case hr => exact z26_); (case hp => exact (Reps.c2 (show Kd.M k45 _ _ _ (⟨0, 0⟩ : S45) [.int .i64 0, .int .i64 0] from (k45_mkM _ _ _ (⟨0, 0⟩ : S45) )) (Reps.none _ _))); intro v206 w58 ho59 hb hg_ hnew_; clear hg_ hnew_; (first | rw [← Ny205.out] at ho59 | (simp only [Int.reduceToNat] at ho59; rw [← Ny205.out] at ho59)); have HO207 := Aside0.mk (Kd.R_lower (Kd.R_new' ho59 (Kd.R_lt z40_)) (keep_size (w := w) (g := g) (row := none) z1_)); replace HO175 := Aside0.mk (Kd.R_elder' z40_ (Kd.R_base ho59) hb); replace HK := Aside0.mk (KeepBut.trans z1_ (KeepBut.of_below hb g none) (.inl rfl)); replace HB := Aside0.mk (below_step z3_ hb); replace HI0 := Aside0.mk (IsS115.below z2_ hb); clear hb ho59))
      go_loopg [5] k (fun kq v5 w' => ∃ (x5_1 : List (S45)) (x1001_1 : Int) (x1002_1 : Int), Aside0 (spec_l3Any.l1 kq x5_1 s0_0 x1001_1 x1002_1 = some (r1, r2, r3)) ∧ Aside0 (kq ≤ k) ∧ Aside0 (Kd.R k45 45 w' w.heap.size (fun _ => True) v5 x5_1) ∧ Aside0 (IsS115 w0 w' g s0_0 x1001_1 x1002_1) ∧ Aside0 (KeepBut w w' g none) ∧ Aside0 (Below w0.heap.size w0 w'))
      case atStart => exact ⟨(y205), (t182), (t183), H', ⟨Nat.le_refl _⟩, ⟨by (with_reducible repeat (first | apply Kd.R_alloc | apply Kd.R_drewN | apply Kd.R_drew)); exact Kd.R_mono HO207.out (fun _ hk => trivial)⟩, ⟨z2_⟩, ⟨z1_⟩, ⟨z3_⟩⟩
      case round =>
       clear H'
       try clear c1
       try clear p1
       try clear q1
       try clear hx1
       try clear c2
       try clear p2
       try clear q2
       try clear hx2
       try clear hf2
       try clear c3
       try clear q3
       try clear hx3
       try clear hf3
       try clear c4
       try clear c5
       try clear c6
       try clear c6b0
       try clear c6b1
       try clear p6
       try clear c8
       try clear c8b0
       try clear c9
       try clear c9b0
       try clear c10
       try clear p10
       try clear q10
       try clear hx10
       try clear hf10
       try clear c16
       try clear hx16
       try clear hf16
       try clear c18
       try clear c18b0
       try clear c18b1
       try clear p18
       try clear q18
       try clear hx18
       try clear c19
       try clear c19b0
       try clear c20
       try clear c20b0
       try clear c22
       try clear p22
       try clear q22
       try clear hx22
       try clear hf22
       try clear c31
       try clear hx31
       try clear hf31
       try clear c33
       try clear c33b0
       try clear c33b1
       try clear c34
       try clear c34b0
       try clear c34b1
       try clear c39
       try clear q39
       try clear c40
       try clear c40b0
       try clear c40b1
       try clear c46
       try clear c46b0
       try clear c47
       try clear c50
       try clear c53
       try clear c53b0
       try clear c53b1
       try clear hx10_0
       try clear hx10_1
       try clear hx16_0
       try clear hx188_0
       try clear hx188_1
       try clear hx22_0
       try clear hx22_1
       try clear hx31_1
       try clear p1
       try clear p10
       try clear p18
       try clear p188
       try clear p2
       try clear p22
       try clear p6
       try clear q1
       try clear q10
       try clear q18
       try clear q188
       try clear q2
       try clear q22
       try clear q3
       try clear q39
       obtain ⟨x5_1, x1001_1, x1002_1, HA, HK1, HO_5, HI0, HK, HB⟩ := hrel
       cases gk with
       | zero => exact absurd HA.out (by simp [spec_l3Any.l1])
       | succ k1 =>
        have H := HA.out
        clear HA
        simp only [spec_l3Any.l1] at H
        replace H := Option.bind_eq_some_iff.mp H
        obtain ⟨⟨t208, t209, t210⟩, A600, H⟩ := H
        try dsimp only at H
        have A60 := Aside0.mk A600
        clear A600
        by_cases c61 : (x5_1.length : Int) < (wrap64 (13 + t208))
        ·rw [if_pos c61] at H
         have c61b0 := decide_eq_true c61
         clear c61
         obtain ⟨c62, H⟩ := ifs_ H
         have LMc62 := Aside0.mk c62
         clear c62
         first | ((with_reducible have hz_ := gy_ H); obtain ⟨y211, Ny211, H⟩ := hz_) | (generalize hy_ : ((x5_1 ++ [(⟨0, (x5_1.length : Int)⟩ : S45)]) : List (S45)) = y211 at H; have Ny211 := Aside0.mk hy_.symm; clear hy_)
         have H' := Aside0.mk H
         clear H
         obtain ⟨Ao63, co63, eo63⟩ := Kd.R_slice HO_5.out
         subst eo63
         go_wp2_with (first | ((with_reducible refine gate_callee (f := 84) rfl ?_); refine goesL_ (some 62) rfl rfl Try.func84 (by kernel_rfl) rfl #[.pointer (some ⟨g, 0, none⟩), .int .i64 2] rfl z4_ ?_; (with_reducible refine (spec_l1Below.calls g s0_0 x1001_1 x1002_1 2 t208 t209 t210 w0 _ ?side1 ?side2 A60.out).mono ?_); (case side1 => exact z2_); (case side2 => exact z3_); rintro e w64 ⟨rfl, hi, hb, hk⟩; refine ⟨_, rfl, ?_⟩; replace HO_5 := Aside0.mk (Kd.R_mono (Kd.R_keep (IsS115.apart (show IsS115 w0 _ g s0_0 x1001_1 x1002_1 from by repeat (first | (with_reducible first | exact HI0.out | apply IsS115.alloc | apply IsS115.drewN | apply IsS115.drew | apply IsS115.set_1 | apply IsS115.set_2) | exact HI0.out)) z5_ (by decide)) hk (fun _ h => h.2)) (fun _ h => h.1)); replace HK := Aside0.mk (KeepBut.trans z1_ hk (.inl rfl)); replace HB := Aside0.mk (hb); replace HI0 := Aside0.mk (hi); (try clear hb hk hi)) | ((with_reducible refine gate_builtin (b := .append) (xs := #[.tmp 65, .tmp 69]) rfl ?_); at_builtin; refine Kd.R_append k45 w.heap.size rfl (.tmp 65) (.tmp 69) 30 45 (.agg #[(.int .i64 0), (.int .i64 0)]) 16 rfl Try.underlying30 info45 rfl (by decide) (by omega) (.slice Ao63 x5_1.length co63) x5_1 (⟨0, (x5_1.length : Int)⟩ : S45) [.int .i64 0, .int .i64 (x5_1.length : Int)] (fun _ => True) (fun _ => False) rfl rfl ?aP (fun _ hk => hk.elim) ?aF ?aO (Below.refl _ _) ?aS ?aL ?_; (case aP => exact k45_mkM _ _ _ (⟨0, (x5_1.length : Int)⟩ : S45)); (case aF => exact z168_); (case aO => exact z70_); (case aS => exact z33_); (case aL => have := LMc62.out; omega); intro v212 w65 ho hb hg hat; rw [← Ny211.out] at ho; replace HB := Aside0.mk (below_weaken z3_ HL.out hb); replace HI0 := Aside0.mk (IsS115.grown z2_ hg (IsS115.own_ne HI0.out HO_5.out (by decide))); replace HK := Aside0.mk (KeepBut.trans z1_ (KeepBut.of_grown hg g) (Kd.R_base2 HO_5.out)); have HO213 := Aside0.mk (ho); clear HO_5; clear ho hb hg hat))
         go_roundg k1
         case measure => have := HK1.out; omega
         case rel => exact ⟨(y211), (t209), (t210), H', ⟨z140_⟩, ⟨by (with_reducible repeat (first | apply Kd.R_alloc | apply Kd.R_drewN | apply Kd.R_drew)); exact HO213.out⟩, ⟨z2_⟩, ⟨z1_⟩, ⟨z3_⟩⟩
        ·rw [if_neg c61] at H
         have c61b0 := decide_eq_false c61
         clear c61
         simp only [Option.some.injEq, Prod.mk.injEq] at H
         obtain ⟨rfl, rfl, rfl⟩ := H
         obtain ⟨Ao66, co66, eo66⟩ := Kd.R_slice HO_5.out
         subst eo66
         go_wp2_with (first | ((with_reducible refine gate_callee (f := 84) rfl ?_); refine goesL_ (some 62) rfl rfl Try.func84 (by kernel_rfl) rfl #[.pointer (some ⟨g, 0, none⟩), .int .i64 2] rfl z4_ ?_; (with_reducible refine (spec_l1Below.calls g s0_0 x1001_1 x1002_1 2 t208 t209 t210 w0 _ ?side1 ?side2 A60.out).mono ?_); (case side1 => exact z2_); (case side2 => exact z3_); rintro e w67 ⟨rfl, hi, hb, hk⟩; refine ⟨_, rfl, ?_⟩; replace HO_5 := Aside0.mk (Kd.R_mono (Kd.R_keep (IsS115.apart (show IsS115 w0 _ g s0_0 x1001_1 x1002_1 from by repeat (first | (with_reducible first | exact HI0.out | apply IsS115.alloc | apply IsS115.drewN | apply IsS115.drew | apply IsS115.set_1 | apply IsS115.set_2) | exact HI0.out)) z5_ (by decide)) hk (fun _ h => h.2)) (fun _ h => h.1)); replace HK := Aside0.mk (KeepBut.trans z1_ hk (.inl rfl)); replace HB := Aside0.mk (hb); replace HI0 := Aside0.mk (hi); (try clear hb hk hi)))
         go_ret
         exact ⟨_, z7_, Kd.Q_of_R z5_, z2_, z3_, z1_⟩
     ·rw [if_neg c53] at H
      have c53b0 : (t181 == 4) = false := beq_eq_false_iff_ne.mpr c53
      have c53b1 : (t181 != 4) = true := bne_iff_ne.mpr c53
      simp only [Option.some.injEq, Prod.mk.injEq] at H
      obtain ⟨rfl, rfl, rfl⟩ := H
      go_enter Try.func50, Try.ntmps50
      go_wp2_with (first | ((with_reducible refine gate_callee (f := 83) rfl ?_); refine goesL_ (some 9) rfl rfl Try.func83 (by kernel_rfl) rfl #[.pointer (some ⟨g, 0, none⟩), .int .i64 a1] rfl z4_ ?_; (with_reducible refine (spec_l3Tree.calls k g s0_0 s0_1 s0_2 a1 t173 t176 t177 w0 _ ?side1 ?side2 A3.out).mono ?_); (case side1 => exact z2_); (case side2 => exact z3_); rintro e w68 ⟨v174, rfl, ho0, hi, hb, hk⟩; refine ⟨_, rfl, ?_⟩; have HO175 := Aside0.mk (Kd.R_lower ho0 (keep_size (w := w) (g := g) (row := none) z1_)); replace HK := Aside0.mk (KeepBut.trans z1_ hk (.inl rfl)); replace HB := Aside0.mk (hb); replace HI0 := Aside0.mk (hi); (try clear hb hk hi ho0); obtain ⟨Ao69, co69, eo69⟩ := Kd.R_slice HO175.out; subst eo69) | ((with_reducible refine gate_callee (f := 84) rfl ?_); refine goesL_ (some 13) rfl rfl Try.func84 (by kernel_rfl) rfl #[.pointer (some ⟨g, 0, none⟩), .int .i64 (t173.length : Int)] rfl z4_ ?_; (with_reducible refine (spec_l1Below.calls g s0_0 t176 t177 (t173.length : Int) t178 t179 t180 w0 _ ?side1 ?side2 A4.out).mono ?_); (case side1 => exact z2_); (case side2 => exact z3_); rintro e w70 ⟨rfl, hi, hb, hk⟩; refine ⟨_, rfl, ?_⟩; replace HO175 := Aside0.mk (Kd.R_mono (Kd.R_keep (IsS115.apart (show IsS115 w0 _ g s0_0 t176 t177 from by repeat (first | (with_reducible first | exact HI0.out | apply IsS115.alloc | apply IsS115.drewN | apply IsS115.drew | apply IsS115.set_1 | apply IsS115.set_2) | exact HI0.out)) z40_ (by decide)) hk (fun _ h => h.2)) (fun _ h => h.1)); replace HK := Aside0.mk (KeepBut.trans z1_ hk (.inl rfl)); replace HB := Aside0.mk (hb); replace HI0 := Aside0.mk (hi); (try clear hb hk hi)) | ((with_reducible refine gate_callee (f := 84) rfl ?_); refine goesL_ (some 15) rfl rfl Try.func84 (by kernel_rfl) rfl #[.pointer (some ⟨g, 0, none⟩), .int .i64 18] rfl z4_ ?_; (with_reducible refine (spec_l1Below.calls g s0_0 t179 t180 18 t181 t182 t183 w0 _ ?side1 ?side2 A5.out).mono ?_); (case side1 => exact z2_); (case side2 => exact z3_); rintro e w71 ⟨rfl, hi, hb, hk⟩; refine ⟨_, rfl, ?_⟩; replace HO175 := Aside0.mk (Kd.R_mono (Kd.R_keep (IsS115.apart (show IsS115 w0 _ g s0_0 t179 t180 from by repeat (first | (with_reducible first | exact HI0.out | apply IsS115.alloc | apply IsS115.drewN | apply IsS115.drew | apply IsS115.set_1 | apply IsS115.set_2) | exact HI0.out)) z40_ (by decide)) hk (fun _ h => h.2)) (fun _ h => h.1)); replace HK := Aside0.mk (KeepBut.trans z1_ hk (.inl rfl)); replace HB := Aside0.mk (hb); replace HI0 := Aside0.mk (hi); (try clear hb hk hi)))
      go_ret
      exact ⟨_, z7_, Kd.Q_of_R z40_, z2_, z3_, z1_⟩

/-! ### spec_l1In: function 49 -/
def spec_l1In.f (a0 : Int) (a1 : Int) (a2 : Int) : Option (Bool) := if a0 ≥ a1 then (some (decide (a0 ≤ a2))) else (some false)
set_option maxHeartbeats 8000000 in
set_option maxRecDepth 100000 in
theorem spec_l1In.calls (a0 : Int) (a1 : Int) (a2 : Int) (r : Bool) (w : World) (h : spec_l1In.f a0 a1 a2 = some r) :
  Calls Try.prog 49 #[.int .i64 a0, .int .i64 a1, .int .i64 a2] w fun e w' => e = .returned (.bool r) ∧ Drawn0 w w' := by
 have H : (if a0 ≥ a1 then (some (decide (a0 ≤ a2))) else (some false)) = some r := h
 clear h
 by_cases c4 : a0 ≥ a1
 ·rw [if_pos c4] at H
  have c4b0 := decide_eq_true c4
  clear c4
  obtain rfl := Option.some.inj H
  go_enter Try.func49, Try.ntmps49
  go_wp2
  go_ret
  exact ⟨z9_, z64_⟩
 ·rw [if_neg c4] at H
  have c4b0 := decide_eq_false c4
  clear c4
  obtain rfl := Option.some.inj H
  go_enter Try.func49, Try.ntmps49
  go_wp2
  go_ret
  exact ⟨z9_, z64_⟩

/-! ### spec_LabelOk: function 48 -/
def spec_LabelOk.f (a0 : Int) : Option (Bool) := (spec_l1In.f a0 0 5).bind fun t214 => (some t214)
set_option maxHeartbeats 8000000 in
set_option maxRecDepth 100000 in
theorem spec_LabelOk.calls (a0 : Int) (r : Bool) (w : World) (h : spec_LabelOk.f a0 = some r) :
  Calls Try.prog 48 #[.int .i64 a0] w fun e w' => e = .returned (.bool r) ∧ Drawn0 w w' := by
 have H : ((spec_l1In.f a0 0 5).bind fun t214 => (some t214)) = some r := h
 clear h
 obtain ⟨t214, A2, H⟩ := bnd_ H
 obtain rfl := Option.some.inj H
 go_enter Try.func48, Try.ntmps48
 go_wp2_with (first | ((with_reducible refine gate_callee (f := 49) rfl ?_); refine goesL_ (some 4) rfl rfl Try.func49 (by kernel_rfl) rfl #[.int .i64 a0, .int .i64 0, .int .i64 5] rfl z4_ ?_; (with_reducible refine (spec_l1In.calls a0 0 5 t214 _ A2.out).mono ?_); rintro e w' ⟨rfl, ⟨nd, rfl⟩⟩; refine ⟨_, rfl, ?_⟩))
 go_ret
 exact ⟨z9_, z64_⟩

end Go.Proofs.Ytbiffnahknkoiaa.PFnKept
