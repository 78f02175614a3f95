/- Laid by a program of this session out of the kit's print for the law FnInverted: what it says of the machine is proved here, function by function; each contract under the conditions that it names. -/
import Derived.Test.YtdapeboajjidmabMFnInvertedx0
import Derived.Test.YtdapeboajjidmabMFnInvertedx2
import Derived.Test.YtdapeboajjidmabMFnInvertedx3
import Derived.Test.YtdapeboajjidmabMFnInvertedx4
namespace Go.Proofs.Ytdapeboajjidmab.PFnInverted
open Go.RowKit Go.Proofs.YtdapeboajjidmabW.PrintWords Go.Proofs.YtdapeboajjidmabW.PrintLast Go.Proofs.YtdapeboajjidmabW.PrintMore
attribute [local go_sem] max2_int min2_int max_two min_two max_three min_three max_four min_four   -- for this text's walks alone
set_option linter.unusedVariables false
set_option linter.unusedSimpArgs false

/-! ### spec_l3Any: function 50 -/
mutual
def spec_l3Any.l0 : Nat → List (S62) → List Int → Int → Int → Option ((List (S62)) × Int × Int)
 | 0, _, _, _, _ => none
 | k + 1, x5, x1000, x1001, x1002 => (spec_l1Below.f x1000 x1001 x1002 2).bind fun bt210 => (if (x5.length : Int) < (wrap64 (24 + bt210.1)) then (if x5.length < 8796093022208 then (spec_l3Any.l0 k (x5 ++ [(⟨1, 1⟩ : S62)]) x1000 bt210.2.1 bt210.2.2) else (none)) else (some (x5, bt210.2.1, bt210.2.2)))
def spec_l3Any.l1 : Nat → List (S62) → List Int → Int → Int → Option ((List (S62)) × Int × Int)
 | 0, _, _, _, _ => none
 | k + 1, x5, x1000, x1001, x1002 => (spec_l1Below.f x1000 x1001 x1002 2).bind fun bt219 => (if (x5.length : Int) < (wrap64 (13 + bt219.1)) then (if x5.length < 8796093022208 then (spec_l3Any.l1 k (x5 ++ [(⟨0, (x5.length : Int)⟩ : S62)]) x1000 bt219.2.1 bt219.2.2) else (none)) else (some (x5, bt219.2.1, bt219.2.2)))
end
def spec_l3Any.f (k : Nat) (s0_0 : List Int) (s0_1 : Int) (s0_2 : Int) (a1 : Int) : Option ((List (S62)) × Int × Int) := (spec_l3Tree.f k s0_0 s0_1 s0_2 a1).bind fun bt184 => ((spec_l1Below.f s0_0 bt184.2.1 bt184.2.2 (bt184.1.length : Int)).bind fun bt189 => ((spec_l1Below.f s0_0 bt189.2.1 bt189.2.2 18).bind fun bt192 => (if bt192.1 = 0 then ((spec_l2Any.f s0_0 bt192.2.1 bt192.2.2).bind fun bt195 => (if 0 ≤ bt189.1 then (if bt189.1 < (bt184.1.length : Int) then (some ((bt184.1.set (bt189.1 : Int).toNat (⟨bt195.1, (rd_T62 bt184.1 bt189.1).f1⟩ : S62)), bt195.2.1, bt195.2.2)) else (none)) else (none))) else (if bt192.1 = 1 then (if 0 ≤ bt189.1 then (if bt189.1 < (bt184.1.length : Int) then ((spec_l1PickInt.f s0_0 bt192.2.1 bt192.2.2 (([(-1), 0, 1, 13, wrap64 (((rd_T62 bt184.1 bt189.1).f1) + 1)] : List Int))).bind fun bt203 => (some ((bt184.1.set (bt189.1 : Int).toNat (⟨(rd_T62 bt184.1 bt189.1).f0, bt203.1⟩ : S62)), bt203.2.1, bt203.2.2))) else (none)) else (none)) else (if bt192.1 = 2 then (if 1 ≤ (bt184.1.length : Int) then (some ((bt184.1.drop (1 : Int).toNat), bt192.2.1, bt192.2.2)) else (none)) else (if bt192.1 = 3 then (spec_l3Any.l0 k bt184.1 s0_0 bt192.2.1 bt192.2.2) else (if bt192.1 = 4 then (spec_l3Any.l1 k (([(⟨0, 0⟩ : S62)] : List (S62))) s0_0 bt192.2.1 bt192.2.2) else (some (bt184.1, bt192.2.1, bt192.2.2)))))))))
set_option maxHeartbeats 8000000 in
set_option maxRecDepth 100000 in
theorem spec_l3Any.calls (k : Nat) (g : Nat) (s0_0 : List Int) (s0_1 : Int) (s0_2 : Int) (a1 : Int) (r1 : List (S62)) (r2 : Int) (r3 : Int) (w0 w : World) (hI : IsS132 w0 w g s0_0 s0_1 s0_2) (hB : Below w0.heap.size w0 w) (h : spec_l3Any.f k s0_0 s0_1 s0_2 a1 = some (r1, r2, r3)) :
  Calls Try.prog 50 #[.pointer (some ⟨g, 0, none⟩), .int .i64 a1] w fun e w' => ∃ v0_ : Value, e = .returned (v0_) ∧ Kd.Q k62 62 w' w.heap.size (fun _ => True) v0_ r1 ∧ IsS132 w0 w' g s0_0 r2 r3 ∧ Below w0.heap.size w0 w' ∧ KeepBut w w' g none := by
 have hu62 := Try.underlying62
 have HI0 := Aside0.mk hI
 have HK := Aside0.mk (KeepBut.refl w g none)
 have HL := Aside0.mk hB.size
 clear hI
 have HW0 := Aside0.mk hB.size
 have HB := Aside0.mk hB
 clear hB
 have H : ((spec_l3Tree.f k s0_0 s0_1 s0_2 a1).bind fun bt184 => ((spec_l1Below.f s0_0 bt184.2.1 bt184.2.2 (bt184.1.length : Int)).bind fun bt189 => ((spec_l1Below.f s0_0 bt189.2.1 bt189.2.2 18).bind fun bt192 => (if bt192.1 = 0 then ((spec_l2Any.f s0_0 bt192.2.1 bt192.2.2).bind fun bt195 => (if 0 ≤ bt189.1 then (if bt189.1 < (bt184.1.length : Int) then (some ((bt184.1.set (bt189.1 : Int).toNat (⟨bt195.1, (rd_T62 bt184.1 bt189.1).f1⟩ : S62)), bt195.2.1, bt195.2.2)) else (none)) else (none))) else (if bt192.1 = 1 then (if 0 ≤ bt189.1 then (if bt189.1 < (bt184.1.length : Int) then ((spec_l1PickInt.f s0_0 bt192.2.1 bt192.2.2 (([(-1), 0, 1, 13, wrap64 (((rd_T62 bt184.1 bt189.1).f1) + 1)] : List Int))).bind fun bt203 => (some ((bt184.1.set (bt189.1 : Int).toNat (⟨(rd_T62 bt184.1 bt189.1).f0, bt203.1⟩ : S62)), bt203.2.1, bt203.2.2))) else (none)) else (none)) else (if bt192.1 = 2 then (if 1 ≤ (bt184.1.length : Int) then (some ((bt184.1.drop (1 : Int).toNat), bt192.2.1, bt192.2.2)) else (none)) else (if bt192.1 = 3 then (spec_l3Any.l0 k bt184.1 s0_0 bt192.2.1 bt192.2.2) else (if bt192.1 = 4 then (spec_l3Any.l1 k (([(⟨0, 0⟩ : S62)] : List (S62))) s0_0 bt192.2.1 bt192.2.2) else (some (bt184.1, bt192.2.1, bt192.2.2)))))))))) = some (r1, r2, r3) := h
 clear h
 replace H := Option.bind_eq_some_iff.mp H
 obtain ⟨⟨t184, t187, t188⟩, A30, H⟩ := H
 try dsimp only at H
 have A3 := Aside0.mk A30
 clear A30
 replace H := Option.bind_eq_some_iff.mp H
 obtain ⟨⟨t189, t190, t191⟩, A40, H⟩ := H
 try dsimp only at H
 have A4 := Aside0.mk A40
 clear A40
 replace H := Option.bind_eq_some_iff.mp H
 obtain ⟨⟨t192, t193, t194⟩, A50, H⟩ := H
 try dsimp only at H
 have A5 := Aside0.mk A50
 clear A50
 by_cases c6 : t192 = 0
 ·rw [if_pos c6] at H
  have c6b0 : (t192 == 0) = true := beq_iff_eq.mpr c6
  have c6b1 : (t192 != 0) = false := bne_eq_false_iff_eq.mpr c6
  clear c6
  replace H := Option.bind_eq_some_iff.mp H
  obtain ⟨⟨t195, t196, t197⟩, A70, H⟩ := H
  try dsimp only at H
  have A7 := Aside0.mk A70
  clear A70
  obtain ⟨c8b0, H⟩ := ifd_ H
  obtain ⟨c9b0, H⟩ := ifd_ H
  first | ((with_reducible have hz_ := gy_ H); obtain ⟨y198, Ny198, H⟩ := hz_) | (generalize hy_ : (t184.set (t189 : Int).toNat (⟨t195, (rd_T62 t184 t189).f1⟩ : S62)) = y198 at H; have Ny198 := Aside0.mk hy_.symm; clear hy_)
  simp only [Option.some.injEq, Prod.mk.injEq] at H
  obtain ⟨rfl, rfl, rfl⟩ := H
  go_enter Try.func50, Try.ntmps50
  go_wp2_with (first | ((with_reducible refine gate_callee (f := 107) rfl ?_); refine goesL_ (some 9) rfl rfl Try.func107 (by kernel_rfl) rfl #[.pointer (some ⟨g, 0, none⟩), .int .i64 a1] rfl z1_ ?_; (with_reducible refine (spec_l3Tree.calls k g s0_0 s0_1 s0_2 a1 t184 t187 t188 w0 _ ?side1 ?side2 A3.out).mono ?_); (case side1 => exact z4_); (case side2 => exact z5_); rintro e w11 ⟨v185, rfl, ho0, hi, hb, hk⟩; refine ⟨_, rfl, ?_⟩; have HO186 := Aside0.mk (Kd.R_lower ho0 (keep_size (w := w) (g := g) (row := none) z3_)); replace HK := Aside0.mk (KeepBut.trans z3_ hk (.inl rfl)); replace HB := Aside0.mk (hb); replace HI0 := Aside0.mk (hi); (try clear hb hk hi ho0); obtain ⟨Ao12, co12, eo12⟩ := Kd.R_slice HO186.out; subst eo12) | ((with_reducible refine gate_callee (f := 95) rfl ?_); refine goesL_ (some 13) rfl rfl Try.func95 (by kernel_rfl) rfl #[.pointer (some ⟨g, 0, none⟩), .int .i64 (t184.length : Int)] rfl z1_ ?_; (with_reducible refine (spec_l1Below.calls g s0_0 t187 t188 (t184.length : Int) t189 t190 t191 w0 _ ?side1 ?side2 A4.out).mono ?_); (case side1 => exact z4_); (case side2 => exact z5_); rintro e w13 ⟨rfl, hi, hb, hk⟩; refine ⟨_, rfl, ?_⟩; replace HO186 := Aside0.mk (Kd.R_mono (Kd.R_keep (IsS132.apart (show IsS132 w0 _ g s0_0 t187 t188 from by repeat (first | (with_reducible first | exact HI0.out | apply IsS132.alloc | apply IsS132.drewN | apply IsS132.drew | apply IsS132.set_1 | apply IsS132.set_2) | exact HI0.out)) z44_ (by decide)) hk (fun _ h => h.2)) (fun _ h => h.1)); replace HK := Aside0.mk (KeepBut.trans z3_ hk (.inl rfl)); replace HB := Aside0.mk (hb); replace HI0 := Aside0.mk (hi); (try clear hb hk hi)) | ((with_reducible refine gate_callee (f := 95) rfl ?_); refine goesL_ (some 15) rfl rfl Try.func95 (by kernel_rfl) rfl #[.pointer (some ⟨g, 0, none⟩), .int .i64 18] rfl z1_ ?_; (with_reducible refine (spec_l1Below.calls g s0_0 t190 t191 18 t192 t193 t194 w0 _ ?side1 ?side2 A5.out).mono ?_); (case side1 => exact z4_); (case side2 => exact z5_); rintro e w14 ⟨rfl, hi, hb, hk⟩; refine ⟨_, rfl, ?_⟩; replace HO186 := Aside0.mk (Kd.R_mono (Kd.R_keep (IsS132.apart (show IsS132 w0 _ g s0_0 t190 t191 from by repeat (first | (with_reducible first | exact HI0.out | apply IsS132.alloc | apply IsS132.drewN | apply IsS132.drew | apply IsS132.set_1 | apply IsS132.set_2) | exact HI0.out)) z44_ (by decide)) hk (fun _ h => h.2)) (fun _ h => h.1)); replace HK := Aside0.mk (KeepBut.trans z3_ hk (.inl rfl)); replace HB := Aside0.mk (hb); replace HI0 := Aside0.mk (hi); (try clear hb hk hi)) | ((with_reducible refine gate_callee (f := 94) rfl ?_); refine goesL_ (some 21) rfl rfl Try.func94 (by kernel_rfl) rfl #[.pointer (some ⟨g, 0, none⟩)] rfl z1_ ?_; (with_reducible refine (spec_l2Any.calls g s0_0 t193 t194 t195 t196 t197 w0 _ ?side1 ?side2 A7.out).mono ?_); (case side1 => exact z4_); (case side2 => exact z5_); rintro e w15 ⟨rfl, hi, hb, hk⟩; refine ⟨_, rfl, ?_⟩; replace HO186 := Aside0.mk (Kd.R_mono (Kd.R_keep (IsS132.apart (show IsS132 w0 _ g s0_0 t193 t194 from by repeat (first | (with_reducible first | exact HI0.out | apply IsS132.alloc | apply IsS132.drewN | apply IsS132.drew | apply IsS132.set_1 | apply IsS132.set_2) | exact HI0.out)) z44_ (by decide)) hk (fun _ h => h.2)) (fun _ h => h.1)); replace HK := Aside0.mk (KeepBut.trans z3_ hk (.inl rfl)); replace HB := Aside0.mk (hb); replace HI0 := Aside0.mk (hi); (try clear hb hk hi); have p10 : 0 ≤ (t189 : Int) := odt_; have q10 : (t189 : Int) < ((t184.length : Int) : Int) := odt_; obtain ⟨go10, co10, eo10, gb10, gl10, cl10, HG10⟩ := Kd.R_form HO186.out (by omega); (first | cases eo10 | (injection eo10 with ea_ en_ ec_; (first | subst ea_ | (injection ea_ with ea_; subst ea_)); subst ec_; clear en_)); have GB10 := Aside0.mk gb10; have GG10 := Aside0.mk HG10; clear gb10 gl10 HG10; obtain ⟨ce10, hcl10, hM10, hcc10, hfr10⟩ := Kd.R_elem HO186.out z62 (t189 : Int) p10 q10; obtain rfl := k62_openM hM10; have hx10_0 : w15.cell? ⟨go10, (t189 : Int).toNat * 2, none⟩ = some (.int .i64 ((rd_T62 t184 t189).f0)) := hcc10 0 _ rfl; have hx10_1 : w15.cell? ⟨go10, (t189 : Int).toNat * 2 + 1, none⟩ = some (.int .i64 ((rd_T62 t184 t189).f1)) := hcc10 1 _ rfl; have hf10_0 : w15.frozen? ⟨go10, (t189 : Int).toNat * 2, none⟩ = false := hfr10 0; have hf10_1 : w15.frozen? ⟨go10, (t189 : Int).toNat * 2 + 1, none⟩ = false := hfr10 1; clear hcl10 hcc10 hfr10 hM10; replace p10 := eq_true p10; replace q10 := eq_true q10; have HX16 := Aside0.mk (show Kd.R k62 62 w15 w.heap.size (fun _ => True) (.slice (some ⟨go10, 0, none⟩) t184.length co12) t184 from z44_); obtain ⟨ce16, hcl16, hM16, hcc16, hfr16⟩ := Kd.R_elem HX16.out z62 (t189 : Int) (odt_) (by have h_ : (t189 : Int) < ((t184.length : Int) : Int) := odt_; first | exact h_ | (have e_ := (Kd.R_reads' HO186.out).1; omega) | simpa using h_); obtain rfl := k62_openM hM16; have HP16 := Kd.R_seg HX16.out (t189 : Int) (odt_) (by have h_ : (t189 : Int) < ((t184.length : Int) : Int) := odt_; first | exact h_ | (have e_ := (Kd.R_reads' HO186.out).1; omega) | simpa using h_) (seg := [.int .i64 t195]) (j := 0) hcl16 hcc16 (show 1 ≤ 2 from by decide) (x' := (⟨t195, (rd_T62 t184 t189).f1⟩ : S62)) (k62_mkM _ _ _ (⟨t195, (rd_T62 t184 t189).f1⟩ : S62) ) (fun _ hk => hk); have hx16_0 := hcc16 0 _ rfl; (try simp only [show (k62).sz = 2 from rfl, Nat.mul_one, Nat.add_zero] at hx16_0); have hf16_0 := hfr16 0; (try simp only [show (k62).sz = 2 from rfl, Nat.mul_one, Nat.add_zero] at hf16_0); clear hcl16 hcc16 hfr16 hM16) | ((with_reducible refine gate_store (t := 3) (p := 23) rfl ?_); refine store_event (t := 3) (p := 23) (v := ?vo_w17) (w1 := (w15.setCell ⟨go10, (t189 : Int).toNat * 2, none⟩ (.int .i64 t195))) ?hg ?ho ?hn ?hr ?_; (case ho => rfl); (case hg => rfl); (case hn => rfl); (case hr => exact z21_); intro w17 hw; have hg : w15.grownBy w17 (some go10) := (by rw [hw]; exact HP16.2); have hp_ : Kd.R k62 62 w17 w.heap.size (fun _ => True) (.slice (some ⟨go10, 0, none⟩) t184.length co12) y198 := (by rw [hw, Ny198.out]; exact HP16.1); clear HP16; replace HI0 := Aside0.mk (IsS132.grown z4_ hg (IsS132.own_ne HI0.out HO186.out (by decide))); replace HB := Aside0.mk ((by rw [hw]; exact below_set (HB.out) (Nat.le_trans HL.out GB10.out) : Below w0.heap.size w0 w17)); replace HK := Aside0.mk (KeepBut.trans z3_ (KeepBut.of_grown hg g) (Kd.R_base2 HO186.out)); replace HO186 := Aside0.mk (hp_); clear hg hw hp_))
  go_ret
  exact ⟨_, z6_, Kd.Q_of_R z44_, z4_, z5_, z3_⟩
 ·rw [if_neg c6] at H
  have c6b0 : (t192 == 0) = false := beq_eq_false_iff_ne.mpr c6
  have c6b1 : (t192 != 0) = true := bne_iff_ne.mpr c6
  by_cases c18 : t192 = 1
  ·rw [if_pos c18] at H
   have c18b0 : (t192 == 1) = true := beq_iff_eq.mpr c18
   have c18b1 : (t192 != 1) = false := bne_eq_false_iff_eq.mpr c18
   clear c18
   obtain ⟨c19b0, H⟩ := ifd_ H
   obtain ⟨c20b0, H⟩ := ifd_ H
   first | ((with_reducible have hz_ := gy_ H); obtain ⟨y200, Ny200, H⟩ := hz_) | (generalize hy_ : (([(-1), 0, 1, 13, wrap64 (((rd_T62 t184 t189).f1) + 1)] : List Int)) = y200 at H; have Ny200 := Aside0.mk hy_.symm; clear hy_)
   replace H := Option.bind_eq_some_iff.mp H
   obtain ⟨⟨t203, t204, t205⟩, A210, H⟩ := H
   try dsimp only at H
   have A21 := Aside0.mk A210
   clear A210
   first | ((with_reducible have hz_ := gy_ H); obtain ⟨y206, Ny206, H⟩ := hz_) | (generalize hy_ : (t184.set (t189 : Int).toNat (⟨(rd_T62 t184 t189).f0, t203⟩ : S62)) = y206 at H; have Ny206 := Aside0.mk hy_.symm; clear hy_)
   simp only [Option.some.injEq, Prod.mk.injEq] at H
   obtain ⟨rfl, rfl, rfl⟩ := H
   go_enter Try.func50, Try.ntmps50
   go_wp2_with (first | ((with_reducible refine gate_callee (f := 107) rfl ?_); refine goesL_ (some 9) rfl rfl Try.func107 (by kernel_rfl) rfl #[.pointer (some ⟨g, 0, none⟩), .int .i64 a1] rfl z1_ ?_; (with_reducible refine (spec_l3Tree.calls k g s0_0 s0_1 s0_2 a1 t184 t187 t188 w0 _ ?side1 ?side2 A3.out).mono ?_); (case side1 => exact z4_); (case side2 => exact z5_); rintro e w23 ⟨v185, rfl, ho0, hi, hb, hk⟩; refine ⟨_, rfl, ?_⟩; have HO186 := Aside0.mk (Kd.R_lower ho0 (keep_size (w := w) (g := g) (row := none) z3_)); replace HK := Aside0.mk (KeepBut.trans z3_ hk (.inl rfl)); replace HB := Aside0.mk (hb); replace HI0 := Aside0.mk (hi); (try clear hb hk hi ho0); obtain ⟨Ao24, co24, eo24⟩ := Kd.R_slice HO186.out; subst eo24) | ((with_reducible refine gate_callee (f := 95) rfl ?_); refine goesL_ (some 13) rfl rfl Try.func95 (by kernel_rfl) rfl #[.pointer (some ⟨g, 0, none⟩), .int .i64 (t184.length : Int)] rfl z1_ ?_; (with_reducible refine (spec_l1Below.calls g s0_0 t187 t188 (t184.length : Int) t189 t190 t191 w0 _ ?side1 ?side2 A4.out).mono ?_); (case side1 => exact z4_); (case side2 => exact z5_); rintro e w25 ⟨rfl, hi, hb, hk⟩; refine ⟨_, rfl, ?_⟩; replace HO186 := Aside0.mk (Kd.R_mono (Kd.R_keep (IsS132.apart (show IsS132 w0 _ g s0_0 t187 t188 from by repeat (first | (with_reducible first | exact HI0.out | apply IsS132.alloc | apply IsS132.drewN | apply IsS132.drew | apply IsS132.set_1 | apply IsS132.set_2) | exact HI0.out)) z44_ (by decide)) hk (fun _ h => h.2)) (fun _ h => h.1)); replace HK := Aside0.mk (KeepBut.trans z3_ hk (.inl rfl)); replace HB := Aside0.mk (hb); replace HI0 := Aside0.mk (hi); (try clear hb hk hi)) | ((with_reducible refine gate_callee (f := 95) rfl ?_); refine goesL_ (some 15) rfl rfl Try.func95 (by kernel_rfl) rfl #[.pointer (some ⟨g, 0, none⟩), .int .i64 18] rfl z1_ ?_; (with_reducible refine (spec_l1Below.calls g s0_0 t190 t191 18 t192 t193 t194 w0 _ ?side1 ?side2 A5.out).mono ?_); (case side1 => exact z4_); (case side2 => exact z5_); rintro e w26 ⟨rfl, hi, hb, hk⟩; refine ⟨_, rfl, ?_⟩; replace HO186 := Aside0.mk (Kd.R_mono (Kd.R_keep (IsS132.apart (show IsS132 w0 _ g s0_0 t190 t191 from by repeat (first | (with_reducible first | exact HI0.out | apply IsS132.alloc | apply IsS132.drewN | apply IsS132.drew | apply IsS132.set_1 | apply IsS132.set_2) | exact HI0.out)) z44_ (by decide)) hk (fun _ h => h.2)) (fun _ h => h.1)); replace HK := Aside0.mk (KeepBut.trans z3_ hk (.inl rfl)); replace HB := Aside0.mk (hb); replace HI0 := Aside0.mk (hi); (try clear hb hk hi); have p199 : 0 ≤ (t189 : Int) := odt_; have q199 : t189 < (t184.length : Int) := odt_; obtain ⟨ad199, e199, hx199_0, hx199_1⟩ := at_T62 (Kd.R_reads' HO186.out).2.2 t189 p199 q199; cases e199; replace p199 := eq_true p199; replace q199 := eq_true q199) | ((with_reducible refine gate_dst (N := 35) rfl ?_); refine Kd.R_lit (Kd.int .i64) _ 3 ?hg (N := 35) ?hd (xs := ([(-1), 0, 1, 13, wrap64 (((rd_T62 t184 t189).f1) + 1)] : List Int)) (inner := [.int .i64 (-1), .int .i64 0, .int .i64 1, .int .i64 13, .int .i64 (wrap64 (((rd_T62 t184 t189).f1) + 1))]) (ok := fun _ => True) (okp := fun _ => True) ?hr ?hp (fun _ hk => hk) trivial (Below.refl _ _) (Nat.le_refl _) (by simp) ?_; (case hd => rfl); (case hg => rfl); (case hr => exact z21_); (case hp => exact (Reps.one (show Kd.M (Kd.int .i64) _ _ _ (-1) [.int .i64 (-1)] from rfl) (Reps.one (show Kd.M (Kd.int .i64) _ _ _ 0 [.int .i64 0] from rfl) (Reps.one (show Kd.M (Kd.int .i64) _ _ _ 1 [.int .i64 1] from rfl) (Reps.one (show Kd.M (Kd.int .i64) _ _ _ 13 [.int .i64 13] from rfl) (Reps.one (show Kd.M (Kd.int .i64) _ _ _ (wrap64 (((rd_T62 t184 t189).f1) + 1)) [.int .i64 (wrap64 (((rd_T62 t184 t189).f1) + 1))] from rfl) (Reps.none _ _))))))); intro v201 w27 ho28 hb hg_ hnew_; clear hg_ hnew_; (first | rw [← Ny200.out] at ho28 | (simp only [Int.reduceToNat] at ho28; rw [← Ny200.out] at ho28)); replace HO186 := Aside0.mk (Kd.R_below z44_ hb); have HO202 := Aside0.mk (Kd.R_lower ho28 (keep_size (w := w) (g := g) (row := none) z3_)); replace HK := Aside0.mk (KeepBut.trans z3_ (KeepBut.of_below hb g none) (.inl rfl)); replace HB := Aside0.mk (below_step z5_ hb); replace HI0 := Aside0.mk (IsS132.below z4_ hb); clear hb ho28; obtain ⟨Ao29, co29, eo29⟩ := Kd.R_slice HO202.out; subst eo29) | ((with_reducible refine gate_callee (f := 108) rfl ?_); refine goesL_ (some 36) rfl rfl Try.func108 (by kernel_rfl) rfl #[.pointer (some ⟨g, 0, none⟩), .slice Ao29 y200.length co29] rfl z1_ ?_; (with_reducible refine (spec_l1PickInt.calls g s0_0 t193 t194 _ _ y200 t203 t204 t205 w0 _ ?side1 ?side2 ?side3 ?side4 ?side5 A21.out).mono ?_); (case side1 => exact z4_); (case side2 => exact z5_); (case side3 => repeat (first | exact (Kd.R_reads' HO202.out).2.2 | (with_reducible refine Kd.C_alloc ?_ _) | (with_reducible refine Kd.C_drewN ?_ _) | (with_reducible refine Kd.C_drew ?_))); (case side4 => exact (Kd.R_reads' HO202.out).2.1); (case side5 => exact far_slice (IsS132.own_ne HI0.out HO202.out (by decide))); rintro e w30 ⟨rfl, hi, hb, hk⟩; refine ⟨_, rfl, ?_⟩; replace HO186 := Aside0.mk (Kd.R_mono (Kd.R_keep (IsS132.apart (show IsS132 w0 _ g s0_0 t193 t194 from by repeat (first | (with_reducible first | exact HI0.out | apply IsS132.alloc | apply IsS132.drewN | apply IsS132.drew | apply IsS132.set_1 | apply IsS132.set_2) | exact HI0.out)) z44_ (by decide)) hk (fun _ h => h.2)) (fun _ h => h.1)); replace HO202 := Aside0.mk (Kd.R_mono (Kd.R_keep (IsS132.apart (show IsS132 w0 _ g s0_0 t193 t194 from by repeat (first | (with_reducible first | exact HI0.out | apply IsS132.alloc | apply IsS132.drewN | apply IsS132.drew | apply IsS132.set_1 | apply IsS132.set_2) | exact HI0.out)) z212_ (by decide)) hk (fun _ h => h.2)) (fun _ h => h.1)); replace HK := Aside0.mk (KeepBut.trans z3_ hk (.inl rfl)); replace HB := Aside0.mk (hb); replace HI0 := Aside0.mk (hi); (try clear hb hk hi); have p22 : 0 ≤ (t189 : Int) := odt_; have q22 : (t189 : Int) < ((t184.length : Int) : Int) := odt_; obtain ⟨go22, co22, eo22, gb22, gl22, cl22, HG22⟩ := Kd.R_form HO186.out (by omega); (first | cases eo22 | (injection eo22 with ea_ en_ ec_; (first | subst ea_ | (injection ea_ with ea_; subst ea_)); subst ec_; clear en_)); have GB22 := Aside0.mk gb22; have GG22 := Aside0.mk HG22; clear gb22 gl22 HG22; (first | simp only [add_plain] at hx199_0 | skip); (first | simp only [add_plain] at hx199_1 | skip); obtain ⟨ce22, hcl22, hM22, hcc22, hfr22⟩ := Kd.R_elem HO186.out z62 (t189 : Int) p22 q22; obtain rfl := k62_openM hM22; have hx22_0 : w30.cell? ⟨go22, (t189 : Int).toNat * 2, none⟩ = some (.int .i64 ((rd_T62 t184 t189).f0)) := hcc22 0 _ rfl; have hx22_1 : w30.cell? ⟨go22, (t189 : Int).toNat * 2 + 1, none⟩ = some (.int .i64 ((rd_T62 t184 t189).f1)) := hcc22 1 _ rfl; have hf22_0 : w30.frozen? ⟨go22, (t189 : Int).toNat * 2, none⟩ = false := hfr22 0; have hf22_1 : w30.frozen? ⟨go22, (t189 : Int).toNat * 2 + 1, none⟩ = false := hfr22 1; clear hcl22 hcc22 hfr22 hM22; replace p22 := eq_true p22; replace q22 := eq_true q22; have HX31 := Aside0.mk (show Kd.R k62 62 w30 w.heap.size (fun _ => True) (.slice (some ⟨go22, 0, none⟩) t184.length co24) t184 from z44_); obtain ⟨ce31, hcl31, hM31, hcc31, hfr31⟩ := Kd.R_elem HX31.out z62 (t189 : Int) (odt_) (by have h_ : (t189 : Int) < ((t184.length : Int) : Int) := odt_; first | exact h_ | (have e_ := (Kd.R_reads' HO186.out).1; omega) | simpa using h_); obtain rfl := k62_openM hM31; have HP31 := Kd.R_seg HX31.out (t189 : Int) (odt_) (by have h_ : (t189 : Int) < ((t184.length : Int) : Int) := odt_; first | exact h_ | (have e_ := (Kd.R_reads' HO186.out).1; omega) | simpa using h_) (seg := [.int .i64 t203]) (j := 1) hcl31 hcc31 (show 2 ≤ 2 from by decide) (x' := (⟨(rd_T62 t184 t189).f0, t203⟩ : S62)) (k62_mkM _ _ _ (⟨(rd_T62 t184 t189).f0, t203⟩ : S62) ) (fun _ hk => hk); have hx31_1 := hcc31 1 _ rfl; (try simp only [show (k62).sz = 2 from rfl, Nat.mul_one, Nat.add_zero] at hx31_1); have hf31_1 := hfr31 1; (try simp only [show (k62).sz = 2 from rfl, Nat.mul_one, Nat.add_zero] at hf31_1); clear hcl31 hcc31 hfr31 hM31) | ((with_reducible refine gate_store (t := 3) (p := 38) rfl ?_); refine store_event (t := 3) (p := 38) (v := ?vo_w32) (w1 := (w30.setCell ⟨go22, (t189 : Int).toNat * 2 + 1, none⟩ (.int .i64 t203))) ?hg ?ho ?hn ?hr ?_; (case ho => rfl); (case hg => rfl); (case hn => rfl); (case hr => exact z21_); intro w32 hw; have hg : w30.grownBy w32 (some go22) := (by rw [hw]; exact HP31.2); have hp_ : Kd.R k62 62 w32 w.heap.size (fun _ => True) (.slice (some ⟨go22, 0, none⟩) t184.length co24) y206 := (by rw [hw, Ny206.out]; exact HP31.1); clear HP31; replace HI0 := Aside0.mk (IsS132.grown z4_ hg (IsS132.own_ne HI0.out HO186.out (by decide))); replace HO202 := Aside0.mk (Kd.R_over' (v := (.slice (some ⟨go22, 0, none⟩) t184.length co24)) z212_ (Kd.R_typed HO186.out) (by decide) hg); replace HB := Aside0.mk ((by rw [hw]; exact below_set (HB.out) (Nat.le_trans HL.out GB22.out) : Below w0.heap.size w0 w32)); replace HK := Aside0.mk (KeepBut.trans z3_ (KeepBut.of_grown hg g) (Kd.R_base2 HO186.out)); replace HO186 := Aside0.mk (hp_); clear hg hw hp_))
   go_ret
   exact ⟨_, z6_, Kd.Q_of_R z44_, z4_, z5_, z3_⟩
  ·rw [if_neg c18] at H
   have c18b0 : (t192 == 1) = false := beq_eq_false_iff_ne.mpr c18
   have c18b1 : (t192 != 1) = true := bne_iff_ne.mpr c18
   by_cases c33 : t192 = 2
   ·rw [if_pos c33] at H
    have c33b0 : (t192 == 2) = true := beq_iff_eq.mpr c33
    have c33b1 : (t192 != 2) = false := bne_eq_false_iff_eq.mpr c33
    clear c33
    obtain ⟨c34b0, c34b1, H⟩ := ife_ H
    first | ((with_reducible have hz_ := gy_ H); obtain ⟨y207, Ny207, H⟩ := hz_) | (generalize hy_ : (t184.drop (1 : Int).toNat) = y207 at H; have Ny207 := Aside0.mk hy_.symm; clear hy_)
    simp only [Option.some.injEq, Prod.mk.injEq] at H
    obtain ⟨rfl, rfl, rfl⟩ := H
    go_enter Try.func50, Try.ntmps50
    go_wp2_with (first | ((with_reducible refine gate_callee (f := 107) rfl ?_); refine goesL_ (some 9) rfl rfl Try.func107 (by kernel_rfl) rfl #[.pointer (some ⟨g, 0, none⟩), .int .i64 a1] rfl z1_ ?_; (with_reducible refine (spec_l3Tree.calls k g s0_0 s0_1 s0_2 a1 t184 t187 t188 w0 _ ?side1 ?side2 A3.out).mono ?_); (case side1 => exact z4_); (case side2 => exact z5_); rintro e w35 ⟨v185, rfl, ho0, hi, hb, hk⟩; refine ⟨_, rfl, ?_⟩; have HO186 := Aside0.mk (Kd.R_lower ho0 (keep_size (w := w) (g := g) (row := none) z3_)); replace HK := Aside0.mk (KeepBut.trans z3_ hk (.inl rfl)); replace HB := Aside0.mk (hb); replace HI0 := Aside0.mk (hi); (try clear hb hk hi ho0); obtain ⟨Ao36, co36, eo36⟩ := Kd.R_slice HO186.out; subst eo36) | ((with_reducible refine gate_callee (f := 95) rfl ?_); refine goesL_ (some 13) rfl rfl Try.func95 (by kernel_rfl) rfl #[.pointer (some ⟨g, 0, none⟩), .int .i64 (t184.length : Int)] rfl z1_ ?_; (with_reducible refine (spec_l1Below.calls g s0_0 t187 t188 (t184.length : Int) t189 t190 t191 w0 _ ?side1 ?side2 A4.out).mono ?_); (case side1 => exact z4_); (case side2 => exact z5_); rintro e w37 ⟨rfl, hi, hb, hk⟩; refine ⟨_, rfl, ?_⟩; replace HO186 := Aside0.mk (Kd.R_mono (Kd.R_keep (IsS132.apart (show IsS132 w0 _ g s0_0 t187 t188 from by repeat (first | (with_reducible first | exact HI0.out | apply IsS132.alloc | apply IsS132.drewN | apply IsS132.drew | apply IsS132.set_1 | apply IsS132.set_2) | exact HI0.out)) z44_ (by decide)) hk (fun _ h => h.2)) (fun _ h => h.1)); replace HK := Aside0.mk (KeepBut.trans z3_ hk (.inl rfl)); replace HB := Aside0.mk (hb); replace HI0 := Aside0.mk (hi); (try clear hb hk hi)) | ((with_reducible refine gate_callee (f := 95) rfl ?_); refine goesL_ (some 15) rfl rfl Try.func95 (by kernel_rfl) rfl #[.pointer (some ⟨g, 0, none⟩), .int .i64 18] rfl z1_ ?_; (with_reducible refine (spec_l1Below.calls g s0_0 t190 t191 18 t192 t193 t194 w0 _ ?side1 ?side2 A5.out).mono ?_); (case side1 => exact z4_); (case side2 => exact z5_); rintro e w38 ⟨rfl, hi, hb, hk⟩; refine ⟨_, rfl, ?_⟩; replace HO186 := Aside0.mk (Kd.R_mono (Kd.R_keep (IsS132.apart (show IsS132 w0 _ g s0_0 t190 t191 from by repeat (first | (with_reducible first | exact HI0.out | apply IsS132.alloc | apply IsS132.drewN | apply IsS132.drew | apply IsS132.set_1 | apply IsS132.set_2) | exact HI0.out)) z44_ (by decide)) hk (fun _ h => h.2)) (fun _ h => h.1)); replace HK := Aside0.mk (KeepBut.trans z3_ hk (.inl rfl)); replace HB := Aside0.mk (hb); replace HI0 := Aside0.mk (hi); (try clear hb hk hi); have q39 : (1 : Int) ≤ ((t184.length : Int) : Int) := odt_; obtain ⟨i039, hi039, _, hsz39, _⟩ := info_parts info62; have hcut39 := cut_from (P := Try.prog) 24 62 .i64 Try.underlying24 hi039 2 hsz39 Ao36 t184.length co36 1 (by omega) q39; have hr39 := Kd.Q_drop (k := (1 : Int).toNat) (Kd.Q_of_R HO186.out) (by omega); obtain ⟨A39, hA39⟩ : ∃ A1, A1 = (if co36 = (1 : Int).toNat then Ao36 else (Ao36 : Option Addr).map (·.add ((1 : Int).toNat * 2))) := ⟨_, rfl⟩; obtain ⟨c39, hc39⟩ : ∃ c1, c1 = co36 - (1 : Int).toNat := ⟨_, rfl⟩; have hy39 : y207.length = t184.length - (1 : Int).toNat := (by rw [Ny207.out, List.length_drop]); rw [← Ny207.out] at hr39; rw [← hy39, ← hA39, ← hc39] at hcut39; replace hr39 : Kd.Q k62 62 w38 w.heap.size (fun _ => True) (.slice A39 y207.length c39) y207 := (by rw [hA39, hc39, hy39]; exact hr39); have HE39 : Aside0 ((Value.slice A39 y207.length c39).ownBlock = (.slice Ao36 t184.length co36 : Value).ownBlock) := ⟨by rw [hA39]; split <;> (cases (Ao36 : Option Addr) <;> rfl)⟩; clear hy39 hi039 hsz39 HO186 hA39 hc39; have HO209 := Aside0.mk hr39; clear hr39; replace q39 := eq_true q39))
    go_ret
    exact ⟨_, z6_, by (with_reducible repeat (first | apply Kd.Q_alloc | apply Kd.Q_drewN | apply Kd.Q_drew)); exact HO209.out, z4_, z5_, z3_⟩
   ·rw [if_neg c33] at H
    have c33b0 : (t192 == 2) = false := beq_eq_false_iff_ne.mpr c33
    have c33b1 : (t192 != 2) = true := bne_iff_ne.mpr c33
    by_cases c40 : t192 = 3
    ·rw [if_pos c40] at H
     have c40b0 : (t192 == 3) = true := beq_iff_eq.mpr c40
     have c40b1 : (t192 != 3) = false := bne_eq_false_iff_eq.mpr c40
     clear c40
     have H' := Aside0.mk H
     clear H
     go_enter Try.func50, Try.ntmps50
     go_wp2_with (first | ((with_reducible refine gate_callee (f := 107) rfl ?_); refine goesL_ (some 9) rfl rfl Try.func107 (by kernel_rfl) rfl #[.pointer (some ⟨g, 0, none⟩), .int .i64 a1] rfl z1_ ?_; (with_reducible refine (spec_l3Tree.calls k g s0_0 s0_1 s0_2 a1 t184 t187 t188 w0 _ ?side1 ?side2 A3.out).mono ?_); (case side1 => exact z4_); (case side2 => exact z5_); rintro e w41 ⟨v185, rfl, ho0, hi, hb, hk⟩; refine ⟨_, rfl, ?_⟩; have HO186 := Aside0.mk (Kd.R_lower ho0 (keep_size (w := w) (g := g) (row := none) z3_)); replace HK := Aside0.mk (KeepBut.trans z3_ hk (.inl rfl)); replace HB := Aside0.mk (hb); replace HI0 := Aside0.mk (hi); (try clear hb hk hi ho0); obtain ⟨Ao42, co42, eo42⟩ := Kd.R_slice HO186.out; subst eo42) | ((with_reducible refine gate_callee (f := 95) rfl ?_); refine goesL_ (some 13) rfl rfl Try.func95 (by kernel_rfl) rfl #[.pointer (some ⟨g, 0, none⟩), .int .i64 (t184.length : Int)] rfl z1_ ?_; (with_reducible refine (spec_l1Below.calls g s0_0 t187 t188 (t184.length : Int) t189 t190 t191 w0 _ ?side1 ?side2 A4.out).mono ?_); (case side1 => exact z4_); (case side2 => exact z5_); rintro e w43 ⟨rfl, hi, hb, hk⟩; refine ⟨_, rfl, ?_⟩; replace HO186 := Aside0.mk (Kd.R_mono (Kd.R_keep (IsS132.apart (show IsS132 w0 _ g s0_0 t187 t188 from by repeat (first | (with_reducible first | exact HI0.out | apply IsS132.alloc | apply IsS132.drewN | apply IsS132.drew | apply IsS132.set_1 | apply IsS132.set_2) | exact HI0.out)) z44_ (by decide)) hk (fun _ h => h.2)) (fun _ h => h.1)); replace HK := Aside0.mk (KeepBut.trans z3_ hk (.inl rfl)); replace HB := Aside0.mk (hb); replace HI0 := Aside0.mk (hi); (try clear hb hk hi)) | ((with_reducible refine gate_callee (f := 95) rfl ?_); refine goesL_ (some 15) rfl rfl Try.func95 (by kernel_rfl) rfl #[.pointer (some ⟨g, 0, none⟩), .int .i64 18] rfl z1_ ?_; (with_reducible refine (spec_l1Below.calls g s0_0 t190 t191 18 t192 t193 t194 w0 _ ?side1 ?side2 A5.out).mono ?_); (case side1 => exact z4_); (case side2 => exact z5_); rintro e w44 ⟨rfl, hi, hb, hk⟩; refine ⟨_, rfl, ?_⟩; replace HO186 := Aside0.mk (Kd.R_mono (Kd.R_keep (IsS132.apart (show IsS132 w0 _ g s0_0 t190 t191 from by repeat (first | (with_reducible first | exact HI0.out | apply IsS132.alloc | apply IsS132.drewN | apply IsS132.drew | apply IsS132.set_1 | apply IsS132.set_2) | exact HI0.out)) z44_ (by decide)) hk (fun _ h => h.2)) (fun _ h => h.1)); replace HK := Aside0.mk (KeepBut.trans z3_ hk (.inl rfl)); replace HB := Aside0.mk (hb); replace HI0 := Aside0.mk (hi); (try clear hb hk hi)))
     go_loopg [5] k (fun kq v5 w' => ∃ (x5_1 : List (S62)) (x1001_1 : Int) (x1002_1 : Int), Aside0 (spec_l3Any.l0 kq x5_1 s0_0 x1001_1 x1002_1 = some (r1, r2, r3)) ∧ Aside0 (kq ≤ k) ∧ Aside0 (Kd.R k62 62 w' w.heap.size (fun _ => True) v5 x5_1) ∧ Aside0 (IsS132 w0 w' g s0_0 x1001_1 x1002_1) ∧ Aside0 (KeepBut w w' g none) ∧ Aside0 (Below w0.heap.size w0 w'))
     case atStart => exact ⟨(t184), (t193), (t194), H', ⟨Nat.le_refl _⟩, ⟨z44_⟩, ⟨z4_⟩, ⟨z3_⟩, ⟨z5_⟩⟩
     case round =>
      clear H'
      try clear c1
      try clear p1
      try clear q1
      try clear hx1
      try clear c2
      try clear p2
      try clear q2
      try clear hx2
      try clear hf2
      try clear c3
      try clear q3
      try clear hx3
      try clear hf3
      try clear c4
      try clear c5
      try clear c6
      try clear c6b0
      try clear c6b1
      try clear p6
      try clear c8
      try clear c8b0
      try clear c9
      try clear c9b0
      try clear c10
      try clear p10
      try clear q10
      try clear hx10
      try clear hf10
      try clear c16
      try clear hx16
      try clear hf16
      try clear c18
      try clear c18b0
      try clear c18b1
      try clear c19
      try clear c19b0
      try clear p19
      try clear q19
      try clear hx19
      try clear c20
      try clear c20b0
      try clear c22
      try clear p22
      try clear q22
      try clear hx22
      try clear hf22
      try clear c31
      try clear hx31
      try clear hf31
      try clear c33
      try clear c33b0
      try clear c33b1
      try clear c34
      try clear c34b0
      try clear c34b1
      try clear c39
      try clear q39
      try clear c40
      try clear c40b0
      try clear c40b1
      try clear hx10_0
      try clear hx10_1
      try clear hx16_0
      try clear hx199_0
      try clear hx199_1
      try clear hx22_0
      try clear hx22_1
      try clear hx31_1
      try clear p10
      try clear p199
      try clear p22
      try clear q10
      try clear q199
      try clear q22
      try clear q39
      obtain ⟨x5_1, x1001_1, x1002_1, HA, HK1, HO_5, HI0, HK, HB⟩ := hrel
      cases gk with
      | zero => exact absurd HA.out (by simp [spec_l3Any.l0])
      | succ k1 =>
       have H := HA.out
       clear HA
       simp only [spec_l3Any.l0] at H
       replace H := Option.bind_eq_some_iff.mp H
       obtain ⟨⟨t210, t211, t212⟩, A450, H⟩ := H
       try dsimp only at H
       have A45 := Aside0.mk A450
       clear A450
       by_cases c46 : (x5_1.length : Int) < (wrap64 (24 + t210))
       ·rw [if_pos c46] at H
        have c46b0 := decide_eq_true c46
        clear c46
        obtain ⟨c47, H⟩ := ifs_ H
        have LMc47 := Aside0.mk c47
        clear c47
        first | ((with_reducible have hz_ := gy_ H); obtain ⟨y213, Ny213, H⟩ := hz_) | (generalize hy_ : (x5_1 ++ [(⟨1, 1⟩ : S62)]) = y213 at H; have Ny213 := Aside0.mk hy_.symm; clear hy_)
        have H' := Aside0.mk H
        clear H
        obtain ⟨Ao48, co48, eo48⟩ := Kd.R_slice HO_5.out
        subst eo48
        go_wp2_with (first | ((with_reducible refine gate_callee (f := 95) rfl ?_); refine goesL_ (some 48) rfl rfl Try.func95 (by kernel_rfl) rfl #[.pointer (some ⟨g, 0, none⟩), .int .i64 2] rfl z1_ ?_; (with_reducible refine (spec_l1Below.calls g s0_0 x1001_1 x1002_1 2 t210 t211 t212 w0 _ ?side1 ?side2 A45.out).mono ?_); (case side1 => exact z4_); (case side2 => exact z5_); rintro e w49 ⟨rfl, hi, hb, hk⟩; refine ⟨_, rfl, ?_⟩; replace HO_5 := Aside0.mk (Kd.R_mono (Kd.R_keep (IsS132.apart (show IsS132 w0 _ g s0_0 x1001_1 x1002_1 from by repeat (first | (with_reducible first | exact HI0.out | apply IsS132.alloc | apply IsS132.drewN | apply IsS132.drew | apply IsS132.set_1 | apply IsS132.set_2) | exact HI0.out)) z14_ (by decide)) hk (fun _ h => h.2)) (fun _ h => h.1)); replace HK := Aside0.mk (KeepBut.trans z3_ hk (.inl rfl)); replace HB := Aside0.mk (hb); replace HI0 := Aside0.mk (hi); (try clear hb hk hi)) | ((with_reducible refine gate_builtin (b := .append) (xs := #[.tmp 51, .tmp 53]) rfl ?_); at_builtin; refine Kd.R_append k62 w.heap.size rfl (.tmp 51) (.tmp 53) 24 62 (.agg #[(.int .i64 0), (.int .i64 0)]) 16 rfl Try.underlying24 info62 rfl (by decide) (by omega) (.slice Ao48 x5_1.length co48) x5_1 (⟨1, 1⟩ : S62) [.int .i64 1, .int .i64 1] (fun _ => True) (fun _ => False) rfl rfl ?aP (fun _ hk => hk.elim) ?aF ?aO (Below.refl _ _) ?aS ?aL ?_; (case aP => exact k62_mkM _ _ _ (⟨1, 1⟩ : S62)); (case aF => exact z126_); (case aO => exact z70_); (case aS => exact z75_); (case aL => have := LMc47.out; omega); intro v214 w50 ho hb hg hat; rw [← Ny213.out] at ho; replace HB := Aside0.mk (below_weaken z5_ HL.out hb); replace HI0 := Aside0.mk (IsS132.grown z4_ hg (IsS132.own_ne HI0.out HO_5.out (by decide))); replace HK := Aside0.mk (KeepBut.trans z3_ (KeepBut.of_grown hg g) (Kd.R_base2 HO_5.out)); have HO215 := Aside0.mk (ho); clear HO_5; clear ho hb hg hat))
        go_roundg k1
        case measure => have := HK1.out; omega
        case rel => exact ⟨(y213), (t211), (t212), H', ⟨z122_⟩, ⟨by (with_reducible repeat (first | apply Kd.R_alloc | apply Kd.R_drewN | apply Kd.R_drew)); exact HO215.out⟩, ⟨z4_⟩, ⟨z3_⟩, ⟨z5_⟩⟩
       ·rw [if_neg c46] at H
        have c46b0 := decide_eq_false c46
        clear c46
        simp only [Option.some.injEq, Prod.mk.injEq] at H
        obtain ⟨rfl, rfl, rfl⟩ := H
        obtain ⟨Ao51, co51, eo51⟩ := Kd.R_slice HO_5.out
        subst eo51
        go_wp2_with (first | ((with_reducible refine gate_callee (f := 95) rfl ?_); refine goesL_ (some 48) rfl rfl Try.func95 (by kernel_rfl) rfl #[.pointer (some ⟨g, 0, none⟩), .int .i64 2] rfl z1_ ?_; (with_reducible refine (spec_l1Below.calls g s0_0 x1001_1 x1002_1 2 t210 t211 t212 w0 _ ?side1 ?side2 A45.out).mono ?_); (case side1 => exact z4_); (case side2 => exact z5_); rintro e w52 ⟨rfl, hi, hb, hk⟩; refine ⟨_, rfl, ?_⟩; replace HO_5 := Aside0.mk (Kd.R_mono (Kd.R_keep (IsS132.apart (show IsS132 w0 _ g s0_0 x1001_1 x1002_1 from by repeat (first | (with_reducible first | exact HI0.out | apply IsS132.alloc | apply IsS132.drewN | apply IsS132.drew | apply IsS132.set_1 | apply IsS132.set_2) | exact HI0.out)) z14_ (by decide)) hk (fun _ h => h.2)) (fun _ h => h.1)); replace HK := Aside0.mk (KeepBut.trans z3_ hk (.inl rfl)); replace HB := Aside0.mk (hb); replace HI0 := Aside0.mk (hi); (try clear hb hk hi)))
        go_ret
        exact ⟨_, z6_, Kd.Q_of_R z14_, z4_, z5_, z3_⟩
    ·rw [if_neg c40] at H
     have c40b0 : (t192 == 3) = false := beq_eq_false_iff_ne.mpr c40
     have c40b1 : (t192 != 3) = true := bne_iff_ne.mpr c40
     by_cases c53 : t192 = 4
     ·rw [if_pos c53] at H
      have c53b0 : (t192 == 4) = true := beq_iff_eq.mpr c53
      have c53b1 : (t192 != 4) = false := bne_eq_false_iff_eq.mpr c53
      clear c53
      first | ((with_reducible have hz_ := gy_ H); obtain ⟨y216, Ny216, H⟩ := hz_) | (generalize hy_ : (([(⟨0, 0⟩ : S62)] : List (S62))) = y216 at H; have Ny216 := Aside0.mk hy_.symm; clear hy_)
      have H' := Aside0.mk H
      clear H
      go_enter Try.func50, Try.ntmps50
      go_wp2_with (first | ((with_reducible refine gate_callee (f := 107) rfl ?_); refine goesL_ (some 9) rfl rfl Try.func107 (by kernel_rfl) rfl #[.pointer (some ⟨g, 0, none⟩), .int .i64 a1] rfl z1_ ?_; (with_reducible refine (spec_l3Tree.calls k g s0_0 s0_1 s0_2 a1 t184 t187 t188 w0 _ ?side1 ?side2 A3.out).mono ?_); (case side1 => exact z4_); (case side2 => exact z5_); rintro e w54 ⟨v185, rfl, ho0, hi, hb, hk⟩; refine ⟨_, rfl, ?_⟩; have HO186 := Aside0.mk (Kd.R_lower ho0 (keep_size (w := w) (g := g) (row := none) z3_)); replace HK := Aside0.mk (KeepBut.trans z3_ hk (.inl rfl)); replace HB := Aside0.mk (hb); replace HI0 := Aside0.mk (hi); (try clear hb hk hi ho0); obtain ⟨Ao55, co55, eo55⟩ := Kd.R_slice HO186.out; subst eo55) | ((with_reducible refine gate_callee (f := 95) rfl ?_); refine goesL_ (some 13) rfl rfl Try.func95 (by kernel_rfl) rfl #[.pointer (some ⟨g, 0, none⟩), .int .i64 (t184.length : Int)] rfl z1_ ?_; (with_reducible refine (spec_l1Below.calls g s0_0 t187 t188 (t184.length : Int) t189 t190 t191 w0 _ ?side1 ?side2 A4.out).mono ?_); (case side1 => exact z4_); (case side2 => exact z5_); rintro e w56 ⟨rfl, hi, hb, hk⟩; refine ⟨_, rfl, ?_⟩; replace HO186 := Aside0.mk (Kd.R_mono (Kd.R_keep (IsS132.apart (show IsS132 w0 _ g s0_0 t187 t188 from by repeat (first | (with_reducible first | exact HI0.out | apply IsS132.alloc | apply IsS132.drewN | apply IsS132.drew | apply IsS132.set_1 | apply IsS132.set_2) | exact HI0.out)) z44_ (by decide)) hk (fun _ h => h.2)) (fun _ h => h.1)); replace HK := Aside0.mk (KeepBut.trans z3_ hk (.inl rfl)); replace HB := Aside0.mk (hb); replace HI0 := Aside0.mk (hi); (try clear hb hk hi)) | ((with_reducible refine gate_callee (f := 95) rfl ?_); refine goesL_ (some 15) rfl rfl Try.func95 (by kernel_rfl) rfl #[.pointer (some ⟨g, 0, none⟩), .int .i64 18] rfl z1_ ?_; (with_reducible refine (spec_l1Below.calls g s0_0 t190 t191 18 t192 t193 t194 w0 _ ?side1 ?side2 A5.out).mono ?_); (case side1 => exact z4_); (case side2 => exact z5_); rintro e w57 ⟨rfl, hi, hb, hk⟩; refine ⟨_, rfl, ?_⟩; replace HO186 := Aside0.mk (Kd.R_mono (Kd.R_keep (IsS132.apart (show IsS132 w0 _ g s0_0 t190 t191 from by repeat (first | (with_reducible first | exact HI0.out | apply IsS132.alloc | apply IsS132.drewN | apply IsS132.drew | apply IsS132.set_1 | apply IsS132.set_2) | exact HI0.out)) z44_ (by decide)) hk (fun _ h => h.2)) (fun _ h => h.1)); replace HK := Aside0.mk (KeepBut.trans z3_ hk (.inl rfl)); replace HB := Aside0.mk (hb); replace HI0 := Aside0.mk (hi); (try clear hb hk hi)) | ((with_reducible refine gate_dst (N := 58) rfl ?_); refine Kd.R_lit k62 _ 62 ?hg (N := 58) ?hd (xs := ([(⟨0, 0⟩ : S62)] : List (S62))) (inner := [.int .i64 0, .int .i64 0]) (ok := fun _ => True) (okp := fun _ => True) ?hr ?hp (fun _ hk => hk) trivial (Below.refl _ _) (Nat.le_refl _) (by simp) ?_; (case hd => rfl); (case hg => rfl); (case hr => exact z21_); (case hp => exact (Reps.c2 (show Kd.M k62 _ _ _ (⟨0, 0⟩ : S62) [.int .i64 0, .int .i64 0] from (k62_mkM _ _ _ (⟨0, 0⟩ : S62) )) (Reps.none _ _))); intro v217 w58 ho59 hb hg_ hnew_; clear hg_ hnew_; (first | rw [← Ny216.out] at ho59 | (simp only [Int.reduceToNat] at ho59; rw [← Ny216.out] at ho59)); have HO218 := Aside0.mk (Kd.R_lower (Kd.R_new' ho59 (Kd.R_lt z44_)) (keep_size (w := w) (g := g) (row := none) z3_)); replace HO186 := Aside0.mk (Kd.R_elder' z44_ (Kd.R_base ho59) hb); replace HK := Aside0.mk (KeepBut.trans z3_ (KeepBut.of_below hb g none) (.inl rfl)); replace HB := Aside0.mk (below_step z5_ hb); replace HI0 := Aside0.mk (IsS132.below z4_ hb); clear hb ho59))
      go_loopg [5] k (fun kq v5 w' => ∃ (x5_1 : List (S62)) (x1001_1 : Int) (x1002_1 : Int), Aside0 (spec_l3Any.l1 kq x5_1 s0_0 x1001_1 x1002_1 = some (r1, r2, r3)) ∧ Aside0 (kq ≤ k) ∧ Aside0 (Kd.R k62 62 w' w.heap.size (fun _ => True) v5 x5_1) ∧ Aside0 (IsS132 w0 w' g s0_0 x1001_1 x1002_1) ∧ Aside0 (KeepBut w w' g none) ∧ Aside0 (Below w0.heap.size w0 w'))
      case atStart => exact ⟨(y216), (t193), (t194), H', ⟨Nat.le_refl _⟩, ⟨by (with_reducible repeat (first | apply Kd.R_alloc | apply Kd.R_drewN | apply Kd.R_drew)); exact Kd.R_mono HO218.out (fun _ hk => trivial)⟩, ⟨z4_⟩, ⟨z3_⟩, ⟨z5_⟩⟩
      case round =>
       clear H'
       try clear c1
       try clear p1
       try clear q1
       try clear hx1
       try clear c2
       try clear p2
       try clear q2
       try clear hx2
       try clear hf2
       try clear c3
       try clear q3
       try clear hx3
       try clear hf3
       try clear c4
       try clear c5
       try clear c6
       try clear c6b0
       try clear c6b1
       try clear p6
       try clear c8
       try clear c8b0
       try clear c9
       try clear c9b0
       try clear c10
       try clear p10
       try clear q10
       try clear hx10
       try clear hf10
       try clear c16
       try clear hx16
       try clear hf16
       try clear c18
       try clear c18b0
       try clear c18b1
       try clear c19
       try clear c19b0
       try clear p19
       try clear q19
       try clear hx19
       try clear c20
       try clear c20b0
       try clear c22
       try clear p22
       try clear q22
       try clear hx22
       try clear hf22
       try clear c31
       try clear hx31
       try clear hf31
       try clear c33
       try clear c33b0
       try clear c33b1
       try clear c34
       try clear c34b0
       try clear c34b1
       try clear c39
       try clear q39
       try clear c40
       try clear c40b0
       try clear c40b1
       try clear c46
       try clear c46b0
       try clear c47
       try clear c50
       try clear c53
       try clear c53b0
       try clear c53b1
       try clear hx10_0
       try clear hx10_1
       try clear hx16_0
       try clear hx199_0
       try clear hx199_1
       try clear hx22_0
       try clear hx22_1
       try clear hx31_1
       try clear p1
       try clear p10
       try clear p19
       try clear p199
       try clear p2
       try clear p22
       try clear p6
       try clear q1
       try clear q10
       try clear q19
       try clear q199
       try clear q2
       try clear q22
       try clear q3
       try clear q39
       obtain ⟨x5_1, x1001_1, x1002_1, HA, HK1, HO_5, HI0, HK, HB⟩ := hrel
       cases gk with
       | zero => exact absurd HA.out (by simp [spec_l3Any.l1])
       | succ k1 =>
        have H := HA.out
        clear HA
        simp only [spec_l3Any.l1] at H
        replace H := Option.bind_eq_some_iff.mp H
        obtain ⟨⟨t219, t220, t221⟩, A600, H⟩ := H
        try dsimp only at H
        have A60 := Aside0.mk A600
        clear A600
        by_cases c61 : (x5_1.length : Int) < (wrap64 (13 + t219))
        ·rw [if_pos c61] at H
         have c61b0 := decide_eq_true c61
         clear c61
         obtain ⟨c62, H⟩ := ifs_ H
         have LMc62 := Aside0.mk c62
         clear c62
         first | ((with_reducible have hz_ := gy_ H); obtain ⟨y222, Ny222, H⟩ := hz_) | (generalize hy_ : (x5_1 ++ [(⟨0, (x5_1.length : Int)⟩ : S62)]) = y222 at H; have Ny222 := Aside0.mk hy_.symm; clear hy_)
         have H' := Aside0.mk H
         clear H
         obtain ⟨Ao63, co63, eo63⟩ := Kd.R_slice HO_5.out
         subst eo63
         go_wp2_with (first | ((with_reducible refine gate_callee (f := 95) rfl ?_); refine goesL_ (some 62) rfl rfl Try.func95 (by kernel_rfl) rfl #[.pointer (some ⟨g, 0, none⟩), .int .i64 2] rfl z1_ ?_; (with_reducible refine (spec_l1Below.calls g s0_0 x1001_1 x1002_1 2 t219 t220 t221 w0 _ ?side1 ?side2 A60.out).mono ?_); (case side1 => exact z4_); (case side2 => exact z5_); rintro e w64 ⟨rfl, hi, hb, hk⟩; refine ⟨_, rfl, ?_⟩; replace HO_5 := Aside0.mk (Kd.R_mono (Kd.R_keep (IsS132.apart (show IsS132 w0 _ g s0_0 x1001_1 x1002_1 from by repeat (first | (with_reducible first | exact HI0.out | apply IsS132.alloc | apply IsS132.drewN | apply IsS132.drew | apply IsS132.set_1 | apply IsS132.set_2) | exact HI0.out)) z14_ (by decide)) hk (fun _ h => h.2)) (fun _ h => h.1)); replace HK := Aside0.mk (KeepBut.trans z3_ hk (.inl rfl)); replace HB := Aside0.mk (hb); replace HI0 := Aside0.mk (hi); (try clear hb hk hi)) | ((with_reducible refine gate_builtin (b := .append) (xs := #[.tmp 65, .tmp 69]) rfl ?_); at_builtin; refine Kd.R_append k62 w.heap.size rfl (.tmp 65) (.tmp 69) 24 62 (.agg #[(.int .i64 0), (.int .i64 0)]) 16 rfl Try.underlying24 info62 rfl (by decide) (by omega) (.slice Ao63 x5_1.length co63) x5_1 (⟨0, (x5_1.length : Int)⟩ : S62) [.int .i64 0, .int .i64 (x5_1.length : Int)] (fun _ => True) (fun _ => False) rfl rfl ?aP (fun _ hk => hk.elim) ?aF ?aO (Below.refl _ _) ?aS ?aL ?_; (case aP => exact k62_mkM _ _ _ (⟨0, (x5_1.length : Int)⟩ : S62)); (case aF => exact z126_); (case aO => exact z70_); (case aS => exact z75_); (case aL => have := LMc62.out; omega); intro v223 w65 ho hb hg hat; rw [← Ny222.out] at ho; replace HB := Aside0.mk (below_weaken z5_ HL.out hb); replace HI0 := Aside0.mk (IsS132.grown z4_ hg (IsS132.own_ne HI0.out HO_5.out (by decide))); replace HK := Aside0.mk (KeepBut.trans z3_ (KeepBut.of_grown hg g) (Kd.R_base2 HO_5.out)); have HO224 := Aside0.mk (ho); clear HO_5; clear ho hb hg hat))
         go_roundg k1
         case measure => have := HK1.out; omega
         case rel => exact ⟨(y222), (t220), (t221), H', ⟨z122_⟩, ⟨by (with_reducible repeat (first | apply Kd.R_alloc | apply Kd.R_drewN | apply Kd.R_drew)); exact HO224.out⟩, ⟨z4_⟩, ⟨z3_⟩, ⟨z5_⟩⟩
        ·rw [if_neg c61] at H
         have c61b0 := decide_eq_false c61
         clear c61
         simp only [Option.some.injEq, Prod.mk.injEq] at H
         obtain ⟨rfl, rfl, rfl⟩ := H
         obtain ⟨Ao66, co66, eo66⟩ := Kd.R_slice HO_5.out
         subst eo66
         go_wp2_with (first | ((with_reducible refine gate_callee (f := 95) rfl ?_); refine goesL_ (some 62) rfl rfl Try.func95 (by kernel_rfl) rfl #[.pointer (some ⟨g, 0, none⟩), .int .i64 2] rfl z1_ ?_; (with_reducible refine (spec_l1Below.calls g s0_0 x1001_1 x1002_1 2 t219 t220 t221 w0 _ ?side1 ?side2 A60.out).mono ?_); (case side1 => exact z4_); (case side2 => exact z5_); rintro e w67 ⟨rfl, hi, hb, hk⟩; refine ⟨_, rfl, ?_⟩; replace HO_5 := Aside0.mk (Kd.R_mono (Kd.R_keep (IsS132.apart (show IsS132 w0 _ g s0_0 x1001_1 x1002_1 from by repeat (first | (with_reducible first | exact HI0.out | apply IsS132.alloc | apply IsS132.drewN | apply IsS132.drew | apply IsS132.set_1 | apply IsS132.set_2) | exact HI0.out)) z14_ (by decide)) hk (fun _ h => h.2)) (fun _ h => h.1)); replace HK := Aside0.mk (KeepBut.trans z3_ hk (.inl rfl)); replace HB := Aside0.mk (hb); replace HI0 := Aside0.mk (hi); (try clear hb hk hi)))
         go_ret
         exact ⟨_, z6_, Kd.Q_of_R z14_, z4_, z5_, z3_⟩
     ·rw [if_neg c53] at H
      have c53b0 : (t192 == 4) = false := beq_eq_false_iff_ne.mpr c53
      have c53b1 : (t192 != 4) = true := bne_iff_ne.mpr c53
      simp only [Option.some.injEq, Prod.mk.injEq] at H
      obtain ⟨rfl, rfl, rfl⟩ := H
      go_enter Try.func50, Try.ntmps50
      go_wp2_with (first | ((with_reducible refine gate_callee (f := 107) rfl ?_); refine goesL_ (some 9) rfl rfl Try.func107 (by kernel_rfl) rfl #[.pointer (some ⟨g, 0, none⟩), .int .i64 a1] rfl z1_ ?_; (with_reducible refine (spec_l3Tree.calls k g s0_0 s0_1 s0_2 a1 t184 t187 t188 w0 _ ?side1 ?side2 A3.out).mono ?_); (case side1 => exact z4_); (case side2 => exact z5_); rintro e w68 ⟨v185, rfl, ho0, hi, hb, hk⟩; refine ⟨_, rfl, ?_⟩; have HO186 := Aside0.mk (Kd.R_lower ho0 (keep_size (w := w) (g := g) (row := none) z3_)); replace HK := Aside0.mk (KeepBut.trans z3_ hk (.inl rfl)); replace HB := Aside0.mk (hb); replace HI0 := Aside0.mk (hi); (try clear hb hk hi ho0); obtain ⟨Ao69, co69, eo69⟩ := Kd.R_slice HO186.out; subst eo69) | ((with_reducible refine gate_callee (f := 95) rfl ?_); refine goesL_ (some 13) rfl rfl Try.func95 (by kernel_rfl) rfl #[.pointer (some ⟨g, 0, none⟩), .int .i64 (t184.length : Int)] rfl z1_ ?_; (with_reducible refine (spec_l1Below.calls g s0_0 t187 t188 (t184.length : Int) t189 t190 t191 w0 _ ?side1 ?side2 A4.out).mono ?_); (case side1 => exact z4_); (case side2 => exact z5_); rintro e w70 ⟨rfl, hi, hb, hk⟩; refine ⟨_, rfl, ?_⟩; replace HO186 := Aside0.mk (Kd.R_mono (Kd.R_keep (IsS132.apart (show IsS132 w0 _ g s0_0 t187 t188 from by repeat (first | (with_reducible first | exact HI0.out | apply IsS132.alloc | apply IsS132.drewN | apply IsS132.drew | apply IsS132.set_1 | apply IsS132.set_2) | exact HI0.out)) z44_ (by decide)) hk (fun _ h => h.2)) (fun _ h => h.1)); replace HK := Aside0.mk (KeepBut.trans z3_ hk (.inl rfl)); replace HB := Aside0.mk (hb); replace HI0 := Aside0.mk (hi); (try clear hb hk hi)) | ((with_reducible refine gate_callee (f := 95) rfl ?_); refine goesL_ (some 15) rfl rfl Try.func95 (by kernel_rfl) rfl #[.pointer (some ⟨g, 0, none⟩), .int .i64 18] rfl z1_ ?_; (with_reducible refine (spec_l1Below.calls g s0_0 t190 t191 18 t192 t193 t194 w0 _ ?side1 ?side2 A5.out).mono ?_); (case side1 => exact z4_); (case side2 => exact z5_); rintro e w71 ⟨rfl, hi, hb, hk⟩; refine ⟨_, rfl, ?_⟩; replace HO186 := Aside0.mk (Kd.R_mono (Kd.R_keep (IsS132.apart (show IsS132 w0 _ g s0_0 t190 t191 from by repeat (first | (with_reducible first | exact HI0.out | apply IsS132.alloc | apply IsS132.drewN | apply IsS132.drew | apply IsS132.set_1 | apply IsS132.set_2) | exact HI0.out)) z44_ (by decide)) hk (fun _ h => h.2)) (fun _ h => h.1)); replace HK := Aside0.mk (KeepBut.trans z3_ hk (.inl rfl)); replace HB := Aside0.mk (hb); replace HI0 := Aside0.mk (hi); (try clear hb hk hi)))
      go_ret
      exact ⟨_, z6_, Kd.Q_of_R z44_, z4_, z5_, z3_⟩

/-! ### spec_l1New: function 51 -/
def spec_l1New.l0 : Nat → List Int → Int → Int → Option (List Int × Int × Int)
 | 0, _, _, _ => none
 | k + 1, x0, x3, x4 => if x4 < (x0.length : Int) then (if x4 < 4000 then (if 0 ≤ x4 then (spec_l1New.l0 k x0 (Go.bits .and .i64 (wrap64 ((wrap64 ((wrap64 (x3 * 131)) + (wrap64 (rd x0 x4)))) + 7)) 1073741823) (wrap64 (x4 + 1))) else (none)) else (some (x0, 0, x3))) else (some (x0, 0, x3))
def spec_l1New.f (k : Nat) (l0 : List Int) : Option (List Int × Int × Int) := spec_l1New.l0 k l0 (wrap64 (10101 + (l0.length : Int))) 0
set_option maxHeartbeats 8000000 in
set_option maxRecDepth 100000 in
theorem spec_l1New.calls (k : Nat) (A0 : Option Addr) (c0 : Nat) (l0 : List Int) (r1 : List Int) (r2 : Int) (r3 : Int) (w0 w : World) (hB : Below w0.heap.size w0 w) (hr0 : Kd.C (Kd.int .u8) w0 A0 l0.length l0) (hc0 : l0.length ≤ c0) (h : spec_l1New.f k l0 = some (r1, r2, r3)) :
  Calls Try.prog 51 #[.slice A0 l0.length c0] w fun e w' => ∃ g_ : Nat, e = .returned (.pointer (some ⟨g_, 0, none⟩)) ∧ IsS132 w0 w' g_ r1 r2 r3 ∧ Below w0.heap.size w0 w' ∧ Below w.heap.size w w' := by
 have hu132 := Try.underlying132
 have HR0 := Aside0.mk hr0
 have HC0 := Aside0.mk hc0
 clear hr0 hc0
 have HBW := Aside0.mk (Below.refl w.heap.size w)
 have HW0 := Aside0.mk hB.size
 have HB := Aside0.mk hB
 clear hB
 have H : (spec_l1New.l0 k l0 (wrap64 (10101 + (l0.length : Int))) 0) = some (r1, r2, r3) := h
 clear h
 have H' := Aside0.mk H
 clear H
 go_enter Try.func51, Try.ntmps51
 go_wp2
 go_loopg [3, 4] k (fun kq v3 v4 w' => ∃ (x3_1 : Int) (x4_1 : Int), v3 = .int .i64 x3_1 ∧ v4 = .int .i64 x4_1 ∧ Aside0 (spec_l1New.l0 kq l0 x3_1 x4_1 = some (r1, r2, r3)) ∧ Aside0 (kq ≤ k) ∧ Aside0 (Below w0.heap.size w0 w') ∧ Aside0 (Below w.heap.size w w'))
 case atStart => exact ⟨(wrap64 (10101 + (l0.length : Int))), (0), z15_, z15_, H', ⟨Nat.le_refl _⟩, ⟨z0_⟩, ⟨z104_⟩⟩
 case round =>
  clear H'
  obtain ⟨x3_1, x4_1, rfl, rfl, HA, HK1, HB, HBW2⟩ := hrel
  clear HBW
  have HBW := HBW2
  clear HBW2
  cases gk with
  | zero => exact absurd HA.out (by simp [spec_l1New.l0])
  | succ k1 =>
   have H := HA.out
   clear HA
   simp only [spec_l1New.l0] at H
   by_cases c2 : x4_1 < (l0.length : Int)
   ·rw [if_pos c2] at H
    have c2b0 := decide_eq_true c2
    clear c2
    by_cases c3 : x4_1 < 4000
    ·rw [if_pos c3] at H
     have c3b0 := decide_eq_true c3
     clear c3
     obtain ⟨c4b0, H⟩ := ifd_ H
     have H' := Aside0.mk H
     clear H
     have p225 : 0 ≤ (x4_1 : Int) := odt_
     have q225 : x4_1 < (l0.length : Int) := odt_
     obtain ⟨ad225, e225, hx225_0⟩ := Kd.at_int HR0.out x4_1 p225 q225
     cases e225
     replace hx225_0 := pw_cell_below HB.out hx225_0
     replace p225 := eq_true p225
     replace q225 := eq_true q225
     go_wp2
     go_roundg k1
     case measure => have := HK1.out; omega
     case rel => exact ⟨(Go.bits .and .i64 (wrap64 ((wrap64 ((wrap64 (x3_1 * 131)) + (wrap64 (rd l0 x4_1)))) + 7)) 1073741823), (wrap64 (x4_1 + 1)), z15_, z15_, H', ⟨z122_⟩, ⟨z0_⟩, ⟨z104_⟩⟩
    ·rw [if_neg c3] at H
     have c3b0 := decide_eq_false c3
     clear c3
     simp only [Option.some.injEq, Prod.mk.injEq] at H
     obtain ⟨rfl, rfl, rfl⟩ := H
     go_wp2_with (first | ((with_reducible refine gate_dst (N := 31) rfl ?_); refine box_event ?hg (N := 31) ?hd (cs := #[.slice A0 l0.length c0, .int .i64 0, .int .i64 x3_1]) (t := 132) ?hr ?_; (case hd => rfl); (case hg => rfl); (case hr => exact z21_); intro gb226 hg w5 hbox hb; replace HB := Aside0.mk (below_step z0_ hb); have BK226 := Aside0.mk (hbox); have GW226 := Aside0.mk ((by rw [hg]; exact (below_size z104_) : w.heap.size ≤ gb226)); have GE226 := Aside0.mk ((Nat.le_trans HW0.out (by rw [hg]; exact (below_size z104_) : w.heap.size ≤ gb226) : w0.heap.size ≤ gb226)); replace HBW := Aside0.mk (below_step HBW.out hb); clear hb hbox hg))
     go_ret
     exact ⟨_, rfl, (show IsS132 w0 _ gb226 l0 0 x3_1 from ⟨_, _, by (with_reducible repeat (first | refine blk_drewN ?_ _ | refine blk_drew ?_ | refine blk_alloc ?_ _)); exact BK226.out, GE226.out, HR0.out⟩), by repeat (first | (with_reducible first | exact HB.out | apply below_alloc | apply pw_below_drewN | apply below_drew1 | refine below_set ?_ GE226.out) | exact HB.out), by repeat (first | (with_reducible first | exact HBW.out | apply below_alloc | apply pw_below_drewN | apply below_drew1 | refine below_set ?_ GW226.out) | exact HBW.out)⟩
   ·rw [if_neg c2] at H
    have c2b0 := decide_eq_false c2
    clear c2
    simp only [Option.some.injEq, Prod.mk.injEq] at H
    obtain ⟨rfl, rfl, rfl⟩ := H
    go_wp2_with (first | ((with_reducible refine gate_dst (N := 31) rfl ?_); refine box_event ?hg (N := 31) ?hd (cs := #[.slice A0 l0.length c0, .int .i64 0, .int .i64 x3_1]) (t := 132) ?hr ?_; (case hd => rfl); (case hg => rfl); (case hr => exact z21_); intro gb227 hg w6 hbox hb; replace HB := Aside0.mk (below_step z0_ hb); have BK227 := Aside0.mk (hbox); have GW227 := Aside0.mk ((by rw [hg]; exact (below_size z104_) : w.heap.size ≤ gb227)); have GE227 := Aside0.mk ((Nat.le_trans HW0.out (by rw [hg]; exact (below_size z104_) : w.heap.size ≤ gb227) : w0.heap.size ≤ gb227)); replace HBW := Aside0.mk (below_step HBW.out hb); clear hb hbox hg))
    go_ret
    exact ⟨_, rfl, (show IsS132 w0 _ gb227 l0 0 x3_1 from ⟨_, _, by (with_reducible repeat (first | refine blk_drewN ?_ _ | refine blk_drew ?_ | refine blk_alloc ?_ _)); exact BK227.out, GE227.out, HR0.out⟩), by repeat (first | (with_reducible first | exact HB.out | apply below_alloc | apply pw_below_drewN | apply below_drew1 | refine below_set ?_ GE227.out) | exact HB.out), by repeat (first | (with_reducible first | exact HBW.out | apply below_alloc | apply pw_below_drewN | apply below_drew1 | refine below_set ?_ GW227.out) | exact HBW.out)⟩

/-! ### spec_l3Copy: function 90 -/
def spec_l3Copy.f (l0 : List (S62)) : Option ((List (S62))) := (some (([] : List (S62)) : List (S62))).bind fun y228 => (if y228.length + l0.length < 8796093022208 then (some (y228 ++ l0)) else (none))
set_option maxHeartbeats 8000000 in
set_option maxRecDepth 100000 in
theorem spec_l3Copy.calls (A0 : Option Addr) (c0 : Nat) (l0 : List (S62)) (r : List (S62)) (w : World) (hr0 : Kd.C k62 w A0 l0.length l0) (hc0 : l0.length ≤ c0) (h : spec_l3Copy.f l0 = some r) :
  Calls Try.prog 90 #[.slice A0 l0.length c0] w fun e w' => ∃ v0_ : Value, e = .returned (v0_) ∧ Kd.R k62 62 w' w.heap.size (fun _ => True) v0_ r ∧ Below w.heap.size w w' := by
 have HR0 := Aside0.mk hr0
 have HC0 := Aside0.mk hc0
 clear hr0 hc0
 have HB := Aside0.mk (Below.refl w.heap.size w)
 have H : ((some (([] : List (S62)) : List (S62))).bind fun y228 => (if y228.length + l0.length < 8796093022208 then (some (y228 ++ l0)) else (none))) = some r := h
 clear h
 first | ((with_reducible have hz_ := gy_ H); obtain ⟨y228, Ny228, H⟩ := hz_) | (generalize hy_ : (([] : List (S62))) = y228 at H; have Ny228 := Aside0.mk hy_.symm; clear hy_)
 obtain ⟨c2, H⟩ := ifs_ H
 have LMc2 := Aside0.mk c2
 clear c2
 first | ((with_reducible have hz_ := gy_ H); obtain ⟨y231, Ny231, H⟩ := hz_) | (generalize hy_ : (y228 ++ l0) = y231 at H; have Ny231 := Aside0.mk hy_.symm; clear hy_)
 obtain rfl := Option.some.inj H
 go_enter Try.func90, Try.ntmps90
 go_wp2_with (first | ((with_reducible refine gate_dst (N := 3) rfl ?_); refine Kd.R_lit k62 _ 62 ?hg (N := 3) ?hd (xs := ([] : List (S62))) (inner := []) (ok := fun _ => True) (okp := fun _ => True) ?hr ?hp (fun _ hk => hk) trivial (Below.refl _ _) (Nat.le_refl _) (by simp) ?_; (case hd => rfl); (case hg => rfl); (case hr => exact z21_); (case hp => exact z144_); intro v229 w3 ho4 hb hg_ hnew_; clear hg_ hnew_; (first | rw [← Ny228.out] at ho4 | (simp only [Int.reduceToNat] at ho4; rw [← Ny228.out] at ho4)); have HO230 := Aside0.mk (Kd.R_lower ho4 (below_size z0_)); replace HB := Aside0.mk (below_step z0_ hb); clear hb ho4) | ((with_reducible refine gate_builtin (b := .append) (xs := #[.tmp 3, .tmp 4]) rfl ?_); at_builtin; refine Kd.R_append_rows k62 (w0 := w) w.heap.size rfl (.tmp 3) (.tmp 4) 24 62 (.agg #[(.int .i64 0), (.int .i64 0)]) 16 rfl Try.underlying24 info62 rfl (by decide) (by omega) v229 y228 l0 _ _ _ (fun _ => True) (fun _ => False) rfl rfl ?aO ?aR (fun _ _ h => h) (fun _ h => h.elim) ?aF ?aB ?aS ?aL ?_; (case aR => exact z2_); (case aB => exact z61_); (case aF => exact z126_); (case aO => exact (by (with_reducible repeat (first | apply Kd.R_alloc | apply Kd.R_drewN | apply Kd.R_drew)); exact HO230.out)); (case aS => exact z62_); (case aL => have := LMc2.out; omega); intro v232 w5 ho hb hg hat; rw [← Ny231.out] at ho; replace HB := Aside0.mk (hb); have HO233 := Aside0.mk (ho); clear HO230; clear ho hb hg hat))
 go_ret
 exact ⟨_, z6_, by (with_reducible repeat (first | apply Kd.R_alloc | apply Kd.R_drewN | apply Kd.R_drew)); exact HO233.out, z0_⟩

/-! ### spec_l3At: function 88 -/
def spec_l3At.f (k : Nat) (l0 : List (S62)) (a1 : Int) : Option (Bool) := (spec_TreeOk.f k l0).bind fun t234 => (if t234 = true then ((spec_l1In.f a1 0 (wrap64 ((l0.length : Int) - 1))).bind fun t235 => (some t235)) else (some false))
set_option maxHeartbeats 8000000 in
set_option maxRecDepth 100000 in
theorem spec_l3At.calls (k : Nat) (A0 : Option Addr) (c0 : Nat) (l0 : List (S62)) (a1 : Int) (r : Bool) (w : World) (hr0 : Kd.C k62 w A0 l0.length l0) (hc0 : l0.length ≤ c0) (h : spec_l3At.f k l0 a1 = some r) :
  Calls Try.prog 88 #[.slice A0 l0.length c0, .int .i64 a1] w fun e w' => e = .returned (.bool r) ∧ Below w.heap.size w w' := by
 have HR0 := Aside0.mk hr0
 have HC0 := Aside0.mk hc0
 clear hr0 hc0
 have HB := Aside0.mk (Below.refl w.heap.size w)
 have H : ((spec_TreeOk.f k l0).bind fun t234 => (if t234 = true then ((spec_l1In.f a1 0 (wrap64 ((l0.length : Int) - 1))).bind fun t235 => (some t235)) else (some false))) = some r := h
 clear h
 obtain ⟨t234, A3, H⟩ := bnd_ H
 by_cases c4 : t234 = true
 ·subst c4
  replace H := ift_ H
  obtain ⟨t235, A5, H⟩ := bnd_ H
  obtain rfl := Option.some.inj H
  go_enter Try.func88, Try.ntmps88
  go_wp2_with (first | ((with_reducible refine gate_callee (f := 12) rfl ?_); refine goesL_ (some 6) rfl rfl Try.func12 (by kernel_rfl) rfl #[.slice A0 l0.length c0] rfl z1_ ?_; (with_reducible refine (spec_TreeOk.calls k _ _ l0 true _ ?side1 ?side2 A3.out).mono ?_); (case side1 => exact z17_); (case side2 => exact HC0.out); rintro e w6 ⟨rfl, hb⟩; refine ⟨_, rfl, ?_⟩; replace HB := Aside0.mk (below_step z0_ hb); (try clear hb)) | (go_at_call 58; (with_reducible refine (spec_l1In.calls a1 0 (wrap64 ((l0.length : Int) - 1)) t235 _ A5.out).mono ?_); rintro e w' ⟨rfl, ⟨nd, rfl⟩⟩))
  go_ret
  exact ⟨z6_, z0_⟩
 ·replace c4 := Bool.eq_false_iff.mpr c4
  subst c4
  replace H := iff_ H
  obtain rfl := Option.some.inj H
  go_enter Try.func88, Try.ntmps88
  go_wp2_with (first | ((with_reducible refine gate_callee (f := 12) rfl ?_); refine goesL_ (some 6) rfl rfl Try.func12 (by kernel_rfl) rfl #[.slice A0 l0.length c0] rfl z1_ ?_; (with_reducible refine (spec_TreeOk.calls k _ _ l0 false _ ?side1 ?side2 A3.out).mono ?_); (case side1 => exact z17_); (case side2 => exact HC0.out); rintro e w7 ⟨rfl, hb⟩; refine ⟨_, rfl, ?_⟩; replace HB := Aside0.mk (below_step z0_ hb); (try clear hb)))
  go_ret
  exact ⟨z6_, z0_⟩

/-! ### spec_EndOf: function 122 -/
def spec_EndOf.l0 : Nat → List (S62) → Int → Int → Option (Int)
 | 0, _, _, _ => none
 | k + 1, x0, x1, x5 => if x5 < (x0.length : Int) then (if 0 ≤ x5 then (if 0 ≤ x1 then (if x1 < (x0.length : Int) then (if ((rd_T62 x0 x5).f1) > ((rd_T62 x0 x1).f1) then (spec_EndOf.l0 k x0 x1 (wrap64 (x5 + 1))) else (some x5)) else (none)) else (none)) else (none)) else (some x5)
def spec_EndOf.f (k : Nat) (l0 : List (S62)) (a1 : Int) : Option (Int) := (spec_l3At.f k l0 a1).bind fun t236 => (if t236 = true then (spec_EndOf.l0 k l0 a1 (wrap64 (a1 + 1))) else (some (-1)))
set_option maxHeartbeats 8000000 in
set_option maxRecDepth 100000 in
theorem spec_EndOf.calls (k : Nat) (A0 : Option Addr) (c0 : Nat) (l0 : List (S62)) (a1 : Int) (r : Int) (w : World) (hr0 : Kd.C k62 w A0 l0.length l0) (hc0 : l0.length ≤ c0) (h : spec_EndOf.f k l0 a1 = some r) :
  Calls Try.prog 122 #[.slice A0 l0.length c0, .int .i64 a1] w fun e w' => e = .returned (.int .i64 r) ∧ Below w.heap.size w w' := by
 have HR0 := Aside0.mk hr0
 have HC0 := Aside0.mk hc0
 clear hr0 hc0
 have HB := Aside0.mk (Below.refl w.heap.size w)
 have H : ((spec_l3At.f k l0 a1).bind fun t236 => (if t236 = true then (spec_EndOf.l0 k l0 a1 (wrap64 (a1 + 1))) else (some (-1)))) = some r := h
 clear h
 obtain ⟨t236, A3, H⟩ := bnd_ H
 by_cases c4 : t236 = true
 ·subst c4
  replace H := ift_ H
  have H' := Aside0.mk H
  clear H
  go_enter Try.func122, Try.ntmps122
  go_wp2_with (first | (go_at_call 88; (with_reducible refine (spec_l3At.calls k _ _ l0 a1 true _ ?side1 ?side2 A3.out).mono ?_); (case side1 => exact z17_); (case side2 => exact HC0.out); rintro e w5 ⟨rfl, hb⟩; replace HB := Aside0.mk (below_step z0_ hb); (try clear hb)))
  repeat (go_quiet (first | (go_at_call 88; (with_reducible refine (spec_l3At.calls k _ _ l0 a1 true _ ?side1 ?side2 A3.out).mono ?_); (case side1 => exact z17_); (case side2 => exact HC0.out); rintro e w5 ⟨rfl, hb⟩; replace HB := Aside0.mk (below_step z0_ hb); (try clear hb))); try go_wp2_with (first | (go_at_call 88; (with_reducible refine (spec_l3At.calls k _ _ l0 a1 true _ ?side1 ?side2 A3.out).mono ?_); (case side1 => exact z17_); (case side2 => exact HC0.out); rintro e w5 ⟨rfl, hb⟩; replace HB := Aside0.mk (below_step z0_ hb); (try clear hb))))
  go_loopg [5] k (fun kq v5 w' => ∃ (x5_1 : Int), v5 = .int .i64 x5_1 ∧ Aside0 (spec_EndOf.l0 kq l0 a1 x5_1 = some r) ∧ Aside0 (kq ≤ k) ∧ Aside0 (Below w.heap.size w w'))
  case atStart => exact ⟨(wrap64 (a1 + 1)), z15_, H', ⟨Nat.le_refl _⟩, ⟨z0_⟩⟩
  case round =>
   clear H'
   try clear c1
   try clear p2
   try clear c4
   obtain ⟨x5_1, rfl, HA, HK1, HB⟩ := hrel
   cases gk with
   | zero => exact absurd HA.out (by simp [spec_EndOf.l0])
   | succ k1 =>
    have H := HA.out
    clear HA
    simp only [spec_EndOf.l0] at H
    by_cases c6 : x5_1 < (l0.length : Int)
    ·rw [if_pos c6] at H
     have c6b0 := decide_eq_true c6
     clear c6
     obtain ⟨c7b0, H⟩ := ifd_ H
     obtain ⟨c8b0, H⟩ := ifd_ H
     obtain ⟨c9b0, H⟩ := ifd_ H
     by_cases c10 : ((rd_T62 l0 x5_1).f1) > ((rd_T62 l0 a1).f1)
     ·rw [if_pos c10] at H
      have c10b0 := decide_eq_true c10
      clear c10
      have H' := Aside0.mk H
      clear H
      obtain ⟨p237, q237, ad237, e237, hx237_0, hx237_1⟩ := atb62_ HR0 HB x5_1
      cases e237
      obtain ⟨p238, q238, ad238, e238, hx238_0, hx238_1⟩ := atb62_ HR0 HB a1
      obtain rfl : ad237 = ad238 := (by injection e238)
      go_wp2
      repeat (go_quiet (fail); try go_wp2)
      go_roundg k1
      case measure => have := HK1.out; omega
      case rel => exact ⟨(wrap64 (x5_1 + 1)), z15_, H', ⟨z122_⟩, ⟨z0_⟩⟩
     ·rw [if_neg c10] at H
      have c10b0 := decide_eq_false c10
      clear c10
      obtain rfl := Option.some.inj H
      obtain ⟨p237, q237, ad237, e237, hx237_0, hx237_1⟩ := atb62_ HR0 HB x5_1
      cases e237
      obtain ⟨p238, q238, ad238, e238, hx238_0, hx238_1⟩ := atb62_ HR0 HB a1
      obtain rfl : ad237 = ad238 := (by injection e238)
      go_wp2
      repeat (go_quiet (fail); try go_wp2)
      go_ret
      exact ⟨z6_, z0_⟩
    ·rw [if_neg c6] at H
     have c6b0 := decide_eq_false c6
     clear c6
     obtain rfl := Option.some.inj H
     go_wp2
     repeat (go_quiet (fail); try go_wp2)
     go_ret
     exact ⟨z6_, z0_⟩
 ·replace c4 := Bool.eq_false_iff.mpr c4
  subst c4
  replace H := iff_ H
  obtain rfl := Option.some.inj H
  go_enter Try.func122, Try.ntmps122
  go_wp2_with (first | (go_at_call 88; (with_reducible refine (spec_l3At.calls k _ _ l0 a1 false _ ?side1 ?side2 A3.out).mono ?_); (case side1 => exact z17_); (case side2 => exact HC0.out); rintro e w11 ⟨rfl, hb⟩; replace HB := Aside0.mk (below_step z0_ hb); (try clear hb)))
  repeat (go_quiet (first | (go_at_call 88; (with_reducible refine (spec_l3At.calls k _ _ l0 a1 false _ ?side1 ?side2 A3.out).mono ?_); (case side1 => exact z17_); (case side2 => exact HC0.out); rintro e w11 ⟨rfl, hb⟩; replace HB := Aside0.mk (below_step z0_ hb); (try clear hb))); try go_wp2_with (first | (go_at_call 88; (with_reducible refine (spec_l3At.calls k _ _ l0 a1 false _ ?side1 ?side2 A3.out).mono ?_); (case side1 => exact z17_); (case side2 => exact HC0.out); rintro e w11 ⟨rfl, hb⟩; replace HB := Aside0.mk (below_step z0_ hb); (try clear hb))))
  go_ret
  exact ⟨z6_, z0_⟩

end Go.Proofs.Ytdapeboajjidmab.PFnInverted
