/- Laid by a program of this session out of the kit's print for the law FnExactReadScript: what it says of the machine is proved here, function by function; each contract under the conditions that it names. -/
import Derived.Test.YtlfmlagdnebkiaaDoorShelf
import Derived.Lib.AppendIntMem
import Derived.Test.YtlfmlagdnebkiaaDoorMFnExactReadScriptx0
import Derived.Test.YtlfmlagdnebkiaaDoorMFnExactReadScriptx1
import Derived.Test.YtlfmlagdnebkiaaDoorMFnExactReadScriptx2
import Derived.Test.YtlfmlagdnebkiaaDoorMFnExactReadScriptx3
import Derived.Test.YtlfmlagdnebkiaaDoorMFnExactReadScriptx4
namespace Go.Proofs.YtlfmlagdnebkiaaDoor.PFnExactReadScript
open Go.RowKit Go.Proofs.YtlfmlagdnebkiaaDoorW.PrintWords Go.Proofs.YtlfmlagdnebkiaaDoorW.PrintLast Go.Proofs.YtlfmlagdnebkiaaDoorW.PrintMore
attribute [local go_sem] max2_int min2_int max_two min_two max_three min_three max_four min_four   -- for this text's walks alone
set_option linter.unusedVariables false
set_option linter.unusedSimpArgs false

/-! ### spec_ScriptOk: function 26 -/
def spec_ScriptOk.l0 : Nat → List (S24) → Int → Option (Bool)
 | 0, _, _ => none
 | k + 1, x0, x3 => if x3 < (x0.length : Int) then (if 0 ≤ x3 then ((spec_OpOk.f k ((rd_T24 x0 x3).f0) ((rd_T24 x0 x3).f1) ((rd_T24 x0 x3).f2) ((rd_T24 x0 x3).f3) ((rd_T24 x0 x3).f4)).bind fun t179 => (if t179 = true then (spec_ScriptOk.l0 k x0 (wrap64 (x3 + 1))) else (some false))) else (none)) else (some (decide ((x0.length : Int) ≤ 60)))
def spec_ScriptOk.f (k : Nat) (l0 : List (S24)) : Option (Bool) := spec_ScriptOk.l0 k l0 0
set_option maxHeartbeats 8000000 in
set_option maxRecDepth 100000 in
theorem spec_ScriptOk.calls (k : Nat) (A0 : Option Addr) (c0 : Nat) (l0 : List (S24)) (r : Bool) (w : World) (hr0 : Kd.C k24 w A0 l0.length l0) (hc0 : l0.length ≤ c0) (h : spec_ScriptOk.f k l0 = some r) :
  Calls Tryd.prog 26 #[.slice A0 l0.length c0] w fun e w' => e = .returned (.bool r) ∧ Below w.heap.size w w' := by
 have hu24 := Tryd.underlying24
 have HR0 := Aside0.mk hr0
 have HC0 := Aside0.mk hc0
 clear hr0 hc0
 have HB := Aside0.mk (Below.refl w.heap.size w)
 have H : (spec_ScriptOk.l0 k l0 0) = some r := h
 clear h
 have H' := Aside0.mk H
 clear H
 go_enter Tryd.func26, Tryd.ntmps26
 go_wp2
 go_loopg [3] k (fun kq v3 w' => ∃ (x3_1 : Int), v3 = .int .i64 x3_1 ∧ Aside0 (spec_ScriptOk.l0 kq l0 x3_1 = some r) ∧ Aside0 (kq ≤ k) ∧ Aside0 (Below w.heap.size w w'))
 case atStart => exact ⟨(0), z4_, H', ⟨Nat.le_refl _⟩, ⟨z0_⟩⟩
 case round =>
  clear H'
  obtain ⟨x3_1, rfl, HA, HK1, HB⟩ := hrel
  cases gk with
  | zero => exact absurd HA.out (by simp [spec_ScriptOk.l0])
  | succ k1 =>
   have H := HA.out
   clear HA
   simp only [spec_ScriptOk.l0] at H
   by_cases c2 : x3_1 < (l0.length : Int)
   ·rw [if_pos c2] at H
    have c2b0 := decide_eq_true c2
    clear c2
    obtain ⟨c3b0, H⟩ := ifd_ H
    obtain ⟨t179, A4, H⟩ := bnd_ H
    by_cases c5 : t179 = true
    ·subst c5
     replace H := ift_ H
     have H' := Aside0.mk H
     clear H
     have p178 : 0 ≤ (x3_1 : Int) := odt_
     have q178 : x3_1 < (l0.length : Int) := odt_
     obtain ⟨ad178, A178_1, c178_1, e178, hx178_0, hx178_1, hx178_2, hx178_3, hx178_4, hl178_1, hi178_1⟩ := at_T24 HR0.out x3_1 p178 q178
     cases e178
     replace hx178_0 := (HB.out.cell (World.block_lt_of_cell? w _ hx178_0)).trans hx178_0
     replace hx178_1 := (HB.out.cell (World.block_lt_of_cell? w _ hx178_1)).trans hx178_1
     replace hx178_2 := (HB.out.cell (World.block_lt_of_cell? w _ hx178_2)).trans hx178_2
     replace hx178_3 := (HB.out.cell (World.block_lt_of_cell? w _ hx178_3)).trans hx178_3
     replace hx178_4 := (HB.out.cell (World.block_lt_of_cell? w _ hx178_4)).trans hx178_4
     have HR178_1 := Aside0.mk hi178_1
     have HC178_1 := Aside0.mk hl178_1
     clear hi178_1 hl178_1
     replace p178 := eq_true p178
     replace q178 := eq_true q178
     go_wp2_with (first | ((with_reducible refine gate_callee (f := 32) rfl ?_); refine goesL_ (some 14) rfl rfl Tryd.func32 (by kernel_rfl) rfl #[.agg #[.int .i64 ((rd_T24 l0 x3_1).f0), .slice A178_1 ((rd_T24 l0 x3_1).f1).length c178_1, .int .i64 ((rd_T24 l0 x3_1).f2), .int .i64 ((rd_T24 l0 x3_1).f3), .int .i64 ((rd_T24 l0 x3_1).f4)]] rfl z1_ ?_; (with_reducible refine (spec_OpOk.calls k1 ((rd_T24 l0 x3_1).f0) _ _ ((rd_T24 l0 x3_1).f1) ((rd_T24 l0 x3_1).f2) ((rd_T24 l0 x3_1).f3) ((rd_T24 l0 x3_1).f4) true _ ?side1 ?side2 A4.out).mono ?_); (case side1 => exact z79_); (case side2 => exact HC178_1.out); rintro e w6 ⟨rfl, hb⟩; refine ⟨_, rfl, ?_⟩; replace HB := Aside0.mk (below_step z0_ hb); (try clear hb)))
     go_roundg k1
     case measure => have := HK1.out; omega
     case rel => exact ⟨(wrap64 (x3_1 + 1)), z4_, H', ⟨z62_⟩, ⟨z0_⟩⟩
    ·replace c5 := Bool.eq_false_iff.mpr c5
     subst c5
     replace H := iff_ H
     obtain rfl := Option.some.inj H
     have p178 : 0 ≤ (x3_1 : Int) := odt_
     have q178 : x3_1 < (l0.length : Int) := odt_
     obtain ⟨ad178, A178_1, c178_1, e178, hx178_0, hx178_1, hx178_2, hx178_3, hx178_4, hl178_1, hi178_1⟩ := at_T24 HR0.out x3_1 p178 q178
     cases e178
     replace hx178_0 := (HB.out.cell (World.block_lt_of_cell? w _ hx178_0)).trans hx178_0
     replace hx178_1 := (HB.out.cell (World.block_lt_of_cell? w _ hx178_1)).trans hx178_1
     replace hx178_2 := (HB.out.cell (World.block_lt_of_cell? w _ hx178_2)).trans hx178_2
     replace hx178_3 := (HB.out.cell (World.block_lt_of_cell? w _ hx178_3)).trans hx178_3
     replace hx178_4 := (HB.out.cell (World.block_lt_of_cell? w _ hx178_4)).trans hx178_4
     have HR178_1 := Aside0.mk hi178_1
     have HC178_1 := Aside0.mk hl178_1
     clear hi178_1 hl178_1
     replace p178 := eq_true p178
     replace q178 := eq_true q178
     go_wp2_with (first | ((with_reducible refine gate_callee (f := 32) rfl ?_); refine goesL_ (some 14) rfl rfl Tryd.func32 (by kernel_rfl) rfl #[.agg #[.int .i64 ((rd_T24 l0 x3_1).f0), .slice A178_1 ((rd_T24 l0 x3_1).f1).length c178_1, .int .i64 ((rd_T24 l0 x3_1).f2), .int .i64 ((rd_T24 l0 x3_1).f3), .int .i64 ((rd_T24 l0 x3_1).f4)]] rfl z1_ ?_; (with_reducible refine (spec_OpOk.calls k1 ((rd_T24 l0 x3_1).f0) _ _ ((rd_T24 l0 x3_1).f1) ((rd_T24 l0 x3_1).f2) ((rd_T24 l0 x3_1).f3) ((rd_T24 l0 x3_1).f4) false _ ?side1 ?side2 A4.out).mono ?_); (case side1 => exact z79_); (case side2 => exact HC178_1.out); rintro e w7 ⟨rfl, hb⟩; refine ⟨_, rfl, ?_⟩; replace HB := Aside0.mk (below_step z0_ hb); (try clear hb)))
     go_ret
     exact ⟨z2_, z0_⟩
   ·rw [if_neg c2] at H
    have c2b0 := decide_eq_false c2
    clear c2
    obtain rfl := Option.some.inj H
    go_wp2
    go_ret
    exact ⟨z2_, z0_⟩

/-! ### spec_ScriptText: function 27 -/
def spec_ScriptText.l0 : Nat → List (S24) → ByteArray → Int → Option (ByteArray)
 | 0, _, _, _ => none
 | k + 1, x0, x3, x4 => if x4 < (x0.length : Int) then ((spec_ScriptOk.f k x0).bind fun t180 => (if t180 = true then (if 0 ≤ x4 then ((spec_OpText.f k ((rd_T24 x0 x4).f0) ((rd_T24 x0 x4).f1) ((rd_T24 x0 x4).f2) ((rd_T24 x0 x4).f3) ((rd_T24 x0 x4).f4)).bind fun t182 => (if x3.size + t182.size ≤ 9223372036854775807 then (if (x3 ++ t182).size + 1 ≤ 9223372036854775807 then (spec_ScriptText.l0 k x0 ((x3 ++ t182) ++ (⟨#[10]⟩ : ByteArray)) (wrap64 (x4 + 1))) else (none)) else (none))) else (none)) else (some x3))) else (some x3)
def spec_ScriptText.f (k : Nat) (l0 : List (S24)) : Option (ByteArray) := spec_ScriptText.l0 k l0 (⟨#[]⟩ : ByteArray) 0
set_option maxHeartbeats 8000000 in
set_option maxRecDepth 100000 in
theorem spec_ScriptText.calls (k : Nat) (A0 : Option Addr) (c0 : Nat) (l0 : List (S24)) (r : ByteArray) (w : World) (hr0 : Kd.C k24 w A0 l0.length l0) (hc0 : l0.length ≤ c0) (h : spec_ScriptText.f k l0 = some r) :
  Calls Tryd.prog 27 #[.slice A0 l0.length c0] w fun e w' => e = .returned (.string r) ∧ Below w.heap.size w w' := by
 have hu24 := Tryd.underlying24
 have HR0 := Aside0.mk hr0
 have HC0 := Aside0.mk hc0
 clear hr0 hc0
 have HB := Aside0.mk (Below.refl w.heap.size w)
 have H : (spec_ScriptText.l0 k l0 (⟨#[]⟩ : ByteArray) 0) = some r := h
 clear h
 have H' := Aside0.mk H
 clear H
 go_enter Tryd.func27, Tryd.ntmps27
 go_wp2
 go_loopg [3, 4] k (fun kq v3 v4 w' => ∃ (x3_1 : ByteArray) (x4_1 : Int), v3 = .string x3_1 ∧ v4 = .int .i64 x4_1 ∧ Aside0 (spec_ScriptText.l0 kq l0 x3_1 x4_1 = some r) ∧ Aside0 (kq ≤ k) ∧ Aside0 (Below w.heap.size w w'))
 case atStart => exact ⟨((⟨#[]⟩ : ByteArray)), (0), z4_, z4_, H', ⟨Nat.le_refl _⟩, ⟨z0_⟩⟩
 case round =>
  clear H'
  obtain ⟨x3_1, x4_1, rfl, rfl, HA, HK1, HB⟩ := hrel
  cases gk with
  | zero => exact absurd HA.out (by simp [spec_ScriptText.l0])
  | succ k1 =>
   have H := HA.out
   clear HA
   simp only [spec_ScriptText.l0] at H
   by_cases c2 : x4_1 < (l0.length : Int)
   ·rw [if_pos c2] at H
    have c2b0 := decide_eq_true c2
    clear c2
    obtain ⟨t180, A3, H⟩ := bnd_ H
    by_cases c4 : t180 = true
    ·subst c4
     replace H := ift_ H
     obtain ⟨c5b0, H⟩ := ifd_ H
     obtain ⟨t182, A6, H⟩ := bnd_ H
     obtain ⟨c7, H⟩ := ifs_ H
     have c7b0 := eq_true c7
     have c7b1 := decide_eq_true c7
     try have c7b2 : (9223372036854775807 < x3_1.size + t182.size) = False := eq_false (Nat.not_lt.2 c7)
     obtain ⟨c8, H⟩ := ifs_ H
     have c8b0 := eq_true c8
     have c8b1 := decide_eq_true c8
     try have c8b2 : (9223372036854775807 < (x3_1 ++ t182).size + 1) = False := eq_false (Nat.not_lt.2 c8)
     have c8s : x3_1.size + t182.size + 1 ≤ 9223372036854775807 := by have e_ := c8; simp only [ByteArray.size_append] at e_; exact e_
     have c8sb : (9223372036854775807 < x3_1.size + t182.size + 1) = False := eq_false (Nat.not_lt.2 c8s)
     have H' := Aside0.mk H
     clear H
     go_wp2_with (first | (go_at_call 26; (with_reducible refine (spec_ScriptOk.calls k1 _ _ l0 true _ ?side1 ?side2 A3.out).mono ?_); (case side1 => exact z84_); (case side2 => exact HC0.out); rintro e w9 ⟨rfl, hb⟩; replace HB := Aside0.mk (below_step z0_ hb); (try clear hb); have p181 : 0 ≤ (x4_1 : Int) := odt_; have q181 : x4_1 < (l0.length : Int) := odt_; obtain ⟨ad181, A181_1, c181_1, e181, hx181_0, hx181_1, hx181_2, hx181_3, hx181_4, hl181_1, hi181_1⟩ := at_T24 HR0.out x4_1 p181 q181; cases e181; replace hx181_0 := (HB.out.cell (World.block_lt_of_cell? w _ hx181_0)).trans hx181_0; replace hx181_1 := (HB.out.cell (World.block_lt_of_cell? w _ hx181_1)).trans hx181_1; replace hx181_2 := (HB.out.cell (World.block_lt_of_cell? w _ hx181_2)).trans hx181_2; replace hx181_3 := (HB.out.cell (World.block_lt_of_cell? w _ hx181_3)).trans hx181_3; replace hx181_4 := (HB.out.cell (World.block_lt_of_cell? w _ hx181_4)).trans hx181_4; have HR181_1 := Aside0.mk hi181_1; have HC181_1 := Aside0.mk hl181_1; clear hi181_1 hl181_1; replace p181 := eq_true p181; replace q181 := eq_true q181) | ((with_reducible refine gate_callee (f := 18) rfl ?_); refine goesL_ (some 20) rfl rfl Tryd.func18 (by kernel_rfl) rfl #[.agg #[.int .i64 ((rd_T24 l0 x4_1).f0), .slice A181_1 ((rd_T24 l0 x4_1).f1).length c181_1, .int .i64 ((rd_T24 l0 x4_1).f2), .int .i64 ((rd_T24 l0 x4_1).f3), .int .i64 ((rd_T24 l0 x4_1).f4)]] rfl z1_ ?_; (with_reducible refine (spec_OpText.calls k1 ((rd_T24 l0 x4_1).f0) _ _ ((rd_T24 l0 x4_1).f1) ((rd_T24 l0 x4_1).f2) ((rd_T24 l0 x4_1).f3) ((rd_T24 l0 x4_1).f4) t182 _ ?side1 ?side2 A6.out).mono ?_); (case side1 => repeat (first | exact (Kd.C_below HR181_1.out HB.out) | (with_reducible refine Kd.C_alloc ?_ _) | (with_reducible refine Kd.C_drewN ?_ _) | (with_reducible refine Kd.C_drew ?_))); (case side2 => exact HC181_1.out); rintro e w10 ⟨rfl, hb⟩; refine ⟨_, rfl, ?_⟩; replace HB := Aside0.mk (below_step z0_ hb); (try clear hb)))
     go_roundg k1
     case measure => have := HK1.out; omega
     case rel => exact ⟨((x3_1 ++ t182) ++ (⟨#[10]⟩ : ByteArray)), (wrap64 (x4_1 + 1)), z4_, z4_, H', ⟨z62_⟩, ⟨z0_⟩⟩
    ·replace c4 := Bool.eq_false_iff.mpr c4
     subst c4
     replace H := iff_ H
     obtain rfl := Option.some.inj H
     go_wp2_with (first | (go_at_call 26; (with_reducible refine (spec_ScriptOk.calls k1 _ _ l0 false _ ?side1 ?side2 A3.out).mono ?_); (case side1 => exact z84_); (case side2 => exact HC0.out); rintro e w11 ⟨rfl, hb⟩; replace HB := Aside0.mk (below_step z0_ hb); (try clear hb)))
     go_ret
     exact ⟨z2_, z0_⟩
   ·rw [if_neg c2] at H
    have c2b0 := decide_eq_false c2
    clear c2
    obtain rfl := Option.some.inj H
    go_wp2
    go_ret
    exact ⟨z2_, z0_⟩

/-! ### spec_ReadScript: function 10 -/
def spec_ReadScript.l0 : Nat → ByteArray → List (S24) → List ByteArray → Int → Option ((List (S24)) × Bool)
 | 0, _, _, _, _ => none
 | k + 1, x0, x4, x5, x6 => if (wrap64 (x6 + 1)) < (x5.length : Int) then (if 0 ≤ x6 then (if x6 < (x5.length : Int) then ((spec_ReadOp.f k (rdOf ByteArray.empty x5 x6)).bind fun bt190 => (if bt190.2.2.2.2.2 = true then (if x4.length < 2513169434916 then (spec_ReadScript.l0 k x0 (x4 ++ [(⟨bt190.1, bt190.2.1, bt190.2.2.1, bt190.2.2.2.1, bt190.2.2.2.2.1⟩ : S24)]) x5 (wrap64 (x6 + 1))) else (none)) else (some ((([] : List (S24))), false)))) else (none)) else (none)) else ((spec_ScriptOk.f k x4).bind fun t205 => (if t205 = true then ((spec_ScriptText.f k x4).bind fun t206 => (if t206.toList = x0.toList then (some (x4, true)) else (some ((([] : List (S24))), false)))) else (some ((([] : List (S24))), false))))
def spec_ReadScript.f (k : Nat) (a0 : ByteArray) : Option ((List (S24)) × Bool) := (spec_l23Cut.f k a0 10).bind fun t186 => (spec_ReadScript.l0 k a0 (([] : List (S24))) t186 0)
set_option maxHeartbeats 8000000 in
set_option maxRecDepth 100000 in
theorem spec_ReadScript.calls (k : Nat) (a0 : ByteArray) (r1 : List (S24)) (r2 : Bool) (w : World) (h : spec_ReadScript.f k a0 = some (r1, r2)) :
  Calls Tryd.prog 10 #[.string a0] w fun e w' => ∃ v0_ : Value, e = .returned (.tuple #[v0_, .bool r2]) ∧ Kd.S k24 24 w' w.heap.size (fun _ => True) v0_ r1 ∧ Below w.heap.size w w' := by
 have hu24 := Tryd.underlying24
 have HB := Aside0.mk (Below.refl w.heap.size w)
 have H : ((spec_l23Cut.f k a0 10).bind fun t186 => (spec_ReadScript.l0 k a0 (([] : List (S24))) t186 0)) = some (r1, r2) := h
 clear h
 first | ((with_reducible have hz_ := gy_ H); obtain ⟨y183, Ny183, H⟩ := hz_) | (generalize hy_ : ((([] : List (S24))) : List (S24)) = y183 at H; have Ny183 := Aside0.mk hy_.symm; clear hy_)
 obtain ⟨t186, A2, H⟩ := bnd_ H
 have H' := Aside0.mk H
 clear H
 go_enter Tryd.func10, Tryd.ntmps10
 go_wp2_with (first | ((with_reducible refine gate_dst (N := 9) rfl ?_); refine Kd.S_lit k24 _ 24 ?hg (N := 9) ?hd (xs := ([] : List (S24))) (inner := []) (ok := fun _ => True) (okp := fun _ => True) ?hr ?hp (fun _ hk => hk) trivial (Below.refl _ _) (Nat.le_refl _) (by simp) ?_; (case hd => rfl); (case hg => rfl); (case hr => exact z18_); (case hp => exact z114_); intro v184 w3 ho4 hb hg_ hnew_; clear hg_ hnew_; (first | rw [← Ny183.out] at ho4 | (simp only [Int.reduceToNat] at ho4; rw [← Ny183.out] at ho4)); have HO185 := Aside0.mk (Kd.S_lower ho4 (below_size z0_)); replace HB := Aside0.mk (below_step z0_ hb); clear hb ho4) | ((with_reducible refine gate_callee (f := 15) rfl ?_); refine goesL_ (some 11) rfl rfl Tryd.func15 (by kernel_rfl) rfl #[.string a0, .int .u8 10] rfl z1_ ?_; (with_reducible refine (spec_l23Cut.calls k a0 10 t186 _ A2.out).mono ?_); rintro e w5 ⟨v187, rfl, ho0, hb⟩; refine ⟨_, rfl, ?_⟩; replace HO185 := Aside0.mk (Kd.S_below z105_ hb); have HO188 := Aside0.mk (Kd.R_lower ho0 (below_size z0_)); replace HB := Aside0.mk (below_step z0_ hb); (try clear hb ho0)))
 go_loopg [4, 6] k (fun kq v4 v6 w' => ∃ (x4_1 : List (S24)) (x6_1 : Int), v6 = .int .i64 x6_1 ∧ Aside0 (spec_ReadScript.l0 kq a0 x4_1 t186 x6_1 = some (r1, r2)) ∧ Aside0 (kq ≤ k) ∧ Aside0 (Kd.S k24 24 w' w.heap.size (fun _ => True) v4 x4_1) ∧ Aside0 (Kd.R Kd.string 9 w' w.heap.size (fun _ => True) v187 t186) ∧ Aside0 (Below w.heap.size w w'))
 case atStart => exact ⟨(y183), (0), z4_, H', ⟨Nat.le_refl _⟩, ⟨z105_⟩, ⟨by (with_reducible repeat (first | apply Kd.R_alloc | apply Kd.R_drewN | apply Kd.R_drew)); exact HO188.out⟩, ⟨z0_⟩⟩
 case round =>
  clear H'
  try clear c1
  try clear p2
  obtain ⟨x4_1, x6_1, rfl, HA, HK1, HO_4, HO_5, HB⟩ := hrel
  cases gk with
  | zero => exact absurd HA.out (by simp [spec_ReadScript.l0])
  | succ k1 =>
   have H := HA.out
   clear HA
   simp only [spec_ReadScript.l0] at H
   by_cases c6 : (wrap64 (x6_1 + 1)) < (t186.length : Int)
   ·rw [if_pos c6] at H
    have c6b0 := decide_eq_true c6
    clear c6
    obtain ⟨c7b0, H⟩ := ifd_ H
    obtain ⟨c8b0, H⟩ := ifd_ H
    replace H := Option.bind_eq_some_iff.mp H
    obtain ⟨⟨t190, t191, t194, t195, t196, t197⟩, A90, H⟩ := H
    try dsimp only at H
    have A9 := Aside0.mk A90
    clear A90
    by_cases c10 : t197 = true
    ·subst c10
     replace H := ift_ H
     obtain ⟨c11, H⟩ := ifs_ H
     have LMc11 := Aside0.mk c11
     clear c11
     first | ((with_reducible have hz_ := gy_ H); obtain ⟨y199, Ny199, H⟩ := hz_) | (generalize hy_ : ((x4_1 ++ [(⟨t190, t191, t194, t195, t196⟩ : S24)]) : List (S24)) = y199 at H; have Ny199 := Aside0.mk hy_.symm; clear hy_)
     have H' := Aside0.mk H
     clear H
     obtain ⟨Ao12, co12, eo12⟩ := Kd.R_slice HO_5.out
     subst eo12
     have p189 : 0 ≤ (x6_1 : Int) := odt_
     have q189 : x6_1 < (t186.length : Int) := odt_
     obtain ⟨ad189, e189, hx189_0⟩ := Kd.at_string (Kd.R_reads' HO_5.out).2.2 x6_1 p189 q189
     cases e189
     replace p189 := eq_true p189
     replace q189 := eq_true q189
     go_wp2_with (first | ((with_reducible refine gate_callee (f := 5) rfl ?_); refine goesL_ (some 24) rfl rfl Tryd.func5 (by kernel_rfl) rfl #[.string (rdOf ByteArray.empty t186 x6_1)] rfl z1_ ?_; (with_reducible refine (spec_ReadOp.calls k1 (rdOf ByteArray.empty t186 x6_1) t190 t191 t194 t195 t196 true _ A9.out).mono ?_); rintro e w13 ⟨v192, rfl, ho0, hb⟩; refine ⟨_, rfl, ?_⟩; replace HO_4 := Aside0.mk (Kd.S_elder' z15_ (Kd.R_base ho0) hb); replace HO_5 := Aside0.mk (Kd.R_below z28_ hb); have HO193 := Aside0.mk (Kd.R_lower ho0 (below_size z0_)); replace HB := Aside0.mk (below_step z0_ hb); (try clear hb ho0)) | ((with_reducible refine gate_dst (N := 7) rfl ?_); refine box_event ?hg (N := 7) ?hd (cs := #[.int .i64 0, .slice none 0 0, .int .i64 0, .int .i64 0, .int .i64 0]) (t := 24) ?hr ?_; (case hd => rfl); (case hg => rfl); (case hr => exact z18_); intro gb198 hg w14 hbox hb; replace HO_4 := Aside0.mk (Kd.S_below (Kd.S_elderB z15_ gb198 (Nat.le_of_eq hg.symm)) hb); replace HO_5 := Aside0.mk (Kd.R_below z28_ hb); replace HO193 := Aside0.mk (Kd.R_below z106_ hb); have BK198 := Aside0.mk (hbox); have GW198 := Aside0.mk ((by rw [hg]; exact (below_size z0_) : w.heap.size ≤ gb198)); have GE198 := Aside0.mk ((by rw [hg]; exact (below_size z0_) : w.heap.size ≤ gb198)); replace HB := Aside0.mk (below_step z0_ hb); clear hb hbox hg; obtain ⟨hcz15_0, hcz15_1, hcz15_2, hcz15_3, hcz15_4, hfz15_0, hfz15_1, hfz15_2, hfz15_3, hfz15_4⟩ := bx5_ BK198.out; obtain ⟨Ao16, co16, eo16⟩ := Kd.R_slice HO193.out; subst eo16) | ((with_reducible refine gate_store (t := 24) (p := 7) rfl ?_); refine store_event (t := 24) (p := 7) (v := ?vo_w17) (w1 := (((((w14.setCell ⟨gb198, 0, none⟩ (.int .i64 t190)).setCell ⟨gb198, 1, none⟩ (.slice Ao16 t191.length co16)).setCell ⟨gb198, 2, none⟩ (.int .i64 t194)).setCell ⟨gb198, 3, none⟩ (.int .i64 t195)).setCell ⟨gb198, 4, none⟩ (.int .i64 t196))) ?hg ?ho ?hn ?hr ?_; (case ho => rfl); (case hg => rfl); (case hn => rfl); (case hr => exact z18_); intro w17 hw; have n0_ : Aside0 (Kd.S k24 24 w17 w.heap.size (fun k_ => some k_ ≠ (.slice Ao16 t191.length co16 : Value).ownBlock ∧ k_ ≠ gb198) u4 x4_1) := ⟨(by rw [hw]; exact (by (with_reducible repeat (first | apply Kd.S_alloc | apply Kd.S_drewN | apply Kd.S_drew)); exact Kd.S_mono (Kd.S_far (p := ⟨gb198, 4, none⟩) (Kd.S_far (p := ⟨gb198, 3, none⟩) (Kd.S_far (p := ⟨gb198, 2, none⟩) (Kd.S_far (p := ⟨gb198, 1, none⟩) (Kd.S_far (p := ⟨gb198, 0, none⟩) (Kd.S_mono HO_4.out (fun k_ hk => (⟨hk, hk.2⟩ : _ ∧ k_ ≠ gb198))) (fun _ hk => hk.2) (.int .i64 t190)) (fun _ hk => hk.2) (.slice Ao16 t191.length co16)) (fun _ hk => hk.2) (.int .i64 t194)) (fun _ hk => hk.2) (.int .i64 t195)) (fun _ hk => hk.2) (.int .i64 t196)) (fun _ hk => ⟨hk.1.1.2, hk.1.2⟩)))⟩; have n1_ : Aside0 (Kd.R Kd.string 9 w17 w.heap.size (fun _ => True) (.slice (some ad189) t186.length co12) t186) := ⟨(by rw [hw]; exact (by (with_reducible repeat (first | apply Kd.R_alloc | apply Kd.R_drewN | apply Kd.R_drew)); exact Kd.R_mono (Kd.R_far (p := ⟨gb198, 4, none⟩) (Kd.R_far (p := ⟨gb198, 3, none⟩) (Kd.R_far (p := ⟨gb198, 2, none⟩) (Kd.R_far (p := ⟨gb198, 1, none⟩) (Kd.R_far (p := ⟨gb198, 0, none⟩) (Kd.R_types HO_5.out BK198.out (by decide)) (fun _ hk => hk.2) (.int .i64 t190)) (fun _ hk => hk.2) (.slice Ao16 t191.length co16)) (fun _ hk => hk.2) (.int .i64 t194)) (fun _ hk => hk.2) (.int .i64 t195)) (fun _ hk => hk.2) (.int .i64 t196)) (fun _ hk => trivial)))⟩; have n2_ : Aside0 (Kd.R (Kd.int .i64) 3 w17 w.heap.size (fun _ => True) (.slice Ao16 t191.length co16) t191) := ⟨(by rw [hw]; exact (by (with_reducible repeat (first | apply Kd.R_alloc | apply Kd.R_drewN | apply Kd.R_drew)); exact Kd.R_mono (Kd.R_far (p := ⟨gb198, 4, none⟩) (Kd.R_far (p := ⟨gb198, 3, none⟩) (Kd.R_far (p := ⟨gb198, 2, none⟩) (Kd.R_far (p := ⟨gb198, 1, none⟩) (Kd.R_far (p := ⟨gb198, 0, none⟩) (Kd.R_types HO193.out BK198.out (by decide)) (fun _ hk => hk.2) (.int .i64 t190)) (fun _ hk => hk.2) (.slice Ao16 t191.length co16)) (fun _ hk => hk.2) (.int .i64 t194)) (fun _ hk => hk.2) (.int .i64 t195)) (fun _ hk => hk.2) (.int .i64 t196)) (fun _ hk => trivial)))⟩; have n3_ : Aside0 (w17.heap[gb198]? = some (.cells #[.int .i64 t190, .slice Ao16 t191.length co16, .int .i64 t194, .int .i64 t195, .int .i64 t196] 24 (0, 0))) := ⟨(by rw [hw]; exact (by (with_reducible repeat (first | refine blk_drewN ?_ _ | refine blk_drew ?_ | refine blk_alloc ?_ _)); refine blk_put (cs := #[.int .i64 t190, .slice Ao16 t191.length co16, .int .i64 t194, .int .i64 t195, .int .i64 0]) ?_ 4 _ rfl; (with_reducible repeat (first | refine blk_drewN ?_ _ | refine blk_drew ?_ | refine blk_alloc ?_ _)); refine blk_put (cs := #[.int .i64 t190, .slice Ao16 t191.length co16, .int .i64 t194, .int .i64 0, .int .i64 0]) ?_ 3 _ rfl; (with_reducible repeat (first | refine blk_drewN ?_ _ | refine blk_drew ?_ | refine blk_alloc ?_ _)); refine blk_put (cs := #[.int .i64 t190, .slice Ao16 t191.length co16, .int .i64 0, .int .i64 0, .int .i64 0]) ?_ 2 _ rfl; (with_reducible repeat (first | refine blk_drewN ?_ _ | refine blk_drew ?_ | refine blk_alloc ?_ _)); refine blk_put (cs := #[.int .i64 t190, .slice none 0 0, .int .i64 0, .int .i64 0, .int .i64 0]) ?_ 1 _ rfl; (with_reducible repeat (first | refine blk_drewN ?_ _ | refine blk_drew ?_ | refine blk_alloc ?_ _)); refine blk_put (cs := #[.int .i64 0, .slice none 0 0, .int .i64 0, .int .i64 0, .int .i64 0]) ?_ 0 _ rfl; (with_reducible repeat (first | refine blk_drewN ?_ _ | refine blk_drew ?_ | refine blk_alloc ?_ _)); exact BK198.out))⟩; have n4_ : Aside0 (Below w.heap.size w w17) := ⟨(by rw [hw]; exact z39_)⟩; clear hw; clear HO_4; clear HO_5; clear HO193; clear BK198; clear HB; have HO_4 := n0_; have HO_5 := n1_; have HO193 := n2_; have BK198 := n3_; have HB := n4_; clear n0_ n1_ n2_ n3_ n4_; obtain ⟨hcz18_0, hcz18_1, hcz18_2, hcz18_3, hcz18_4, hfz18_0, hfz18_1, hfz18_2, hfz18_3, hfz18_4⟩ := bx5_ BK198.out) | ((with_reducible refine gate_builtin (b := .append) (xs := #[.tmp 30, .tmp 32]) rfl ?_); at_builtin; refine Kd.S_append k24 (w0 := w) w.heap.size rfl (.tmp 30) (.tmp 32) 30 24 (.agg #[(.int .i64 0), (.slice none 0 0), (.int .i64 0), (.int .i64 0), (.int .i64 0)]) 56 rfl Tryd.underlying30 info24 rfl (by decide) (by omega) u4 x4_1 (⟨t190, t191, t194, t195, t196⟩ : S24) [.int .i64 t190, .slice Ao16 t191.length co16, .int .i64 t194, .int .i64 t195, .int .i64 t196] (fun k_ => k_ ≠ gb198) (fun k_ => some k_ = (.slice Ao16 t191.length co16 : Value).ownBlock) rfl rfl ?aP (fun k_ hk_ => ((Kd.R_mono (ok' := fun k_ => ((fun k_ => k_ ≠ gb198)) k_ ∧ some k_ ≠ (u4 : Value).ownBlock) (Kd.R_types (Kd.R_apart' (HO193.out) (Kd.S_typed HO_4.out) (by decide)) BK198.out (by decide)) (fun k_ hk => ⟨hk.2, hk.1.2⟩))).1 k_ hk_.symm) ?aF ?aO ?aB ?aS ?aL ?_; (case aP => exact k24_mkM _ _ _ (⟨t190, t191, t194, t195, t196⟩ : S24) (Kd.R_mono (Kd.R_tight rfl (Kd.R_mono (ok' := fun k_ => ((fun k_ => k_ ≠ gb198)) k_ ∧ some k_ ≠ (u4 : Value).ownBlock) (Kd.R_types (Kd.R_apart' (HO193.out) (Kd.S_typed HO_4.out) (by decide)) BK198.out (by decide)) (fun k_ hk => ⟨hk.2, hk.1.2⟩))) (fun _ h_ => h_))); (case aB => exact z39_); (case aF => exact (fun k_ hk => Kd.freshB (g := gb198) (o := .cells #[.int .i64 t190, .slice Ao16 t191.length co16, .int .i64 t194, .int .i64 t195, .int .i64 t196] 24 (0, 0)) z96_ k_ hk)); (case aO => exact z85_); (case aS => exact (below_size z39_)); (case aL => have := LMc11.out; omega); intro v200 w19 ho hb hg hat; rw [← Ny199.out] at ho; replace HO_5 := Aside0.mk (Kd.R_over' z28_ (Kd.S_typed z15_) (by decide) hg); replace BK198 := Aside0.mk (blk_grown (g := gb198) (o := .cells #[.int .i64 t190, .slice Ao16 t191.length co16, .int .i64 t194, .int .i64 t195, .int .i64 t196] 24 (0, 0)) z96_ hg (Kd.S_away HO_4.out (fun _ hk => hk.2))); replace HB := Aside0.mk (hb); have HO201 := Aside0.mk (ho); clear HO_4 HO193; clear ho hb hg hat))
     go_roundg k1
     case measure => have := HK1.out; omega
     case rel => exact ⟨(y199), (wrap64 (x6_1 + 1)), z4_, H', ⟨z62_⟩, ⟨by (with_reducible repeat (first | apply Kd.S_alloc | apply Kd.S_drewN | apply Kd.S_drew)); exact Kd.S_mono HO201.out (fun _ hk => trivial)⟩, ⟨z28_⟩, ⟨z39_⟩⟩
    ·replace c10 := Bool.eq_false_iff.mpr c10
     subst c10
     replace H := iff_ H
     first | ((with_reducible have hz_ := gy_ H); obtain ⟨y202, Ny202, H⟩ := hz_) | (generalize hy_ : ((([] : List (S24))) : List (S24)) = y202 at H; have Ny202 := Aside0.mk hy_.symm; clear hy_)
     simp only [Option.some.injEq, Prod.mk.injEq] at H
     obtain ⟨rfl, rfl⟩ := H
     obtain ⟨Ao20, co20, eo20⟩ := Kd.R_slice HO_5.out
     subst eo20
     have p189 : 0 ≤ (x6_1 : Int) := odt_
     have q189 : x6_1 < (t186.length : Int) := odt_
     obtain ⟨ad189, e189, hx189_0⟩ := Kd.at_string (Kd.R_reads' HO_5.out).2.2 x6_1 p189 q189
     cases e189
     replace p189 := eq_true p189
     replace q189 := eq_true q189
     go_wp2_with (first | ((with_reducible refine gate_callee (f := 5) rfl ?_); refine goesL_ (some 24) rfl rfl Tryd.func5 (by kernel_rfl) rfl #[.string (rdOf ByteArray.empty t186 x6_1)] rfl z1_ ?_; (with_reducible refine (spec_ReadOp.calls k1 (rdOf ByteArray.empty t186 x6_1) t190 t191 t194 t195 t196 false _ A9.out).mono ?_); rintro e w21 ⟨v192, rfl, ho0, hb⟩; refine ⟨_, rfl, ?_⟩; replace HO_4 := Aside0.mk (Kd.S_elder' z15_ (Kd.R_base ho0) hb); replace HO_5 := Aside0.mk (Kd.R_below z28_ hb); have HO193 := Aside0.mk (Kd.R_lower ho0 (below_size z0_)); replace HB := Aside0.mk (below_step z0_ hb); (try clear hb ho0)) | ((with_reducible refine gate_dst (N := 7) rfl ?_); refine box_event ?hg (N := 7) ?hd (cs := #[.int .i64 0, .slice none 0 0, .int .i64 0, .int .i64 0, .int .i64 0]) (t := 24) ?hr ?_; (case hd => rfl); (case hg => rfl); (case hr => exact z18_); intro gb198 hg w22 hbox hb; replace HO_4 := Aside0.mk (Kd.S_below (Kd.S_elderB z15_ gb198 (Nat.le_of_eq hg.symm)) hb); replace HO_5 := Aside0.mk (Kd.R_below z28_ hb); replace HO193 := Aside0.mk (Kd.R_below z106_ hb); have BK198 := Aside0.mk (hbox); have GW198 := Aside0.mk ((by rw [hg]; exact (below_size z0_) : w.heap.size ≤ gb198)); have GE198 := Aside0.mk ((by rw [hg]; exact (below_size z0_) : w.heap.size ≤ gb198)); replace HB := Aside0.mk (below_step z0_ hb); clear hb hbox hg; obtain ⟨hcz23_0, hcz23_1, hcz23_2, hcz23_3, hcz23_4, hfz23_0, hfz23_1, hfz23_2, hfz23_3, hfz23_4⟩ := bx5_ BK198.out; obtain ⟨Ao24, co24, eo24⟩ := Kd.R_slice HO193.out; subst eo24) | ((with_reducible refine gate_dst (N := 29) rfl ?_); refine Kd.S_lit k24 _ 24 ?hg (N := 29) ?hd (xs := ([] : List (S24))) (inner := []) (ok := fun _ => True) (okp := fun _ => True) ?hr ?hp (fun _ hk => hk) trivial (Below.refl _ _) (Nat.le_refl _) (by simp) ?_; (case hd => rfl); (case hg => rfl); (case hr => exact z18_); (case hp => exact z114_); intro v203 w25 ho26 hb hg_ hnew_; clear hg_ hnew_; (first | rw [← Ny202.out] at ho26 | (simp only [Int.reduceToNat] at ho26; rw [← Ny202.out] at ho26)); replace HO_5 := Aside0.mk (Kd.R_below (by (with_reducible repeat (first | apply Kd.R_alloc | apply Kd.R_drewN | apply Kd.R_drew)); exact (Kd.R_mono (Kd.R_far (p := ⟨gb198, 4, none⟩) (Kd.R_far (p := ⟨gb198, 3, none⟩) (Kd.R_far (p := ⟨gb198, 2, none⟩) (Kd.R_far (p := ⟨gb198, 1, none⟩) (Kd.R_far (p := ⟨gb198, 0, none⟩) (Kd.R_types HO_5.out BK198.out (by decide)) (fun _ hk => hk.2) (.int .i64 t190)) (fun _ hk => hk.2) (.slice Ao24 t191.length co24)) (fun _ hk => hk.2) (.int .i64 t194)) (fun _ hk => hk.2) (.int .i64 t195)) (fun _ hk => hk.2) (.int .i64 t196)) (fun _ h_ => h_.1))) hb); have HO204 := Aside0.mk (Kd.S_lower (Kd.S_newB (Kd.S_new' (Kd.S_new' ho26 (Kd.S_lt z40_)) (Kd.R_lt z41_)) (g := gb198) (o := .cells #[.int .i64 t190, .slice Ao24 t191.length co24, .int .i64 t194, .int .i64 t195, .int .i64 t196] 24 (0, 0)) z14_) (below_size z39_)); replace HO_4 := Aside0.mk (Kd.S_elder' z40_ (Kd.S_base ho26) hb); replace HO193 := Aside0.mk (Kd.R_below z41_ hb); replace BK198 := Aside0.mk (blk_below (g := gb198) (o := .cells #[.int .i64 t190, .slice Ao24 t191.length co24, .int .i64 t194, .int .i64 t195, .int .i64 t196] 24 (0, 0)) z14_ hb); replace HB := Aside0.mk (below_step z39_ hb); clear hb ho26))
     go_ret2
     exact ⟨_, z2_, by (with_reducible repeat (first | apply Kd.S_alloc | apply Kd.S_drewN | apply Kd.S_drew)); exact Kd.S_mono HO204.out (fun _ hk => trivial), z39_⟩
   ·rw [if_neg c6] at H
    have c6b0 := decide_eq_false c6
    clear c6
    obtain ⟨t205, A27, H⟩ := bnd_ H
    by_cases c28 : t205 = true
    ·subst c28
     replace H := ift_ H
     obtain ⟨t206, A29, H⟩ := bnd_ H
     by_cases c30 : t206.toList = a0.toList
     ·rw [if_pos c30] at H
      have c30b0 : (t206.toList == a0.toList) = true := beq_iff_eq.mpr c30
      have c30b1 : (t206.toList != a0.toList) = false := bne_eq_false_iff_eq.mpr c30
      clear c30
      simp only [Option.some.injEq, Prod.mk.injEq] at H
      obtain ⟨rfl, rfl⟩ := H
      obtain ⟨Ao31, co31, eo31⟩ := Kd.R_slice HO_5.out
      subst eo31
      obtain ⟨Ao32, co32, eo32⟩ := Kd.S_slice HO_4.out
      subst eo32
      go_wp2_with (first | ((with_reducible refine gate_callee (f := 26) rfl ?_); refine goesL_ (some 35) rfl rfl Tryd.func26 (by kernel_rfl) rfl #[.slice Ao32 x4_1.length co32] rfl z1_ ?_; (with_reducible refine (spec_ScriptOk.calls k1 _ _ x4_1 true _ ?side1 ?side2 A27.out).mono ?_); (case side1 => exact z37_); (case side2 => exact z100_); rintro e w33 ⟨rfl, hb⟩; refine ⟨_, rfl, ?_⟩; replace HO_4 := Aside0.mk (Kd.S_below z15_ hb); replace HO_5 := Aside0.mk (Kd.R_below z28_ hb); replace HB := Aside0.mk (below_step z0_ hb); (try clear hb)) | (go_at_call 27; (with_reducible refine (spec_ScriptText.calls k1 _ _ x4_1 t206 _ ?side1 ?side2 A29.out).mono ?_); (case side1 => exact z37_); (case side2 => exact z100_); rintro e w34 ⟨rfl, hb⟩; replace HO_4 := Aside0.mk (Kd.S_below z15_ hb); replace HO_5 := Aside0.mk (Kd.R_below z28_ hb); replace HB := Aside0.mk (below_step z0_ hb); (try clear hb)))
      go_ret2
      exact ⟨_, z2_, z15_, z0_⟩
     ·rw [if_neg c30] at H
      have c30b0 : (t206.toList == a0.toList) = false := beq_eq_false_iff_ne.mpr c30
      have c30b1 : (t206.toList != a0.toList) = true := bne_iff_ne.mpr c30
      first | ((with_reducible have hz_ := gy_ H); obtain ⟨y207, Ny207, H⟩ := hz_) | (generalize hy_ : ((([] : List (S24))) : List (S24)) = y207 at H; have Ny207 := Aside0.mk hy_.symm; clear hy_)
      simp only [Option.some.injEq, Prod.mk.injEq] at H
      obtain ⟨rfl, rfl⟩ := H
      obtain ⟨Ao35, co35, eo35⟩ := Kd.R_slice HO_5.out
      subst eo35
      obtain ⟨Ao36, co36, eo36⟩ := Kd.S_slice HO_4.out
      subst eo36
      go_wp2_with (first | ((with_reducible refine gate_callee (f := 26) rfl ?_); refine goesL_ (some 35) rfl rfl Tryd.func26 (by kernel_rfl) rfl #[.slice Ao36 x4_1.length co36] rfl z1_ ?_; (with_reducible refine (spec_ScriptOk.calls k1 _ _ x4_1 true _ ?side1 ?side2 A27.out).mono ?_); (case side1 => exact z37_); (case side2 => exact z100_); rintro e w37 ⟨rfl, hb⟩; refine ⟨_, rfl, ?_⟩; replace HO_4 := Aside0.mk (Kd.S_below z15_ hb); replace HO_5 := Aside0.mk (Kd.R_below z28_ hb); replace HB := Aside0.mk (below_step z0_ hb); (try clear hb)) | (go_at_call 27; (with_reducible refine (spec_ScriptText.calls k1 _ _ x4_1 t206 _ ?side1 ?side2 A29.out).mono ?_); (case side1 => exact z37_); (case side2 => exact z100_); rintro e w38 ⟨rfl, hb⟩; replace HO_4 := Aside0.mk (Kd.S_below z15_ hb); replace HO_5 := Aside0.mk (Kd.R_below z28_ hb); replace HB := Aside0.mk (below_step z0_ hb); (try clear hb)) | ((with_reducible refine gate_dst (N := 43) rfl ?_); refine Kd.S_lit k24 _ 24 ?hg (N := 43) ?hd (xs := ([] : List (S24))) (inner := []) (ok := fun _ => True) (okp := fun _ => True) ?hr ?hp (fun _ hk => hk) trivial (Below.refl _ _) (Nat.le_refl _) (by simp) ?_; (case hd => rfl); (case hg => rfl); (case hr => exact z18_); (case hp => exact z114_); intro v208 w39 ho40 hb hg_ hnew_; clear hg_ hnew_; (first | rw [← Ny207.out] at ho40 | (simp only [Int.reduceToNat] at ho40; rw [← Ny207.out] at ho40)); replace HO_5 := Aside0.mk (Kd.R_below z28_ hb); have HO209 := Aside0.mk (Kd.S_lower (Kd.S_new' ho40 (Kd.S_lt z15_)) (below_size z0_)); replace HO_4 := Aside0.mk (Kd.S_elder' z15_ (Kd.S_base ho40) hb); replace HB := Aside0.mk (below_step z0_ hb); clear hb ho40))
      go_ret2
      exact ⟨_, z2_, by (with_reducible repeat (first | apply Kd.S_alloc | apply Kd.S_drewN | apply Kd.S_drew)); exact Kd.S_mono HO209.out (fun _ hk => trivial), z0_⟩
    ·replace c28 := Bool.eq_false_iff.mpr c28
     subst c28
     replace H := iff_ H
     first | ((with_reducible have hz_ := gy_ H); obtain ⟨y210, Ny210, H⟩ := hz_) | (generalize hy_ : ((([] : List (S24))) : List (S24)) = y210 at H; have Ny210 := Aside0.mk hy_.symm; clear hy_)
     simp only [Option.some.injEq, Prod.mk.injEq] at H
     obtain ⟨rfl, rfl⟩ := H
     obtain ⟨Ao41, co41, eo41⟩ := Kd.R_slice HO_5.out
     subst eo41
     obtain ⟨Ao42, co42, eo42⟩ := Kd.S_slice HO_4.out
     subst eo42
     go_wp2_with (first | ((with_reducible refine gate_callee (f := 26) rfl ?_); refine goesL_ (some 35) rfl rfl Tryd.func26 (by kernel_rfl) rfl #[.slice Ao42 x4_1.length co42] rfl z1_ ?_; (with_reducible refine (spec_ScriptOk.calls k1 _ _ x4_1 false _ ?side1 ?side2 A27.out).mono ?_); (case side1 => exact z37_); (case side2 => exact z100_); rintro e w43 ⟨rfl, hb⟩; refine ⟨_, rfl, ?_⟩; replace HO_4 := Aside0.mk (Kd.S_below z15_ hb); replace HO_5 := Aside0.mk (Kd.R_below z28_ hb); replace HB := Aside0.mk (below_step z0_ hb); (try clear hb)) | ((with_reducible refine gate_dst (N := 43) rfl ?_); refine Kd.S_lit k24 _ 24 ?hg (N := 43) ?hd (xs := ([] : List (S24))) (inner := []) (ok := fun _ => True) (okp := fun _ => True) ?hr ?hp (fun _ hk => hk) trivial (Below.refl _ _) (Nat.le_refl _) (by simp) ?_; (case hd => rfl); (case hg => rfl); (case hr => exact z18_); (case hp => exact z114_); intro v211 w44 ho45 hb hg_ hnew_; clear hg_ hnew_; (first | rw [← Ny210.out] at ho45 | (simp only [Int.reduceToNat] at ho45; rw [← Ny210.out] at ho45)); replace HO_5 := Aside0.mk (Kd.R_below z28_ hb); have HO212 := Aside0.mk (Kd.S_lower (Kd.S_new' ho45 (Kd.S_lt z15_)) (below_size z0_)); replace HO_4 := Aside0.mk (Kd.S_elder' z15_ (Kd.S_base ho45) hb); replace HB := Aside0.mk (below_step z0_ hb); clear hb ho45))
     go_ret2
     exact ⟨_, z2_, by (with_reducible repeat (first | apply Kd.S_alloc | apply Kd.S_drewN | apply Kd.S_drew)); exact Kd.S_mono HO212.out (fun _ hk => trivial), z0_⟩

/-! ### strings_Split: function 19 -/
structure Laid (w : World) : Prop where
 tab : Lib.TabIs Tryd.prog w "internal/strconv.uint64pow10" .u64 Lib.pow10Tab
 len : ∃ m, w.cell? ⟨0, 0, none⟩ = some (.int .i64 m)
theorem Laid.below {w w' : World} (h : Laid w) (hb : Below w.heap.size w w') : Laid w' := by
 refine ⟨?_, ?_⟩
 ·have h1 := h.tab
  unfold Lib.TabIs World.var? at *
  cases hg : Tryd.prog.globalNamed "internal/strconv.uint64pow10" with
  | none => simp [hg] at h1
  | some g =>
   simp only [hg, Option.bind_some] at h1 ⊢
   have hlt : g < w.heap.size := by
    rcases Nat.lt_or_ge g w.heap.size with h' | h'
    ·exact h'
    ·rw [Array.getElem?_eq_none h'] at h1; simp at h1
   rw [hb.block g hlt]
   exact h1
 ·obtain ⟨m, hm⟩ := h.len
  have hlt := World.block_lt_of_cell? w _ hm
  exact ⟨m, (World.cell?_of_block (hb.block _ hlt)).trans hm⟩
def strings_Split.f (k : Nat) (a0 : ByteArray) (a1 : ByteArray) : Option (List ByteArray) := if a0.size < 4294967281 then (if 1 ≤ a1.size then some (Lib.splitB a1 0 (Lib.countB a0 a1) a0) else none) else none
theorem strings_Split.calls (k : Nat) (a0 : ByteArray) (a1 : ByteArray) (r : List ByteArray) (w : World) (hL : Laid w) (h : strings_Split.f k a0 a1 = some r) :
  Calls Tryd.prog 19 #[.string a0, .string a1] w fun e w' => ∃ v0_ : Value, e = .returned (v0_) ∧ Kd.R Kd.string 9 w' w.heap.size (fun _ => True) v0_ r ∧ Below w.heap.size w w' := by
 unfold strings_Split.f at h
 split at h
 ·split at h
  ·rename_i hs h1
   obtain rfl := Option.some.inj h
   obtain ⟨m, hm⟩ := hL.len
   have hn := Lib.splitB_all a1 h1 0 _ a0 rfl
   have hle := Lib.countB_le a1 h1 _ a0 (Nat.le_refl _)
   refine (Tryd.strings_Split a0 a1 m w hs hm h1).mono ?_
   rintro e w' ⟨rfl, rfl⟩
   refine ⟨_, rfl, ?_, below_alloc (Below.refl _ _) _⟩
   rw [← hn]
   refine Kd.R_of_own (h1 := fun _ => rfl) ⟨by simp [encs], .inr ⟨w.heap.size, _, _, rfl, Nat.le_refl _, heap_alloc_new w _, Nat.le_refl _, ?_, by simp, by simp [encs, List.take_of_length_le]⟩⟩ (fun _ _ => trivial)
   exact Nat.le_trans (by omega : _ ≤ 4294967282) (by decide)
  ·cases h
 ·cases h

/-! ### impl_within: function 35 -/
def impl_within.f (a0 : Int) (a1 : Int) (a2 : Int) : Option (Bool) := if a1 ≤ a0 then (some (decide (a0 ≤ a2))) else (some false)
set_option maxHeartbeats 8000000 in
set_option maxRecDepth 100000 in
theorem impl_within.calls (a0 : Int) (a1 : Int) (a2 : Int) (r : Bool) (w : World) (h : impl_within.f a0 a1 a2 = some r) :
  Calls Tryd.prog 35 #[.int .i64 a0, .int .i64 a1, .int .i64 a2] w fun e w' => e = .returned (.bool r) ∧ Drawn0 w w' := by
 have H : (if a1 ≤ a0 then (some (decide (a0 ≤ a2))) else (some false)) = some r := h
 clear h
 by_cases c4 : a1 ≤ a0
 ·rw [if_pos c4] at H
  have c4b0 := decide_eq_true c4
  clear c4
  obtain rfl := Option.some.inj H
  go_enter Tryd.func35, Tryd.ntmps35
  go_wp2
  go_ret
  exact ⟨z4_, z24_⟩
 ·rw [if_neg c4] at H
  have c4b0 := decide_eq_false c4
  clear c4
  obtain rfl := Option.some.inj H
  go_enter Tryd.func35, Tryd.ntmps35
  go_wp2
  go_ret
  exact ⟨z4_, z24_⟩

/-! ### impl_Dec: function 36 -/
def impl_Dec.f (k : Nat) (a0 : Int) : Option (ByteArray) := if -1000000000000 ≤ a0 then (if a0 ≤ 1000000000000 then some ⟨(Lib.itoa a0).toArray⟩ else none) else none
theorem impl_Dec.calls (k : Nat) (a0 : Int) (r : ByteArray) (w : World) (hL : Laid w) (h : impl_Dec.f k a0 = some r) :
  Calls Tryd.prog 36 #[.int .i64 a0] w fun e w' => e = .returned (.string r) ∧ Below w.heap.size w w' := by
 have hr : -9223372036854775808 ≤ a0 ∧ a0 ≤ 9223372036854775807 := by
  unfold impl_Dec.f at h
  split at h
  ·split at h
   ·omega
   ·cases h
  ·cases h
 have hf : r = ⟨(Lib.itoa a0).toArray⟩ := by
  unfold impl_Dec.f at h
  split at h
  ·split at h
   ·exact (Option.some.inj h).symm
   ·cases h
  ·cases h
 clear h
 subst hf
 go_enter Tryd.func36, Tryd.ntmps36
 go_wp2_with (first | ((with_reducible refine gate_callee (f := 48) rfl ?_); refine goesL_ (some 4) rfl rfl Tryd.func48 (by kernel_rfl) rfl #[.int .i64 a0] rfl (by first | done | rfl | (go_simp; done) | (go_simp; rfl)) ?_; (refine (Tryd.strconv_Itoa a0 hr.1 hr.2 _ hL.tab).mono ?_); rintro e w1 ⟨rfl, k1, os, rfl⟩; refine ⟨_, rfl, ?_⟩))
 go_ret
 exact ⟨rfl, Lib.below_grow _ _ (Nat.le_refl _) _ _⟩

end Go.Proofs.YtlfmlagdnebkiaaDoor.PFnExactReadScript
