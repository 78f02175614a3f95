/- Laid by a program of this session out of the kit's print for the law FnExactHistOk: what it says of the machine is proved here, function by function; each contract under the conditions that it names. -/
import Derived.Test.YtmbhlfcpdbbogabMFnExactHistOkx0
import Derived.Test.YtmbhlfcpdbbogabMFnExactHistOkx8
import Derived.Test.YtmbhlfcpdbbogabMFnExactHistOkx13
namespace Go.Proofs.Ytmbhlfcpdbbogab.PFnExactHistOk
open Go.RowKit Go.Proofs.YtmbhlfcpdbbogabW.PrintWords Go.Proofs.YtmbhlfcpdbbogabW.PrintLast Go.Proofs.YtmbhlfcpdbbogabW.PrintMore
attribute [local go_sem] max2_int min2_int max_two min_two max_three min_three max_four min_four   -- for this text's walks alone
set_option linter.unusedVariables false
set_option linter.unusedSimpArgs false

/-! ### slices_IndexFunc_Op: function 157 -/
def slices_IndexFunc_Op.l0 : Nat → List (S148) → Int → Int → Option (Int)
 | 0, _, _, _ => none
 | k + 1, x0, x7, x8 => if x8 < x7 then (if 0 ≤ x8 then (if x8 < (x0.length : Int) then ((impl_ScriptOk_lit1.f k ((rd_T148 x0 x8).f0) ((rd_T148 x0 x8).f1) ((rd_T148 x0 x8).f2) ((rd_T148 x0 x8).f3) ((rd_T148 x0 x8).f4)).bind fun t430 => (if t430 = true then (some x8) else (slices_IndexFunc_Op.l0 k x0 x7 (wrap64 (x8 + 1))))) else (none)) else (none)) else (some (-1))
def slices_IndexFunc_Op.f (k : Nat) (l0 : List (S148)) : Option (Int) := slices_IndexFunc_Op.l0 k l0 (l0.length : Int) 0
theorem slices_IndexFunc_Op.mono_l : ∀ k, (∀ y0 y1 y2, LeO (slices_IndexFunc_Op.l0 k y0 y1 y2) (slices_IndexFunc_Op.l0 (k + 1) y0 y1 y2))
 | 0 => fun _ _ _ r h => by simp [slices_IndexFunc_Op.l0] at h
 | k + 1 => by
  have ih0 := slices_IndexFunc_Op.mono_l k
  ·intro y0 y1 y2
   unfold slices_IndexFunc_Op.l0
   repeat' first | (with_reducible first | exact ih0 _ _ _ | exact impl_ScriptOk_lit1.mono _ _ _ _ _ _ | exact LeO.refl _ | exact LeO.none _ | refine LeO.ite ?_ ?_ | refine LeO.bind ?_ (fun _ => ?_)) | exact ih0 _ _ _ | exact impl_ScriptOk_lit1.mono _ _ _ _ _ _ | exact LeO.none _ | refine LeO.ite ?_ ?_ | refine LeO.bind ?_ (fun _ => ?_)
theorem slices_IndexFunc_Op.mono : ∀ a0 k, LeO (slices_IndexFunc_Op.f k a0) (slices_IndexFunc_Op.f (k + 1) a0) := by
 intro a0 k
 have ih0 := slices_IndexFunc_Op.mono_l k
 unfold slices_IndexFunc_Op.f
 repeat' first | (with_reducible first | exact ih0 _ _ _ | exact impl_ScriptOk_lit1.mono _ _ _ _ _ _ | exact LeO.refl _ | exact LeO.none _ | refine LeO.ite ?_ ?_ | refine LeO.bind ?_ (fun _ => ?_)) | exact ih0 _ _ _ | exact impl_ScriptOk_lit1.mono _ _ _ _ _ _ | exact LeO.none _ | refine LeO.ite ?_ ?_ | refine LeO.bind ?_ (fun _ => ?_)
set_option maxHeartbeats 8000000 in
set_option maxRecDepth 100000 in
theorem slices_IndexFunc_Op.calls (k : Nat) (A0 : Option Addr) (c0 : Nat) (l0 : List (S148)) (r : Int) (w : World) (hr0 : Kd.C k148 w A0 l0.length l0) (hc0 : l0.length ≤ c0) (h : slices_IndexFunc_Op.f k l0 = some r) :
  Calls Try.prog 157 #[.slice A0 l0.length c0, .func (.func 145) #[] #[]] w fun e w' => e = .returned (.int .i64 r) ∧ Below w.heap.size w w' := by
 have hu148 := Try.underlying148
 have HR0 := Aside0.mk hr0
 have HC0 := Aside0.mk hc0
 clear hr0 hc0
 have HB := Aside0.mk (Below.refl w.heap.size w)
 have H : (slices_IndexFunc_Op.l0 k l0 (l0.length : Int) 0) = some r := h
 clear h
 have H' := Aside0.mk H
 clear H
 go_enter Try.func157, Try.ntmps157
 go_wp2
 go_loopg [8] k (fun kq v8 w' => ∃ (x8_1 : Int), v8 = .int .i64 x8_1 ∧ Aside0 (slices_IndexFunc_Op.l0 kq l0 (l0.length : Int) x8_1 = some r) ∧ Aside0 (kq ≤ k) ∧ Aside0 (Below w.heap.size w w'))
 case atStart => exact ⟨(0), z9_, H', ⟨Nat.le_refl _⟩, ⟨z0_⟩⟩
 case round =>
  clear H'
  try clear c1
  obtain ⟨x8_1, rfl, HA, HK1, HB⟩ := hrel
  cases gk with
  | zero => exact absurd HA.out (by simp [slices_IndexFunc_Op.l0])
  | succ k1 =>
   have H := HA.out
   clear HA
   simp only [slices_IndexFunc_Op.l0] at H
   by_cases c2 : x8_1 < (l0.length : Int)
   ·rw [if_pos c2] at H
    have c2b0 : decide (x8_1 < (l0.length : Int)) = true := decide_eq_true c2
    clear c2
    obtain ⟨c3b0, H⟩ := ifd_ H
    obtain ⟨c4b0, H⟩ := ifd_ H
    obtain ⟨t430, A5, H⟩ := bnd_ H
    by_cases c6 : t430 = true
    ·subst c6
     replace H := ift_ H
     obtain rfl := Option.some.inj H
     have p429 : 0 ≤ (x8_1 : Int) := odt_
     have q429 : x8_1 < (l0.length : Int) := odt_
     obtain ⟨ad429, A429_1, c429_1, e429, hx429_0, hx429_1, hx429_2, hx429_3, hx429_4, hl429_1, hi429_1⟩ := at_T148 HR0.out x8_1 p429 q429
     cases e429
     replace hx429_0 := (HB.out.cell (World.block_lt_of_cell? w _ hx429_0)).trans hx429_0
     replace hx429_1 := (HB.out.cell (World.block_lt_of_cell? w _ hx429_1)).trans hx429_1
     replace hx429_2 := (HB.out.cell (World.block_lt_of_cell? w _ hx429_2)).trans hx429_2
     replace hx429_3 := (HB.out.cell (World.block_lt_of_cell? w _ hx429_3)).trans hx429_3
     replace hx429_4 := (HB.out.cell (World.block_lt_of_cell? w _ hx429_4)).trans hx429_4
     have HR429_1 := Aside0.mk hi429_1
     have HC429_1 := Aside0.mk hl429_1
     clear hi429_1 hl429_1
     replace p429 := eq_true p429
     replace q429 := eq_true q429
     go_wp2_with (first | (go_at_call 145; (with_reducible refine (impl_ScriptOk_lit1.calls k1 ((rd_T148 l0 x8_1).f0) _ _ ((rd_T148 l0 x8_1).f1) ((rd_T148 l0 x8_1).f2) ((rd_T148 l0 x8_1).f3) ((rd_T148 l0 x8_1).f4) true _ ?side1 ?side2 A5.out).mono ?_); (case side1 => exact z113_); (case side2 => exact HC429_1.out); rintro e w7 ⟨rfl, hb⟩; replace HB := Aside0.mk (below_step z0_ hb); (try clear hb)))
     go_ret
     exact ⟨z3_, z0_⟩
    ·replace c6 := Bool.eq_false_iff.mpr c6
     subst c6
     replace H := iff_ H
     have H' := Aside0.mk H
     clear H
     have p429 : 0 ≤ (x8_1 : Int) := odt_
     have q429 : x8_1 < (l0.length : Int) := odt_
     obtain ⟨ad429, A429_1, c429_1, e429, hx429_0, hx429_1, hx429_2, hx429_3, hx429_4, hl429_1, hi429_1⟩ := at_T148 HR0.out x8_1 p429 q429
     cases e429
     replace hx429_0 := (HB.out.cell (World.block_lt_of_cell? w _ hx429_0)).trans hx429_0
     replace hx429_1 := (HB.out.cell (World.block_lt_of_cell? w _ hx429_1)).trans hx429_1
     replace hx429_2 := (HB.out.cell (World.block_lt_of_cell? w _ hx429_2)).trans hx429_2
     replace hx429_3 := (HB.out.cell (World.block_lt_of_cell? w _ hx429_3)).trans hx429_3
     replace hx429_4 := (HB.out.cell (World.block_lt_of_cell? w _ hx429_4)).trans hx429_4
     have HR429_1 := Aside0.mk hi429_1
     have HC429_1 := Aside0.mk hl429_1
     clear hi429_1 hl429_1
     replace p429 := eq_true p429
     replace q429 := eq_true q429
     go_wp2_with (first | (go_at_call 145; (with_reducible refine (impl_ScriptOk_lit1.calls k1 ((rd_T148 l0 x8_1).f0) _ _ ((rd_T148 l0 x8_1).f1) ((rd_T148 l0 x8_1).f2) ((rd_T148 l0 x8_1).f3) ((rd_T148 l0 x8_1).f4) false _ ?side1 ?side2 A5.out).mono ?_); (case side1 => exact z113_); (case side2 => exact HC429_1.out); rintro e w8 ⟨rfl, hb⟩; replace HB := Aside0.mk (below_step z0_ hb); (try clear hb)))
     go_roundg k1
     case measure => have := HK1.out; omega
     case rel => exact ⟨(wrap64 (x8_1 + 1)), z9_, H', ⟨z78_⟩, ⟨z0_⟩⟩
   ·rw [if_neg c2] at H
    have c2b0 : decide (x8_1 < (l0.length : Int)) = false := decide_eq_false c2
    clear c2
    obtain rfl := Option.some.inj H
    go_wp2
    go_ret
    exact ⟨z3_, z0_⟩

/-! ### slices_ContainsFunc_Op: function 144 -/
def slices_ContainsFunc_Op.f (k : Nat) (l0 : List (S148)) : Option (Bool) := (slices_IndexFunc_Op.f k l0).bind fun t431 => (some (decide (t431 ≥ 0)))
theorem slices_ContainsFunc_Op.mono : ∀ a0 k, LeO (slices_ContainsFunc_Op.f k a0) (slices_ContainsFunc_Op.f (k + 1) a0) := by
 intro a0 k
 unfold slices_ContainsFunc_Op.f
 repeat' first | (with_reducible first | exact slices_IndexFunc_Op.mono _ _ | exact LeO.refl _ | exact LeO.none _ | refine LeO.ite ?_ ?_ | refine LeO.bind ?_ (fun _ => ?_)) | exact slices_IndexFunc_Op.mono _ _ | exact LeO.none _ | refine LeO.ite ?_ ?_ | refine LeO.bind ?_ (fun _ => ?_)
set_option maxHeartbeats 8000000 in
set_option maxRecDepth 100000 in
theorem slices_ContainsFunc_Op.calls (k : Nat) (A0 : Option Addr) (c0 : Nat) (l0 : List (S148)) (r : Bool) (w : World) (hr0 : Kd.C k148 w A0 l0.length l0) (hc0 : l0.length ≤ c0) (h : slices_ContainsFunc_Op.f k l0 = some r) :
  Calls Try.prog 144 #[.slice A0 l0.length c0, .func (.func 145) #[] #[]] w fun e w' => e = .returned (.bool r) ∧ Below w.heap.size w w' := by
 have HR0 := Aside0.mk hr0
 have HC0 := Aside0.mk hc0
 clear hr0 hc0
 have HB := Aside0.mk (Below.refl w.heap.size w)
 have H : ((slices_IndexFunc_Op.f k l0).bind fun t431 => (some (decide (t431 ≥ 0)))) = some r := h
 clear h
 obtain ⟨t431, A2, H⟩ := bnd_ H
 obtain rfl := Option.some.inj H
 go_enter Try.func144, Try.ntmps144
 go_wp2_with (first | ((with_reducible refine gate_callee (f := 157) rfl ?_); refine goesL_ (some 7) rfl rfl Try.func157 (by kernel_rfl) rfl #[.slice A0 l0.length c0, .func (.func 145) #[] #[]] rfl z1_ ?_; (with_reducible refine (slices_IndexFunc_Op.calls k _ _ l0 t431 _ ?side1 ?side2 A2.out).mono ?_); (case side1 => exact z20_); (case side2 => exact HC0.out); rintro e w3 ⟨rfl, hb⟩; refine ⟨_, rfl, ?_⟩; replace HB := Aside0.mk (below_step z0_ hb); (try clear hb)))
 go_ret
 exact ⟨z3_, z0_⟩

/-! ### impl_ScriptOk: function 128 -/
def impl_ScriptOk.f (k : Nat) (l0 : List (S148)) : Option (Bool) := if (l0.length : Int) ≤ 60 then ((slices_ContainsFunc_Op.f k l0).bind fun t432 => (some (!t432))) else (some false)
theorem impl_ScriptOk.mono : ∀ a0 k, LeO (impl_ScriptOk.f k a0) (impl_ScriptOk.f (k + 1) a0) := by
 intro a0 k
 unfold impl_ScriptOk.f
 repeat' first | (with_reducible first | exact slices_ContainsFunc_Op.mono _ _ | exact LeO.refl _ | exact LeO.none _ | refine LeO.ite ?_ ?_ | refine LeO.bind ?_ (fun _ => ?_)) | exact slices_ContainsFunc_Op.mono _ _ | exact LeO.none _ | refine LeO.ite ?_ ?_ | refine LeO.bind ?_ (fun _ => ?_)
set_option maxHeartbeats 8000000 in
set_option maxRecDepth 100000 in
theorem impl_ScriptOk.calls (k : Nat) (A0 : Option Addr) (c0 : Nat) (l0 : List (S148)) (r : Bool) (w : World) (hr0 : Kd.C k148 w A0 l0.length l0) (hc0 : l0.length ≤ c0) (h : impl_ScriptOk.f k l0 = some r) :
  Calls Try.prog 128 #[.slice A0 l0.length c0] w fun e w' => e = .returned (.bool r) ∧ Below w.heap.size w w' := by
 have HR0 := Aside0.mk hr0
 have HC0 := Aside0.mk hc0
 clear hr0 hc0
 have HB := Aside0.mk (Below.refl w.heap.size w)
 have H : (if (l0.length : Int) ≤ 60 then ((slices_ContainsFunc_Op.f k l0).bind fun t432 => (some (!t432))) else (some false)) = some r := h
 clear h
 by_cases c2 : (l0.length : Int) ≤ 60
 ·rw [if_pos c2] at H
  have c2b0 : decide ((l0.length : Int) ≤ 60) = true := decide_eq_true c2
  have c2b1 : decide (l0.length ≤ 60) = true := decide_eq_true (by omega)
  clear c2
  obtain ⟨t432, A3, H⟩ := bnd_ H
  obtain rfl := Option.some.inj H
  go_enter Try.func128, Try.ntmps128
  go_wp2_with (first | (go_at_call 144; (with_reducible refine (slices_ContainsFunc_Op.calls k _ _ l0 t432 _ ?side1 ?side2 A3.out).mono ?_); (case side1 => exact z20_); (case side2 => exact HC0.out); rintro e w4 ⟨rfl, hb⟩; replace HB := Aside0.mk (below_step z0_ hb); (try clear hb)))
  go_ret
  exact ⟨z3_, z0_⟩
 ·rw [if_neg c2] at H
  have c2b0 : decide ((l0.length : Int) ≤ 60) = false := decide_eq_false c2
  have c2b1 : decide (l0.length ≤ 60) = false := decide_eq_false (by omega)
  clear c2
  obtain rfl := Option.some.inj H
  go_enter Try.func128, Try.ntmps128
  go_wp2
  go_ret
  exact ⟨z3_, z0_⟩

/-! ### impl_Hist_trees: function 103 -/
mutual
def impl_Hist_trees.j0 : Nat → Bool → List (S55) → List (List (S148)) → Option ((List (List (S55))) × Bool)
 | 0, _, _, _ => none
 | k + 1, x19, x434000, x434001 => if x19 = true then (some (([] : List (List (S55))), false)) else ((slices_Clone_Node.f x434000).bind fun t435 => (impl_Hist_trees.l0 k (([t435] : List (List (S55)))) x434001 (x434001.length : Int) 0))
def impl_Hist_trees.l0 : Nat → List (List (S55)) → List (List (S148)) → Int → Int → Option ((List (List (S55))) × Bool)
 | 0, _, _, _, _ => none
 | k + 1, x4, x25, x26, x27 => if x27 < x26 then (if 0 ≤ x27 then (if x27 < (x25.length : Int) then (if x27 < (x4.length : Int) then ((impl_ApplyAll.f k (rd_L8 x4 x27) (rd_L7 x25 x27)).bind fun bt443 => (if bt443.2.2 = 0 then ((impl_ScriptOk.f k (rd_L7 x25 x27)).bind fun t448 => (if t448 = true then (if x4.length < 5864062014805 then (impl_Hist_trees.l0 k (x4 ++ [bt443.1]) x25 x26 (wrap64 (x27 + 1))) else (none)) else (some (([] : List (List (S55))), false)))) else (some (([] : List (List (S55))), false)))) else (none)) else (none)) else (none)) else (some (x4, true))
end
def impl_Hist_trees.f (k : Nat) (l0_0 : List (S55)) (l0_1 : List (List (S148))) : Option ((List (List (S55))) × Bool) := (impl_TreeOk.f k l0_0).bind fun t434 => (if t434 = true then (impl_Hist_trees.j0 k (decide ((l0_1.length : Int) > 6)) l0_0 l0_1) else (impl_Hist_trees.j0 k true l0_0 l0_1))
theorem impl_Hist_trees.mono_l : ∀ k, (∀ y0 y1 y2, LeO (impl_Hist_trees.j0 k y0 y1 y2) (impl_Hist_trees.j0 (k + 1) y0 y1 y2)) ∧ (∀ y0 y1 y2 y3, LeO (impl_Hist_trees.l0 k y0 y1 y2 y3) (impl_Hist_trees.l0 (k + 1) y0 y1 y2 y3))
 | 0 => ⟨fun _ _ _ r h => by simp [impl_Hist_trees.j0] at h, fun _ _ _ _ r h => by simp [impl_Hist_trees.l0] at h⟩
 | k + 1 => by
  obtain ⟨ih0, ih1⟩ := impl_Hist_trees.mono_l k
  refine ⟨?_, ?_⟩
  ·intro y0 y1 y2
   unfold impl_Hist_trees.j0
   repeat' first | (with_reducible first | exact ih0 _ _ _ | exact ih1 _ _ _ _ | exact impl_ApplyAll.mono _ _ _ | exact impl_ScriptOk.mono _ _ | exact impl_TreeOk.mono _ _ | exact LeO.refl _ | exact LeO.none _ | refine LeO.ite ?_ ?_ | refine LeO.bind ?_ (fun _ => ?_)) | exact ih0 _ _ _ | exact ih1 _ _ _ _ | exact impl_ApplyAll.mono _ _ _ | exact impl_ScriptOk.mono _ _ | exact impl_TreeOk.mono _ _ | exact LeO.none _ | refine LeO.ite ?_ ?_ | refine LeO.bind ?_ (fun _ => ?_)
  ·intro y0 y1 y2 y3
   unfold impl_Hist_trees.l0
   repeat' first | (with_reducible first | exact ih0 _ _ _ | exact ih1 _ _ _ _ | exact impl_ApplyAll.mono _ _ _ | exact impl_ScriptOk.mono _ _ | exact impl_TreeOk.mono _ _ | exact LeO.refl _ | exact LeO.none _ | refine LeO.ite ?_ ?_ | refine LeO.bind ?_ (fun _ => ?_)) | exact ih0 _ _ _ | exact ih1 _ _ _ _ | exact impl_ApplyAll.mono _ _ _ | exact impl_ScriptOk.mono _ _ | exact impl_TreeOk.mono _ _ | exact LeO.none _ | refine LeO.ite ?_ ?_ | refine LeO.bind ?_ (fun _ => ?_)
theorem impl_Hist_trees.mono : ∀ a0 a1 k, LeO (impl_Hist_trees.f k a0 a1) (impl_Hist_trees.f (k + 1) a0 a1) := by
 intro a0 a1 k
 obtain ⟨ih0, ih1⟩ := impl_Hist_trees.mono_l k
 unfold impl_Hist_trees.f
 repeat' first | (with_reducible first | exact ih0 _ _ _ | exact ih1 _ _ _ _ | exact impl_ApplyAll.mono _ _ _ | exact impl_ScriptOk.mono _ _ | exact impl_TreeOk.mono _ _ | exact LeO.refl _ | exact LeO.none _ | refine LeO.ite ?_ ?_ | refine LeO.bind ?_ (fun _ => ?_)) | exact ih0 _ _ _ | exact ih1 _ _ _ _ | exact impl_ApplyAll.mono _ _ _ | exact impl_ScriptOk.mono _ _ | exact impl_TreeOk.mono _ _ | exact LeO.none _ | refine LeO.ite ?_ ?_ | refine LeO.bind ?_ (fun _ => ?_)
set_option maxHeartbeats 8000000 in
set_option maxRecDepth 100000 in
theorem impl_Hist_trees.calls (k : Nat) (A0_0 : Option Addr) (c0_0 : Nat) (l0_0 : List (S55)) (A0_1 : Option Addr) (c0_1 : Nat) (l0_1 : List (List (S148))) (r1 : List (List (S55))) (r2 : Bool) (w : World) (hr0_0 : Kd.C k55 w A0_0 l0_0.length l0_0) (hc0_0 : l0_0.length ≤ c0_0) (hr0_1 : Kd.C (Kd.slice 148 k148) w A0_1 l0_1.length l0_1) (hc0_1 : l0_1.length ≤ c0_1) (h : impl_Hist_trees.f k l0_0 l0_1 = some (r1, r2)) :
  Calls Try.prog 103 #[.agg #[.slice A0_0 l0_0.length c0_0, .slice A0_1 l0_1.length c0_1]] w fun e w' => ∃ v0_ : Value, e = .returned (.tuple #[v0_, .bool r2]) ∧ Kd.N (Kd.slice 55 k55) 38 w' w.heap.size (fun k_ => (w.heap.size ≤ k_)) v0_ r1 ∧ Below w.heap.size w w' := by
 have hu81 := Try.underlying81
 have HR0_0 := Aside0.mk hr0_0
 have HC0_0 := Aside0.mk hc0_0
 clear hr0_0 hc0_0
 have HR0_1 := Aside0.mk hr0_1
 have HC0_1 := Aside0.mk hc0_1
 clear hr0_1 hc0_1
 have HB := Aside0.mk (Below.refl w.heap.size w)
 have H : ((impl_TreeOk.f k l0_0).bind fun t434 => (if t434 = true then (impl_Hist_trees.j0 k (decide ((l0_1.length : Int) > 6)) l0_0 l0_1) else (impl_Hist_trees.j0 k true l0_0 l0_1))) = some (r1, r2) := h
 clear h
 have HC2 := Aside0.mk H
 clear H
 go_enter Try.func103, Try.ntmps103
 go_upto_region 1 with (first | ((with_reducible refine gate_dst (N := 1) rfl ?_); (try (refine gate_guard (by rfl) ?_; dsimp only)); refine box_event ?hg (N := 1) ?hd (cs := #[.slice A0_0 l0_0.length c0_0, .slice A0_1 l0_1.length c0_1]) (t := 81) ?hr ?_; (case hd => rfl); (case hg => rfl); (case hr => exact z11_); intro gb433 hg w3 hbox hb; have BK433 := Aside0.mk (hbox); have GW433 := Aside0.mk ((by rw [hg]; exact (below_size z0_) : w.heap.size ≤ gb433)); have GE433 := Aside0.mk ((by rw [hg]; exact (below_size z0_) : w.heap.size ≤ gb433)); replace HB := Aside0.mk (below_step z0_ hb); clear hb hbox hg))
 (try simp only [Act.put, List.setIfInBounds_toArray, List.set_cons_zero, List.set_cons_succ])
 go_cut [19] (fun v19 wc => ∃ (kq : Nat) (x19_1 : Bool), v19 = .bool x19_1 ∧ Aside0 (impl_Hist_trees.j0 kq x19_1 l0_0 l0_1 = some (r1, r2)) ∧ Aside0 (kq ≤ k) ∧ Aside0 (wc.heap[gb433]? = some (.cells #[(.slice A0_0 l0_0.length c0_0), (.slice A0_1 l0_1.length c0_1)] 81 (0, 0))) ∧ Aside0 (Below w.heap.size w wc))
 case first =>
  have H := HC2.out
  clear HC2
  obtain ⟨t434, A4, H⟩ := bnd_ H
  by_cases c5 : t434 = true
  ·subst c5
   replace H := ift_ H
   have H' := Aside0.mk H
   clear H
   have hcz6_0 : w3.cell? ⟨gb433, 0, none⟩ = some (.slice A0_0 l0_0.length c0_0) := (blk_cell BK433.out 0).trans rfl
   have hcz6_1 : w3.cell? ⟨gb433, 1, none⟩ = some (.slice A0_1 l0_1.length c0_1) := (blk_cell BK433.out 1).trans rfl
   have hfz6_0 := blk_frozen BK433.out 0
   have hfz6_1 := blk_frozen BK433.out 1
   go_wp2_with (first | ((with_reducible refine gate_callee (f := 68) rfl ?_); refine goesL_ (some 12) rfl rfl Try.func68 (by kernel_rfl) rfl #[.slice A0_0 l0_0.length c0_0] rfl z1_ ?_; (with_reducible refine (impl_TreeOk.calls k _ _ l0_0 true _ ?side1 ?side2 A4.out).mono ?_); (case side1 => exact z12_); (case side2 => exact HC0_0.out); rintro e w7 ⟨rfl, hb⟩; refine ⟨_, rfl, ?_⟩; replace BK433 := Aside0.mk (blk_below (g := gb433) (o := .cells #[.slice A0_0 l0_0.length c0_0, .slice A0_1 l0_1.length c0_1] 81 (0, 0)) z29_ hb); replace HB := Aside0.mk (below_step z10_ hb); (try clear hb); have hcz8_0 : w7.cell? ⟨gb433, 0, none⟩ = some (.slice A0_0 l0_0.length c0_0) := (blk_cell BK433.out 0).trans rfl; have hcz8_1 : w7.cell? ⟨gb433, 1, none⟩ = some (.slice A0_1 l0_1.length c0_1) := (blk_cell BK433.out 1).trans rfl; have hfz8_0 := blk_frozen BK433.out 0; have hfz8_1 := blk_frozen BK433.out 1))
   go_meet
   case rel => exact ⟨_, (decide ((l0_1.length : Int) > 6)), z9_, H', ⟨z121_⟩, ⟨z29_⟩, ⟨z10_⟩⟩
  ·replace c5 := Bool.eq_false_iff.mpr c5
   subst c5
   replace H := iff_ H
   have H' := Aside0.mk H
   clear H
   have hcz9_0 : w3.cell? ⟨gb433, 0, none⟩ = some (.slice A0_0 l0_0.length c0_0) := (blk_cell BK433.out 0).trans rfl
   have hcz9_1 : w3.cell? ⟨gb433, 1, none⟩ = some (.slice A0_1 l0_1.length c0_1) := (blk_cell BK433.out 1).trans rfl
   have hfz9_0 := blk_frozen BK433.out 0
   have hfz9_1 := blk_frozen BK433.out 1
   go_wp2_with (first | ((with_reducible refine gate_callee (f := 68) rfl ?_); refine goesL_ (some 12) rfl rfl Try.func68 (by kernel_rfl) rfl #[.slice A0_0 l0_0.length c0_0] rfl z1_ ?_; (with_reducible refine (impl_TreeOk.calls k _ _ l0_0 false _ ?side1 ?side2 A4.out).mono ?_); (case side1 => exact z12_); (case side2 => exact HC0_0.out); rintro e w10 ⟨rfl, hb⟩; refine ⟨_, rfl, ?_⟩; replace BK433 := Aside0.mk (blk_below (g := gb433) (o := .cells #[.slice A0_0 l0_0.length c0_0, .slice A0_1 l0_1.length c0_1] 81 (0, 0)) z29_ hb); replace HB := Aside0.mk (below_step z10_ hb); (try clear hb)))
   go_meet
   case rel => exact ⟨_, (true), z9_, H', ⟨z121_⟩, ⟨z29_⟩, ⟨z10_⟩⟩
 case rest =>
  clear HC2
  try clear c1
  try clear p2
  try clear c5
  try clear c6
  try clear c10
  try clear hcz6_0
  try clear hcz6_1
  try clear hcz8_0
  try clear hcz8_1
  try clear hcz9_0
  try clear hcz9_1
  try clear hfz6_0
  try clear hfz6_1
  try clear hfz8_0
  try clear hfz8_1
  try clear hfz9_0
  try clear hfz9_1
  obtain ⟨kq, x19_1, rfl, HA, HJ1, BK433, HB⟩ := hcut
  cases kq with
  | zero => exact absurd HA.out (by simp [impl_Hist_trees.j0])
  | succ kj1 =>
   have H := HA.out
   clear HA
   simp only [impl_Hist_trees.j0] at H
   by_cases c11 : x19_1 = true
   ·subst c11
    replace H := ift_ H
    simp only [Option.some.injEq, Prod.mk.injEq] at H
    obtain ⟨rfl, rfl⟩ := H
    go_wp2
    go_ret2
    exact ⟨_, z3_, z101_, z10_⟩
   ·replace c11 := Bool.eq_false_iff.mpr c11
    subst c11
    replace H := iff_ H
    obtain ⟨t435, A12, H⟩ := bnd_ H
    obtain ⟨y438, hy438⟩ : ∃ y_ : List (List (S55)), y_ = (([t435] : List (List (S55)))) := ⟨_, rfl⟩
    replace H : (impl_Hist_trees.l0 kj1 y438 l0_1 (l0_1.length : Int) 0) = some (r1, r2) := by first | (rw [hy438]; with_reducible exact H) | (have H2_ := (Option.bind_some _ _).symm.trans H; rw [hy438]; with_reducible exact H2_) | (have H2_ := (Option.bind_some _ _).symm.trans H; with_reducible exact H2_) | with_reducible exact H | (rw [hy438]; exact H) | exact H
    have Ny438 := Aside0.mk hy438
    clear hy438
    have H' := Aside0.mk H
    clear H
    have hcz13_0 : wc.cell? ⟨gb433, 0, none⟩ = some (.slice A0_0 l0_0.length c0_0) := (blk_cell BK433.out 0).trans rfl
    have hcz13_1 : wc.cell? ⟨gb433, 1, none⟩ = some (.slice A0_1 l0_1.length c0_1) := (blk_cell BK433.out 1).trans rfl
    have hfz13_0 := blk_frozen BK433.out 0
    have hfz13_1 := blk_frozen BK433.out 1
    go_wp2_with (first | ((with_reducible refine gate_callee (f := 126) rfl ?_); refine goesL_ (some 22) rfl rfl Try.func126 (by kernel_rfl) rfl #[.slice A0_0 l0_0.length c0_0] rfl z1_ ?_; (with_reducible refine (slices_Clone_Node.calls _ _ l0_0 t435 _ ?side1 ?side2 A12.out).mono ?_); (case side1 => exact z12_); (case side2 => exact HC0_0.out); rintro e w14 ⟨v436, rfl, ho0, hb⟩; refine ⟨_, rfl, ?_⟩; have HO437 := Aside0.mk (Kd.R_lower (Kd.R_newM (M := fun k_ => (w.heap.size ≤ k_)) ho0 (below_size z10_) (fun k_ h_ => h_)) (below_size z10_)); replace BK433 := Aside0.mk (blk_below (g := gb433) (o := .cells #[.slice A0_0 l0_0.length c0_0, .slice A0_1 l0_1.length c0_1] 81 (0, 0)) z29_ hb); replace HB := Aside0.mk (below_step z10_ hb); (try clear hb ho0); obtain ⟨Ao15, co15, eo15⟩ := Kd.R_slice HO437.out; subst eo15) | ((with_reducible refine gate_dst (N := 23) rfl ?_); (try (refine gate_guard (by rfl) ?_; dsimp only)); refine Kd.N_lit (Kd.slice 55 k55) _ 38 ?hg (N' := 23) ?hd (xs := ([t435] : List (List (S55)))) (inner := [.slice Ao15 t435.length co15]) (ok := (fun k_ => (w.heap.size ≤ k_) ∧ k_ ≠ gb433)) (okp := (fun k_ => (w.heap.size ≤ k_) ∧ k_ ≠ gb433)) ?hr ?hp (fun _ hk => hk) ((show ∀ k_, w14.heap.size ≤ k_ → (fun k_ => (w.heap.size ≤ k_) ∧ k_ ≠ gb433) k_ from fun k_ hk => ⟨(Nat.le_trans (below_size z10_) hk), Kd.freshB (g := gb433) (o := .cells #[.slice A0_0 l0_0.length c0_0, .slice A0_1 l0_1.length c0_1] 81 (0, 0)) z29_ k_ hk⟩) _ (Nat.le_refl _)) (Below.refl _ _) (Nat.le_refl _) (by simp) ?_; (case hd => rfl); (case hg => rfl); (case hr => exact z11_); (case hp => exact (Reps.one (show Kd.FK (Kd.slice 55 k55) _ _ t435 [.slice Ao15 t435.length co15] from (Kd.FK_slice_mk (Kd.R_reads' (Kd.R_mono (ok' := (fun k_ => (w.heap.size ≤ k_) ∧ k_ ≠ gb433)) (Kd.R_types (HO437.out) BK433.out (by decide)) (fun k_ hk => ⟨hk.1.1, hk.2⟩))).2.1 (Kd.R_F (Kd.R_mono (ok' := (fun k_ => (w.heap.size ≤ k_) ∧ k_ ≠ gb433)) (Kd.R_types (HO437.out) BK433.out (by decide)) (fun k_ hk => ⟨hk.1.1, hk.2⟩))))) (Reps.none _ _))); intro v439 w16 ho17 hb hg_ hnew_; clear hg_ hnew_; (first | rw [← Ny438.out] at ho17 | (simp only [Int.reduceToNat] at ho17; rw [← Ny438.out] at ho17)); have HO440 := Aside0.mk (Kd.N_lower ho17 (below_size z10_)); replace BK433 := Aside0.mk (blk_below (g := gb433) (o := .cells #[.slice A0_0 l0_0.length c0_0, .slice A0_1 l0_1.length c0_1] 81 (0, 0)) z29_ hb); replace HB := Aside0.mk (below_step z10_ hb); clear HO437; clear hb ho17; have hcz18_0 : w16.cell? ⟨gb433, 0, none⟩ = some (.slice A0_0 l0_0.length c0_0) := (blk_cell BK433.out 0).trans rfl; have hcz18_1 : w16.cell? ⟨gb433, 1, none⟩ = some (.slice A0_1 l0_1.length c0_1) := (blk_cell BK433.out 1).trans rfl; have hfz18_0 := blk_frozen BK433.out 0; have hfz18_1 := blk_frozen BK433.out 1))
    go_loopg [4, 27] kj1 (fun kq v4 v27 w' => ∃ (x4_2 : List (List (S55))) (x27_2 : Int), v27 = .int .i64 x27_2 ∧ Aside0 (impl_Hist_trees.l0 kq x4_2 l0_1 (l0_1.length : Int) x27_2 = some (r1, r2)) ∧ Aside0 (kq ≤ kj1) ∧ Aside0 (Kd.N (Kd.slice 55 k55) 38 w' w.heap.size (fun k_ => (w.heap.size ≤ k_) ∧ k_ ≠ gb433) v4 x4_2) ∧ Aside0 (w'.heap[gb433]? = some (.cells #[(.slice A0_0 l0_0.length c0_0), (.slice A0_1 l0_1.length c0_1)] 81 (0, 0))) ∧ Aside0 (Below w.heap.size w w'))
    case atStart => exact ⟨(y438), (0), z9_, H', ⟨Nat.le_refl _⟩, ⟨by (with_reducible repeat (first | apply Kd.N_alloc | apply Kd.N_drewN | apply Kd.N_drew)); exact HO440.out⟩, ⟨z29_⟩, ⟨z10_⟩⟩
    case round =>
     clear H'
     try clear c1
     try clear p2
     try clear c5
     try clear c6
     try clear c10
     try clear c11
     try clear c12
     try clear hcz13_0
     try clear hcz13_1
     try clear hcz18_0
     try clear hcz18_1
     try clear hcz6_0
     try clear hcz6_1
     try clear hcz8_0
     try clear hcz8_1
     try clear hcz9_0
     try clear hcz9_1
     try clear hfz13_0
     try clear hfz13_1
     try clear hfz18_0
     try clear hfz18_1
     try clear hfz6_0
     try clear hfz6_1
     try clear hfz8_0
     try clear hfz8_1
     try clear hfz9_0
     try clear hfz9_1
     try clear p2
     obtain ⟨x4_2, x27_2, rfl, HA, HK2, HO_4, BK433, HB⟩ := hrel
     cases gk with
     | zero => exact absurd HA.out (by simp [impl_Hist_trees.l0])
     | succ k2 =>
      have H := HA.out
      clear HA
      simp only [impl_Hist_trees.l0] at H
      by_cases c19 : x27_2 < (l0_1.length : Int)
      ·rw [if_pos c19] at H
       have c19b0 : decide (x27_2 < (l0_1.length : Int)) = true := decide_eq_true c19
       clear c19
       obtain ⟨c20b0, H⟩ := ifd_ H
       obtain ⟨c21b0, H⟩ := ifd_ H
       obtain ⟨c22b0, H⟩ := ifd_ H
       replace H := Option.bind_eq_some_iff.mp H
       obtain ⟨⟨t443, t444, t445⟩, A230, H⟩ := H
       replace H : (if t445 = 0 then ((impl_ScriptOk.f k2 (rd_L7 l0_1 x27_2)).bind fun t448 => (if t448 = true then (if x4_2.length < 5864062014805 then (impl_Hist_trees.l0 k2 (x4_2 ++ [t443]) l0_1 (l0_1.length : Int) (wrap64 (x27_2 + 1))) else (none)) else (some (([] : List (List (S55))), false)))) else (some (([] : List (List (S55))), false))) = some (r1, r2) := H
       have A23 := Aside0.mk A230
       clear A230
       by_cases c24 : t445 = 0
       ·rw [if_pos c24] at H
        have c24b0 : (t445 == 0) = true := beq_iff_eq.mpr c24
        have c24b1 : (t445 != 0) = false := bne_eq_false_iff_eq.mpr c24
        clear c24
        obtain ⟨t448, A25, H⟩ := bnd_ H
        by_cases c26 : t448 = true
        ·subst c26
         replace H := ift_ H
         obtain ⟨c27, H⟩ := ifs_ H
         have LMc27 := Aside0.mk c27
         clear c27
         obtain ⟨y449, hy449⟩ : ∃ y_ : List (List (S55)), y_ = (x4_2 ++ [t443]) := ⟨_, rfl⟩
         replace H : (impl_Hist_trees.l0 k2 y449 l0_1 (l0_1.length : Int) (wrap64 (x27_2 + 1))) = some (r1, r2) := by first | (rw [hy449]; with_reducible exact H) | (have H2_ := (Option.bind_some _ _).symm.trans H; rw [hy449]; with_reducible exact H2_) | (have H2_ := (Option.bind_some _ _).symm.trans H; with_reducible exact H2_) | with_reducible exact H | (rw [hy449]; exact H) | exact H
         have Ny449 := Aside0.mk hy449
         clear hy449
         have H' := Aside0.mk H
         clear H
         have p441 : 0 ≤ (x27_2 : Int) := odt_
         have q441 : x27_2 < (l0_1.length : Int) := odt_
         obtain ⟨ad441, A441_0, c441_0, e441, hx441_0, hl441_0, hi441_0⟩ := at_L7 HR0_1.out x27_2 p441 q441
         cases e441
         replace hx441_0 := (HB.out.cell (World.block_lt_of_cell? w _ hx441_0)).trans hx441_0
         have HR441_0 := Aside0.mk hi441_0
         have HC441_0 := Aside0.mk hl441_0
         clear hi441_0 hl441_0
         replace p441 := eq_true p441
         replace q441 := eq_true q441
         obtain ⟨Ao28, co28, eo28⟩ := Kd.N_slice HO_4.out
         subst eo28
         have p442 : 0 ≤ (x27_2 : Int) := odt_
         have q442 : x27_2 < (x4_2.length : Int) := odt_
         obtain ⟨ad442, A442_0, c442_0, e442, hx442_0, hl442_0, hi442_0⟩ := at_L8 (Kd.N_reads' HO_4.out).2.2 x27_2 p442 q442
         cases e442
         obtain ⟨ce442, hce442, hMe442, hcc442⟩ := Kd.N_get HO_4.out [] x27_2 p442 z144_
         obtain ⟨ua442_0, uc442_0, rfl, ul442_0, ge442_0⟩ := Kd.FK_slice_open hMe442
         have hv442_0 := hcc442 0 _ rfl
         rw [Nat.add_zero, show ((Kd.slice 55 k55)).sz = 1 from rfl, Nat.mul_one] at hv442_0
         replace hv442_0 := Option.some.inj (hv442_0.symm.trans hx442_0)
         injection hv442_0 with hva_ hvn_ hvc_
         rw [hva_] at ge442_0
         rw [hvc_] at ul442_0
         have HL442_0 := Aside0.mk (show Kd.V k55 55 _ w.heap.size _ _ (rd_L8 x4_2 x27_2) from Kd.V_mk ul442_0 ge442_0)
         clear hva_ hvn_ hvc_ ge442_0 ul442_0
         clear hcc442 hce442
         have HR442_0 := Aside0.mk hi442_0
         have HC442_0 := Aside0.mk hl442_0
         clear hi442_0 hl442_0
         replace p442 := eq_true p442
         replace q442 := eq_true q442
         go_wp2_with (first | ((with_reducible refine gate_callee (f := 127) rfl ?_); refine goesL_ (some 38) rfl rfl Try.func127 (by kernel_rfl) rfl #[.slice A442_0 (rd_L8 x4_2 x27_2).length c442_0, .slice A441_0 (rd_L7 l0_1 x27_2).length c441_0] rfl z1_ ?_; (with_reducible refine (impl_ApplyAll.calls k2 _ _ (rd_L8 x4_2 x27_2) _ _ (rd_L7 l0_1 x27_2) t443 t444 t445 _ ?side1 ?side2 ?side3 ?side4 A23.out).mono ?_); (case side1 => exact z52_); (case side2 => exact HC442_0.out); (case side3 => exact z60_); (case side4 => exact HC441_0.out); rintro e w29 ⟨v446, rfl, ho0, hb⟩; refine ⟨_, rfl, ?_⟩; replace HO_4 := Aside0.mk (Kd.N_elder' z93_ (Kd.R_base ho0) hb); replace HL442_0 := Aside0.mk (Kd.V_elder' z87_ (Kd.R_base ho0) hb); have HO447 := Aside0.mk (Kd.R_lower (Kd.R_newM (M := fun k_ => (w.heap.size ≤ k_)) ho0 (below_size z10_) (fun k_ h_ => h_)) (below_size z10_)); replace BK433 := Aside0.mk (blk_below (g := gb433) (o := .cells #[.slice A0_0 l0_0.length c0_0, .slice (some ad441) l0_1.length c0_1] 81 (0, 0)) z29_ hb); replace HR442_0 := Aside0.mk (Kd.C_below z37_ hb); replace HB := Aside0.mk (below_step z10_ hb); (try clear hb ho0)) | (go_at_call 128; (with_reducible refine (impl_ScriptOk.calls k2 _ _ (rd_L7 l0_1 x27_2) true _ ?side1 ?side2 A25.out).mono ?_); (case side1 => exact z60_); (case side2 => exact HC441_0.out); rintro e w30 ⟨rfl, hb⟩; replace HO_4 := Aside0.mk (Kd.N_below z93_ hb); replace HL442_0 := Aside0.mk (Kd.V_below z87_ hb); replace HO447 := Aside0.mk (Kd.R_below z155_ hb); replace BK433 := Aside0.mk (blk_below (g := gb433) (o := .cells #[.slice A0_0 l0_0.length c0_0, .slice (some ad441) l0_1.length c0_1] 81 (0, 0)) z29_ hb); replace HR442_0 := Aside0.mk (Kd.C_below z37_ hb); replace HB := Aside0.mk (below_step z10_ hb); (try clear hb); obtain ⟨Ao32, co32, eo32⟩ := Kd.R_slice HO447.out; subst eo32) | ((with_reducible refine gate_builtin (b := .append) (xs := #[.tmp 49, .tmp 51]) rfl ?_); (try (refine gate_guard (by rfl) ?_; dsimp only)); at_builtin; refine Kd.N_append (Kd.slice 55 k55) (w0 := w) w.heap.size rfl (.tmp 49) (.tmp 51) 126 38 (.slice none 0 0) 24 rfl Try.underlying126 info38 rfl (by decide) (by omega) (.slice (some ad442) x4_2.length co28) x4_2 t443 [.slice Ao32 t443.length co32] (fun k_ => (w.heap.size ≤ k_) ∧ k_ ≠ gb433) (fun k_ => ((fun k_ => (w.heap.size ≤ k_) ∧ k_ ≠ gb433)) k_ ∧ some k_ ≠ (.slice (some ad442) x4_2.length co28 : Value).ownBlock) rfl rfl ?aP (fun _ hk => hk) ?aF ?aO ?aB ?aS ?aL ?_; (case aP => exact (Kd.FK_slice_mk (Kd.R_reads' (Kd.R_mono (ok' := (fun k_ => ((fun k_ => (w.heap.size ≤ k_) ∧ k_ ≠ gb433)) k_ ∧ some k_ ≠ (.slice (some ad442) x4_2.length co28 : Value).ownBlock)) (Kd.R_types (Kd.R_apart' (HO447.out) (Kd.N_typed HO_4.out) (by decide)) BK433.out (by decide)) (fun k_ hk => ⟨⟨hk.1.1.1, hk.2⟩, hk.1.2⟩))).2.1 (Kd.R_F (Kd.R_mono (ok' := (fun k_ => ((fun k_ => (w.heap.size ≤ k_) ∧ k_ ≠ gb433)) k_ ∧ some k_ ≠ (.slice (some ad442) x4_2.length co28 : Value).ownBlock)) (Kd.R_types (Kd.R_apart' (HO447.out) (Kd.N_typed HO_4.out) (by decide)) BK433.out (by decide)) (fun k_ hk => ⟨⟨hk.1.1.1, hk.2⟩, hk.1.2⟩))))); (case aB => exact z10_); (case aF => exact (fun k_ hk => ⟨(Nat.le_trans (below_size z10_) hk), Kd.freshB (g := gb433) (o := .cells #[.slice A0_0 l0_0.length c0_0, .slice (some ad441) l0_1.length c0_1] 81 (0, 0)) z29_ k_ hk⟩)); (case aO => exact (by (with_reducible repeat (first | apply Kd.N_alloc | apply Kd.N_drewN | apply Kd.N_drew)); exact Kd.N_mono HO_4.out (fun _ hk => ⟨hk.1.1, hk.1.2⟩))); (case aS => exact (below_size z10_)); (case aL => have := LMc27.out; omega); intro v450 w31 ho hb hg hat; rw [← Ny449.out] at ho; replace BK433 := Aside0.mk (blk_grown (g := gb433) (o := .cells #[.slice A0_0 l0_0.length c0_0, .slice (some ad441) l0_1.length c0_1] 81 (0, 0)) z29_ hg (Kd.N_ne HO_4.out BK433.out (by decide))); replace HL442_0 := Aside0.mk (Kd.V_afterv (ok := (fun k_ => (w.heap.size ≤ k_) ∧ some k_ ≠ (.slice Ao32 t443.length co32 : Value).ownBlock ∧ k_ ≠ gb433)) (by (with_reducible repeat (first | apply Kd.V_alloc | apply Kd.V_drewN | apply Kd.V_drew)); exact Kd.V_mono HL442_0.out (fun _ hk => ⟨⟨hk.1.1.1, ⟨hk.2, hk.1.1.2⟩⟩, hk.1.2⟩)) hg hat); replace HB := Aside0.mk (hb); have HO451 := Aside0.mk (ho); clear HO_4 HO447; clear ho hb hg hat))
         go_roundg k2
         case measure => have := HJ1.out; have := HK2.out; omega
         case rel => exact ⟨(y449), (wrap64 (x27_2 + 1)), z9_, H', ⟨by have := HJ1.out; have := HK2.out; omega⟩, ⟨by (with_reducible repeat (first | apply Kd.N_alloc | apply Kd.N_drewN | apply Kd.N_drew)); exact HO451.out⟩, ⟨z29_⟩, ⟨z10_⟩⟩
        ·replace c26 := Bool.eq_false_iff.mpr c26
         subst c26
         replace H := iff_ H
         simp only [Option.some.injEq, Prod.mk.injEq] at H
         obtain ⟨rfl, rfl⟩ := H
         have p441 : 0 ≤ (x27_2 : Int) := odt_
         have q441 : x27_2 < (l0_1.length : Int) := odt_
         obtain ⟨ad441, A441_0, c441_0, e441, hx441_0, hl441_0, hi441_0⟩ := at_L7 HR0_1.out x27_2 p441 q441
         cases e441
         replace hx441_0 := (HB.out.cell (World.block_lt_of_cell? w _ hx441_0)).trans hx441_0
         have HR441_0 := Aside0.mk hi441_0
         have HC441_0 := Aside0.mk hl441_0
         clear hi441_0 hl441_0
         replace p441 := eq_true p441
         replace q441 := eq_true q441
         obtain ⟨Ao33, co33, eo33⟩ := Kd.N_slice HO_4.out
         subst eo33
         have p442 : 0 ≤ (x27_2 : Int) := odt_
         have q442 : x27_2 < (x4_2.length : Int) := odt_
         obtain ⟨ad442, A442_0, c442_0, e442, hx442_0, hl442_0, hi442_0⟩ := at_L8 (Kd.N_reads' HO_4.out).2.2 x27_2 p442 q442
         cases e442
         obtain ⟨ce442, hce442, hMe442, hcc442⟩ := Kd.N_get HO_4.out [] x27_2 p442 z144_
         obtain ⟨ua442_0, uc442_0, rfl, ul442_0, ge442_0⟩ := Kd.FK_slice_open hMe442
         have hv442_0 := hcc442 0 _ rfl
         rw [Nat.add_zero, show ((Kd.slice 55 k55)).sz = 1 from rfl, Nat.mul_one] at hv442_0
         replace hv442_0 := Option.some.inj (hv442_0.symm.trans hx442_0)
         injection hv442_0 with hva_ hvn_ hvc_
         rw [hva_] at ge442_0
         rw [hvc_] at ul442_0
         have HL442_0 := Aside0.mk (show Kd.V k55 55 _ w.heap.size _ _ (rd_L8 x4_2 x27_2) from Kd.V_mk ul442_0 ge442_0)
         clear hva_ hvn_ hvc_ ge442_0 ul442_0
         clear hcc442 hce442
         have HR442_0 := Aside0.mk hi442_0
         have HC442_0 := Aside0.mk hl442_0
         clear hi442_0 hl442_0
         replace p442 := eq_true p442
         replace q442 := eq_true q442
         go_wp2_with (first | ((with_reducible refine gate_callee (f := 127) rfl ?_); refine goesL_ (some 38) rfl rfl Try.func127 (by kernel_rfl) rfl #[.slice A442_0 (rd_L8 x4_2 x27_2).length c442_0, .slice A441_0 (rd_L7 l0_1 x27_2).length c441_0] rfl z1_ ?_; (with_reducible refine (impl_ApplyAll.calls k2 _ _ (rd_L8 x4_2 x27_2) _ _ (rd_L7 l0_1 x27_2) t443 t444 t445 _ ?side1 ?side2 ?side3 ?side4 A23.out).mono ?_); (case side1 => exact z52_); (case side2 => exact HC442_0.out); (case side3 => exact z60_); (case side4 => exact HC441_0.out); rintro e w34 ⟨v446, rfl, ho0, hb⟩; refine ⟨_, rfl, ?_⟩; replace HO_4 := Aside0.mk (Kd.N_elder' z93_ (Kd.R_base ho0) hb); replace HL442_0 := Aside0.mk (Kd.V_elder' z87_ (Kd.R_base ho0) hb); have HO447 := Aside0.mk (Kd.R_lower (Kd.R_newM (M := fun k_ => (w.heap.size ≤ k_)) ho0 (below_size z10_) (fun k_ h_ => h_)) (below_size z10_)); replace BK433 := Aside0.mk (blk_below (g := gb433) (o := .cells #[.slice A0_0 l0_0.length c0_0, .slice (some ad441) l0_1.length c0_1] 81 (0, 0)) z29_ hb); replace HR442_0 := Aside0.mk (Kd.C_below z37_ hb); replace HB := Aside0.mk (below_step z10_ hb); (try clear hb ho0)) | (go_at_call 128; (with_reducible refine (impl_ScriptOk.calls k2 _ _ (rd_L7 l0_1 x27_2) false _ ?side1 ?side2 A25.out).mono ?_); (case side1 => exact z60_); (case side2 => exact HC441_0.out); rintro e w35 ⟨rfl, hb⟩; replace HO_4 := Aside0.mk (Kd.N_below z93_ hb); replace HL442_0 := Aside0.mk (Kd.V_below z87_ hb); replace HO447 := Aside0.mk (Kd.R_below z155_ hb); replace BK433 := Aside0.mk (blk_below (g := gb433) (o := .cells #[.slice A0_0 l0_0.length c0_0, .slice (some ad441) l0_1.length c0_1] 81 (0, 0)) z29_ hb); replace HR442_0 := Aside0.mk (Kd.C_below z37_ hb); replace HB := Aside0.mk (below_step z10_ hb); (try clear hb)))
         go_ret2
         exact ⟨_, z3_, z101_, z10_⟩
       ·rw [if_neg c24] at H
        have c24b0 : (t445 == 0) = false := beq_eq_false_iff_ne.mpr c24
        have c24b1 : (t445 != 0) = true := bne_iff_ne.mpr c24
        simp only [Option.some.injEq, Prod.mk.injEq] at H
        obtain ⟨rfl, rfl⟩ := H
        have p441 : 0 ≤ (x27_2 : Int) := odt_
        have q441 : x27_2 < (l0_1.length : Int) := odt_
        obtain ⟨ad441, A441_0, c441_0, e441, hx441_0, hl441_0, hi441_0⟩ := at_L7 HR0_1.out x27_2 p441 q441
        cases e441
        replace hx441_0 := (HB.out.cell (World.block_lt_of_cell? w _ hx441_0)).trans hx441_0
        have HR441_0 := Aside0.mk hi441_0
        have HC441_0 := Aside0.mk hl441_0
        clear hi441_0 hl441_0
        replace p441 := eq_true p441
        replace q441 := eq_true q441
        obtain ⟨Ao36, co36, eo36⟩ := Kd.N_slice HO_4.out
        subst eo36
        have p442 : 0 ≤ (x27_2 : Int) := odt_
        have q442 : x27_2 < (x4_2.length : Int) := odt_
        obtain ⟨ad442, A442_0, c442_0, e442, hx442_0, hl442_0, hi442_0⟩ := at_L8 (Kd.N_reads' HO_4.out).2.2 x27_2 p442 q442
        cases e442
        obtain ⟨ce442, hce442, hMe442, hcc442⟩ := Kd.N_get HO_4.out [] x27_2 p442 z144_
        obtain ⟨ua442_0, uc442_0, rfl, ul442_0, ge442_0⟩ := Kd.FK_slice_open hMe442
        have hv442_0 := hcc442 0 _ rfl
        rw [Nat.add_zero, show ((Kd.slice 55 k55)).sz = 1 from rfl, Nat.mul_one] at hv442_0
        replace hv442_0 := Option.some.inj (hv442_0.symm.trans hx442_0)
        injection hv442_0 with hva_ hvn_ hvc_
        rw [hva_] at ge442_0
        rw [hvc_] at ul442_0
        have HL442_0 := Aside0.mk (show Kd.V k55 55 _ w.heap.size _ _ (rd_L8 x4_2 x27_2) from Kd.V_mk ul442_0 ge442_0)
        clear hva_ hvn_ hvc_ ge442_0 ul442_0
        clear hcc442 hce442
        have HR442_0 := Aside0.mk hi442_0
        have HC442_0 := Aside0.mk hl442_0
        clear hi442_0 hl442_0
        replace p442 := eq_true p442
        replace q442 := eq_true q442
        go_wp2_with (first | ((with_reducible refine gate_callee (f := 127) rfl ?_); refine goesL_ (some 38) rfl rfl Try.func127 (by kernel_rfl) rfl #[.slice A442_0 (rd_L8 x4_2 x27_2).length c442_0, .slice A441_0 (rd_L7 l0_1 x27_2).length c441_0] rfl z1_ ?_; (with_reducible refine (impl_ApplyAll.calls k2 _ _ (rd_L8 x4_2 x27_2) _ _ (rd_L7 l0_1 x27_2) t443 t444 t445 _ ?side1 ?side2 ?side3 ?side4 A23.out).mono ?_); (case side1 => exact z52_); (case side2 => exact HC442_0.out); (case side3 => exact z60_); (case side4 => exact HC441_0.out); rintro e w37 ⟨v446, rfl, ho0, hb⟩; refine ⟨_, rfl, ?_⟩; replace HO_4 := Aside0.mk (Kd.N_elder' z93_ (Kd.R_base ho0) hb); replace HL442_0 := Aside0.mk (Kd.V_elder' z87_ (Kd.R_base ho0) hb); have HO447 := Aside0.mk (Kd.R_lower (Kd.R_newM (M := fun k_ => (w.heap.size ≤ k_)) ho0 (below_size z10_) (fun k_ h_ => h_)) (below_size z10_)); replace BK433 := Aside0.mk (blk_below (g := gb433) (o := .cells #[.slice A0_0 l0_0.length c0_0, .slice (some ad441) l0_1.length c0_1] 81 (0, 0)) z29_ hb); replace HR442_0 := Aside0.mk (Kd.C_below z37_ hb); replace HB := Aside0.mk (below_step z10_ hb); (try clear hb ho0)))
        go_ret2
        exact ⟨_, z3_, z101_, z10_⟩
      ·rw [if_neg c19] at H
       have c19b0 : decide (x27_2 < (l0_1.length : Int)) = false := decide_eq_false c19
       clear c19
       simp only [Option.some.injEq, Prod.mk.injEq] at H
       obtain ⟨rfl, rfl⟩ := H
       go_wp2
       go_ret2
       exact ⟨_, z3_, by (with_reducible repeat (first | apply Kd.N_alloc | apply Kd.N_drewN | apply Kd.N_drew)); exact Kd.N_mono HO_4.out (fun _ hk => hk.1), z10_⟩

/-! ### impl_HistOk: function 50 -/
def impl_HistOk.f (k : Nat) (l0_0 : List (S55)) (l0_1 : List (List (S148))) : Option (Bool) := (impl_Hist_trees.f k l0_0 l0_1).bind fun bt453 => (some bt453.2)
theorem impl_HistOk.mono : ∀ a0 a1 k, LeO (impl_HistOk.f k a0 a1) (impl_HistOk.f (k + 1) a0 a1) := by
 intro a0 a1 k
 unfold impl_HistOk.f
 repeat' first | (with_reducible first | exact impl_Hist_trees.mono _ _ _ | exact LeO.refl _ | exact LeO.none _ | refine LeO.ite ?_ ?_ | refine LeO.bind ?_ (fun _ => ?_)) | exact impl_Hist_trees.mono _ _ _ | exact LeO.none _ | refine LeO.ite ?_ ?_ | refine LeO.bind ?_ (fun _ => ?_)
set_option maxHeartbeats 8000000 in
set_option maxRecDepth 100000 in
theorem impl_HistOk.calls (k : Nat) (A0_0 : Option Addr) (c0_0 : Nat) (l0_0 : List (S55)) (A0_1 : Option Addr) (c0_1 : Nat) (l0_1 : List (List (S148))) (r : Bool) (w : World) (hr0_0 : Kd.C k55 w A0_0 l0_0.length l0_0) (hc0_0 : l0_0.length ≤ c0_0) (hr0_1 : Kd.C (Kd.slice 148 k148) w A0_1 l0_1.length l0_1) (hc0_1 : l0_1.length ≤ c0_1) (h : impl_HistOk.f k l0_0 l0_1 = some r) :
  Calls Try.prog 50 #[.agg #[.slice A0_0 l0_0.length c0_0, .slice A0_1 l0_1.length c0_1]] w fun e w' => e = .returned (.bool r) ∧ Below w.heap.size w w' := by
 have hu81 := Try.underlying81
 have HR0_0 := Aside0.mk hr0_0
 have HC0_0 := Aside0.mk hc0_0
 clear hr0_0 hc0_0
 have HR0_1 := Aside0.mk hr0_1
 have HC0_1 := Aside0.mk hc0_1
 clear hr0_1 hc0_1
 have HB := Aside0.mk (Below.refl w.heap.size w)
 have H : ((impl_Hist_trees.f k l0_0 l0_1).bind fun bt453 => (some bt453.2)) = some r := h
 clear h
 replace H := Option.bind_eq_some_iff.mp H
 obtain ⟨⟨t453, t456⟩, A20, H⟩ := H
 replace H : (some t456) = some r := H
 have A2 := Aside0.mk A20
 clear A20
 obtain rfl := Option.some.inj H
 go_enter Try.func50, Try.ntmps50
 go_wp2_with (first | ((with_reducible refine gate_dst (N := 1) rfl ?_); refine box_event ?hg (N := 1) ?hd (cs := #[.slice A0_0 l0_0.length c0_0, .slice A0_1 l0_1.length c0_1]) (t := 81) ?hr ?_; (case hd => rfl); (case hg => rfl); (case hr => exact z11_); intro gb452 hg w3 hbox hb; have BK452 := Aside0.mk (hbox); have GW452 := Aside0.mk ((by rw [hg]; exact (below_size z0_) : w.heap.size ≤ gb452)); have GE452 := Aside0.mk ((by rw [hg]; exact (below_size z0_) : w.heap.size ≤ gb452)); replace HB := Aside0.mk (below_step z0_ hb); clear hb hbox hg; have hcz4_0 : w3.cell? ⟨gb452, 0, none⟩ = some (.slice A0_0 l0_0.length c0_0) := (blk_cell BK452.out 0).trans rfl; have hcz4_1 : w3.cell? ⟨gb452, 1, none⟩ = some (.slice A0_1 l0_1.length c0_1) := (blk_cell BK452.out 1).trans rfl; have hfz4_0 := blk_frozen BK452.out 0; have hfz4_1 := blk_frozen BK452.out 1) | ((with_reducible refine gate_callee (f := 103) rfl ?_); refine goesL_ (some 7) rfl rfl Try.func103 (by kernel_rfl) rfl #[.agg #[.slice A0_0 l0_0.length c0_0, .slice A0_1 l0_1.length c0_1]] rfl z1_ ?_; (with_reducible refine (impl_Hist_trees.calls k _ _ l0_0 _ _ l0_1 t453 t456 _ ?side1 ?side2 ?side3 ?side4 A2.out).mono ?_); (case side1 => exact z12_); (case side2 => exact HC0_0.out); (case side3 => exact z5_); (case side4 => exact HC0_1.out); rintro e w5 ⟨v454, rfl, ho0, hb⟩; refine ⟨_, rfl, ?_⟩; have HO455 := Aside0.mk (Kd.N_lower (Kd.N_mono (ok' := fun k_ => k_ ≠ gb452) ho0 (fun k_ hk_ => (Kd.freshB (g := gb452) (o := .cells #[.slice A0_0 l0_0.length c0_0, .slice A0_1 l0_1.length c0_1] 81 (0, 0)) z145_ k_ hk_))) (below_size z97_)); replace BK452 := Aside0.mk (blk_below (g := gb452) (o := .cells #[.slice A0_0 l0_0.length c0_0, .slice A0_1 l0_1.length c0_1] 81 (0, 0)) z145_ hb); replace HB := Aside0.mk (below_step z97_ hb); (try clear hb ho0)))
 go_ret
 exact ⟨z3_, z97_⟩

/-! ### laws_eqNode: function 73 -/
def laws_eqNode.f (a0_0 : Int) (a0_1 : Int) (a1_0 : Int) (a1_1 : Int) : Option (Bool) := if a0_0 = a1_0 then (if a0_1 = a1_1 then (some true) else (some false)) else (some false)
set_option maxHeartbeats 8000000 in
set_option maxRecDepth 100000 in
theorem laws_eqNode.calls (a0_0 : Int) (a0_1 : Int) (a1_0 : Int) (a1_1 : Int) (r : Bool) (w : World) (h : laws_eqNode.f a0_0 a0_1 a1_0 a1_1 = some r) :
  Calls Try.prog 73 #[.agg #[.int .i64 a0_0, .int .i64 a0_1], .agg #[.int .i64 a1_0, .int .i64 a1_1]] w fun e w' => e = .returned (.bool r) ∧ Below w.heap.size w w' := by
 have hu55 := Try.underlying55
 have HB := Aside0.mk (Below.refl w.heap.size w)
 have H : (if a0_0 = a1_0 then (if a0_1 = a1_1 then (some true) else (some false)) else (some false)) = some r := h
 clear h
 by_cases c3 : a0_0 = a1_0
 ·rw [if_pos c3] at H
  have c3b0 : (a0_0 == a1_0) = true := beq_iff_eq.mpr c3
  have c3b1 : (a0_0 != a1_0) = false := bne_eq_false_iff_eq.mpr c3
  clear c3
  by_cases c4 : a0_1 = a1_1
  ·rw [if_pos c4] at H
   have c4b0 : (a0_1 == a1_1) = true := beq_iff_eq.mpr c4
   have c4b1 : (a0_1 != a1_1) = false := bne_eq_false_iff_eq.mpr c4
   clear c4
   obtain rfl := Option.some.inj H
   go_enter Try.func73, Try.ntmps73
   go_wp2_with (first | ((with_reducible refine gate_dst (N := 2) rfl ?_); refine box_event ?hg (N := 2) ?hd (cs := #[.int .i64 a0_0, .int .i64 a0_1]) (t := 55) ?hr ?_; (case hd => rfl); (case hg => rfl); (case hr => exact z11_); intro gb457 hg w5 hbox hb; have BK457 := Aside0.mk (hbox); have GW457 := Aside0.mk ((by rw [hg]; exact (below_size z0_) : w.heap.size ≤ gb457)); have GE457 := Aside0.mk ((by rw [hg]; exact (below_size z0_) : w.heap.size ≤ gb457)); replace HB := Aside0.mk (below_step z0_ hb); clear hb hbox hg) | ((with_reducible refine gate_dst (N := 3) rfl ?_); refine box_event ?hg (N := 3) ?hd (cs := #[.int .i64 a1_0, .int .i64 a1_1]) (t := 55) ?hr ?_; (case hd => rfl); (case hg => rfl); (case hr => exact z11_); intro gb458 hg w6 hbox hb; have BK458 := Aside0.mk (hbox); have GW458 := Aside0.mk ((by rw [hg]; exact (below_size z39_) : w.heap.size ≤ gb458)); have GE458 := Aside0.mk ((by rw [hg]; exact (below_size z39_) : w.heap.size ≤ gb458)); replace HB := Aside0.mk (below_step z39_ hb); have NB457_458 := Aside0.mk ((by rw [hg]; exact Nat.ne_of_lt (blk_lt (g := gb457) (o := .cells #[.int .i64 a0_0, .int .i64 a0_1] 55 (0, 0)) z50_) : gb457 ≠ gb458)); have NB458_457 := Aside0.mk ((by rw [hg]; exact Nat.ne_of_gt (blk_lt (g := gb457) (o := .cells #[.int .i64 a0_0, .int .i64 a0_1] 55 (0, 0)) z50_) : gb458 ≠ gb457)); replace BK457 := Aside0.mk (blk_below (g := gb457) (o := .cells #[.int .i64 a0_0, .int .i64 a0_1] 55 (0, 0)) z50_ hb); clear hb hbox hg; have hnb7 := NB457_458.out; have hnc7 := NB458_457.out; have hcz8_0 : w6.cell? ⟨gb457, 0, none⟩ = some (.int .i64 a0_0) := (blk_cell BK457.out 0).trans rfl; have hcz8_1 : w6.cell? ⟨gb457, 1, none⟩ = some (.int .i64 a0_1) := (blk_cell BK457.out 1).trans rfl; have hfz8_0 := blk_frozen BK457.out 0; have hfz8_1 := blk_frozen BK457.out 1; have hcz9_0 : w6.cell? ⟨gb458, 0, none⟩ = some (.int .i64 a1_0) := (blk_cell BK458.out 0).trans rfl; have hcz9_1 : w6.cell? ⟨gb458, 1, none⟩ = some (.int .i64 a1_1) := (blk_cell BK458.out 1).trans rfl; have hfz9_0 := blk_frozen BK458.out 0; have hfz9_1 := blk_frozen BK458.out 1))
   go_ret
   exact ⟨z3_, z82_⟩
  ·rw [if_neg c4] at H
   have c4b0 : (a0_1 == a1_1) = false := beq_eq_false_iff_ne.mpr c4
   have c4b1 : (a0_1 != a1_1) = true := bne_iff_ne.mpr c4
   obtain rfl := Option.some.inj H
   go_enter Try.func73, Try.ntmps73
   go_wp2_with (first | ((with_reducible refine gate_dst (N := 2) rfl ?_); refine box_event ?hg (N := 2) ?hd (cs := #[.int .i64 a0_0, .int .i64 a0_1]) (t := 55) ?hr ?_; (case hd => rfl); (case hg => rfl); (case hr => exact z11_); intro gb457 hg w10 hbox hb; have BK457 := Aside0.mk (hbox); have GW457 := Aside0.mk ((by rw [hg]; exact (below_size z0_) : w.heap.size ≤ gb457)); have GE457 := Aside0.mk ((by rw [hg]; exact (below_size z0_) : w.heap.size ≤ gb457)); replace HB := Aside0.mk (below_step z0_ hb); clear hb hbox hg) | ((with_reducible refine gate_dst (N := 3) rfl ?_); refine box_event ?hg (N := 3) ?hd (cs := #[.int .i64 a1_0, .int .i64 a1_1]) (t := 55) ?hr ?_; (case hd => rfl); (case hg => rfl); (case hr => exact z11_); intro gb458 hg w11 hbox hb; have BK458 := Aside0.mk (hbox); have GW458 := Aside0.mk ((by rw [hg]; exact (below_size z39_) : w.heap.size ≤ gb458)); have GE458 := Aside0.mk ((by rw [hg]; exact (below_size z39_) : w.heap.size ≤ gb458)); replace HB := Aside0.mk (below_step z39_ hb); have NB457_458 := Aside0.mk ((by rw [hg]; exact Nat.ne_of_lt (blk_lt (g := gb457) (o := .cells #[.int .i64 a0_0, .int .i64 a0_1] 55 (0, 0)) z50_) : gb457 ≠ gb458)); have NB458_457 := Aside0.mk ((by rw [hg]; exact Nat.ne_of_gt (blk_lt (g := gb457) (o := .cells #[.int .i64 a0_0, .int .i64 a0_1] 55 (0, 0)) z50_) : gb458 ≠ gb457)); replace BK457 := Aside0.mk (blk_below (g := gb457) (o := .cells #[.int .i64 a0_0, .int .i64 a0_1] 55 (0, 0)) z50_ hb); clear hb hbox hg; have hnb12 := NB457_458.out; have hnc12 := NB458_457.out; have hcz13_0 : w11.cell? ⟨gb457, 0, none⟩ = some (.int .i64 a0_0) := (blk_cell BK457.out 0).trans rfl; have hcz13_1 : w11.cell? ⟨gb457, 1, none⟩ = some (.int .i64 a0_1) := (blk_cell BK457.out 1).trans rfl; have hfz13_0 := blk_frozen BK457.out 0; have hfz13_1 := blk_frozen BK457.out 1; have hcz14_0 : w11.cell? ⟨gb458, 0, none⟩ = some (.int .i64 a1_0) := (blk_cell BK458.out 0).trans rfl; have hcz14_1 : w11.cell? ⟨gb458, 1, none⟩ = some (.int .i64 a1_1) := (blk_cell BK458.out 1).trans rfl; have hfz14_0 := blk_frozen BK458.out 0; have hfz14_1 := blk_frozen BK458.out 1))
   go_ret
   exact ⟨z3_, z82_⟩
 ·rw [if_neg c3] at H
  have c3b0 : (a0_0 == a1_0) = false := beq_eq_false_iff_ne.mpr c3
  have c3b1 : (a0_0 != a1_0) = true := bne_iff_ne.mpr c3
  obtain rfl := Option.some.inj H
  go_enter Try.func73, Try.ntmps73
  go_wp2_with (first | ((with_reducible refine gate_dst (N := 2) rfl ?_); refine box_event ?hg (N := 2) ?hd (cs := #[.int .i64 a0_0, .int .i64 a0_1]) (t := 55) ?hr ?_; (case hd => rfl); (case hg => rfl); (case hr => exact z11_); intro gb457 hg w15 hbox hb; have BK457 := Aside0.mk (hbox); have GW457 := Aside0.mk ((by rw [hg]; exact (below_size z0_) : w.heap.size ≤ gb457)); have GE457 := Aside0.mk ((by rw [hg]; exact (below_size z0_) : w.heap.size ≤ gb457)); replace HB := Aside0.mk (below_step z0_ hb); clear hb hbox hg) | ((with_reducible refine gate_dst (N := 3) rfl ?_); refine box_event ?hg (N := 3) ?hd (cs := #[.int .i64 a1_0, .int .i64 a1_1]) (t := 55) ?hr ?_; (case hd => rfl); (case hg => rfl); (case hr => exact z11_); intro gb458 hg w16 hbox hb; have BK458 := Aside0.mk (hbox); have GW458 := Aside0.mk ((by rw [hg]; exact (below_size z39_) : w.heap.size ≤ gb458)); have GE458 := Aside0.mk ((by rw [hg]; exact (below_size z39_) : w.heap.size ≤ gb458)); replace HB := Aside0.mk (below_step z39_ hb); have NB457_458 := Aside0.mk ((by rw [hg]; exact Nat.ne_of_lt (blk_lt (g := gb457) (o := .cells #[.int .i64 a0_0, .int .i64 a0_1] 55 (0, 0)) z50_) : gb457 ≠ gb458)); have NB458_457 := Aside0.mk ((by rw [hg]; exact Nat.ne_of_gt (blk_lt (g := gb457) (o := .cells #[.int .i64 a0_0, .int .i64 a0_1] 55 (0, 0)) z50_) : gb458 ≠ gb457)); replace BK457 := Aside0.mk (blk_below (g := gb457) (o := .cells #[.int .i64 a0_0, .int .i64 a0_1] 55 (0, 0)) z50_ hb); clear hb hbox hg; have hnb17 := NB457_458.out; have hnc17 := NB458_457.out; have hcz18_0 : w16.cell? ⟨gb457, 0, none⟩ = some (.int .i64 a0_0) := (blk_cell BK457.out 0).trans rfl; have hcz18_1 : w16.cell? ⟨gb457, 1, none⟩ = some (.int .i64 a0_1) := (blk_cell BK457.out 1).trans rfl; have hfz18_0 := blk_frozen BK457.out 0; have hfz18_1 := blk_frozen BK457.out 1; have hcz19_0 : w16.cell? ⟨gb458, 0, none⟩ = some (.int .i64 a1_0) := (blk_cell BK458.out 0).trans rfl; have hcz19_1 : w16.cell? ⟨gb458, 1, none⟩ = some (.int .i64 a1_1) := (blk_cell BK458.out 1).trans rfl; have hfz19_0 := blk_frozen BK458.out 0; have hfz19_1 := blk_frozen BK458.out 1))
  go_ret
  exact ⟨z3_, z82_⟩

end Go.Proofs.Ytmbhlfcpdbbogab.PFnExactHistOk
