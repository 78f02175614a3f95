/- Laid by a program of this session out of the kit's print for the law FnExactHistAt: what it says of the machine is proved here, function by function; each contract under the conditions that it names. -/
import Derived.Test.YtdapeboajjidmaaMFnExactHistAtx0
import Derived.Test.YtdapeboajjidmaaMFnExactHistAtx9
import Derived.Test.YtdapeboajjidmaaMFnExactHistAtx14
namespace Go.Proofs.Ytdapeboajjidmaa.PFnExactHistAt
open Go.RowKit Go.Proofs.YtdapeboajjidmaaW.PrintWords Go.Proofs.YtdapeboajjidmaaW.PrintLast Go.Proofs.YtdapeboajjidmaaW.PrintMore
attribute [local go_sem] max2_int min2_int max_two min_two max_three min_three max_four min_four   -- for this text's walks alone
set_option linter.unusedVariables false
set_option linter.unusedSimpArgs false

/-! ### slices_IndexFunc_Op: function 140 -/
def slices_IndexFunc_Op.l0 : Nat → List (S78) → Int → Int → Option (Int)
 | 0, _, _, _ => none
 | k + 1, x0, x7, x8 => if x8 < x7 then (if 0 ≤ x8 then (if x8 < (x0.length : Int) then ((impl_ScriptOk_lit1.f k ((rd_T78 x0 x8).f0) ((rd_T78 x0 x8).f1) ((rd_T78 x0 x8).f2) ((rd_T78 x0 x8).f3) ((rd_T78 x0 x8).f4)).bind fun t452 => (if t452 = true then (some x8) else (slices_IndexFunc_Op.l0 k x0 x7 (wrap64 (x8 + 1))))) else (none)) else (none)) else (some (-1))
def slices_IndexFunc_Op.f (k : Nat) (l0 : List (S78)) : Option (Int) := slices_IndexFunc_Op.l0 k l0 (l0.length : Int) 0
set_option maxHeartbeats 8000000 in
set_option maxRecDepth 100000 in
theorem slices_IndexFunc_Op.calls (k : Nat) (A0 : Option Addr) (c0 : Nat) (l0 : List (S78)) (r : Int) (w : World) (hr0 : Kd.C k78 w A0 l0.length l0) (hc0 : l0.length ≤ c0) (h : slices_IndexFunc_Op.f k l0 = some r) :
  Calls Try.prog 140 #[.slice A0 l0.length c0, .func (.func 129) #[] #[]] w fun e w' => e = .returned (.int .i64 r) ∧ Below w.heap.size w w' := by
 have hu78 := Try.underlying78
 have HR0 := Aside0.mk hr0
 have HC0 := Aside0.mk hc0
 clear hr0 hc0
 have HB := Aside0.mk (Below.refl w.heap.size w)
 have H : (slices_IndexFunc_Op.l0 k l0 (l0.length : Int) 0) = some r := h
 clear h
 have H' := Aside0.mk H
 clear H
 go_enter Try.func140, Try.ntmps140
 go_wp2
 go_loopg [8] k (fun kq v8 w' => ∃ (x8_1 : Int), v8 = .int .i64 x8_1 ∧ Aside0 (slices_IndexFunc_Op.l0 kq l0 (l0.length : Int) x8_1 = some r) ∧ Aside0 (kq ≤ k) ∧ Aside0 (Below w.heap.size w w'))
 case atStart => exact ⟨(0), z5_, H', ⟨Nat.le_refl _⟩, ⟨z0_⟩⟩
 case round =>
  clear H'
  try clear c1
  obtain ⟨x8_1, rfl, HA, HK1, HB⟩ := hrel
  cases gk with
  | zero => exact absurd HA.out (by simp [slices_IndexFunc_Op.l0])
  | succ k1 =>
   have H := HA.out
   clear HA
   simp only [slices_IndexFunc_Op.l0] at H
   by_cases c2 : x8_1 < (l0.length : Int)
   ·rw [if_pos c2] at H
    have c2b0 := decide_eq_true c2
    clear c2
    obtain ⟨c3b0, H⟩ := ifd_ H
    obtain ⟨c4b0, H⟩ := ifd_ H
    obtain ⟨t452, A5, H⟩ := bnd_ H
    by_cases c6 : t452 = true
    ·subst c6
     replace H := ift_ H
     obtain rfl := Option.some.inj H
     have p451 : 0 ≤ (x8_1 : Int) := odt_
     have q451 : x8_1 < (l0.length : Int) := odt_
     obtain ⟨ad451, A451_1, c451_1, e451, hx451_0, hx451_1, hx451_2, hx451_3, hx451_4, hl451_1, hi451_1⟩ := at_T78 HR0.out x8_1 p451 q451
     cases e451
     replace hx451_0 := (HB.out.cell (World.block_lt_of_cell? w _ hx451_0)).trans hx451_0
     replace hx451_1 := (HB.out.cell (World.block_lt_of_cell? w _ hx451_1)).trans hx451_1
     replace hx451_2 := (HB.out.cell (World.block_lt_of_cell? w _ hx451_2)).trans hx451_2
     replace hx451_3 := (HB.out.cell (World.block_lt_of_cell? w _ hx451_3)).trans hx451_3
     replace hx451_4 := (HB.out.cell (World.block_lt_of_cell? w _ hx451_4)).trans hx451_4
     have HR451_1 := Aside0.mk hi451_1
     have HC451_1 := Aside0.mk hl451_1
     clear hi451_1 hl451_1
     replace p451 := eq_true p451
     replace q451 := eq_true q451
     go_wp2_with (first | (go_at_call 129; (with_reducible refine (impl_ScriptOk_lit1.calls k1 ((rd_T78 l0 x8_1).f0) _ _ ((rd_T78 l0 x8_1).f1) ((rd_T78 l0 x8_1).f2) ((rd_T78 l0 x8_1).f3) ((rd_T78 l0 x8_1).f4) true _ ?side1 ?side2 A5.out).mono ?_); (case side1 => exact z117_); (case side2 => exact HC451_1.out); rintro e w7 ⟨rfl, hb⟩; replace HB := Aside0.mk (below_step z0_ hb); (try clear hb)))
     go_ret
     exact ⟨z3_, z0_⟩
    ·replace c6 := Bool.eq_false_iff.mpr c6
     subst c6
     replace H := iff_ H
     have H' := Aside0.mk H
     clear H
     have p451 : 0 ≤ (x8_1 : Int) := odt_
     have q451 : x8_1 < (l0.length : Int) := odt_
     obtain ⟨ad451, A451_1, c451_1, e451, hx451_0, hx451_1, hx451_2, hx451_3, hx451_4, hl451_1, hi451_1⟩ := at_T78 HR0.out x8_1 p451 q451
     cases e451
     replace hx451_0 := (HB.out.cell (World.block_lt_of_cell? w _ hx451_0)).trans hx451_0
     replace hx451_1 := (HB.out.cell (World.block_lt_of_cell? w _ hx451_1)).trans hx451_1
     replace hx451_2 := (HB.out.cell (World.block_lt_of_cell? w _ hx451_2)).trans hx451_2
     replace hx451_3 := (HB.out.cell (World.block_lt_of_cell? w _ hx451_3)).trans hx451_3
     replace hx451_4 := (HB.out.cell (World.block_lt_of_cell? w _ hx451_4)).trans hx451_4
     have HR451_1 := Aside0.mk hi451_1
     have HC451_1 := Aside0.mk hl451_1
     clear hi451_1 hl451_1
     replace p451 := eq_true p451
     replace q451 := eq_true q451
     go_wp2_with (first | (go_at_call 129; (with_reducible refine (impl_ScriptOk_lit1.calls k1 ((rd_T78 l0 x8_1).f0) _ _ ((rd_T78 l0 x8_1).f1) ((rd_T78 l0 x8_1).f2) ((rd_T78 l0 x8_1).f3) ((rd_T78 l0 x8_1).f4) false _ ?side1 ?side2 A5.out).mono ?_); (case side1 => exact z117_); (case side2 => exact HC451_1.out); rintro e w8 ⟨rfl, hb⟩; replace HB := Aside0.mk (below_step z0_ hb); (try clear hb)))
     go_roundg k1
     case measure => have := HK1.out; omega
     case rel => exact ⟨(wrap64 (x8_1 + 1)), z5_, H', ⟨z66_⟩, ⟨z0_⟩⟩
   ·rw [if_neg c2] at H
    have c2b0 := decide_eq_false c2
    clear c2
    obtain rfl := Option.some.inj H
    go_wp2
    go_ret
    exact ⟨z3_, z0_⟩

/-! ### slices_ContainsFunc_Op: function 128 -/
def slices_ContainsFunc_Op.f (k : Nat) (l0 : List (S78)) : Option (Bool) := (slices_IndexFunc_Op.f k l0).bind fun t453 => (some (decide (t453 ≥ 0)))
set_option maxHeartbeats 8000000 in
set_option maxRecDepth 100000 in
theorem slices_ContainsFunc_Op.calls (k : Nat) (A0 : Option Addr) (c0 : Nat) (l0 : List (S78)) (r : Bool) (w : World) (hr0 : Kd.C k78 w A0 l0.length l0) (hc0 : l0.length ≤ c0) (h : slices_ContainsFunc_Op.f k l0 = some r) :
  Calls Try.prog 128 #[.slice A0 l0.length c0, .func (.func 129) #[] #[]] w fun e w' => e = .returned (.bool r) ∧ Below w.heap.size w w' := by
 have HR0 := Aside0.mk hr0
 have HC0 := Aside0.mk hc0
 clear hr0 hc0
 have HB := Aside0.mk (Below.refl w.heap.size w)
 have H : ((slices_IndexFunc_Op.f k l0).bind fun t453 => (some (decide (t453 ≥ 0)))) = some r := h
 clear h
 obtain ⟨t453, A2, H⟩ := bnd_ H
 obtain rfl := Option.some.inj H
 go_enter Try.func128, Try.ntmps128
 go_wp2_with (first | ((with_reducible refine gate_callee (f := 140) rfl ?_); refine goesL_ (some 7) rfl rfl Try.func140 (by kernel_rfl) rfl #[.slice A0 l0.length c0, .func (.func 129) #[] #[]] rfl z1_ ?_; (with_reducible refine (slices_IndexFunc_Op.calls k _ _ l0 t453 _ ?side1 ?side2 A2.out).mono ?_); (case side1 => exact z19_); (case side2 => exact HC0.out); rintro e w3 ⟨rfl, hb⟩; refine ⟨_, rfl, ?_⟩; replace HB := Aside0.mk (below_step z0_ hb); (try clear hb)))
 go_ret
 exact ⟨z3_, z0_⟩

/-! ### impl_ScriptOk: function 104 -/
def impl_ScriptOk.f (k : Nat) (l0 : List (S78)) : Option (Bool) := if (l0.length : Int) ≤ 60 then ((slices_ContainsFunc_Op.f k l0).bind fun t454 => (some (!t454))) else (some false)
set_option maxHeartbeats 8000000 in
set_option maxRecDepth 100000 in
theorem impl_ScriptOk.calls (k : Nat) (A0 : Option Addr) (c0 : Nat) (l0 : List (S78)) (r : Bool) (w : World) (hr0 : Kd.C k78 w A0 l0.length l0) (hc0 : l0.length ≤ c0) (h : impl_ScriptOk.f k l0 = some r) :
  Calls Try.prog 104 #[.slice A0 l0.length c0] w fun e w' => e = .returned (.bool r) ∧ Below w.heap.size w w' := by
 have HR0 := Aside0.mk hr0
 have HC0 := Aside0.mk hc0
 clear hr0 hc0
 have HB := Aside0.mk (Below.refl w.heap.size w)
 have H : (if (l0.length : Int) ≤ 60 then ((slices_ContainsFunc_Op.f k l0).bind fun t454 => (some (!t454))) else (some false)) = some r := h
 clear h
 by_cases c2 : (l0.length : Int) ≤ 60
 ·rw [if_pos c2] at H
  have c2b0 := decide_eq_true c2
  have c2b1 : decide (l0.length ≤ 60) = true := decide_eq_true (by omega)
  clear c2
  obtain ⟨t454, A3, H⟩ := bnd_ H
  obtain rfl := Option.some.inj H
  go_enter Try.func104, Try.ntmps104
  go_wp2_with (first | (go_at_call 128; (with_reducible refine (slices_ContainsFunc_Op.calls k _ _ l0 t454 _ ?side1 ?side2 A3.out).mono ?_); (case side1 => exact z19_); (case side2 => exact HC0.out); rintro e w4 ⟨rfl, hb⟩; replace HB := Aside0.mk (below_step z0_ hb); (try clear hb)))
  go_ret
  exact ⟨z3_, z0_⟩
 ·rw [if_neg c2] at H
  have c2b0 := decide_eq_false c2
  have c2b1 : decide (l0.length ≤ 60) = false := decide_eq_false (by omega)
  clear c2
  obtain rfl := Option.some.inj H
  go_enter Try.func104, Try.ntmps104
  go_wp2
  go_ret
  exact ⟨z3_, z0_⟩

/-! ### impl_Hist_trees: function 62 -/
mutual
def impl_Hist_trees.j0 : Nat → Bool → List (S80) → List (List (S78)) → Option ((List (List (S80))) × Bool)
 | 0, _, _, _ => none
 | k + 1, x19, x456000, x456001 => if x19 = true then (some (([] : List (List (S80))), false)) else ((slices_Clone_Node.f x456000).bind fun t457 => (impl_Hist_trees.l0 k (([t457] : List (List (S80)))) x456001 (x456001.length : Int) 0))
def impl_Hist_trees.l0 : Nat → List (List (S80)) → List (List (S78)) → Int → Int → Option ((List (List (S80))) × Bool)
 | 0, _, _, _, _ => none
 | k + 1, x4, x25, x26, x27 => if x27 < x26 then (if 0 ≤ x27 then (if x27 < (x25.length : Int) then (if x27 < (x4.length : Int) then ((impl_ApplyAll.f k (rd_L8 x4 x27) (rd_L7 x25 x27)).bind fun bt465 => (if bt465.2.2 = 0 then ((impl_ScriptOk.f k (rd_L7 x25 x27)).bind fun t470 => (if t470 = true then (if x4.length < 5864062014805 then (impl_Hist_trees.l0 k (x4 ++ [bt465.1]) x25 x26 (wrap64 (x27 + 1))) else (none)) else (some (([] : List (List (S80))), false)))) else (some (([] : List (List (S80))), false)))) else (none)) else (none)) else (none)) else (some (x4, true))
end
def impl_Hist_trees.f (k : Nat) (l0_0 : List (S80)) (l0_1 : List (List (S78))) : Option ((List (List (S80))) × Bool) := (impl_TreeOk.f k l0_0).bind fun t456 => (if t456 = true then (impl_Hist_trees.j0 k (decide ((l0_1.length : Int) > 6)) l0_0 l0_1) else (impl_Hist_trees.j0 k true l0_0 l0_1))
set_option maxHeartbeats 8000000 in
set_option maxRecDepth 100000 in
theorem impl_Hist_trees.calls (k : Nat) (A0_0 : Option Addr) (c0_0 : Nat) (l0_0 : List (S80)) (A0_1 : Option Addr) (c0_1 : Nat) (l0_1 : List (List (S78))) (r1 : List (List (S80))) (r2 : Bool) (w : World) (hr0_0 : Kd.C k80 w A0_0 l0_0.length l0_0) (hc0_0 : l0_0.length ≤ c0_0) (hr0_1 : Kd.C (Kd.slice 78 k78) w A0_1 l0_1.length l0_1) (hc0_1 : l0_1.length ≤ c0_1) (h : impl_Hist_trees.f k l0_0 l0_1 = some (r1, r2)) :
  Calls Try.prog 62 #[.agg #[.slice A0_0 l0_0.length c0_0, .slice A0_1 l0_1.length c0_1]] w fun e w' => ∃ v0_ : Value, e = .returned (.tuple #[v0_, .bool r2]) ∧ Kd.R (Kd.slice 80 k80) 29 w' w.heap.size (fun k_ => (w.heap.size ≤ k_)) v0_ r1 ∧ Below w.heap.size w w' := by
 have hu44 := Try.underlying44
 have HR0_0 := Aside0.mk hr0_0
 have HC0_0 := Aside0.mk hc0_0
 clear hr0_0 hc0_0
 have HR0_1 := Aside0.mk hr0_1
 have HC0_1 := Aside0.mk hc0_1
 clear hr0_1 hc0_1
 have HB := Aside0.mk (Below.refl w.heap.size w)
 have H : ((impl_TreeOk.f k l0_0).bind fun t456 => (if t456 = true then (impl_Hist_trees.j0 k (decide ((l0_1.length : Int) > 6)) l0_0 l0_1) else (impl_Hist_trees.j0 k true l0_0 l0_1))) = some (r1, r2) := h
 clear h
 have HC2 := Aside0.mk H
 clear H
 go_enter Try.func62, Try.ntmps62
 go_upto_region 1 with (first | ((with_reducible refine gate_dst (N := 1) rfl ?_); (try (refine gate_guard (by rfl) ?_; dsimp only)); refine box_event ?hg (N := 1) ?hd (cs := #[.slice A0_0 l0_0.length c0_0, .slice A0_1 l0_1.length c0_1]) (t := 44) ?hr ?_; (case hd => rfl); (case hg => rfl); (case hr => exact z9_); intro gb455 hg w3 hbox hb; have BK455 := Aside0.mk (hbox); have GW455 := Aside0.mk ((by rw [hg]; exact (below_size z0_) : w.heap.size ≤ gb455)); have GE455 := Aside0.mk ((by rw [hg]; exact (below_size z0_) : w.heap.size ≤ gb455)); replace HB := Aside0.mk (below_step z0_ hb); clear hb hbox hg))
 (try simp only [Act.put, List.setIfInBounds_toArray, List.set_cons_zero, List.set_cons_succ])
 go_cut [19] (fun v19 wc => ∃ (kq : Nat) (x19_1 : Bool), v19 = .bool x19_1 ∧ Aside0 (impl_Hist_trees.j0 kq x19_1 l0_0 l0_1 = some (r1, r2)) ∧ Aside0 (kq ≤ k) ∧ Aside0 (wc.heap[gb455]? = some (.cells #[(.slice A0_0 l0_0.length c0_0), (.slice A0_1 l0_1.length c0_1)] 44 (0, 0))) ∧ Aside0 (Below w.heap.size w wc))
 case first =>
  have H := HC2.out
  clear HC2
  obtain ⟨t456, A4, H⟩ := bnd_ H
  by_cases c5 : t456 = true
  ·subst c5
   replace H := ift_ H
   have H' := Aside0.mk H
   clear H
   obtain ⟨hcz6_0, hcz6_1, hfz6_0, hfz6_1⟩ := bx2_ BK455.out
   go_wp2_with (first | ((with_reducible refine gate_callee (f := 50) rfl ?_); refine goesL_ (some 12) rfl rfl Try.func50 (by kernel_rfl) rfl #[.slice A0_0 l0_0.length c0_0] rfl z1_ ?_; (with_reducible refine (impl_TreeOk.calls k _ _ l0_0 true _ ?side1 ?side2 A4.out).mono ?_); (case side1 => exact z12_); (case side2 => exact HC0_0.out); rintro e w7 ⟨rfl, hb⟩; refine ⟨_, rfl, ?_⟩; replace BK455 := Aside0.mk (blk_below (g := gb455) (o := .cells #[.slice A0_0 l0_0.length c0_0, .slice A0_1 l0_1.length c0_1] 44 (0, 0)) z31_ hb); replace HB := Aside0.mk (below_step z10_ hb); (try clear hb); obtain ⟨hcz8_0, hcz8_1, hfz8_0, hfz8_1⟩ := bx2_ BK455.out))
   go_meet
   case rel => exact ⟨_, (decide ((l0_1.length : Int) > 6)), z5_, H', ⟨z101_⟩, ⟨z31_⟩, ⟨z10_⟩⟩
  ·replace c5 := Bool.eq_false_iff.mpr c5
   subst c5
   replace H := iff_ H
   have H' := Aside0.mk H
   clear H
   obtain ⟨hcz9_0, hcz9_1, hfz9_0, hfz9_1⟩ := bx2_ BK455.out
   go_wp2_with (first | ((with_reducible refine gate_callee (f := 50) rfl ?_); refine goesL_ (some 12) rfl rfl Try.func50 (by kernel_rfl) rfl #[.slice A0_0 l0_0.length c0_0] rfl z1_ ?_; (with_reducible refine (impl_TreeOk.calls k _ _ l0_0 false _ ?side1 ?side2 A4.out).mono ?_); (case side1 => exact z12_); (case side2 => exact HC0_0.out); rintro e w10 ⟨rfl, hb⟩; refine ⟨_, rfl, ?_⟩; replace BK455 := Aside0.mk (blk_below (g := gb455) (o := .cells #[.slice A0_0 l0_0.length c0_0, .slice A0_1 l0_1.length c0_1] 44 (0, 0)) z31_ hb); replace HB := Aside0.mk (below_step z10_ hb); (try clear hb)))
   go_meet
   case rel => exact ⟨_, (true), z5_, H', ⟨z101_⟩, ⟨z31_⟩, ⟨z10_⟩⟩
 case rest =>
  clear HC2
  try clear p2
  try clear c5
  try clear c6
  try clear hcz6_0
  try clear hcz6_1
  try clear hcz8_0
  try clear hcz8_1
  try clear hcz9_0
  try clear hcz9_1
  try clear hfz6_0
  try clear hfz6_1
  try clear hfz8_0
  try clear hfz8_1
  try clear hfz9_0
  try clear hfz9_1
  obtain ⟨kq, x19_1, rfl, HA, HJ1, BK455, HB⟩ := hcut
  cases kq with
  | zero => exact absurd HA.out (by simp [impl_Hist_trees.j0])
  | succ kj1 =>
   have H := HA.out
   clear HA
   simp only [impl_Hist_trees.j0] at H
   by_cases c11 : x19_1 = true
   ·subst c11
    replace H := ift_ H
    simp only [Option.some.injEq, Prod.mk.injEq] at H
    obtain ⟨rfl, rfl⟩ := H
    go_wp2
    go_ret2
    exact ⟨_, z3_, z102_, z10_⟩
   ·replace c11 := Bool.eq_false_iff.mpr c11
    subst c11
    replace H := iff_ H
    obtain ⟨t457, A12, H⟩ := bnd_ H
    first | ((with_reducible have hz_ := gy_ H); obtain ⟨y460, Ny460, H⟩ := hz_) | (generalize hy_ : ((([t457] : List (List (S80)))) : List (List (S80))) = y460 at H; have Ny460 := Aside0.mk hy_.symm; clear hy_)
    have H' := Aside0.mk H
    clear H
    obtain ⟨hcz13_0, hcz13_1, hfz13_0, hfz13_1⟩ := bx2_ BK455.out
    go_wp2_with (first | ((with_reducible refine gate_callee (f := 75) rfl ?_); refine goesL_ (some 22) rfl rfl Try.func75 (by kernel_rfl) rfl #[.slice A0_0 l0_0.length c0_0] rfl z1_ ?_; (with_reducible refine (slices_Clone_Node.calls _ _ l0_0 t457 _ ?side1 ?side2 A12.out).mono ?_); (case side1 => exact z12_); (case side2 => exact HC0_0.out); rintro e w14 ⟨v458, rfl, ho0, hb⟩; refine ⟨_, rfl, ?_⟩; have HO459 := Aside0.mk (Kd.R_lower (Kd.R_newM (M := fun k_ => (w.heap.size ≤ k_)) ho0 (below_size z10_) (fun k_ h_ => h_)) (below_size z10_)); replace BK455 := Aside0.mk (blk_below (g := gb455) (o := .cells #[.slice A0_0 l0_0.length c0_0, .slice A0_1 l0_1.length c0_1] 44 (0, 0)) z31_ hb); replace HB := Aside0.mk (below_step z10_ hb); (try clear hb ho0); obtain ⟨Ao15, co15, eo15⟩ := Kd.R_slice HO459.out; subst eo15) | ((with_reducible refine gate_dst (N := 23) rfl ?_); (try (refine gate_guard (by rfl) ?_; dsimp only)); refine Kd.R_lit (Kd.slice 80 k80) w.heap.size 29 ?hg (N := 23) ?hd (xs := ([t457] : List (List (S80)))) (inner := [.slice Ao15 t457.length co15]) (ok := (fun k_ => (w.heap.size ≤ k_) ∧ k_ ≠ gb455)) (okp := (fun k_ => (w.heap.size ≤ k_) ∧ k_ ≠ gb455)) ?hr ?hp (fun _ hk => hk) ((show ∀ k_, w14.heap.size ≤ k_ → (fun k_ => (w.heap.size ≤ k_) ∧ k_ ≠ gb455) k_ from fun k_ hk => ⟨(Nat.le_trans (below_size z10_) hk), Kd.freshB (g := gb455) (o := .cells #[.slice A0_0 l0_0.length c0_0, .slice A0_1 l0_1.length c0_1] 44 (0, 0)) z31_ k_ hk⟩) _ (Nat.le_refl _)) (Below.refl _ _) (below_size z10_) (by simp) ?_; (case hd => rfl); (case hg => rfl); (case hr => exact z9_); (case hp => exact (Reps.one (show (Kd.slice 80 k80).M _ _ _ t457 [.slice Ao15 t457.length co15] from ⟨_, rfl, (Kd.R_mono (ok' := (fun k_ => (w.heap.size ≤ k_) ∧ k_ ≠ gb455)) (Kd.R_types (HO459.out) BK455.out (by decide)) (fun k_ hk => ⟨hk.1.1, hk.2⟩))⟩) (Reps.none _ _))); intro v461 w16 ho17 hb0_ hg_ hnew_; have hb := (⟨hb0_.os, hb0_.tape, hb0_.output, hb0_.size, fun k_ hk_ => hg_.block k_ hk_ (fun e_ => nomatch e_)⟩ : Below _ _ _); clear hb0_ hg_ hnew_; (first | rw [← Ny460.out] at ho17 | (simp only [Int.reduceToNat] at ho17; rw [← Ny460.out] at ho17)); have HO462 := Aside0.mk (ho17); replace BK455 := Aside0.mk (blk_below (g := gb455) (o := .cells #[.slice A0_0 l0_0.length c0_0, .slice A0_1 l0_1.length c0_1] 44 (0, 0)) z31_ hb); replace HB := Aside0.mk (below_step z10_ hb); clear HO459; clear hb ho17; obtain ⟨hcz18_0, hcz18_1, hfz18_0, hfz18_1⟩ := bx2_ BK455.out))
    go_loopg [4, 27] kj1 (fun kq v4 v27 w' => ∃ (x4_2 : List (List (S80))) (x27_2 : Int), v27 = .int .i64 x27_2 ∧ Aside0 (impl_Hist_trees.l0 kq x4_2 l0_1 (l0_1.length : Int) x27_2 = some (r1, r2)) ∧ Aside0 (kq ≤ kj1) ∧ Aside0 (Kd.R (Kd.slice 80 k80) 29 w' w.heap.size (fun k_ => (w.heap.size ≤ k_) ∧ k_ ≠ gb455) v4 x4_2) ∧ Aside0 (w'.heap[gb455]? = some (.cells #[(.slice A0_0 l0_0.length c0_0), (.slice A0_1 l0_1.length c0_1)] 44 (0, 0))) ∧ Aside0 (Below w.heap.size w w'))
    case atStart => exact ⟨(y460), (0), z5_, H', ⟨Nat.le_refl _⟩, ⟨by (with_reducible repeat (first | apply Kd.R_alloc | apply Kd.R_drewN | apply Kd.R_drew)); exact HO462.out⟩, ⟨z31_⟩, ⟨z10_⟩⟩
    case round =>
     clear H'
     try clear c1
     try clear p2
     try clear c5
     try clear c6
     try clear c7
     try clear c11
     try clear hcz13_0
     try clear hcz13_1
     try clear hcz18_0
     try clear hcz18_1
     try clear hcz6_0
     try clear hcz6_1
     try clear hcz8_0
     try clear hcz8_1
     try clear hcz9_0
     try clear hcz9_1
     try clear hfz13_0
     try clear hfz13_1
     try clear hfz18_0
     try clear hfz18_1
     try clear hfz6_0
     try clear hfz6_1
     try clear hfz8_0
     try clear hfz8_1
     try clear hfz9_0
     try clear hfz9_1
     try clear p2
     obtain ⟨x4_2, x27_2, rfl, HA, HK2, HO_4, BK455, HB⟩ := hrel
     cases gk with
     | zero => exact absurd HA.out (by simp [impl_Hist_trees.l0])
     | succ k2 =>
      have H := HA.out
      clear HA
      simp only [impl_Hist_trees.l0] at H
      by_cases c19 : x27_2 < (l0_1.length : Int)
      ·rw [if_pos c19] at H
       have c19b0 := decide_eq_true c19
       clear c19
       obtain ⟨c20b0, H⟩ := ifd_ H
       obtain ⟨c21b0, H⟩ := ifd_ H
       obtain ⟨c22b0, H⟩ := ifd_ H
       replace H := Option.bind_eq_some_iff.mp H
       obtain ⟨⟨t465, t466, t467⟩, A230, H⟩ := H
       try dsimp only at H
       have A23 := Aside0.mk A230
       clear A230
       by_cases c24 : t467 = 0
       ·rw [if_pos c24] at H
        have c24b0 : (t467 == 0) = true := beq_iff_eq.mpr c24
        have c24b1 : (t467 != 0) = false := bne_eq_false_iff_eq.mpr c24
        clear c24
        obtain ⟨t470, A25, H⟩ := bnd_ H
        by_cases c26 : t470 = true
        ·subst c26
         replace H := ift_ H
         obtain ⟨c27, H⟩ := ifs_ H
         have LMc27 := Aside0.mk c27
         clear c27
         first | ((with_reducible have hz_ := gy_ H); obtain ⟨y471, Ny471, H⟩ := hz_) | (generalize hy_ : ((x4_2 ++ [t465]) : List (List (S80))) = y471 at H; have Ny471 := Aside0.mk hy_.symm; clear hy_)
         have H' := Aside0.mk H
         clear H
         have p463 : 0 ≤ (x27_2 : Int) := odt_
         have q463 : x27_2 < (l0_1.length : Int) := odt_
         obtain ⟨ad463, A463_0, c463_0, e463, hx463_0, hl463_0, hi463_0⟩ := at_L7 HR0_1.out x27_2 p463 q463
         cases e463
         replace hx463_0 := (HB.out.cell (World.block_lt_of_cell? w _ hx463_0)).trans hx463_0
         have HR463_0 := Aside0.mk hi463_0
         have HC463_0 := Aside0.mk hl463_0
         clear hi463_0 hl463_0
         replace p463 := eq_true p463
         replace q463 := eq_true q463
         obtain ⟨Ao28, co28, eo28⟩ := Kd.R_slice HO_4.out
         subst eo28
         have p464 : 0 ≤ (x27_2 : Int) := odt_
         have q464 : x27_2 < (x4_2.length : Int) := odt_
         obtain ⟨ad464, A464_0, c464_0, e464, hx464_0, hl464_0, hi464_0⟩ := at_L8 (Kd.N_reads' (Kd.R_N HO_4.out)).2.2 x27_2 p464 q464
         cases e464
         obtain ⟨ce464, hce464, hMe464, hcc464⟩ := Kd.N_get (Kd.R_N HO_4.out) [] x27_2 p464 z139_
         obtain ⟨ua464_0, uc464_0, rfl, ul464_0, ge464_0⟩ := Kd.FK_slice_open hMe464
         have hv464_0 := hcc464 0 _ rfl
         rw [Nat.add_zero, show ((Kd.slice 80 k80)).sz = 1 from rfl, Nat.mul_one] at hv464_0
         replace hv464_0 := Option.some.inj (hv464_0.symm.trans hx464_0)
         injection hv464_0 with hva_ hvn_ hvc_
         rw [hva_] at ge464_0
         rw [hvc_] at ul464_0
         have HL464_0 := Aside0.mk (show Kd.V k80 80 _ w.heap.size _ _ (rd_L8 x4_2 x27_2) from Kd.V_mk ul464_0 ge464_0)
         clear hva_ hvn_ hvc_ ge464_0 ul464_0
         clear hcc464 hce464
         have HR464_0 := Aside0.mk hi464_0
         have HC464_0 := Aside0.mk hl464_0
         clear hi464_0 hl464_0
         replace p464 := eq_true p464
         replace q464 := eq_true q464
         go_wp2_with (first | ((with_reducible refine gate_callee (f := 35) rfl ?_); refine goesL_ (some 38) rfl rfl Try.func35 (by kernel_rfl) rfl #[.slice A464_0 (rd_L8 x4_2 x27_2).length c464_0, .slice A463_0 (rd_L7 l0_1 x27_2).length c463_0] rfl z1_ ?_; (with_reducible refine (impl_ApplyAll.calls k2 _ _ (rd_L8 x4_2 x27_2) _ _ (rd_L7 l0_1 x27_2) t465 t466 t467 _ ?side1 ?side2 ?side3 ?side4 A23.out).mono ?_); (case side1 => exact z53_); (case side2 => exact HC464_0.out); (case side3 => exact z60_); (case side4 => exact HC463_0.out); rintro e w29 ⟨v468, rfl, ho0, hb⟩; refine ⟨_, rfl, ?_⟩; replace HO_4 := Aside0.mk (Kd.R_elder' z93_ (Kd.R_base ho0) hb); replace HL464_0 := Aside0.mk (Kd.V_elder' z88_ (Kd.R_base ho0) hb); have HO469 := Aside0.mk (Kd.R_lower (Kd.R_newM (M := fun k_ => (w.heap.size ≤ k_)) ho0 (below_size z10_) (fun k_ h_ => h_)) (below_size z10_)); replace BK455 := Aside0.mk (blk_below (g := gb455) (o := .cells #[.slice A0_0 l0_0.length c0_0, .slice (some ad463) l0_1.length c0_1] 44 (0, 0)) z31_ hb); replace HR464_0 := Aside0.mk (Kd.C_below z37_ hb); replace HB := Aside0.mk (below_step z10_ hb); (try clear hb ho0)) | (go_at_call 104; (with_reducible refine (impl_ScriptOk.calls k2 _ _ (rd_L7 l0_1 x27_2) true _ ?side1 ?side2 A25.out).mono ?_); (case side1 => exact z60_); (case side2 => exact HC463_0.out); rintro e w30 ⟨rfl, hb⟩; replace HO_4 := Aside0.mk (Kd.R_below z93_ hb); replace HL464_0 := Aside0.mk (Kd.V_below z88_ hb); replace HO469 := Aside0.mk (Kd.R_below z154_ hb); replace BK455 := Aside0.mk (blk_below (g := gb455) (o := .cells #[.slice A0_0 l0_0.length c0_0, .slice (some ad463) l0_1.length c0_1] 44 (0, 0)) z31_ hb); replace HR464_0 := Aside0.mk (Kd.C_below z37_ hb); replace HB := Aside0.mk (below_step z10_ hb); (try clear hb); obtain ⟨Ao32, co32, eo32⟩ := Kd.R_slice HO469.out; subst eo32) | ((with_reducible refine gate_builtin (b := .append) (xs := #[.tmp 49, .tmp 51]) rfl ?_); (try (refine gate_guard (by rfl) ?_; dsimp only)); at_builtin; refine Kd.R_append (Kd.slice 80 k80) (w0 := w) w.heap.size rfl (.tmp 49) (.tmp 51) 92 29 (.slice none 0 0) 24 rfl Try.underlying92 info29 rfl (by decide) (by omega) (.slice (some ad464) x4_2.length co28) x4_2 t465 [.slice Ao32 t465.length co32] (fun k_ => (w.heap.size ≤ k_) ∧ k_ ≠ gb455) (fun k_ => ((fun k_ => (w.heap.size ≤ k_) ∧ k_ ≠ gb455)) k_ ∧ some k_ ≠ (.slice (some ad464) x4_2.length co28 : Value).ownBlock) rfl rfl ?aP (fun _ hk => hk) ?aF ?aO ?aB ?aS ?aL ?_; (case aP => exact ⟨_, rfl, (Kd.R_mono (ok' := (fun k_ => ((fun k_ => (w.heap.size ≤ k_) ∧ k_ ≠ gb455)) k_ ∧ some k_ ≠ (.slice (some ad464) x4_2.length co28 : Value).ownBlock)) (Kd.R_types (Kd.R_apart' (HO469.out) (Kd.R_typed HO_4.out) (by decide)) BK455.out (by decide)) (fun k_ hk => ⟨⟨hk.1.1.1, hk.2⟩, hk.1.2⟩))⟩); (case aB => exact z10_); (case aF => exact (fun k_ hk => ⟨(Nat.le_trans (below_size z10_) hk), Kd.freshB (g := gb455) (o := .cells #[.slice A0_0 l0_0.length c0_0, .slice (some ad463) l0_1.length c0_1] 44 (0, 0)) z31_ k_ hk⟩)); (case aO => exact (by (with_reducible repeat (first | apply Kd.R_alloc | apply Kd.R_drewN | apply Kd.R_drew)); exact Kd.R_mono HO_4.out (fun _ hk => ⟨hk.1.1, hk.1.2⟩))); (case aS => exact (below_size z10_)); (case aL => have := LMc27.out; omega); intro v472 w31 ho hb hg hat; rw [← Ny471.out] at ho; replace BK455 := Aside0.mk (blk_grown (g := gb455) (o := .cells #[.slice A0_0 l0_0.length c0_0, .slice (some ad463) l0_1.length c0_1] 44 (0, 0)) z31_ hg (Kd.R_ne HO_4.out BK455.out (by decide))); replace HL464_0 := Aside0.mk (Kd.V_afterv (ok := (fun k_ => (w.heap.size ≤ k_) ∧ some k_ ≠ (.slice Ao32 t465.length co32 : Value).ownBlock ∧ k_ ≠ gb455)) (by (with_reducible repeat (first | apply Kd.V_alloc | apply Kd.V_drewN | apply Kd.V_drew)); exact Kd.V_mono HL464_0.out (fun _ hk => ⟨⟨hk.1.1.1, ⟨hk.2, hk.1.1.2⟩⟩, hk.1.2⟩)) hg hat); replace HB := Aside0.mk (hb); have HO473 := Aside0.mk (ho); clear HO_4 HO469; clear ho hb hg hat))
         go_roundg k2
         case measure => have := HJ1.out; have := HK2.out; omega
         case rel => exact ⟨(y471), (wrap64 (x27_2 + 1)), z5_, H', ⟨by have := HJ1.out; have := HK2.out; omega⟩, ⟨by (with_reducible repeat (first | apply Kd.R_alloc | apply Kd.R_drewN | apply Kd.R_drew)); exact HO473.out⟩, ⟨z31_⟩, ⟨z10_⟩⟩
        ·replace c26 := Bool.eq_false_iff.mpr c26
         subst c26
         replace H := iff_ H
         simp only [Option.some.injEq, Prod.mk.injEq] at H
         obtain ⟨rfl, rfl⟩ := H
         have p463 : 0 ≤ (x27_2 : Int) := odt_
         have q463 : x27_2 < (l0_1.length : Int) := odt_
         obtain ⟨ad463, A463_0, c463_0, e463, hx463_0, hl463_0, hi463_0⟩ := at_L7 HR0_1.out x27_2 p463 q463
         cases e463
         replace hx463_0 := (HB.out.cell (World.block_lt_of_cell? w _ hx463_0)).trans hx463_0
         have HR463_0 := Aside0.mk hi463_0
         have HC463_0 := Aside0.mk hl463_0
         clear hi463_0 hl463_0
         replace p463 := eq_true p463
         replace q463 := eq_true q463
         obtain ⟨Ao33, co33, eo33⟩ := Kd.R_slice HO_4.out
         subst eo33
         have p464 : 0 ≤ (x27_2 : Int) := odt_
         have q464 : x27_2 < (x4_2.length : Int) := odt_
         obtain ⟨ad464, A464_0, c464_0, e464, hx464_0, hl464_0, hi464_0⟩ := at_L8 (Kd.N_reads' (Kd.R_N HO_4.out)).2.2 x27_2 p464 q464
         cases e464
         obtain ⟨ce464, hce464, hMe464, hcc464⟩ := Kd.N_get (Kd.R_N HO_4.out) [] x27_2 p464 z139_
         obtain ⟨ua464_0, uc464_0, rfl, ul464_0, ge464_0⟩ := Kd.FK_slice_open hMe464
         have hv464_0 := hcc464 0 _ rfl
         rw [Nat.add_zero, show ((Kd.slice 80 k80)).sz = 1 from rfl, Nat.mul_one] at hv464_0
         replace hv464_0 := Option.some.inj (hv464_0.symm.trans hx464_0)
         injection hv464_0 with hva_ hvn_ hvc_
         rw [hva_] at ge464_0
         rw [hvc_] at ul464_0
         have HL464_0 := Aside0.mk (show Kd.V k80 80 _ w.heap.size _ _ (rd_L8 x4_2 x27_2) from Kd.V_mk ul464_0 ge464_0)
         clear hva_ hvn_ hvc_ ge464_0 ul464_0
         clear hcc464 hce464
         have HR464_0 := Aside0.mk hi464_0
         have HC464_0 := Aside0.mk hl464_0
         clear hi464_0 hl464_0
         replace p464 := eq_true p464
         replace q464 := eq_true q464
         go_wp2_with (first | ((with_reducible refine gate_callee (f := 35) rfl ?_); refine goesL_ (some 38) rfl rfl Try.func35 (by kernel_rfl) rfl #[.slice A464_0 (rd_L8 x4_2 x27_2).length c464_0, .slice A463_0 (rd_L7 l0_1 x27_2).length c463_0] rfl z1_ ?_; (with_reducible refine (impl_ApplyAll.calls k2 _ _ (rd_L8 x4_2 x27_2) _ _ (rd_L7 l0_1 x27_2) t465 t466 t467 _ ?side1 ?side2 ?side3 ?side4 A23.out).mono ?_); (case side1 => exact z53_); (case side2 => exact HC464_0.out); (case side3 => exact z60_); (case side4 => exact HC463_0.out); rintro e w34 ⟨v468, rfl, ho0, hb⟩; refine ⟨_, rfl, ?_⟩; replace HO_4 := Aside0.mk (Kd.R_elder' z93_ (Kd.R_base ho0) hb); replace HL464_0 := Aside0.mk (Kd.V_elder' z88_ (Kd.R_base ho0) hb); have HO469 := Aside0.mk (Kd.R_lower (Kd.R_newM (M := fun k_ => (w.heap.size ≤ k_)) ho0 (below_size z10_) (fun k_ h_ => h_)) (below_size z10_)); replace BK455 := Aside0.mk (blk_below (g := gb455) (o := .cells #[.slice A0_0 l0_0.length c0_0, .slice (some ad463) l0_1.length c0_1] 44 (0, 0)) z31_ hb); replace HR464_0 := Aside0.mk (Kd.C_below z37_ hb); replace HB := Aside0.mk (below_step z10_ hb); (try clear hb ho0)) | (go_at_call 104; (with_reducible refine (impl_ScriptOk.calls k2 _ _ (rd_L7 l0_1 x27_2) false _ ?side1 ?side2 A25.out).mono ?_); (case side1 => exact z60_); (case side2 => exact HC463_0.out); rintro e w35 ⟨rfl, hb⟩; replace HO_4 := Aside0.mk (Kd.R_below z93_ hb); replace HL464_0 := Aside0.mk (Kd.V_below z88_ hb); replace HO469 := Aside0.mk (Kd.R_below z154_ hb); replace BK455 := Aside0.mk (blk_below (g := gb455) (o := .cells #[.slice A0_0 l0_0.length c0_0, .slice (some ad463) l0_1.length c0_1] 44 (0, 0)) z31_ hb); replace HR464_0 := Aside0.mk (Kd.C_below z37_ hb); replace HB := Aside0.mk (below_step z10_ hb); (try clear hb)))
         go_ret2
         exact ⟨_, z3_, z102_, z10_⟩
       ·rw [if_neg c24] at H
        have c24b0 : (t467 == 0) = false := beq_eq_false_iff_ne.mpr c24
        have c24b1 : (t467 != 0) = true := bne_iff_ne.mpr c24
        simp only [Option.some.injEq, Prod.mk.injEq] at H
        obtain ⟨rfl, rfl⟩ := H
        have p463 : 0 ≤ (x27_2 : Int) := odt_
        have q463 : x27_2 < (l0_1.length : Int) := odt_
        obtain ⟨ad463, A463_0, c463_0, e463, hx463_0, hl463_0, hi463_0⟩ := at_L7 HR0_1.out x27_2 p463 q463
        cases e463
        replace hx463_0 := (HB.out.cell (World.block_lt_of_cell? w _ hx463_0)).trans hx463_0
        have HR463_0 := Aside0.mk hi463_0
        have HC463_0 := Aside0.mk hl463_0
        clear hi463_0 hl463_0
        replace p463 := eq_true p463
        replace q463 := eq_true q463
        obtain ⟨Ao36, co36, eo36⟩ := Kd.R_slice HO_4.out
        subst eo36
        have p464 : 0 ≤ (x27_2 : Int) := odt_
        have q464 : x27_2 < (x4_2.length : Int) := odt_
        obtain ⟨ad464, A464_0, c464_0, e464, hx464_0, hl464_0, hi464_0⟩ := at_L8 (Kd.N_reads' (Kd.R_N HO_4.out)).2.2 x27_2 p464 q464
        cases e464
        obtain ⟨ce464, hce464, hMe464, hcc464⟩ := Kd.N_get (Kd.R_N HO_4.out) [] x27_2 p464 z139_
        obtain ⟨ua464_0, uc464_0, rfl, ul464_0, ge464_0⟩ := Kd.FK_slice_open hMe464
        have hv464_0 := hcc464 0 _ rfl
        rw [Nat.add_zero, show ((Kd.slice 80 k80)).sz = 1 from rfl, Nat.mul_one] at hv464_0
        replace hv464_0 := Option.some.inj (hv464_0.symm.trans hx464_0)
        injection hv464_0 with hva_ hvn_ hvc_
        rw [hva_] at ge464_0
        rw [hvc_] at ul464_0
        have HL464_0 := Aside0.mk (show Kd.V k80 80 _ w.heap.size _ _ (rd_L8 x4_2 x27_2) from Kd.V_mk ul464_0 ge464_0)
        clear hva_ hvn_ hvc_ ge464_0 ul464_0
        clear hcc464 hce464
        have HR464_0 := Aside0.mk hi464_0
        have HC464_0 := Aside0.mk hl464_0
        clear hi464_0 hl464_0
        replace p464 := eq_true p464
        replace q464 := eq_true q464
        go_wp2_with (first | ((with_reducible refine gate_callee (f := 35) rfl ?_); refine goesL_ (some 38) rfl rfl Try.func35 (by kernel_rfl) rfl #[.slice A464_0 (rd_L8 x4_2 x27_2).length c464_0, .slice A463_0 (rd_L7 l0_1 x27_2).length c463_0] rfl z1_ ?_; (with_reducible refine (impl_ApplyAll.calls k2 _ _ (rd_L8 x4_2 x27_2) _ _ (rd_L7 l0_1 x27_2) t465 t466 t467 _ ?side1 ?side2 ?side3 ?side4 A23.out).mono ?_); (case side1 => exact z53_); (case side2 => exact HC464_0.out); (case side3 => exact z60_); (case side4 => exact HC463_0.out); rintro e w37 ⟨v468, rfl, ho0, hb⟩; refine ⟨_, rfl, ?_⟩; replace HO_4 := Aside0.mk (Kd.R_elder' z93_ (Kd.R_base ho0) hb); replace HL464_0 := Aside0.mk (Kd.V_elder' z88_ (Kd.R_base ho0) hb); have HO469 := Aside0.mk (Kd.R_lower (Kd.R_newM (M := fun k_ => (w.heap.size ≤ k_)) ho0 (below_size z10_) (fun k_ h_ => h_)) (below_size z10_)); replace BK455 := Aside0.mk (blk_below (g := gb455) (o := .cells #[.slice A0_0 l0_0.length c0_0, .slice (some ad463) l0_1.length c0_1] 44 (0, 0)) z31_ hb); replace HR464_0 := Aside0.mk (Kd.C_below z37_ hb); replace HB := Aside0.mk (below_step z10_ hb); (try clear hb ho0)))
        go_ret2
        exact ⟨_, z3_, z102_, z10_⟩
      ·rw [if_neg c19] at H
       have c19b0 := decide_eq_false c19
       clear c19
       simp only [Option.some.injEq, Prod.mk.injEq] at H
       obtain ⟨rfl, rfl⟩ := H
       go_wp2
       go_ret2
       exact ⟨_, z3_, by (with_reducible repeat (first | apply Kd.R_alloc | apply Kd.R_drewN | apply Kd.R_drew)); exact Kd.R_mono HO_4.out (fun _ hk => hk.1), z10_⟩

/-! ### impl_HistAt: function 23 -/
def impl_HistAt.f (k : Nat) (l0_0 : List (S80)) (l0_1 : List (List (S78))) (a1 : Int) : Option ((List (S80))) := (impl_Hist_trees.f k l0_0 l0_1).bind fun bt475 => ((impl_within.f a1 0 (wrap64 ((bt475.1.length : Int) - 1))).bind fun t479 => (if t479 = true then (if 0 ≤ a1 then (if a1 < (bt475.1.length : Int) then (some (rd_L8 bt475.1 a1)) else (none)) else (none)) else (some (([] : List (S80))))))
set_option maxHeartbeats 8000000 in
set_option maxRecDepth 100000 in
theorem impl_HistAt.calls (k : Nat) (A0_0 : Option Addr) (c0_0 : Nat) (l0_0 : List (S80)) (A0_1 : Option Addr) (c0_1 : Nat) (l0_1 : List (List (S78))) (a1 : Int) (r : List (S80)) (w : World) (hr0_0 : Kd.C k80 w A0_0 l0_0.length l0_0) (hc0_0 : l0_0.length ≤ c0_0) (hr0_1 : Kd.C (Kd.slice 78 k78) w A0_1 l0_1.length l0_1) (hc0_1 : l0_1.length ≤ c0_1) (h : impl_HistAt.f k l0_0 l0_1 a1 = some r) :
  Calls Try.prog 23 #[.agg #[.slice A0_0 l0_0.length c0_0, .slice A0_1 l0_1.length c0_1], .int .i64 a1] w fun e w' => ∃ v0_ : Value, e = .returned (v0_) ∧ Kd.R k80 80 w' w.heap.size (fun _ => True) v0_ r ∧ Below w.heap.size w w' := by
 have hu44 := Try.underlying44
 have HR0_0 := Aside0.mk hr0_0
 have HC0_0 := Aside0.mk hc0_0
 clear hr0_0 hc0_0
 have HR0_1 := Aside0.mk hr0_1
 have HC0_1 := Aside0.mk hc0_1
 clear hr0_1 hc0_1
 have HB := Aside0.mk (Below.refl w.heap.size w)
 have H : ((impl_Hist_trees.f k l0_0 l0_1).bind fun bt475 => ((impl_within.f a1 0 (wrap64 ((bt475.1.length : Int) - 1))).bind fun t479 => (if t479 = true then (if 0 ≤ a1 then (if a1 < (bt475.1.length : Int) then (some (rd_L8 bt475.1 a1)) else (none)) else (none)) else (some (([] : List (S80))))))) = some r := h
 clear h
 replace H := Option.bind_eq_some_iff.mp H
 obtain ⟨⟨t475, t478⟩, A30, H⟩ := H
 try dsimp only at H
 have A3 := Aside0.mk A30
 clear A30
 obtain ⟨t479, A4, H⟩ := bnd_ H
 by_cases c5 : t479 = true
 ·subst c5
  replace H := ift_ H
  obtain ⟨c6b0, H⟩ := ifd_ H
  obtain ⟨c7b0, H⟩ := ifd_ H
  obtain rfl := Option.some.inj H
  go_enter Try.func23, Try.ntmps23
  go_wp2_with (first | ((with_reducible refine gate_dst (N := 2) rfl ?_); refine box_event ?hg (N := 2) ?hd (cs := #[.slice A0_0 l0_0.length c0_0, .slice A0_1 l0_1.length c0_1]) (t := 44) ?hr ?_; (case hd => rfl); (case hg => rfl); (case hr => exact z9_); intro gb474 hg w8 hbox hb; have BK474 := Aside0.mk (hbox); have GW474 := Aside0.mk ((by rw [hg]; exact (below_size z0_) : w.heap.size ≤ gb474)); have GE474 := Aside0.mk ((by rw [hg]; exact (below_size z0_) : w.heap.size ≤ gb474)); replace HB := Aside0.mk (below_step z0_ hb); clear hb hbox hg; obtain ⟨hcz9_0, hcz9_1, hfz9_0, hfz9_1⟩ := bx2_ BK474.out) | ((with_reducible refine gate_callee (f := 62) rfl ?_); refine goesL_ (some 9) rfl rfl Try.func62 (by kernel_rfl) rfl #[.agg #[.slice A0_0 l0_0.length c0_0, .slice A0_1 l0_1.length c0_1]] rfl z1_ ?_; (with_reducible refine (impl_Hist_trees.calls k _ _ l0_0 _ _ l0_1 t475 t478 _ ?side1 ?side2 ?side3 ?side4 A3.out).mono ?_); (case side1 => exact z12_); (case side2 => exact HC0_0.out); (case side3 => exact z8_); (case side4 => exact HC0_1.out); rintro e w10 ⟨v476, rfl, ho0, hb⟩; refine ⟨_, rfl, ?_⟩; have HO477 := Aside0.mk (Kd.R_lower (Kd.R_mono (ok' := fun k_ => (w.heap.size ≤ k_) ∧ k_ ≠ gb474) ho0 (fun k_ hk_ => ⟨(Nat.le_trans (below_size z33_) hk_), (Kd.freshB (g := gb474) (o := .cells #[.slice A0_0 l0_0.length c0_0, .slice A0_1 l0_1.length c0_1] 44 (0, 0)) z83_ k_ hk_)⟩)) (below_size z33_)); replace BK474 := Aside0.mk (blk_below (g := gb474) (o := .cells #[.slice A0_0 l0_0.length c0_0, .slice A0_1 l0_1.length c0_1] 44 (0, 0)) z83_ hb); replace HB := Aside0.mk (below_step z33_ hb); (try clear hb ho0); obtain ⟨Ao11, co11, eo11⟩ := Kd.R_slice HO477.out; subst eo11) | ((with_reducible refine gate_callee (f := 63) rfl ?_); refine goesL_ (some 16) rfl rfl Try.func63 (by kernel_rfl) rfl #[.int .i64 a1, .int .i64 0, .int .i64 (wrap64 ((t475.length : Int) - 1))] rfl z1_ ?_; (with_reducible refine (impl_within.calls a1 0 (wrap64 ((t475.length : Int) - 1)) true _ A4.out).mono ?_); rintro e w' ⟨rfl, ⟨nd, rfl⟩⟩; refine ⟨_, rfl, ?_⟩; have p480 : 0 ≤ (a1 : Int) := odt_; have q480 : a1 < (t475.length : Int) := odt_; obtain ⟨ad480, A480_0, c480_0, e480, hx480_0, hl480_0, hi480_0⟩ := at_L8 (Kd.N_reads' (Kd.R_N HO477.out)).2.2 a1 p480 q480; cases e480; have hre_ := row_at HO477.out p480 q480 rfl hx480_0; have HL480_0 := Aside0.mk (show Kd.R k80 80 _ w.heap.size (fun _ => True) _ (rd_L8 t475 a1) from hre_); clear hre_; have HR480_0 := Aside0.mk hi480_0; have HC480_0 := Aside0.mk hl480_0; clear hi480_0 hl480_0; replace p480 := eq_true p480; replace q480 := eq_true q480))
  go_ret
  exact ⟨_, z3_, by (with_reducible repeat (first | apply Kd.R_alloc | apply Kd.R_drewN | apply Kd.R_drew)); exact Kd.R_mono HL480_0.out (fun _ _ => trivial), z33_⟩
 ·replace c5 := Bool.eq_false_iff.mpr c5
  subst c5
  replace H := iff_ H
  first | ((with_reducible have hz_ := gy_ H); obtain ⟨y481, Ny481, H⟩ := hz_) | (generalize hy_ : ((([] : List (S80))) : List (S80)) = y481 at H; have Ny481 := Aside0.mk hy_.symm; clear hy_)
  obtain rfl := Option.some.inj H
  go_enter Try.func23, Try.ntmps23
  go_wp2_with (first | ((with_reducible refine gate_dst (N := 2) rfl ?_); refine box_event ?hg (N := 2) ?hd (cs := #[.slice A0_0 l0_0.length c0_0, .slice A0_1 l0_1.length c0_1]) (t := 44) ?hr ?_; (case hd => rfl); (case hg => rfl); (case hr => exact z9_); intro gb474 hg w12 hbox hb; have BK474 := Aside0.mk (hbox); have GW474 := Aside0.mk ((by rw [hg]; exact (below_size z0_) : w.heap.size ≤ gb474)); have GE474 := Aside0.mk ((by rw [hg]; exact (below_size z0_) : w.heap.size ≤ gb474)); replace HB := Aside0.mk (below_step z0_ hb); clear hb hbox hg; obtain ⟨hcz13_0, hcz13_1, hfz13_0, hfz13_1⟩ := bx2_ BK474.out) | ((with_reducible refine gate_callee (f := 62) rfl ?_); refine goesL_ (some 9) rfl rfl Try.func62 (by kernel_rfl) rfl #[.agg #[.slice A0_0 l0_0.length c0_0, .slice A0_1 l0_1.length c0_1]] rfl z1_ ?_; (with_reducible refine (impl_Hist_trees.calls k _ _ l0_0 _ _ l0_1 t475 t478 _ ?side1 ?side2 ?side3 ?side4 A3.out).mono ?_); (case side1 => exact z12_); (case side2 => exact HC0_0.out); (case side3 => exact z8_); (case side4 => exact HC0_1.out); rintro e w14 ⟨v476, rfl, ho0, hb⟩; refine ⟨_, rfl, ?_⟩; have HO477 := Aside0.mk (Kd.R_lower (Kd.R_mono (ok' := fun k_ => (w.heap.size ≤ k_) ∧ k_ ≠ gb474) ho0 (fun k_ hk_ => ⟨(Nat.le_trans (below_size z33_) hk_), (Kd.freshB (g := gb474) (o := .cells #[.slice A0_0 l0_0.length c0_0, .slice A0_1 l0_1.length c0_1] 44 (0, 0)) z83_ k_ hk_)⟩)) (below_size z33_)); replace BK474 := Aside0.mk (blk_below (g := gb474) (o := .cells #[.slice A0_0 l0_0.length c0_0, .slice A0_1 l0_1.length c0_1] 44 (0, 0)) z83_ hb); replace HB := Aside0.mk (below_step z33_ hb); (try clear hb ho0); obtain ⟨Ao15, co15, eo15⟩ := Kd.R_slice HO477.out; subst eo15) | ((with_reducible refine gate_callee (f := 63) rfl ?_); refine goesL_ (some 16) rfl rfl Try.func63 (by kernel_rfl) rfl #[.int .i64 a1, .int .i64 0, .int .i64 (wrap64 ((t475.length : Int) - 1))] rfl z1_ ?_; (with_reducible refine (impl_within.calls a1 0 (wrap64 ((t475.length : Int) - 1)) false _ A4.out).mono ?_); rintro e w' ⟨rfl, ⟨nd, rfl⟩⟩; refine ⟨_, rfl, ?_⟩) | ((with_reducible refine gate_dst (N := 18) rfl ?_); refine Kd.R_lit k80 _ 80 ?hg (N := 18) ?hd (xs := ([] : List (S80))) (inner := []) (ok := fun _ => True) (okp := fun _ => True) ?hr ?hp (fun _ hk => hk) trivial (Below.refl _ _) (Nat.le_refl _) (by simp) ?_; (case hd => rfl); (case hg => rfl); (case hr => exact z9_); (case hp => exact z108_); intro v482 w16 ho17 hb hg_ hnew_; clear hg_ hnew_; (first | rw [← Ny481.out] at ho17 | (simp only [Int.reduceToNat] at ho17; rw [← Ny481.out] at ho17)); replace HO477 := Aside0.mk (Kd.R_elder' (by (with_reducible repeat (first | apply Kd.R_alloc | apply Kd.R_drewN | apply Kd.R_drew)); exact HO477.out) (Kd.R_base ho17) hb); have HO483 := Aside0.mk (Kd.R_lower (Kd.R_newM (M := fun k_ => (w.heap.size ≤ k_)) ho17 (below_size z33_) (fun k_ h_ => h_)) (below_size z33_)); replace BK474 := Aside0.mk (blk_below (g := gb474) (o := .cells #[.slice A0_0 l0_0.length c0_0, .slice A0_1 l0_1.length c0_1] 44 (0, 0)) z83_ hb); replace HB := Aside0.mk (below_step z33_ hb); clear hb ho17))
  go_ret
  exact ⟨_, z3_, (by (with_reducible repeat (first | apply Kd.R_alloc | apply Kd.R_drewN | apply Kd.R_drew)); exact Kd.R_mono HO483.out (fun _ _ => trivial)), z33_⟩

/-! ### laws_eqIntS: function 102 -/
def laws_eqIntS.l0 : Nat → List Int → List Int → Int → Option (Bool)
 | 0, _, _, _ => none
 | k + 1, x0, x1, x5 => if x5 < (x0.length : Int) then (if 0 ≤ x5 then (if x5 < (x1.length : Int) then (if (rd x0 x5) = (rd x1 x5) then (laws_eqIntS.l0 k x0 x1 (wrap64 (x5 + 1))) else (some false)) else (none)) else (none)) else (some true)
def laws_eqIntS.f (k : Nat) (l0 : List Int) (l1 : List Int) : Option (Bool) := if (l0.length : Int) = (l1.length : Int) then (laws_eqIntS.l0 k l0 l1 0) else (some false)
set_option maxHeartbeats 8000000 in
set_option maxRecDepth 100000 in
theorem laws_eqIntS.calls (k : Nat) (A0 : Option Addr) (c0 : Nat) (l0 : List Int) (A1 : Option Addr) (c1 : Nat) (l1 : List Int) (r : Bool) (w : World) (hr0 : Kd.C (Kd.int .i64) w A0 l0.length l0) (hc0 : l0.length ≤ c0) (hr1 : Kd.C (Kd.int .i64) w A1 l1.length l1) (hc1 : l1.length ≤ c1) (h : laws_eqIntS.f k l0 l1 = some r) :
  Calls Try.prog 102 #[.slice A0 l0.length c0, .slice A1 l1.length c1] w fun e w' => e = .returned (.bool r) ∧ Drawn0 w w' := by
 have HR0 := Aside0.mk hr0
 have HC0 := Aside0.mk hc0
 clear hr0 hc0
 have HR1 := Aside0.mk hr1
 have HC1 := Aside0.mk hc1
 clear hr1 hc1
 have H : (if (l0.length : Int) = (l1.length : Int) then (laws_eqIntS.l0 k l0 l1 0) else (some false)) = some r := h
 clear h
 by_cases c3 : (l0.length : Int) = (l1.length : Int)
 ·rw [if_pos c3] at H
  have c3b0 : ((l0.length : Int) == (l1.length : Int)) = true := beq_iff_eq.mpr c3
  have c3b1 : ((l0.length : Int) != (l1.length : Int)) = false := bne_eq_false_iff_eq.mpr c3
  have c3b2 : (l0.length == l1.length) = true := by first | simpa using c3 | (simp at c3 ⊢; omega)
  clear c3
  have H' := Aside0.mk H
  clear H
  go_enter Try.func102, Try.ntmps102
  go_wp2
  repeat (go_quiet (fail); try go_wp2)
  go_loopg [5] k (fun kq v5 w' => ∃ (x5_1 : Int), v5 = .int .i64 x5_1 ∧ Aside0 (laws_eqIntS.l0 kq l0 l1 x5_1 = some r) ∧ Aside0 (kq ≤ k) ∧ Drawn0 w w')
  case atStart => exact ⟨(0), z5_, H', ⟨Nat.le_refl _⟩, z28_⟩
  case round =>
   clear H'
   try clear c1
   try clear p2
   try clear c3
   try clear c3b0
   try clear c3b1
   try clear c3b2
   obtain ⟨x5_1, rfl, HA, HK1, ⟨m1, rfl⟩⟩ := hrel
   cases gk with
   | zero => exact absurd HA.out (by simp [laws_eqIntS.l0])
   | succ k1 =>
    have H := HA.out
    clear HA
    simp only [laws_eqIntS.l0] at H
    by_cases c4 : x5_1 < (l0.length : Int)
    ·rw [if_pos c4] at H
     have c4b0 := decide_eq_true c4
     clear c4
     obtain ⟨c5b0, H⟩ := ifd_ H
     obtain ⟨c6b0, H⟩ := ifd_ H
     by_cases c7 : (rd l0 x5_1) = (rd l1 x5_1)
     ·rw [if_pos c7] at H
      have c7b0 : ((rd l0 x5_1) == (rd l1 x5_1)) = true := beq_iff_eq.mpr c7
      have c7b1 : ((rd l0 x5_1) != (rd l1 x5_1)) = false := bne_eq_false_iff_eq.mpr c7
      clear c7
      have H' := Aside0.mk H
      clear H
      have p484 : 0 ≤ (x5_1 : Int) := odt_
      have q484 : x5_1 < (l0.length : Int) := odt_
      obtain ⟨ad484, e484, hx484_0⟩ := Kd.at_int HR0.out x5_1 p484 q484
      cases e484
      replace p484 := eq_true p484
      replace q484 := eq_true q484
      have p485 : 0 ≤ (x5_1 : Int) := odt_
      have q485 : x5_1 < (l1.length : Int) := odt_
      obtain ⟨ad485, e485, hx485_0⟩ := Kd.at_int HR1.out x5_1 p485 q485
      cases e485
      replace p485 := eq_true p485
      replace q485 := eq_true q485
      go_wp2
      repeat (go_quiet (fail); try go_wp2)
      go_roundg k1
      case measure => have := HK1.out; omega
      case rel => exact ⟨(wrap64 (x5_1 + 1)), z5_, H', ⟨z66_⟩, z28_⟩
     ·rw [if_neg c7] at H
      have c7b0 : ((rd l0 x5_1) == (rd l1 x5_1)) = false := beq_eq_false_iff_ne.mpr c7
      have c7b1 : ((rd l0 x5_1) != (rd l1 x5_1)) = true := bne_iff_ne.mpr c7
      obtain rfl := Option.some.inj H
      have p484 : 0 ≤ (x5_1 : Int) := odt_
      have q484 : x5_1 < (l0.length : Int) := odt_
      obtain ⟨ad484, e484, hx484_0⟩ := Kd.at_int HR0.out x5_1 p484 q484
      cases e484
      replace p484 := eq_true p484
      replace q484 := eq_true q484
      have p485 : 0 ≤ (x5_1 : Int) := odt_
      have q485 : x5_1 < (l1.length : Int) := odt_
      obtain ⟨ad485, e485, hx485_0⟩ := Kd.at_int HR1.out x5_1 p485 q485
      cases e485
      replace p485 := eq_true p485
      replace q485 := eq_true q485
      go_wp2
      repeat (go_quiet (fail); try go_wp2)
      go_ret
      exact ⟨z5_, z28_⟩
    ·rw [if_neg c4] at H
     have c4b0 := decide_eq_false c4
     clear c4
     obtain rfl := Option.some.inj H
     go_wp2
     repeat (go_quiet (fail); try go_wp2)
     go_ret
     exact ⟨z5_, z28_⟩
 ·rw [if_neg c3] at H
  have c3b0 : ((l0.length : Int) == (l1.length : Int)) = false := beq_eq_false_iff_ne.mpr c3
  have c3b1 : ((l0.length : Int) != (l1.length : Int)) = true := bne_iff_ne.mpr c3
  have c3b2 : (l0.length == l1.length) = false := by first | simpa using c3 | (simp at c3 ⊢; omega)
  obtain rfl := Option.some.inj H
  go_enter Try.func102, Try.ntmps102
  go_wp2
  repeat (go_quiet (fail); try go_wp2)
  go_ret
  exact ⟨z5_, z28_⟩

end Go.Proofs.Ytdapeboajjidmaa.PFnExactHistAt
