/- Laid by a program of this session out of the kit's print for the law FnExactDomInsert: what it says of the machine is proved here, function by function; each contract under the conditions that it names. -/
import Derived.Test.YtdapeboajjidmabMFnExactDomInsertx0
import Derived.Deep.RegionLaw
import Derived.Lib.Overlaps
import Derived.Laws.Externs
import Derived.Lib.AppendZeros
import Derived.Lib.AppendZerosOnto
import Derived.Laws.NewBlocks
import Derived.Lib.SliceRun
import Derived.Test.YtdapeboajjidmabSliceOps
namespace Go.Proofs.Ytdapeboajjidmab.PFnExactDomInsert
open Go.RowKit Go.Proofs.YtdapeboajjidmabW.PrintWords Go.Proofs.YtdapeboajjidmabW.PrintLast Go.Proofs.YtdapeboajjidmabW.PrintMore Go.Proofs.Ytdapeboajjidmab.SliceOps
attribute [local go_sem] max2_int min2_int max_two min_two max_three min_three max_four min_four   -- for this text's walks alone
set_option linter.unusedVariables false
set_option linter.unusedSimpArgs false

/-! ### slices_Grow_int: function 116 -/
def slices_Grow_int.f (l0 : List Int) (a1 : Int) : Option (List Int) := if l0 = [] ∧ 0 ≤ a1 ∧ a1 ≤ 17592186044416 then some [] else none
set_option maxHeartbeats 8000000 in
set_option maxRecDepth 100000 in
theorem slices_Grow_int.calls (a1 : Int) (r : List Int) (w : World) (h : slices_Grow_int.f [] a1 = some r) :
  Calls Try.prog 116 #[.slice none 0 0, .int .i64 a1] w fun e w' => ∃ v0_ : Value, e = .returned (v0_) ∧ Kd.R (Kd.int .i64) 3 w' w.heap.size (fun _ => True) v0_ r ∧ Below w.heap.size w w' := by
 obtain ⟨h0, hl, rfl⟩ : 0 ≤ a1 ∧ a1 ≤ 17592186044416 ∧ r = [] := by
  unfold slices_Grow_int.f at h
  split at h
  ·next hc => exact ⟨hc.2.1, hc.2.2, by injection h with h; exact h.symm⟩
  ·cases h
 clear h
 have cn : decide (a1 < 0) = false := decide_eq_false (by omega)
 have HW := Aside0.mk (show wrap64 a1 = a1 by unfold wrap64; omega)
 have HL := Aside0.mk hl
 have H0 := Aside0.mk h0
 clear hl
 by_cases hp : 0 < a1
 ·have cp : decide (0 < wrap64 a1) = true := decide_eq_true (by rw [HW.out]; exact hp)
  clear hp h0
  go_enter Try.func116, Try.ntmps116
  go_wp2_with (((with_reducible refine gate_builtin (b := .append) (xs := #[.tmp 20, .tmp 21]) rfl ?_); at_builtin; refine Kd.R_append_zeros (Kd.int .i64) (w0 := w) w.heap.size rfl (.tmp 20) (.tmp 21) 49 3 3 (.int .i64 0) 8 rfl Try.underlying49 Try.underlying3 info3 rfl (by decide) (by omega) (.slice none 0 0) [] (0 : Int) (wrap64 a1 : Int) (fun k_ => w.heap.size ≤ k_) rfl rfl rfl (fun k_ hk => hk) (Kd.R_nil _ _ _ _ _) (by rw [HW.out]; exact H0.out) (Below.refl _ _) (Nat.le_refl _) (by have := HL.out; rw [HW.out]; simp only [List.length_nil]; omega) ?_; intro v1 w1 ho hb hg hat; have HO := Aside0.mk ho; have HB := Aside0.mk hb; clear ho hb hg hat; obtain ⟨A1, c1, e_⟩ := Kd.R_slice HO.out; subst e_))
  go_ret
  exact ⟨_, rfl, Kd.R_mono (Kd.R_take HO.out (m := 0) (Nat.zero_le _)) (fun _ _ => trivial), HB.out⟩
 ·have cp : decide (0 < wrap64 a1) = false := decide_eq_false (by rw [HW.out]; exact hp)
  clear hp h0
  go_enter Try.func116, Try.ntmps116
  go_wp2
  go_ret
  exact ⟨_, rfl, Kd.R_nil _ _ _ _ _, Below.refl _ _⟩

/-! ### slices_Concat_int: function 75 -/
mutual
def slices_Concat_int.l0 : Nat → List (List Int) → Int → List (List Int) → Int → Int → Option (List Int)
 | 0, _, _, _, _, _ => none
 | k + 1, x0, x3, x9, x10, x11 => if x11 < x10 then (if 0 ≤ x11 then (if x11 < (x9.length : Int) then (if (wrap64 (x3 + ((rd_L5 x9 x11).length : Int))) < 0 then (if 0 ≤ (-1) then (if (-1) < (x9.length : Int) then (slices_Concat_int.l0 k x0 (wrap64 (x3 + ((rd_L5 x9 x11).length : Int))) x9 x10 (wrap64 (x11 + 1))) else (none)) else (none)) else (slices_Concat_int.l0 k x0 (wrap64 (x3 + ((rd_L5 x9 x11).length : Int))) x9 x10 (wrap64 (x11 + 1)))) else (none)) else (none)) else ((slices_Grow_int.f ([] : List Int) x3).bind fun t438 => (slices_Concat_int.l1 k t438 x0 (x0.length : Int) 0))
def slices_Concat_int.l1 : Nat → List Int → List (List Int) → Int → Int → Option (List Int)
 | 0, _, _, _, _ => none
 | k + 1, x6, x25, x26, x27 => if x27 < x26 then (if 0 ≤ x27 then (if x27 < (x25.length : Int) then (if x6.length + (rd_L5 x25 x27).length < 17592186044416 then (slices_Concat_int.l1 k (x6 ++ (rd_L5 x25 x27)) x25 x26 (wrap64 (x27 + 1))) else (none)) else (none)) else (none)) else (some x6)
end
def slices_Concat_int.f (k : Nat) (l0 : List (List Int)) : Option (List Int) := slices_Concat_int.l0 k l0 0 l0 (l0.length : Int) 0
set_option maxHeartbeats 8000000 in
set_option maxRecDepth 100000 in
theorem slices_Concat_int.calls (k : Nat) (A0 : Option Addr) (c0 : Nat) (l0 : List (List Int)) (r : List Int) (w : World) (hr0 : Kd.C (Kd.slice 3 (Kd.int .i64)) w A0 l0.length l0) (hc0 : l0.length ≤ c0) (h : slices_Concat_int.f k l0 = some r) :
  Calls Try.prog 75 #[.slice A0 l0.length c0] w fun e w' => ∃ v0_ : Value, e = .returned (v0_) ∧ Kd.R (Kd.int .i64) 3 w' w.heap.size (fun _ => True) v0_ r ∧ Below w.heap.size w w' := by
 have HR0 := Aside0.mk hr0
 have HC0 := Aside0.mk hc0
 clear hr0 hc0
 have HB := Aside0.mk (Below.refl w.heap.size w)
 have H : (slices_Concat_int.l0 k l0 0 l0 (l0.length : Int) 0) = some r := h
 clear h
 have H' := Aside0.mk H
 clear H
 go_enter Try.func75, Try.ntmps75
 go_wp2
 go_loopg [3, 11] k (fun kq v3 v11 w' => ∃ (x3_1 : Int) (x11_1 : Int), v3 = .int .i64 x3_1 ∧ v11 = .int .i64 x11_1 ∧ Aside0 (slices_Concat_int.l0 kq l0 x3_1 l0 (l0.length : Int) x11_1 = some r) ∧ Aside0 (kq ≤ k) ∧ Aside0 (Below w.heap.size w w'))
 case atStart => exact ⟨(0), (0), z17_, z17_, H', ⟨Nat.le_refl _⟩, ⟨z0_⟩⟩
 case round =>
  clear H'
  obtain ⟨x3_1, x11_1, rfl, rfl, HA, HK1, HB⟩ := hrel
  cases gk with
  | zero => exact absurd HA.out (by simp [slices_Concat_int.l0])
  | succ k1 =>
   have H := HA.out
   clear HA
   simp only [slices_Concat_int.l0] at H
   by_cases c2 : x11_1 < (l0.length : Int)
   ·rw [if_pos c2] at H
    have c2b0 := decide_eq_true c2
    clear c2
    obtain ⟨c3b0, H⟩ := ifd_ H
    obtain ⟨c4b0, H⟩ := ifd_ H
    by_cases c5 : (wrap64 (x3_1 + ((rd_L5 l0 x11_1).length : Int))) < 0
    ·rw [if_pos c5] at H
     have c5b0 := decide_eq_true c5
     clear c5
     by_cases c6 : 0 ≤ (-1)
     ·exact absurd c6 (by decide)
     ·rw [if_neg c6] at H
      exact absurd H (by simp)
    ·rw [if_neg c5] at H
     have c5b0 := decide_eq_false c5
     clear c5
     have H' := Aside0.mk H
     clear H
     have p436 : 0 ≤ (x11_1 : Int) := odt_
     have q436 : x11_1 < (l0.length : Int) := odt_
     obtain ⟨ad436, A436_0, c436_0, e436, hx436_0, hl436_0, hi436_0⟩ := at_L5 HR0.out x11_1 p436 q436
     cases e436
     replace hx436_0 := (HB.out.cell (World.block_lt_of_cell? w _ hx436_0)).trans hx436_0
     have HR436_0 := Aside0.mk hi436_0
     have HC436_0 := Aside0.mk hl436_0
     clear hi436_0 hl436_0
     replace p436 := eq_true p436
     replace q436 := eq_true q436
     go_wp2
     go_roundg k1
     case measure => have := HK1.out; omega
     case rel => exact ⟨(wrap64 (x3_1 + ((rd_L5 l0 x11_1).length : Int))), (wrap64 (x11_1 + 1)), z17_, z17_, H', ⟨z259_⟩, ⟨z0_⟩⟩
   ·rw [if_neg c2] at H
    have c2b0 := decide_eq_false c2
    clear c2
    obtain ⟨t438, A8, H⟩ := bnd_ H
    have H' := Aside0.mk H
    clear H
    go_wp2_with (((with_reducible refine gate_callee (f := 116) rfl ?_); refine goesL_ (some 24) rfl rfl Try.func116 (by kernel_rfl) rfl #[.slice none 0 0, .int .i64 x3_1] rfl z2_ ?_; (refine (slices_Grow_int.calls x3_1 t438 _ A8.out).mono ?_); rintro e w9 ⟨v439, rfl, ho0, hb⟩; refine ⟨_, rfl, ?_⟩; have HO440 := Aside0.mk (Kd.R_lower ho0 (below_size z0_)); replace HB := Aside0.mk (below_step z0_ hb); (try clear hb ho0)))
    go_loopg [6, 27] k1 (fun kq v6 v27 w' => ∃ (x6_2 : List Int) (x27_2 : Int), v27 = .int .i64 x27_2 ∧ Aside0 (slices_Concat_int.l1 kq x6_2 l0 (l0.length : Int) x27_2 = some r) ∧ Aside0 (kq ≤ k1) ∧ Aside0 (Kd.R (Kd.int .i64) 3 w' w.heap.size (fun _ => True) v6 x6_2) ∧ Aside0 (Below w.heap.size w w'))
    case atStart => exact ⟨(t438), (0), z17_, H', ⟨Nat.le_refl _⟩, ⟨by exact HO440.out⟩, ⟨z0_⟩⟩
    case round =>
     clear H' c2b0
     obtain ⟨x6_2, x27_2, rfl, HA, HK2, HO_6, HB⟩ := hrel
     cases gk with
     | zero => exact absurd HA.out (by simp [slices_Concat_int.l1])
     | succ k2 =>
      have H := HA.out
      clear HA
      simp only [slices_Concat_int.l1] at H
      by_cases c10 : x27_2 < (l0.length : Int)
      ·rw [if_pos c10] at H
       have c10b0 := decide_eq_true c10
       clear c10
       obtain ⟨c11b0, H⟩ := ifd_ H
       obtain ⟨c12b0, H⟩ := ifd_ H
       obtain ⟨c13, H⟩ := ifs_ H
       have LMc13 := Aside0.mk c13
       clear c13
       (generalize hy_ : ((x6_2 ++ (rd_L5 l0 x27_2)) : List Int) = y442 at H; have Ny442 := Aside0.mk hy_.symm; clear hy_)
       have H' := Aside0.mk H
       clear H
       have p441 : 0 ≤ (x27_2 : Int) := odt_
       have q441 : x27_2 < (l0.length : Int) := odt_
       obtain ⟨ad441, A441_0, c441_0, e441, hx441_0, hl441_0, hi441_0⟩ := at_L5 HR0.out x27_2 p441 q441
       cases e441
       replace hx441_0 := (HB.out.cell (World.block_lt_of_cell? w _ hx441_0)).trans hx441_0
       have HR441_0 := Aside0.mk hi441_0
       have HC441_0 := Aside0.mk hl441_0
       clear hi441_0 hl441_0
       replace p441 := eq_true p441
       replace q441 := eq_true q441
       go_wp2_with (((with_reducible refine gate_builtin (b := .append) (xs := #[.tmp 31, .tmp 32]) rfl ?_); at_builtin; refine Kd.R_append_rows (Kd.int .i64) (w0 := w) w.heap.size rfl (.tmp 31) (.tmp 32) 49 3 (.int .i64 0) 8 rfl Try.underlying49 info3 rfl (by decide) (by omega) u6 x6_2 (rd_L5 l0 x27_2) _ _ _ (fun _ => True) (fun _ => False) rfl rfl ?aO ?aR (fun _ _ h => h) (fun _ h => h.elim) ?aF ?aB ?aS ?aL ?_; (case aR => repeat (exact (Kd.C_below HR441_0.out HB.out))); (case aB => exact z261_); (case aF => exact z298_); (case aO => exact z71_); (case aS => exact z235_); (case aL => have := LMc13.out; omega); intro v443 w14 ho hb hg hat; rw [← Ny442.out] at ho; replace HB := Aside0.mk (hb); have HO444 := Aside0.mk (ho); clear HO_6; clear ho hb hg hat))
       go_roundg k2
       case measure => have := HK1.out; have := HK2.out; omega
       case rel => exact ⟨(y442), (wrap64 (x27_2 + 1)), z17_, H', ⟨by have := HK1.out; have := HK2.out; omega⟩, ⟨by exact HO444.out⟩, ⟨z0_⟩⟩
      ·rw [if_neg c10] at H
       have c10b0 := decide_eq_false c10
       clear c10
       obtain rfl := Option.some.inj H
       go_wp2
       go_ret
       exact ⟨_, z4_, z71_, z0_⟩

/-! ### impl_DomInsert_lit1: function 83 -/
def impl_DomInsert_lit1.f (a0_0 : Bool) (a0_1 : Int) (a0_2 : Int) (a0_3 : Int) (a0_4 : Int) (a0_5 : Int) (a0_6 : Int) : Option (Bool) := some (!a0_0)
set_option maxHeartbeats 8000000 in
set_option maxRecDepth 100000 in
theorem impl_DomInsert_lit1.calls (a0_0 : Bool) (a0_1 : Int) (a0_2 : Int) (a0_3 : Int) (a0_4 : Int) (a0_5 : Int) (a0_6 : Int) (r : Bool) (w : World) (h : impl_DomInsert_lit1.f a0_0 a0_1 a0_2 a0_3 a0_4 a0_5 a0_6 = some r) :
  Calls Try.prog 83 #[.agg #[.bool a0_0, .int .i64 a0_1, .int .i64 a0_2, .int .i64 a0_3, .int .i64 a0_4, .int .i64 a0_5, .int .i64 a0_6]] w fun e w' => e = .returned (.bool r) ∧ Below w.heap.size w w' := by
 have hu72 := Try.underlying72
 have HB := Aside0.mk (Below.refl w.heap.size w)
 have H : (some (!a0_0)) = some r := h
 clear h
 obtain rfl := Option.some.inj H
 go_enter Try.func83, Try.ntmps83
 go_wp2_with (((with_reducible refine gate_dst (N := 1) rfl ?_); refine box_event ?hg (N := 1) ?hd (cs := #[.bool a0_0, .int .i64 a0_1, .int .i64 a0_2, .int .i64 a0_3, .int .i64 a0_4, .int .i64 a0_5, .int .i64 a0_6]) (t := 72) ?hr ?_; (case hd => rfl); (case hg => rfl); (case hr => exact z19_); intro gb445 hg w2 hbox hb; have BK445 := Aside0.mk (hbox); have GW445 := Aside0.mk ((by rw [hg]; exact (below_size z0_) : w.heap.size ≤ gb445)); have GE445 := Aside0.mk ((by rw [hg]; exact (below_size z0_) : w.heap.size ≤ gb445)); replace HB := Aside0.mk (below_step z0_ hb); clear hb hbox hg; obtain ⟨hcz3_0, hcz3_1, hcz3_2, hcz3_3, hcz3_4, hcz3_5, hcz3_6, hfz3_0, hfz3_1, hfz3_2, hfz3_3, hfz3_4, hfz3_5, hfz3_6⟩ := bx7_ BK445.out))
 go_ret
 exact ⟨z4_, by repeat ((with_reducible exact HB.out))⟩

/-! ### slices_IndexFunc_DomNode: function 82 -/
def slices_IndexFunc_DomNode.l0 : Nat → List (S72) → Int → Int → Option (Int)
 | 0, _, _, _ => none
 | k + 1, x0, x7, x8 => if x8 < x7 then (if 0 ≤ x8 then (if x8 < (x0.length : Int) then ((impl_DomInsert_lit1.f ((rd_T72 x0 x8).f0) ((rd_T72 x0 x8).f1) ((rd_T72 x0 x8).f2) ((rd_T72 x0 x8).f3) ((rd_T72 x0 x8).f4) ((rd_T72 x0 x8).f5) ((rd_T72 x0 x8).f6)).bind fun t447 => (if t447 = true then (some x8) else (slices_IndexFunc_DomNode.l0 k x0 x7 (wrap64 (x8 + 1))))) else (none)) else (none)) else (some (-1))
def slices_IndexFunc_DomNode.f (k : Nat) (l0 : List (S72)) : Option (Int) := slices_IndexFunc_DomNode.l0 k l0 (l0.length : Int) 0
set_option maxHeartbeats 8000000 in
set_option maxRecDepth 100000 in
theorem slices_IndexFunc_DomNode.calls (k : Nat) (A0 : Option Addr) (c0 : Nat) (l0 : List (S72)) (r : Int) (w : World) (hr0 : Kd.C k72 w A0 l0.length l0) (hc0 : l0.length ≤ c0) (h : slices_IndexFunc_DomNode.f k l0 = some r) :
  Calls Try.prog 82 #[.slice A0 l0.length c0, .func (.func 83) #[] #[]] w fun e w' => e = .returned (.int .i64 r) ∧ Below w.heap.size w w' := by
 have hu72 := Try.underlying72
 have HR0 := Aside0.mk hr0
 have HC0 := Aside0.mk hc0
 clear hr0 hc0
 have HB := Aside0.mk (Below.refl w.heap.size w)
 have H : (slices_IndexFunc_DomNode.l0 k l0 (l0.length : Int) 0) = some r := h
 clear h
 have H' := Aside0.mk H
 clear H
 go_enter Try.func82, Try.ntmps82
 go_wp2
 go_loopg [8] k (fun kq v8 w' => ∃ (x8_1 : Int), v8 = .int .i64 x8_1 ∧ Aside0 (slices_IndexFunc_DomNode.l0 kq l0 (l0.length : Int) x8_1 = some r) ∧ Aside0 (kq ≤ k) ∧ Aside0 (Below w.heap.size w w'))
 case atStart => exact ⟨(0), z17_, H', ⟨Nat.le_refl _⟩, ⟨z0_⟩⟩
 case round =>
  clear H'
  obtain ⟨x8_1, rfl, HA, HK1, HB⟩ := hrel
  cases gk with
  | zero => exact absurd HA.out (by simp [slices_IndexFunc_DomNode.l0])
  | succ k1 =>
   have H := HA.out
   clear HA
   simp only [slices_IndexFunc_DomNode.l0] at H
   by_cases c2 : x8_1 < (l0.length : Int)
   ·rw [if_pos c2] at H
    have c2b0 := decide_eq_true c2
    clear c2
    obtain ⟨c3b0, H⟩ := ifd_ H
    obtain ⟨c4b0, H⟩ := ifd_ H
    obtain ⟨t447, A5, H⟩ := bnd_ H
    by_cases c6 : t447 = true
    ·subst c6
     replace H := ift_ H
     obtain rfl := Option.some.inj H
     obtain ⟨p446, q446, ad446, e446, hx446_0, hx446_1, hx446_2, hx446_3, hx446_4, hx446_5, hx446_6⟩ := atb72_ HR0 HB x8_1
     cases e446
     go_wp2_with ((go_at_call 83; (with_reducible refine (impl_DomInsert_lit1.calls ((rd_T72 l0 x8_1).f0) ((rd_T72 l0 x8_1).f1) ((rd_T72 l0 x8_1).f2) ((rd_T72 l0 x8_1).f3) ((rd_T72 l0 x8_1).f4) ((rd_T72 l0 x8_1).f5) ((rd_T72 l0 x8_1).f6) true _ A5.out).mono ?_); rintro e w7 ⟨rfl, hb⟩; replace HB := Aside0.mk (below_step z0_ hb); (try clear hb)))
     go_ret
     exact ⟨z4_, z0_⟩
    ·replace c6 := Bool.eq_false_iff.mpr c6
     subst c6
     replace H := iff_ H
     have H' := Aside0.mk H
     clear H
     obtain ⟨p446, q446, ad446, e446, hx446_0, hx446_1, hx446_2, hx446_3, hx446_4, hx446_5, hx446_6⟩ := atb72_ HR0 HB x8_1
     cases e446
     go_wp2_with ((go_at_call 83; (with_reducible refine (impl_DomInsert_lit1.calls ((rd_T72 l0 x8_1).f0) ((rd_T72 l0 x8_1).f1) ((rd_T72 l0 x8_1).f2) ((rd_T72 l0 x8_1).f3) ((rd_T72 l0 x8_1).f4) ((rd_T72 l0 x8_1).f5) ((rd_T72 l0 x8_1).f6) false _ A5.out).mono ?_); rintro e w8 ⟨rfl, hb⟩; replace HB := Aside0.mk (below_step z0_ hb); (try clear hb)))
     go_roundg k1
     case measure => have := HK1.out; omega
     case rel => exact ⟨(wrap64 (x8_1 + 1)), z17_, H', ⟨z259_⟩, ⟨z0_⟩⟩
   ·rw [if_neg c2] at H
    have c2b0 := decide_eq_false c2
    clear c2
    obtain rfl := Option.some.inj H
    go_wp2
    go_ret
    exact ⟨z4_, z0_⟩

end Go.Proofs.Ytdapeboajjidmab.PFnExactDomInsert
