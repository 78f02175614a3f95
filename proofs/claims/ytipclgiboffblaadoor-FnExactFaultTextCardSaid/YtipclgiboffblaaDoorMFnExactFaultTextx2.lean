/- Laid by a program of this session out of the kit's print for the law FnExactFaultText: what it says of the machine is proved here, function by function; each contract under the conditions that it names. -/
import Derived.Test.YtipclgiboffblaaDoorShelf
import Derived.Lib.AppendIntMem
import Derived.Test.YtipclgiboffblaaDoorMFnExactFaultTextx0
import Derived.Test.YtipclgiboffblaaDoorMFnExactFaultTextx1
namespace Go.Proofs.YtipclgiboffblaaDoor.PFnExactFaultText
open Go.RowKit Go.Proofs.YtipclgiboffblaaDoorW.PrintWords Go.Proofs.YtipclgiboffblaaDoorW.PrintLast Go.Proofs.YtipclgiboffblaaDoorW.PrintMore
attribute [local go_sem] max2_int min2_int max_two min_two max_three min_three max_four min_four   -- for this text's walks alone
set_option linter.unusedVariables false
set_option linter.unusedSimpArgs false

/-! ### impl_CodeName: function 26 -/
def impl_CodeName.f (a0 : Int) : Option (ByteArray) := (spec_l1In.f a0 0 7).bind fun t147 => (if t147 = true then ((some (([(⟨#[111, 107]⟩ : ByteArray), (⟨#[107, 105, 110, 100]⟩ : ByteArray), (⟨#[112, 97, 116, 104]⟩ : ByteArray), (⟨#[108, 97, 98, 101, 108]⟩ : ByteArray), (⟨#[114, 111, 111, 116]⟩ : ByteArray), (⟨#[114, 97, 110, 103, 101]⟩ : ByteArray), (⟨#[115, 105, 122, 101]⟩ : ByteArray), (⟨#[100, 101, 112, 116, 104]⟩ : ByteArray)] : List ByteArray) : List ByteArray)).bind fun y148 => (if 0 ≤ a0 then (if a0 < (y148.length : Int) then (some (rdOf ByteArray.empty y148 a0)) else (none)) else (none))) else (some (⟨#[]⟩ : ByteArray)))
set_option maxHeartbeats 8000000 in
set_option maxRecDepth 100000 in
theorem impl_CodeName.calls (a0 : Int) (r : ByteArray) (w : World) (h : impl_CodeName.f a0 = some r) :
  Calls Tryd.prog 26 #[.int .i64 a0] w fun e w' => e = .returned (.string r) ∧ Below w.heap.size w w' := by
 have hv : a0 < 0 ∨ 7 < a0 ∨ a0 = 0 ∨ a0 = 1 ∨ a0 = 2 ∨ a0 = 3 ∨ a0 = 4 ∨ a0 = 5 ∨ a0 = 6 ∨ a0 = 7 := by omega
 rcases hv with hv | hv | rfl | rfl | rfl | rfl | rfl | rfl | rfl | rfl
 ·have e : r = ⟨#[]⟩ := by
   have h1 : ¬ a0 ≥ 0 := by omega
   simp only [impl_CodeName.f, spec_l1In.f, if_neg h1, Option.bind_some] at h
   exact (Option.some.inj (by simpa using h)).symm
  have hb_ : decide (0 ≤ a0) = false := decide_eq_false (by omega)
  clear h hv
  subst e
  go_enter Tryd.func26, Tryd.ntmps26
  go_wp2
  go_ret
  exact ⟨rfl, z1_⟩
 ·have e : r = ⟨#[]⟩ := by
   have h1 : a0 ≥ 0 := by omega
   have h2 : ¬ a0 ≤ 7 := by omega
   simp only [impl_CodeName.f, spec_l1In.f, if_pos h1, Option.bind_some, decide_eq_false h2] at h
   exact (Option.some.inj (by simpa using h)).symm
  have hb_ : decide (0 ≤ a0) = true := decide_eq_true (by omega)
  have hc_ : decide (a0 ≤ 7) = false := decide_eq_false (by omega)
  clear h hv
  subst e
  go_enter Tryd.func26, Tryd.ntmps26
  go_wp2
  go_ret
  exact ⟨rfl, z1_⟩
 ·have e : r = ⟨#[111, 107]⟩ := by
   have h1 : impl_CodeName.f 0 = some ⟨#[111, 107]⟩ := by rfl
   exact Option.some.inj (h.symm.trans h1)
  clear h
  subst e
  go_enter Tryd.func26, Tryd.ntmps26
  go_wp2
  go_ret
  exact ⟨rfl, z1_⟩
 ·have e : r = ⟨#[107, 105, 110, 100]⟩ := by
   have h1 : impl_CodeName.f 1 = some ⟨#[107, 105, 110, 100]⟩ := by rfl
   exact Option.some.inj (h.symm.trans h1)
  clear h
  subst e
  go_enter Tryd.func26, Tryd.ntmps26
  go_wp2
  go_ret
  exact ⟨rfl, z1_⟩
 ·have e : r = ⟨#[112, 97, 116, 104]⟩ := by
   have h1 : impl_CodeName.f 2 = some ⟨#[112, 97, 116, 104]⟩ := by rfl
   exact Option.some.inj (h.symm.trans h1)
  clear h
  subst e
  go_enter Tryd.func26, Tryd.ntmps26
  go_wp2
  go_ret
  exact ⟨rfl, z1_⟩
 ·have e : r = ⟨#[108, 97, 98, 101, 108]⟩ := by
   have h1 : impl_CodeName.f 3 = some ⟨#[108, 97, 98, 101, 108]⟩ := by rfl
   exact Option.some.inj (h.symm.trans h1)
  clear h
  subst e
  go_enter Tryd.func26, Tryd.ntmps26
  go_wp2
  go_ret
  exact ⟨rfl, z1_⟩
 ·have e : r = ⟨#[114, 111, 111, 116]⟩ := by
   have h1 : impl_CodeName.f 4 = some ⟨#[114, 111, 111, 116]⟩ := by rfl
   exact Option.some.inj (h.symm.trans h1)
  clear h
  subst e
  go_enter Tryd.func26, Tryd.ntmps26
  go_wp2
  go_ret
  exact ⟨rfl, z1_⟩
 ·have e : r = ⟨#[114, 97, 110, 103, 101]⟩ := by
   have h1 : impl_CodeName.f 5 = some ⟨#[114, 97, 110, 103, 101]⟩ := by rfl
   exact Option.some.inj (h.symm.trans h1)
  clear h
  subst e
  go_enter Tryd.func26, Tryd.ntmps26
  go_wp2
  go_ret
  exact ⟨rfl, z1_⟩
 ·have e : r = ⟨#[115, 105, 122, 101]⟩ := by
   have h1 : impl_CodeName.f 6 = some ⟨#[115, 105, 122, 101]⟩ := by rfl
   exact Option.some.inj (h.symm.trans h1)
  clear h
  subst e
  go_enter Tryd.func26, Tryd.ntmps26
  go_wp2
  go_ret
  exact ⟨rfl, z1_⟩
 ·have e : r = ⟨#[100, 101, 112, 116, 104]⟩ := by
   have h1 : impl_CodeName.f 7 = some ⟨#[100, 101, 112, 116, 104]⟩ := by rfl
   exact Option.some.inj (h.symm.trans h1)
  clear h
  subst e
  go_enter Tryd.func26, Tryd.ntmps26
  go_wp2
  go_ret
  exact ⟨rfl, z1_⟩

/-! ### impl_FaultText: function 8 -/
def impl_FaultText.f (k : Nat) (a0_0 : Int) (a0_1 : Int) (a0_2 : Int) : Option (ByteArray) := if a0_0 = 0 then (some (⟨#[111, 107]⟩ : ByteArray)) else (if a0_0 = 1 then ((impl_TreeCode.f a0_1).bind fun t153 => (if 6 + t153.size ≤ 9223372036854775807 then (some ((⟨#[102, 105, 114, 115, 116, 32]⟩ : ByteArray) ++ t153)) else (none))) else (if a0_0 = 2 then ((impl_TreeCode.f a0_1).bind fun t154 => (if 7 + t154.size ≤ 9223372036854775807 then (some ((⟨#[115, 101, 99, 111, 110, 100, 32]⟩ : ByteArray) ++ t154)) else (none))) else (if a0_0 = 3 then (some (⟨#[99, 111, 115, 116]⟩ : ByteArray)) else (if a0_0 = 4 then ((impl_ScriptCode.f a0_1).bind fun t155 => (if 7 + t155.size ≤ 9223372036854775807 then (some ((⟨#[115, 99, 114, 105, 112, 116, 32]⟩ : ByteArray) ++ t155)) else (none))) else (if a0_0 = 5 then ((impl_Dec.f k a0_2).bind fun t156 => (if 3 + t156.size ≤ 9223372036854775807 then (if ((⟨#[111, 112, 32]⟩ : ByteArray) ++ t156).size + 1 ≤ 9223372036854775807 then ((impl_CodeName.f a0_1).bind fun t157 => (if (((⟨#[111, 112, 32]⟩ : ByteArray) ++ t156) ++ (⟨#[32]⟩ : ByteArray)).size + t157.size ≤ 9223372036854775807 then (some ((((⟨#[111, 112, 32]⟩ : ByteArray) ++ t156) ++ (⟨#[32]⟩ : ByteArray)) ++ t157)) else (none))) else (none)) else (none))) else (some (⟨#[]⟩ : ByteArray)))))))
def impl_FaultText.T13 : Bool × List (List Nat × List Nat) := (true, [([], []), ([0], [0]), ([1], [1]), ([2], [2]), ([3], [3]), ([], []), ([5], [5]), ([6, 2], [6]), ([4, 7], [4, 7]), ([8, 7, 0, 1, 2, 3, 4, 5, 6, 7, 8], [8])])
def impl_FaultText.B13 : List Nat := [0, 1, 3, 7, 15, 0, 32, 103, 255, 511]
theorem impl_FaultText.tab13 : rtab .any (opsOf Tryd.f8 13) = impl_FaultText.T13 := by kernel_rfl
theorem impl_FaultText.bits13 : waitsOk impl_FaultText.T13.2 impl_FaultText.B13 = true := by kernel_rfl
set_option maxHeartbeats 8000000 in
set_option maxRecDepth 100000 in
theorem impl_FaultText.calls (k : Nat) (a0_0 : Int) (a0_1 : Int) (a0_2 : Int) (r : ByteArray) (w : World) (hT : Lib.TabIs Tryd.prog w "internal/strconv.uint64pow10" .u64 Lib.pow10Tab) (hr : -9223372036854775808 ≤ a0_2 ∧ a0_2 ≤ 9223372036854775807) (h : impl_FaultText.f k a0_0 a0_1 a0_2 = some r) :
  Calls Tryd.prog 8 #[.agg #[.int .i64 a0_0, .int .i64 a0_1, .int .i64 a0_2]] w fun e w' => e = .returned (.string r) ∧ Below w.heap.size w w' := by
 have hu25 := Tryd.underlying25
 have HB := Aside0.mk (Below.refl w.heap.size w)
 have H : (if a0_0 = 0 then (some (⟨#[111, 107]⟩ : ByteArray)) else (if a0_0 = 1 then ((impl_TreeCode.f a0_1).bind fun t153 => (if 6 + t153.size ≤ 9223372036854775807 then (some ((⟨#[102, 105, 114, 115, 116, 32]⟩ : ByteArray) ++ t153)) else (none))) else (if a0_0 = 2 then ((impl_TreeCode.f a0_1).bind fun t154 => (if 7 + t154.size ≤ 9223372036854775807 then (some ((⟨#[115, 101, 99, 111, 110, 100, 32]⟩ : ByteArray) ++ t154)) else (none))) else (if a0_0 = 3 then (some (⟨#[99, 111, 115, 116]⟩ : ByteArray)) else (if a0_0 = 4 then ((impl_ScriptCode.f a0_1).bind fun t155 => (if 7 + t155.size ≤ 9223372036854775807 then (some ((⟨#[115, 99, 114, 105, 112, 116, 32]⟩ : ByteArray) ++ t155)) else (none))) else (if a0_0 = 5 then ((impl_Dec.f k a0_2).bind fun t156 => (if 3 + t156.size ≤ 9223372036854775807 then (if ((⟨#[111, 112, 32]⟩ : ByteArray) ++ t156).size + 1 ≤ 9223372036854775807 then ((impl_CodeName.f a0_1).bind fun t157 => (if (((⟨#[111, 112, 32]⟩ : ByteArray) ++ t156) ++ (⟨#[32]⟩ : ByteArray)).size + t157.size ≤ 9223372036854775807 then (some ((((⟨#[111, 112, 32]⟩ : ByteArray) ++ t156) ++ (⟨#[32]⟩ : ByteArray)) ++ t157)) else (none))) else (none)) else (none))) else (some (⟨#[]⟩ : ByteArray)))))))) = some r := h
 clear h
 by_cases c2 : a0_0 = 0
 ·rw [if_pos c2] at H
  have c2b0 : (a0_0 == 0) = true := beq_iff_eq.mpr c2
  have c2b1 : (a0_0 != 0) = false := bne_eq_false_iff_eq.mpr c2
  clear c2
  obtain rfl := Option.some.inj H
  go_enter Tryd.func8, Tryd.ntmps8
  go_wp2_with (first | ((with_reducible refine gate_dst (N := 1) rfl ?_); refine box_event ?hg (N := 1) ?hd (cs := #[.int .i64 a0_0, .int .i64 a0_1, .int .i64 a0_2]) (t := 25) ?hr ?_; (case hd => rfl); (case hg => rfl); (case hr => exact z7_); intro gb152 hg w3 hbox hb; have BK152 := Aside0.mk (hbox); have GW152 := Aside0.mk ((by rw [hg]; exact (below_size z0_) : w.heap.size ≤ gb152)); have GE152 := Aside0.mk ((by rw [hg]; exact (below_size z0_) : w.heap.size ≤ gb152)); replace HB := Aside0.mk (below_step z0_ hb); clear hb hbox hg; obtain ⟨hcz4_0, hcz4_1, hcz4_2, hfz4_0, hfz4_1, hfz4_2⟩ := bx3_ BK152.out))
  go_ret
  exact ⟨z3_, z5_⟩
 ·rw [if_neg c2] at H
  have c2b0 : (a0_0 == 0) = false := beq_eq_false_iff_ne.mpr c2
  have c2b1 : (a0_0 != 0) = true := bne_iff_ne.mpr c2
  by_cases c5 : a0_0 = 1
  ·rw [if_pos c5] at H
   have c5b0 : (a0_0 == 1) = true := beq_iff_eq.mpr c5
   have c5b1 : (a0_0 != 1) = false := bne_eq_false_iff_eq.mpr c5
   clear c5
   obtain ⟨t153, A6, H⟩ := bnd_ H
   obtain ⟨c7, H⟩ := ifs_ H
   have c7b0 := eq_true c7
   have c7b1 := decide_eq_true c7
   try have c7b2 : (9223372036854775807 < 6 + t153.size) = False := eq_false (Nat.not_lt.2 c7)
   obtain rfl := Option.some.inj H
   go_enter Tryd.func8, Tryd.ntmps8
   go_wp2_with (first | ((with_reducible refine gate_dst (N := 1) rfl ?_); refine box_event ?hg (N := 1) ?hd (cs := #[.int .i64 a0_0, .int .i64 a0_1, .int .i64 a0_2]) (t := 25) ?hr ?_; (case hd => rfl); (case hg => rfl); (case hr => exact z7_); intro gb152 hg w8 hbox hb; have BK152 := Aside0.mk (hbox); have GW152 := Aside0.mk ((by rw [hg]; exact (below_size z0_) : w.heap.size ≤ gb152)); have GE152 := Aside0.mk ((by rw [hg]; exact (below_size z0_) : w.heap.size ≤ gb152)); replace HB := Aside0.mk (below_step z0_ hb); clear hb hbox hg; obtain ⟨hcz9_0, hcz9_1, hcz9_2, hfz9_0, hfz9_1, hfz9_2⟩ := bx3_ BK152.out) | ((with_reducible refine gate_callee (f := 23) rfl ?_); refine goesL_ (some 11) rfl rfl Tryd.func23 (by kernel_rfl) rfl #[.int .i64 a0_1] rfl z2_ ?_; (with_reducible refine (impl_TreeCode.calls a0_1 t153 _ A6.out).mono ?_); rintro e w10 ⟨rfl, hb⟩; refine ⟨_, rfl, ?_⟩; replace BK152 := Aside0.mk (blk_below (g := gb152) (o := .cells #[.int .i64 a0_0, .int .i64 a0_1, .int .i64 a0_2] 25 (0, 0)) z12_ hb); replace HB := Aside0.mk (below_step z5_ hb); (try clear hb)))
   go_ret
   exact ⟨z3_, z5_⟩
  ·rw [if_neg c5] at H
   have c5b0 : (a0_0 == 1) = false := beq_eq_false_iff_ne.mpr c5
   have c5b1 : (a0_0 != 1) = true := bne_iff_ne.mpr c5
   by_cases c11 : a0_0 = 2
   ·rw [if_pos c11] at H
    have c11b0 : (a0_0 == 2) = true := beq_iff_eq.mpr c11
    have c11b1 : (a0_0 != 2) = false := bne_eq_false_iff_eq.mpr c11
    clear c11
    obtain ⟨t154, A12, H⟩ := bnd_ H
    obtain ⟨c13, H⟩ := ifs_ H
    have c13b0 := eq_true c13
    have c13b1 := decide_eq_true c13
    try have c13b2 : (9223372036854775807 < 7 + t154.size) = False := eq_false (Nat.not_lt.2 c13)
    obtain rfl := Option.some.inj H
    go_enter Tryd.func8, Tryd.ntmps8
    go_wp2_with (first | ((with_reducible refine gate_dst (N := 1) rfl ?_); refine box_event ?hg (N := 1) ?hd (cs := #[.int .i64 a0_0, .int .i64 a0_1, .int .i64 a0_2]) (t := 25) ?hr ?_; (case hd => rfl); (case hg => rfl); (case hr => exact z7_); intro gb152 hg w14 hbox hb; have BK152 := Aside0.mk (hbox); have GW152 := Aside0.mk ((by rw [hg]; exact (below_size z0_) : w.heap.size ≤ gb152)); have GE152 := Aside0.mk ((by rw [hg]; exact (below_size z0_) : w.heap.size ≤ gb152)); replace HB := Aside0.mk (below_step z0_ hb); clear hb hbox hg; obtain ⟨hcz15_0, hcz15_1, hcz15_2, hfz15_0, hfz15_1, hfz15_2⟩ := bx3_ BK152.out) | ((with_reducible refine gate_callee (f := 23) rfl ?_); refine goesL_ (some 17) rfl rfl Tryd.func23 (by kernel_rfl) rfl #[.int .i64 a0_1] rfl z2_ ?_; (with_reducible refine (impl_TreeCode.calls a0_1 t154 _ A12.out).mono ?_); rintro e w16 ⟨rfl, hb⟩; refine ⟨_, rfl, ?_⟩; replace BK152 := Aside0.mk (blk_below (g := gb152) (o := .cells #[.int .i64 a0_0, .int .i64 a0_1, .int .i64 a0_2] 25 (0, 0)) z12_ hb); replace HB := Aside0.mk (below_step z5_ hb); (try clear hb)))
    go_ret
    exact ⟨z3_, z5_⟩
   ·rw [if_neg c11] at H
    have c11b0 : (a0_0 == 2) = false := beq_eq_false_iff_ne.mpr c11
    have c11b1 : (a0_0 != 2) = true := bne_iff_ne.mpr c11
    by_cases c17 : a0_0 = 3
    ·rw [if_pos c17] at H
     have c17b0 : (a0_0 == 3) = true := beq_iff_eq.mpr c17
     have c17b1 : (a0_0 != 3) = false := bne_eq_false_iff_eq.mpr c17
     clear c17
     obtain rfl := Option.some.inj H
     go_enter Tryd.func8, Tryd.ntmps8
     go_wp2_with (first | ((with_reducible refine gate_dst (N := 1) rfl ?_); refine box_event ?hg (N := 1) ?hd (cs := #[.int .i64 a0_0, .int .i64 a0_1, .int .i64 a0_2]) (t := 25) ?hr ?_; (case hd => rfl); (case hg => rfl); (case hr => exact z7_); intro gb152 hg w18 hbox hb; have BK152 := Aside0.mk (hbox); have GW152 := Aside0.mk ((by rw [hg]; exact (below_size z0_) : w.heap.size ≤ gb152)); have GE152 := Aside0.mk ((by rw [hg]; exact (below_size z0_) : w.heap.size ≤ gb152)); replace HB := Aside0.mk (below_step z0_ hb); clear hb hbox hg; obtain ⟨hcz19_0, hcz19_1, hcz19_2, hfz19_0, hfz19_1, hfz19_2⟩ := bx3_ BK152.out))
     go_ret
     exact ⟨z3_, z5_⟩
    ·rw [if_neg c17] at H
     have c17b0 : (a0_0 == 3) = false := beq_eq_false_iff_ne.mpr c17
     have c17b1 : (a0_0 != 3) = true := bne_iff_ne.mpr c17
     by_cases c20 : a0_0 = 4
     ·rw [if_pos c20] at H
      have c20b0 : (a0_0 == 4) = true := beq_iff_eq.mpr c20
      have c20b1 : (a0_0 != 4) = false := bne_eq_false_iff_eq.mpr c20
      clear c20
      obtain ⟨t155, A21, H⟩ := bnd_ H
      obtain ⟨c22, H⟩ := ifs_ H
      have c22b0 := eq_true c22
      have c22b1 := decide_eq_true c22
      try have c22b2 : (9223372036854775807 < 7 + t155.size) = False := eq_false (Nat.not_lt.2 c22)
      obtain rfl := Option.some.inj H
      go_enter Tryd.func8, Tryd.ntmps8
      go_wp2_with (first | ((with_reducible refine gate_dst (N := 1) rfl ?_); refine box_event ?hg (N := 1) ?hd (cs := #[.int .i64 a0_0, .int .i64 a0_1, .int .i64 a0_2]) (t := 25) ?hr ?_; (case hd => rfl); (case hg => rfl); (case hr => exact z7_); intro gb152 hg w23 hbox hb; have BK152 := Aside0.mk (hbox); have GW152 := Aside0.mk ((by rw [hg]; exact (below_size z0_) : w.heap.size ≤ gb152)); have GE152 := Aside0.mk ((by rw [hg]; exact (below_size z0_) : w.heap.size ≤ gb152)); replace HB := Aside0.mk (below_step z0_ hb); clear hb hbox hg; obtain ⟨hcz24_0, hcz24_1, hcz24_2, hfz24_0, hfz24_1, hfz24_2⟩ := bx3_ BK152.out) | ((with_reducible refine gate_callee (f := 24) rfl ?_); refine goesL_ (some 25) rfl rfl Tryd.func24 (by kernel_rfl) rfl #[.int .i64 a0_1] rfl z2_ ?_; (with_reducible refine (impl_ScriptCode.calls a0_1 t155 _ A21.out).mono ?_); rintro e w25 ⟨rfl, hb⟩; refine ⟨_, rfl, ?_⟩; replace BK152 := Aside0.mk (blk_below (g := gb152) (o := .cells #[.int .i64 a0_0, .int .i64 a0_1, .int .i64 a0_2] 25 (0, 0)) z12_ hb); replace HB := Aside0.mk (below_step z5_ hb); (try clear hb)))
      go_ret
      exact ⟨z3_, z5_⟩
     ·rw [if_neg c20] at H
      have c20b0 : (a0_0 == 4) = false := beq_eq_false_iff_ne.mpr c20
      have c20b1 : (a0_0 != 4) = true := bne_iff_ne.mpr c20
      by_cases c26 : a0_0 = 5
      ·rw [if_pos c26] at H
       have c26b0 : (a0_0 == 5) = true := beq_iff_eq.mpr c26
       have c26b1 : (a0_0 != 5) = false := bne_eq_false_iff_eq.mpr c26
       clear c26
       obtain ⟨t156, A27, H⟩ := bnd_ H
       obtain ⟨c28, H⟩ := ifs_ H
       have c28b0 := eq_true c28
       have c28b1 := decide_eq_true c28
       try have c28b2 : (9223372036854775807 < 3 + t156.size) = False := eq_false (Nat.not_lt.2 c28)
       obtain ⟨c29, H⟩ := ifs_ H
       have c29b0 := eq_true c29
       have c29b1 := decide_eq_true c29
       try have c29b2 : (9223372036854775807 < ((⟨#[111, 112, 32]⟩ : ByteArray) ++ t156).size + 1) = False := eq_false (Nat.not_lt.2 c29)
       have c29s : 3 + t156.size + 1 ≤ 9223372036854775807 := by have e_ := c29; simp only [ByteArray.size_append] at e_; exact e_
       have c29sb : (9223372036854775807 < 3 + t156.size + 1) = False := eq_false (Nat.not_lt.2 c29s)
       obtain ⟨t157, A30, H⟩ := bnd_ H
       obtain ⟨c31, H⟩ := ifs_ H
       have c31b0 := eq_true c31
       have c31b1 := decide_eq_true c31
       try have c31b2 : (9223372036854775807 < (((⟨#[111, 112, 32]⟩ : ByteArray) ++ t156) ++ (⟨#[32]⟩ : ByteArray)).size + t157.size) = False := eq_false (Nat.not_lt.2 c31)
       have c31s : 3 + t156.size + 1 + t157.size ≤ 9223372036854775807 := by have e_ := c31; simp only [ByteArray.size_append] at e_; exact e_
       have c31sb : (9223372036854775807 < 3 + t156.size + 1 + t157.size) = False := eq_false (Nat.not_lt.2 c31s)
       obtain rfl := Option.some.inj H
       go_enter Tryd.func8, Tryd.ntmps8
       try go_wp2_with (first | ((with_reducible refine gate_dst (N := 1) rfl ?_); refine box_event ?hg (N := 1) ?hd (cs := #[.int .i64 a0_0, .int .i64 a0_1, .int .i64 a0_2]) (t := 25) ?hr ?_; (case hd => rfl); (case hg => rfl); (case hr => exact z7_); intro gb152 hg w32 hbox hb; have BK152 := Aside0.mk (hbox); have GW152 := Aside0.mk ((by rw [hg]; exact (below_size z0_) : w.heap.size ≤ gb152)); have GE152 := Aside0.mk ((by rw [hg]; exact (below_size z0_) : w.heap.size ≤ gb152)); replace HB := Aside0.mk (below_step z0_ hb); clear hb hbox hg; obtain ⟨hcz33_0, hcz33_1, hcz33_2, hfz33_0, hfz33_1, hfz33_2⟩ := bx3_ BK152.out))
       have n0_ := Aside0.mk (blk_drew BK152.out)
       have n1_ := Aside0.mk (below_drew1 HB.out)
       clear BK152
       clear HB
       have BK152 := n0_
       have HB := n1_
       clear n0_ n1_
       refine start_ (n := 10) (S := fun w' => w'.cell? ⟨gb152, 0, none⟩ = some (.int .i64 a0_0) ∧ w'.cell? ⟨gb152, 1, none⟩ = some (.int .i64 a0_1) ∧ w'.cell? ⟨gb152, 2, none⟩ = some (.int .i64 a0_2)) (ds := []) (fl_ 10 0) (by kernel_rfl) rfl (fl_zero _) ⟨(blk_cell BK152.out 0).trans rfl, (blk_cell BK152.out 1).trans rfl, (blk_cell BK152.out 2).trans rfl⟩ (fun hHeld => ?_); refine with_tabW impl_FaultText.tab13 impl_FaultText.bits13 (fun HT_ HW_ => ?_)
       generalize w32.drew = w34 at BK152 HB hHeld ⊢
       refine zp_ HT_ rfl rfl (by kernel_rfl) (fun _ _ _ h => h) (by rfl) ?_
       refine zpg_ (i := 5) (ra_ [1, 4, 1, 4]) HT_ rfl rfl (by kernel_rfl) (fun _ _ _ h => h) (by rfl) ?_
       refine ztg_ (i := 1) (ra_ [2, 3, 1, 4]) HT_ HW_ rfl rfl (by kernel_rfl) (fun _ _ _ h => h) (by rfl) hHeld ?_ z17_
       refine ztg_ (i := 6) (ra_ [2, 3, 2, 3]) HT_ HW_ rfl rfl (by kernel_rfl) (fun _ _ _ h => h) (by rfl) hHeld ?_ z17_
       refine one_ (i := 2) (N := some 31) (ra_ [3, 2, 2, 3]) rfl rfl (one_of HT_.out (by kernel_rfl)) (by decide) (fun K hK => ?_)
       refine goes_ Tryd.func25 (by kernel_rfl) rfl #[.int .i64 a0_2] (by rfl) rfl rfl z2_ ?_
       with_reducible refine (impl_Dec.calls k a0_2 t156 _ (tabIs_below hT z0_) hr A27.out).mono ?_
       rintro e w35 ⟨rfl, hb⟩
       refine ⟨_, rfl, ?_⟩
       have n0_ := Aside0.mk (blk_below (g := gb152) (o := .cells #[.int .i64 a0_0, .int .i64 a0_1, .int .i64 a0_2] 25 (0, 0)) z12_ hb)
       have n1_ := Aside0.mk (below_step z5_ hb)
       clear BK152
       clear HB
       have BK152 := n0_
       have HB := n1_
       clear n0_ n1_
       (try clear hb)
       (try clear hb2)
       (try clear hk)
       (try clear hi)
       refine hK.out _ _ ⟨(blk_cell BK152.out 0).trans rfl, (blk_cell BK152.out 1).trans rfl, (blk_cell BK152.out 2).trans rfl⟩ (fun hHeld => ?_)
       clear hK K
       refine zn_ rfl ?_
       refine zpg_ (i := 3) (ra_ [4, 1, 2, 3]) HT_ rfl rfl (by kernel_rfl) (fun _ _ _ h => h) (by rfl) ?_
       refine zpg_ (i := 4) (fl_ 10 7) HT_ rfl rfl (by kernel_rfl) (fun _ _ _ h => h) (by rfl) ?_
       refine one_ (i := 7) (N := some 36) (fl_ 10 8) rfl rfl (one_of HT_.out (by kernel_rfl)) (by decide) (fun K hK => ?_)
       refine goes_ Tryd.func26 (by kernel_rfl) rfl #[.int .i64 a0_1] (by rfl) rfl rfl z2_ ?_
       with_reducible refine (impl_CodeName.calls a0_1 t157 _ A30.out).mono ?_
       rintro e w36 ⟨rfl, hb⟩
       refine ⟨_, rfl, ?_⟩
       have n0_ := Aside0.mk (blk_below (g := gb152) (o := .cells #[.int .i64 a0_0, .int .i64 a0_1, .int .i64 a0_2] 25 (0, 0)) z12_ hb)
       have n1_ := Aside0.mk (below_step z5_ hb)
       clear BK152
       clear HB
       have BK152 := n0_
       have HB := n1_
       clear n0_ n1_
       (try clear hb)
       (try clear hb2)
       (try clear hk)
       (try clear hi)
       refine hK.out _ _ ⟨(blk_cell BK152.out 0).trans rfl, (blk_cell BK152.out 1).trans rfl, (blk_cell BK152.out 2).trans rfl⟩ (fun hHeld => ?_)
       clear hK K
       refine zn_ rfl ?_
       iterate 2 refine zp_ HT_ rfl rfl (by kernel_rfl) (fun _ _ _ h => h) (by rfl) ?_
       refine done_ (done_of HT_.out (by kernel_rfl)) ?_
       try go_wp2
       go_ret
       exact ⟨z3_, z5_⟩
      ·rw [if_neg c26] at H
       have c26b0 : (a0_0 == 5) = false := beq_eq_false_iff_ne.mpr c26
       have c26b1 : (a0_0 != 5) = true := bne_iff_ne.mpr c26
       obtain rfl := Option.some.inj H
       go_enter Tryd.func8, Tryd.ntmps8
       go_wp2_with (first | ((with_reducible refine gate_dst (N := 1) rfl ?_); refine box_event ?hg (N := 1) ?hd (cs := #[.int .i64 a0_0, .int .i64 a0_1, .int .i64 a0_2]) (t := 25) ?hr ?_; (case hd => rfl); (case hg => rfl); (case hr => exact z7_); intro gb152 hg w37 hbox hb; have BK152 := Aside0.mk (hbox); have GW152 := Aside0.mk ((by rw [hg]; exact (below_size z0_) : w.heap.size ≤ gb152)); have GE152 := Aside0.mk ((by rw [hg]; exact (below_size z0_) : w.heap.size ≤ gb152)); replace HB := Aside0.mk (below_step z0_ hb); clear hb hbox hg; obtain ⟨hcz38_0, hcz38_1, hcz38_2, hfz38_0, hfz38_1, hfz38_2⟩ := bx3_ BK152.out))
       go_ret
       exact ⟨z3_, z5_⟩

/-! ### laws_FnExactFaultText: function 3 -/
def laws_FnExactFaultText.f (k : Nat) (a0_0 : Int) (a0_1 : Int) (a0_2 : Int) : Option (Bool) := (laws_toFault.f a0_0 a0_1 a0_2).bind fun bt159 => ((spec_FaultText.f k bt159.1 bt159.2.1 bt159.2.2).bind fun t162 => ((laws_toFault.f a0_0 a0_1 a0_2).bind fun bt163 => ((impl_FaultText.f k bt163.1 bt163.2.1 bt163.2.2).bind fun t166 => (if t166.toList = t162.toList then (some true) else (some false)))))
set_option maxHeartbeats 8000000 in
set_option maxRecDepth 100000 in
theorem laws_FnExactFaultText.calls (k : Nat) (a0_0 : Int) (a0_1 : Int) (a0_2 : Int) (r : Bool) (w : World) (hT : Lib.TabIs Tryd.prog w "internal/strconv.uint64pow10" .u64 Lib.pow10Tab) (hr : -9223372036854775808 ≤ a0_2 ∧ a0_2 ≤ 9223372036854775807) (h : laws_FnExactFaultText.f k a0_0 a0_1 a0_2 = some r) :
  Calls Tryd.prog 3 #[.agg #[.int .i64 a0_0, .int .i64 a0_1, .int .i64 a0_2]] w fun e w' => e = .returned (.bool r) ∧ Below w.heap.size w w' := by
 have hu23 := Tryd.underlying23
 have HB := Aside0.mk (Below.refl w.heap.size w)
 have H : ((laws_toFault.f a0_0 a0_1 a0_2).bind fun bt159 => ((spec_FaultText.f k bt159.1 bt159.2.1 bt159.2.2).bind fun t162 => ((laws_toFault.f a0_0 a0_1 a0_2).bind fun bt163 => ((impl_FaultText.f k bt163.1 bt163.2.1 bt163.2.2).bind fun t166 => (if t166.toList = t162.toList then (some true) else (some false)))))) = some r := h
 clear h
 replace H := Option.bind_eq_some_iff.mp H
 obtain ⟨⟨t159, t160, t161⟩, A20, H⟩ := H
 try dsimp only at H
 have A2 := Aside0.mk A20
 clear A20
 obtain ⟨t162, A3, H⟩ := bnd_ H
 replace H := Option.bind_eq_some_iff.mp H
 obtain ⟨⟨t163, t164, t165⟩, A40, H⟩ := H
 try dsimp only at H
 have A4 := Aside0.mk A40
 clear A40
 obtain ⟨t166, A5, H⟩ := bnd_ H
 by_cases c6 : t166.toList = t162.toList
 ·rw [if_pos c6] at H
  have c6b0 : (t166.toList == t162.toList) = true := beq_iff_eq.mpr c6
  have c6b1 : (t166.toList != t162.toList) = false := bne_eq_false_iff_eq.mpr c6
  clear c6
  obtain rfl := Option.some.inj H
  go_enter Tryd.func3, Tryd.ntmps3
  go_wp2_with (first | ((with_reducible refine gate_dst (N := 1) rfl ?_); refine box_event ?hg (N := 1) ?hd (cs := #[.int .i64 a0_0, .int .i64 a0_1, .int .i64 a0_2]) (t := 23) ?hr ?_; (case hd => rfl); (case hg => rfl); (case hr => exact z7_); intro gb158 hg w7 hbox hb; have BK158 := Aside0.mk (hbox); have GW158 := Aside0.mk ((by rw [hg]; exact (below_size z0_) : w.heap.size ≤ gb158)); have GE158 := Aside0.mk ((by rw [hg]; exact (below_size z0_) : w.heap.size ≤ gb158)); replace HB := Aside0.mk (below_step z0_ hb); clear hb hbox hg; obtain ⟨hcz8_0, hcz8_1, hcz8_2, hfz8_0, hfz8_1, hfz8_2⟩ := bx3_ BK158.out) | ((with_reducible refine gate_callee (f := 7) rfl ?_); refine goesL_ (some 6) rfl rfl Tryd.func7 (by kernel_rfl) rfl #[.agg #[.int .i64 a0_0, .int .i64 a0_1, .int .i64 a0_2]] rfl z2_ ?_; (with_reducible refine (laws_toFault.calls a0_0 a0_1 a0_2 t159 t160 t161 _ A2.out).mono ?_); rintro e w9 ⟨rfl, hb⟩; refine ⟨_, rfl, ?_⟩; replace BK158 := Aside0.mk (blk_below (g := gb158) (o := .cells #[.int .i64 a0_0, .int .i64 a0_1, .int .i64 a0_2] 23 (0, 0)) z8_ hb); replace HB := Aside0.mk (below_step z6_ hb); (try clear hb)) | ((with_reducible refine gate_callee (f := 6) rfl ?_); refine goesL_ (some 7) rfl rfl Tryd.func6 (by kernel_rfl) rfl #[.agg #[.int .i64 t159, .int .i64 t160, .int .i64 t161]] rfl z2_ ?_; (with_reducible refine (spec_FaultText.calls k t159 t160 t161 t162 _ A3.out).mono ?_); rintro e w10 ⟨rfl, hb⟩; refine ⟨_, rfl, ?_⟩; replace BK158 := Aside0.mk (blk_below (g := gb158) (o := .cells #[.int .i64 a0_0, .int .i64 a0_1, .int .i64 a0_2] 23 (0, 0)) z8_ hb); replace HB := Aside0.mk (below_step z6_ hb); (try clear hb); obtain ⟨hcz11_0, hcz11_1, hcz11_2, hfz11_0, hfz11_1, hfz11_2⟩ := bx3_ BK158.out) | ((with_reducible refine gate_callee (f := 7) rfl ?_); refine goesL_ (some 9) rfl rfl Tryd.func7 (by kernel_rfl) rfl #[.agg #[.int .i64 a0_0, .int .i64 a0_1, .int .i64 a0_2]] rfl z2_ ?_; (with_reducible refine (laws_toFault.calls a0_0 a0_1 a0_2 t163 t164 t165 _ A4.out).mono ?_); rintro e w12 ⟨rfl, hb⟩; refine ⟨_, rfl, ?_⟩; replace BK158 := Aside0.mk (blk_below (g := gb158) (o := .cells #[.int .i64 a0_0, .int .i64 a0_1, .int .i64 a0_2] 23 (0, 0)) z8_ hb); replace HB := Aside0.mk (below_step z6_ hb); (try clear hb)) | ((with_reducible refine gate_callee (f := 8) rfl ?_); refine goesL_ (some 10) rfl rfl Tryd.func8 (by kernel_rfl) rfl #[.agg #[.int .i64 t163, .int .i64 t164, .int .i64 t165]] rfl z2_ ?_; (with_reducible refine (impl_FaultText.calls k t163 t164 t165 t166 _ (tabIs_below hT z0_) z16_ A5.out).mono ?_); rintro e w13 ⟨rfl, hb⟩; refine ⟨_, rfl, ?_⟩; replace BK158 := Aside0.mk (blk_below (g := gb158) (o := .cells #[.int .i64 a0_0, .int .i64 a0_1, .int .i64 a0_2] 23 (0, 0)) z8_ hb); replace HB := Aside0.mk (below_step z6_ hb); (try clear hb)))
  go_ret
  exact ⟨z3_, z6_⟩
 ·rw [if_neg c6] at H
  have c6b0 : (t166.toList == t162.toList) = false := beq_eq_false_iff_ne.mpr c6
  have c6b1 : (t166.toList != t162.toList) = true := bne_iff_ne.mpr c6
  obtain rfl := Option.some.inj H
  go_enter Tryd.func3, Tryd.ntmps3
  go_wp2_with (first | ((with_reducible refine gate_dst (N := 1) rfl ?_); refine box_event ?hg (N := 1) ?hd (cs := #[.int .i64 a0_0, .int .i64 a0_1, .int .i64 a0_2]) (t := 23) ?hr ?_; (case hd => rfl); (case hg => rfl); (case hr => exact z7_); intro gb158 hg w14 hbox hb; have BK158 := Aside0.mk (hbox); have GW158 := Aside0.mk ((by rw [hg]; exact (below_size z0_) : w.heap.size ≤ gb158)); have GE158 := Aside0.mk ((by rw [hg]; exact (below_size z0_) : w.heap.size ≤ gb158)); replace HB := Aside0.mk (below_step z0_ hb); clear hb hbox hg; obtain ⟨hcz15_0, hcz15_1, hcz15_2, hfz15_0, hfz15_1, hfz15_2⟩ := bx3_ BK158.out) | ((with_reducible refine gate_callee (f := 7) rfl ?_); refine goesL_ (some 6) rfl rfl Tryd.func7 (by kernel_rfl) rfl #[.agg #[.int .i64 a0_0, .int .i64 a0_1, .int .i64 a0_2]] rfl z2_ ?_; (with_reducible refine (laws_toFault.calls a0_0 a0_1 a0_2 t159 t160 t161 _ A2.out).mono ?_); rintro e w16 ⟨rfl, hb⟩; refine ⟨_, rfl, ?_⟩; replace BK158 := Aside0.mk (blk_below (g := gb158) (o := .cells #[.int .i64 a0_0, .int .i64 a0_1, .int .i64 a0_2] 23 (0, 0)) z8_ hb); replace HB := Aside0.mk (below_step z6_ hb); (try clear hb)) | ((with_reducible refine gate_callee (f := 6) rfl ?_); refine goesL_ (some 7) rfl rfl Tryd.func6 (by kernel_rfl) rfl #[.agg #[.int .i64 t159, .int .i64 t160, .int .i64 t161]] rfl z2_ ?_; (with_reducible refine (spec_FaultText.calls k t159 t160 t161 t162 _ A3.out).mono ?_); rintro e w17 ⟨rfl, hb⟩; refine ⟨_, rfl, ?_⟩; replace BK158 := Aside0.mk (blk_below (g := gb158) (o := .cells #[.int .i64 a0_0, .int .i64 a0_1, .int .i64 a0_2] 23 (0, 0)) z8_ hb); replace HB := Aside0.mk (below_step z6_ hb); (try clear hb); obtain ⟨hcz18_0, hcz18_1, hcz18_2, hfz18_0, hfz18_1, hfz18_2⟩ := bx3_ BK158.out) | ((with_reducible refine gate_callee (f := 7) rfl ?_); refine goesL_ (some 9) rfl rfl Tryd.func7 (by kernel_rfl) rfl #[.agg #[.int .i64 a0_0, .int .i64 a0_1, .int .i64 a0_2]] rfl z2_ ?_; (with_reducible refine (laws_toFault.calls a0_0 a0_1 a0_2 t163 t164 t165 _ A4.out).mono ?_); rintro e w19 ⟨rfl, hb⟩; refine ⟨_, rfl, ?_⟩; replace BK158 := Aside0.mk (blk_below (g := gb158) (o := .cells #[.int .i64 a0_0, .int .i64 a0_1, .int .i64 a0_2] 23 (0, 0)) z8_ hb); replace HB := Aside0.mk (below_step z6_ hb); (try clear hb)) | ((with_reducible refine gate_callee (f := 8) rfl ?_); refine goesL_ (some 10) rfl rfl Tryd.func8 (by kernel_rfl) rfl #[.agg #[.int .i64 t163, .int .i64 t164, .int .i64 t165]] rfl z2_ ?_; (with_reducible refine (impl_FaultText.calls k t163 t164 t165 t166 _ (tabIs_below hT z0_) z16_ A5.out).mono ?_); rintro e w20 ⟨rfl, hb⟩; refine ⟨_, rfl, ?_⟩; replace BK158 := Aside0.mk (blk_below (g := gb158) (o := .cells #[.int .i64 a0_0, .int .i64 a0_1, .int .i64 a0_2] 23 (0, 0)) z8_ hb); replace HB := Aside0.mk (below_step z6_ hb); (try clear hb)))
  go_ret
  exact ⟨z3_, z6_⟩

end Go.Proofs.YtipclgiboffblaaDoor.PFnExactFaultText
