/- Laid by a program of this session out of the kit's print for the law FnExactScriptText: what it says of the machine is proved here, function by function; each contract under the conditions that it names. -/
import Derived.Test.YtipclgiboffblaaDoorMFnExactScriptTextx0
import Derived.Test.YtipclgiboffblaaDoorMFnExactScriptTextx1
namespace Go.Proofs.YtipclgiboffblaaDoor.PFnExactScriptText
open Go.RowKit Go.Proofs.YtipclgiboffblaaDoorW.PrintWords Go.Proofs.YtipclgiboffblaaDoorW.PrintLast Go.Proofs.YtipclgiboffblaaDoorW.PrintMore
attribute [local go_sem] max2_int min2_int max_two min_two max_three min_three max_four min_four   -- for this text's walks alone
set_option linter.unusedVariables false
set_option linter.unusedSimpArgs false

/-! ### spec_LabelName: function 30 -/
def spec_LabelName.f (a0 : Int) : Option (ByteArray) := (spec_LabelOk.f a0).bind fun t124 => (if t124 = true then ((some (([(⟨#[100, 105, 118]⟩ : ByteArray), (⟨#[112]⟩ : ByteArray), (⟨#[97]⟩ : ByteArray), (⟨#[117, 108]⟩ : ByteArray), (⟨#[108, 105]⟩ : ByteArray), (⟨#[98]⟩ : ByteArray)] : List ByteArray) : List ByteArray)).bind fun y125 => (if 0 ≤ a0 then (if a0 < (y125.length : Int) then (some (rdOf ByteArray.empty y125 a0)) else (none)) else (none))) else (some (⟨#[]⟩ : ByteArray)))
set_option maxHeartbeats 8000000 in
set_option maxRecDepth 100000 in
theorem spec_LabelName.calls (a0 : Int) (r : ByteArray) (w : World) (h : spec_LabelName.f a0 = some r) :
  Calls Tryd.prog 30 #[.int .i64 a0] w fun e w' => e = .returned (.string r) ∧ Below w.heap.size w w' := by
 have HB := Aside0.mk (Below.refl w.heap.size w)
 have H : ((spec_LabelOk.f a0).bind fun t124 => (if t124 = true then ((some (([(⟨#[100, 105, 118]⟩ : ByteArray), (⟨#[112]⟩ : ByteArray), (⟨#[97]⟩ : ByteArray), (⟨#[117, 108]⟩ : ByteArray), (⟨#[108, 105]⟩ : ByteArray), (⟨#[98]⟩ : ByteArray)] : List ByteArray) : List ByteArray)).bind fun y125 => (if 0 ≤ a0 then (if a0 < (y125.length : Int) then (some (rdOf ByteArray.empty y125 a0)) else (none)) else (none))) else (some (⟨#[]⟩ : ByteArray)))) = some r := h
 clear h
 obtain ⟨t124, A2, H⟩ := bnd_ H
 by_cases c3 : t124 = true
 ·subst c3
  replace H := ift_ H
  first | ((with_reducible have hz_ := gy_ H); obtain ⟨y125, Ny125, H⟩ := hz_) | (generalize hy_ : ((([(⟨#[100, 105, 118]⟩ : ByteArray), (⟨#[112]⟩ : ByteArray), (⟨#[97]⟩ : ByteArray), (⟨#[117, 108]⟩ : ByteArray), (⟨#[108, 105]⟩ : ByteArray), (⟨#[98]⟩ : ByteArray)] : List ByteArray)) : List ByteArray) = y125 at H; have Ny125 := Aside0.mk hy_.symm; clear hy_)
  obtain ⟨c4b0, H⟩ := ifd_ H
  obtain ⟨c5b0, H⟩ := ifd_ H
  obtain rfl := Option.some.inj H
  go_enter Tryd.func30, Tryd.ntmps30
  go_wp2_with (first | ((with_reducible refine gate_callee (f := 42) rfl ?_); refine goesL_ (some 4) rfl rfl Tryd.func42 (by kernel_rfl) rfl #[.int .i64 a0] rfl z1_ ?_; (with_reducible refine (spec_LabelOk.calls a0 true _ A2.out).mono ?_); rintro e w' ⟨rfl, ⟨nd, rfl⟩⟩; refine ⟨_, rfl, ?_⟩) | ((with_reducible refine gate_dst (N := 6) rfl ?_); refine Kd.R_lit Kd.string _ 9 ?hg (N := 6) ?hd (xs := ([(⟨#[100, 105, 118]⟩ : ByteArray), (⟨#[112]⟩ : ByteArray), (⟨#[97]⟩ : ByteArray), (⟨#[117, 108]⟩ : ByteArray), (⟨#[108, 105]⟩ : ByteArray), (⟨#[98]⟩ : ByteArray)] : List ByteArray)) (inner := [.string (⟨#[100, 105, 118]⟩ : ByteArray), .string (⟨#[112]⟩ : ByteArray), .string (⟨#[97]⟩ : ByteArray), .string (⟨#[117, 108]⟩ : ByteArray), .string (⟨#[108, 105]⟩ : ByteArray), .string (⟨#[98]⟩ : ByteArray)]) (ok := fun _ => True) (okp := fun _ => True) ?hr ?hp (fun _ hk => hk) trivial (Below.refl _ _) (Nat.le_refl _) (by simp) ?_; (case hd => rfl); (case hg => rfl); (case hr => exact z13_); (case hp => exact (Reps.one (show Kd.M Kd.string _ _ _ (⟨#[100, 105, 118]⟩ : ByteArray) [.string (⟨#[100, 105, 118]⟩ : ByteArray)] from rfl) (Reps.one (show Kd.M Kd.string _ _ _ (⟨#[112]⟩ : ByteArray) [.string (⟨#[112]⟩ : ByteArray)] from rfl) (Reps.one (show Kd.M Kd.string _ _ _ (⟨#[97]⟩ : ByteArray) [.string (⟨#[97]⟩ : ByteArray)] from rfl) (Reps.one (show Kd.M Kd.string _ _ _ (⟨#[117, 108]⟩ : ByteArray) [.string (⟨#[117, 108]⟩ : ByteArray)] from rfl) (Reps.one (show Kd.M Kd.string _ _ _ (⟨#[108, 105]⟩ : ByteArray) [.string (⟨#[108, 105]⟩ : ByteArray)] from rfl) (Reps.one (show Kd.M Kd.string _ _ _ (⟨#[98]⟩ : ByteArray) [.string (⟨#[98]⟩ : ByteArray)] from rfl) (Reps.none _ _)))))))); intro v126 w6 ho7 hb hg_ hnew_; clear hg_ hnew_; (first | rw [← Ny125.out] at ho7 | (simp only [Int.reduceToNat] at ho7; rw [← Ny125.out] at ho7)); have HO127 := Aside0.mk (Kd.R_lower ho7 (below_size z0_)); replace HB := Aside0.mk (below_step z0_ hb); clear hb ho7; obtain ⟨Ao8, co8, eo8⟩ := Kd.R_slice HO127.out; subst eo8; have p128 : 0 ≤ (a0 : Int) := odt_; have q128 : a0 < (y125.length : Int) := odt_; obtain ⟨ad128, e128, hx128_0⟩ := Kd.at_string (Kd.R_reads' HO127.out).2.2 a0 p128 q128; cases e128; replace p128 := eq_true p128; replace q128 := eq_true q128))
  go_ret
  exact ⟨z2_, z0_⟩
 ·replace c3 := Bool.eq_false_iff.mpr c3
  subst c3
  replace H := iff_ H
  obtain rfl := Option.some.inj H
  go_enter Tryd.func30, Tryd.ntmps30
  go_wp2_with (first | ((with_reducible refine gate_callee (f := 42) rfl ?_); refine goesL_ (some 4) rfl rfl Tryd.func42 (by kernel_rfl) rfl #[.int .i64 a0] rfl z1_ ?_; (with_reducible refine (spec_LabelOk.calls a0 false _ A2.out).mono ?_); rintro e w' ⟨rfl, ⟨nd, rfl⟩⟩; refine ⟨_, rfl, ?_⟩))
  go_ret
  exact ⟨z2_, z0_⟩

/-! ### spec_OpText: function 10 -/
def spec_OpText.j0 : Nat → ByteArray → Int → List Int → Int → Int → Int → Option (ByteArray)
 | 0, _, _, _, _, _, _ => none
 | k + 1, x3, x130000, x130001, x130002, x130003, x130004 => if x130000 = 3 then (if x3.size + 1 ≤ 9223372036854775807 then ((spec_Dec.f k x130003).bind fun t137 => (if (x3 ++ (⟨#[32]⟩ : ByteArray)).size + t137.size ≤ 9223372036854775807 then (if ((x3 ++ (⟨#[32]⟩ : ByteArray)) ++ t137).size + 1 ≤ 9223372036854775807 then ((spec_Dec.f k x130004).bind fun t138 => (if (((x3 ++ (⟨#[32]⟩ : ByteArray)) ++ t137) ++ (⟨#[32]⟩ : ByteArray)).size + t138.size ≤ 9223372036854775807 then (some ((((x3 ++ (⟨#[32]⟩ : ByteArray)) ++ t137) ++ (⟨#[32]⟩ : ByteArray)) ++ t138)) else (none))) else (none)) else (none))) else (none)) else (some x3)
def spec_OpText.f (k : Nat) (a0_0 : Int) (l0_1 : List Int) (a0_2 : Int) (a0_3 : Int) (a0_4 : Int) : Option (ByteArray) := (spec_OpOk.f k a0_0 l0_1 a0_2 a0_3 a0_4).bind fun t130 => (if t130 = true then ((some (([(⟨#[]⟩ : ByteArray), (⟨#[114, 101, 108, 97, 98, 101, 108]⟩ : ByteArray), (⟨#[100, 101, 108, 101, 116, 101]⟩ : ByteArray), (⟨#[105, 110, 115, 101, 114, 116]⟩ : ByteArray)] : List ByteArray) : List ByteArray)).bind fun y131 => (if 0 ≤ a0_0 then (if a0_0 < (y131.length : Int) then (if (rdOf ByteArray.empty y131 a0_0).size + 1 ≤ 9223372036854775807 then ((spec_l23Path.f k l0_1).bind fun t135 => (if ((rdOf ByteArray.empty y131 a0_0) ++ (⟨#[32]⟩ : ByteArray)).size + t135.size ≤ 9223372036854775807 then (if a0_0 = 2 then (spec_OpText.j0 k (((rdOf ByteArray.empty y131 a0_0) ++ (⟨#[32]⟩ : ByteArray)) ++ t135) a0_0 l0_1 a0_2 a0_3 a0_4) else (if (((rdOf ByteArray.empty y131 a0_0) ++ (⟨#[32]⟩ : ByteArray)) ++ t135).size + 1 ≤ 9223372036854775807 then ((spec_LabelName.f a0_2).bind fun t136 => (if ((((rdOf ByteArray.empty y131 a0_0) ++ (⟨#[32]⟩ : ByteArray)) ++ t135) ++ (⟨#[32]⟩ : ByteArray)).size + t136.size ≤ 9223372036854775807 then (spec_OpText.j0 k (((((rdOf ByteArray.empty y131 a0_0) ++ (⟨#[32]⟩ : ByteArray)) ++ t135) ++ (⟨#[32]⟩ : ByteArray)) ++ t136) a0_0 l0_1 a0_2 a0_3 a0_4) else (none))) else (none))) else (none))) else (none)) else (none)) else (none))) else (some (⟨#[]⟩ : ByteArray)))
def spec_OpText.T3 : Bool × List (List Nat × List Nat) := (true, [([], []), ([], []), ([1], [1]), ([0, 2], [0, 2]), ([3], [3]), ([4], [4]), ([], []), ([6], [6]), ([7], [7]), ([5, 8], [5, 8]), ([9, 8, 0, 1, 2, 3, 4, 5, 6, 7, 8, 9], [9])])
def spec_OpText.B3 : List Nat := [0, 0, 2, 7, 15, 31, 0, 64, 192, 511, 1023]
theorem spec_OpText.tab3 : rtab .any (opsOf Tryd.f10 3) = spec_OpText.T3 := by kernel_rfl
theorem spec_OpText.bits3 : waitsOk spec_OpText.T3.2 spec_OpText.B3 = true := by kernel_rfl
def spec_OpText.T7 : Bool × List (List Nat × List Nat) := (true, [([], []), ([0], [0]), ([], []), ([2], [2]), ([3], [3]), ([1, 4], [1, 4]), ([5], [5]), ([], []), ([7], [7]), ([8, 4], [8]), ([6, 9], [6, 9]), ([10, 9, 0, 1, 2, 3, 4, 5, 6, 7, 8, 9, 10], [0, 10])])
def spec_OpText.B7 : List Nat := [0, 1, 0, 4, 12, 31, 63, 0, 128, 412, 1023, 2047]
theorem spec_OpText.tab7 : rtab .any (opsOf Tryd.f10 7) = spec_OpText.T7 := by kernel_rfl
theorem spec_OpText.bits7 : waitsOk spec_OpText.T7.2 spec_OpText.B7 = true := by kernel_rfl
set_option maxHeartbeats 8000000 in
set_option maxRecDepth 100000 in
theorem spec_OpText.calls (k : Nat) (a0_0 : Int) (A0_1 : Option Addr) (c0_1 : Nat) (l0_1 : List Int) (a0_2 : Int) (a0_3 : Int) (a0_4 : Int) (r : ByteArray) (w : World) (hr0_1 : Kd.C (Kd.int .i64) w A0_1 l0_1.length l0_1) (hc0_1 : l0_1.length ≤ c0_1) (h : spec_OpText.f k a0_0 l0_1 a0_2 a0_3 a0_4 = some r) :
  Calls Tryd.prog 10 #[.agg #[.int .i64 a0_0, .slice A0_1 l0_1.length c0_1, .int .i64 a0_2, .int .i64 a0_3, .int .i64 a0_4]] w fun e w' => e = .returned (.string r) ∧ Below w.heap.size w w' := by
 have hu33 := Tryd.underlying33
 have HR0_1 := Aside0.mk hr0_1
 have HC0_1 := Aside0.mk hc0_1
 clear hr0_1 hc0_1
 have HB := Aside0.mk (Below.refl w.heap.size w)
 have H : ((spec_OpOk.f k a0_0 l0_1 a0_2 a0_3 a0_4).bind fun t130 => (if t130 = true then ((some (([(⟨#[]⟩ : ByteArray), (⟨#[114, 101, 108, 97, 98, 101, 108]⟩ : ByteArray), (⟨#[100, 101, 108, 101, 116, 101]⟩ : ByteArray), (⟨#[105, 110, 115, 101, 114, 116]⟩ : ByteArray)] : List ByteArray) : List ByteArray)).bind fun y131 => (if 0 ≤ a0_0 then (if a0_0 < (y131.length : Int) then (if (rdOf ByteArray.empty y131 a0_0).size + 1 ≤ 9223372036854775807 then ((spec_l23Path.f k l0_1).bind fun t135 => (if ((rdOf ByteArray.empty y131 a0_0) ++ (⟨#[32]⟩ : ByteArray)).size + t135.size ≤ 9223372036854775807 then (if a0_0 = 2 then (spec_OpText.j0 k (((rdOf ByteArray.empty y131 a0_0) ++ (⟨#[32]⟩ : ByteArray)) ++ t135) a0_0 l0_1 a0_2 a0_3 a0_4) else (if (((rdOf ByteArray.empty y131 a0_0) ++ (⟨#[32]⟩ : ByteArray)) ++ t135).size + 1 ≤ 9223372036854775807 then ((spec_LabelName.f a0_2).bind fun t136 => (if ((((rdOf ByteArray.empty y131 a0_0) ++ (⟨#[32]⟩ : ByteArray)) ++ t135) ++ (⟨#[32]⟩ : ByteArray)).size + t136.size ≤ 9223372036854775807 then (spec_OpText.j0 k (((((rdOf ByteArray.empty y131 a0_0) ++ (⟨#[32]⟩ : ByteArray)) ++ t135) ++ (⟨#[32]⟩ : ByteArray)) ++ t136) a0_0 l0_1 a0_2 a0_3 a0_4) else (none))) else (none))) else (none))) else (none)) else (none)) else (none))) else (some (⟨#[]⟩ : ByteArray)))) = some r := h
 clear h
 obtain ⟨t130, A2, H⟩ := bnd_ H
 by_cases c3 : t130 = true
 ·subst c3
  replace H := ift_ H
  first | ((with_reducible have hz_ := gy_ H); obtain ⟨y131, Ny131, H⟩ := hz_) | (generalize hy_ : ((([(⟨#[]⟩ : ByteArray), (⟨#[114, 101, 108, 97, 98, 101, 108]⟩ : ByteArray), (⟨#[100, 101, 108, 101, 116, 101]⟩ : ByteArray), (⟨#[105, 110, 115, 101, 114, 116]⟩ : ByteArray)] : List ByteArray)) : List ByteArray) = y131 at H; have Ny131 := Aside0.mk hy_.symm; clear hy_)
  obtain ⟨c4b0, H⟩ := ifd_ H
  obtain ⟨c5b0, H⟩ := ifd_ H
  obtain ⟨c6, H⟩ := ifs_ H
  have c6b0 := eq_true c6
  have c6b1 := decide_eq_true c6
  try have c6b2 : (9223372036854775807 < (rdOf ByteArray.empty y131 a0_0).size + 1) = False := eq_false (Nat.not_lt.2 c6)
  obtain ⟨t135, A7, H⟩ := bnd_ H
  obtain ⟨c8, H⟩ := ifs_ H
  have c8b0 := eq_true c8
  have c8b1 := decide_eq_true c8
  try have c8b2 : (9223372036854775807 < ((rdOf ByteArray.empty y131 a0_0) ++ (⟨#[32]⟩ : ByteArray)).size + t135.size) = False := eq_false (Nat.not_lt.2 c8)
  have c8s : (rdOf ByteArray.empty y131 a0_0).size + 1 + t135.size ≤ 9223372036854775807 := by have e_ := c8; simp only [ByteArray.size_append] at e_; exact e_
  have c8sb : (9223372036854775807 < (rdOf ByteArray.empty y131 a0_0).size + 1 + t135.size) = False := eq_false (Nat.not_lt.2 c8s)
  have HC9 := Aside0.mk H
  clear H
  go_enter Tryd.func10, Tryd.ntmps10
  try go_wp2_with (first | ((with_reducible refine gate_dst (N := 1) rfl ?_); refine box_event ?hg (N := 1) ?hd (cs := #[.int .i64 a0_0, .slice A0_1 l0_1.length c0_1, .int .i64 a0_2, .int .i64 a0_3, .int .i64 a0_4]) (t := 33) ?hr ?_; (case hd => rfl); (case hg => rfl); (case hr => exact z13_); intro gb129 hg w10 hbox hb; have BK129 := Aside0.mk (hbox); have GW129 := Aside0.mk ((by rw [hg]; exact (below_size z0_) : w.heap.size ≤ gb129)); have GE129 := Aside0.mk ((by rw [hg]; exact (below_size z0_) : w.heap.size ≤ gb129)); replace HB := Aside0.mk (below_step z0_ hb); clear hb hbox hg; obtain ⟨hcz11_0, hcz11_1, hcz11_2, hcz11_3, hcz11_4, hfz11_0, hfz11_1, hfz11_2, hfz11_3, hfz11_4⟩ := bx5_ BK129.out) | ((with_reducible refine gate_callee (f := 28) rfl ?_); refine goesL_ (some 5) rfl rfl Tryd.func28 (by kernel_rfl) rfl #[.agg #[.int .i64 a0_0, .slice A0_1 l0_1.length c0_1, .int .i64 a0_2, .int .i64 a0_3, .int .i64 a0_4]] rfl z1_ ?_; (with_reducible refine (spec_OpOk.calls k a0_0 _ _ l0_1 a0_2 a0_3 a0_4 true _ ?side1 ?side2 A2.out).mono ?_); (case side1 => exact z3_); (case side2 => exact HC0_1.out); rintro e w12 ⟨rfl, hb⟩; refine ⟨_, rfl, ?_⟩; replace BK129 := Aside0.mk (blk_below (g := gb129) (o := .cells #[.int .i64 a0_0, .slice A0_1 l0_1.length c0_1, .int .i64 a0_2, .int .i64 a0_3, .int .i64 a0_4] 33 (0, 0)) z18_ hb); replace HB := Aside0.mk (below_step z7_ hb); (try clear hb)))
  have pi134 : (0 ≤ (a0_0 : Int)) = True := eq_true (odt_)
  have qi134 : (a0_0 < (y131.length : Int)) = True := eq_true (odt_)
  have n0_ := Aside0.mk (blk_drew BK129.out)
  have n1_ := Aside0.mk (below_drew1 HB.out)
  clear BK129
  clear HB
  have BK129 := n0_
  have HB := n1_
  clear n0_ n1_
  refine start_ (n := 11) (S := fun w' => True) (ds := []) (fl_ 11 0) (by kernel_rfl) rfl (fl_zero _) trivial (fun hHeld => ?_); refine with_tabW spec_OpText.tab3 spec_OpText.bits3 (fun HT_ HW_ => ?_)
  generalize w12.drew = w13 at BK129 HB hHeld ⊢
  refine zpg_ (i := 1) (ra_ [0, 1, 1, 9]) HT_ rfl rfl (by kernel_rfl) (fun _ _ _ h => h) (by rfl) ?_
  refine zpg_ (i := 6) (ra_ [0, 1, 1, 4, 1, 4]) HT_ rfl rfl (by kernel_rfl) (fun _ _ _ h => h) (by rfl) ?_
  refine inv_at [0, 2, 3, 4, 5, 7, 8, 9, 10] (fun a0_ b a w' => ∃ (v132 : Value) (adz_v132 : Addr) (m3_ : Value), a = putSel a0_ b [(0, 7, v132), (2, 9, .int .i64 a0_0), (3, 10, m3_), (4, 11, .string (rdOf ByteArray.empty y131 a0_0)), (5, 12, .string ((rdOf ByteArray.empty y131 a0_0) ++ (⟨#[32]⟩ : ByteArray))), (7, 14, .slice A0_1 l0_1.length c0_1), (8, 15, .string t135), (9, 16, .string (((rdOf ByteArray.empty y131 a0_0) ++ (⟨#[32]⟩ : ByteArray)) ++ t135)), (10, 3, .string (((rdOf ByteArray.empty y131 a0_0) ++ (⟨#[32]⟩ : ByteArray)) ++ t135))] ∧ (w'.heap[gb129]? = some (.cells #[.int .i64 a0_0, .slice A0_1 l0_1.length c0_1, .int .i64 a0_2, .int .i64 a0_3, .int .i64 a0_4] 33 (0, 0))) ∧ (Below w.heap.size w w') ∧ (b 0 = true → Kd.R Kd.string 9 w' w.heap.size (fun _ => True) v132 y131) ∧ (b 0 = true → ∃ c_, (v132 : Value) = .slice (some adz_v132) y131.length c_) ∧ (b 3 = true → (m3_ : Value) = .pointer (some (adz_v132.add (a0_0).toNat)))) HT_.out HW_.out (by kernel_rfl) (by kernel_rfl) ?_ ?_ ?_
  ·exact ⟨.bool false, ⟨0, 0, none⟩, .bool false, by simp only [putSel, Bool.false_eq_true, if_false], BK129.out, HB.out, fun h_ => absurd h_ (by decide), fun h_ => absurd h_ (by decide), fun h_ => absurd h_ (by decide)⟩
  ·skip
   clear BK129 HB
   refine steps_cons ?_ ?_
   ·rintro b a w' ⟨v132, adz_v132, m3_, ha, Q_BK129, Q_HB, Q_HO133, Q_HA_HO133, Q_X3_⟩ hb_ hon hoff
    refine ⟨_, rfl, fun K hK => ?_⟩
    replace ha := Aside0.mk ha
    have BK129 := Aside0.mk Q_BK129
    have HB := Aside0.mk Q_HB
    refine Kd.R_lit_step Kd.string _ 9 ?hg (N := 7) ?hd (xs := ([(⟨#[]⟩ : ByteArray), (⟨#[114, 101, 108, 97, 98, 101, 108]⟩ : ByteArray), (⟨#[100, 101, 108, 101, 116, 101]⟩ : ByteArray), (⟨#[105, 110, 115, 101, 114, 116]⟩ : ByteArray)] : List ByteArray)) (inner := [.string (⟨#[]⟩ : ByteArray), .string (⟨#[114, 101, 108, 97, 98, 101, 108]⟩ : ByteArray), .string (⟨#[100, 101, 108, 101, 116, 101]⟩ : ByteArray), .string (⟨#[105, 110, 115, 101, 114, 116]⟩ : ByteArray)]) (ok := fun _ => True) (okp := fun _ => True) ?hr ?hp (fun _ hk => hk) trivial (Below.refl _ _) (Nat.le_refl _) (by simp) ?_; (case hd => rfl); (case hg => rfl); (case hr => exact z13_); (case hp => exact (Reps.one (show Kd.M Kd.string _ _ _ (⟨#[]⟩ : ByteArray) [.string (⟨#[]⟩ : ByteArray)] from rfl) (Reps.one (show Kd.M Kd.string _ _ _ (⟨#[114, 101, 108, 97, 98, 101, 108]⟩ : ByteArray) [.string (⟨#[114, 101, 108, 97, 98, 101, 108]⟩ : ByteArray)] from rfl) (Reps.one (show Kd.M Kd.string _ _ _ (⟨#[100, 101, 108, 101, 116, 101]⟩ : ByteArray) [.string (⟨#[100, 101, 108, 101, 116, 101]⟩ : ByteArray)] from rfl) (Reps.one (show Kd.M Kd.string _ _ _ (⟨#[105, 110, 115, 101, 114, 116]⟩ : ByteArray) [.string (⟨#[105, 110, 115, 101, 114, 116]⟩ : ByteArray)] from rfl) (Reps.none _ _))))))
    intro v132 w14 ho15 hb hg_ hnew_
    clear hg_ hnew_
    (first | rw [← Ny131.out] at ho15 | (simp only [Int.reduceToNat] at ho15; rw [← Ny131.out] at ho15))
    have n0_ := Aside0.mk (Kd.R_lower ho15 (below_size z7_))
    have n1_ := Aside0.mk (blk_below (g := gb129) (o := .cells #[.int .i64 a0_0, .slice A0_1 l0_1.length c0_1, .int .i64 a0_2, .int .i64 a0_3, .int .i64 a0_4] 33 (0, 0)) z18_ hb)
    have n2_ := Aside0.mk (below_step z7_ hb)
    clear BK129
    clear HB
    have HO133 := n0_
    have BK129 := n1_
    have HB := n2_
    clear n0_ n1_ n2_
    clear hb ho15
    obtain ⟨Ao16, co16, eo16⟩ := Kd.R_slice HO133.out
    subst eo16
    obtain ⟨ado16, fo16, _⟩ := Kd.at_string (Kd.R_reads' HO133.out).2.2 0 (by decide) (by rw [Ny131.out]; simp)
    cases fo16
    refine hK.out _ _ ⟨.slice (some ado16) y131.length co16, ado16, m3_, (by rw [ha.out]; exact putSel_upk 0 hb_ rfl rfl rfl), z18_, z7_, fun _ => z46_, fun _ => ⟨_, rfl⟩, fun h0_ => absurd ((hoff 3 (by kernel_rfl)).symm.trans h0_) (by decide)⟩
   refine steps_cons ?_ ?_
   ·rintro b a w' ⟨v132, adz_v132, m3_, ha, Q_BK129, Q_HB, Q_HO133, Q_HA_HO133, Q_X3_⟩ hb_ hon hoff
    refine ⟨_, rfl, fun K hK => ?_⟩
    have e8 : a.tmps[8]? = some (.pointer (some ⟨gb129, 0, none⟩)) := by rw [ha]; exact (putSel_off rfl).trans rfl
    replace ha := Aside0.mk ha
    have BK129 := Aside0.mk Q_BK129
    have HB := Aside0.mk Q_HB
    have hc0_ : w'.cell? ⟨gb129, 0, none⟩ = some (.int .i64 a0_0) := (blk_cell BK129.out 0).trans rfl
    have hc1_ : w'.cell? ⟨gb129, 1, none⟩ = some (.slice A0_1 l0_1.length c0_1) := (blk_cell BK129.out 1).trans rfl
    have hc2_ : w'.cell? ⟨gb129, 2, none⟩ = some (.int .i64 a0_2) := (blk_cell BK129.out 2).trans rfl
    have hc3_ : w'.cell? ⟨gb129, 3, none⟩ = some (.int .i64 a0_3) := (blk_cell BK129.out 3).trans rfl
    have hc4_ : w'.cell? ⟨gb129, 4, none⟩ = some (.int .i64 a0_4) := (blk_cell BK129.out 4).trans rfl
    refine value_ (w1 := w') (v := .int .i64 a0_0) (by rfl) rfl ?_ ?_
    ·go_simp
     (try simp only [i64_w])
     try rfl
    refine hK.out _ _ ⟨v132, adz_v132, m3_, (by rw [ha.out]; exact putSel_upk 1 hb_ rfl rfl rfl), Q_BK129, Q_HB, Q_HO133, Q_HA_HO133, fun h0_ => absurd ((hoff 3 (by kernel_rfl)).symm.trans h0_) (by decide)⟩
   refine steps_cons ?_ ?_
   ·rintro b a w' ⟨v132, adz_v132, m3_, ha, Q_BK129, Q_HB, Q_HO133, Q_HA_HO133, Q_X3_⟩ hb_ hon hoff
    refine ⟨_, rfl, fun K hK => ?_⟩
    have e7 : a.tmps[7]? = some (v132) := by rw [ha]; exact putSel_on (e := (0, 7, v132)) 0 rfl rfl (hon 0 (by kernel_rfl)) rfl
    have e9 : a.tmps[9]? = some (.int .i64 a0_0) := by rw [ha]; exact putSel_on (e := (2, 9, .int .i64 a0_0)) 1 rfl rfl (hon 2 (by kernel_rfl)) rfl
    replace ha := Aside0.mk ha
    have BK129 := Aside0.mk Q_BK129
    have HB := Aside0.mk Q_HB
    have HO133 := Aside0.mk (Q_HO133 (hon 0 (by kernel_rfl)))
    have HA_HO133 := Aside0.mk (Q_HA_HO133 (hon 0 (by kernel_rfl)))
    obtain ⟨c_, hv_⟩ := HA_HO133.out
    rw [hv_] at e7
    refine value_ (w1 := w') (v := .pointer (some (adz_v132.add (a0_0).toNat))) (by rfl) rfl ?_ ?_
    ·go_simp
     (try simp only [i64_w])
     try rfl
    refine hK.out _ _ ⟨v132, adz_v132, (.pointer (some (adz_v132.add (a0_0).toNat))), (by rw [ha.out]; exact putSel_upk 2 hb_ rfl rfl rfl), Q_BK129, Q_HB, Q_HO133, Q_HA_HO133, fun _ => rfl⟩
   refine steps_cons ?_ ?_
   ·rintro b a w' ⟨v132, adz_v132, m3_, ha, Q_BK129, Q_HB, Q_HO133, Q_HA_HO133, Q_X3_⟩ hb_ hon hoff
    refine ⟨_, rfl, fun K hK => ?_⟩
    have e10 : a.tmps[10]? = some (m3_) := by rw [ha]; exact putSel_on (e := (3, 10, m3_)) 2 rfl rfl (hon 3 (by kernel_rfl)) rfl
    rw [Q_X3_ (hon 3 (by kernel_rfl))] at e10
    replace ha := Aside0.mk ha
    have BK129 := Aside0.mk Q_BK129
    have HB := Aside0.mk Q_HB
    have HO133 := Aside0.mk (Q_HO133 (hon 0 (by kernel_rfl)))
    have HA_HO133 := Aside0.mk (Q_HA_HO133 (hon 0 (by kernel_rfl)))
    obtain ⟨c_, hv_⟩ := HA_HO133.out
    have hF_ := HO133.out
    rw [hv_] at hF_
    obtain ⟨ad_, ea_, hx_⟩ := Kd.at_string (Kd.R_reads' hF_).2.2 a0_0 (of_eq_true pi134) (of_eq_true qi134)
    cases ea_
    refine value_ (w1 := w') (v := .string (rdOf ByteArray.empty y131 a0_0)) (by rfl) rfl ?_ ?_
    ·go_simp
     (try simp only [i64_w])
     try rfl
    refine hK.out _ _ ⟨v132, adz_v132, m3_, (by rw [ha.out]; exact putSel_upk 3 hb_ rfl rfl rfl), Q_BK129, Q_HB, Q_HO133, Q_HA_HO133, Q_X3_⟩
   refine steps_cons ?_ ?_
   ·rintro b a w' ⟨v132, adz_v132, m3_, ha, Q_BK129, Q_HB, Q_HO133, Q_HA_HO133, Q_X3_⟩ hb_ hon hoff
    refine ⟨_, rfl, fun K hK => ?_⟩
    have e11 : a.tmps[11]? = some (.string (rdOf ByteArray.empty y131 a0_0)) := by rw [ha]; exact putSel_on (e := (4, 11, .string (rdOf ByteArray.empty y131 a0_0))) 3 rfl rfl (hon 4 (by kernel_rfl)) rfl
    replace ha := Aside0.mk ha
    have BK129 := Aside0.mk Q_BK129
    have HB := Aside0.mk Q_HB
    have HO133 := Aside0.mk (Q_HO133 (hon 0 (by kernel_rfl)))
    have HA_HO133 := Aside0.mk (Q_HA_HO133 (hon 0 (by kernel_rfl)))
    refine value_ (w1 := w') (v := .string ((rdOf ByteArray.empty y131 a0_0) ++ (⟨#[32]⟩ : ByteArray))) (by rfl) rfl ?_ ?_
    ·go_simp
     (try simp only [i64_w])
     try rfl
    refine hK.out _ _ ⟨v132, adz_v132, m3_, (by rw [ha.out]; exact putSel_upk 4 hb_ rfl rfl rfl), Q_BK129, Q_HB, Q_HO133, Q_HA_HO133, Q_X3_⟩
   refine steps_cons ?_ ?_
   ·rintro b a w' ⟨v132, adz_v132, m3_, ha, Q_BK129, Q_HB, Q_HO133, Q_HA_HO133, Q_X3_⟩ hb_ hon hoff
    refine ⟨_, rfl, fun K hK => ?_⟩
    have e13 : a.tmps[13]? = some (.pointer (some ⟨gb129, 1, none⟩)) := by rw [ha]; exact (putSel_off rfl).trans rfl
    replace ha := Aside0.mk ha
    have BK129 := Aside0.mk Q_BK129
    have HB := Aside0.mk Q_HB
    have hc0_ : w'.cell? ⟨gb129, 0, none⟩ = some (.int .i64 a0_0) := (blk_cell BK129.out 0).trans rfl
    have hc1_ : w'.cell? ⟨gb129, 1, none⟩ = some (.slice A0_1 l0_1.length c0_1) := (blk_cell BK129.out 1).trans rfl
    have hc2_ : w'.cell? ⟨gb129, 2, none⟩ = some (.int .i64 a0_2) := (blk_cell BK129.out 2).trans rfl
    have hc3_ : w'.cell? ⟨gb129, 3, none⟩ = some (.int .i64 a0_3) := (blk_cell BK129.out 3).trans rfl
    have hc4_ : w'.cell? ⟨gb129, 4, none⟩ = some (.int .i64 a0_4) := (blk_cell BK129.out 4).trans rfl
    refine value_ (w1 := w') (v := .slice A0_1 l0_1.length c0_1) (by rfl) rfl ?_ ?_
    ·go_simp
     (try simp only [i64_w])
     try rfl
    refine hK.out _ _ ⟨v132, adz_v132, m3_, (by rw [ha.out]; exact putSel_upk 5 hb_ rfl rfl rfl), Q_BK129, Q_HB, Q_HO133, Q_HA_HO133, Q_X3_⟩
   refine steps_cons ?_ ?_
   ·rintro b a w' ⟨v132, adz_v132, m3_, ha, Q_BK129, Q_HB, Q_HO133, Q_HA_HO133, Q_X3_⟩ hb_ hon hoff
    refine ⟨_, rfl, fun K hK => ?_⟩
    have e14 : a.tmps[14]? = some (.slice A0_1 l0_1.length c0_1) := by rw [ha]; exact putSel_on (e := (7, 14, .slice A0_1 l0_1.length c0_1)) 5 rfl rfl (hon 7 (by kernel_rfl)) rfl
    replace ha := Aside0.mk ha
    have BK129 := Aside0.mk Q_BK129
    have HB := Aside0.mk Q_HB
    refine goes_ Tryd.func29 (by kernel_rfl) rfl #[.slice A0_1 l0_1.length c0_1] (by rfl) rfl rfl (by first | (simp only [List.map_toArray, List.map_cons, List.map_nil, Act.eval, Array.getD_eq_getD_getElem?, Option.getD_some, e14]; done) | (simp only [List.map_toArray, List.map_cons, List.map_nil, Act.eval, Array.getD_eq_getD_getElem?, Option.getD_some, e14]; rfl)) ?_
    with_reducible refine (spec_l23Path.calls k _ _ l0_1 t135 _ ?side1 ?side2 A7.out).mono ?_
    (case side1 => exact z3_)
    (case side2 => exact HC0_1.out)
    rintro e w14 ⟨rfl, hb⟩
    refine ⟨_, rfl, ?_⟩
    have n0_ := Aside0.mk (blk_below (g := gb129) (o := .cells #[.int .i64 a0_0, .slice A0_1 l0_1.length c0_1, .int .i64 a0_2, .int .i64 a0_3, .int .i64 a0_4] 33 (0, 0)) z18_ hb)
    have n1_ := Aside0.mk (below_step z7_ hb)
    have z_HO133 := fun (h0_ : b 0 = true) => (show Kd.R Kd.string 9 w14 w.heap.size (fun _ => True) v132 y131 from by first | exact (Kd.R_below z45_ hb) | exact Kd.R_mono (Kd.R_below z45_ hb) (fun _ h_ => by first | trivial | exact h_ | exact h_.1))
    clear BK129
    clear HB
    have BK129 := n0_
    have HB := n1_
    clear n0_ n1_
    (try clear hb)
    (try clear hb2)
    (try clear hk)
    (try clear hi)
    refine hK.out _ _ ⟨v132, adz_v132, m3_, (by rw [ha.out]; exact putSel_upk 6 hb_ rfl rfl rfl), z18_, z7_, z_HO133, Q_HA_HO133, Q_X3_⟩
   refine steps_cons ?_ ?_
   ·rintro b a w' ⟨v132, adz_v132, m3_, ha, Q_BK129, Q_HB, Q_HO133, Q_HA_HO133, Q_X3_⟩ hb_ hon hoff
    refine ⟨_, rfl, fun K hK => ?_⟩
    have e12 : a.tmps[12]? = some (.string ((rdOf ByteArray.empty y131 a0_0) ++ (⟨#[32]⟩ : ByteArray))) := by rw [ha]; exact putSel_on (e := (5, 12, .string ((rdOf ByteArray.empty y131 a0_0) ++ (⟨#[32]⟩ : ByteArray)))) 4 rfl rfl (hon 5 (by kernel_rfl)) rfl
    have e15 : a.tmps[15]? = some (.string t135) := by rw [ha]; exact putSel_on (e := (8, 15, .string t135)) 6 rfl rfl (hon 8 (by kernel_rfl)) rfl
    replace ha := Aside0.mk ha
    have BK129 := Aside0.mk Q_BK129
    have HB := Aside0.mk Q_HB
    have HO133 := Aside0.mk (Q_HO133 (hon 0 (by kernel_rfl)))
    have HA_HO133 := Aside0.mk (Q_HA_HO133 (hon 0 (by kernel_rfl)))
    refine value_ (w1 := w') (v := .string (((rdOf ByteArray.empty y131 a0_0) ++ (⟨#[32]⟩ : ByteArray)) ++ t135)) (by rfl) rfl ?_ ?_
    ·go_simp
     (try simp only [i64_w])
     try rfl
    refine hK.out _ _ ⟨v132, adz_v132, m3_, (by rw [ha.out]; exact putSel_upk 7 hb_ rfl rfl rfl), Q_BK129, Q_HB, Q_HO133, Q_HA_HO133, Q_X3_⟩
   refine steps_cons ?_ ?_
   ·rintro b a w' ⟨v132, adz_v132, m3_, ha, Q_BK129, Q_HB, Q_HO133, Q_HA_HO133, Q_X3_⟩ hb_ hon hoff
    refine ⟨_, rfl, fun K hK => ?_⟩
    have e16 : a.tmps[16]? = some (.string (((rdOf ByteArray.empty y131 a0_0) ++ (⟨#[32]⟩ : ByteArray)) ++ t135)) := by rw [ha]; exact putSel_on (e := (9, 16, .string (((rdOf ByteArray.empty y131 a0_0) ++ (⟨#[32]⟩ : ByteArray)) ++ t135))) 7 rfl rfl (hon 9 (by kernel_rfl)) rfl
    replace ha := Aside0.mk ha
    have BK129 := Aside0.mk Q_BK129
    have HB := Aside0.mk Q_HB
    have HO133 := Aside0.mk (Q_HO133 (hon 0 (by kernel_rfl)))
    have HA_HO133 := Aside0.mk (Q_HA_HO133 (hon 0 (by kernel_rfl)))
    refine value_ (w1 := w') (v := .string (((rdOf ByteArray.empty y131 a0_0) ++ (⟨#[32]⟩ : ByteArray)) ++ t135)) (by rfl) rfl ?_ ?_
    ·go_simp
     (try simp only [i64_w])
     try rfl
    refine hK.out _ _ ⟨v132, adz_v132, m3_, (by rw [ha.out]; exact putSel_upk 8 hb_ rfl rfl rfl), Q_BK129, Q_HB, Q_HO133, Q_HA_HO133, Q_X3_⟩
   exact steps_nil
  rintro b a w18 hall ⟨v132, adz_v132, m3_, ha, Q_BK129, Q_HB, Q_HO133, Q_HA_HO133, Q_X3_⟩
  clear BK129 HB
  have hb0_ := hall 0 (by kernel_rfl)
  have hb2_ := hall 2 (by kernel_rfl)
  have hb3_ := hall 3 (by kernel_rfl)
  have hb4_ := hall 4 (by kernel_rfl)
  have hb5_ := hall 5 (by kernel_rfl)
  have hb7_ := hall 7 (by kernel_rfl)
  have hb8_ := hall 8 (by kernel_rfl)
  have hb9_ := hall 9 (by kernel_rfl)
  have hb10_ := hall 10 (by kernel_rfl)
  subst ha
  obtain rfl := Q_X3_ hb3_
  simp only [putSel, hb0_, hb2_, hb3_, hb4_, hb5_, hb7_, hb8_, hb9_, hb10_, if_true, Act.put, List.setIfInBounds_toArray, List.set_cons_zero, List.set_cons_succ]
  have BK129 := Aside0.mk Q_BK129
  clear Q_BK129
  have HB := Aside0.mk Q_HB
  clear Q_HB
  have HO133 := Aside0.mk (Q_HO133 hb0_)
  clear Q_HO133
  have HA_HO133 := Aside0.mk (Q_HA_HO133 hb0_)
  clear Q_HA_HO133
  clear hall hb0_ hb2_ hb3_ hb4_ hb5_ hb7_ hb8_ hb9_ hb10_
  obtain ⟨co19, eo19⟩ := HA_HO133.out
  clear HA_HO133
  subst eo19
  obtain ⟨hcz20_0, hcz20_1, hcz20_2, hcz20_3, hcz20_4, hfz20_0, hfz20_1, hfz20_2, hfz20_3, hfz20_4⟩ := bx5_ BK129.out
  go_upto_if 19 with (fail)
  go_cut [3] (fun v3 wc => ∃ (kq : Nat) (x3_8 : ByteArray), v3 = .string x3_8 ∧ Aside0 (spec_OpText.j0 kq x3_8 a0_0 l0_1 a0_2 a0_3 a0_4 = some r) ∧ Aside0 (kq ≤ k) ∧ Aside0 (wc.heap[gb129]? = some (.cells #[.int .i64 a0_0, (.slice A0_1 l0_1.length c0_1), .int .i64 a0_2, .int .i64 a0_3, .int .i64 a0_4] 33 (0, 0))) ∧ Aside0 (Below w.heap.size w wc))
  case first =>
   have H := HC9.out
   clear HC9
   by_cases c21 : a0_0 = 2
   ·rw [if_pos c21] at H
    have c21b0 : (a0_0 == 2) = true := beq_iff_eq.mpr c21
    have c21b1 : (a0_0 != 2) = false := bne_eq_false_iff_eq.mpr c21
    clear c21
    (first | rw [c21b0] | rw [c21b1] | (simp only [i64_w, i32_w]; rw [c21b0]) | skip)
    have H' := Aside0.mk H
    clear H
    go_wp2
    go_meet
    case rel => exact ⟨_, (((rdOf ByteArray.empty y131 a0_0) ++ (⟨#[32]⟩ : ByteArray)) ++ t135), z6_, H', ⟨z49_⟩, ⟨z18_⟩, ⟨z7_⟩⟩
   ·rw [if_neg c21] at H
    have c21b0 : (a0_0 == 2) = false := beq_eq_false_iff_ne.mpr c21
    have c21b1 : (a0_0 != 2) = true := bne_iff_ne.mpr c21
    (first | rw [c21b0] | rw [c21b1] | (simp only [i64_w, i32_w]; rw [c21b0]) | skip)
    obtain ⟨c22, H⟩ := ifs_ H
    have c22b0 := eq_true c22
    have c22b1 := decide_eq_true c22
    try have c22b2 : (9223372036854775807 < (((rdOf ByteArray.empty y131 a0_0) ++ (⟨#[32]⟩ : ByteArray)) ++ t135).size + 1) = False := eq_false (Nat.not_lt.2 c22)
    have c22s : (rdOf ByteArray.empty y131 a0_0).size + 1 + t135.size + 1 ≤ 9223372036854775807 := by have e_ := c22; simp only [ByteArray.size_append] at e_; exact e_
    have c22sb : (9223372036854775807 < (rdOf ByteArray.empty y131 a0_0).size + 1 + t135.size + 1) = False := eq_false (Nat.not_lt.2 c22s)
    obtain ⟨t136, A23, H⟩ := bnd_ H
    obtain ⟨c24, H⟩ := ifs_ H
    have c24b0 := eq_true c24
    have c24b1 := decide_eq_true c24
    try have c24b2 : (9223372036854775807 < ((((rdOf ByteArray.empty y131 a0_0) ++ (⟨#[32]⟩ : ByteArray)) ++ t135) ++ (⟨#[32]⟩ : ByteArray)).size + t136.size) = False := eq_false (Nat.not_lt.2 c24)
    have c24s : (rdOf ByteArray.empty y131 a0_0).size + 1 + t135.size + 1 + t136.size ≤ 9223372036854775807 := by have e_ := c24; simp only [ByteArray.size_append] at e_; exact e_
    have c24sb : (9223372036854775807 < (rdOf ByteArray.empty y131 a0_0).size + 1 + t135.size + 1 + t136.size) = False := eq_false (Nat.not_lt.2 c24s)
    have H' := Aside0.mk H
    clear H
    obtain ⟨hcz25_0, hcz25_1, hcz25_2, hcz25_3, hcz25_4, hfz25_0, hfz25_1, hfz25_2, hfz25_3, hfz25_4⟩ := bx5_ BK129.out
    go_wp2_with (first | ((with_reducible refine gate_callee (f := 30) rfl ?_); refine goesL_ (some 24) rfl rfl Tryd.func30 (by kernel_rfl) rfl #[.int .i64 a0_2] rfl z1_ ?_; (with_reducible refine (spec_LabelName.calls a0_2 t136 _ A23.out).mono ?_); rintro e w26 ⟨rfl, hb⟩; refine ⟨_, rfl, ?_⟩; replace HO133 := Aside0.mk (Kd.R_below z46_ hb); replace BK129 := Aside0.mk (blk_below (g := gb129) (o := .cells #[.int .i64 a0_0, .slice A0_1 l0_1.length c0_1, .int .i64 a0_2, .int .i64 a0_3, .int .i64 a0_4] 33 (0, 0)) z18_ hb); replace HB := Aside0.mk (below_step z7_ hb); (try clear hb)))
    go_meet
    case rel => exact ⟨_, (((((rdOf ByteArray.empty y131 a0_0) ++ (⟨#[32]⟩ : ByteArray)) ++ t135) ++ (⟨#[32]⟩ : ByteArray)) ++ t136), z6_, H', ⟨z49_⟩, ⟨z18_⟩, ⟨z7_⟩⟩
  case rest =>
   clear HC9
   try clear c1
   try clear qi1
   try clear c2
   try clear p2
   try clear c3
   try clear c4
   try clear c4b0
   try clear c5
   try clear c5b0
   try clear c6
   try clear c6b0
   try clear c6b1
   try clear c6b2
   try clear c8
   try clear c8b0
   try clear c8b1
   try clear c8b2
   try clear c10
   try clear qi13
   try clear c21
   try clear c21b0
   try clear c21b1
   try clear c22
   try clear c22b0
   try clear c22b1
   try clear c22b2
   try clear c24
   try clear c24b0
   try clear c24b1
   try clear c24b2
   try clear hcz11_0
   try clear hcz11_1
   try clear hcz11_2
   try clear hcz11_3
   try clear hcz11_4
   try clear hcz20_0
   try clear hcz20_1
   try clear hcz20_2
   try clear hcz20_3
   try clear hcz20_4
   try clear hcz25_0
   try clear hcz25_1
   try clear hcz25_2
   try clear hcz25_3
   try clear hcz25_4
   try clear hfz11_0
   try clear hfz11_1
   try clear hfz11_2
   try clear hfz11_3
   try clear hfz11_4
   try clear hfz20_0
   try clear hfz20_1
   try clear hfz20_2
   try clear hfz20_3
   try clear hfz20_4
   try clear hfz25_0
   try clear hfz25_1
   try clear hfz25_2
   try clear hfz25_3
   try clear hfz25_4
   obtain ⟨kq, x3_8, rfl, HA, HJ8, BK129, HB⟩ := hcut
   cases kq with
   | zero => exact absurd HA.out (by simp [spec_OpText.j0])
   | succ kj8 =>
    have H := HA.out
    clear HA
    simp only [spec_OpText.j0] at H
    by_cases c27 : a0_0 = 3
    ·rw [if_pos c27] at H
     have c27b0 : (a0_0 == 3) = true := beq_iff_eq.mpr c27
     have c27b1 : (a0_0 != 3) = false := bne_eq_false_iff_eq.mpr c27
     clear c27
     obtain ⟨c28, H⟩ := ifs_ H
     have c28b0 := eq_true c28
     have c28b1 := decide_eq_true c28
     try have c28b2 : (9223372036854775807 < x3_8.size + 1) = False := eq_false (Nat.not_lt.2 c28)
     obtain ⟨t137, A29, H⟩ := bnd_ H
     obtain ⟨c30, H⟩ := ifs_ H
     have c30b0 := eq_true c30
     have c30b1 := decide_eq_true c30
     try have c30b2 : (9223372036854775807 < (x3_8 ++ (⟨#[32]⟩ : ByteArray)).size + t137.size) = False := eq_false (Nat.not_lt.2 c30)
     have c30s : x3_8.size + 1 + t137.size ≤ 9223372036854775807 := by have e_ := c30; simp only [ByteArray.size_append] at e_; exact e_
     have c30sb : (9223372036854775807 < x3_8.size + 1 + t137.size) = False := eq_false (Nat.not_lt.2 c30s)
     obtain ⟨c31, H⟩ := ifs_ H
     have c31b0 := eq_true c31
     have c31b1 := decide_eq_true c31
     try have c31b2 : (9223372036854775807 < ((x3_8 ++ (⟨#[32]⟩ : ByteArray)) ++ t137).size + 1) = False := eq_false (Nat.not_lt.2 c31)
     have c31s : x3_8.size + 1 + t137.size + 1 ≤ 9223372036854775807 := by have e_ := c31; simp only [ByteArray.size_append] at e_; exact e_
     have c31sb : (9223372036854775807 < x3_8.size + 1 + t137.size + 1) = False := eq_false (Nat.not_lt.2 c31s)
     obtain ⟨t138, A32, H⟩ := bnd_ H
     obtain ⟨c33, H⟩ := ifs_ H
     have c33b0 := eq_true c33
     have c33b1 := decide_eq_true c33
     try have c33b2 : (9223372036854775807 < (((x3_8 ++ (⟨#[32]⟩ : ByteArray)) ++ t137) ++ (⟨#[32]⟩ : ByteArray)).size + t138.size) = False := eq_false (Nat.not_lt.2 c33)
     have c33s : x3_8.size + 1 + t137.size + 1 + t138.size ≤ 9223372036854775807 := by have e_ := c33; simp only [ByteArray.size_append] at e_; exact e_
     have c33sb : (9223372036854775807 < x3_8.size + 1 + t137.size + 1 + t138.size) = False := eq_false (Nat.not_lt.2 c33s)
     obtain rfl := Option.some.inj H
     obtain ⟨hcz34_0, hcz34_1, hcz34_2, hcz34_3, hcz34_4, hfz34_0, hfz34_1, hfz34_2, hfz34_3, hfz34_4⟩ := bx5_ BK129.out
     try go_wp2
     have n0_ := Aside0.mk (blk_drew BK129.out)
     have n1_ := Aside0.mk (below_drew1 HB.out)
     clear BK129
     clear HB
     have BK129 := n0_
     have HB := n1_
     clear n0_ n1_
     refine start_ (n := 12) (S := fun w' => w'.cell? ⟨gb129, 0, none⟩ = some (.int .i64 a0_0) ∧ w'.cell? ⟨gb129, 1, none⟩ = some (.slice A0_1 l0_1.length c0_1) ∧ w'.cell? ⟨gb129, 2, none⟩ = some (.int .i64 a0_2) ∧ w'.cell? ⟨gb129, 3, none⟩ = some (.int .i64 a0_3) ∧ w'.cell? ⟨gb129, 4, none⟩ = some (.int .i64 a0_4)) (ds := []) (fl_ 12 0) (by kernel_rfl) rfl (fl_zero _) ⟨(blk_cell BK129.out 0).trans rfl, (blk_cell BK129.out 1).trans rfl, (blk_cell BK129.out 2).trans rfl, (blk_cell BK129.out 3).trans rfl, (blk_cell BK129.out 4).trans rfl⟩ (fun hHeld => ?_); refine with_tabW spec_OpText.tab7 spec_OpText.bits7 (fun HT_ HW_ => ?_)
     generalize wc.drew = w35 at BK129 HB hHeld ⊢
     iterate 3 refine zp_ HT_ rfl rfl (by kernel_rfl) (fun _ _ _ h => h) (by rfl) ?_
     refine zpg_ (i := 7) (ra_ [3, 4, 1, 4]) HT_ rfl rfl (by kernel_rfl) (fun _ _ _ h => h) (by rfl) ?_
     refine ztg_ (i := 3) (ra_ [4, 3, 1, 4]) HT_ HW_ rfl rfl (by kernel_rfl) (fun _ _ _ h => h) (by rfl) hHeld ?_ z43_
     refine ztg_ (i := 8) (ra_ [4, 3, 2, 3]) HT_ HW_ rfl rfl (by kernel_rfl) (fun _ _ _ h => h) (by rfl) hHeld ?_ z43_
     refine one_ (i := 4) (N := some 33) (ra_ [5, 2, 2, 3]) rfl rfl (one_of HT_.out (by kernel_rfl)) (by decide) (fun K hK => ?_)
     refine goes_ Tryd.func21 (by kernel_rfl) rfl #[.int .i64 a0_3] (by rfl) rfl rfl z1_ ?_
     with_reducible refine (spec_Dec.calls kj8 a0_3 t137 _ A29.out).mono ?_
     rintro e w36 ⟨rfl, hb⟩
     refine ⟨_, rfl, ?_⟩
     have n0_ := Aside0.mk (blk_below (g := gb129) (o := .cells #[.int .i64 a0_0, .slice A0_1 l0_1.length c0_1, .int .i64 a0_2, .int .i64 a0_3, .int .i64 a0_4] 33 (0, 0)) z18_ hb)
     have n1_ := Aside0.mk (below_step z7_ hb)
     clear BK129
     clear HB
     have BK129 := n0_
     have HB := n1_
     clear n0_ n1_
     (try clear hb)
     (try clear hb2)
     (try clear hk)
     (try clear hi)
     refine hK.out _ _ ⟨(blk_cell BK129.out 0).trans rfl, (blk_cell BK129.out 1).trans rfl, (blk_cell BK129.out 2).trans rfl, (blk_cell BK129.out 3).trans rfl, (blk_cell BK129.out 4).trans rfl⟩ (fun hHeld => ?_)
     clear hK K
     refine zn_ rfl ?_
     refine zpg_ (i := 5) (ra_ [6, 1, 2, 3]) HT_ rfl rfl (by kernel_rfl) (fun _ _ _ h => h) (by rfl) ?_
     refine zpg_ (i := 6) (fl_ 12 9) HT_ rfl rfl (by kernel_rfl) (fun _ _ _ h => h) (by rfl) ?_
     refine one_ (i := 9) (N := some 38) (fl_ 12 10) rfl rfl (one_of HT_.out (by kernel_rfl)) (by decide) (fun K hK => ?_)
     refine goes_ Tryd.func21 (by kernel_rfl) rfl #[.int .i64 a0_4] (by rfl) rfl rfl z1_ ?_
     with_reducible refine (spec_Dec.calls kj8 a0_4 t138 _ A32.out).mono ?_
     rintro e w37 ⟨rfl, hb⟩
     refine ⟨_, rfl, ?_⟩
     have n0_ := Aside0.mk (blk_below (g := gb129) (o := .cells #[.int .i64 a0_0, .slice A0_1 l0_1.length c0_1, .int .i64 a0_2, .int .i64 a0_3, .int .i64 a0_4] 33 (0, 0)) z18_ hb)
     have n1_ := Aside0.mk (below_step z7_ hb)
     clear BK129
     clear HB
     have BK129 := n0_
     have HB := n1_
     clear n0_ n1_
     (try clear hb)
     (try clear hb2)
     (try clear hk)
     (try clear hi)
     refine hK.out _ _ ⟨(blk_cell BK129.out 0).trans rfl, (blk_cell BK129.out 1).trans rfl, (blk_cell BK129.out 2).trans rfl, (blk_cell BK129.out 3).trans rfl, (blk_cell BK129.out 4).trans rfl⟩ (fun hHeld => ?_)
     clear hK K
     refine zn_ rfl ?_
     iterate 2 refine zp_ HT_ rfl rfl (by kernel_rfl) (fun _ _ _ h => h) (by rfl) ?_
     refine done_ (done_of HT_.out (by kernel_rfl)) ?_
     try go_wp2
     go_ret
     exact ⟨z2_, z7_⟩
    ·rw [if_neg c27] at H
     have c27b0 : (a0_0 == 3) = false := beq_eq_false_iff_ne.mpr c27
     have c27b1 : (a0_0 != 3) = true := bne_iff_ne.mpr c27
     obtain rfl := Option.some.inj H
     obtain ⟨hcz38_0, hcz38_1, hcz38_2, hcz38_3, hcz38_4, hfz38_0, hfz38_1, hfz38_2, hfz38_3, hfz38_4⟩ := bx5_ BK129.out
     go_wp2
     go_ret
     exact ⟨z2_, z7_⟩
 ·replace c3 := Bool.eq_false_iff.mpr c3
  subst c3
  replace H := iff_ H
  obtain rfl := Option.some.inj H
  go_enter Tryd.func10, Tryd.ntmps10
  go_wp2_with (first | ((with_reducible refine gate_dst (N := 1) rfl ?_); refine box_event ?hg (N := 1) ?hd (cs := #[.int .i64 a0_0, .slice A0_1 l0_1.length c0_1, .int .i64 a0_2, .int .i64 a0_3, .int .i64 a0_4]) (t := 33) ?hr ?_; (case hd => rfl); (case hg => rfl); (case hr => exact z13_); intro gb129 hg w39 hbox hb; have BK129 := Aside0.mk (hbox); have GW129 := Aside0.mk ((by rw [hg]; exact (below_size z0_) : w.heap.size ≤ gb129)); have GE129 := Aside0.mk ((by rw [hg]; exact (below_size z0_) : w.heap.size ≤ gb129)); replace HB := Aside0.mk (below_step z0_ hb); clear hb hbox hg; obtain ⟨hcz40_0, hcz40_1, hcz40_2, hcz40_3, hcz40_4, hfz40_0, hfz40_1, hfz40_2, hfz40_3, hfz40_4⟩ := bx5_ BK129.out) | ((with_reducible refine gate_callee (f := 28) rfl ?_); refine goesL_ (some 5) rfl rfl Tryd.func28 (by kernel_rfl) rfl #[.agg #[.int .i64 a0_0, .slice A0_1 l0_1.length c0_1, .int .i64 a0_2, .int .i64 a0_3, .int .i64 a0_4]] rfl z1_ ?_; (with_reducible refine (spec_OpOk.calls k a0_0 _ _ l0_1 a0_2 a0_3 a0_4 false _ ?side1 ?side2 A2.out).mono ?_); (case side1 => exact z3_); (case side2 => exact HC0_1.out); rintro e w41 ⟨rfl, hb⟩; refine ⟨_, rfl, ?_⟩; replace BK129 := Aside0.mk (blk_below (g := gb129) (o := .cells #[.int .i64 a0_0, .slice A0_1 l0_1.length c0_1, .int .i64 a0_2, .int .i64 a0_3, .int .i64 a0_4] 33 (0, 0)) z18_ hb); replace HB := Aside0.mk (below_step z7_ hb); (try clear hb)))
  go_ret
  exact ⟨z2_, z7_⟩

/-! ### spec_ScriptOk: function 36 -/
def spec_ScriptOk.l0 : Nat → List (S33) → Int → Option (Bool)
 | 0, _, _ => none
 | k + 1, x0, x3 => if x3 < (x0.length : Int) then (if 0 ≤ x3 then ((spec_OpOk.f k ((rd_T33 x0 x3).f0) ((rd_T33 x0 x3).f1) ((rd_T33 x0 x3).f2) ((rd_T33 x0 x3).f3) ((rd_T33 x0 x3).f4)).bind fun t140 => (if t140 = true then (spec_ScriptOk.l0 k x0 (wrap64 (x3 + 1))) else (some false))) else (none)) else (some (decide ((x0.length : Int) ≤ 60)))
def spec_ScriptOk.f (k : Nat) (l0 : List (S33)) : Option (Bool) := spec_ScriptOk.l0 k l0 0
set_option maxHeartbeats 8000000 in
set_option maxRecDepth 100000 in
theorem spec_ScriptOk.calls (k : Nat) (A0 : Option Addr) (c0 : Nat) (l0 : List (S33)) (r : Bool) (w : World) (hr0 : Kd.C k33 w A0 l0.length l0) (hc0 : l0.length ≤ c0) (h : spec_ScriptOk.f k l0 = some r) :
  Calls Tryd.prog 36 #[.slice A0 l0.length c0] w fun e w' => e = .returned (.bool r) ∧ Below w.heap.size w w' := by
 have hu33 := Tryd.underlying33
 have HR0 := Aside0.mk hr0
 have HC0 := Aside0.mk hc0
 clear hr0 hc0
 have HB := Aside0.mk (Below.refl w.heap.size w)
 have H : (spec_ScriptOk.l0 k l0 0) = some r := h
 clear h
 have H' := Aside0.mk H
 clear H
 go_enter Tryd.func36, Tryd.ntmps36
 go_wp2
 go_loopg [3] k (fun kq v3 w' => ∃ (x3_1 : Int), v3 = .int .i64 x3_1 ∧ Aside0 (spec_ScriptOk.l0 kq l0 x3_1 = some r) ∧ Aside0 (kq ≤ k) ∧ Aside0 (Below w.heap.size w w'))
 case atStart => exact ⟨(0), z6_, H', ⟨Nat.le_refl _⟩, ⟨z0_⟩⟩
 case round =>
  clear H'
  obtain ⟨x3_1, rfl, HA, HK1, HB⟩ := hrel
  cases gk with
  | zero => exact absurd HA.out (by simp [spec_ScriptOk.l0])
  | succ k1 =>
   have H := HA.out
   clear HA
   simp only [spec_ScriptOk.l0] at H
   by_cases c2 : x3_1 < (l0.length : Int)
   ·rw [if_pos c2] at H
    have c2b0 := decide_eq_true c2
    clear c2
    obtain ⟨c3b0, H⟩ := ifd_ H
    obtain ⟨t140, A4, H⟩ := bnd_ H
    by_cases c5 : t140 = true
    ·subst c5
     replace H := ift_ H
     have H' := Aside0.mk H
     clear H
     have p139 : 0 ≤ (x3_1 : Int) := odt_
     have q139 : x3_1 < (l0.length : Int) := odt_
     obtain ⟨ad139, A139_1, c139_1, e139, hx139_0, hx139_1, hx139_2, hx139_3, hx139_4, hl139_1, hi139_1⟩ := at_T33 HR0.out x3_1 p139 q139
     cases e139
     replace hx139_0 := (HB.out.cell (World.block_lt_of_cell? w _ hx139_0)).trans hx139_0
     replace hx139_1 := (HB.out.cell (World.block_lt_of_cell? w _ hx139_1)).trans hx139_1
     replace hx139_2 := (HB.out.cell (World.block_lt_of_cell? w _ hx139_2)).trans hx139_2
     replace hx139_3 := (HB.out.cell (World.block_lt_of_cell? w _ hx139_3)).trans hx139_3
     replace hx139_4 := (HB.out.cell (World.block_lt_of_cell? w _ hx139_4)).trans hx139_4
     have HR139_1 := Aside0.mk hi139_1
     have HC139_1 := Aside0.mk hl139_1
     clear hi139_1 hl139_1
     replace p139 := eq_true p139
     replace q139 := eq_true q139
     go_wp2_with (first | ((with_reducible refine gate_callee (f := 28) rfl ?_); refine goesL_ (some 14) rfl rfl Tryd.func28 (by kernel_rfl) rfl #[.agg #[.int .i64 ((rd_T33 l0 x3_1).f0), .slice A139_1 ((rd_T33 l0 x3_1).f1).length c139_1, .int .i64 ((rd_T33 l0 x3_1).f2), .int .i64 ((rd_T33 l0 x3_1).f3), .int .i64 ((rd_T33 l0 x3_1).f4)]] rfl z1_ ?_; (with_reducible refine (spec_OpOk.calls k1 ((rd_T33 l0 x3_1).f0) _ _ ((rd_T33 l0 x3_1).f1) ((rd_T33 l0 x3_1).f2) ((rd_T33 l0 x3_1).f3) ((rd_T33 l0 x3_1).f4) true _ ?side1 ?side2 A4.out).mono ?_); (case side1 => exact z32_); (case side2 => exact HC139_1.out); rintro e w6 ⟨rfl, hb⟩; refine ⟨_, rfl, ?_⟩; replace HB := Aside0.mk (below_step z0_ hb); (try clear hb)))
     go_roundg k1
     case measure => have := HK1.out; omega
     case rel => exact ⟨(wrap64 (x3_1 + 1)), z6_, H', ⟨z36_⟩, ⟨z0_⟩⟩
    ·replace c5 := Bool.eq_false_iff.mpr c5
     subst c5
     replace H := iff_ H
     obtain rfl := Option.some.inj H
     have p139 : 0 ≤ (x3_1 : Int) := odt_
     have q139 : x3_1 < (l0.length : Int) := odt_
     obtain ⟨ad139, A139_1, c139_1, e139, hx139_0, hx139_1, hx139_2, hx139_3, hx139_4, hl139_1, hi139_1⟩ := at_T33 HR0.out x3_1 p139 q139
     cases e139
     replace hx139_0 := (HB.out.cell (World.block_lt_of_cell? w _ hx139_0)).trans hx139_0
     replace hx139_1 := (HB.out.cell (World.block_lt_of_cell? w _ hx139_1)).trans hx139_1
     replace hx139_2 := (HB.out.cell (World.block_lt_of_cell? w _ hx139_2)).trans hx139_2
     replace hx139_3 := (HB.out.cell (World.block_lt_of_cell? w _ hx139_3)).trans hx139_3
     replace hx139_4 := (HB.out.cell (World.block_lt_of_cell? w _ hx139_4)).trans hx139_4
     have HR139_1 := Aside0.mk hi139_1
     have HC139_1 := Aside0.mk hl139_1
     clear hi139_1 hl139_1
     replace p139 := eq_true p139
     replace q139 := eq_true q139
     go_wp2_with (first | ((with_reducible refine gate_callee (f := 28) rfl ?_); refine goesL_ (some 14) rfl rfl Tryd.func28 (by kernel_rfl) rfl #[.agg #[.int .i64 ((rd_T33 l0 x3_1).f0), .slice A139_1 ((rd_T33 l0 x3_1).f1).length c139_1, .int .i64 ((rd_T33 l0 x3_1).f2), .int .i64 ((rd_T33 l0 x3_1).f3), .int .i64 ((rd_T33 l0 x3_1).f4)]] rfl z1_ ?_; (with_reducible refine (spec_OpOk.calls k1 ((rd_T33 l0 x3_1).f0) _ _ ((rd_T33 l0 x3_1).f1) ((rd_T33 l0 x3_1).f2) ((rd_T33 l0 x3_1).f3) ((rd_T33 l0 x3_1).f4) false _ ?side1 ?side2 A4.out).mono ?_); (case side1 => exact z32_); (case side2 => exact HC139_1.out); rintro e w7 ⟨rfl, hb⟩; refine ⟨_, rfl, ?_⟩; replace HB := Aside0.mk (below_step z0_ hb); (try clear hb)))
     go_ret
     exact ⟨z2_, z0_⟩
   ·rw [if_neg c2] at H
    have c2b0 := decide_eq_false c2
    clear c2
    obtain rfl := Option.some.inj H
    go_wp2
    go_ret
    exact ⟨z2_, z0_⟩

end Go.Proofs.YtipclgiboffblaaDoor.PFnExactScriptText
