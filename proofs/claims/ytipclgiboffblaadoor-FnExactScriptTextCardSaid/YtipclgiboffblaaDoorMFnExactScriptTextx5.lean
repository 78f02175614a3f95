/- Laid by a program of this session out of the kit's print for the law FnExactScriptText: what it says of the machine is proved here, function by function; each contract under the conditions that it names. -/
import Derived.Test.YtipclgiboffblaaDoorShelf
import Derived.Lib.AppendIntMem
import Derived.Test.YtipclgiboffblaaDoorMFnExactScriptTextx0
import Derived.Test.YtipclgiboffblaaDoorMFnExactScriptTextx3
import Derived.Test.YtipclgiboffblaaDoorMFnExactScriptTextx4
namespace Go.Proofs.YtipclgiboffblaaDoor.PFnExactScriptText
open Go.RowKit Go.Proofs.YtipclgiboffblaaDoorW.PrintWords Go.Proofs.YtipclgiboffblaaDoorW.PrintLast Go.Proofs.YtipclgiboffblaaDoorW.PrintMore
attribute [local go_sem] max2_int min2_int max_two min_two max_three min_three max_four min_four   -- for this text's walks alone
set_option linter.unusedVariables false
set_option linter.unusedSimpArgs false

/-! ### impl_OpText: function 12 -/
def impl_OpText.l0 : Nat → List ByteArray → List Int → Int → Int → Int → List Int → Int → Int → Int → Option (ByteArray)
 | 0, _, _, _, _, _, _, _, _, _ => none
 | k + 1, x3, x12, x13, x14, x193000, x193001, x193002, x193003, x193004 => if x14 < x13 then (if 0 ≤ x14 then (if x14 < (x12.length : Int) then ((impl_Dec.f k (rd x12 x14)).bind fun t198 => (if x3.length < 8796093022208 then (impl_OpText.l0 k (x3 ++ [t198]) x12 x13 (wrap64 (x14 + 1)) x193000 x193001 x193002 x193003 x193004) else (none))) else (none)) else (none)) else ((strings_Join.f x3 (⟨#[46]⟩ : ByteArray)).bind fun t202 => (if 2 + t202.size ≤ 9223372036854775807 then (if x193000 = 1 then (if 7 + ((⟨#[32, 46]⟩ : ByteArray) ++ t202).size ≤ 9223372036854775807 then (if ((⟨#[114, 101, 108, 97, 98, 101, 108]⟩ : ByteArray) ++ ((⟨#[32, 46]⟩ : ByteArray) ++ t202)).size + 1 ≤ 9223372036854775807 then ((impl_LabelName.f x193002).bind fun t203 => (if (((⟨#[114, 101, 108, 97, 98, 101, 108]⟩ : ByteArray) ++ ((⟨#[32, 46]⟩ : ByteArray) ++ t202)) ++ (⟨#[32]⟩ : ByteArray)).size + t203.size ≤ 9223372036854775807 then (some ((((⟨#[114, 101, 108, 97, 98, 101, 108]⟩ : ByteArray) ++ ((⟨#[32, 46]⟩ : ByteArray) ++ t202)) ++ (⟨#[32]⟩ : ByteArray)) ++ t203)) else (none))) else (none)) else (none)) else (if x193000 = 2 then (if 6 + ((⟨#[32, 46]⟩ : ByteArray) ++ t202).size ≤ 9223372036854775807 then (some ((⟨#[100, 101, 108, 101, 116, 101]⟩ : ByteArray) ++ ((⟨#[32, 46]⟩ : ByteArray) ++ t202))) else (none)) else (if 6 + ((⟨#[32, 46]⟩ : ByteArray) ++ t202).size ≤ 9223372036854775807 then (if ((⟨#[105, 110, 115, 101, 114, 116]⟩ : ByteArray) ++ ((⟨#[32, 46]⟩ : ByteArray) ++ t202)).size + 1 ≤ 9223372036854775807 then ((impl_LabelName.f x193002).bind fun t204 => (if (((⟨#[105, 110, 115, 101, 114, 116]⟩ : ByteArray) ++ ((⟨#[32, 46]⟩ : ByteArray) ++ t202)) ++ (⟨#[32]⟩ : ByteArray)).size + t204.size ≤ 9223372036854775807 then (if ((((⟨#[105, 110, 115, 101, 114, 116]⟩ : ByteArray) ++ ((⟨#[32, 46]⟩ : ByteArray) ++ t202)) ++ (⟨#[32]⟩ : ByteArray)) ++ t204).size + 1 ≤ 9223372036854775807 then ((impl_Dec.f k x193003).bind fun t205 => (if (((((⟨#[105, 110, 115, 101, 114, 116]⟩ : ByteArray) ++ ((⟨#[32, 46]⟩ : ByteArray) ++ t202)) ++ (⟨#[32]⟩ : ByteArray)) ++ t204) ++ (⟨#[32]⟩ : ByteArray)).size + t205.size ≤ 9223372036854775807 then (if ((((((⟨#[105, 110, 115, 101, 114, 116]⟩ : ByteArray) ++ ((⟨#[32, 46]⟩ : ByteArray) ++ t202)) ++ (⟨#[32]⟩ : ByteArray)) ++ t204) ++ (⟨#[32]⟩ : ByteArray)) ++ t205).size + 1 ≤ 9223372036854775807 then ((impl_Dec.f k x193004).bind fun t206 => (if (((((((⟨#[105, 110, 115, 101, 114, 116]⟩ : ByteArray) ++ ((⟨#[32, 46]⟩ : ByteArray) ++ t202)) ++ (⟨#[32]⟩ : ByteArray)) ++ t204) ++ (⟨#[32]⟩ : ByteArray)) ++ t205) ++ (⟨#[32]⟩ : ByteArray)).size + t206.size ≤ 9223372036854775807 then (some ((((((((⟨#[105, 110, 115, 101, 114, 116]⟩ : ByteArray) ++ ((⟨#[32, 46]⟩ : ByteArray) ++ t202)) ++ (⟨#[32]⟩ : ByteArray)) ++ t204) ++ (⟨#[32]⟩ : ByteArray)) ++ t205) ++ (⟨#[32]⟩ : ByteArray)) ++ t206)) else (none))) else (none)) else (none))) else (none)) else (none))) else (none)) else (none)))) else (none)))
def impl_OpText.f (k : Nat) (a0_0 : Int) (l0_1 : List Int) (a0_2 : Int) (a0_3 : Int) (a0_4 : Int) : Option (ByteArray) := (impl_OpOk.f k a0_0 l0_1 a0_2 a0_3 a0_4).bind fun t193 => (if t193 = true then (impl_OpText.l0 k (([] : List ByteArray)) l0_1 (l0_1.length : Int) 0 a0_0 l0_1 a0_2 a0_3 a0_4) else (some (⟨#[]⟩ : ByteArray)))
def impl_OpText.T15 : Bool × List (List Nat × List Nat) := (true, [([], []), ([0], [0]), ([1], [1]), ([], []), ([3], [3]), ([4], [4]), ([2, 5], [2, 5]), ([6], [6]), ([], []), ([8], [8]), ([9, 5], [9]), ([7, 10], [7, 10]), ([11], [11]), ([], []), ([13], [13]), ([14, 10], [14]), ([12, 15], [12, 15]), ([16, 15, 0, 1, 2, 3, 4, 5, 6, 7, 8, 9, 10, 11, 12, 13, 14, 15, 16], [16])])
def impl_OpText.B15 : List Nat := [0, 1, 3, 0, 8, 24, 63, 127, 0, 256, 824, 2047, 4095, 0, 8192, 26424, 65535, 131071]
theorem impl_OpText.tab15 : rtab .any (opsOf Tryd.f12 15) = impl_OpText.T15 := by kernel_rfl
theorem impl_OpText.bits15 : waitsOk impl_OpText.T15.2 impl_OpText.B15 = true := by kernel_rfl
set_option maxHeartbeats 8000000 in
set_option maxRecDepth 100000 in
theorem impl_OpText.calls (k : Nat) (a0_0 : Int) (A0_1 : Option Addr) (c0_1 : Nat) (l0_1 : List Int) (a0_2 : Int) (a0_3 : Int) (a0_4 : Int) (r : ByteArray) (w : World) (hr0_1 : Kd.C (Kd.int .i64) w A0_1 l0_1.length l0_1) (hc0_1 : l0_1.length ≤ c0_1) (h : impl_OpText.f k a0_0 l0_1 a0_2 a0_3 a0_4 = some r) :
  Calls Tryd.prog 12 #[.agg #[.int .i64 a0_0, .slice A0_1 l0_1.length c0_1, .int .i64 a0_2, .int .i64 a0_3, .int .i64 a0_4]] w fun e w' => e = .returned (.string r) ∧ Below w.heap.size w w' := by
 have hu33 := Tryd.underlying33
 have HR0_1 := Aside0.mk hr0_1
 have HC0_1 := Aside0.mk hc0_1
 clear hr0_1 hc0_1
 have HB := Aside0.mk (Below.refl w.heap.size w)
 have H : ((impl_OpOk.f k a0_0 l0_1 a0_2 a0_3 a0_4).bind fun t193 => (if t193 = true then (impl_OpText.l0 k (([] : List ByteArray)) l0_1 (l0_1.length : Int) 0 a0_0 l0_1 a0_2 a0_3 a0_4) else (some (⟨#[]⟩ : ByteArray)))) = some r := h
 clear h
 obtain ⟨t193, A2, H⟩ := bnd_ H
 by_cases c3 : t193 = true
 ·subst c3
  replace H := ift_ H
  first | ((with_reducible have hz_ := gy_ H); obtain ⟨y194, Ny194, H⟩ := hz_) | (generalize hy_ : ((([] : List ByteArray)) : List ByteArray) = y194 at H; have Ny194 := Aside0.mk hy_.symm; clear hy_)
  have H' := Aside0.mk H
  clear H
  go_enter Tryd.func12, Tryd.ntmps12
  go_wp2_with (first | ((with_reducible refine gate_dst (N := 1) rfl ?_); refine box_event ?hg (N := 1) ?hd (cs := #[.int .i64 a0_0, .slice A0_1 l0_1.length c0_1, .int .i64 a0_2, .int .i64 a0_3, .int .i64 a0_4]) (t := 33) ?hr ?_; (case hd => rfl); (case hg => rfl); (case hr => exact z13_); intro gb192 hg w4 hbox hb; have BK192 := Aside0.mk (hbox); have GW192 := Aside0.mk ((by rw [hg]; exact (below_size z0_) : w.heap.size ≤ gb192)); have GE192 := Aside0.mk ((by rw [hg]; exact (below_size z0_) : w.heap.size ≤ gb192)); replace HB := Aside0.mk (below_step z0_ hb); clear hb hbox hg; obtain ⟨hcz5_0, hcz5_1, hcz5_2, hcz5_3, hcz5_4, hfz5_0, hfz5_1, hfz5_2, hfz5_3, hfz5_4⟩ := bx5_ BK192.out) | ((with_reducible refine gate_callee (f := 32) rfl ?_); refine goesL_ (some 8) rfl rfl Tryd.func32 (by kernel_rfl) rfl #[.agg #[.int .i64 a0_0, .slice A0_1 l0_1.length c0_1, .int .i64 a0_2, .int .i64 a0_3, .int .i64 a0_4]] rfl z1_ ?_; (with_reducible refine (impl_OpOk.calls k a0_0 _ _ l0_1 a0_2 a0_3 a0_4 true _ ?side1 ?side2 A2.out).mono ?_); (case side1 => exact z3_); (case side2 => exact HC0_1.out); rintro e w6 ⟨rfl, hb⟩; refine ⟨_, rfl, ?_⟩; replace BK192 := Aside0.mk (blk_below (g := gb192) (o := .cells #[.int .i64 a0_0, .slice A0_1 l0_1.length c0_1, .int .i64 a0_2, .int .i64 a0_3, .int .i64 a0_4] 33 (0, 0)) z14_ hb); replace HB := Aside0.mk (below_step z4_ hb); (try clear hb)) | ((with_reducible refine gate_dst (N := 10) rfl ?_); refine Kd.R_lit Kd.string _ 9 ?hg (N := 10) ?hd (xs := ([] : List ByteArray)) (inner := []) (ok := fun _ => True) (okp := fun _ => True) ?hr ?hp (fun _ hk => hk) trivial (Below.refl _ _) (Nat.le_refl _) (by simp) ?_; (case hd => rfl); (case hg => rfl); (case hr => exact z13_); (case hp => exact (Reps.none _ _)); intro v195 w7 ho8 hb hg_ hnew_; clear hg_ hnew_; (first | rw [← Ny194.out] at ho8 | (simp only [Int.reduceToNat] at ho8; rw [← Ny194.out] at ho8)); have HO196 := Aside0.mk (Kd.R_lower ho8 (below_size z4_)); replace BK192 := Aside0.mk (blk_below (g := gb192) (o := .cells #[.int .i64 a0_0, .slice A0_1 l0_1.length c0_1, .int .i64 a0_2, .int .i64 a0_3, .int .i64 a0_4] 33 (0, 0)) z14_ hb); replace HB := Aside0.mk (below_step z4_ hb); clear hb ho8; obtain ⟨hcz9_0, hcz9_1, hcz9_2, hcz9_3, hcz9_4, hfz9_0, hfz9_1, hfz9_2, hfz9_3, hfz9_4⟩ := bx5_ BK192.out))
  go_loopg [3, 14] k (fun kq v3 v14 w' => ∃ (x3_1 : List ByteArray) (x14_1 : Int), v14 = .int .i64 x14_1 ∧ Aside0 (impl_OpText.l0 kq x3_1 l0_1 (l0_1.length : Int) x14_1 a0_0 l0_1 a0_2 a0_3 a0_4 = some r) ∧ Aside0 (kq ≤ k) ∧ Aside0 (Kd.R Kd.string 9 w' w.heap.size (fun _ => True) v3 x3_1) ∧ Aside0 (w'.heap[gb192]? = some (.cells #[.int .i64 a0_0, (.slice A0_1 l0_1.length c0_1), .int .i64 a0_2, .int .i64 a0_3, .int .i64 a0_4] 33 (0, 0))) ∧ Aside0 (Below w.heap.size w w'))
  case atStart => exact ⟨(y194), (0), z6_, H', ⟨Nat.le_refl _⟩, ⟨by (with_reducible repeat (first | apply Kd.R_alloc | apply Kd.R_drewN | apply Kd.R_drew)); exact HO196.out⟩, ⟨z14_⟩, ⟨z4_⟩⟩
  case round =>
   clear H'
   try clear c1
   try clear p2
   try clear c3
   try clear hcz5_0
   try clear hcz5_1
   try clear hcz5_2
   try clear hcz5_3
   try clear hcz5_4
   try clear hcz9_0
   try clear hcz9_1
   try clear hcz9_2
   try clear hcz9_3
   try clear hcz9_4
   try clear hfz5_0
   try clear hfz5_1
   try clear hfz5_2
   try clear hfz5_3
   try clear hfz5_4
   try clear hfz9_0
   try clear hfz9_1
   try clear hfz9_2
   try clear hfz9_3
   try clear hfz9_4
   obtain ⟨x3_1, x14_1, rfl, HA, HK1, HO_3, BK192, HB⟩ := hrel
   cases gk with
   | zero => exact absurd HA.out (by simp [impl_OpText.l0])
   | succ k1 =>
    have H := HA.out
    clear HA
    simp only [impl_OpText.l0] at H
    by_cases c10 : x14_1 < (l0_1.length : Int)
    ·rw [if_pos c10] at H
     have c10b0 := decide_eq_true c10
     clear c10
     obtain ⟨c11b0, H⟩ := ifd_ H
     obtain ⟨c12b0, H⟩ := ifd_ H
     obtain ⟨t198, A13, H⟩ := bnd_ H
     obtain ⟨c14, H⟩ := ifs_ H
     have LMc14 := Aside0.mk c14
     clear c14
     first | ((with_reducible have hz_ := gy_ H); obtain ⟨y199, Ny199, H⟩ := hz_) | (generalize hy_ : ((x3_1 ++ [t198]) : List ByteArray) = y199 at H; have Ny199 := Aside0.mk hy_.symm; clear hy_)
     have H' := Aside0.mk H
     clear H
     have p197 : 0 ≤ (x14_1 : Int) := odt_
     have q197 : x14_1 < (l0_1.length : Int) := odt_
     obtain ⟨ad197, e197, hx197_0⟩ := Kd.at_int HR0_1.out x14_1 p197 q197
     cases e197
     replace hx197_0 := (HB.out.cell (World.block_lt_of_cell? w _ hx197_0)).trans hx197_0
     replace p197 := eq_true p197
     replace q197 := eq_true q197
     go_wp2_with (first | ((with_reducible refine gate_callee (f := 25) rfl ?_); refine goesL_ (some 20) rfl rfl Tryd.func25 (by kernel_rfl) rfl #[.int .i64 (rd l0_1 x14_1)] rfl z1_ ?_; (with_reducible refine (impl_Dec.calls k1 (rd l0_1 x14_1) t198 _ A13.out).mono ?_); rintro e w15 ⟨rfl, hb⟩; refine ⟨_, rfl, ?_⟩; replace HO_3 := Aside0.mk (Kd.R_below z20_ hb); replace BK192 := Aside0.mk (blk_below (g := gb192) (o := .cells #[.int .i64 a0_0, .slice (some ad197) l0_1.length c0_1, .int .i64 a0_2, .int .i64 a0_3, .int .i64 a0_4] 33 (0, 0)) z14_ hb); replace HB := Aside0.mk (below_step z4_ hb); (try clear hb)) | ((with_reducible refine gate_builtin (b := .append) (xs := #[.tmp 18, .tmp 21]) rfl ?_); at_builtin; refine Kd.R_append Kd.string (w0 := w) w.heap.size rfl (.tmp 18) (.tmp 21) 47 9 (.string ⟨#[]⟩) 16 rfl Tryd.underlying47 info9 rfl (by decide) (by omega) u3 x3_1 t198 [.string t198] (fun _ => True) (fun _ => False) rfl rfl ?aP (fun _ hk => hk.elim) ?aF ?aO ?aB ?aS ?aL ?_; (case aP => exact rfl); (case aB => exact z4_); (case aF => exact (fun _ _ => trivial)); (case aO => exact z20_); (case aS => exact (below_size z4_)); (case aL => have := LMc14.out; omega); intro v200 w16 ho hb hg hat; rw [← Ny199.out] at ho; replace BK192 := Aside0.mk (blk_grown (g := gb192) (o := .cells #[.int .i64 a0_0, .slice (some ad197) l0_1.length c0_1, .int .i64 a0_2, .int .i64 a0_3, .int .i64 a0_4] 33 (0, 0)) z14_ hg (Kd.R_ne HO_3.out BK192.out (by decide))); replace HB := Aside0.mk (hb); have HO201 := Aside0.mk (ho); clear HO_3; clear ho hb hg hat))
     go_roundg k1
     case measure => have := HK1.out; omega
     case rel => exact ⟨(y199), (wrap64 (x14_1 + 1)), z6_, H', ⟨z36_⟩, ⟨by (with_reducible repeat (first | apply Kd.R_alloc | apply Kd.R_drewN | apply Kd.R_drew)); exact HO201.out⟩, ⟨z14_⟩, ⟨z4_⟩⟩
    ·rw [if_neg c10] at H
     have c10b0 := decide_eq_false c10
     clear c10
     obtain ⟨t202, A17, H⟩ := bnd_ H
     obtain ⟨c18, H⟩ := ifs_ H
     have c18b0 := eq_true c18
     have c18b1 := decide_eq_true c18
     try have c18b2 : (9223372036854775807 < 2 + t202.size) = False := eq_false (Nat.not_lt.2 c18)
     by_cases c19 : a0_0 = 1
     ·rw [if_pos c19] at H
      have c19b0 : (a0_0 == 1) = true := beq_iff_eq.mpr c19
      have c19b1 : (a0_0 != 1) = false := bne_eq_false_iff_eq.mpr c19
      clear c19
      obtain ⟨c20, H⟩ := ifs_ H
      have c20b0 := eq_true c20
      have c20b1 := decide_eq_true c20
      try have c20b2 : (9223372036854775807 < 7 + ((⟨#[32, 46]⟩ : ByteArray) ++ t202).size) = False := eq_false (Nat.not_lt.2 c20)
      have c20s : 7 + (2 + t202.size) ≤ 9223372036854775807 := by have e_ := c20; simp only [ByteArray.size_append] at e_; exact e_
      have c20sb : (9223372036854775807 < 7 + (2 + t202.size)) = False := eq_false (Nat.not_lt.2 c20s)
      obtain ⟨c21, H⟩ := ifs_ H
      have c21b0 := eq_true c21
      have c21b1 := decide_eq_true c21
      try have c21b2 : (9223372036854775807 < ((⟨#[114, 101, 108, 97, 98, 101, 108]⟩ : ByteArray) ++ ((⟨#[32, 46]⟩ : ByteArray) ++ t202)).size + 1) = False := eq_false (Nat.not_lt.2 c21)
      have c21s : 7 + (2 + t202.size) + 1 ≤ 9223372036854775807 := by have e_ := c21; simp only [ByteArray.size_append] at e_; exact e_
      have c21sb : (9223372036854775807 < 7 + (2 + t202.size) + 1) = False := eq_false (Nat.not_lt.2 c21s)
      obtain ⟨t203, A22, H⟩ := bnd_ H
      obtain ⟨c23, H⟩ := ifs_ H
      have c23b0 := eq_true c23
      have c23b1 := decide_eq_true c23
      try have c23b2 : (9223372036854775807 < (((⟨#[114, 101, 108, 97, 98, 101, 108]⟩ : ByteArray) ++ ((⟨#[32, 46]⟩ : ByteArray) ++ t202)) ++ (⟨#[32]⟩ : ByteArray)).size + t203.size) = False := eq_false (Nat.not_lt.2 c23)
      have c23s : 7 + (2 + t202.size) + 1 + t203.size ≤ 9223372036854775807 := by have e_ := c23; simp only [ByteArray.size_append] at e_; exact e_
      have c23sb : (9223372036854775807 < 7 + (2 + t202.size) + 1 + t203.size) = False := eq_false (Nat.not_lt.2 c23s)
      obtain rfl := Option.some.inj H
      obtain ⟨Ao24, co24, eo24⟩ := Kd.R_slice HO_3.out
      subst eo24
      go_wp2_with (first | ((with_reducible refine gate_callee (f := 33) rfl ?_); refine goesL_ (some 25) rfl rfl Tryd.func33 (by kernel_rfl) rfl #[.slice Ao24 x3_1.length co24, .string (⟨#[46]⟩ : ByteArray)] rfl z1_ ?_; (with_reducible refine (strings_Join.calls _ _ x3_1 (⟨#[46]⟩ : ByteArray) t202 _ ?side1 (R_none HO_3.out) ?side2 A17.out).mono ?_); (case side1 => exact z28_); (case side2 => exact (Kd.R_reads' HO_3.out).2.1); rintro e w25 ⟨rfl, hb⟩; refine ⟨_, rfl, ?_⟩; replace HO_3 := Aside0.mk (Kd.R_below z20_ hb); replace BK192 := Aside0.mk (blk_below (g := gb192) (o := .cells #[.int .i64 a0_0, .slice A0_1 l0_1.length c0_1, .int .i64 a0_2, .int .i64 a0_3, .int .i64 a0_4] 33 (0, 0)) z14_ hb); replace HB := Aside0.mk (below_step z4_ hb); (try clear hb); obtain ⟨hcz26_0, hcz26_1, hcz26_2, hcz26_3, hcz26_4, hfz26_0, hfz26_1, hfz26_2, hfz26_3, hfz26_4⟩ := bx5_ BK192.out) | ((with_reducible refine gate_callee (f := 34) rfl ?_); refine goesL_ (some 36) rfl rfl Tryd.func34 (by kernel_rfl) rfl #[.int .i64 a0_2] rfl z1_ ?_; (with_reducible refine (impl_LabelName.calls a0_2 t203 _ A22.out).mono ?_); rintro e w27 ⟨rfl, hb⟩; refine ⟨_, rfl, ?_⟩; replace HO_3 := Aside0.mk (Kd.R_below z20_ hb); replace BK192 := Aside0.mk (blk_below (g := gb192) (o := .cells #[.int .i64 a0_0, .slice A0_1 l0_1.length c0_1, .int .i64 a0_2, .int .i64 a0_3, .int .i64 a0_4] 33 (0, 0)) z14_ hb); replace HB := Aside0.mk (below_step z4_ hb); (try clear hb)))
      go_ret
      exact ⟨z2_, z4_⟩
     ·rw [if_neg c19] at H
      have c19b0 : (a0_0 == 1) = false := beq_eq_false_iff_ne.mpr c19
      have c19b1 : (a0_0 != 1) = true := bne_iff_ne.mpr c19
      by_cases c28 : a0_0 = 2
      ·rw [if_pos c28] at H
       have c28b0 : (a0_0 == 2) = true := beq_iff_eq.mpr c28
       have c28b1 : (a0_0 != 2) = false := bne_eq_false_iff_eq.mpr c28
       clear c28
       obtain ⟨c29, H⟩ := ifs_ H
       have c29b0 := eq_true c29
       have c29b1 := decide_eq_true c29
       try have c29b2 : (9223372036854775807 < 6 + ((⟨#[32, 46]⟩ : ByteArray) ++ t202).size) = False := eq_false (Nat.not_lt.2 c29)
       have c29s : 6 + (2 + t202.size) ≤ 9223372036854775807 := by have e_ := c29; simp only [ByteArray.size_append] at e_; exact e_
       have c29sb : (9223372036854775807 < 6 + (2 + t202.size)) = False := eq_false (Nat.not_lt.2 c29s)
       obtain rfl := Option.some.inj H
       obtain ⟨Ao30, co30, eo30⟩ := Kd.R_slice HO_3.out
       subst eo30
       go_wp2_with (first | ((with_reducible refine gate_callee (f := 33) rfl ?_); refine goesL_ (some 25) rfl rfl Tryd.func33 (by kernel_rfl) rfl #[.slice Ao30 x3_1.length co30, .string (⟨#[46]⟩ : ByteArray)] rfl z1_ ?_; (with_reducible refine (strings_Join.calls _ _ x3_1 (⟨#[46]⟩ : ByteArray) t202 _ ?side1 (R_none HO_3.out) ?side2 A17.out).mono ?_); (case side1 => exact z28_); (case side2 => exact (Kd.R_reads' HO_3.out).2.1); rintro e w31 ⟨rfl, hb⟩; refine ⟨_, rfl, ?_⟩; replace HO_3 := Aside0.mk (Kd.R_below z20_ hb); replace BK192 := Aside0.mk (blk_below (g := gb192) (o := .cells #[.int .i64 a0_0, .slice A0_1 l0_1.length c0_1, .int .i64 a0_2, .int .i64 a0_3, .int .i64 a0_4] 33 (0, 0)) z14_ hb); replace HB := Aside0.mk (below_step z4_ hb); (try clear hb); obtain ⟨hcz32_0, hcz32_1, hcz32_2, hcz32_3, hcz32_4, hfz32_0, hfz32_1, hfz32_2, hfz32_3, hfz32_4⟩ := bx5_ BK192.out))
       go_ret
       exact ⟨z2_, z4_⟩
      ·rw [if_neg c28] at H
       have c28b0 : (a0_0 == 2) = false := beq_eq_false_iff_ne.mpr c28
       have c28b1 : (a0_0 != 2) = true := bne_iff_ne.mpr c28
       obtain ⟨c33, H⟩ := ifs_ H
       have c33b0 := eq_true c33
       have c33b1 := decide_eq_true c33
       try have c33b2 : (9223372036854775807 < 6 + ((⟨#[32, 46]⟩ : ByteArray) ++ t202).size) = False := eq_false (Nat.not_lt.2 c33)
       have c33s : 6 + (2 + t202.size) ≤ 9223372036854775807 := by have e_ := c33; simp only [ByteArray.size_append] at e_; exact e_
       have c33sb : (9223372036854775807 < 6 + (2 + t202.size)) = False := eq_false (Nat.not_lt.2 c33s)
       obtain ⟨c34, H⟩ := ifs_ H
       have c34b0 := eq_true c34
       have c34b1 := decide_eq_true c34
       try have c34b2 : (9223372036854775807 < ((⟨#[105, 110, 115, 101, 114, 116]⟩ : ByteArray) ++ ((⟨#[32, 46]⟩ : ByteArray) ++ t202)).size + 1) = False := eq_false (Nat.not_lt.2 c34)
       have c34s : 6 + (2 + t202.size) + 1 ≤ 9223372036854775807 := by have e_ := c34; simp only [ByteArray.size_append] at e_; exact e_
       have c34sb : (9223372036854775807 < 6 + (2 + t202.size) + 1) = False := eq_false (Nat.not_lt.2 c34s)
       obtain ⟨t204, A35, H⟩ := bnd_ H
       obtain ⟨c36, H⟩ := ifs_ H
       have c36b0 := eq_true c36
       have c36b1 := decide_eq_true c36
       try have c36b2 : (9223372036854775807 < (((⟨#[105, 110, 115, 101, 114, 116]⟩ : ByteArray) ++ ((⟨#[32, 46]⟩ : ByteArray) ++ t202)) ++ (⟨#[32]⟩ : ByteArray)).size + t204.size) = False := eq_false (Nat.not_lt.2 c36)
       have c36s : 6 + (2 + t202.size) + 1 + t204.size ≤ 9223372036854775807 := by have e_ := c36; simp only [ByteArray.size_append] at e_; exact e_
       have c36sb : (9223372036854775807 < 6 + (2 + t202.size) + 1 + t204.size) = False := eq_false (Nat.not_lt.2 c36s)
       obtain ⟨c37, H⟩ := ifs_ H
       have c37b0 := eq_true c37
       have c37b1 := decide_eq_true c37
       try have c37b2 : (9223372036854775807 < ((((⟨#[105, 110, 115, 101, 114, 116]⟩ : ByteArray) ++ ((⟨#[32, 46]⟩ : ByteArray) ++ t202)) ++ (⟨#[32]⟩ : ByteArray)) ++ t204).size + 1) = False := eq_false (Nat.not_lt.2 c37)
       have c37s : 6 + (2 + t202.size) + 1 + t204.size + 1 ≤ 9223372036854775807 := by have e_ := c37; simp only [ByteArray.size_append] at e_; exact e_
       have c37sb : (9223372036854775807 < 6 + (2 + t202.size) + 1 + t204.size + 1) = False := eq_false (Nat.not_lt.2 c37s)
       obtain ⟨t205, A38, H⟩ := bnd_ H
       obtain ⟨c39, H⟩ := ifs_ H
       have c39b0 := eq_true c39
       have c39b1 := decide_eq_true c39
       try have c39b2 : (9223372036854775807 < (((((⟨#[105, 110, 115, 101, 114, 116]⟩ : ByteArray) ++ ((⟨#[32, 46]⟩ : ByteArray) ++ t202)) ++ (⟨#[32]⟩ : ByteArray)) ++ t204) ++ (⟨#[32]⟩ : ByteArray)).size + t205.size) = False := eq_false (Nat.not_lt.2 c39)
       have c39s : 6 + (2 + t202.size) + 1 + t204.size + 1 + t205.size ≤ 9223372036854775807 := by have e_ := c39; simp only [ByteArray.size_append] at e_; exact e_
       have c39sb : (9223372036854775807 < 6 + (2 + t202.size) + 1 + t204.size + 1 + t205.size) = False := eq_false (Nat.not_lt.2 c39s)
       obtain ⟨c40, H⟩ := ifs_ H
       have c40b0 := eq_true c40
       have c40b1 := decide_eq_true c40
       try have c40b2 : (9223372036854775807 < ((((((⟨#[105, 110, 115, 101, 114, 116]⟩ : ByteArray) ++ ((⟨#[32, 46]⟩ : ByteArray) ++ t202)) ++ (⟨#[32]⟩ : ByteArray)) ++ t204) ++ (⟨#[32]⟩ : ByteArray)) ++ t205).size + 1) = False := eq_false (Nat.not_lt.2 c40)
       have c40s : 6 + (2 + t202.size) + 1 + t204.size + 1 + t205.size + 1 ≤ 9223372036854775807 := by have e_ := c40; simp only [ByteArray.size_append] at e_; exact e_
       have c40sb : (9223372036854775807 < 6 + (2 + t202.size) + 1 + t204.size + 1 + t205.size + 1) = False := eq_false (Nat.not_lt.2 c40s)
       obtain ⟨t206, A41, H⟩ := bnd_ H
       obtain ⟨c42, H⟩ := ifs_ H
       have c42b0 := eq_true c42
       have c42b1 := decide_eq_true c42
       try have c42b2 : (9223372036854775807 < (((((((⟨#[105, 110, 115, 101, 114, 116]⟩ : ByteArray) ++ ((⟨#[32, 46]⟩ : ByteArray) ++ t202)) ++ (⟨#[32]⟩ : ByteArray)) ++ t204) ++ (⟨#[32]⟩ : ByteArray)) ++ t205) ++ (⟨#[32]⟩ : ByteArray)).size + t206.size) = False := eq_false (Nat.not_lt.2 c42)
       have c42s : 6 + (2 + t202.size) + 1 + t204.size + 1 + t205.size + 1 + t206.size ≤ 9223372036854775807 := by have e_ := c42; simp only [ByteArray.size_append] at e_; exact e_
       have c42sb : (9223372036854775807 < 6 + (2 + t202.size) + 1 + t204.size + 1 + t205.size + 1 + t206.size) = False := eq_false (Nat.not_lt.2 c42s)
       obtain rfl := Option.some.inj H
       obtain ⟨Ao43, co43, eo43⟩ := Kd.R_slice HO_3.out
       subst eo43
       try go_wp2_with (first | ((with_reducible refine gate_callee (f := 33) rfl ?_); refine goesL_ (some 25) rfl rfl Tryd.func33 (by kernel_rfl) rfl #[.slice Ao43 x3_1.length co43, .string (⟨#[46]⟩ : ByteArray)] rfl z1_ ?_; (with_reducible refine (strings_Join.calls _ _ x3_1 (⟨#[46]⟩ : ByteArray) t202 _ ?side1 (R_none HO_3.out) ?side2 A17.out).mono ?_); (case side1 => exact z28_); (case side2 => exact (Kd.R_reads' HO_3.out).2.1); rintro e w44 ⟨rfl, hb⟩; refine ⟨_, rfl, ?_⟩; replace HO_3 := Aside0.mk (Kd.R_below z20_ hb); replace BK192 := Aside0.mk (blk_below (g := gb192) (o := .cells #[.int .i64 a0_0, .slice A0_1 l0_1.length c0_1, .int .i64 a0_2, .int .i64 a0_3, .int .i64 a0_4] 33 (0, 0)) z14_ hb); replace HB := Aside0.mk (below_step z4_ hb); (try clear hb); obtain ⟨hcz45_0, hcz45_1, hcz45_2, hcz45_3, hcz45_4, hfz45_0, hfz45_1, hfz45_2, hfz45_3, hfz45_4⟩ := bx5_ BK192.out))
       have n0_ := Aside0.mk (Kd.R_drew HO_3.out)
       have n1_ := Aside0.mk (blk_drew BK192.out)
       have n2_ := Aside0.mk (below_drew1 HB.out)
       clear HO_3
       clear BK192
       clear HB
       have HO_3 := n0_
       have BK192 := n1_
       have HB := n2_
       clear n0_ n1_ n2_
       refine start_ (n := 18) (S := fun w' => w'.cell? ⟨gb192, 0, none⟩ = some (.int .i64 a0_0) ∧ w'.cell? ⟨gb192, 1, none⟩ = some (.slice A0_1 l0_1.length c0_1) ∧ w'.cell? ⟨gb192, 2, none⟩ = some (.int .i64 a0_2) ∧ w'.cell? ⟨gb192, 3, none⟩ = some (.int .i64 a0_3) ∧ w'.cell? ⟨gb192, 4, none⟩ = some (.int .i64 a0_4)) (ds := []) (fl_ 18 0) (by kernel_rfl) rfl (fl_zero _) ⟨(blk_cell BK192.out 0).trans rfl, (blk_cell BK192.out 1).trans rfl, (blk_cell BK192.out 2).trans rfl, (blk_cell BK192.out 3).trans rfl, (blk_cell BK192.out 4).trans rfl⟩ (fun hHeld => ?_); refine with_tabW impl_OpText.tab15 impl_OpText.bits15 (fun HT_ HW_ => ?_)
       generalize w44.drew = w46 at HO_3 BK192 HB hHeld ⊢
       iterate 4 refine zp_ HT_ rfl rfl (by kernel_rfl) (fun _ _ _ h => h) (by rfl) ?_
       refine zpg_ (i := 8) (ra_ [4, 4, 1, 9]) HT_ rfl rfl (by kernel_rfl) (fun _ _ _ h => h) (by rfl) ?_
       refine zpg_ (i := 13) (ra_ [4, 4, 1, 4, 1, 4]) HT_ rfl rfl (by kernel_rfl) (fun _ _ _ h => h) (by rfl) ?_
       refine ztg_ (i := 4) (ra_ [5, 3, 1, 4, 1, 4]) HT_ HW_ rfl rfl (by kernel_rfl) (fun _ _ _ h => h) (by rfl) hHeld ?_ z43_
       refine ztg_ (i := 9) (ra_ [5, 3, 2, 3, 1, 4]) HT_ HW_ rfl rfl (by kernel_rfl) (fun _ _ _ h => h) (by rfl) hHeld ?_ z43_
       refine ztg_ (i := 14) (ra_ [5, 3, 2, 3, 2, 3]) HT_ HW_ rfl rfl (by kernel_rfl) (fun _ _ _ h => h) (by rfl) hHeld ?_ z43_
       refine one_ (i := 5) (N := some 47) (ra_ [6, 2, 2, 3, 2, 3]) rfl rfl (one_of HT_.out (by kernel_rfl)) (by decide) (fun K hK => ?_)
       refine goes_ Tryd.func34 (by kernel_rfl) rfl #[.int .i64 a0_2] (by rfl) rfl rfl z1_ ?_
       with_reducible refine (impl_LabelName.calls a0_2 t204 _ A35.out).mono ?_
       rintro e w47 ⟨rfl, hb⟩
       refine ⟨_, rfl, ?_⟩
       have n0_ := Aside0.mk (Kd.R_below z20_ hb)
       have n1_ := Aside0.mk (blk_below (g := gb192) (o := .cells #[.int .i64 a0_0, .slice A0_1 l0_1.length c0_1, .int .i64 a0_2, .int .i64 a0_3, .int .i64 a0_4] 33 (0, 0)) z14_ hb)
       have n2_ := Aside0.mk (below_step z4_ hb)
       clear HO_3
       clear BK192
       clear HB
       have HO_3 := n0_
       have BK192 := n1_
       have HB := n2_
       clear n0_ n1_ n2_
       (try clear hb)
       (try clear hb2)
       (try clear hk)
       (try clear hi)
       refine hK.out _ _ ⟨(blk_cell BK192.out 0).trans rfl, (blk_cell BK192.out 1).trans rfl, (blk_cell BK192.out 2).trans rfl, (blk_cell BK192.out 3).trans rfl, (blk_cell BK192.out 4).trans rfl⟩ (fun hHeld => ?_)
       clear hK K
       refine zn_ rfl ?_
       refine zpg_ (i := 6) (ra_ [7, 1, 2, 3, 2, 3]) HT_ rfl rfl (by kernel_rfl) (fun _ _ _ h => h) (by rfl) ?_
       refine zpg_ (i := 7) (ra_ [10, 3, 2, 3]) HT_ rfl rfl (by kernel_rfl) (fun _ _ _ h => h) (by rfl) ?_
       refine one_ (i := 10) (N := some 52) (ra_ [11, 2, 2, 3]) rfl rfl (one_of HT_.out (by kernel_rfl)) (by decide) (fun K hK => ?_)
       refine goes_ Tryd.func25 (by kernel_rfl) rfl #[.int .i64 a0_3] (by rfl) rfl rfl z1_ ?_
       with_reducible refine (impl_Dec.calls k1 a0_3 t205 _ A38.out).mono ?_
       rintro e w48 ⟨rfl, hb⟩
       refine ⟨_, rfl, ?_⟩
       have n0_ := Aside0.mk (Kd.R_below z20_ hb)
       have n1_ := Aside0.mk (blk_below (g := gb192) (o := .cells #[.int .i64 a0_0, .slice A0_1 l0_1.length c0_1, .int .i64 a0_2, .int .i64 a0_3, .int .i64 a0_4] 33 (0, 0)) z14_ hb)
       have n2_ := Aside0.mk (below_step z4_ hb)
       clear HO_3
       clear BK192
       clear HB
       have HO_3 := n0_
       have BK192 := n1_
       have HB := n2_
       clear n0_ n1_ n2_
       (try clear hb)
       (try clear hb2)
       (try clear hk)
       (try clear hi)
       refine hK.out _ _ ⟨(blk_cell BK192.out 0).trans rfl, (blk_cell BK192.out 1).trans rfl, (blk_cell BK192.out 2).trans rfl, (blk_cell BK192.out 3).trans rfl, (blk_cell BK192.out 4).trans rfl⟩ (fun hHeld => ?_)
       clear hK K
       refine zn_ rfl ?_
       refine zpg_ (i := 11) (ra_ [12, 1, 2, 3]) HT_ rfl rfl (by kernel_rfl) (fun _ _ _ h => h) (by rfl) ?_
       refine zpg_ (i := 12) (fl_ 18 15) HT_ rfl rfl (by kernel_rfl) (fun _ _ _ h => h) (by rfl) ?_
       refine one_ (i := 15) (N := some 57) (fl_ 18 16) rfl rfl (one_of HT_.out (by kernel_rfl)) (by decide) (fun K hK => ?_)
       refine goes_ Tryd.func25 (by kernel_rfl) rfl #[.int .i64 a0_4] (by rfl) rfl rfl z1_ ?_
       with_reducible refine (impl_Dec.calls k1 a0_4 t206 _ A41.out).mono ?_
       rintro e w49 ⟨rfl, hb⟩
       refine ⟨_, rfl, ?_⟩
       have n0_ := Aside0.mk (Kd.R_below z20_ hb)
       have n1_ := Aside0.mk (blk_below (g := gb192) (o := .cells #[.int .i64 a0_0, .slice A0_1 l0_1.length c0_1, .int .i64 a0_2, .int .i64 a0_3, .int .i64 a0_4] 33 (0, 0)) z14_ hb)
       have n2_ := Aside0.mk (below_step z4_ hb)
       clear HO_3
       clear BK192
       clear HB
       have HO_3 := n0_
       have BK192 := n1_
       have HB := n2_
       clear n0_ n1_ n2_
       (try clear hb)
       (try clear hb2)
       (try clear hk)
       (try clear hi)
       refine hK.out _ _ ⟨(blk_cell BK192.out 0).trans rfl, (blk_cell BK192.out 1).trans rfl, (blk_cell BK192.out 2).trans rfl, (blk_cell BK192.out 3).trans rfl, (blk_cell BK192.out 4).trans rfl⟩ (fun hHeld => ?_)
       clear hK K
       refine zn_ rfl ?_
       iterate 2 refine zp_ HT_ rfl rfl (by kernel_rfl) (fun _ _ _ h => h) (by rfl) ?_
       refine done_ (done_of HT_.out (by kernel_rfl)) ?_
       try go_wp2
       go_ret
       exact ⟨z2_, z4_⟩
 ·replace c3 := Bool.eq_false_iff.mpr c3
  subst c3
  replace H := iff_ H
  obtain rfl := Option.some.inj H
  go_enter Tryd.func12, Tryd.ntmps12
  go_wp2_with (first | ((with_reducible refine gate_dst (N := 1) rfl ?_); refine box_event ?hg (N := 1) ?hd (cs := #[.int .i64 a0_0, .slice A0_1 l0_1.length c0_1, .int .i64 a0_2, .int .i64 a0_3, .int .i64 a0_4]) (t := 33) ?hr ?_; (case hd => rfl); (case hg => rfl); (case hr => exact z13_); intro gb192 hg w50 hbox hb; have BK192 := Aside0.mk (hbox); have GW192 := Aside0.mk ((by rw [hg]; exact (below_size z0_) : w.heap.size ≤ gb192)); have GE192 := Aside0.mk ((by rw [hg]; exact (below_size z0_) : w.heap.size ≤ gb192)); replace HB := Aside0.mk (below_step z0_ hb); clear hb hbox hg; obtain ⟨hcz51_0, hcz51_1, hcz51_2, hcz51_3, hcz51_4, hfz51_0, hfz51_1, hfz51_2, hfz51_3, hfz51_4⟩ := bx5_ BK192.out) | ((with_reducible refine gate_callee (f := 32) rfl ?_); refine goesL_ (some 8) rfl rfl Tryd.func32 (by kernel_rfl) rfl #[.agg #[.int .i64 a0_0, .slice A0_1 l0_1.length c0_1, .int .i64 a0_2, .int .i64 a0_3, .int .i64 a0_4]] rfl z1_ ?_; (with_reducible refine (impl_OpOk.calls k a0_0 _ _ l0_1 a0_2 a0_3 a0_4 false _ ?side1 ?side2 A2.out).mono ?_); (case side1 => exact z3_); (case side2 => exact HC0_1.out); rintro e w52 ⟨rfl, hb⟩; refine ⟨_, rfl, ?_⟩; replace BK192 := Aside0.mk (blk_below (g := gb192) (o := .cells #[.int .i64 a0_0, .slice A0_1 l0_1.length c0_1, .int .i64 a0_2, .int .i64 a0_3, .int .i64 a0_4] 33 (0, 0)) z14_ hb); replace HB := Aside0.mk (below_step z4_ hb); (try clear hb)))
  go_ret
  exact ⟨z2_, z4_⟩

/-! ### impl_ScriptOk_lit1: function 50 -/
def impl_ScriptOk_lit1.f (k : Nat) (a0_0 : Int) (l0_1 : List Int) (a0_2 : Int) (a0_3 : Int) (a0_4 : Int) : Option (Bool) := (impl_OpOk.f k a0_0 l0_1 a0_2 a0_3 a0_4).bind fun t208 => (some (!t208))
set_option maxHeartbeats 8000000 in
set_option maxRecDepth 100000 in
theorem impl_ScriptOk_lit1.calls (k : Nat) (a0_0 : Int) (A0_1 : Option Addr) (c0_1 : Nat) (l0_1 : List Int) (a0_2 : Int) (a0_3 : Int) (a0_4 : Int) (r : Bool) (w : World) (hr0_1 : Kd.C (Kd.int .i64) w A0_1 l0_1.length l0_1) (hc0_1 : l0_1.length ≤ c0_1) (h : impl_ScriptOk_lit1.f k a0_0 l0_1 a0_2 a0_3 a0_4 = some r) :
  Calls Tryd.prog 50 #[.agg #[.int .i64 a0_0, .slice A0_1 l0_1.length c0_1, .int .i64 a0_2, .int .i64 a0_3, .int .i64 a0_4]] w fun e w' => e = .returned (.bool r) ∧ Below w.heap.size w w' := by
 have hu33 := Tryd.underlying33
 have HR0_1 := Aside0.mk hr0_1
 have HC0_1 := Aside0.mk hc0_1
 clear hr0_1 hc0_1
 have HB := Aside0.mk (Below.refl w.heap.size w)
 have H : ((impl_OpOk.f k a0_0 l0_1 a0_2 a0_3 a0_4).bind fun t208 => (some (!t208))) = some r := h
 clear h
 obtain ⟨t208, A2, H⟩ := bnd_ H
 obtain rfl := Option.some.inj H
 go_enter Tryd.func50, Tryd.ntmps50
 go_wp2_with (first | ((with_reducible refine gate_dst (N := 1) rfl ?_); refine box_event ?hg (N := 1) ?hd (cs := #[.int .i64 a0_0, .slice A0_1 l0_1.length c0_1, .int .i64 a0_2, .int .i64 a0_3, .int .i64 a0_4]) (t := 33) ?hr ?_; (case hd => rfl); (case hg => rfl); (case hr => exact z13_); intro gb207 hg w3 hbox hb; have BK207 := Aside0.mk (hbox); have GW207 := Aside0.mk ((by rw [hg]; exact (below_size z0_) : w.heap.size ≤ gb207)); have GE207 := Aside0.mk ((by rw [hg]; exact (below_size z0_) : w.heap.size ≤ gb207)); replace HB := Aside0.mk (below_step z0_ hb); clear hb hbox hg; obtain ⟨hcz4_0, hcz4_1, hcz4_2, hcz4_3, hcz4_4, hfz4_0, hfz4_1, hfz4_2, hfz4_3, hfz4_4⟩ := bx5_ BK207.out) | ((with_reducible refine gate_callee (f := 32) rfl ?_); refine goesL_ (some 4) rfl rfl Tryd.func32 (by kernel_rfl) rfl #[.agg #[.int .i64 a0_0, .slice A0_1 l0_1.length c0_1, .int .i64 a0_2, .int .i64 a0_3, .int .i64 a0_4]] rfl z1_ ?_; (with_reducible refine (impl_OpOk.calls k a0_0 _ _ l0_1 a0_2 a0_3 a0_4 t208 _ ?side1 ?side2 A2.out).mono ?_); (case side1 => exact z3_); (case side2 => exact HC0_1.out); rintro e w5 ⟨rfl, hb⟩; refine ⟨_, rfl, ?_⟩; replace BK207 := Aside0.mk (blk_below (g := gb207) (o := .cells #[.int .i64 a0_0, .slice A0_1 l0_1.length c0_1, .int .i64 a0_2, .int .i64 a0_3, .int .i64 a0_4] 33 (0, 0)) (by (with_reducible repeat (first | refine blk_drewN ?_ _ | refine blk_drew ?_ | refine blk_alloc ?_ _)); exact BK207.out) hb); replace HB := Aside0.mk (below_step z40_ hb); (try clear hb)))
 go_ret
 exact ⟨z2_, z40_⟩

/-! ### slices_IndexFunc_Op: function 55 -/
def slices_IndexFunc_Op.l0 : Nat → List (S33) → Int → Int → Option (Int)
 | 0, _, _, _ => none
 | k + 1, x0, x7, x8 => if x8 < x7 then (if 0 ≤ x8 then (if x8 < (x0.length : Int) then ((impl_ScriptOk_lit1.f k ((rd_T33 x0 x8).f0) ((rd_T33 x0 x8).f1) ((rd_T33 x0 x8).f2) ((rd_T33 x0 x8).f3) ((rd_T33 x0 x8).f4)).bind fun t210 => (if t210 = true then (some x8) else (slices_IndexFunc_Op.l0 k x0 x7 (wrap64 (x8 + 1))))) else (none)) else (none)) else (some (-1))
def slices_IndexFunc_Op.f (k : Nat) (l0 : List (S33)) : Option (Int) := slices_IndexFunc_Op.l0 k l0 (l0.length : Int) 0
set_option maxHeartbeats 8000000 in
set_option maxRecDepth 100000 in
theorem slices_IndexFunc_Op.calls (k : Nat) (A0 : Option Addr) (c0 : Nat) (l0 : List (S33)) (r : Int) (w : World) (hr0 : Kd.C k33 w A0 l0.length l0) (hc0 : l0.length ≤ c0) (h : slices_IndexFunc_Op.f k l0 = some r) :
  Calls Tryd.prog 55 #[.slice A0 l0.length c0, .func (.func 50) #[] #[]] w fun e w' => e = .returned (.int .i64 r) ∧ Below w.heap.size w w' := by
 have hu33 := Tryd.underlying33
 have HR0 := Aside0.mk hr0
 have HC0 := Aside0.mk hc0
 clear hr0 hc0
 have HB := Aside0.mk (Below.refl w.heap.size w)
 have H : (slices_IndexFunc_Op.l0 k l0 (l0.length : Int) 0) = some r := h
 clear h
 have H' := Aside0.mk H
 clear H
 go_enter Tryd.func55, Tryd.ntmps55
 go_wp2
 go_loopg [8] k (fun kq v8 w' => ∃ (x8_1 : Int), v8 = .int .i64 x8_1 ∧ Aside0 (slices_IndexFunc_Op.l0 kq l0 (l0.length : Int) x8_1 = some r) ∧ Aside0 (kq ≤ k) ∧ Aside0 (Below w.heap.size w w'))
 case atStart => exact ⟨(0), z6_, H', ⟨Nat.le_refl _⟩, ⟨z0_⟩⟩
 case round =>
  clear H'
  obtain ⟨x8_1, rfl, HA, HK1, HB⟩ := hrel
  cases gk with
  | zero => exact absurd HA.out (by simp [slices_IndexFunc_Op.l0])
  | succ k1 =>
   have H := HA.out
   clear HA
   simp only [slices_IndexFunc_Op.l0] at H
   by_cases c2 : x8_1 < (l0.length : Int)
   ·rw [if_pos c2] at H
    have c2b0 := decide_eq_true c2
    clear c2
    obtain ⟨c3b0, H⟩ := ifd_ H
    obtain ⟨c4b0, H⟩ := ifd_ H
    obtain ⟨t210, A5, H⟩ := bnd_ H
    by_cases c6 : t210 = true
    ·subst c6
     replace H := ift_ H
     obtain rfl := Option.some.inj H
     have p209 : 0 ≤ (x8_1 : Int) := odt_
     have q209 : x8_1 < (l0.length : Int) := odt_
     obtain ⟨ad209, A209_1, c209_1, e209, hx209_0, hx209_1, hx209_2, hx209_3, hx209_4, hl209_1, hi209_1⟩ := at_T33 HR0.out x8_1 p209 q209
     cases e209
     replace hx209_0 := (HB.out.cell (World.block_lt_of_cell? w _ hx209_0)).trans hx209_0
     replace hx209_1 := (HB.out.cell (World.block_lt_of_cell? w _ hx209_1)).trans hx209_1
     replace hx209_2 := (HB.out.cell (World.block_lt_of_cell? w _ hx209_2)).trans hx209_2
     replace hx209_3 := (HB.out.cell (World.block_lt_of_cell? w _ hx209_3)).trans hx209_3
     replace hx209_4 := (HB.out.cell (World.block_lt_of_cell? w _ hx209_4)).trans hx209_4
     have HR209_1 := Aside0.mk hi209_1
     have HC209_1 := Aside0.mk hl209_1
     clear hi209_1 hl209_1
     replace p209 := eq_true p209
     replace q209 := eq_true q209
     go_wp2_with (first | (go_at_call 50; (with_reducible refine (impl_ScriptOk_lit1.calls k1 ((rd_T33 l0 x8_1).f0) _ _ ((rd_T33 l0 x8_1).f1) ((rd_T33 l0 x8_1).f2) ((rd_T33 l0 x8_1).f3) ((rd_T33 l0 x8_1).f4) true _ ?side1 ?side2 A5.out).mono ?_); (case side1 => exact z33_); (case side2 => exact HC209_1.out); rintro e w7 ⟨rfl, hb⟩; replace HB := Aside0.mk (below_step z0_ hb); (try clear hb)))
     go_ret
     exact ⟨z2_, z0_⟩
    ·replace c6 := Bool.eq_false_iff.mpr c6
     subst c6
     replace H := iff_ H
     have H' := Aside0.mk H
     clear H
     have p209 : 0 ≤ (x8_1 : Int) := odt_
     have q209 : x8_1 < (l0.length : Int) := odt_
     obtain ⟨ad209, A209_1, c209_1, e209, hx209_0, hx209_1, hx209_2, hx209_3, hx209_4, hl209_1, hi209_1⟩ := at_T33 HR0.out x8_1 p209 q209
     cases e209
     replace hx209_0 := (HB.out.cell (World.block_lt_of_cell? w _ hx209_0)).trans hx209_0
     replace hx209_1 := (HB.out.cell (World.block_lt_of_cell? w _ hx209_1)).trans hx209_1
     replace hx209_2 := (HB.out.cell (World.block_lt_of_cell? w _ hx209_2)).trans hx209_2
     replace hx209_3 := (HB.out.cell (World.block_lt_of_cell? w _ hx209_3)).trans hx209_3
     replace hx209_4 := (HB.out.cell (World.block_lt_of_cell? w _ hx209_4)).trans hx209_4
     have HR209_1 := Aside0.mk hi209_1
     have HC209_1 := Aside0.mk hl209_1
     clear hi209_1 hl209_1
     replace p209 := eq_true p209
     replace q209 := eq_true q209
     go_wp2_with (first | (go_at_call 50; (with_reducible refine (impl_ScriptOk_lit1.calls k1 ((rd_T33 l0 x8_1).f0) _ _ ((rd_T33 l0 x8_1).f1) ((rd_T33 l0 x8_1).f2) ((rd_T33 l0 x8_1).f3) ((rd_T33 l0 x8_1).f4) false _ ?side1 ?side2 A5.out).mono ?_); (case side1 => exact z33_); (case side2 => exact HC209_1.out); rintro e w8 ⟨rfl, hb⟩; replace HB := Aside0.mk (below_step z0_ hb); (try clear hb)))
     go_roundg k1
     case measure => have := HK1.out; omega
     case rel => exact ⟨(wrap64 (x8_1 + 1)), z6_, H', ⟨z36_⟩, ⟨z0_⟩⟩
   ·rw [if_neg c2] at H
    have c2b0 := decide_eq_false c2
    clear c2
    obtain rfl := Option.some.inj H
    go_wp2
    go_ret
    exact ⟨z2_, z0_⟩

/-! ### slices_ContainsFunc_Op: function 49 -/
def slices_ContainsFunc_Op.f (k : Nat) (l0 : List (S33)) : Option (Bool) := (slices_IndexFunc_Op.f k l0).bind fun t211 => (some (decide (t211 ≥ 0)))
set_option maxHeartbeats 8000000 in
set_option maxRecDepth 100000 in
theorem slices_ContainsFunc_Op.calls (k : Nat) (A0 : Option Addr) (c0 : Nat) (l0 : List (S33)) (r : Bool) (w : World) (hr0 : Kd.C k33 w A0 l0.length l0) (hc0 : l0.length ≤ c0) (h : slices_ContainsFunc_Op.f k l0 = some r) :
  Calls Tryd.prog 49 #[.slice A0 l0.length c0, .func (.func 50) #[] #[]] w fun e w' => e = .returned (.bool r) ∧ Below w.heap.size w w' := by
 have HR0 := Aside0.mk hr0
 have HC0 := Aside0.mk hc0
 clear hr0 hc0
 have HB := Aside0.mk (Below.refl w.heap.size w)
 have H : ((slices_IndexFunc_Op.f k l0).bind fun t211 => (some (decide (t211 ≥ 0)))) = some r := h
 clear h
 obtain ⟨t211, A2, H⟩ := bnd_ H
 obtain rfl := Option.some.inj H
 go_enter Tryd.func49, Tryd.ntmps49
 go_wp2_with (first | ((with_reducible refine gate_callee (f := 55) rfl ?_); refine goesL_ (some 7) rfl rfl Tryd.func55 (by kernel_rfl) rfl #[.slice A0 l0.length c0, .func (.func 50) #[] #[]] rfl z1_ ?_; (with_reducible refine (slices_IndexFunc_Op.calls k _ _ l0 t211 _ ?side1 ?side2 A2.out).mono ?_); (case side1 => exact z16_); (case side2 => exact HC0.out); rintro e w3 ⟨rfl, hb⟩; refine ⟨_, rfl, ?_⟩; replace HB := Aside0.mk (below_step z0_ hb); (try clear hb)))
 go_ret
 exact ⟨z2_, z0_⟩

/-! ### impl_ScriptOk: function 37 -/
def impl_ScriptOk.f (k : Nat) (l0 : List (S33)) : Option (Bool) := if (l0.length : Int) ≤ 60 then ((slices_ContainsFunc_Op.f k l0).bind fun t212 => (some (!t212))) else (some false)
set_option maxHeartbeats 8000000 in
set_option maxRecDepth 100000 in
theorem impl_ScriptOk.calls (k : Nat) (A0 : Option Addr) (c0 : Nat) (l0 : List (S33)) (r : Bool) (w : World) (hr0 : Kd.C k33 w A0 l0.length l0) (hc0 : l0.length ≤ c0) (h : impl_ScriptOk.f k l0 = some r) :
  Calls Tryd.prog 37 #[.slice A0 l0.length c0] w fun e w' => e = .returned (.bool r) ∧ Below w.heap.size w w' := by
 have HR0 := Aside0.mk hr0
 have HC0 := Aside0.mk hc0
 clear hr0 hc0
 have HB := Aside0.mk (Below.refl w.heap.size w)
 have H : (if (l0.length : Int) ≤ 60 then ((slices_ContainsFunc_Op.f k l0).bind fun t212 => (some (!t212))) else (some false)) = some r := h
 clear h
 by_cases c2 : (l0.length : Int) ≤ 60
 ·rw [if_pos c2] at H
  have c2b0 := decide_eq_true c2
  have c2b1 : decide (l0.length ≤ 60) = true := decide_eq_true (by omega)
  clear c2
  obtain ⟨t212, A3, H⟩ := bnd_ H
  obtain rfl := Option.some.inj H
  go_enter Tryd.func37, Tryd.ntmps37
  go_wp2_with (first | (go_at_call 49; (with_reducible refine (slices_ContainsFunc_Op.calls k _ _ l0 t212 _ ?side1 ?side2 A3.out).mono ?_); (case side1 => exact z16_); (case side2 => exact HC0.out); rintro e w4 ⟨rfl, hb⟩; replace HB := Aside0.mk (below_step z0_ hb); (try clear hb)))
  go_ret
  exact ⟨z2_, z0_⟩
 ·rw [if_neg c2] at H
  have c2b0 := decide_eq_false c2
  have c2b1 : decide (l0.length ≤ 60) = false := decide_eq_false (by omega)
  clear c2
  obtain rfl := Option.some.inj H
  go_enter Tryd.func37, Tryd.ntmps37
  go_wp2
  go_ret
  exact ⟨z2_, z0_⟩

end Go.Proofs.YtipclgiboffblaaDoor.PFnExactScriptText
