/- Laid by a program of this session out of the kit's print for the law FnExactReadScript: what it says of the machine is proved here, function by function; each contract under the conditions that it names. -/
import Derived.Test.YtlfmlagdnebkiaaDoorShelf
import Derived.Lib.AppendIntMem
import Derived.Test.YtlfmlagdnebkiaaDoorMFnExactReadScriptx0
import Derived.Test.YtlfmlagdnebkiaaDoorMFnExactReadScriptx5
import Derived.Test.YtlfmlagdnebkiaaDoorMFnExactReadScriptx6
import Derived.Test.YtlfmlagdnebkiaaDoorMFnExactReadScriptx7
namespace Go.Proofs.YtlfmlagdnebkiaaDoor.PFnExactReadScript
open Go.RowKit Go.Proofs.YtlfmlagdnebkiaaDoorW.PrintWords Go.Proofs.YtlfmlagdnebkiaaDoorW.PrintLast Go.Proofs.YtlfmlagdnebkiaaDoorW.PrintMore
attribute [local go_sem] max2_int min2_int max_two min_two max_three min_three max_four min_four   -- for this text's walks alone
set_option linter.unusedVariables false
set_option linter.unusedSimpArgs false

/-! ### impl_OpText: function 22 -/
def impl_OpText.l0 : Nat → List ByteArray → List Int → Int → Int → Int → List Int → Int → Int → Int → Option (ByteArray)
 | 0, _, _, _, _, _, _, _, _, _ => none
 | k + 1, x3, x12, x13, x14, x251000, x251001, x251002, x251003, x251004 => if x14 < x13 then (if 0 ≤ x14 then (if x14 < (x12.length : Int) then ((impl_Dec.f k (rd x12 x14)).bind fun t256 => (if x3.length < 8796093022208 then (impl_OpText.l0 k (x3 ++ [t256]) x12 x13 (wrap64 (x14 + 1)) x251000 x251001 x251002 x251003 x251004) else (none))) else (none)) else (none)) else ((strings_Join.f x3 (⟨#[46]⟩ : ByteArray)).bind fun t260 => (if 2 + t260.size ≤ 9223372036854775807 then (if x251000 = 1 then (if 7 + ((⟨#[32, 46]⟩ : ByteArray) ++ t260).size ≤ 9223372036854775807 then (if ((⟨#[114, 101, 108, 97, 98, 101, 108]⟩ : ByteArray) ++ ((⟨#[32, 46]⟩ : ByteArray) ++ t260)).size + 1 ≤ 9223372036854775807 then ((impl_LabelName.f x251002).bind fun t261 => (if (((⟨#[114, 101, 108, 97, 98, 101, 108]⟩ : ByteArray) ++ ((⟨#[32, 46]⟩ : ByteArray) ++ t260)) ++ (⟨#[32]⟩ : ByteArray)).size + t261.size ≤ 9223372036854775807 then (some ((((⟨#[114, 101, 108, 97, 98, 101, 108]⟩ : ByteArray) ++ ((⟨#[32, 46]⟩ : ByteArray) ++ t260)) ++ (⟨#[32]⟩ : ByteArray)) ++ t261)) else (none))) else (none)) else (none)) else (if x251000 = 2 then (if 6 + ((⟨#[32, 46]⟩ : ByteArray) ++ t260).size ≤ 9223372036854775807 then (some ((⟨#[100, 101, 108, 101, 116, 101]⟩ : ByteArray) ++ ((⟨#[32, 46]⟩ : ByteArray) ++ t260))) else (none)) else (if 6 + ((⟨#[32, 46]⟩ : ByteArray) ++ t260).size ≤ 9223372036854775807 then (if ((⟨#[105, 110, 115, 101, 114, 116]⟩ : ByteArray) ++ ((⟨#[32, 46]⟩ : ByteArray) ++ t260)).size + 1 ≤ 9223372036854775807 then ((impl_LabelName.f x251002).bind fun t262 => (if (((⟨#[105, 110, 115, 101, 114, 116]⟩ : ByteArray) ++ ((⟨#[32, 46]⟩ : ByteArray) ++ t260)) ++ (⟨#[32]⟩ : ByteArray)).size + t262.size ≤ 9223372036854775807 then (if ((((⟨#[105, 110, 115, 101, 114, 116]⟩ : ByteArray) ++ ((⟨#[32, 46]⟩ : ByteArray) ++ t260)) ++ (⟨#[32]⟩ : ByteArray)) ++ t262).size + 1 ≤ 9223372036854775807 then ((impl_Dec.f k x251003).bind fun t263 => (if (((((⟨#[105, 110, 115, 101, 114, 116]⟩ : ByteArray) ++ ((⟨#[32, 46]⟩ : ByteArray) ++ t260)) ++ (⟨#[32]⟩ : ByteArray)) ++ t262) ++ (⟨#[32]⟩ : ByteArray)).size + t263.size ≤ 9223372036854775807 then (if ((((((⟨#[105, 110, 115, 101, 114, 116]⟩ : ByteArray) ++ ((⟨#[32, 46]⟩ : ByteArray) ++ t260)) ++ (⟨#[32]⟩ : ByteArray)) ++ t262) ++ (⟨#[32]⟩ : ByteArray)) ++ t263).size + 1 ≤ 9223372036854775807 then ((impl_Dec.f k x251004).bind fun t264 => (if (((((((⟨#[105, 110, 115, 101, 114, 116]⟩ : ByteArray) ++ ((⟨#[32, 46]⟩ : ByteArray) ++ t260)) ++ (⟨#[32]⟩ : ByteArray)) ++ t262) ++ (⟨#[32]⟩ : ByteArray)) ++ t263) ++ (⟨#[32]⟩ : ByteArray)).size + t264.size ≤ 9223372036854775807 then (some ((((((((⟨#[105, 110, 115, 101, 114, 116]⟩ : ByteArray) ++ ((⟨#[32, 46]⟩ : ByteArray) ++ t260)) ++ (⟨#[32]⟩ : ByteArray)) ++ t262) ++ (⟨#[32]⟩ : ByteArray)) ++ t263) ++ (⟨#[32]⟩ : ByteArray)) ++ t264)) else (none))) else (none)) else (none))) else (none)) else (none))) else (none)) else (none)))) else (none)))
def impl_OpText.f (k : Nat) (a0_0 : Int) (l0_1 : List Int) (a0_2 : Int) (a0_3 : Int) (a0_4 : Int) : Option (ByteArray) := (impl_OpOk.f k a0_0 l0_1 a0_2 a0_3 a0_4).bind fun t251 => (if t251 = true then (impl_OpText.l0 k (([] : List ByteArray)) l0_1 (l0_1.length : Int) 0 a0_0 l0_1 a0_2 a0_3 a0_4) else (some (⟨#[]⟩ : ByteArray)))
def impl_OpText.T15 : Bool × List (List Nat × List Nat) := (true, [([], []), ([0], [0]), ([1], [1]), ([], []), ([3], [3]), ([4], [4]), ([2, 5], [2, 5]), ([6], [6]), ([], []), ([8], [8]), ([9, 5], [9]), ([7, 10], [7, 10]), ([11], [11]), ([], []), ([13], [13]), ([14, 10], [14]), ([12, 15], [12, 15]), ([16, 15, 0, 1, 2, 3, 4, 5, 6, 7, 8, 9, 10, 11, 12, 13, 14, 15, 16], [16])])
def impl_OpText.B15 : List Nat := [0, 1, 3, 0, 8, 24, 63, 127, 0, 256, 824, 2047, 4095, 0, 8192, 26424, 65535, 131071]
theorem impl_OpText.tab15 : rtab .any (opsOf Tryd.f22 15) = impl_OpText.T15 := by kernel_rfl
theorem impl_OpText.bits15 : waitsOk impl_OpText.T15.2 impl_OpText.B15 = true := by kernel_rfl
set_option maxHeartbeats 8000000 in
set_option maxRecDepth 100000 in
theorem impl_OpText.calls (k : Nat) (a0_0 : Int) (A0_1 : Option Addr) (c0_1 : Nat) (l0_1 : List Int) (a0_2 : Int) (a0_3 : Int) (a0_4 : Int) (r : ByteArray) (w : World) (hr0_1 : Kd.C (Kd.int .i64) w A0_1 l0_1.length l0_1) (hc0_1 : l0_1.length ≤ c0_1) (hL : Laid w) (h : impl_OpText.f k a0_0 l0_1 a0_2 a0_3 a0_4 = some r) :
  Calls Tryd.prog 22 #[.agg #[.int .i64 a0_0, .slice A0_1 l0_1.length c0_1, .int .i64 a0_2, .int .i64 a0_3, .int .i64 a0_4]] w fun e w' => e = .returned (.string r) ∧ Below w.heap.size w w' := by
 have hu24 := Tryd.underlying24
 have HR0_1 := Aside0.mk hr0_1
 have HC0_1 := Aside0.mk hc0_1
 clear hr0_1 hc0_1
 have HB := Aside0.mk (Below.refl w.heap.size w)
 have H : ((impl_OpOk.f k a0_0 l0_1 a0_2 a0_3 a0_4).bind fun t251 => (if t251 = true then (impl_OpText.l0 k (([] : List ByteArray)) l0_1 (l0_1.length : Int) 0 a0_0 l0_1 a0_2 a0_3 a0_4) else (some (⟨#[]⟩ : ByteArray)))) = some r := h
 clear h
 obtain ⟨t251, A2, H⟩ := bnd_ H
 by_cases c3 : t251 = true
 ·subst c3
  replace H := ift_ H
  first | ((with_reducible have hz_ := gy_ H); obtain ⟨y252, Ny252, H⟩ := hz_) | (generalize hy_ : ((([] : List ByteArray)) : List ByteArray) = y252 at H; have Ny252 := Aside0.mk hy_.symm; clear hy_)
  have H' := Aside0.mk H
  clear H
  go_enter Tryd.func22, Tryd.ntmps22
  go_wp2_with (first | ((with_reducible refine gate_dst (N := 1) rfl ?_); refine box_event ?hg (N := 1) ?hd (cs := #[.int .i64 a0_0, .slice A0_1 l0_1.length c0_1, .int .i64 a0_2, .int .i64 a0_3, .int .i64 a0_4]) (t := 24) ?hr ?_; (case hd => rfl); (case hg => rfl); (case hr => exact z18_); intro gb250 hg w4 hbox hb; have BK250 := Aside0.mk (hbox); have GW250 := Aside0.mk ((by rw [hg]; exact (below_size z0_) : w.heap.size ≤ gb250)); have GE250 := Aside0.mk ((by rw [hg]; exact (below_size z0_) : w.heap.size ≤ gb250)); replace HB := Aside0.mk (below_step z0_ hb); clear hb hbox hg; obtain ⟨hcz5_0, hcz5_1, hcz5_2, hcz5_3, hcz5_4, hfz5_0, hfz5_1, hfz5_2, hfz5_3, hfz5_4⟩ := bx5_ BK250.out) | ((with_reducible refine gate_callee (f := 38) rfl ?_); refine goesL_ (some 8) rfl rfl Tryd.func38 (by kernel_rfl) rfl #[.agg #[.int .i64 a0_0, .slice A0_1 l0_1.length c0_1, .int .i64 a0_2, .int .i64 a0_3, .int .i64 a0_4]] rfl z1_ ?_; (with_reducible refine (impl_OpOk.calls k a0_0 _ _ l0_1 a0_2 a0_3 a0_4 true _ ?side1 ?side2 A2.out).mono ?_); (case side1 => exact z6_); (case side2 => exact HC0_1.out); rintro e w6 ⟨rfl, hb⟩; refine ⟨_, rfl, ?_⟩; replace BK250 := Aside0.mk (blk_below (g := gb250) (o := .cells #[.int .i64 a0_0, .slice A0_1 l0_1.length c0_1, .int .i64 a0_2, .int .i64 a0_3, .int .i64 a0_4] 24 (0, 0)) z29_ hb); replace HB := Aside0.mk (below_step z11_ hb); (try clear hb)) | ((with_reducible refine gate_dst (N := 10) rfl ?_); refine Kd.R_lit Kd.string _ 9 ?hg (N := 10) ?hd (xs := ([] : List ByteArray)) (inner := []) (ok := fun _ => True) (okp := fun _ => True) ?hr ?hp (fun _ hk => hk) trivial (Below.refl _ _) (Nat.le_refl _) (by simp) ?_; (case hd => rfl); (case hg => rfl); (case hr => exact z18_); (case hp => exact z114_); intro v253 w7 ho8 hb hg_ hnew_; clear hg_ hnew_; (first | rw [← Ny252.out] at ho8 | (simp only [Int.reduceToNat] at ho8; rw [← Ny252.out] at ho8)); have HO254 := Aside0.mk (Kd.R_lower ho8 (below_size z11_)); replace BK250 := Aside0.mk (blk_below (g := gb250) (o := .cells #[.int .i64 a0_0, .slice A0_1 l0_1.length c0_1, .int .i64 a0_2, .int .i64 a0_3, .int .i64 a0_4] 24 (0, 0)) z29_ hb); replace HB := Aside0.mk (below_step z11_ hb); clear hb ho8; obtain ⟨hcz9_0, hcz9_1, hcz9_2, hcz9_3, hcz9_4, hfz9_0, hfz9_1, hfz9_2, hfz9_3, hfz9_4⟩ := bx5_ BK250.out))
  go_loopg [3, 14] k (fun kq v3 v14 w' => ∃ (x3_1 : List ByteArray) (x14_1 : Int), v14 = .int .i64 x14_1 ∧ Aside0 (impl_OpText.l0 kq x3_1 l0_1 (l0_1.length : Int) x14_1 a0_0 l0_1 a0_2 a0_3 a0_4 = some r) ∧ Aside0 (kq ≤ k) ∧ Aside0 (Kd.R Kd.string 9 w' w.heap.size (fun _ => True) v3 x3_1) ∧ Aside0 (w'.heap[gb250]? = some (.cells #[.int .i64 a0_0, (.slice A0_1 l0_1.length c0_1), .int .i64 a0_2, .int .i64 a0_3, .int .i64 a0_4] 24 (0, 0))) ∧ Aside0 (Below w.heap.size w w'))
  case atStart => exact ⟨(y252), (0), z4_, H', ⟨Nat.le_refl _⟩, ⟨by (with_reducible repeat (first | apply Kd.R_alloc | apply Kd.R_drewN | apply Kd.R_drew)); exact HO254.out⟩, ⟨z29_⟩, ⟨z11_⟩⟩
  case round =>
   clear H'
   try clear c2
   try clear p2
   try clear c3
   try clear hcz5_0
   try clear hcz5_1
   try clear hcz5_2
   try clear hcz5_3
   try clear hcz5_4
   try clear hcz9_0
   try clear hcz9_1
   try clear hcz9_2
   try clear hcz9_3
   try clear hcz9_4
   try clear hfz5_0
   try clear hfz5_1
   try clear hfz5_2
   try clear hfz5_3
   try clear hfz5_4
   try clear hfz9_0
   try clear hfz9_1
   try clear hfz9_2
   try clear hfz9_3
   try clear hfz9_4
   obtain ⟨x3_1, x14_1, rfl, HA, HK1, HO_3, BK250, HB⟩ := hrel
   cases gk with
   | zero => exact absurd HA.out (by simp [impl_OpText.l0])
   | succ k1 =>
    have H := HA.out
    clear HA
    simp only [impl_OpText.l0] at H
    by_cases c10 : x14_1 < (l0_1.length : Int)
    ·rw [if_pos c10] at H
     have c10b0 := decide_eq_true c10
     clear c10
     obtain ⟨c11b0, H⟩ := ifd_ H
     obtain ⟨c12b0, H⟩ := ifd_ H
     obtain ⟨t256, A13, H⟩ := bnd_ H
     obtain ⟨c14, H⟩ := ifs_ H
     have LMc14 := Aside0.mk c14
     clear c14
     first | ((with_reducible have hz_ := gy_ H); obtain ⟨y257, Ny257, H⟩ := hz_) | (generalize hy_ : ((x3_1 ++ [t256]) : List ByteArray) = y257 at H; have Ny257 := Aside0.mk hy_.symm; clear hy_)
     have H' := Aside0.mk H
     clear H
     have p255 : 0 ≤ (x14_1 : Int) := odt_
     have q255 : x14_1 < (l0_1.length : Int) := odt_
     obtain ⟨ad255, e255, hx255_0⟩ := Kd.at_int HR0_1.out x14_1 p255 q255
     cases e255
     replace hx255_0 := (HB.out.cell (World.block_lt_of_cell? w _ hx255_0)).trans hx255_0
     replace p255 := eq_true p255
     replace q255 := eq_true q255
     go_wp2_with (first | ((with_reducible refine gate_callee (f := 36) rfl ?_); refine goesL_ (some 20) rfl rfl Tryd.func36 (by kernel_rfl) rfl #[.int .i64 (rd l0_1 x14_1)] rfl z1_ ?_; (with_reducible refine (impl_Dec.calls k1 (rd l0_1 x14_1) t256 _ (hL.below z7_) A13.out).mono ?_); rintro e w15 ⟨rfl, hb⟩; refine ⟨_, rfl, ?_⟩; replace HO_3 := Aside0.mk (Kd.R_below z48_ hb); replace BK250 := Aside0.mk (blk_below (g := gb250) (o := .cells #[.int .i64 a0_0, .slice (some ad255) l0_1.length c0_1, .int .i64 a0_2, .int .i64 a0_3, .int .i64 a0_4] 24 (0, 0)) z29_ hb); replace HB := Aside0.mk (below_step z11_ hb); (try clear hb)) | ((with_reducible refine gate_builtin (b := .append) (xs := #[.tmp 18, .tmp 21]) rfl ?_); at_builtin; refine Kd.R_append Kd.string (w0 := w) w.heap.size rfl (.tmp 18) (.tmp 21) 35 9 (.string ⟨#[]⟩) 16 rfl Tryd.underlying35 info9 rfl (by decide) (by omega) u3 x3_1 t256 [.string t256] (fun _ => True) (fun _ => False) rfl rfl ?aP (fun _ hk => hk.elim) ?aF ?aO ?aB ?aS ?aL ?_; (case aP => exact rfl); (case aB => exact z11_); (case aF => exact z116_); (case aO => exact z48_); (case aS => exact (below_size z11_)); (case aL => have := LMc14.out; omega); intro v258 w16 ho hb hg hat; rw [← Ny257.out] at ho; replace BK250 := Aside0.mk (blk_grown (g := gb250) (o := .cells #[.int .i64 a0_0, .slice (some ad255) l0_1.length c0_1, .int .i64 a0_2, .int .i64 a0_3, .int .i64 a0_4] 24 (0, 0)) z29_ hg (Kd.R_ne HO_3.out BK250.out (by decide))); replace HB := Aside0.mk (hb); have HO259 := Aside0.mk (ho); clear HO_3; clear ho hb hg hat))
     go_roundg k1
     case measure => have := HK1.out; omega
     case rel => exact ⟨(y257), (wrap64 (x14_1 + 1)), z4_, H', ⟨z62_⟩, ⟨by (with_reducible repeat (first | apply Kd.R_alloc | apply Kd.R_drewN | apply Kd.R_drew)); exact HO259.out⟩, ⟨z29_⟩, ⟨z11_⟩⟩
    ·rw [if_neg c10] at H
     have c10b0 := decide_eq_false c10
     clear c10
     obtain ⟨t260, A17, H⟩ := bnd_ H
     obtain ⟨c18, H⟩ := ifs_ H
     have c18b0 := eq_true c18
     have c18b1 := decide_eq_true c18
     try have c18b2 : (9223372036854775807 < 2 + t260.size) = False := eq_false (Nat.not_lt.2 c18)
     by_cases c19 : a0_0 = 1
     ·rw [if_pos c19] at H
      have c19b0 : (a0_0 == 1) = true := beq_iff_eq.mpr c19
      have c19b1 : (a0_0 != 1) = false := bne_eq_false_iff_eq.mpr c19
      clear c19
      obtain ⟨c20, H⟩ := ifs_ H
      have c20b0 := eq_true c20
      have c20b1 := decide_eq_true c20
      try have c20b2 : (9223372036854775807 < 7 + ((⟨#[32, 46]⟩ : ByteArray) ++ t260).size) = False := eq_false (Nat.not_lt.2 c20)
      have c20s : 7 + (2 + t260.size) ≤ 9223372036854775807 := by have e_ := c20; simp only [ByteArray.size_append] at e_; exact e_
      have c20sb : (9223372036854775807 < 7 + (2 + t260.size)) = False := eq_false (Nat.not_lt.2 c20s)
      obtain ⟨c21, H⟩ := ifs_ H
      have c21b0 := eq_true c21
      have c21b1 := decide_eq_true c21
      try have c21b2 : (9223372036854775807 < ((⟨#[114, 101, 108, 97, 98, 101, 108]⟩ : ByteArray) ++ ((⟨#[32, 46]⟩ : ByteArray) ++ t260)).size + 1) = False := eq_false (Nat.not_lt.2 c21)
      have c21s : 7 + (2 + t260.size) + 1 ≤ 9223372036854775807 := by have e_ := c21; simp only [ByteArray.size_append] at e_; exact e_
      have c21sb : (9223372036854775807 < 7 + (2 + t260.size) + 1) = False := eq_false (Nat.not_lt.2 c21s)
      obtain ⟨t261, A22, H⟩ := bnd_ H
      obtain ⟨c23, H⟩ := ifs_ H
      have c23b0 := eq_true c23
      have c23b1 := decide_eq_true c23
      try have c23b2 : (9223372036854775807 < (((⟨#[114, 101, 108, 97, 98, 101, 108]⟩ : ByteArray) ++ ((⟨#[32, 46]⟩ : ByteArray) ++ t260)) ++ (⟨#[32]⟩ : ByteArray)).size + t261.size) = False := eq_false (Nat.not_lt.2 c23)
      have c23s : 7 + (2 + t260.size) + 1 + t261.size ≤ 9223372036854775807 := by have e_ := c23; simp only [ByteArray.size_append] at e_; exact e_
      have c23sb : (9223372036854775807 < 7 + (2 + t260.size) + 1 + t261.size) = False := eq_false (Nat.not_lt.2 c23s)
      obtain rfl := Option.some.inj H
      obtain ⟨Ao24, co24, eo24⟩ := Kd.R_slice HO_3.out
      subst eo24
      go_wp2_with (first | ((with_reducible refine gate_callee (f := 39) rfl ?_); refine goesL_ (some 25) rfl rfl Tryd.func39 (by kernel_rfl) rfl #[.slice Ao24 x3_1.length co24, .string (⟨#[46]⟩ : ByteArray)] rfl z1_ ?_; (with_reducible refine (strings_Join.calls _ _ x3_1 (⟨#[46]⟩ : ByteArray) t260 _ ?side1 (R_none HO_3.out) ?side2 A17.out).mono ?_); (case side1 => exact z60_); (case side2 => exact (Kd.R_reads' HO_3.out).2.1); rintro e w25 ⟨rfl, hb⟩; refine ⟨_, rfl, ?_⟩; replace HO_3 := Aside0.mk (Kd.R_below z48_ hb); replace BK250 := Aside0.mk (blk_below (g := gb250) (o := .cells #[.int .i64 a0_0, .slice A0_1 l0_1.length c0_1, .int .i64 a0_2, .int .i64 a0_3, .int .i64 a0_4] 24 (0, 0)) z29_ hb); replace HB := Aside0.mk (below_step z11_ hb); (try clear hb); obtain ⟨hcz26_0, hcz26_1, hcz26_2, hcz26_3, hcz26_4, hfz26_0, hfz26_1, hfz26_2, hfz26_3, hfz26_4⟩ := bx5_ BK250.out) | ((with_reducible refine gate_callee (f := 37) rfl ?_); refine goesL_ (some 36) rfl rfl Tryd.func37 (by kernel_rfl) rfl #[.int .i64 a0_2] rfl z1_ ?_; (with_reducible refine (impl_LabelName.calls a0_2 t261 _ A22.out).mono ?_); rintro e w27 ⟨rfl, hb⟩; refine ⟨_, rfl, ?_⟩; replace HO_3 := Aside0.mk (Kd.R_below z48_ hb); replace BK250 := Aside0.mk (blk_below (g := gb250) (o := .cells #[.int .i64 a0_0, .slice A0_1 l0_1.length c0_1, .int .i64 a0_2, .int .i64 a0_3, .int .i64 a0_4] 24 (0, 0)) z29_ hb); replace HB := Aside0.mk (below_step z11_ hb); (try clear hb)))
      go_ret
      exact ⟨z2_, z11_⟩
     ·rw [if_neg c19] at H
      have c19b0 : (a0_0 == 1) = false := beq_eq_false_iff_ne.mpr c19
      have c19b1 : (a0_0 != 1) = true := bne_iff_ne.mpr c19
      by_cases c28 : a0_0 = 2
      ·rw [if_pos c28] at H
       have c28b0 : (a0_0 == 2) = true := beq_iff_eq.mpr c28
       have c28b1 : (a0_0 != 2) = false := bne_eq_false_iff_eq.mpr c28
       clear c28
       obtain ⟨c29, H⟩ := ifs_ H
       have c29b0 := eq_true c29
       have c29b1 := decide_eq_true c29
       try have c29b2 : (9223372036854775807 < 6 + ((⟨#[32, 46]⟩ : ByteArray) ++ t260).size) = False := eq_false (Nat.not_lt.2 c29)
       have c29s : 6 + (2 + t260.size) ≤ 9223372036854775807 := by have e_ := c29; simp only [ByteArray.size_append] at e_; exact e_
       have c29sb : (9223372036854775807 < 6 + (2 + t260.size)) = False := eq_false (Nat.not_lt.2 c29s)
       obtain rfl := Option.some.inj H
       obtain ⟨Ao30, co30, eo30⟩ := Kd.R_slice HO_3.out
       subst eo30
       go_wp2_with (first | ((with_reducible refine gate_callee (f := 39) rfl ?_); refine goesL_ (some 25) rfl rfl Tryd.func39 (by kernel_rfl) rfl #[.slice Ao30 x3_1.length co30, .string (⟨#[46]⟩ : ByteArray)] rfl z1_ ?_; (with_reducible refine (strings_Join.calls _ _ x3_1 (⟨#[46]⟩ : ByteArray) t260 _ ?side1 (R_none HO_3.out) ?side2 A17.out).mono ?_); (case side1 => exact z60_); (case side2 => exact (Kd.R_reads' HO_3.out).2.1); rintro e w31 ⟨rfl, hb⟩; refine ⟨_, rfl, ?_⟩; replace HO_3 := Aside0.mk (Kd.R_below z48_ hb); replace BK250 := Aside0.mk (blk_below (g := gb250) (o := .cells #[.int .i64 a0_0, .slice A0_1 l0_1.length c0_1, .int .i64 a0_2, .int .i64 a0_3, .int .i64 a0_4] 24 (0, 0)) z29_ hb); replace HB := Aside0.mk (below_step z11_ hb); (try clear hb); obtain ⟨hcz32_0, hcz32_1, hcz32_2, hcz32_3, hcz32_4, hfz32_0, hfz32_1, hfz32_2, hfz32_3, hfz32_4⟩ := bx5_ BK250.out))
       go_ret
       exact ⟨z2_, z11_⟩
      ·rw [if_neg c28] at H
       have c28b0 : (a0_0 == 2) = false := beq_eq_false_iff_ne.mpr c28
       have c28b1 : (a0_0 != 2) = true := bne_iff_ne.mpr c28
       obtain ⟨c33, H⟩ := ifs_ H
       have c33b0 := eq_true c33
       have c33b1 := decide_eq_true c33
       try have c33b2 : (9223372036854775807 < 6 + ((⟨#[32, 46]⟩ : ByteArray) ++ t260).size) = False := eq_false (Nat.not_lt.2 c33)
       have c33s : 6 + (2 + t260.size) ≤ 9223372036854775807 := by have e_ := c33; simp only [ByteArray.size_append] at e_; exact e_
       have c33sb : (9223372036854775807 < 6 + (2 + t260.size)) = False := eq_false (Nat.not_lt.2 c33s)
       obtain ⟨c34, H⟩ := ifs_ H
       have c34b0 := eq_true c34
       have c34b1 := decide_eq_true c34
       try have c34b2 : (9223372036854775807 < ((⟨#[105, 110, 115, 101, 114, 116]⟩ : ByteArray) ++ ((⟨#[32, 46]⟩ : ByteArray) ++ t260)).size + 1) = False := eq_false (Nat.not_lt.2 c34)
       have c34s : 6 + (2 + t260.size) + 1 ≤ 9223372036854775807 := by have e_ := c34; simp only [ByteArray.size_append] at e_; exact e_
       have c34sb : (9223372036854775807 < 6 + (2 + t260.size) + 1) = False := eq_false (Nat.not_lt.2 c34s)
       obtain ⟨t262, A35, H⟩ := bnd_ H
       obtain ⟨c36, H⟩ := ifs_ H
       have c36b0 := eq_true c36
       have c36b1 := decide_eq_true c36
       try have c36b2 : (9223372036854775807 < (((⟨#[105, 110, 115, 101, 114, 116]⟩ : ByteArray) ++ ((⟨#[32, 46]⟩ : ByteArray) ++ t260)) ++ (⟨#[32]⟩ : ByteArray)).size + t262.size) = False := eq_false (Nat.not_lt.2 c36)
       have c36s : 6 + (2 + t260.size) + 1 + t262.size ≤ 9223372036854775807 := by have e_ := c36; simp only [ByteArray.size_append] at e_; exact e_
       have c36sb : (9223372036854775807 < 6 + (2 + t260.size) + 1 + t262.size) = False := eq_false (Nat.not_lt.2 c36s)
       obtain ⟨c37, H⟩ := ifs_ H
       have c37b0 := eq_true c37
       have c37b1 := decide_eq_true c37
       try have c37b2 : (9223372036854775807 < ((((⟨#[105, 110, 115, 101, 114, 116]⟩ : ByteArray) ++ ((⟨#[32, 46]⟩ : ByteArray) ++ t260)) ++ (⟨#[32]⟩ : ByteArray)) ++ t262).size + 1) = False := eq_false (Nat.not_lt.2 c37)
       have c37s : 6 + (2 + t260.size) + 1 + t262.size + 1 ≤ 9223372036854775807 := by have e_ := c37; simp only [ByteArray.size_append] at e_; exact e_
       have c37sb : (9223372036854775807 < 6 + (2 + t260.size) + 1 + t262.size + 1) = False := eq_false (Nat.not_lt.2 c37s)
       obtain ⟨t263, A38, H⟩ := bnd_ H
       obtain ⟨c39, H⟩ := ifs_ H
       have c39b0 := eq_true c39
       have c39b1 := decide_eq_true c39
       try have c39b2 : (9223372036854775807 < (((((⟨#[105, 110, 115, 101, 114, 116]⟩ : ByteArray) ++ ((⟨#[32, 46]⟩ : ByteArray) ++ t260)) ++ (⟨#[32]⟩ : ByteArray)) ++ t262) ++ (⟨#[32]⟩ : ByteArray)).size + t263.size) = False := eq_false (Nat.not_lt.2 c39)
       have c39s : 6 + (2 + t260.size) + 1 + t262.size + 1 + t263.size ≤ 9223372036854775807 := by have e_ := c39; simp only [ByteArray.size_append] at e_; exact e_
       have c39sb : (9223372036854775807 < 6 + (2 + t260.size) + 1 + t262.size + 1 + t263.size) = False := eq_false (Nat.not_lt.2 c39s)
       obtain ⟨c40, H⟩ := ifs_ H
       have c40b0 := eq_true c40
       have c40b1 := decide_eq_true c40
       try have c40b2 : (9223372036854775807 < ((((((⟨#[105, 110, 115, 101, 114, 116]⟩ : ByteArray) ++ ((⟨#[32, 46]⟩ : ByteArray) ++ t260)) ++ (⟨#[32]⟩ : ByteArray)) ++ t262) ++ (⟨#[32]⟩ : ByteArray)) ++ t263).size + 1) = False := eq_false (Nat.not_lt.2 c40)
       have c40s : 6 + (2 + t260.size) + 1 + t262.size + 1 + t263.size + 1 ≤ 9223372036854775807 := by have e_ := c40; simp only [ByteArray.size_append] at e_; exact e_
       have c40sb : (9223372036854775807 < 6 + (2 + t260.size) + 1 + t262.size + 1 + t263.size + 1) = False := eq_false (Nat.not_lt.2 c40s)
       obtain ⟨t264, A41, H⟩ := bnd_ H
       obtain ⟨c42, H⟩ := ifs_ H
       have c42b0 := eq_true c42
       have c42b1 := decide_eq_true c42
       try have c42b2 : (9223372036854775807 < (((((((⟨#[105, 110, 115, 101, 114, 116]⟩ : ByteArray) ++ ((⟨#[32, 46]⟩ : ByteArray) ++ t260)) ++ (⟨#[32]⟩ : ByteArray)) ++ t262) ++ (⟨#[32]⟩ : ByteArray)) ++ t263) ++ (⟨#[32]⟩ : ByteArray)).size + t264.size) = False := eq_false (Nat.not_lt.2 c42)
       have c42s : 6 + (2 + t260.size) + 1 + t262.size + 1 + t263.size + 1 + t264.size ≤ 9223372036854775807 := by have e_ := c42; simp only [ByteArray.size_append] at e_; exact e_
       have c42sb : (9223372036854775807 < 6 + (2 + t260.size) + 1 + t262.size + 1 + t263.size + 1 + t264.size) = False := eq_false (Nat.not_lt.2 c42s)
       obtain rfl := Option.some.inj H
       obtain ⟨Ao43, co43, eo43⟩ := Kd.R_slice HO_3.out
       subst eo43
       try go_wp2_with (first | ((with_reducible refine gate_callee (f := 39) rfl ?_); refine goesL_ (some 25) rfl rfl Tryd.func39 (by kernel_rfl) rfl #[.slice Ao43 x3_1.length co43, .string (⟨#[46]⟩ : ByteArray)] rfl z1_ ?_; (with_reducible refine (strings_Join.calls _ _ x3_1 (⟨#[46]⟩ : ByteArray) t260 _ ?side1 (R_none HO_3.out) ?side2 A17.out).mono ?_); (case side1 => exact z60_); (case side2 => exact (Kd.R_reads' HO_3.out).2.1); rintro e w44 ⟨rfl, hb⟩; refine ⟨_, rfl, ?_⟩; replace HO_3 := Aside0.mk (Kd.R_below z48_ hb); replace BK250 := Aside0.mk (blk_below (g := gb250) (o := .cells #[.int .i64 a0_0, .slice A0_1 l0_1.length c0_1, .int .i64 a0_2, .int .i64 a0_3, .int .i64 a0_4] 24 (0, 0)) z29_ hb); replace HB := Aside0.mk (below_step z11_ hb); (try clear hb); obtain ⟨hcz45_0, hcz45_1, hcz45_2, hcz45_3, hcz45_4, hfz45_0, hfz45_1, hfz45_2, hfz45_3, hfz45_4⟩ := bx5_ BK250.out))
       have n0_ := Aside0.mk (Kd.R_drew HO_3.out)
       have n1_ := Aside0.mk (blk_drew BK250.out)
       have n2_ := Aside0.mk (below_drew1 HB.out)
       clear HO_3
       clear BK250
       clear HB
       have HO_3 := n0_
       have BK250 := n1_
       have HB := n2_
       clear n0_ n1_ n2_
       refine start_ (n := 18) (S := fun w' => w'.cell? ⟨gb250, 0, none⟩ = some (.int .i64 a0_0) ∧ w'.cell? ⟨gb250, 1, none⟩ = some (.slice A0_1 l0_1.length c0_1) ∧ w'.cell? ⟨gb250, 2, none⟩ = some (.int .i64 a0_2) ∧ w'.cell? ⟨gb250, 3, none⟩ = some (.int .i64 a0_3) ∧ w'.cell? ⟨gb250, 4, none⟩ = some (.int .i64 a0_4)) (ds := []) (fl_ 18 0) (by kernel_rfl) rfl (fl_zero _) ⟨(blk_cell BK250.out 0).trans rfl, (blk_cell BK250.out 1).trans rfl, (blk_cell BK250.out 2).trans rfl, (blk_cell BK250.out 3).trans rfl, (blk_cell BK250.out 4).trans rfl⟩ (fun hHeld => ?_); refine with_tabW impl_OpText.tab15 impl_OpText.bits15 (fun HT_ HW_ => ?_)
       generalize w44.drew = w46 at HO_3 BK250 HB hHeld ⊢
       iterate 4 refine zp_ HT_ rfl rfl (by kernel_rfl) (fun _ _ _ h => h) (by rfl) ?_
       refine zpg_ (i := 8) (ra_ [4, 4, 1, 9]) HT_ rfl rfl (by kernel_rfl) (fun _ _ _ h => h) (by rfl) ?_
       refine zpg_ (i := 13) (ra_ [4, 4, 1, 4, 1, 4]) HT_ rfl rfl (by kernel_rfl) (fun _ _ _ h => h) (by rfl) ?_
       refine ztg_ (i := 4) (ra_ [5, 3, 1, 4, 1, 4]) HT_ HW_ rfl rfl (by kernel_rfl) (fun _ _ _ h => h) (by rfl) hHeld ?_ z91_
       refine ztg_ (i := 9) (ra_ [5, 3, 2, 3, 1, 4]) HT_ HW_ rfl rfl (by kernel_rfl) (fun _ _ _ h => h) (by rfl) hHeld ?_ z91_
       refine ztg_ (i := 14) (ra_ [5, 3, 2, 3, 2, 3]) HT_ HW_ rfl rfl (by kernel_rfl) (fun _ _ _ h => h) (by rfl) hHeld ?_ z91_
       refine one_ (i := 5) (N := some 47) (ra_ [6, 2, 2, 3, 2, 3]) rfl rfl (one_of HT_.out (by kernel_rfl)) (by decide) (fun K hK => ?_)
       refine goes_ Tryd.func37 (by kernel_rfl) rfl #[.int .i64 a0_2] (by rfl) rfl rfl z1_ ?_
       with_reducible refine (impl_LabelName.calls a0_2 t262 _ A35.out).mono ?_
       rintro e w47 ⟨rfl, hb⟩
       refine ⟨_, rfl, ?_⟩
       have n0_ := Aside0.mk (Kd.R_below z48_ hb)
       have n1_ := Aside0.mk (blk_below (g := gb250) (o := .cells #[.int .i64 a0_0, .slice A0_1 l0_1.length c0_1, .int .i64 a0_2, .int .i64 a0_3, .int .i64 a0_4] 24 (0, 0)) z29_ hb)
       have n2_ := Aside0.mk (below_step z11_ hb)
       clear HO_3
       clear BK250
       clear HB
       have HO_3 := n0_
       have BK250 := n1_
       have HB := n2_
       clear n0_ n1_ n2_
       (try clear hb)
       (try clear hb2)
       (try clear hk)
       (try clear hi)
       refine hK.out _ _ ⟨(blk_cell BK250.out 0).trans rfl, (blk_cell BK250.out 1).trans rfl, (blk_cell BK250.out 2).trans rfl, (blk_cell BK250.out 3).trans rfl, (blk_cell BK250.out 4).trans rfl⟩ (fun hHeld => ?_)
       clear hK K
       refine zn_ rfl ?_
       refine zpg_ (i := 6) (ra_ [7, 1, 2, 3, 2, 3]) HT_ rfl rfl (by kernel_rfl) (fun _ _ _ h => h) (by rfl) ?_
       refine zpg_ (i := 7) (ra_ [10, 3, 2, 3]) HT_ rfl rfl (by kernel_rfl) (fun _ _ _ h => h) (by rfl) ?_
       refine one_ (i := 10) (N := some 52) (ra_ [11, 2, 2, 3]) rfl rfl (one_of HT_.out (by kernel_rfl)) (by decide) (fun K hK => ?_)
       refine goes_ Tryd.func36 (by kernel_rfl) rfl #[.int .i64 a0_3] (by rfl) rfl rfl z1_ ?_
       with_reducible refine (impl_Dec.calls k1 a0_3 t263 _ (hL.below z7_) A38.out).mono ?_
       rintro e w48 ⟨rfl, hb⟩
       refine ⟨_, rfl, ?_⟩
       have n0_ := Aside0.mk (Kd.R_below z48_ hb)
       have n1_ := Aside0.mk (blk_below (g := gb250) (o := .cells #[.int .i64 a0_0, .slice A0_1 l0_1.length c0_1, .int .i64 a0_2, .int .i64 a0_3, .int .i64 a0_4] 24 (0, 0)) z29_ hb)
       have n2_ := Aside0.mk (below_step z11_ hb)
       clear HO_3
       clear BK250
       clear HB
       have HO_3 := n0_
       have BK250 := n1_
       have HB := n2_
       clear n0_ n1_ n2_
       (try clear hb)
       (try clear hb2)
       (try clear hk)
       (try clear hi)
       refine hK.out _ _ ⟨(blk_cell BK250.out 0).trans rfl, (blk_cell BK250.out 1).trans rfl, (blk_cell BK250.out 2).trans rfl, (blk_cell BK250.out 3).trans rfl, (blk_cell BK250.out 4).trans rfl⟩ (fun hHeld => ?_)
       clear hK K
       refine zn_ rfl ?_
       refine zpg_ (i := 11) (ra_ [12, 1, 2, 3]) HT_ rfl rfl (by kernel_rfl) (fun _ _ _ h => h) (by rfl) ?_
       refine zpg_ (i := 12) (fl_ 18 15) HT_ rfl rfl (by kernel_rfl) (fun _ _ _ h => h) (by rfl) ?_
       refine one_ (i := 15) (N := some 57) (fl_ 18 16) rfl rfl (one_of HT_.out (by kernel_rfl)) (by decide) (fun K hK => ?_)
       refine goes_ Tryd.func36 (by kernel_rfl) rfl #[.int .i64 a0_4] (by rfl) rfl rfl z1_ ?_
       with_reducible refine (impl_Dec.calls k1 a0_4 t264 _ (hL.below z7_) A41.out).mono ?_
       rintro e w49 ⟨rfl, hb⟩
       refine ⟨_, rfl, ?_⟩
       have n0_ := Aside0.mk (Kd.R_below z48_ hb)
       have n1_ := Aside0.mk (blk_below (g := gb250) (o := .cells #[.int .i64 a0_0, .slice A0_1 l0_1.length c0_1, .int .i64 a0_2, .int .i64 a0_3, .int .i64 a0_4] 24 (0, 0)) z29_ hb)
       have n2_ := Aside0.mk (below_step z11_ hb)
       clear HO_3
       clear BK250
       clear HB
       have HO_3 := n0_
       have BK250 := n1_
       have HB := n2_
       clear n0_ n1_ n2_
       (try clear hb)
       (try clear hb2)
       (try clear hk)
       (try clear hi)
       refine hK.out _ _ ⟨(blk_cell BK250.out 0).trans rfl, (blk_cell BK250.out 1).trans rfl, (blk_cell BK250.out 2).trans rfl, (blk_cell BK250.out 3).trans rfl, (blk_cell BK250.out 4).trans rfl⟩ (fun hHeld => ?_)
       clear hK K
       refine zn_ rfl ?_
       iterate 2 refine zp_ HT_ rfl rfl (by kernel_rfl) (fun _ _ _ h => h) (by rfl) ?_
       refine done_ (done_of HT_.out (by kernel_rfl)) ?_
       try go_wp2
       go_ret
       exact ⟨z2_, z11_⟩
 ·replace c3 := Bool.eq_false_iff.mpr c3
  subst c3
  replace H := iff_ H
  obtain rfl := Option.some.inj H
  go_enter Tryd.func22, Tryd.ntmps22
  go_wp2_with (first | ((with_reducible refine gate_dst (N := 1) rfl ?_); refine box_event ?hg (N := 1) ?hd (cs := #[.int .i64 a0_0, .slice A0_1 l0_1.length c0_1, .int .i64 a0_2, .int .i64 a0_3, .int .i64 a0_4]) (t := 24) ?hr ?_; (case hd => rfl); (case hg => rfl); (case hr => exact z18_); intro gb250 hg w50 hbox hb; have BK250 := Aside0.mk (hbox); have GW250 := Aside0.mk ((by rw [hg]; exact (below_size z0_) : w.heap.size ≤ gb250)); have GE250 := Aside0.mk ((by rw [hg]; exact (below_size z0_) : w.heap.size ≤ gb250)); replace HB := Aside0.mk (below_step z0_ hb); clear hb hbox hg; obtain ⟨hcz51_0, hcz51_1, hcz51_2, hcz51_3, hcz51_4, hfz51_0, hfz51_1, hfz51_2, hfz51_3, hfz51_4⟩ := bx5_ BK250.out) | ((with_reducible refine gate_callee (f := 38) rfl ?_); refine goesL_ (some 8) rfl rfl Tryd.func38 (by kernel_rfl) rfl #[.agg #[.int .i64 a0_0, .slice A0_1 l0_1.length c0_1, .int .i64 a0_2, .int .i64 a0_3, .int .i64 a0_4]] rfl z1_ ?_; (with_reducible refine (impl_OpOk.calls k a0_0 _ _ l0_1 a0_2 a0_3 a0_4 false _ ?side1 ?side2 A2.out).mono ?_); (case side1 => exact z6_); (case side2 => exact HC0_1.out); rintro e w52 ⟨rfl, hb⟩; refine ⟨_, rfl, ?_⟩; replace BK250 := Aside0.mk (blk_below (g := gb250) (o := .cells #[.int .i64 a0_0, .slice A0_1 l0_1.length c0_1, .int .i64 a0_2, .int .i64 a0_3, .int .i64 a0_4] 24 (0, 0)) z29_ hb); replace HB := Aside0.mk (below_step z11_ hb); (try clear hb)))
  go_ret
  exact ⟨z2_, z11_⟩

end Go.Proofs.YtlfmlagdnebkiaaDoor.PFnExactReadScript
