/- Laid by a program of this session out of the kit's print for the law FnExactOpText: what it says of the machine is proved here, function by function; each contract under the conditions that it names. -/
import Derived.Test.YtipclgiboffblaaDoorShelf
import Derived.Lib.AppendIntMem
import Derived.Test.YtipclgiboffblaaDoorMFnExactOpTextx0
import Derived.Test.YtipclgiboffblaaDoorMFnExactOpTextx3
namespace Go.Proofs.YtipclgiboffblaaDoor.PFnExactOpText
open Go.RowKit Go.Proofs.YtipclgiboffblaaDoorW.PrintWords Go.Proofs.YtipclgiboffblaaDoorW.PrintLast Go.Proofs.YtipclgiboffblaaDoorW.PrintMore
attribute [local go_sem] max2_int min2_int max_two min_two max_three min_three max_four min_four   -- for this text's walks alone
set_option linter.unusedVariables false
set_option linter.unusedSimpArgs false

/-! ### impl_OpText: function 12 -/
def impl_OpText.l0 : Nat → List ByteArray → List Int → Int → Int → Int → List Int → Int → Int → Int → Option (ByteArray)
 | 0, _, _, _, _, _, _, _, _, _ => none
 | k + 1, x3, x12, x13, x14, x174000, x174001, x174002, x174003, x174004 => if x14 < x13 then (if 0 ≤ x14 then (if x14 < (x12.length : Int) then ((impl_Dec.f k (rd x12 x14)).bind fun t179 => (if x3.length < 8796093022208 then (impl_OpText.l0 k (x3 ++ [t179]) x12 x13 (wrap64 (x14 + 1)) x174000 x174001 x174002 x174003 x174004) else (none))) else (none)) else (none)) else ((strings_Join.f x3 (⟨#[46]⟩ : ByteArray)).bind fun t183 => (if 2 + t183.size ≤ 9223372036854775807 then (if x174000 = 1 then (if 7 + ((⟨#[32, 46]⟩ : ByteArray) ++ t183).size ≤ 9223372036854775807 then (if ((⟨#[114, 101, 108, 97, 98, 101, 108]⟩ : ByteArray) ++ ((⟨#[32, 46]⟩ : ByteArray) ++ t183)).size + 1 ≤ 9223372036854775807 then ((impl_LabelName.f x174002).bind fun t184 => (if (((⟨#[114, 101, 108, 97, 98, 101, 108]⟩ : ByteArray) ++ ((⟨#[32, 46]⟩ : ByteArray) ++ t183)) ++ (⟨#[32]⟩ : ByteArray)).size + t184.size ≤ 9223372036854775807 then (some ((((⟨#[114, 101, 108, 97, 98, 101, 108]⟩ : ByteArray) ++ ((⟨#[32, 46]⟩ : ByteArray) ++ t183)) ++ (⟨#[32]⟩ : ByteArray)) ++ t184)) else (none))) else (none)) else (none)) else (if x174000 = 2 then (if 6 + ((⟨#[32, 46]⟩ : ByteArray) ++ t183).size ≤ 9223372036854775807 then (some ((⟨#[100, 101, 108, 101, 116, 101]⟩ : ByteArray) ++ ((⟨#[32, 46]⟩ : ByteArray) ++ t183))) else (none)) else (if 6 + ((⟨#[32, 46]⟩ : ByteArray) ++ t183).size ≤ 9223372036854775807 then (if ((⟨#[105, 110, 115, 101, 114, 116]⟩ : ByteArray) ++ ((⟨#[32, 46]⟩ : ByteArray) ++ t183)).size + 1 ≤ 9223372036854775807 then ((impl_LabelName.f x174002).bind fun t185 => (if (((⟨#[105, 110, 115, 101, 114, 116]⟩ : ByteArray) ++ ((⟨#[32, 46]⟩ : ByteArray) ++ t183)) ++ (⟨#[32]⟩ : ByteArray)).size + t185.size ≤ 9223372036854775807 then (if ((((⟨#[105, 110, 115, 101, 114, 116]⟩ : ByteArray) ++ ((⟨#[32, 46]⟩ : ByteArray) ++ t183)) ++ (⟨#[32]⟩ : ByteArray)) ++ t185).size + 1 ≤ 9223372036854775807 then ((impl_Dec.f k x174003).bind fun t186 => (if (((((⟨#[105, 110, 115, 101, 114, 116]⟩ : ByteArray) ++ ((⟨#[32, 46]⟩ : ByteArray) ++ t183)) ++ (⟨#[32]⟩ : ByteArray)) ++ t185) ++ (⟨#[32]⟩ : ByteArray)).size + t186.size ≤ 9223372036854775807 then (if ((((((⟨#[105, 110, 115, 101, 114, 116]⟩ : ByteArray) ++ ((⟨#[32, 46]⟩ : ByteArray) ++ t183)) ++ (⟨#[32]⟩ : ByteArray)) ++ t185) ++ (⟨#[32]⟩ : ByteArray)) ++ t186).size + 1 ≤ 9223372036854775807 then ((impl_Dec.f k x174004).bind fun t187 => (if (((((((⟨#[105, 110, 115, 101, 114, 116]⟩ : ByteArray) ++ ((⟨#[32, 46]⟩ : ByteArray) ++ t183)) ++ (⟨#[32]⟩ : ByteArray)) ++ t185) ++ (⟨#[32]⟩ : ByteArray)) ++ t186) ++ (⟨#[32]⟩ : ByteArray)).size + t187.size ≤ 9223372036854775807 then (some ((((((((⟨#[105, 110, 115, 101, 114, 116]⟩ : ByteArray) ++ ((⟨#[32, 46]⟩ : ByteArray) ++ t183)) ++ (⟨#[32]⟩ : ByteArray)) ++ t185) ++ (⟨#[32]⟩ : ByteArray)) ++ t186) ++ (⟨#[32]⟩ : ByteArray)) ++ t187)) else (none))) else (none)) else (none))) else (none)) else (none))) else (none)) else (none)))) else (none)))
def impl_OpText.f (k : Nat) (a0_0 : Int) (l0_1 : List Int) (a0_2 : Int) (a0_3 : Int) (a0_4 : Int) : Option (ByteArray) := (impl_OpOk.f k a0_0 l0_1 a0_2 a0_3 a0_4).bind fun t174 => (if t174 = true then (impl_OpText.l0 k (([] : List ByteArray)) l0_1 (l0_1.length : Int) 0 a0_0 l0_1 a0_2 a0_3 a0_4) else (some (⟨#[]⟩ : ByteArray)))
def impl_OpText.T15 : Bool × List (List Nat × List Nat) := (true, [([], []), ([0], [0]), ([1], [1]), ([], []), ([3], [3]), ([4], [4]), ([2, 5], [2, 5]), ([6], [6]), ([], []), ([8], [8]), ([9, 5], [9]), ([7, 10], [7, 10]), ([11], [11]), ([], []), ([13], [13]), ([14, 10], [14]), ([12, 15], [12, 15]), ([16, 15, 0, 1, 2, 3, 4, 5, 6, 7, 8, 9, 10, 11, 12, 13, 14, 15, 16], [16])])
def impl_OpText.B15 : List Nat := [0, 1, 3, 0, 8, 24, 63, 127, 0, 256, 824, 2047, 4095, 0, 8192, 26424, 65535, 131071]
theorem impl_OpText.tab15 : rtab .any (opsOf Tryd.f12 15) = impl_OpText.T15 := by kernel_rfl
theorem impl_OpText.bits15 : waitsOk impl_OpText.T15.2 impl_OpText.B15 = true := by kernel_rfl
set_option maxHeartbeats 8000000 in
set_option maxRecDepth 100000 in
theorem impl_OpText.calls (k : Nat) (a0_0 : Int) (A0_1 : Option Addr) (c0_1 : Nat) (l0_1 : List Int) (a0_2 : Int) (a0_3 : Int) (a0_4 : Int) (r : ByteArray) (w : World) (hr0_1 : Kd.C (Kd.int .i64) w A0_1 l0_1.length l0_1) (hc0_1 : l0_1.length ≤ c0_1) (h : impl_OpText.f k a0_0 l0_1 a0_2 a0_3 a0_4 = some r) :
  Calls Tryd.prog 12 #[.agg #[.int .i64 a0_0, .slice A0_1 l0_1.length c0_1, .int .i64 a0_2, .int .i64 a0_3, .int .i64 a0_4]] w fun e w' => e = .returned (.string r) ∧ Below w.heap.size w w' := by
 have hu33 := Tryd.underlying33
 have HR0_1 := Aside0.mk hr0_1
 have HC0_1 := Aside0.mk hc0_1
 clear hr0_1 hc0_1
 have HB := Aside0.mk (Below.refl w.heap.size w)
 have H : ((impl_OpOk.f k a0_0 l0_1 a0_2 a0_3 a0_4).bind fun t174 => (if t174 = true then (impl_OpText.l0 k (([] : List ByteArray)) l0_1 (l0_1.length : Int) 0 a0_0 l0_1 a0_2 a0_3 a0_4) else (some (⟨#[]⟩ : ByteArray)))) = some r := h
 clear h
 obtain ⟨t174, A2, H⟩ := bnd_ H
 by_cases c3 : t174 = true
 ·subst c3
  replace H := ift_ H
  first | ((with_reducible have hz_ := gy_ H); obtain ⟨y175, Ny175, H⟩ := hz_) | (generalize hy_ : ((([] : List ByteArray)) : List ByteArray) = y175 at H; have Ny175 := Aside0.mk hy_.symm; clear hy_)
  have H' := Aside0.mk H
  clear H
  go_enter Tryd.func12, Tryd.ntmps12
  go_wp2_with (first | ((with_reducible refine gate_dst (N := 1) rfl ?_); refine box_event ?hg (N := 1) ?hd (cs := #[.int .i64 a0_0, .slice A0_1 l0_1.length c0_1, .int .i64 a0_2, .int .i64 a0_3, .int .i64 a0_4]) (t := 33) ?hr ?_; (case hd => rfl); (case hg => rfl); (case hr => exact z15_); intro gb173 hg w4 hbox hb; have BK173 := Aside0.mk (hbox); have GW173 := Aside0.mk ((by rw [hg]; exact (below_size z0_) : w.heap.size ≤ gb173)); have GE173 := Aside0.mk ((by rw [hg]; exact (below_size z0_) : w.heap.size ≤ gb173)); replace HB := Aside0.mk (below_step z0_ hb); clear hb hbox hg; obtain ⟨hcz5_0, hcz5_1, hcz5_2, hcz5_3, hcz5_4, hfz5_0, hfz5_1, hfz5_2, hfz5_3, hfz5_4⟩ := bx5_ BK173.out) | ((with_reducible refine gate_callee (f := 32) rfl ?_); refine goesL_ (some 8) rfl rfl Tryd.func32 (by kernel_rfl) rfl #[.agg #[.int .i64 a0_0, .slice A0_1 l0_1.length c0_1, .int .i64 a0_2, .int .i64 a0_3, .int .i64 a0_4]] rfl z1_ ?_; (with_reducible refine (impl_OpOk.calls k a0_0 _ _ l0_1 a0_2 a0_3 a0_4 true _ ?side1 ?side2 A2.out).mono ?_); (case side1 => exact z2_); (case side2 => exact HC0_1.out); rintro e w6 ⟨rfl, hb⟩; refine ⟨_, rfl, ?_⟩; replace BK173 := Aside0.mk (blk_below (g := gb173) (o := .cells #[.int .i64 a0_0, .slice A0_1 l0_1.length c0_1, .int .i64 a0_2, .int .i64 a0_3, .int .i64 a0_4] 33 (0, 0)) z17_ hb); replace HB := Aside0.mk (below_step z5_ hb); (try clear hb)) | ((with_reducible refine gate_dst (N := 10) rfl ?_); refine Kd.R_lit Kd.string _ 9 ?hg (N := 10) ?hd (xs := ([] : List ByteArray)) (inner := []) (ok := fun _ => True) (okp := fun _ => True) ?hr ?hp (fun _ hk => hk) trivial (Below.refl _ _) (Nat.le_refl _) (by simp) ?_; (case hd => rfl); (case hg => rfl); (case hr => exact z15_); (case hp => exact (Reps.none _ _)); intro v176 w7 ho8 hb hg_ hnew_; clear hg_ hnew_; (first | rw [← Ny175.out] at ho8 | (simp only [Int.reduceToNat] at ho8; rw [← Ny175.out] at ho8)); have HO177 := Aside0.mk (Kd.R_lower ho8 (below_size z5_)); replace BK173 := Aside0.mk (blk_below (g := gb173) (o := .cells #[.int .i64 a0_0, .slice A0_1 l0_1.length c0_1, .int .i64 a0_2, .int .i64 a0_3, .int .i64 a0_4] 33 (0, 0)) z17_ hb); replace HB := Aside0.mk (below_step z5_ hb); clear hb ho8; obtain ⟨hcz9_0, hcz9_1, hcz9_2, hcz9_3, hcz9_4, hfz9_0, hfz9_1, hfz9_2, hfz9_3, hfz9_4⟩ := bx5_ BK173.out))
  go_loopg [3, 14] k (fun kq v3 v14 w' => ∃ (x3_1 : List ByteArray) (x14_1 : Int), v14 = .int .i64 x14_1 ∧ Aside0 (impl_OpText.l0 kq x3_1 l0_1 (l0_1.length : Int) x14_1 a0_0 l0_1 a0_2 a0_3 a0_4 = some r) ∧ Aside0 (kq ≤ k) ∧ Aside0 (Kd.R Kd.string 9 w' w.heap.size (fun _ => True) v3 x3_1) ∧ Aside0 (w'.heap[gb173]? = some (.cells #[.int .i64 a0_0, (.slice A0_1 l0_1.length c0_1), .int .i64 a0_2, .int .i64 a0_3, .int .i64 a0_4] 33 (0, 0))) ∧ Aside0 (Below w.heap.size w w'))
  case atStart => exact ⟨(y175), (0), z13_, H', ⟨Nat.le_refl _⟩, ⟨by (with_reducible repeat (first | apply Kd.R_alloc | apply Kd.R_drewN | apply Kd.R_drew)); exact HO177.out⟩, ⟨z17_⟩, ⟨z5_⟩⟩
  case round =>
   clear H'
   try clear c1
   try clear p2
   try clear c3
   try clear hcz5_0
   try clear hcz5_1
   try clear hcz5_2
   try clear hcz5_3
   try clear hcz5_4
   try clear hcz9_0
   try clear hcz9_1
   try clear hcz9_2
   try clear hcz9_3
   try clear hcz9_4
   try clear hfz5_0
   try clear hfz5_1
   try clear hfz5_2
   try clear hfz5_3
   try clear hfz5_4
   try clear hfz9_0
   try clear hfz9_1
   try clear hfz9_2
   try clear hfz9_3
   try clear hfz9_4
   obtain ⟨x3_1, x14_1, rfl, HA, HK1, HO_3, BK173, HB⟩ := hrel
   cases gk with
   | zero => exact absurd HA.out (by simp [impl_OpText.l0])
   | succ k1 =>
    have H := HA.out
    clear HA
    simp only [impl_OpText.l0] at H
    by_cases c10 : x14_1 < (l0_1.length : Int)
    ·rw [if_pos c10] at H
     have c10b0 := decide_eq_true c10
     clear c10
     obtain ⟨c11b0, H⟩ := ifd_ H
     obtain ⟨c12b0, H⟩ := ifd_ H
     obtain ⟨t179, A13, H⟩ := bnd_ H
     obtain ⟨c14, H⟩ := ifs_ H
     have LMc14 := Aside0.mk c14
     clear c14
     first | ((with_reducible have hz_ := gy_ H); obtain ⟨y180, Ny180, H⟩ := hz_) | (generalize hy_ : ((x3_1 ++ [t179]) : List ByteArray) = y180 at H; have Ny180 := Aside0.mk hy_.symm; clear hy_)
     have H' := Aside0.mk H
     clear H
     have p178 : 0 ≤ (x14_1 : Int) := odt_
     have q178 : x14_1 < (l0_1.length : Int) := odt_
     obtain ⟨ad178, e178, hx178_0⟩ := Kd.at_int HR0_1.out x14_1 p178 q178
     cases e178
     replace hx178_0 := (HB.out.cell (World.block_lt_of_cell? w _ hx178_0)).trans hx178_0
     replace p178 := eq_true p178
     replace q178 := eq_true q178
     go_wp2_with (first | ((with_reducible refine gate_callee (f := 25) rfl ?_); refine goesL_ (some 20) rfl rfl Tryd.func25 (by kernel_rfl) rfl #[.int .i64 (rd l0_1 x14_1)] rfl z1_ ?_; (with_reducible refine (impl_Dec.calls k1 (rd l0_1 x14_1) t179 _ A13.out).mono ?_); rintro e w15 ⟨rfl, hb⟩; refine ⟨_, rfl, ?_⟩; replace HO_3 := Aside0.mk (Kd.R_below z22_ hb); replace BK173 := Aside0.mk (blk_below (g := gb173) (o := .cells #[.int .i64 a0_0, .slice (some ad178) l0_1.length c0_1, .int .i64 a0_2, .int .i64 a0_3, .int .i64 a0_4] 33 (0, 0)) z17_ hb); replace HB := Aside0.mk (below_step z5_ hb); (try clear hb)) | ((with_reducible refine gate_builtin (b := .append) (xs := #[.tmp 18, .tmp 21]) rfl ?_); at_builtin; refine Kd.R_append Kd.string (w0 := w) w.heap.size rfl (.tmp 18) (.tmp 21) 47 9 (.string ⟨#[]⟩) 16 rfl Tryd.underlying47 info9 rfl (by decide) (by omega) u3 x3_1 t179 [.string t179] (fun _ => True) (fun _ => False) rfl rfl ?aP (fun _ hk => hk.elim) ?aF ?aO ?aB ?aS ?aL ?_; (case aP => exact rfl); (case aB => exact z5_); (case aF => exact (fun _ _ => trivial)); (case aO => exact z22_); (case aS => exact (below_size z5_)); (case aL => have := LMc14.out; omega); intro v181 w16 ho hb hg hat; rw [← Ny180.out] at ho; replace BK173 := Aside0.mk (blk_grown (g := gb173) (o := .cells #[.int .i64 a0_0, .slice (some ad178) l0_1.length c0_1, .int .i64 a0_2, .int .i64 a0_3, .int .i64 a0_4] 33 (0, 0)) z17_ hg (Kd.R_ne HO_3.out BK173.out (by decide))); replace HB := Aside0.mk (hb); have HO182 := Aside0.mk (ho); clear HO_3; clear ho hb hg hat))
     go_roundg k1
     case measure => have := HK1.out; omega
     case rel => exact ⟨(y180), (wrap64 (x14_1 + 1)), z13_, H', ⟨z44_⟩, ⟨by (with_reducible repeat (first | apply Kd.R_alloc | apply Kd.R_drewN | apply Kd.R_drew)); exact HO182.out⟩, ⟨z17_⟩, ⟨z5_⟩⟩
    ·rw [if_neg c10] at H
     have c10b0 := decide_eq_false c10
     clear c10
     obtain ⟨t183, A17, H⟩ := bnd_ H
     obtain ⟨c18, H⟩ := ifs_ H
     have c18b0 := eq_true c18
     have c18b1 := decide_eq_true c18
     try have c18b2 : (9223372036854775807 < 2 + t183.size) = False := eq_false (Nat.not_lt.2 c18)
     by_cases c19 : a0_0 = 1
     ·rw [if_pos c19] at H
      have c19b0 : (a0_0 == 1) = true := beq_iff_eq.mpr c19
      have c19b1 : (a0_0 != 1) = false := bne_eq_false_iff_eq.mpr c19
      clear c19
      obtain ⟨c20, H⟩ := ifs_ H
      have c20b0 := eq_true c20
      have c20b1 := decide_eq_true c20
      try have c20b2 : (9223372036854775807 < 7 + ((⟨#[32, 46]⟩ : ByteArray) ++ t183).size) = False := eq_false (Nat.not_lt.2 c20)
      have c20s : 7 + (2 + t183.size) ≤ 9223372036854775807 := by have e_ := c20; simp only [ByteArray.size_append] at e_; exact e_
      have c20sb : (9223372036854775807 < 7 + (2 + t183.size)) = False := eq_false (Nat.not_lt.2 c20s)
      obtain ⟨c21, H⟩ := ifs_ H
      have c21b0 := eq_true c21
      have c21b1 := decide_eq_true c21
      try have c21b2 : (9223372036854775807 < ((⟨#[114, 101, 108, 97, 98, 101, 108]⟩ : ByteArray) ++ ((⟨#[32, 46]⟩ : ByteArray) ++ t183)).size + 1) = False := eq_false (Nat.not_lt.2 c21)
      have c21s : 7 + (2 + t183.size) + 1 ≤ 9223372036854775807 := by have e_ := c21; simp only [ByteArray.size_append] at e_; exact e_
      have c21sb : (9223372036854775807 < 7 + (2 + t183.size) + 1) = False := eq_false (Nat.not_lt.2 c21s)
      obtain ⟨t184, A22, H⟩ := bnd_ H
      obtain ⟨c23, H⟩ := ifs_ H
      have c23b0 := eq_true c23
      have c23b1 := decide_eq_true c23
      try have c23b2 : (9223372036854775807 < (((⟨#[114, 101, 108, 97, 98, 101, 108]⟩ : ByteArray) ++ ((⟨#[32, 46]⟩ : ByteArray) ++ t183)) ++ (⟨#[32]⟩ : ByteArray)).size + t184.size) = False := eq_false (Nat.not_lt.2 c23)
      have c23s : 7 + (2 + t183.size) + 1 + t184.size ≤ 9223372036854775807 := by have e_ := c23; simp only [ByteArray.size_append] at e_; exact e_
      have c23sb : (9223372036854775807 < 7 + (2 + t183.size) + 1 + t184.size) = False := eq_false (Nat.not_lt.2 c23s)
      obtain rfl := Option.some.inj H
      obtain ⟨Ao24, co24, eo24⟩ := Kd.R_slice HO_3.out
      subst eo24
      go_wp2_with (first | ((with_reducible refine gate_callee (f := 33) rfl ?_); refine goesL_ (some 25) rfl rfl Tryd.func33 (by kernel_rfl) rfl #[.slice Ao24 x3_1.length co24, .string (⟨#[46]⟩ : ByteArray)] rfl z1_ ?_; (with_reducible refine (strings_Join.calls _ _ x3_1 (⟨#[46]⟩ : ByteArray) t183 _ ?side1 (R_none HO_3.out) ?side2 A17.out).mono ?_); (case side1 => exact z32_); (case side2 => exact (Kd.R_reads' HO_3.out).2.1); rintro e w25 ⟨rfl, hb⟩; refine ⟨_, rfl, ?_⟩; replace HO_3 := Aside0.mk (Kd.R_below z22_ hb); replace BK173 := Aside0.mk (blk_below (g := gb173) (o := .cells #[.int .i64 a0_0, .slice A0_1 l0_1.length c0_1, .int .i64 a0_2, .int .i64 a0_3, .int .i64 a0_4] 33 (0, 0)) z17_ hb); replace HB := Aside0.mk (below_step z5_ hb); (try clear hb); obtain ⟨hcz26_0, hcz26_1, hcz26_2, hcz26_3, hcz26_4, hfz26_0, hfz26_1, hfz26_2, hfz26_3, hfz26_4⟩ := bx5_ BK173.out) | ((with_reducible refine gate_callee (f := 34) rfl ?_); refine goesL_ (some 36) rfl rfl Tryd.func34 (by kernel_rfl) rfl #[.int .i64 a0_2] rfl z1_ ?_; (with_reducible refine (impl_LabelName.calls a0_2 t184 _ A22.out).mono ?_); rintro e w27 ⟨rfl, hb⟩; refine ⟨_, rfl, ?_⟩; replace HO_3 := Aside0.mk (Kd.R_below z22_ hb); replace BK173 := Aside0.mk (blk_below (g := gb173) (o := .cells #[.int .i64 a0_0, .slice A0_1 l0_1.length c0_1, .int .i64 a0_2, .int .i64 a0_3, .int .i64 a0_4] 33 (0, 0)) z17_ hb); replace HB := Aside0.mk (below_step z5_ hb); (try clear hb)))
      go_ret
      exact ⟨z4_, z5_⟩
     ·rw [if_neg c19] at H
      have c19b0 : (a0_0 == 1) = false := beq_eq_false_iff_ne.mpr c19
      have c19b1 : (a0_0 != 1) = true := bne_iff_ne.mpr c19
      by_cases c28 : a0_0 = 2
      ·rw [if_pos c28] at H
       have c28b0 : (a0_0 == 2) = true := beq_iff_eq.mpr c28
       have c28b1 : (a0_0 != 2) = false := bne_eq_false_iff_eq.mpr c28
       clear c28
       obtain ⟨c29, H⟩ := ifs_ H
       have c29b0 := eq_true c29
       have c29b1 := decide_eq_true c29
       try have c29b2 : (9223372036854775807 < 6 + ((⟨#[32, 46]⟩ : ByteArray) ++ t183).size) = False := eq_false (Nat.not_lt.2 c29)
       have c29s : 6 + (2 + t183.size) ≤ 9223372036854775807 := by have e_ := c29; simp only [ByteArray.size_append] at e_; exact e_
       have c29sb : (9223372036854775807 < 6 + (2 + t183.size)) = False := eq_false (Nat.not_lt.2 c29s)
       obtain rfl := Option.some.inj H
       obtain ⟨Ao30, co30, eo30⟩ := Kd.R_slice HO_3.out
       subst eo30
       go_wp2_with (first | ((with_reducible refine gate_callee (f := 33) rfl ?_); refine goesL_ (some 25) rfl rfl Tryd.func33 (by kernel_rfl) rfl #[.slice Ao30 x3_1.length co30, .string (⟨#[46]⟩ : ByteArray)] rfl z1_ ?_; (with_reducible refine (strings_Join.calls _ _ x3_1 (⟨#[46]⟩ : ByteArray) t183 _ ?side1 (R_none HO_3.out) ?side2 A17.out).mono ?_); (case side1 => exact z32_); (case side2 => exact (Kd.R_reads' HO_3.out).2.1); rintro e w31 ⟨rfl, hb⟩; refine ⟨_, rfl, ?_⟩; replace HO_3 := Aside0.mk (Kd.R_below z22_ hb); replace BK173 := Aside0.mk (blk_below (g := gb173) (o := .cells #[.int .i64 a0_0, .slice A0_1 l0_1.length c0_1, .int .i64 a0_2, .int .i64 a0_3, .int .i64 a0_4] 33 (0, 0)) z17_ hb); replace HB := Aside0.mk (below_step z5_ hb); (try clear hb); obtain ⟨hcz32_0, hcz32_1, hcz32_2, hcz32_3, hcz32_4, hfz32_0, hfz32_1, hfz32_2, hfz32_3, hfz32_4⟩ := bx5_ BK173.out))
       go_ret
       exact ⟨z4_, z5_⟩
      ·rw [if_neg c28] at H
       have c28b0 : (a0_0 == 2) = false := beq_eq_false_iff_ne.mpr c28
       have c28b1 : (a0_0 != 2) = true := bne_iff_ne.mpr c28
       obtain ⟨c33, H⟩ := ifs_ H
       have c33b0 := eq_true c33
       have c33b1 := decide_eq_true c33
       try have c33b2 : (9223372036854775807 < 6 + ((⟨#[32, 46]⟩ : ByteArray) ++ t183).size) = False := eq_false (Nat.not_lt.2 c33)
       have c33s : 6 + (2 + t183.size) ≤ 9223372036854775807 := by have e_ := c33; simp only [ByteArray.size_append] at e_; exact e_
       have c33sb : (9223372036854775807 < 6 + (2 + t183.size)) = False := eq_false (Nat.not_lt.2 c33s)
       obtain ⟨c34, H⟩ := ifs_ H
       have c34b0 := eq_true c34
       have c34b1 := decide_eq_true c34
       try have c34b2 : (9223372036854775807 < ((⟨#[105, 110, 115, 101, 114, 116]⟩ : ByteArray) ++ ((⟨#[32, 46]⟩ : ByteArray) ++ t183)).size + 1) = False := eq_false (Nat.not_lt.2 c34)
       have c34s : 6 + (2 + t183.size) + 1 ≤ 9223372036854775807 := by have e_ := c34; simp only [ByteArray.size_append] at e_; exact e_
       have c34sb : (9223372036854775807 < 6 + (2 + t183.size) + 1) = False := eq_false (Nat.not_lt.2 c34s)
       obtain ⟨t185, A35, H⟩ := bnd_ H
       obtain ⟨c36, H⟩ := ifs_ H
       have c36b0 := eq_true c36
       have c36b1 := decide_eq_true c36
       try have c36b2 : (9223372036854775807 < (((⟨#[105, 110, 115, 101, 114, 116]⟩ : ByteArray) ++ ((⟨#[32, 46]⟩ : ByteArray) ++ t183)) ++ (⟨#[32]⟩ : ByteArray)).size + t185.size) = False := eq_false (Nat.not_lt.2 c36)
       have c36s : 6 + (2 + t183.size) + 1 + t185.size ≤ 9223372036854775807 := by have e_ := c36; simp only [ByteArray.size_append] at e_; exact e_
       have c36sb : (9223372036854775807 < 6 + (2 + t183.size) + 1 + t185.size) = False := eq_false (Nat.not_lt.2 c36s)
       obtain ⟨c37, H⟩ := ifs_ H
       have c37b0 := eq_true c37
       have c37b1 := decide_eq_true c37
       try have c37b2 : (9223372036854775807 < ((((⟨#[105, 110, 115, 101, 114, 116]⟩ : ByteArray) ++ ((⟨#[32, 46]⟩ : ByteArray) ++ t183)) ++ (⟨#[32]⟩ : ByteArray)) ++ t185).size + 1) = False := eq_false (Nat.not_lt.2 c37)
       have c37s : 6 + (2 + t183.size) + 1 + t185.size + 1 ≤ 9223372036854775807 := by have e_ := c37; simp only [ByteArray.size_append] at e_; exact e_
       have c37sb : (9223372036854775807 < 6 + (2 + t183.size) + 1 + t185.size + 1) = False := eq_false (Nat.not_lt.2 c37s)
       obtain ⟨t186, A38, H⟩ := bnd_ H
       obtain ⟨c39, H⟩ := ifs_ H
       have c39b0 := eq_true c39
       have c39b1 := decide_eq_true c39
       try have c39b2 : (9223372036854775807 < (((((⟨#[105, 110, 115, 101, 114, 116]⟩ : ByteArray) ++ ((⟨#[32, 46]⟩ : ByteArray) ++ t183)) ++ (⟨#[32]⟩ : ByteArray)) ++ t185) ++ (⟨#[32]⟩ : ByteArray)).size + t186.size) = False := eq_false (Nat.not_lt.2 c39)
       have c39s : 6 + (2 + t183.size) + 1 + t185.size + 1 + t186.size ≤ 9223372036854775807 := by have e_ := c39; simp only [ByteArray.size_append] at e_; exact e_
       have c39sb : (9223372036854775807 < 6 + (2 + t183.size) + 1 + t185.size + 1 + t186.size) = False := eq_false (Nat.not_lt.2 c39s)
       obtain ⟨c40, H⟩ := ifs_ H
       have c40b0 := eq_true c40
       have c40b1 := decide_eq_true c40
       try have c40b2 : (9223372036854775807 < ((((((⟨#[105, 110, 115, 101, 114, 116]⟩ : ByteArray) ++ ((⟨#[32, 46]⟩ : ByteArray) ++ t183)) ++ (⟨#[32]⟩ : ByteArray)) ++ t185) ++ (⟨#[32]⟩ : ByteArray)) ++ t186).size + 1) = False := eq_false (Nat.not_lt.2 c40)
       have c40s : 6 + (2 + t183.size) + 1 + t185.size + 1 + t186.size + 1 ≤ 9223372036854775807 := by have e_ := c40; simp only [ByteArray.size_append] at e_; exact e_
       have c40sb : (9223372036854775807 < 6 + (2 + t183.size) + 1 + t185.size + 1 + t186.size + 1) = False := eq_false (Nat.not_lt.2 c40s)
       obtain ⟨t187, A41, H⟩ := bnd_ H
       obtain ⟨c42, H⟩ := ifs_ H
       have c42b0 := eq_true c42
       have c42b1 := decide_eq_true c42
       try have c42b2 : (9223372036854775807 < (((((((⟨#[105, 110, 115, 101, 114, 116]⟩ : ByteArray) ++ ((⟨#[32, 46]⟩ : ByteArray) ++ t183)) ++ (⟨#[32]⟩ : ByteArray)) ++ t185) ++ (⟨#[32]⟩ : ByteArray)) ++ t186) ++ (⟨#[32]⟩ : ByteArray)).size + t187.size) = False := eq_false (Nat.not_lt.2 c42)
       have c42s : 6 + (2 + t183.size) + 1 + t185.size + 1 + t186.size + 1 + t187.size ≤ 9223372036854775807 := by have e_ := c42; simp only [ByteArray.size_append] at e_; exact e_
       have c42sb : (9223372036854775807 < 6 + (2 + t183.size) + 1 + t185.size + 1 + t186.size + 1 + t187.size) = False := eq_false (Nat.not_lt.2 c42s)
       obtain rfl := Option.some.inj H
       obtain ⟨Ao43, co43, eo43⟩ := Kd.R_slice HO_3.out
       subst eo43
       try go_wp2_with (first | ((with_reducible refine gate_callee (f := 33) rfl ?_); refine goesL_ (some 25) rfl rfl Tryd.func33 (by kernel_rfl) rfl #[.slice Ao43 x3_1.length co43, .string (⟨#[46]⟩ : ByteArray)] rfl z1_ ?_; (with_reducible refine (strings_Join.calls _ _ x3_1 (⟨#[46]⟩ : ByteArray) t183 _ ?side1 (R_none HO_3.out) ?side2 A17.out).mono ?_); (case side1 => exact z32_); (case side2 => exact (Kd.R_reads' HO_3.out).2.1); rintro e w44 ⟨rfl, hb⟩; refine ⟨_, rfl, ?_⟩; replace HO_3 := Aside0.mk (Kd.R_below z22_ hb); replace BK173 := Aside0.mk (blk_below (g := gb173) (o := .cells #[.int .i64 a0_0, .slice A0_1 l0_1.length c0_1, .int .i64 a0_2, .int .i64 a0_3, .int .i64 a0_4] 33 (0, 0)) z17_ hb); replace HB := Aside0.mk (below_step z5_ hb); (try clear hb); obtain ⟨hcz45_0, hcz45_1, hcz45_2, hcz45_3, hcz45_4, hfz45_0, hfz45_1, hfz45_2, hfz45_3, hfz45_4⟩ := bx5_ BK173.out))
       have n0_ := Aside0.mk (Kd.R_drew HO_3.out)
       have n1_ := Aside0.mk (blk_drew BK173.out)
       have n2_ := Aside0.mk (below_drew1 HB.out)
       clear HO_3
       clear BK173
       clear HB
       have HO_3 := n0_
       have BK173 := n1_
       have HB := n2_
       clear n0_ n1_ n2_
       refine start_ (n := 18) (S := fun w' => w'.cell? ⟨gb173, 0, none⟩ = some (.int .i64 a0_0) ∧ w'.cell? ⟨gb173, 1, none⟩ = some (.slice A0_1 l0_1.length c0_1) ∧ w'.cell? ⟨gb173, 2, none⟩ = some (.int .i64 a0_2) ∧ w'.cell? ⟨gb173, 3, none⟩ = some (.int .i64 a0_3) ∧ w'.cell? ⟨gb173, 4, none⟩ = some (.int .i64 a0_4)) (ds := []) (fl_ 18 0) (by kernel_rfl) rfl (fl_zero _) ⟨(blk_cell BK173.out 0).trans rfl, (blk_cell BK173.out 1).trans rfl, (blk_cell BK173.out 2).trans rfl, (blk_cell BK173.out 3).trans rfl, (blk_cell BK173.out 4).trans rfl⟩ (fun hHeld => ?_); refine with_tabW impl_OpText.tab15 impl_OpText.bits15 (fun HT_ HW_ => ?_)
       generalize w44.drew = w46 at HO_3 BK173 HB hHeld ⊢
       iterate 4 refine zp_ HT_ rfl rfl (by kernel_rfl) (fun _ _ _ h => h) (by rfl) ?_
       refine zpg_ (i := 8) (ra_ [4, 4, 1, 9]) HT_ rfl rfl (by kernel_rfl) (fun _ _ _ h => h) (by rfl) ?_
       refine zpg_ (i := 13) (ra_ [4, 4, 1, 4, 1, 4]) HT_ rfl rfl (by kernel_rfl) (fun _ _ _ h => h) (by rfl) ?_
       refine ztg_ (i := 4) (ra_ [5, 3, 1, 4, 1, 4]) HT_ HW_ rfl rfl (by kernel_rfl) (fun _ _ _ h => h) (by rfl) hHeld ?_ z39_
       refine ztg_ (i := 9) (ra_ [5, 3, 2, 3, 1, 4]) HT_ HW_ rfl rfl (by kernel_rfl) (fun _ _ _ h => h) (by rfl) hHeld ?_ z39_
       refine ztg_ (i := 14) (ra_ [5, 3, 2, 3, 2, 3]) HT_ HW_ rfl rfl (by kernel_rfl) (fun _ _ _ h => h) (by rfl) hHeld ?_ z39_
       refine one_ (i := 5) (N := some 47) (ra_ [6, 2, 2, 3, 2, 3]) rfl rfl (one_of HT_.out (by kernel_rfl)) (by decide) (fun K hK => ?_)
       refine goes_ Tryd.func34 (by kernel_rfl) rfl #[.int .i64 a0_2] (by rfl) rfl rfl z1_ ?_
       with_reducible refine (impl_LabelName.calls a0_2 t185 _ A35.out).mono ?_
       rintro e w47 ⟨rfl, hb⟩
       refine ⟨_, rfl, ?_⟩
       have n0_ := Aside0.mk (Kd.R_below z22_ hb)
       have n1_ := Aside0.mk (blk_below (g := gb173) (o := .cells #[.int .i64 a0_0, .slice A0_1 l0_1.length c0_1, .int .i64 a0_2, .int .i64 a0_3, .int .i64 a0_4] 33 (0, 0)) z17_ hb)
       have n2_ := Aside0.mk (below_step z5_ hb)
       clear HO_3
       clear BK173
       clear HB
       have HO_3 := n0_
       have BK173 := n1_
       have HB := n2_
       clear n0_ n1_ n2_
       (try clear hb)
       (try clear hb2)
       (try clear hk)
       (try clear hi)
       refine hK.out _ _ ⟨(blk_cell BK173.out 0).trans rfl, (blk_cell BK173.out 1).trans rfl, (blk_cell BK173.out 2).trans rfl, (blk_cell BK173.out 3).trans rfl, (blk_cell BK173.out 4).trans rfl⟩ (fun hHeld => ?_)
       clear hK K
       refine zn_ rfl ?_
       refine zpg_ (i := 6) (ra_ [7, 1, 2, 3, 2, 3]) HT_ rfl rfl (by kernel_rfl) (fun _ _ _ h => h) (by rfl) ?_
       refine zpg_ (i := 7) (ra_ [10, 3, 2, 3]) HT_ rfl rfl (by kernel_rfl) (fun _ _ _ h => h) (by rfl) ?_
       refine one_ (i := 10) (N := some 52) (ra_ [11, 2, 2, 3]) rfl rfl (one_of HT_.out (by kernel_rfl)) (by decide) (fun K hK => ?_)
       refine goes_ Tryd.func25 (by kernel_rfl) rfl #[.int .i64 a0_3] (by rfl) rfl rfl z1_ ?_
       with_reducible refine (impl_Dec.calls k1 a0_3 t186 _ A38.out).mono ?_
       rintro e w48 ⟨rfl, hb⟩
       refine ⟨_, rfl, ?_⟩
       have n0_ := Aside0.mk (Kd.R_below z22_ hb)
       have n1_ := Aside0.mk (blk_below (g := gb173) (o := .cells #[.int .i64 a0_0, .slice A0_1 l0_1.length c0_1, .int .i64 a0_2, .int .i64 a0_3, .int .i64 a0_4] 33 (0, 0)) z17_ hb)
       have n2_ := Aside0.mk (below_step z5_ hb)
       clear HO_3
       clear BK173
       clear HB
       have HO_3 := n0_
       have BK173 := n1_
       have HB := n2_
       clear n0_ n1_ n2_
       (try clear hb)
       (try clear hb2)
       (try clear hk)
       (try clear hi)
       refine hK.out _ _ ⟨(blk_cell BK173.out 0).trans rfl, (blk_cell BK173.out 1).trans rfl, (blk_cell BK173.out 2).trans rfl, (blk_cell BK173.out 3).trans rfl, (blk_cell BK173.out 4).trans rfl⟩ (fun hHeld => ?_)
       clear hK K
       refine zn_ rfl ?_
       refine zpg_ (i := 11) (ra_ [12, 1, 2, 3]) HT_ rfl rfl (by kernel_rfl) (fun _ _ _ h => h) (by rfl) ?_
       refine zpg_ (i := 12) (fl_ 18 15) HT_ rfl rfl (by kernel_rfl) (fun _ _ _ h => h) (by rfl) ?_
       refine one_ (i := 15) (N := some 57) (fl_ 18 16) rfl rfl (one_of HT_.out (by kernel_rfl)) (by decide) (fun K hK => ?_)
       refine goes_ Tryd.func25 (by kernel_rfl) rfl #[.int .i64 a0_4] (by rfl) rfl rfl z1_ ?_
       with_reducible refine (impl_Dec.calls k1 a0_4 t187 _ A41.out).mono ?_
       rintro e w49 ⟨rfl, hb⟩
       refine ⟨_, rfl, ?_⟩
       have n0_ := Aside0.mk (Kd.R_below z22_ hb)
       have n1_ := Aside0.mk (blk_below (g := gb173) (o := .cells #[.int .i64 a0_0, .slice A0_1 l0_1.length c0_1, .int .i64 a0_2, .int .i64 a0_3, .int .i64 a0_4] 33 (0, 0)) z17_ hb)
       have n2_ := Aside0.mk (below_step z5_ hb)
       clear HO_3
       clear BK173
       clear HB
       have HO_3 := n0_
       have BK173 := n1_
       have HB := n2_
       clear n0_ n1_ n2_
       (try clear hb)
       (try clear hb2)
       (try clear hk)
       (try clear hi)
       refine hK.out _ _ ⟨(blk_cell BK173.out 0).trans rfl, (blk_cell BK173.out 1).trans rfl, (blk_cell BK173.out 2).trans rfl, (blk_cell BK173.out 3).trans rfl, (blk_cell BK173.out 4).trans rfl⟩ (fun hHeld => ?_)
       clear hK K
       refine zn_ rfl ?_
       iterate 2 refine zp_ HT_ rfl rfl (by kernel_rfl) (fun _ _ _ h => h) (by rfl) ?_
       refine done_ (done_of HT_.out (by kernel_rfl)) ?_
       try go_wp2
       go_ret
       exact ⟨z4_, z5_⟩
 ·replace c3 := Bool.eq_false_iff.mpr c3
  subst c3
  replace H := iff_ H
  obtain rfl := Option.some.inj H
  go_enter Tryd.func12, Tryd.ntmps12
  go_wp2_with (first | ((with_reducible refine gate_dst (N := 1) rfl ?_); refine box_event ?hg (N := 1) ?hd (cs := #[.int .i64 a0_0, .slice A0_1 l0_1.length c0_1, .int .i64 a0_2, .int .i64 a0_3, .int .i64 a0_4]) (t := 33) ?hr ?_; (case hd => rfl); (case hg => rfl); (case hr => exact z15_); intro gb173 hg w50 hbox hb; have BK173 := Aside0.mk (hbox); have GW173 := Aside0.mk ((by rw [hg]; exact (below_size z0_) : w.heap.size ≤ gb173)); have GE173 := Aside0.mk ((by rw [hg]; exact (below_size z0_) : w.heap.size ≤ gb173)); replace HB := Aside0.mk (below_step z0_ hb); clear hb hbox hg; obtain ⟨hcz51_0, hcz51_1, hcz51_2, hcz51_3, hcz51_4, hfz51_0, hfz51_1, hfz51_2, hfz51_3, hfz51_4⟩ := bx5_ BK173.out) | ((with_reducible refine gate_callee (f := 32) rfl ?_); refine goesL_ (some 8) rfl rfl Tryd.func32 (by kernel_rfl) rfl #[.agg #[.int .i64 a0_0, .slice A0_1 l0_1.length c0_1, .int .i64 a0_2, .int .i64 a0_3, .int .i64 a0_4]] rfl z1_ ?_; (with_reducible refine (impl_OpOk.calls k a0_0 _ _ l0_1 a0_2 a0_3 a0_4 false _ ?side1 ?side2 A2.out).mono ?_); (case side1 => exact z2_); (case side2 => exact HC0_1.out); rintro e w52 ⟨rfl, hb⟩; refine ⟨_, rfl, ?_⟩; replace BK173 := Aside0.mk (blk_below (g := gb173) (o := .cells #[.int .i64 a0_0, .slice A0_1 l0_1.length c0_1, .int .i64 a0_2, .int .i64 a0_3, .int .i64 a0_4] 33 (0, 0)) z17_ hb); replace HB := Aside0.mk (below_step z5_ hb); (try clear hb)))
  go_ret
  exact ⟨z4_, z5_⟩

/-! ### laws_eqIntS: function 35 -/
def laws_eqIntS.l0 : Nat → List Int → List Int → Int → Option (Bool)
 | 0, _, _, _ => none
 | k + 1, x0, x1, x5 => if x5 < (x0.length : Int) then (if 0 ≤ x5 then (if x5 < (x1.length : Int) then (if (rd x0 x5) = (rd x1 x5) then (laws_eqIntS.l0 k x0 x1 (wrap64 (x5 + 1))) else (some false)) else (none)) else (none)) else (some true)
def laws_eqIntS.f (k : Nat) (l0 : List Int) (l1 : List Int) : Option (Bool) := if (l0.length : Int) = (l1.length : Int) then (laws_eqIntS.l0 k l0 l1 0) else (some false)
set_option maxHeartbeats 8000000 in
set_option maxRecDepth 100000 in
theorem laws_eqIntS.calls (k : Nat) (A0 : Option Addr) (c0 : Nat) (l0 : List Int) (A1 : Option Addr) (c1 : Nat) (l1 : List Int) (r : Bool) (w : World) (hr0 : Kd.C (Kd.int .i64) w A0 l0.length l0) (hc0 : l0.length ≤ c0) (hr1 : Kd.C (Kd.int .i64) w A1 l1.length l1) (hc1 : l1.length ≤ c1) (h : laws_eqIntS.f k l0 l1 = some r) :
  Calls Tryd.prog 35 #[.slice A0 l0.length c0, .slice A1 l1.length c1] w fun e w' => e = .returned (.bool r) ∧ Drawn0 w w' := by
 have HR0 := Aside0.mk hr0
 have HC0 := Aside0.mk hc0
 clear hr0 hc0
 have HR1 := Aside0.mk hr1
 have HC1 := Aside0.mk hc1
 clear hr1 hc1
 have H : (if (l0.length : Int) = (l1.length : Int) then (laws_eqIntS.l0 k l0 l1 0) else (some false)) = some r := h
 clear h
 by_cases c3 : (l0.length : Int) = (l1.length : Int)
 ·rw [if_pos c3] at H
  have c3b0 : ((l0.length : Int) == (l1.length : Int)) = true := beq_iff_eq.mpr c3
  have c3b1 : ((l0.length : Int) != (l1.length : Int)) = false := bne_eq_false_iff_eq.mpr c3
  have c3b2 : (l0.length == l1.length) = true := by first | simpa using c3 | (simp at c3 ⊢; omega)
  clear c3
  have H' := Aside0.mk H
  clear H
  go_enter Tryd.func35, Tryd.ntmps35
  go_wp2
  repeat (go_quiet (fail); try go_wp2)
  go_loopg [5] k (fun kq v5 w' => ∃ (x5_1 : Int), v5 = .int .i64 x5_1 ∧ Aside0 (laws_eqIntS.l0 kq l0 l1 x5_1 = some r) ∧ Aside0 (kq ≤ k) ∧ Drawn0 w w')
  case atStart => exact ⟨(0), z13_, H', ⟨Nat.le_refl _⟩, z19_⟩
  case round =>
   clear H'
   try clear c1
   try clear p2
   try clear c3
   try clear c3b0
   try clear c3b1
   try clear c3b2
   obtain ⟨x5_1, rfl, HA, HK1, ⟨m1, rfl⟩⟩ := hrel
   cases gk with
   | zero => exact absurd HA.out (by simp [laws_eqIntS.l0])
   | succ k1 =>
    have H := HA.out
    clear HA
    simp only [laws_eqIntS.l0] at H
    by_cases c4 : x5_1 < (l0.length : Int)
    ·rw [if_pos c4] at H
     have c4b0 := decide_eq_true c4
     clear c4
     obtain ⟨c5b0, H⟩ := ifd_ H
     obtain ⟨c6b0, H⟩ := ifd_ H
     by_cases c7 : (rd l0 x5_1) = (rd l1 x5_1)
     ·rw [if_pos c7] at H
      have c7b0 : ((rd l0 x5_1) == (rd l1 x5_1)) = true := beq_iff_eq.mpr c7
      have c7b1 : ((rd l0 x5_1) != (rd l1 x5_1)) = false := bne_eq_false_iff_eq.mpr c7
      clear c7
      have H' := Aside0.mk H
      clear H
      have p188 : 0 ≤ (x5_1 : Int) := odt_
      have q188 : x5_1 < (l0.length : Int) := odt_
      obtain ⟨ad188, e188, hx188_0⟩ := Kd.at_int HR0.out x5_1 p188 q188
      cases e188
      replace p188 := eq_true p188
      replace q188 := eq_true q188
      have p189 : 0 ≤ (x5_1 : Int) := odt_
      have q189 : x5_1 < (l1.length : Int) := odt_
      obtain ⟨ad189, e189, hx189_0⟩ := Kd.at_int HR1.out x5_1 p189 q189
      cases e189
      replace p189 := eq_true p189
      replace q189 := eq_true q189
      go_wp2
      repeat (go_quiet (fail); try go_wp2)
      go_roundg k1
      case measure => have := HK1.out; omega
      case rel => exact ⟨(wrap64 (x5_1 + 1)), z13_, H', ⟨z44_⟩, z19_⟩
     ·rw [if_neg c7] at H
      have c7b0 : ((rd l0 x5_1) == (rd l1 x5_1)) = false := beq_eq_false_iff_ne.mpr c7
      have c7b1 : ((rd l0 x5_1) != (rd l1 x5_1)) = true := bne_iff_ne.mpr c7
      obtain rfl := Option.some.inj H
      have p188 : 0 ≤ (x5_1 : Int) := odt_
      have q188 : x5_1 < (l0.length : Int) := odt_
      obtain ⟨ad188, e188, hx188_0⟩ := Kd.at_int HR0.out x5_1 p188 q188
      cases e188
      replace p188 := eq_true p188
      replace q188 := eq_true q188
      have p189 : 0 ≤ (x5_1 : Int) := odt_
      have q189 : x5_1 < (l1.length : Int) := odt_
      obtain ⟨ad189, e189, hx189_0⟩ := Kd.at_int HR1.out x5_1 p189 q189
      cases e189
      replace p189 := eq_true p189
      replace q189 := eq_true q189
      go_wp2
      repeat (go_quiet (fail); try go_wp2)
      go_ret
      exact ⟨z13_, z19_⟩
    ·rw [if_neg c4] at H
     have c4b0 := decide_eq_false c4
     clear c4
     obtain rfl := Option.some.inj H
     go_wp2
     repeat (go_quiet (fail); try go_wp2)
     go_ret
     exact ⟨z13_, z19_⟩
 ·rw [if_neg c3] at H
  have c3b0 : ((l0.length : Int) == (l1.length : Int)) = false := beq_eq_false_iff_ne.mpr c3
  have c3b1 : ((l0.length : Int) != (l1.length : Int)) = true := bne_iff_ne.mpr c3
  have c3b2 : (l0.length == l1.length) = false := by first | simpa using c3 | (simp at c3 ⊢; omega)
  obtain rfl := Option.some.inj H
  go_enter Tryd.func35, Tryd.ntmps35
  go_wp2
  repeat (go_quiet (fail); try go_wp2)
  go_ret
  exact ⟨z13_, z19_⟩

/-! ### laws_eqOp: function 13 -/
def laws_eqOp.f (k : Nat) (a0_0 : Int) (l0_1 : List Int) (a0_2 : Int) (a0_3 : Int) (a0_4 : Int) (a1_0 : Int) (l1_1 : List Int) (a1_2 : Int) (a1_3 : Int) (a1_4 : Int) : Option (Bool) := if a0_0 = a1_0 then ((laws_eqIntS.f k l0_1 l1_1).bind fun t192 => (if t192 = true then (if a0_2 = a1_2 then (if a0_3 = a1_3 then (if a0_4 = a1_4 then (some true) else (some false)) else (some false)) else (some false)) else (some false))) else (some false)
set_option maxHeartbeats 8000000 in
set_option maxRecDepth 100000 in
theorem laws_eqOp.calls (k : Nat) (a0_0 : Int) (A0_1 : Option Addr) (c0_1 : Nat) (l0_1 : List Int) (a0_2 : Int) (a0_3 : Int) (a0_4 : Int) (a1_0 : Int) (A1_1 : Option Addr) (c1_1 : Nat) (l1_1 : List Int) (a1_2 : Int) (a1_3 : Int) (a1_4 : Int) (r : Bool) (w : World) (hr0_1 : Kd.C (Kd.int .i64) w A0_1 l0_1.length l0_1) (hc0_1 : l0_1.length ≤ c0_1) (hr1_1 : Kd.C (Kd.int .i64) w A1_1 l1_1.length l1_1) (hc1_1 : l1_1.length ≤ c1_1) (h : laws_eqOp.f k a0_0 l0_1 a0_2 a0_3 a0_4 a1_0 l1_1 a1_2 a1_3 a1_4 = some r) :
  Calls Tryd.prog 13 #[.agg #[.int .i64 a0_0, .slice A0_1 l0_1.length c0_1, .int .i64 a0_2, .int .i64 a0_3, .int .i64 a0_4], .agg #[.int .i64 a1_0, .slice A1_1 l1_1.length c1_1, .int .i64 a1_2, .int .i64 a1_3, .int .i64 a1_4]] w fun e w' => e = .returned (.bool r) ∧ Below w.heap.size w w' := by
 have hu33 := Tryd.underlying33
 have HR0_1 := Aside0.mk hr0_1
 have HC0_1 := Aside0.mk hc0_1
 clear hr0_1 hc0_1
 have HR1_1 := Aside0.mk hr1_1
 have HC1_1 := Aside0.mk hc1_1
 clear hr1_1 hc1_1
 have HB := Aside0.mk (Below.refl w.heap.size w)
 have H : (if a0_0 = a1_0 then ((laws_eqIntS.f k l0_1 l1_1).bind fun t192 => (if t192 = true then (if a0_2 = a1_2 then (if a0_3 = a1_3 then (if a0_4 = a1_4 then (some true) else (some false)) else (some false)) else (some false)) else (some false))) else (some false)) = some r := h
 clear h
 by_cases c3 : a0_0 = a1_0
 ·rw [if_pos c3] at H
  have c3b0 : (a0_0 == a1_0) = true := beq_iff_eq.mpr c3
  have c3b1 : (a0_0 != a1_0) = false := bne_eq_false_iff_eq.mpr c3
  clear c3
  obtain ⟨t192, A4, H⟩ := bnd_ H
  by_cases c5 : t192 = true
  ·subst c5
   replace H := ift_ H
   by_cases c6 : a0_2 = a1_2
   ·rw [if_pos c6] at H
    have c6b0 : (a0_2 == a1_2) = true := beq_iff_eq.mpr c6
    have c6b1 : (a0_2 != a1_2) = false := bne_eq_false_iff_eq.mpr c6
    clear c6
    by_cases c7 : a0_3 = a1_3
    ·rw [if_pos c7] at H
     have c7b0 : (a0_3 == a1_3) = true := beq_iff_eq.mpr c7
     have c7b1 : (a0_3 != a1_3) = false := bne_eq_false_iff_eq.mpr c7
     clear c7
     by_cases c8 : a0_4 = a1_4
     ·rw [if_pos c8] at H
      have c8b0 : (a0_4 == a1_4) = true := beq_iff_eq.mpr c8
      have c8b1 : (a0_4 != a1_4) = false := bne_eq_false_iff_eq.mpr c8
      clear c8
      obtain rfl := Option.some.inj H
      go_enter Tryd.func13, Tryd.ntmps13
      go_wp2_with (first | ((with_reducible refine gate_dst (N := 2) rfl ?_); refine box_event ?hg (N := 2) ?hd (cs := #[.int .i64 a0_0, .slice A0_1 l0_1.length c0_1, .int .i64 a0_2, .int .i64 a0_3, .int .i64 a0_4]) (t := 33) ?hr ?_; (case hd => rfl); (case hg => rfl); (case hr => exact z15_); intro gb190 hg w9 hbox hb; have BK190 := Aside0.mk (hbox); have GW190 := Aside0.mk ((by rw [hg]; exact (below_size z0_) : w.heap.size ≤ gb190)); have GE190 := Aside0.mk ((by rw [hg]; exact (below_size z0_) : w.heap.size ≤ gb190)); replace HB := Aside0.mk (below_step z0_ hb); clear hb hbox hg) | ((with_reducible refine gate_dst (N := 3) rfl ?_); refine box_event ?hg (N := 3) ?hd (cs := #[.int .i64 a1_0, .slice A1_1 l1_1.length c1_1, .int .i64 a1_2, .int .i64 a1_3, .int .i64 a1_4]) (t := 33) ?hr ?_; (case hd => rfl); (case hg => rfl); (case hr => exact z15_); intro gb191 hg w10 hbox hb; have BK191 := Aside0.mk (hbox); have GW191 := Aside0.mk ((by rw [hg]; exact (below_size z7_) : w.heap.size ≤ gb191)); have GE191 := Aside0.mk ((by rw [hg]; exact (below_size z7_) : w.heap.size ≤ gb191)); replace HB := Aside0.mk (below_step z7_ hb); have NB190_191 := Aside0.mk ((by rw [hg]; exact Nat.ne_of_lt (blk_lt (g := gb190) (o := .cells #[.int .i64 a0_0, .slice A0_1 l0_1.length c0_1, .int .i64 a0_2, .int .i64 a0_3, .int .i64 a0_4] 33 (0, 0)) z12_) : gb190 ≠ gb191)); have NB191_190 := Aside0.mk ((by rw [hg]; exact Nat.ne_of_gt (blk_lt (g := gb190) (o := .cells #[.int .i64 a0_0, .slice A0_1 l0_1.length c0_1, .int .i64 a0_2, .int .i64 a0_3, .int .i64 a0_4] 33 (0, 0)) z12_) : gb191 ≠ gb190)); replace BK190 := Aside0.mk (blk_below (g := gb190) (o := .cells #[.int .i64 a0_0, .slice A0_1 l0_1.length c0_1, .int .i64 a0_2, .int .i64 a0_3, .int .i64 a0_4] 33 (0, 0)) z12_ hb); clear hb hbox hg; have hnb11 := NB190_191.out; have hnc11 := NB191_190.out; obtain ⟨hcz12_0, hcz12_1, hcz12_2, hcz12_3, hcz12_4, hfz12_0, hfz12_1, hfz12_2, hfz12_3, hfz12_4⟩ := bx5_ BK190.out; obtain ⟨hcz13_0, hcz13_1, hcz13_2, hcz13_3, hcz13_4, hfz13_0, hfz13_1, hfz13_2, hfz13_3, hfz13_4⟩ := bx5_ BK191.out) | ((with_reducible refine gate_callee (f := 35) rfl ?_); refine goesL_ (some 14) rfl rfl Tryd.func35 (by kernel_rfl) rfl #[.slice A0_1 l0_1.length c0_1, .slice A1_1 l1_1.length c1_1] rfl z1_ ?_; (with_reducible refine (laws_eqIntS.calls k _ _ l0_1 _ _ l1_1 true _ ?side1 ?side2 ?side3 ?side4 A4.out).mono ?_); (case side1 => exact z2_); (case side2 => exact HC0_1.out); (case side3 => exact z28_); (case side4 => exact HC1_1.out); rintro e w' ⟨rfl, ⟨nd, rfl⟩⟩; refine ⟨_, rfl, ?_⟩))
      go_ret
      exact ⟨z4_, z21_⟩
     ·rw [if_neg c8] at H
      have c8b0 : (a0_4 == a1_4) = false := beq_eq_false_iff_ne.mpr c8
      have c8b1 : (a0_4 != a1_4) = true := bne_iff_ne.mpr c8
      obtain rfl := Option.some.inj H
      go_enter Tryd.func13, Tryd.ntmps13
      go_wp2_with (first | ((with_reducible refine gate_dst (N := 2) rfl ?_); refine box_event ?hg (N := 2) ?hd (cs := #[.int .i64 a0_0, .slice A0_1 l0_1.length c0_1, .int .i64 a0_2, .int .i64 a0_3, .int .i64 a0_4]) (t := 33) ?hr ?_; (case hd => rfl); (case hg => rfl); (case hr => exact z15_); intro gb190 hg w14 hbox hb; have BK190 := Aside0.mk (hbox); have GW190 := Aside0.mk ((by rw [hg]; exact (below_size z0_) : w.heap.size ≤ gb190)); have GE190 := Aside0.mk ((by rw [hg]; exact (below_size z0_) : w.heap.size ≤ gb190)); replace HB := Aside0.mk (below_step z0_ hb); clear hb hbox hg) | ((with_reducible refine gate_dst (N := 3) rfl ?_); refine box_event ?hg (N := 3) ?hd (cs := #[.int .i64 a1_0, .slice A1_1 l1_1.length c1_1, .int .i64 a1_2, .int .i64 a1_3, .int .i64 a1_4]) (t := 33) ?hr ?_; (case hd => rfl); (case hg => rfl); (case hr => exact z15_); intro gb191 hg w15 hbox hb; have BK191 := Aside0.mk (hbox); have GW191 := Aside0.mk ((by rw [hg]; exact (below_size z7_) : w.heap.size ≤ gb191)); have GE191 := Aside0.mk ((by rw [hg]; exact (below_size z7_) : w.heap.size ≤ gb191)); replace HB := Aside0.mk (below_step z7_ hb); have NB190_191 := Aside0.mk ((by rw [hg]; exact Nat.ne_of_lt (blk_lt (g := gb190) (o := .cells #[.int .i64 a0_0, .slice A0_1 l0_1.length c0_1, .int .i64 a0_2, .int .i64 a0_3, .int .i64 a0_4] 33 (0, 0)) z12_) : gb190 ≠ gb191)); have NB191_190 := Aside0.mk ((by rw [hg]; exact Nat.ne_of_gt (blk_lt (g := gb190) (o := .cells #[.int .i64 a0_0, .slice A0_1 l0_1.length c0_1, .int .i64 a0_2, .int .i64 a0_3, .int .i64 a0_4] 33 (0, 0)) z12_) : gb191 ≠ gb190)); replace BK190 := Aside0.mk (blk_below (g := gb190) (o := .cells #[.int .i64 a0_0, .slice A0_1 l0_1.length c0_1, .int .i64 a0_2, .int .i64 a0_3, .int .i64 a0_4] 33 (0, 0)) z12_ hb); clear hb hbox hg; have hnb16 := NB190_191.out; have hnc16 := NB191_190.out; obtain ⟨hcz17_0, hcz17_1, hcz17_2, hcz17_3, hcz17_4, hfz17_0, hfz17_1, hfz17_2, hfz17_3, hfz17_4⟩ := bx5_ BK190.out; obtain ⟨hcz18_0, hcz18_1, hcz18_2, hcz18_3, hcz18_4, hfz18_0, hfz18_1, hfz18_2, hfz18_3, hfz18_4⟩ := bx5_ BK191.out) | ((with_reducible refine gate_callee (f := 35) rfl ?_); refine goesL_ (some 14) rfl rfl Tryd.func35 (by kernel_rfl) rfl #[.slice A0_1 l0_1.length c0_1, .slice A1_1 l1_1.length c1_1] rfl z1_ ?_; (with_reducible refine (laws_eqIntS.calls k _ _ l0_1 _ _ l1_1 true _ ?side1 ?side2 ?side3 ?side4 A4.out).mono ?_); (case side1 => exact z2_); (case side2 => exact HC0_1.out); (case side3 => exact z28_); (case side4 => exact HC1_1.out); rintro e w' ⟨rfl, ⟨nd, rfl⟩⟩; refine ⟨_, rfl, ?_⟩))
      go_ret
      exact ⟨z4_, z21_⟩
    ·rw [if_neg c7] at H
     have c7b0 : (a0_3 == a1_3) = false := beq_eq_false_iff_ne.mpr c7
     have c7b1 : (a0_3 != a1_3) = true := bne_iff_ne.mpr c7
     obtain rfl := Option.some.inj H
     go_enter Tryd.func13, Tryd.ntmps13
     go_wp2_with (first | ((with_reducible refine gate_dst (N := 2) rfl ?_); refine box_event ?hg (N := 2) ?hd (cs := #[.int .i64 a0_0, .slice A0_1 l0_1.length c0_1, .int .i64 a0_2, .int .i64 a0_3, .int .i64 a0_4]) (t := 33) ?hr ?_; (case hd => rfl); (case hg => rfl); (case hr => exact z15_); intro gb190 hg w19 hbox hb; have BK190 := Aside0.mk (hbox); have GW190 := Aside0.mk ((by rw [hg]; exact (below_size z0_) : w.heap.size ≤ gb190)); have GE190 := Aside0.mk ((by rw [hg]; exact (below_size z0_) : w.heap.size ≤ gb190)); replace HB := Aside0.mk (below_step z0_ hb); clear hb hbox hg) | ((with_reducible refine gate_dst (N := 3) rfl ?_); refine box_event ?hg (N := 3) ?hd (cs := #[.int .i64 a1_0, .slice A1_1 l1_1.length c1_1, .int .i64 a1_2, .int .i64 a1_3, .int .i64 a1_4]) (t := 33) ?hr ?_; (case hd => rfl); (case hg => rfl); (case hr => exact z15_); intro gb191 hg w20 hbox hb; have BK191 := Aside0.mk (hbox); have GW191 := Aside0.mk ((by rw [hg]; exact (below_size z7_) : w.heap.size ≤ gb191)); have GE191 := Aside0.mk ((by rw [hg]; exact (below_size z7_) : w.heap.size ≤ gb191)); replace HB := Aside0.mk (below_step z7_ hb); have NB190_191 := Aside0.mk ((by rw [hg]; exact Nat.ne_of_lt (blk_lt (g := gb190) (o := .cells #[.int .i64 a0_0, .slice A0_1 l0_1.length c0_1, .int .i64 a0_2, .int .i64 a0_3, .int .i64 a0_4] 33 (0, 0)) z12_) : gb190 ≠ gb191)); have NB191_190 := Aside0.mk ((by rw [hg]; exact Nat.ne_of_gt (blk_lt (g := gb190) (o := .cells #[.int .i64 a0_0, .slice A0_1 l0_1.length c0_1, .int .i64 a0_2, .int .i64 a0_3, .int .i64 a0_4] 33 (0, 0)) z12_) : gb191 ≠ gb190)); replace BK190 := Aside0.mk (blk_below (g := gb190) (o := .cells #[.int .i64 a0_0, .slice A0_1 l0_1.length c0_1, .int .i64 a0_2, .int .i64 a0_3, .int .i64 a0_4] 33 (0, 0)) z12_ hb); clear hb hbox hg; have hnb21 := NB190_191.out; have hnc21 := NB191_190.out; obtain ⟨hcz22_0, hcz22_1, hcz22_2, hcz22_3, hcz22_4, hfz22_0, hfz22_1, hfz22_2, hfz22_3, hfz22_4⟩ := bx5_ BK190.out; obtain ⟨hcz23_0, hcz23_1, hcz23_2, hcz23_3, hcz23_4, hfz23_0, hfz23_1, hfz23_2, hfz23_3, hfz23_4⟩ := bx5_ BK191.out) | ((with_reducible refine gate_callee (f := 35) rfl ?_); refine goesL_ (some 14) rfl rfl Tryd.func35 (by kernel_rfl) rfl #[.slice A0_1 l0_1.length c0_1, .slice A1_1 l1_1.length c1_1] rfl z1_ ?_; (with_reducible refine (laws_eqIntS.calls k _ _ l0_1 _ _ l1_1 true _ ?side1 ?side2 ?side3 ?side4 A4.out).mono ?_); (case side1 => exact z2_); (case side2 => exact HC0_1.out); (case side3 => exact z28_); (case side4 => exact HC1_1.out); rintro e w' ⟨rfl, ⟨nd, rfl⟩⟩; refine ⟨_, rfl, ?_⟩))
     go_ret
     exact ⟨z4_, z21_⟩
   ·rw [if_neg c6] at H
    have c6b0 : (a0_2 == a1_2) = false := beq_eq_false_iff_ne.mpr c6
    have c6b1 : (a0_2 != a1_2) = true := bne_iff_ne.mpr c6
    obtain rfl := Option.some.inj H
    go_enter Tryd.func13, Tryd.ntmps13
    go_wp2_with (first | ((with_reducible refine gate_dst (N := 2) rfl ?_); refine box_event ?hg (N := 2) ?hd (cs := #[.int .i64 a0_0, .slice A0_1 l0_1.length c0_1, .int .i64 a0_2, .int .i64 a0_3, .int .i64 a0_4]) (t := 33) ?hr ?_; (case hd => rfl); (case hg => rfl); (case hr => exact z15_); intro gb190 hg w24 hbox hb; have BK190 := Aside0.mk (hbox); have GW190 := Aside0.mk ((by rw [hg]; exact (below_size z0_) : w.heap.size ≤ gb190)); have GE190 := Aside0.mk ((by rw [hg]; exact (below_size z0_) : w.heap.size ≤ gb190)); replace HB := Aside0.mk (below_step z0_ hb); clear hb hbox hg) | ((with_reducible refine gate_dst (N := 3) rfl ?_); refine box_event ?hg (N := 3) ?hd (cs := #[.int .i64 a1_0, .slice A1_1 l1_1.length c1_1, .int .i64 a1_2, .int .i64 a1_3, .int .i64 a1_4]) (t := 33) ?hr ?_; (case hd => rfl); (case hg => rfl); (case hr => exact z15_); intro gb191 hg w25 hbox hb; have BK191 := Aside0.mk (hbox); have GW191 := Aside0.mk ((by rw [hg]; exact (below_size z7_) : w.heap.size ≤ gb191)); have GE191 := Aside0.mk ((by rw [hg]; exact (below_size z7_) : w.heap.size ≤ gb191)); replace HB := Aside0.mk (below_step z7_ hb); have NB190_191 := Aside0.mk ((by rw [hg]; exact Nat.ne_of_lt (blk_lt (g := gb190) (o := .cells #[.int .i64 a0_0, .slice A0_1 l0_1.length c0_1, .int .i64 a0_2, .int .i64 a0_3, .int .i64 a0_4] 33 (0, 0)) z12_) : gb190 ≠ gb191)); have NB191_190 := Aside0.mk ((by rw [hg]; exact Nat.ne_of_gt (blk_lt (g := gb190) (o := .cells #[.int .i64 a0_0, .slice A0_1 l0_1.length c0_1, .int .i64 a0_2, .int .i64 a0_3, .int .i64 a0_4] 33 (0, 0)) z12_) : gb191 ≠ gb190)); replace BK190 := Aside0.mk (blk_below (g := gb190) (o := .cells #[.int .i64 a0_0, .slice A0_1 l0_1.length c0_1, .int .i64 a0_2, .int .i64 a0_3, .int .i64 a0_4] 33 (0, 0)) z12_ hb); clear hb hbox hg; have hnb26 := NB190_191.out; have hnc26 := NB191_190.out; obtain ⟨hcz27_0, hcz27_1, hcz27_2, hcz27_3, hcz27_4, hfz27_0, hfz27_1, hfz27_2, hfz27_3, hfz27_4⟩ := bx5_ BK190.out; obtain ⟨hcz28_0, hcz28_1, hcz28_2, hcz28_3, hcz28_4, hfz28_0, hfz28_1, hfz28_2, hfz28_3, hfz28_4⟩ := bx5_ BK191.out) | ((with_reducible refine gate_callee (f := 35) rfl ?_); refine goesL_ (some 14) rfl rfl Tryd.func35 (by kernel_rfl) rfl #[.slice A0_1 l0_1.length c0_1, .slice A1_1 l1_1.length c1_1] rfl z1_ ?_; (with_reducible refine (laws_eqIntS.calls k _ _ l0_1 _ _ l1_1 true _ ?side1 ?side2 ?side3 ?side4 A4.out).mono ?_); (case side1 => exact z2_); (case side2 => exact HC0_1.out); (case side3 => exact z28_); (case side4 => exact HC1_1.out); rintro e w' ⟨rfl, ⟨nd, rfl⟩⟩; refine ⟨_, rfl, ?_⟩))
    go_ret
    exact ⟨z4_, z21_⟩
  ·replace c5 := Bool.eq_false_iff.mpr c5
   subst c5
   replace H := iff_ H
   obtain rfl := Option.some.inj H
   go_enter Tryd.func13, Tryd.ntmps13
   go_wp2_with (first | ((with_reducible refine gate_dst (N := 2) rfl ?_); refine box_event ?hg (N := 2) ?hd (cs := #[.int .i64 a0_0, .slice A0_1 l0_1.length c0_1, .int .i64 a0_2, .int .i64 a0_3, .int .i64 a0_4]) (t := 33) ?hr ?_; (case hd => rfl); (case hg => rfl); (case hr => exact z15_); intro gb190 hg w29 hbox hb; have BK190 := Aside0.mk (hbox); have GW190 := Aside0.mk ((by rw [hg]; exact (below_size z0_) : w.heap.size ≤ gb190)); have GE190 := Aside0.mk ((by rw [hg]; exact (below_size z0_) : w.heap.size ≤ gb190)); replace HB := Aside0.mk (below_step z0_ hb); clear hb hbox hg) | ((with_reducible refine gate_dst (N := 3) rfl ?_); refine box_event ?hg (N := 3) ?hd (cs := #[.int .i64 a1_0, .slice A1_1 l1_1.length c1_1, .int .i64 a1_2, .int .i64 a1_3, .int .i64 a1_4]) (t := 33) ?hr ?_; (case hd => rfl); (case hg => rfl); (case hr => exact z15_); intro gb191 hg w30 hbox hb; have BK191 := Aside0.mk (hbox); have GW191 := Aside0.mk ((by rw [hg]; exact (below_size z7_) : w.heap.size ≤ gb191)); have GE191 := Aside0.mk ((by rw [hg]; exact (below_size z7_) : w.heap.size ≤ gb191)); replace HB := Aside0.mk (below_step z7_ hb); have NB190_191 := Aside0.mk ((by rw [hg]; exact Nat.ne_of_lt (blk_lt (g := gb190) (o := .cells #[.int .i64 a0_0, .slice A0_1 l0_1.length c0_1, .int .i64 a0_2, .int .i64 a0_3, .int .i64 a0_4] 33 (0, 0)) z12_) : gb190 ≠ gb191)); have NB191_190 := Aside0.mk ((by rw [hg]; exact Nat.ne_of_gt (blk_lt (g := gb190) (o := .cells #[.int .i64 a0_0, .slice A0_1 l0_1.length c0_1, .int .i64 a0_2, .int .i64 a0_3, .int .i64 a0_4] 33 (0, 0)) z12_) : gb191 ≠ gb190)); replace BK190 := Aside0.mk (blk_below (g := gb190) (o := .cells #[.int .i64 a0_0, .slice A0_1 l0_1.length c0_1, .int .i64 a0_2, .int .i64 a0_3, .int .i64 a0_4] 33 (0, 0)) z12_ hb); clear hb hbox hg; have hnb31 := NB190_191.out; have hnc31 := NB191_190.out; obtain ⟨hcz32_0, hcz32_1, hcz32_2, hcz32_3, hcz32_4, hfz32_0, hfz32_1, hfz32_2, hfz32_3, hfz32_4⟩ := bx5_ BK190.out; obtain ⟨hcz33_0, hcz33_1, hcz33_2, hcz33_3, hcz33_4, hfz33_0, hfz33_1, hfz33_2, hfz33_3, hfz33_4⟩ := bx5_ BK191.out) | ((with_reducible refine gate_callee (f := 35) rfl ?_); refine goesL_ (some 14) rfl rfl Tryd.func35 (by kernel_rfl) rfl #[.slice A0_1 l0_1.length c0_1, .slice A1_1 l1_1.length c1_1] rfl z1_ ?_; (with_reducible refine (laws_eqIntS.calls k _ _ l0_1 _ _ l1_1 false _ ?side1 ?side2 ?side3 ?side4 A4.out).mono ?_); (case side1 => exact z2_); (case side2 => exact HC0_1.out); (case side3 => exact z28_); (case side4 => exact HC1_1.out); rintro e w' ⟨rfl, ⟨nd, rfl⟩⟩; refine ⟨_, rfl, ?_⟩))
   go_ret
   exact ⟨z4_, z21_⟩
 ·rw [if_neg c3] at H
  have c3b0 : (a0_0 == a1_0) = false := beq_eq_false_iff_ne.mpr c3
  have c3b1 : (a0_0 != a1_0) = true := bne_iff_ne.mpr c3
  obtain rfl := Option.some.inj H
  go_enter Tryd.func13, Tryd.ntmps13
  go_wp2_with (first | ((with_reducible refine gate_dst (N := 2) rfl ?_); refine box_event ?hg (N := 2) ?hd (cs := #[.int .i64 a0_0, .slice A0_1 l0_1.length c0_1, .int .i64 a0_2, .int .i64 a0_3, .int .i64 a0_4]) (t := 33) ?hr ?_; (case hd => rfl); (case hg => rfl); (case hr => exact z15_); intro gb190 hg w34 hbox hb; have BK190 := Aside0.mk (hbox); have GW190 := Aside0.mk ((by rw [hg]; exact (below_size z0_) : w.heap.size ≤ gb190)); have GE190 := Aside0.mk ((by rw [hg]; exact (below_size z0_) : w.heap.size ≤ gb190)); replace HB := Aside0.mk (below_step z0_ hb); clear hb hbox hg) | ((with_reducible refine gate_dst (N := 3) rfl ?_); refine box_event ?hg (N := 3) ?hd (cs := #[.int .i64 a1_0, .slice A1_1 l1_1.length c1_1, .int .i64 a1_2, .int .i64 a1_3, .int .i64 a1_4]) (t := 33) ?hr ?_; (case hd => rfl); (case hg => rfl); (case hr => exact z15_); intro gb191 hg w35 hbox hb; have BK191 := Aside0.mk (hbox); have GW191 := Aside0.mk ((by rw [hg]; exact (below_size z7_) : w.heap.size ≤ gb191)); have GE191 := Aside0.mk ((by rw [hg]; exact (below_size z7_) : w.heap.size ≤ gb191)); replace HB := Aside0.mk (below_step z7_ hb); have NB190_191 := Aside0.mk ((by rw [hg]; exact Nat.ne_of_lt (blk_lt (g := gb190) (o := .cells #[.int .i64 a0_0, .slice A0_1 l0_1.length c0_1, .int .i64 a0_2, .int .i64 a0_3, .int .i64 a0_4] 33 (0, 0)) z12_) : gb190 ≠ gb191)); have NB191_190 := Aside0.mk ((by rw [hg]; exact Nat.ne_of_gt (blk_lt (g := gb190) (o := .cells #[.int .i64 a0_0, .slice A0_1 l0_1.length c0_1, .int .i64 a0_2, .int .i64 a0_3, .int .i64 a0_4] 33 (0, 0)) z12_) : gb191 ≠ gb190)); replace BK190 := Aside0.mk (blk_below (g := gb190) (o := .cells #[.int .i64 a0_0, .slice A0_1 l0_1.length c0_1, .int .i64 a0_2, .int .i64 a0_3, .int .i64 a0_4] 33 (0, 0)) z12_ hb); clear hb hbox hg; have hnb36 := NB190_191.out; have hnc36 := NB191_190.out; obtain ⟨hcz37_0, hcz37_1, hcz37_2, hcz37_3, hcz37_4, hfz37_0, hfz37_1, hfz37_2, hfz37_3, hfz37_4⟩ := bx5_ BK190.out; obtain ⟨hcz38_0, hcz38_1, hcz38_2, hcz38_3, hcz38_4, hfz38_0, hfz38_1, hfz38_2, hfz38_3, hfz38_4⟩ := bx5_ BK191.out))
  go_ret
  exact ⟨z4_, z21_⟩

end Go.Proofs.YtipclgiboffblaaDoor.PFnExactOpText
