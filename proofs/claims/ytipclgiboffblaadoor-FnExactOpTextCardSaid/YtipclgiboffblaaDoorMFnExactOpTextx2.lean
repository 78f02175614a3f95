/- Laid by a program of this session out of the kit's print for the law FnExactOpText: what it says of the machine is proved here, function by function; each contract under the conditions that it names. -/
import Derived.Test.YtipclgiboffblaaDoorMFnExactOpTextx0
import Derived.Test.YtipclgiboffblaaDoorMFnExactOpTextx1
namespace Go.Proofs.YtipclgiboffblaaDoor.PFnExactOpText
open Go.RowKit Go.Proofs.YtipclgiboffblaaDoorW.PrintWords Go.Proofs.YtipclgiboffblaaDoorW.PrintLast Go.Proofs.YtipclgiboffblaaDoorW.PrintMore
attribute [local go_sem] max2_int min2_int max_two min_two max_three min_three max_four min_four   -- for this text's walks alone
set_option linter.unusedVariables false
set_option linter.unusedSimpArgs false

/-! ### spec_OpText: function 10 -/
def spec_OpText.j0 : Nat → ByteArray → Int → List Int → Int → Int → Int → Option (ByteArray)
 | 0, _, _, _, _, _, _ => none
 | k + 1, x3, x128000, x128001, x128002, x128003, x128004 => if x128000 = 3 then (if x3.size + 1 ≤ 9223372036854775807 then ((spec_Dec.f k x128003).bind fun t135 => (if (x3 ++ (⟨#[32]⟩ : ByteArray)).size + t135.size ≤ 9223372036854775807 then (if ((x3 ++ (⟨#[32]⟩ : ByteArray)) ++ t135).size + 1 ≤ 9223372036854775807 then ((spec_Dec.f k x128004).bind fun t136 => (if (((x3 ++ (⟨#[32]⟩ : ByteArray)) ++ t135) ++ (⟨#[32]⟩ : ByteArray)).size + t136.size ≤ 9223372036854775807 then (some ((((x3 ++ (⟨#[32]⟩ : ByteArray)) ++ t135) ++ (⟨#[32]⟩ : ByteArray)) ++ t136)) else (none))) else (none)) else (none))) else (none)) else (some x3)
def spec_OpText.f (k : Nat) (a0_0 : Int) (l0_1 : List Int) (a0_2 : Int) (a0_3 : Int) (a0_4 : Int) : Option (ByteArray) := (spec_OpOk.f k a0_0 l0_1 a0_2 a0_3 a0_4).bind fun t128 => (if t128 = true then ((some (([(⟨#[]⟩ : ByteArray), (⟨#[114, 101, 108, 97, 98, 101, 108]⟩ : ByteArray), (⟨#[100, 101, 108, 101, 116, 101]⟩ : ByteArray), (⟨#[105, 110, 115, 101, 114, 116]⟩ : ByteArray)] : List ByteArray) : List ByteArray)).bind fun y129 => (if 0 ≤ a0_0 then (if a0_0 < (y129.length : Int) then (if (rdOf ByteArray.empty y129 a0_0).size + 1 ≤ 9223372036854775807 then ((spec_l23Path.f k l0_1).bind fun t133 => (if ((rdOf ByteArray.empty y129 a0_0) ++ (⟨#[32]⟩ : ByteArray)).size + t133.size ≤ 9223372036854775807 then (if a0_0 = 2 then (spec_OpText.j0 k (((rdOf ByteArray.empty y129 a0_0) ++ (⟨#[32]⟩ : ByteArray)) ++ t133) a0_0 l0_1 a0_2 a0_3 a0_4) else (if (((rdOf ByteArray.empty y129 a0_0) ++ (⟨#[32]⟩ : ByteArray)) ++ t133).size + 1 ≤ 9223372036854775807 then ((spec_LabelName.f a0_2).bind fun t134 => (if ((((rdOf ByteArray.empty y129 a0_0) ++ (⟨#[32]⟩ : ByteArray)) ++ t133) ++ (⟨#[32]⟩ : ByteArray)).size + t134.size ≤ 9223372036854775807 then (spec_OpText.j0 k (((((rdOf ByteArray.empty y129 a0_0) ++ (⟨#[32]⟩ : ByteArray)) ++ t133) ++ (⟨#[32]⟩ : ByteArray)) ++ t134) a0_0 l0_1 a0_2 a0_3 a0_4) else (none))) else (none))) else (none))) else (none)) else (none)) else (none))) else (some (⟨#[]⟩ : ByteArray)))
def spec_OpText.T3 : Bool × List (List Nat × List Nat) := (true, [([], []), ([], []), ([1], [1]), ([0, 2], [0, 2]), ([3], [3]), ([4], [4]), ([], []), ([6], [6]), ([7], [7]), ([5, 8], [5, 8]), ([9, 8, 0, 1, 2, 3, 4, 5, 6, 7, 8, 9], [9])])
def spec_OpText.B3 : List Nat := [0, 0, 2, 7, 15, 31, 0, 64, 192, 511, 1023]
theorem spec_OpText.tab3 : rtab .any (opsOf Tryd.f10 3) = spec_OpText.T3 := by kernel_rfl
theorem spec_OpText.bits3 : waitsOk spec_OpText.T3.2 spec_OpText.B3 = true := by kernel_rfl
def spec_OpText.T7 : Bool × List (List Nat × List Nat) := (true, [([], []), ([0], [0]), ([], []), ([2], [2]), ([3], [3]), ([1, 4], [1, 4]), ([5], [5]), ([], []), ([7], [7]), ([8, 4], [8]), ([6, 9], [6, 9]), ([10, 9, 0, 1, 2, 3, 4, 5, 6, 7, 8, 9, 10], [0, 10])])
def spec_OpText.B7 : List Nat := [0, 1, 0, 4, 12, 31, 63, 0, 128, 412, 1023, 2047]
theorem spec_OpText.tab7 : rtab .any (opsOf Tryd.f10 7) = spec_OpText.T7 := by kernel_rfl
theorem spec_OpText.bits7 : waitsOk spec_OpText.T7.2 spec_OpText.B7 = true := by kernel_rfl
set_option maxHeartbeats 8000000 in
set_option maxRecDepth 100000 in
theorem spec_OpText.calls (k : Nat) (a0_0 : Int) (A0_1 : Option Addr) (c0_1 : Nat) (l0_1 : List Int) (a0_2 : Int) (a0_3 : Int) (a0_4 : Int) (r : ByteArray) (w : World) (hr0_1 : Kd.C (Kd.int .i64) w A0_1 l0_1.length l0_1) (hc0_1 : l0_1.length ≤ c0_1) (h : spec_OpText.f k a0_0 l0_1 a0_2 a0_3 a0_4 = some r) :
  Calls Tryd.prog 10 #[.agg #[.int .i64 a0_0, .slice A0_1 l0_1.length c0_1, .int .i64 a0_2, .int .i64 a0_3, .int .i64 a0_4]] w fun e w' => e = .returned (.string r) ∧ Below w.heap.size w w' := by
 have hu33 := Tryd.underlying33
 have HR0_1 := Aside0.mk hr0_1
 have HC0_1 := Aside0.mk hc0_1
 clear hr0_1 hc0_1
 have HB := Aside0.mk (Below.refl w.heap.size w)
 have H : ((spec_OpOk.f k a0_0 l0_1 a0_2 a0_3 a0_4).bind fun t128 => (if t128 = true then ((some (([(⟨#[]⟩ : ByteArray), (⟨#[114, 101, 108, 97, 98, 101, 108]⟩ : ByteArray), (⟨#[100, 101, 108, 101, 116, 101]⟩ : ByteArray), (⟨#[105, 110, 115, 101, 114, 116]⟩ : ByteArray)] : List ByteArray) : List ByteArray)).bind fun y129 => (if 0 ≤ a0_0 then (if a0_0 < (y129.length : Int) then (if (rdOf ByteArray.empty y129 a0_0).size + 1 ≤ 9223372036854775807 then ((spec_l23Path.f k l0_1).bind fun t133 => (if ((rdOf ByteArray.empty y129 a0_0) ++ (⟨#[32]⟩ : ByteArray)).size + t133.size ≤ 9223372036854775807 then (if a0_0 = 2 then (spec_OpText.j0 k (((rdOf ByteArray.empty y129 a0_0) ++ (⟨#[32]⟩ : ByteArray)) ++ t133) a0_0 l0_1 a0_2 a0_3 a0_4) else (if (((rdOf ByteArray.empty y129 a0_0) ++ (⟨#[32]⟩ : ByteArray)) ++ t133).size + 1 ≤ 9223372036854775807 then ((spec_LabelName.f a0_2).bind fun t134 => (if ((((rdOf ByteArray.empty y129 a0_0) ++ (⟨#[32]⟩ : ByteArray)) ++ t133) ++ (⟨#[32]⟩ : ByteArray)).size + t134.size ≤ 9223372036854775807 then (spec_OpText.j0 k (((((rdOf ByteArray.empty y129 a0_0) ++ (⟨#[32]⟩ : ByteArray)) ++ t133) ++ (⟨#[32]⟩ : ByteArray)) ++ t134) a0_0 l0_1 a0_2 a0_3 a0_4) else (none))) else (none))) else (none))) else (none)) else (none)) else (none))) else (some (⟨#[]⟩ : ByteArray)))) = some r := h
 clear h
 obtain ⟨t128, A2, H⟩ := bnd_ H
 by_cases c3 : t128 = true
 ·subst c3
  replace H := ift_ H
  first | ((with_reducible have hz_ := gy_ H); obtain ⟨y129, Ny129, H⟩ := hz_) | (generalize hy_ : ((([(⟨#[]⟩ : ByteArray), (⟨#[114, 101, 108, 97, 98, 101, 108]⟩ : ByteArray), (⟨#[100, 101, 108, 101, 116, 101]⟩ : ByteArray), (⟨#[105, 110, 115, 101, 114, 116]⟩ : ByteArray)] : List ByteArray)) : List ByteArray) = y129 at H; have Ny129 := Aside0.mk hy_.symm; clear hy_)
  obtain ⟨c4b0, H⟩ := ifd_ H
  obtain ⟨c5b0, H⟩ := ifd_ H
  obtain ⟨c6, H⟩ := ifs_ H
  have c6b0 := eq_true c6
  have c6b1 := decide_eq_true c6
  try have c6b2 : (9223372036854775807 < (rdOf ByteArray.empty y129 a0_0).size + 1) = False := eq_false (Nat.not_lt.2 c6)
  obtain ⟨t133, A7, H⟩ := bnd_ H
  obtain ⟨c8, H⟩ := ifs_ H
  have c8b0 := eq_true c8
  have c8b1 := decide_eq_true c8
  try have c8b2 : (9223372036854775807 < ((rdOf ByteArray.empty y129 a0_0) ++ (⟨#[32]⟩ : ByteArray)).size + t133.size) = False := eq_false (Nat.not_lt.2 c8)
  have c8s : (rdOf ByteArray.empty y129 a0_0).size + 1 + t133.size ≤ 9223372036854775807 := by have e_ := c8; simp only [ByteArray.size_append] at e_; exact e_
  have c8sb : (9223372036854775807 < (rdOf ByteArray.empty y129 a0_0).size + 1 + t133.size) = False := eq_false (Nat.not_lt.2 c8s)
  have HC9 := Aside0.mk H
  clear H
  go_enter Tryd.func10, Tryd.ntmps10
  try go_wp2_with (first | ((with_reducible refine gate_dst (N := 1) rfl ?_); refine box_event ?hg (N := 1) ?hd (cs := #[.int .i64 a0_0, .slice A0_1 l0_1.length c0_1, .int .i64 a0_2, .int .i64 a0_3, .int .i64 a0_4]) (t := 33) ?hr ?_; (case hd => rfl); (case hg => rfl); (case hr => exact z15_); intro gb127 hg w10 hbox hb; have BK127 := Aside0.mk (hbox); have GW127 := Aside0.mk ((by rw [hg]; exact (below_size z0_) : w.heap.size ≤ gb127)); have GE127 := Aside0.mk ((by rw [hg]; exact (below_size z0_) : w.heap.size ≤ gb127)); replace HB := Aside0.mk (below_step z0_ hb); clear hb hbox hg; obtain ⟨hcz11_0, hcz11_1, hcz11_2, hcz11_3, hcz11_4, hfz11_0, hfz11_1, hfz11_2, hfz11_3, hfz11_4⟩ := bx5_ BK127.out) | ((with_reducible refine gate_callee (f := 28) rfl ?_); refine goesL_ (some 5) rfl rfl Tryd.func28 (by kernel_rfl) rfl #[.agg #[.int .i64 a0_0, .slice A0_1 l0_1.length c0_1, .int .i64 a0_2, .int .i64 a0_3, .int .i64 a0_4]] rfl z1_ ?_; (with_reducible refine (spec_OpOk.calls k a0_0 _ _ l0_1 a0_2 a0_3 a0_4 true _ ?side1 ?side2 A2.out).mono ?_); (case side1 => exact z2_); (case side2 => exact HC0_1.out); rintro e w12 ⟨rfl, hb⟩; refine ⟨_, rfl, ?_⟩; replace BK127 := Aside0.mk (blk_below (g := gb127) (o := .cells #[.int .i64 a0_0, .slice A0_1 l0_1.length c0_1, .int .i64 a0_2, .int .i64 a0_3, .int .i64 a0_4] 33 (0, 0)) z20_ hb); replace HB := Aside0.mk (below_step z8_ hb); (try clear hb)))
  have pi132 : (0 ≤ (a0_0 : Int)) = True := eq_true (odt_)
  have qi132 : (a0_0 < (y129.length : Int)) = True := eq_true (odt_)
  have n0_ := Aside0.mk (blk_drew BK127.out)
  have n1_ := Aside0.mk (below_drew1 HB.out)
  clear BK127
  clear HB
  have BK127 := n0_
  have HB := n1_
  clear n0_ n1_
  refine start_ (n := 11) (S := fun w' => True) (ds := []) (fl_ 11 0) (by kernel_rfl) rfl (fl_zero _) trivial (fun hHeld => ?_); refine with_tabW spec_OpText.tab3 spec_OpText.bits3 (fun HT_ HW_ => ?_)
  generalize w12.drew = w13 at BK127 HB hHeld ⊢
  refine zpg_ (i := 1) (ra_ [0, 1, 1, 9]) HT_ rfl rfl (by kernel_rfl) (fun _ _ _ h => h) (by rfl) ?_
  refine zpg_ (i := 6) (ra_ [0, 1, 1, 4, 1, 4]) HT_ rfl rfl (by kernel_rfl) (fun _ _ _ h => h) (by rfl) ?_
  refine inv_at [0, 2, 3, 4, 5, 7, 8, 9, 10] (fun a0_ b a w' => ∃ (v130 : Value) (adz_v130 : Addr) (m3_ : Value), a = putSel a0_ b [(0, 7, v130), (2, 9, .int .i64 a0_0), (3, 10, m3_), (4, 11, .string (rdOf ByteArray.empty y129 a0_0)), (5, 12, .string ((rdOf ByteArray.empty y129 a0_0) ++ (⟨#[32]⟩ : ByteArray))), (7, 14, .slice A0_1 l0_1.length c0_1), (8, 15, .string t133), (9, 16, .string (((rdOf ByteArray.empty y129 a0_0) ++ (⟨#[32]⟩ : ByteArray)) ++ t133)), (10, 3, .string (((rdOf ByteArray.empty y129 a0_0) ++ (⟨#[32]⟩ : ByteArray)) ++ t133))] ∧ (w'.heap[gb127]? = some (.cells #[.int .i64 a0_0, .slice A0_1 l0_1.length c0_1, .int .i64 a0_2, .int .i64 a0_3, .int .i64 a0_4] 33 (0, 0))) ∧ (Below w.heap.size w w') ∧ (b 0 = true → Kd.R Kd.string 9 w' w.heap.size (fun _ => True) v130 y129) ∧ (b 0 = true → ∃ c_, (v130 : Value) = .slice (some adz_v130) y129.length c_) ∧ (b 3 = true → (m3_ : Value) = .pointer (some (adz_v130.add (a0_0).toNat)))) HT_.out HW_.out (by kernel_rfl) (by kernel_rfl) ?_ ?_ ?_
  ·exact ⟨.bool false, ⟨0, 0, none⟩, .bool false, by simp only [putSel, Bool.false_eq_true, if_false], BK127.out, HB.out, fun h_ => absurd h_ (by decide), fun h_ => absurd h_ (by decide), fun h_ => absurd h_ (by decide)⟩
  ·skip
   clear BK127 HB
   refine steps_cons ?_ ?_
   ·rintro b a w' ⟨v130, adz_v130, m3_, ha, Q_BK127, Q_HB, Q_HO131, Q_HA_HO131, Q_X3_⟩ hb_ hon hoff
    refine ⟨_, rfl, fun K hK => ?_⟩
    replace ha := Aside0.mk ha
    have BK127 := Aside0.mk Q_BK127
    have HB := Aside0.mk Q_HB
    refine Kd.R_lit_step Kd.string _ 9 ?hg (N := 7) ?hd (xs := ([(⟨#[]⟩ : ByteArray), (⟨#[114, 101, 108, 97, 98, 101, 108]⟩ : ByteArray), (⟨#[100, 101, 108, 101, 116, 101]⟩ : ByteArray), (⟨#[105, 110, 115, 101, 114, 116]⟩ : ByteArray)] : List ByteArray)) (inner := [.string (⟨#[]⟩ : ByteArray), .string (⟨#[114, 101, 108, 97, 98, 101, 108]⟩ : ByteArray), .string (⟨#[100, 101, 108, 101, 116, 101]⟩ : ByteArray), .string (⟨#[105, 110, 115, 101, 114, 116]⟩ : ByteArray)]) (ok := fun _ => True) (okp := fun _ => True) ?hr ?hp (fun _ hk => hk) trivial (Below.refl _ _) (Nat.le_refl _) (by simp) ?_; (case hd => rfl); (case hg => rfl); (case hr => exact z15_); (case hp => exact (Reps.one (show Kd.M Kd.string _ _ _ (⟨#[]⟩ : ByteArray) [.string (⟨#[]⟩ : ByteArray)] from rfl) (Reps.one (show Kd.M Kd.string _ _ _ (⟨#[114, 101, 108, 97, 98, 101, 108]⟩ : ByteArray) [.string (⟨#[114, 101, 108, 97, 98, 101, 108]⟩ : ByteArray)] from rfl) (Reps.one (show Kd.M Kd.string _ _ _ (⟨#[100, 101, 108, 101, 116, 101]⟩ : ByteArray) [.string (⟨#[100, 101, 108, 101, 116, 101]⟩ : ByteArray)] from rfl) (Reps.one (show Kd.M Kd.string _ _ _ (⟨#[105, 110, 115, 101, 114, 116]⟩ : ByteArray) [.string (⟨#[105, 110, 115, 101, 114, 116]⟩ : ByteArray)] from rfl) (Reps.none _ _))))))
    intro v130 w14 ho15 hb hg_ hnew_
    clear hg_ hnew_
    (first | rw [← Ny129.out] at ho15 | (simp only [Int.reduceToNat] at ho15; rw [← Ny129.out] at ho15))
    have n0_ := Aside0.mk (Kd.R_lower ho15 (below_size z8_))
    have n1_ := Aside0.mk (blk_below (g := gb127) (o := .cells #[.int .i64 a0_0, .slice A0_1 l0_1.length c0_1, .int .i64 a0_2, .int .i64 a0_3, .int .i64 a0_4] 33 (0, 0)) z20_ hb)
    have n2_ := Aside0.mk (below_step z8_ hb)
    clear BK127
    clear HB
    have HO131 := n0_
    have BK127 := n1_
    have HB := n2_
    clear n0_ n1_ n2_
    clear hb ho15
    obtain ⟨Ao16, co16, eo16⟩ := Kd.R_slice HO131.out
    subst eo16
    obtain ⟨ado16, fo16, _⟩ := Kd.at_string (Kd.R_reads' HO131.out).2.2 0 (by decide) (by rw [Ny129.out]; simp)
    cases fo16
    refine hK.out _ _ ⟨.slice (some ado16) y129.length co16, ado16, m3_, (by rw [ha.out]; exact putSel_upk 0 hb_ rfl rfl rfl), z20_, z8_, fun _ => z42_, fun _ => ⟨_, rfl⟩, fun h0_ => absurd ((hoff 3 (by kernel_rfl)).symm.trans h0_) (by decide)⟩
   refine steps_cons ?_ ?_
   ·rintro b a w' ⟨v130, adz_v130, m3_, ha, Q_BK127, Q_HB, Q_HO131, Q_HA_HO131, Q_X3_⟩ hb_ hon hoff
    refine ⟨_, rfl, fun K hK => ?_⟩
    have e8 : a.tmps[8]? = some (.pointer (some ⟨gb127, 0, none⟩)) := by rw [ha]; exact (putSel_off rfl).trans rfl
    replace ha := Aside0.mk ha
    have BK127 := Aside0.mk Q_BK127
    have HB := Aside0.mk Q_HB
    have hc0_ : w'.cell? ⟨gb127, 0, none⟩ = some (.int .i64 a0_0) := (blk_cell BK127.out 0).trans rfl
    have hc1_ : w'.cell? ⟨gb127, 1, none⟩ = some (.slice A0_1 l0_1.length c0_1) := (blk_cell BK127.out 1).trans rfl
    have hc2_ : w'.cell? ⟨gb127, 2, none⟩ = some (.int .i64 a0_2) := (blk_cell BK127.out 2).trans rfl
    have hc3_ : w'.cell? ⟨gb127, 3, none⟩ = some (.int .i64 a0_3) := (blk_cell BK127.out 3).trans rfl
    have hc4_ : w'.cell? ⟨gb127, 4, none⟩ = some (.int .i64 a0_4) := (blk_cell BK127.out 4).trans rfl
    refine value_ (w1 := w') (v := .int .i64 a0_0) (by rfl) rfl ?_ ?_
    ·go_simp
     (try simp only [i64_w])
     try rfl
    refine hK.out _ _ ⟨v130, adz_v130, m3_, (by rw [ha.out]; exact putSel_upk 1 hb_ rfl rfl rfl), Q_BK127, Q_HB, Q_HO131, Q_HA_HO131, fun h0_ => absurd ((hoff 3 (by kernel_rfl)).symm.trans h0_) (by decide)⟩
   refine steps_cons ?_ ?_
   ·rintro b a w' ⟨v130, adz_v130, m3_, ha, Q_BK127, Q_HB, Q_HO131, Q_HA_HO131, Q_X3_⟩ hb_ hon hoff
    refine ⟨_, rfl, fun K hK => ?_⟩
    have e7 : a.tmps[7]? = some (v130) := by rw [ha]; exact putSel_on (e := (0, 7, v130)) 0 rfl rfl (hon 0 (by kernel_rfl)) rfl
    have e9 : a.tmps[9]? = some (.int .i64 a0_0) := by rw [ha]; exact putSel_on (e := (2, 9, .int .i64 a0_0)) 1 rfl rfl (hon 2 (by kernel_rfl)) rfl
    replace ha := Aside0.mk ha
    have BK127 := Aside0.mk Q_BK127
    have HB := Aside0.mk Q_HB
    have HO131 := Aside0.mk (Q_HO131 (hon 0 (by kernel_rfl)))
    have HA_HO131 := Aside0.mk (Q_HA_HO131 (hon 0 (by kernel_rfl)))
    obtain ⟨c_, hv_⟩ := HA_HO131.out
    rw [hv_] at e7
    refine value_ (w1 := w') (v := .pointer (some (adz_v130.add (a0_0).toNat))) (by rfl) rfl ?_ ?_
    ·go_simp
     (try simp only [i64_w])
     try rfl
    refine hK.out _ _ ⟨v130, adz_v130, (.pointer (some (adz_v130.add (a0_0).toNat))), (by rw [ha.out]; exact putSel_upk 2 hb_ rfl rfl rfl), Q_BK127, Q_HB, Q_HO131, Q_HA_HO131, fun _ => rfl⟩
   refine steps_cons ?_ ?_
   ·rintro b a w' ⟨v130, adz_v130, m3_, ha, Q_BK127, Q_HB, Q_HO131, Q_HA_HO131, Q_X3_⟩ hb_ hon hoff
    refine ⟨_, rfl, fun K hK => ?_⟩
    have e10 : a.tmps[10]? = some (m3_) := by rw [ha]; exact putSel_on (e := (3, 10, m3_)) 2 rfl rfl (hon 3 (by kernel_rfl)) rfl
    rw [Q_X3_ (hon 3 (by kernel_rfl))] at e10
    replace ha := Aside0.mk ha
    have BK127 := Aside0.mk Q_BK127
    have HB := Aside0.mk Q_HB
    have HO131 := Aside0.mk (Q_HO131 (hon 0 (by kernel_rfl)))
    have HA_HO131 := Aside0.mk (Q_HA_HO131 (hon 0 (by kernel_rfl)))
    obtain ⟨c_, hv_⟩ := HA_HO131.out
    have hF_ := HO131.out
    rw [hv_] at hF_
    obtain ⟨ad_, ea_, hx_⟩ := Kd.at_string (Kd.R_reads' hF_).2.2 a0_0 (of_eq_true pi132) (of_eq_true qi132)
    cases ea_
    refine value_ (w1 := w') (v := .string (rdOf ByteArray.empty y129 a0_0)) (by rfl) rfl ?_ ?_
    ·go_simp
     (try simp only [i64_w])
     try rfl
    refine hK.out _ _ ⟨v130, adz_v130, m3_, (by rw [ha.out]; exact putSel_upk 3 hb_ rfl rfl rfl), Q_BK127, Q_HB, Q_HO131, Q_HA_HO131, Q_X3_⟩
   refine steps_cons ?_ ?_
   ·rintro b a w' ⟨v130, adz_v130, m3_, ha, Q_BK127, Q_HB, Q_HO131, Q_HA_HO131, Q_X3_⟩ hb_ hon hoff
    refine ⟨_, rfl, fun K hK => ?_⟩
    have e11 : a.tmps[11]? = some (.string (rdOf ByteArray.empty y129 a0_0)) := by rw [ha]; exact putSel_on (e := (4, 11, .string (rdOf ByteArray.empty y129 a0_0))) 3 rfl rfl (hon 4 (by kernel_rfl)) rfl
    replace ha := Aside0.mk ha
    have BK127 := Aside0.mk Q_BK127
    have HB := Aside0.mk Q_HB
    have HO131 := Aside0.mk (Q_HO131 (hon 0 (by kernel_rfl)))
    have HA_HO131 := Aside0.mk (Q_HA_HO131 (hon 0 (by kernel_rfl)))
    refine value_ (w1 := w') (v := .string ((rdOf ByteArray.empty y129 a0_0) ++ (⟨#[32]⟩ : ByteArray))) (by rfl) rfl ?_ ?_
    ·go_simp
     (try simp only [i64_w])
     try rfl
    refine hK.out _ _ ⟨v130, adz_v130, m3_, (by rw [ha.out]; exact putSel_upk 4 hb_ rfl rfl rfl), Q_BK127, Q_HB, Q_HO131, Q_HA_HO131, Q_X3_⟩
   refine steps_cons ?_ ?_
   ·rintro b a w' ⟨v130, adz_v130, m3_, ha, Q_BK127, Q_HB, Q_HO131, Q_HA_HO131, Q_X3_⟩ hb_ hon hoff
    refine ⟨_, rfl, fun K hK => ?_⟩
    have e13 : a.tmps[13]? = some (.pointer (some ⟨gb127, 1, none⟩)) := by rw [ha]; exact (putSel_off rfl).trans rfl
    replace ha := Aside0.mk ha
    have BK127 := Aside0.mk Q_BK127
    have HB := Aside0.mk Q_HB
    have hc0_ : w'.cell? ⟨gb127, 0, none⟩ = some (.int .i64 a0_0) := (blk_cell BK127.out 0).trans rfl
    have hc1_ : w'.cell? ⟨gb127, 1, none⟩ = some (.slice A0_1 l0_1.length c0_1) := (blk_cell BK127.out 1).trans rfl
    have hc2_ : w'.cell? ⟨gb127, 2, none⟩ = some (.int .i64 a0_2) := (blk_cell BK127.out 2).trans rfl
    have hc3_ : w'.cell? ⟨gb127, 3, none⟩ = some (.int .i64 a0_3) := (blk_cell BK127.out 3).trans rfl
    have hc4_ : w'.cell? ⟨gb127, 4, none⟩ = some (.int .i64 a0_4) := (blk_cell BK127.out 4).trans rfl
    refine value_ (w1 := w') (v := .slice A0_1 l0_1.length c0_1) (by rfl) rfl ?_ ?_
    ·go_simp
     (try simp only [i64_w])
     try rfl
    refine hK.out _ _ ⟨v130, adz_v130, m3_, (by rw [ha.out]; exact putSel_upk 5 hb_ rfl rfl rfl), Q_BK127, Q_HB, Q_HO131, Q_HA_HO131, Q_X3_⟩
   refine steps_cons ?_ ?_
   ·rintro b a w' ⟨v130, adz_v130, m3_, ha, Q_BK127, Q_HB, Q_HO131, Q_HA_HO131, Q_X3_⟩ hb_ hon hoff
    refine ⟨_, rfl, fun K hK => ?_⟩
    have e14 : a.tmps[14]? = some (.slice A0_1 l0_1.length c0_1) := by rw [ha]; exact putSel_on (e := (7, 14, .slice A0_1 l0_1.length c0_1)) 5 rfl rfl (hon 7 (by kernel_rfl)) rfl
    replace ha := Aside0.mk ha
    have BK127 := Aside0.mk Q_BK127
    have HB := Aside0.mk Q_HB
    refine goes_ Tryd.func29 (by kernel_rfl) rfl #[.slice A0_1 l0_1.length c0_1] (by rfl) rfl rfl (by first | (simp only [List.map_toArray, List.map_cons, List.map_nil, Act.eval, Array.getD_eq_getD_getElem?, Option.getD_some, e14]; done) | (simp only [List.map_toArray, List.map_cons, List.map_nil, Act.eval, Array.getD_eq_getD_getElem?, Option.getD_some, e14]; rfl)) ?_
    with_reducible refine (spec_l23Path.calls k _ _ l0_1 t133 _ ?side1 ?side2 A7.out).mono ?_
    (case side1 => exact z2_)
    (case side2 => exact HC0_1.out)
    rintro e w14 ⟨rfl, hb⟩
    refine ⟨_, rfl, ?_⟩
    have n0_ := Aside0.mk (blk_below (g := gb127) (o := .cells #[.int .i64 a0_0, .slice A0_1 l0_1.length c0_1, .int .i64 a0_2, .int .i64 a0_3, .int .i64 a0_4] 33 (0, 0)) z20_ hb)
    have n1_ := Aside0.mk (below_step z8_ hb)
    have z_HO131 := fun (h0_ : b 0 = true) => (show Kd.R Kd.string 9 w14 w.heap.size (fun _ => True) v130 y129 from by first | exact (Kd.R_below z41_ hb) | exact Kd.R_mono (Kd.R_below z41_ hb) (fun _ h_ => by first | trivial | exact h_ | exact h_.1))
    clear BK127
    clear HB
    have BK127 := n0_
    have HB := n1_
    clear n0_ n1_
    (try clear hb)
    (try clear hb2)
    (try clear hk)
    (try clear hi)
    refine hK.out _ _ ⟨v130, adz_v130, m3_, (by rw [ha.out]; exact putSel_upk 6 hb_ rfl rfl rfl), z20_, z8_, z_HO131, Q_HA_HO131, Q_X3_⟩
   refine steps_cons ?_ ?_
   ·rintro b a w' ⟨v130, adz_v130, m3_, ha, Q_BK127, Q_HB, Q_HO131, Q_HA_HO131, Q_X3_⟩ hb_ hon hoff
    refine ⟨_, rfl, fun K hK => ?_⟩
    have e12 : a.tmps[12]? = some (.string ((rdOf ByteArray.empty y129 a0_0) ++ (⟨#[32]⟩ : ByteArray))) := by rw [ha]; exact putSel_on (e := (5, 12, .string ((rdOf ByteArray.empty y129 a0_0) ++ (⟨#[32]⟩ : ByteArray)))) 4 rfl rfl (hon 5 (by kernel_rfl)) rfl
    have e15 : a.tmps[15]? = some (.string t133) := by rw [ha]; exact putSel_on (e := (8, 15, .string t133)) 6 rfl rfl (hon 8 (by kernel_rfl)) rfl
    replace ha := Aside0.mk ha
    have BK127 := Aside0.mk Q_BK127
    have HB := Aside0.mk Q_HB
    have HO131 := Aside0.mk (Q_HO131 (hon 0 (by kernel_rfl)))
    have HA_HO131 := Aside0.mk (Q_HA_HO131 (hon 0 (by kernel_rfl)))
    refine value_ (w1 := w') (v := .string (((rdOf ByteArray.empty y129 a0_0) ++ (⟨#[32]⟩ : ByteArray)) ++ t133)) (by rfl) rfl ?_ ?_
    ·go_simp
     (try simp only [i64_w])
     try rfl
    refine hK.out _ _ ⟨v130, adz_v130, m3_, (by rw [ha.out]; exact putSel_upk 7 hb_ rfl rfl rfl), Q_BK127, Q_HB, Q_HO131, Q_HA_HO131, Q_X3_⟩
   refine steps_cons ?_ ?_
   ·rintro b a w' ⟨v130, adz_v130, m3_, ha, Q_BK127, Q_HB, Q_HO131, Q_HA_HO131, Q_X3_⟩ hb_ hon hoff
    refine ⟨_, rfl, fun K hK => ?_⟩
    have e16 : a.tmps[16]? = some (.string (((rdOf ByteArray.empty y129 a0_0) ++ (⟨#[32]⟩ : ByteArray)) ++ t133)) := by rw [ha]; exact putSel_on (e := (9, 16, .string (((rdOf ByteArray.empty y129 a0_0) ++ (⟨#[32]⟩ : ByteArray)) ++ t133))) 7 rfl rfl (hon 9 (by kernel_rfl)) rfl
    replace ha := Aside0.mk ha
    have BK127 := Aside0.mk Q_BK127
    have HB := Aside0.mk Q_HB
    have HO131 := Aside0.mk (Q_HO131 (hon 0 (by kernel_rfl)))
    have HA_HO131 := Aside0.mk (Q_HA_HO131 (hon 0 (by kernel_rfl)))
    refine value_ (w1 := w') (v := .string (((rdOf ByteArray.empty y129 a0_0) ++ (⟨#[32]⟩ : ByteArray)) ++ t133)) (by rfl) rfl ?_ ?_
    ·go_simp
     (try simp only [i64_w])
     try rfl
    refine hK.out _ _ ⟨v130, adz_v130, m3_, (by rw [ha.out]; exact putSel_upk 8 hb_ rfl rfl rfl), Q_BK127, Q_HB, Q_HO131, Q_HA_HO131, Q_X3_⟩
   exact steps_nil
  rintro b a w18 hall ⟨v130, adz_v130, m3_, ha, Q_BK127, Q_HB, Q_HO131, Q_HA_HO131, Q_X3_⟩
  clear BK127 HB
  have hb0_ := hall 0 (by kernel_rfl)
  have hb2_ := hall 2 (by kernel_rfl)
  have hb3_ := hall 3 (by kernel_rfl)
  have hb4_ := hall 4 (by kernel_rfl)
  have hb5_ := hall 5 (by kernel_rfl)
  have hb7_ := hall 7 (by kernel_rfl)
  have hb8_ := hall 8 (by kernel_rfl)
  have hb9_ := hall 9 (by kernel_rfl)
  have hb10_ := hall 10 (by kernel_rfl)
  subst ha
  obtain rfl := Q_X3_ hb3_
  simp only [putSel, hb0_, hb2_, hb3_, hb4_, hb5_, hb7_, hb8_, hb9_, hb10_, if_true, Act.put, List.setIfInBounds_toArray, List.set_cons_zero, List.set_cons_succ]
  have BK127 := Aside0.mk Q_BK127
  clear Q_BK127
  have HB := Aside0.mk Q_HB
  clear Q_HB
  have HO131 := Aside0.mk (Q_HO131 hb0_)
  clear Q_HO131
  have HA_HO131 := Aside0.mk (Q_HA_HO131 hb0_)
  clear Q_HA_HO131
  clear hall hb0_ hb2_ hb3_ hb4_ hb5_ hb7_ hb8_ hb9_ hb10_
  obtain ⟨co19, eo19⟩ := HA_HO131.out
  clear HA_HO131
  subst eo19
  obtain ⟨hcz20_0, hcz20_1, hcz20_2, hcz20_3, hcz20_4, hfz20_0, hfz20_1, hfz20_2, hfz20_3, hfz20_4⟩ := bx5_ BK127.out
  go_upto_if 19 with (fail)
  go_cut [3] (fun v3 wc => ∃ (kq : Nat) (x3_8 : ByteArray), v3 = .string x3_8 ∧ Aside0 (spec_OpText.j0 kq x3_8 a0_0 l0_1 a0_2 a0_3 a0_4 = some r) ∧ Aside0 (kq ≤ k) ∧ Aside0 (wc.heap[gb127]? = some (.cells #[.int .i64 a0_0, (.slice A0_1 l0_1.length c0_1), .int .i64 a0_2, .int .i64 a0_3, .int .i64 a0_4] 33 (0, 0))) ∧ Aside0 (Below w.heap.size w wc))
  case first =>
   have H := HC9.out
   clear HC9
   by_cases c21 : a0_0 = 2
   ·rw [if_pos c21] at H
    have c21b0 : (a0_0 == 2) = true := beq_iff_eq.mpr c21
    have c21b1 : (a0_0 != 2) = false := bne_eq_false_iff_eq.mpr c21
    clear c21
    (first | rw [c21b0] | rw [c21b1] | (simp only [i64_w, i32_w]; rw [c21b0]) | skip)
    have H' := Aside0.mk H
    clear H
    go_wp2
    go_meet
    case rel => exact ⟨_, (((rdOf ByteArray.empty y129 a0_0) ++ (⟨#[32]⟩ : ByteArray)) ++ t133), z13_, H', ⟨z46_⟩, ⟨z20_⟩, ⟨z8_⟩⟩
   ·rw [if_neg c21] at H
    have c21b0 : (a0_0 == 2) = false := beq_eq_false_iff_ne.mpr c21
    have c21b1 : (a0_0 != 2) = true := bne_iff_ne.mpr c21
    (first | rw [c21b0] | rw [c21b1] | (simp only [i64_w, i32_w]; rw [c21b0]) | skip)
    obtain ⟨c22, H⟩ := ifs_ H
    have c22b0 := eq_true c22
    have c22b1 := decide_eq_true c22
    try have c22b2 : (9223372036854775807 < (((rdOf ByteArray.empty y129 a0_0) ++ (⟨#[32]⟩ : ByteArray)) ++ t133).size + 1) = False := eq_false (Nat.not_lt.2 c22)
    have c22s : (rdOf ByteArray.empty y129 a0_0).size + 1 + t133.size + 1 ≤ 9223372036854775807 := by have e_ := c22; simp only [ByteArray.size_append] at e_; exact e_
    have c22sb : (9223372036854775807 < (rdOf ByteArray.empty y129 a0_0).size + 1 + t133.size + 1) = False := eq_false (Nat.not_lt.2 c22s)
    obtain ⟨t134, A23, H⟩ := bnd_ H
    obtain ⟨c24, H⟩ := ifs_ H
    have c24b0 := eq_true c24
    have c24b1 := decide_eq_true c24
    try have c24b2 : (9223372036854775807 < ((((rdOf ByteArray.empty y129 a0_0) ++ (⟨#[32]⟩ : ByteArray)) ++ t133) ++ (⟨#[32]⟩ : ByteArray)).size + t134.size) = False := eq_false (Nat.not_lt.2 c24)
    have c24s : (rdOf ByteArray.empty y129 a0_0).size + 1 + t133.size + 1 + t134.size ≤ 9223372036854775807 := by have e_ := c24; simp only [ByteArray.size_append] at e_; exact e_
    have c24sb : (9223372036854775807 < (rdOf ByteArray.empty y129 a0_0).size + 1 + t133.size + 1 + t134.size) = False := eq_false (Nat.not_lt.2 c24s)
    have H' := Aside0.mk H
    clear H
    obtain ⟨hcz25_0, hcz25_1, hcz25_2, hcz25_3, hcz25_4, hfz25_0, hfz25_1, hfz25_2, hfz25_3, hfz25_4⟩ := bx5_ BK127.out
    go_wp2_with (first | ((with_reducible refine gate_callee (f := 30) rfl ?_); refine goesL_ (some 24) rfl rfl Tryd.func30 (by kernel_rfl) rfl #[.int .i64 a0_2] rfl z1_ ?_; (with_reducible refine (spec_LabelName.calls a0_2 t134 _ A23.out).mono ?_); rintro e w26 ⟨rfl, hb⟩; refine ⟨_, rfl, ?_⟩; replace HO131 := Aside0.mk (Kd.R_below z42_ hb); replace BK127 := Aside0.mk (blk_below (g := gb127) (o := .cells #[.int .i64 a0_0, .slice A0_1 l0_1.length c0_1, .int .i64 a0_2, .int .i64 a0_3, .int .i64 a0_4] 33 (0, 0)) z20_ hb); replace HB := Aside0.mk (below_step z8_ hb); (try clear hb)))
    go_meet
    case rel => exact ⟨_, (((((rdOf ByteArray.empty y129 a0_0) ++ (⟨#[32]⟩ : ByteArray)) ++ t133) ++ (⟨#[32]⟩ : ByteArray)) ++ t134), z13_, H', ⟨z46_⟩, ⟨z20_⟩, ⟨z8_⟩⟩
  case rest =>
   clear HC9
   try clear c1
   try clear qi1
   try clear c2
   try clear p2
   try clear c3
   try clear c4
   try clear c4b0
   try clear c5
   try clear c5b0
   try clear c6
   try clear c6b0
   try clear c6b1
   try clear c6b2
   try clear c8
   try clear c8b0
   try clear c8b1
   try clear c8b2
   try clear c10
   try clear qi13
   try clear c21
   try clear c21b0
   try clear c21b1
   try clear c22
   try clear c22b0
   try clear c22b1
   try clear c22b2
   try clear c24
   try clear c24b0
   try clear c24b1
   try clear c24b2
   try clear hcz11_0
   try clear hcz11_1
   try clear hcz11_2
   try clear hcz11_3
   try clear hcz11_4
   try clear hcz20_0
   try clear hcz20_1
   try clear hcz20_2
   try clear hcz20_3
   try clear hcz20_4
   try clear hcz25_0
   try clear hcz25_1
   try clear hcz25_2
   try clear hcz25_3
   try clear hcz25_4
   try clear hfz11_0
   try clear hfz11_1
   try clear hfz11_2
   try clear hfz11_3
   try clear hfz11_4
   try clear hfz20_0
   try clear hfz20_1
   try clear hfz20_2
   try clear hfz20_3
   try clear hfz20_4
   try clear hfz25_0
   try clear hfz25_1
   try clear hfz25_2
   try clear hfz25_3
   try clear hfz25_4
   obtain ⟨kq, x3_8, rfl, HA, HJ8, BK127, HB⟩ := hcut
   cases kq with
   | zero => exact absurd HA.out (by simp [spec_OpText.j0])
   | succ kj8 =>
    have H := HA.out
    clear HA
    simp only [spec_OpText.j0] at H
    by_cases c27 : a0_0 = 3
    ·rw [if_pos c27] at H
     have c27b0 : (a0_0 == 3) = true := beq_iff_eq.mpr c27
     have c27b1 : (a0_0 != 3) = false := bne_eq_false_iff_eq.mpr c27
     clear c27
     obtain ⟨c28, H⟩ := ifs_ H
     have c28b0 := eq_true c28
     have c28b1 := decide_eq_true c28
     try have c28b2 : (9223372036854775807 < x3_8.size + 1) = False := eq_false (Nat.not_lt.2 c28)
     obtain ⟨t135, A29, H⟩ := bnd_ H
     obtain ⟨c30, H⟩ := ifs_ H
     have c30b0 := eq_true c30
     have c30b1 := decide_eq_true c30
     try have c30b2 : (9223372036854775807 < (x3_8 ++ (⟨#[32]⟩ : ByteArray)).size + t135.size) = False := eq_false (Nat.not_lt.2 c30)
     have c30s : x3_8.size + 1 + t135.size ≤ 9223372036854775807 := by have e_ := c30; simp only [ByteArray.size_append] at e_; exact e_
     have c30sb : (9223372036854775807 < x3_8.size + 1 + t135.size) = False := eq_false (Nat.not_lt.2 c30s)
     obtain ⟨c31, H⟩ := ifs_ H
     have c31b0 := eq_true c31
     have c31b1 := decide_eq_true c31
     try have c31b2 : (9223372036854775807 < ((x3_8 ++ (⟨#[32]⟩ : ByteArray)) ++ t135).size + 1) = False := eq_false (Nat.not_lt.2 c31)
     have c31s : x3_8.size + 1 + t135.size + 1 ≤ 9223372036854775807 := by have e_ := c31; simp only [ByteArray.size_append] at e_; exact e_
     have c31sb : (9223372036854775807 < x3_8.size + 1 + t135.size + 1) = False := eq_false (Nat.not_lt.2 c31s)
     obtain ⟨t136, A32, H⟩ := bnd_ H
     obtain ⟨c33, H⟩ := ifs_ H
     have c33b0 := eq_true c33
     have c33b1 := decide_eq_true c33
     try have c33b2 : (9223372036854775807 < (((x3_8 ++ (⟨#[32]⟩ : ByteArray)) ++ t135) ++ (⟨#[32]⟩ : ByteArray)).size + t136.size) = False := eq_false (Nat.not_lt.2 c33)
     have c33s : x3_8.size + 1 + t135.size + 1 + t136.size ≤ 9223372036854775807 := by have e_ := c33; simp only [ByteArray.size_append] at e_; exact e_
     have c33sb : (9223372036854775807 < x3_8.size + 1 + t135.size + 1 + t136.size) = False := eq_false (Nat.not_lt.2 c33s)
     obtain rfl := Option.some.inj H
     obtain ⟨hcz34_0, hcz34_1, hcz34_2, hcz34_3, hcz34_4, hfz34_0, hfz34_1, hfz34_2, hfz34_3, hfz34_4⟩ := bx5_ BK127.out
     try go_wp2
     have n0_ := Aside0.mk (blk_drew BK127.out)
     have n1_ := Aside0.mk (below_drew1 HB.out)
     clear BK127
     clear HB
     have BK127 := n0_
     have HB := n1_
     clear n0_ n1_
     refine start_ (n := 12) (S := fun w' => w'.cell? ⟨gb127, 0, none⟩ = some (.int .i64 a0_0) ∧ w'.cell? ⟨gb127, 1, none⟩ = some (.slice A0_1 l0_1.length c0_1) ∧ w'.cell? ⟨gb127, 2, none⟩ = some (.int .i64 a0_2) ∧ w'.cell? ⟨gb127, 3, none⟩ = some (.int .i64 a0_3) ∧ w'.cell? ⟨gb127, 4, none⟩ = some (.int .i64 a0_4)) (ds := []) (fl_ 12 0) (by kernel_rfl) rfl (fl_zero _) ⟨(blk_cell BK127.out 0).trans rfl, (blk_cell BK127.out 1).trans rfl, (blk_cell BK127.out 2).trans rfl, (blk_cell BK127.out 3).trans rfl, (blk_cell BK127.out 4).trans rfl⟩ (fun hHeld => ?_); refine with_tabW spec_OpText.tab7 spec_OpText.bits7 (fun HT_ HW_ => ?_)
     generalize wc.drew = w35 at BK127 HB hHeld ⊢
     iterate 3 refine zp_ HT_ rfl rfl (by kernel_rfl) (fun _ _ _ h => h) (by rfl) ?_
     refine zpg_ (i := 7) (ra_ [3, 4, 1, 4]) HT_ rfl rfl (by kernel_rfl) (fun _ _ _ h => h) (by rfl) ?_
     refine ztg_ (i := 3) (ra_ [4, 3, 1, 4]) HT_ HW_ rfl rfl (by kernel_rfl) (fun _ _ _ h => h) (by rfl) hHeld ?_ z39_
     refine ztg_ (i := 8) (ra_ [4, 3, 2, 3]) HT_ HW_ rfl rfl (by kernel_rfl) (fun _ _ _ h => h) (by rfl) hHeld ?_ z39_
     refine one_ (i := 4) (N := some 33) (ra_ [5, 2, 2, 3]) rfl rfl (one_of HT_.out (by kernel_rfl)) (by decide) (fun K hK => ?_)
     refine goes_ Tryd.func21 (by kernel_rfl) rfl #[.int .i64 a0_3] (by rfl) rfl rfl z1_ ?_
     with_reducible refine (spec_Dec.calls kj8 a0_3 t135 _ A29.out).mono ?_
     rintro e w36 ⟨rfl, hb⟩
     refine ⟨_, rfl, ?_⟩
     have n0_ := Aside0.mk (blk_below (g := gb127) (o := .cells #[.int .i64 a0_0, .slice A0_1 l0_1.length c0_1, .int .i64 a0_2, .int .i64 a0_3, .int .i64 a0_4] 33 (0, 0)) z20_ hb)
     have n1_ := Aside0.mk (below_step z8_ hb)
     clear BK127
     clear HB
     have BK127 := n0_
     have HB := n1_
     clear n0_ n1_
     (try clear hb)
     (try clear hb2)
     (try clear hk)
     (try clear hi)
     refine hK.out _ _ ⟨(blk_cell BK127.out 0).trans rfl, (blk_cell BK127.out 1).trans rfl, (blk_cell BK127.out 2).trans rfl, (blk_cell BK127.out 3).trans rfl, (blk_cell BK127.out 4).trans rfl⟩ (fun hHeld => ?_)
     clear hK K
     refine zn_ rfl ?_
     refine zpg_ (i := 5) (ra_ [6, 1, 2, 3]) HT_ rfl rfl (by kernel_rfl) (fun _ _ _ h => h) (by rfl) ?_
     refine zpg_ (i := 6) (fl_ 12 9) HT_ rfl rfl (by kernel_rfl) (fun _ _ _ h => h) (by rfl) ?_
     refine one_ (i := 9) (N := some 38) (fl_ 12 10) rfl rfl (one_of HT_.out (by kernel_rfl)) (by decide) (fun K hK => ?_)
     refine goes_ Tryd.func21 (by kernel_rfl) rfl #[.int .i64 a0_4] (by rfl) rfl rfl z1_ ?_
     with_reducible refine (spec_Dec.calls kj8 a0_4 t136 _ A32.out).mono ?_
     rintro e w37 ⟨rfl, hb⟩
     refine ⟨_, rfl, ?_⟩
     have n0_ := Aside0.mk (blk_below (g := gb127) (o := .cells #[.int .i64 a0_0, .slice A0_1 l0_1.length c0_1, .int .i64 a0_2, .int .i64 a0_3, .int .i64 a0_4] 33 (0, 0)) z20_ hb)
     have n1_ := Aside0.mk (below_step z8_ hb)
     clear BK127
     clear HB
     have BK127 := n0_
     have HB := n1_
     clear n0_ n1_
     (try clear hb)
     (try clear hb2)
     (try clear hk)
     (try clear hi)
     refine hK.out _ _ ⟨(blk_cell BK127.out 0).trans rfl, (blk_cell BK127.out 1).trans rfl, (blk_cell BK127.out 2).trans rfl, (blk_cell BK127.out 3).trans rfl, (blk_cell BK127.out 4).trans rfl⟩ (fun hHeld => ?_)
     clear hK K
     refine zn_ rfl ?_
     iterate 2 refine zp_ HT_ rfl rfl (by kernel_rfl) (fun _ _ _ h => h) (by rfl) ?_
     refine done_ (done_of HT_.out (by kernel_rfl)) ?_
     try go_wp2
     go_ret
     exact ⟨z4_, z8_⟩
    ·rw [if_neg c27] at H
     have c27b0 : (a0_0 == 3) = false := beq_eq_false_iff_ne.mpr c27
     have c27b1 : (a0_0 != 3) = true := bne_iff_ne.mpr c27
     obtain rfl := Option.some.inj H
     obtain ⟨hcz38_0, hcz38_1, hcz38_2, hcz38_3, hcz38_4, hfz38_0, hfz38_1, hfz38_2, hfz38_3, hfz38_4⟩ := bx5_ BK127.out
     go_wp2
     go_ret
     exact ⟨z4_, z8_⟩
 ·replace c3 := Bool.eq_false_iff.mpr c3
  subst c3
  replace H := iff_ H
  obtain rfl := Option.some.inj H
  go_enter Tryd.func10, Tryd.ntmps10
  go_wp2_with (first | ((with_reducible refine gate_dst (N := 1) rfl ?_); refine box_event ?hg (N := 1) ?hd (cs := #[.int .i64 a0_0, .slice A0_1 l0_1.length c0_1, .int .i64 a0_2, .int .i64 a0_3, .int .i64 a0_4]) (t := 33) ?hr ?_; (case hd => rfl); (case hg => rfl); (case hr => exact z15_); intro gb127 hg w39 hbox hb; have BK127 := Aside0.mk (hbox); have GW127 := Aside0.mk ((by rw [hg]; exact (below_size z0_) : w.heap.size ≤ gb127)); have GE127 := Aside0.mk ((by rw [hg]; exact (below_size z0_) : w.heap.size ≤ gb127)); replace HB := Aside0.mk (below_step z0_ hb); clear hb hbox hg; obtain ⟨hcz40_0, hcz40_1, hcz40_2, hcz40_3, hcz40_4, hfz40_0, hfz40_1, hfz40_2, hfz40_3, hfz40_4⟩ := bx5_ BK127.out) | ((with_reducible refine gate_callee (f := 28) rfl ?_); refine goesL_ (some 5) rfl rfl Tryd.func28 (by kernel_rfl) rfl #[.agg #[.int .i64 a0_0, .slice A0_1 l0_1.length c0_1, .int .i64 a0_2, .int .i64 a0_3, .int .i64 a0_4]] rfl z1_ ?_; (with_reducible refine (spec_OpOk.calls k a0_0 _ _ l0_1 a0_2 a0_3 a0_4 false _ ?side1 ?side2 A2.out).mono ?_); (case side1 => exact z2_); (case side2 => exact HC0_1.out); rintro e w41 ⟨rfl, hb⟩; refine ⟨_, rfl, ?_⟩; replace BK127 := Aside0.mk (blk_below (g := gb127) (o := .cells #[.int .i64 a0_0, .slice A0_1 l0_1.length c0_1, .int .i64 a0_2, .int .i64 a0_3, .int .i64 a0_4] 33 (0, 0)) z20_ hb); replace HB := Aside0.mk (below_step z8_ hb); (try clear hb)))
  go_ret
  exact ⟨z4_, z8_⟩

/-! ### laws_toIntS: function 31 -/
def laws_toIntS.l0 : Nat → List Int → List Int → Int → Option (List Int)
 | 0, _, _, _ => none
 | k + 1, x0, x3, x4 => if x4 < (x0.length : Int) then (if 0 ≤ x4 then (if x4 < (x3.length : Int) then (laws_toIntS.l0 k x0 (x3.set (x4 : Int).toNat (rd x0 x4)) (wrap64 (x4 + 1))) else (none)) else (none)) else (some x3)
def laws_toIntS.f (k : Nat) (l0 : List Int) : Option (List Int) := if 0 ≤ (l0.length : Int) then (if ((l0.length : Int) : Int).toNat ≤ 35184372088832 then (laws_toIntS.l0 k l0 (List.replicate ((l0.length : Int) : Int).toNat 0) 0) else (none)) else (none)
set_option maxHeartbeats 8000000 in
set_option maxRecDepth 100000 in
theorem laws_toIntS.calls (k : Nat) (A0 : Option Addr) (c0 : Nat) (l0 : List Int) (r : List Int) (w : World) (hr0 : Kd.C (Kd.int .i64) w A0 l0.length l0) (hc0 : l0.length ≤ c0) (h : laws_toIntS.f k l0 = some r) :
  Calls Tryd.prog 31 #[.slice A0 l0.length c0] w fun e w' => ∃ v0_ : Value, e = .returned (v0_) ∧ Kd.R (Kd.int .i64) 3 w' w.heap.size (fun _ => True) v0_ r ∧ Below w.heap.size w w' := by
 have HR0 := Aside0.mk hr0
 have HC0 := Aside0.mk hc0
 clear hr0 hc0
 have HB := Aside0.mk (Below.refl w.heap.size w)
 have H : (if 0 ≤ (l0.length : Int) then (if ((l0.length : Int) : Int).toNat ≤ 35184372088832 then (laws_toIntS.l0 k l0 (List.replicate ((l0.length : Int) : Int).toNat 0) 0) else (none)) else (none)) = some r := h
 clear h
 obtain ⟨c2b0, c2b1, H⟩ := ife_ H
 obtain ⟨c3b0, c3b1, H⟩ := ife_ H
 first | ((with_reducible have hz_ := gy_ H); obtain ⟨y137, Ny137, H⟩ := hz_) | (generalize hy_ : ((List.replicate ((l0.length : Int) : Int).toNat 0) : List Int) = y137 at H; have Ny137 := Aside0.mk hy_.symm; clear hy_)
 have H' := Aside0.mk H
 clear H
 go_enter Tryd.func31, Tryd.ntmps31
 go_wp2_with (first | ((with_reducible refine gate_dst (N := 7) rfl ?_); refine Kd.R_make (Kd.int .i64) _ 3 rfl (N := 7) rfl 28 _ _ rfl (l0.length : Int) rfl rfl Tryd.underlying28 (.int .i64 0) 8 info3 rfl (by decide) (by omega) 0 (ok := fun _ => True) (okp := fun _ => True) rfl (fun _ hk => hk) trivial (odt_) (Nat.le_trans (Nat.mul_le_mul_right _ (odt_ : (l0.length : Int).toNat ≤ 35184372088832)) (by omega)) (Below.refl _ _) (Nat.le_refl _) ?_; intro v138 w4 ho5 hb hg_ hnew_; clear hg_ hnew_; (first | rw [← Ny137.out] at ho5 | (simp only [Int.reduceToNat] at ho5; rw [← Ny137.out] at ho5)); have HO139 := Aside0.mk (Kd.R_lower ho5 (below_size z0_)); replace HB := Aside0.mk (below_step z0_ hb); clear hb ho5))
 go_loopg [4] k (fun kq v4 w' => ∃ (x3_1 : List Int) (x4_1 : Int), v4 = .int .i64 x4_1 ∧ Aside0 (laws_toIntS.l0 kq l0 x3_1 x4_1 = some r) ∧ Aside0 (kq ≤ k) ∧ Aside0 (Kd.R (Kd.int .i64) 3 w' w.heap.size (fun _ => True) v138 x3_1) ∧ Aside0 (Below w.heap.size w w'))
 case atStart => exact ⟨(y137), (0), z13_, H', ⟨Nat.le_refl _⟩, ⟨by (with_reducible repeat (first | apply Kd.R_alloc | apply Kd.R_drewN | apply Kd.R_drew)); exact HO139.out⟩, ⟨z0_⟩⟩
 case round =>
  clear H'
  try clear c2
  try clear c2b0
  try clear c2b1
  try clear p2
  try clear c3
  try clear c3b0
  try clear c3b1
  obtain ⟨x3_1, x4_1, rfl, HA, HK1, HO_3, HB⟩ := hrel
  cases gk with
  | zero => exact absurd HA.out (by simp [laws_toIntS.l0])
  | succ k1 =>
   have H := HA.out
   clear HA
   simp only [laws_toIntS.l0] at H
   by_cases c6 : x4_1 < (l0.length : Int)
   ·rw [if_pos c6] at H
    have c6b0 := decide_eq_true c6
    clear c6
    obtain ⟨c7b0, H⟩ := ifd_ H
    obtain ⟨c8b0, H⟩ := ifd_ H
    first | ((with_reducible have hz_ := gy_ H); obtain ⟨y141, Ny141, H⟩ := hz_) | (generalize hy_ : ((x3_1.set (x4_1 : Int).toNat (rd l0 x4_1)) : List Int) = y141 at H; have Ny141 := Aside0.mk hy_.symm; clear hy_)
    have H' := Aside0.mk H
    clear H
    have p140 : 0 ≤ (x4_1 : Int) := odt_
    have q140 : x4_1 < (l0.length : Int) := odt_
    obtain ⟨ad140, e140, hx140_0⟩ := Kd.at_int HR0.out x4_1 p140 q140
    cases e140
    replace hx140_0 := (HB.out.cell (World.block_lt_of_cell? w _ hx140_0)).trans hx140_0
    replace p140 := eq_true p140
    replace q140 := eq_true q140
    have p9 : 0 ≤ (x4_1 : Int) := odt_
    have q9 : (x4_1 : Int) < ((x3_1.length : Int) : Int) := odt_
    obtain ⟨go9, co9, eo9, gb9, gl9, cl9, HG9⟩ := Kd.R_form HO_3.out (by omega)
    (first | cases eo9 | (injection eo9 with ea_ en_ ec_; (first | subst ea_ | (injection ea_ with ea_; subst ea_)); subst ec_; clear en_))
    have GB9 := Aside0.mk gb9
    have GG9 := Aside0.mk HG9
    clear gb9 gl9 HG9
    obtain ⟨hx9_0, hf9_0⟩ := Kd.R_celln 0 HO_3.out (x4_1 : Int) p9 q9
    replace p9 := eq_true p9
    replace q9 := eq_true q9
    have HP10 := Kd.R_putg HO_3.out (x4_1 : Int) (rd l0 x4_1)
    go_wp2_with (first | ((with_reducible refine gate_store (t := 3) (p := 20) rfl ?_); refine store_event (t := 3) (p := 20) (v := ?vo_w11) (w1 := (wr.setCell ⟨go9, (x4_1 : Int).toNat, none⟩ (.int .i64 (rd l0 x4_1)))) ?hg ?ho ?hn ?hr ?_; (case ho => rfl); (case hg => rfl); (case hn => rfl); (case hr => exact z15_); intro w11 hw; have hg : wr.grownBy w11 (some go9) := (by rw [hw]; exact HP10.2); have hp_ : Kd.R (Kd.int .i64) 3 w11 w.heap.size (fun _ => True) (.slice (some ⟨go9, 0, none⟩) x3_1.length co9) y141 := (by rw [hw, Ny141.out]; exact HP10.1); clear HP10; replace HO_3 := Aside0.mk (hp_); replace HB := Aside0.mk ((by rw [hw]; exact below_set (HB.out) GB9.out : Below w.heap.size w w11)); clear hg hw hp_))
    go_roundg k1
    case measure => have := HK1.out; omega
    case rel => exact ⟨(y141), (wrap64 (x4_1 + 1)), z13_, H', ⟨z44_⟩, ⟨z22_⟩, ⟨z0_⟩⟩
   ·rw [if_neg c6] at H
    have c6b0 := decide_eq_false c6
    clear c6
    obtain rfl := Option.some.inj H
    go_wp2
    go_ret
    exact ⟨_, z4_, z22_, z0_⟩

/-! ### laws_toOp: function 11 -/
def laws_toOp.f (k : Nat) (a0_0 : Int) (l0_1 : List Int) (a0_2 : Int) (a0_3 : Int) (a0_4 : Int) : Option (Int × List Int × Int × Int × Int) := (laws_toIntS.f k l0_1).bind fun t145 => (some (a0_0, t145, a0_2, a0_3, a0_4))
set_option maxHeartbeats 8000000 in
set_option maxRecDepth 100000 in
theorem laws_toOp.calls (k : Nat) (a0_0 : Int) (A0_1 : Option Addr) (c0_1 : Nat) (l0_1 : List Int) (a0_2 : Int) (a0_3 : Int) (a0_4 : Int) (r1 : Int) (r2 : List Int) (r3 : Int) (r4 : Int) (r5 : Int) (w : World) (hr0_1 : Kd.C (Kd.int .i64) w A0_1 l0_1.length l0_1) (hc0_1 : l0_1.length ≤ c0_1) (h : laws_toOp.f k a0_0 l0_1 a0_2 a0_3 a0_4 = some (r1, r2, r3, r4, r5)) :
  Calls Tryd.prog 11 #[.agg #[.int .i64 a0_0, .slice A0_1 l0_1.length c0_1, .int .i64 a0_2, .int .i64 a0_3, .int .i64 a0_4]] w fun e w' => ∃ v1_ : Value, e = .returned (.agg #[.int .i64 r1, v1_, .int .i64 r3, .int .i64 r4, .int .i64 r5]) ∧ Kd.R (Kd.int .i64) 3 w' w.heap.size (fun _ => True) v1_ r2 ∧ Below w.heap.size w w' := by
 have hu30 := Tryd.underlying30
 have hu33 := Tryd.underlying33
 have HR0_1 := Aside0.mk hr0_1
 have HC0_1 := Aside0.mk hc0_1
 clear hr0_1 hc0_1
 have HB := Aside0.mk (Below.refl w.heap.size w)
 have H : ((laws_toIntS.f k l0_1).bind fun t145 => (some (a0_0, t145, a0_2, a0_3, a0_4))) = some (r1, r2, r3, r4, r5) := h
 clear h
 obtain ⟨t145, A2, H⟩ := bnd_ H
 simp only [Option.some.injEq, Prod.mk.injEq] at H
 obtain ⟨rfl, rfl, rfl, rfl, rfl⟩ := H
 go_enter Tryd.func11, Tryd.ntmps11
 go_wp2_with (first | ((with_reducible refine gate_dst (N := 1) rfl ?_); refine box_event ?hg (N := 1) ?hd (cs := #[.int .i64 a0_0, .slice A0_1 l0_1.length c0_1, .int .i64 a0_2, .int .i64 a0_3, .int .i64 a0_4]) (t := 30) ?hr ?_; (case hd => rfl); (case hg => rfl); (case hr => exact z15_); intro gb142 hg w3 hbox hb; have BK142 := Aside0.mk (hbox); have GW142 := Aside0.mk ((by rw [hg]; exact (below_size z0_) : w.heap.size ≤ gb142)); have GE142 := Aside0.mk ((by rw [hg]; exact (below_size z0_) : w.heap.size ≤ gb142)); replace HB := Aside0.mk (below_step z0_ hb); clear hb hbox hg) | ((with_reducible refine gate_dst (N := 2) rfl ?_); refine box_event ?hg (N := 2) ?hd (cs := #[.int .i64 0, .slice none 0 0, .int .i64 0, .int .i64 0, .int .i64 0]) (t := 33) ?hr ?_; (case hd => rfl); (case hg => rfl); (case hr => exact z15_); intro gb143 hg w4 hbox hb; have BK143 := Aside0.mk (hbox); have GW143 := Aside0.mk ((by rw [hg]; exact (below_size z33_) : w.heap.size ≤ gb143)); have GE143 := Aside0.mk ((by rw [hg]; exact (below_size z33_) : w.heap.size ≤ gb143)); replace HB := Aside0.mk (below_step z33_ hb); have NB142_143 := Aside0.mk ((by rw [hg]; exact Nat.ne_of_lt (blk_lt (g := gb142) (o := .cells #[.int .i64 a0_0, .slice A0_1 l0_1.length c0_1, .int .i64 a0_2, .int .i64 a0_3, .int .i64 a0_4] 30 (0, 0)) z29_) : gb142 ≠ gb143)); have NB143_142 := Aside0.mk ((by rw [hg]; exact Nat.ne_of_gt (blk_lt (g := gb142) (o := .cells #[.int .i64 a0_0, .slice A0_1 l0_1.length c0_1, .int .i64 a0_2, .int .i64 a0_3, .int .i64 a0_4] 30 (0, 0)) z29_) : gb143 ≠ gb142)); replace BK142 := Aside0.mk (blk_below (g := gb142) (o := .cells #[.int .i64 a0_0, .slice A0_1 l0_1.length c0_1, .int .i64 a0_2, .int .i64 a0_3, .int .i64 a0_4] 30 (0, 0)) z29_ hb); clear hb hbox hg) | ((with_reducible refine gate_dst (N := 3) rfl ?_); refine box_event ?hg (N := 3) ?hd (cs := #[.int .i64 0, .slice none 0 0, .int .i64 0, .int .i64 0, .int .i64 0]) (t := 33) ?hr ?_; (case hd => rfl); (case hg => rfl); (case hr => exact z15_); intro gb144 hg w5 hbox hb; have BK144 := Aside0.mk (hbox); have GW144 := Aside0.mk ((by rw [hg]; exact (below_size z30_) : w.heap.size ≤ gb144)); have GE144 := Aside0.mk ((by rw [hg]; exact (below_size z30_) : w.heap.size ≤ gb144)); replace HB := Aside0.mk (below_step z30_ hb); have NB142_144 := Aside0.mk ((by rw [hg]; exact Nat.ne_of_lt (blk_lt (g := gb142) (o := .cells #[.int .i64 a0_0, .slice A0_1 l0_1.length c0_1, .int .i64 a0_2, .int .i64 a0_3, .int .i64 a0_4] 30 (0, 0)) z29_) : gb142 ≠ gb144)); have NB144_142 := Aside0.mk ((by rw [hg]; exact Nat.ne_of_gt (blk_lt (g := gb142) (o := .cells #[.int .i64 a0_0, .slice A0_1 l0_1.length c0_1, .int .i64 a0_2, .int .i64 a0_3, .int .i64 a0_4] 30 (0, 0)) z29_) : gb144 ≠ gb142)); replace BK142 := Aside0.mk (blk_below (g := gb142) (o := .cells #[.int .i64 a0_0, .slice A0_1 l0_1.length c0_1, .int .i64 a0_2, .int .i64 a0_3, .int .i64 a0_4] 30 (0, 0)) z29_ hb); have NB143_144 := Aside0.mk ((by rw [hg]; exact Nat.ne_of_lt (blk_lt (g := gb143) (o := .cells #[.int .i64 0, .slice none 0 0, .int .i64 0, .int .i64 0, .int .i64 0] 33 (0, 0)) z35_) : gb143 ≠ gb144)); have NB144_143 := Aside0.mk ((by rw [hg]; exact Nat.ne_of_gt (blk_lt (g := gb143) (o := .cells #[.int .i64 0, .slice none 0 0, .int .i64 0, .int .i64 0, .int .i64 0] 33 (0, 0)) z35_) : gb144 ≠ gb143)); replace BK143 := Aside0.mk (blk_below (g := gb143) (o := .cells #[.int .i64 0, .slice none 0 0, .int .i64 0, .int .i64 0, .int .i64 0] 33 (0, 0)) z35_ hb); clear hb hbox hg; have hnb6 := NB142_143.out; have hnc6 := NB143_142.out; have hnb7 := NB142_144.out; have hnc7 := NB144_142.out; obtain ⟨hcz8_0, hcz8_1, hcz8_2, hcz8_3, hcz8_4, hfz8_0, hfz8_1, hfz8_2, hfz8_3, hfz8_4⟩ := bx5_ BK142.out; have hnb9 := NB144_143.out; have hnc9 := NB143_144.out; obtain ⟨hcz10_0, hcz10_1, hcz10_2, hcz10_3, hcz10_4, hfz10_0, hfz10_1, hfz10_2, hfz10_3, hfz10_4⟩ := bx5_ BK144.out) | ((with_reducible refine gate_callee (f := 31) rfl ?_); refine goesL_ (some 9) rfl rfl Tryd.func31 (by kernel_rfl) rfl #[.slice A0_1 l0_1.length c0_1] rfl z1_ ?_; (with_reducible refine (laws_toIntS.calls k _ _ l0_1 t145 _ ?side1 ?side2 A2.out).mono ?_); (case side1 => exact Kd.C_below HR0_1.out z27_); (case side2 => exact HC0_1.out); rintro e w11 ⟨v146, rfl, ho0, hb⟩; refine ⟨_, rfl, ?_⟩; have HO147 := Aside0.mk (Kd.R_lower ho0 (below_size z27_)); replace BK142 := Aside0.mk (blk_below (g := gb142) (o := .cells #[.int .i64 a0_0, .slice A0_1 l0_1.length c0_1, .int .i64 a0_2, .int .i64 a0_3, .int .i64 a0_4] 30 (0, 0)) (by (with_reducible repeat (first | refine blk_drewN ?_ _ | refine blk_drew ?_ | refine blk_alloc ?_ _)); refine blk_far ?_ NB142_144.out _; (with_reducible repeat (first | refine blk_drewN ?_ _ | refine blk_drew ?_ | refine blk_alloc ?_ _)); exact BK142.out) hb); replace BK143 := Aside0.mk (blk_below (g := gb143) (o := .cells #[.int .i64 0, .slice none 0 0, .int .i64 0, .int .i64 0, .int .i64 0] 33 (0, 0)) (by (with_reducible repeat (first | refine blk_drewN ?_ _ | refine blk_drew ?_ | refine blk_alloc ?_ _)); refine blk_far ?_ NB143_144.out _; (with_reducible repeat (first | refine blk_drewN ?_ _ | refine blk_drew ?_ | refine blk_alloc ?_ _)); exact BK143.out) hb); replace BK144 := Aside0.mk (blk_below (g := gb144) (o := .cells #[.int .i64 a0_0, .slice none 0 0, .int .i64 0, .int .i64 0, .int .i64 0] 33 (0, 0)) (by (with_reducible repeat (first | refine blk_drewN ?_ _ | refine blk_drew ?_ | refine blk_alloc ?_ _)); refine blk_put (cs := #[.int .i64 0, .slice none 0 0, .int .i64 0, .int .i64 0, .int .i64 0]) ?_ 0 _ rfl; (with_reducible repeat (first | refine blk_drewN ?_ _ | refine blk_drew ?_ | refine blk_alloc ?_ _)); exact BK144.out) hb); replace HB := Aside0.mk (below_step z27_ hb); (try clear hb ho0); obtain ⟨Ao12, co12, eo12⟩ := Kd.R_slice HO147.out; subst eo12; obtain ⟨hcz13_0, hcz13_1, hcz13_2, hcz13_3, hcz13_4, hfz13_0, hfz13_1, hfz13_2, hfz13_3, hfz13_4⟩ := bx5_ BK144.out; obtain ⟨hcz14_0, hcz14_1, hcz14_2, hcz14_3, hcz14_4, hfz14_0, hfz14_1, hfz14_2, hfz14_3, hfz14_4⟩ := bx5_ BK142.out; obtain ⟨hcz15_0, hcz15_1, hcz15_2, hcz15_3, hcz15_4, hfz15_0, hfz15_1, hfz15_2, hfz15_3, hfz15_4⟩ := bx5_ BK143.out))
 refine bodyPost_ret (results_cell_row rfl _ _ gb143 33 #[.int .i64 a0_0, .slice Ao12 t145.length co12, .int .i64 a0_2, .int .i64 a0_3, .int .i64 a0_4] (0, 0) _ rfl (by (with_reducible repeat (first | refine blk_drewN ?_ _ | refine blk_drew ?_ | refine blk_alloc ?_ _)); refine blk_put (cs := #[.int .i64 a0_0, .slice Ao12 t145.length co12, .int .i64 a0_2, .int .i64 a0_3, .int .i64 0]) ?_ 4 _ rfl; (with_reducible repeat (first | refine blk_drewN ?_ _ | refine blk_drew ?_ | refine blk_alloc ?_ _)); refine blk_put (cs := #[.int .i64 a0_0, .slice Ao12 t145.length co12, .int .i64 a0_2, .int .i64 0, .int .i64 0]) ?_ 3 _ rfl; (with_reducible repeat (first | refine blk_drewN ?_ _ | refine blk_drew ?_ | refine blk_alloc ?_ _)); refine blk_put (cs := #[.int .i64 a0_0, .slice Ao12 t145.length co12, .int .i64 0, .int .i64 0, .int .i64 0]) ?_ 2 _ rfl; (with_reducible repeat (first | refine blk_drewN ?_ _ | refine blk_drew ?_ | refine blk_alloc ?_ _)); refine blk_put (cs := #[.int .i64 a0_0, .slice none 0 0, .int .i64 0, .int .i64 0, .int .i64 0]) ?_ 1 _ rfl; (with_reducible repeat (first | refine blk_drewN ?_ _ | refine blk_drew ?_ | refine blk_alloc ?_ _)); refine blk_put (cs := #[.int .i64 0, .slice none 0 0, .int .i64 0, .int .i64 0, .int .i64 0]) ?_ 0 _ rfl; (with_reducible repeat (first | refine blk_drewN ?_ _ | refine blk_drew ?_ | refine blk_alloc ?_ _)); refine blk_far ?_ NB143_144.out _; (with_reducible repeat (first | refine blk_drewN ?_ _ | refine blk_drew ?_ | refine blk_alloc ?_ _)); refine blk_far ?_ NB143_144.out _; (with_reducible repeat (first | refine blk_drewN ?_ _ | refine blk_drew ?_ | refine blk_alloc ?_ _)); refine blk_far ?_ NB143_144.out _; (with_reducible repeat (first | refine blk_drewN ?_ _ | refine blk_drew ?_ | refine blk_alloc ?_ _)); refine blk_far ?_ NB143_144.out _; (with_reducible repeat (first | refine blk_drewN ?_ _ | refine blk_drew ?_ | refine blk_alloc ?_ _)); exact BK143.out) Tryd.underlying33 rfl (by kernel_rfl)) rfl ?_
 exact ⟨_, z4_, by (with_reducible repeat (first | apply Kd.R_alloc | apply Kd.R_drewN | apply Kd.R_drew)); exact Kd.R_mono (Kd.R_far (p := ⟨gb143, 4, none⟩) (Kd.R_far (p := ⟨gb143, 3, none⟩) (Kd.R_far (p := ⟨gb143, 2, none⟩) (Kd.R_far (p := ⟨gb143, 1, none⟩) (Kd.R_far (p := ⟨gb143, 0, none⟩) (Kd.R_far (p := ⟨gb144, 4, none⟩) (Kd.R_far (p := ⟨gb144, 3, none⟩) (Kd.R_far (p := ⟨gb144, 2, none⟩) (Kd.R_far (p := ⟨gb144, 1, none⟩) (Kd.R_types (Kd.R_types HO147.out BK144.out (by decide)) BK143.out (by decide)) (fun _ hk => hk.1.2) (.slice Ao12 t145.length co12)) (fun _ hk => hk.1.2) (.int .i64 a0_2)) (fun _ hk => hk.1.2) (.int .i64 a0_3)) (fun _ hk => hk.1.2) (.int .i64 a0_4)) (fun _ hk => hk.2) (.int .i64 a0_0)) (fun _ hk => hk.2) (.slice Ao12 t145.length co12)) (fun _ hk => hk.2) (.int .i64 a0_2)) (fun _ hk => hk.2) (.int .i64 a0_3)) (fun _ hk => hk.2) (.int .i64 a0_4)) (fun _ hk => trivial), z27_⟩

end Go.Proofs.YtipclgiboffblaaDoor.PFnExactOpText
