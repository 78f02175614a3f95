/- Laid by a program of this session out of the kit's print for the law FnExactReadScript: what it says of the machine is proved here, function by function; each contract under the conditions that it names. -/
import Derived.Test.YtlfmlagdnebkiaaDoorMFnExactReadScriptx0
import Derived.Test.YtlfmlagdnebkiaaDoorMFnExactReadScriptx1
import Derived.Test.YtlfmlagdnebkiaaDoorMFnExactReadScriptx2
namespace Go.Proofs.YtlfmlagdnebkiaaDoor.PFnExactReadScript
open Go.RowKit Go.Proofs.YtlfmlagdnebkiaaDoorW.PrintWords Go.Proofs.YtlfmlagdnebkiaaDoorW.PrintLast Go.Proofs.YtlfmlagdnebkiaaDoorW.PrintMore
attribute [local go_sem] max2_int min2_int max_two min_two max_three min_three max_four min_four   -- for this text's walks alone
set_option linter.unusedVariables false
set_option linter.unusedSimpArgs false

/-! ### spec_OpText: function 18 -/
def spec_OpText.j0 : Nat → ByteArray → Int → List Int → Int → Int → Int → Option (ByteArray)
 | 0, _, _, _, _, _, _ => none
 | k + 1, x3, x138000, x138001, x138002, x138003, x138004 => if x138000 = 3 then (if x3.size + 1 ≤ 9223372036854775807 then ((spec_Dec.f k x138003).bind fun t145 => (if (x3 ++ (⟨#[32]⟩ : ByteArray)).size + t145.size ≤ 9223372036854775807 then (if ((x3 ++ (⟨#[32]⟩ : ByteArray)) ++ t145).size + 1 ≤ 9223372036854775807 then ((spec_Dec.f k x138004).bind fun t146 => (if (((x3 ++ (⟨#[32]⟩ : ByteArray)) ++ t145) ++ (⟨#[32]⟩ : ByteArray)).size + t146.size ≤ 9223372036854775807 then (some ((((x3 ++ (⟨#[32]⟩ : ByteArray)) ++ t145) ++ (⟨#[32]⟩ : ByteArray)) ++ t146)) else (none))) else (none)) else (none))) else (none)) else (some x3)
def spec_OpText.f (k : Nat) (a0_0 : Int) (l0_1 : List Int) (a0_2 : Int) (a0_3 : Int) (a0_4 : Int) : Option (ByteArray) := (spec_OpOk.f k a0_0 l0_1 a0_2 a0_3 a0_4).bind fun t138 => (if t138 = true then ((some (([(⟨#[]⟩ : ByteArray), (⟨#[114, 101, 108, 97, 98, 101, 108]⟩ : ByteArray), (⟨#[100, 101, 108, 101, 116, 101]⟩ : ByteArray), (⟨#[105, 110, 115, 101, 114, 116]⟩ : ByteArray)] : List ByteArray) : List ByteArray)).bind fun y139 => (if 0 ≤ a0_0 then (if a0_0 < (y139.length : Int) then (if (rdOf ByteArray.empty y139 a0_0).size + 1 ≤ 9223372036854775807 then ((spec_l23Path.f k l0_1).bind fun t143 => (if ((rdOf ByteArray.empty y139 a0_0) ++ (⟨#[32]⟩ : ByteArray)).size + t143.size ≤ 9223372036854775807 then (if a0_0 = 2 then (spec_OpText.j0 k (((rdOf ByteArray.empty y139 a0_0) ++ (⟨#[32]⟩ : ByteArray)) ++ t143) a0_0 l0_1 a0_2 a0_3 a0_4) else (if (((rdOf ByteArray.empty y139 a0_0) ++ (⟨#[32]⟩ : ByteArray)) ++ t143).size + 1 ≤ 9223372036854775807 then ((spec_LabelName.f a0_2).bind fun t144 => (if ((((rdOf ByteArray.empty y139 a0_0) ++ (⟨#[32]⟩ : ByteArray)) ++ t143) ++ (⟨#[32]⟩ : ByteArray)).size + t144.size ≤ 9223372036854775807 then (spec_OpText.j0 k (((((rdOf ByteArray.empty y139 a0_0) ++ (⟨#[32]⟩ : ByteArray)) ++ t143) ++ (⟨#[32]⟩ : ByteArray)) ++ t144) a0_0 l0_1 a0_2 a0_3 a0_4) else (none))) else (none))) else (none))) else (none)) else (none)) else (none))) else (some (⟨#[]⟩ : ByteArray)))
def spec_OpText.T3 : Bool × List (List Nat × List Nat) := (true, [([], []), ([], []), ([1], [1]), ([0, 2], [0, 2]), ([3], [3]), ([4], [4]), ([], []), ([6], [6]), ([7], [7]), ([5, 8], [5, 8]), ([9, 8, 0, 1, 2, 3, 4, 5, 6, 7, 8, 9], [9])])
def spec_OpText.B3 : List Nat := [0, 0, 2, 7, 15, 31, 0, 64, 192, 511, 1023]
theorem spec_OpText.tab3 : rtab .any (opsOf Tryd.f18 3) = spec_OpText.T3 := by kernel_rfl
theorem spec_OpText.bits3 : waitsOk spec_OpText.T3.2 spec_OpText.B3 = true := by kernel_rfl
def spec_OpText.T7 : Bool × List (List Nat × List Nat) := (true, [([], []), ([0], [0]), ([], []), ([2], [2]), ([3], [3]), ([1, 4], [1, 4]), ([5], [5]), ([], []), ([7], [7]), ([8, 4], [8]), ([6, 9], [6, 9]), ([10, 9, 0, 1, 2, 3, 4, 5, 6, 7, 8, 9, 10], [0, 10])])
def spec_OpText.B7 : List Nat := [0, 1, 0, 4, 12, 31, 63, 0, 128, 412, 1023, 2047]
theorem spec_OpText.tab7 : rtab .any (opsOf Tryd.f18 7) = spec_OpText.T7 := by kernel_rfl
theorem spec_OpText.bits7 : waitsOk spec_OpText.T7.2 spec_OpText.B7 = true := by kernel_rfl
set_option maxHeartbeats 8000000 in
set_option maxRecDepth 100000 in
theorem spec_OpText.calls (k : Nat) (a0_0 : Int) (A0_1 : Option Addr) (c0_1 : Nat) (l0_1 : List Int) (a0_2 : Int) (a0_3 : Int) (a0_4 : Int) (r : ByteArray) (w : World) (hr0_1 : Kd.C (Kd.int .i64) w A0_1 l0_1.length l0_1) (hc0_1 : l0_1.length ≤ c0_1) (h : spec_OpText.f k a0_0 l0_1 a0_2 a0_3 a0_4 = some r) :
  Calls Tryd.prog 18 #[.agg #[.int .i64 a0_0, .slice A0_1 l0_1.length c0_1, .int .i64 a0_2, .int .i64 a0_3, .int .i64 a0_4]] w fun e w' => e = .returned (.string r) ∧ Below w.heap.size w w' := by
 have hu24 := Tryd.underlying24
 have HR0_1 := Aside0.mk hr0_1
 have HC0_1 := Aside0.mk hc0_1
 clear hr0_1 hc0_1
 have HB := Aside0.mk (Below.refl w.heap.size w)
 have H : ((spec_OpOk.f k a0_0 l0_1 a0_2 a0_3 a0_4).bind fun t138 => (if t138 = true then ((some (([(⟨#[]⟩ : ByteArray), (⟨#[114, 101, 108, 97, 98, 101, 108]⟩ : ByteArray), (⟨#[100, 101, 108, 101, 116, 101]⟩ : ByteArray), (⟨#[105, 110, 115, 101, 114, 116]⟩ : ByteArray)] : List ByteArray) : List ByteArray)).bind fun y139 => (if 0 ≤ a0_0 then (if a0_0 < (y139.length : Int) then (if (rdOf ByteArray.empty y139 a0_0).size + 1 ≤ 9223372036854775807 then ((spec_l23Path.f k l0_1).bind fun t143 => (if ((rdOf ByteArray.empty y139 a0_0) ++ (⟨#[32]⟩ : ByteArray)).size + t143.size ≤ 9223372036854775807 then (if a0_0 = 2 then (spec_OpText.j0 k (((rdOf ByteArray.empty y139 a0_0) ++ (⟨#[32]⟩ : ByteArray)) ++ t143) a0_0 l0_1 a0_2 a0_3 a0_4) else (if (((rdOf ByteArray.empty y139 a0_0) ++ (⟨#[32]⟩ : ByteArray)) ++ t143).size + 1 ≤ 9223372036854775807 then ((spec_LabelName.f a0_2).bind fun t144 => (if ((((rdOf ByteArray.empty y139 a0_0) ++ (⟨#[32]⟩ : ByteArray)) ++ t143) ++ (⟨#[32]⟩ : ByteArray)).size + t144.size ≤ 9223372036854775807 then (spec_OpText.j0 k (((((rdOf ByteArray.empty y139 a0_0) ++ (⟨#[32]⟩ : ByteArray)) ++ t143) ++ (⟨#[32]⟩ : ByteArray)) ++ t144) a0_0 l0_1 a0_2 a0_3 a0_4) else (none))) else (none))) else (none))) else (none)) else (none)) else (none))) else (some (⟨#[]⟩ : ByteArray)))) = some r := h
 clear h
 obtain ⟨t138, A2, H⟩ := bnd_ H
 by_cases c3 : t138 = true
 ·subst c3
  replace H := ift_ H
  first | ((with_reducible have hz_ := gy_ H); obtain ⟨y139, Ny139, H⟩ := hz_) | (generalize hy_ : ((([(⟨#[]⟩ : ByteArray), (⟨#[114, 101, 108, 97, 98, 101, 108]⟩ : ByteArray), (⟨#[100, 101, 108, 101, 116, 101]⟩ : ByteArray), (⟨#[105, 110, 115, 101, 114, 116]⟩ : ByteArray)] : List ByteArray)) : List ByteArray) = y139 at H; have Ny139 := Aside0.mk hy_.symm; clear hy_)
  obtain ⟨c4b0, H⟩ := ifd_ H
  obtain ⟨c5b0, H⟩ := ifd_ H
  obtain ⟨c6, H⟩ := ifs_ H
  have c6b0 := eq_true c6
  have c6b1 := decide_eq_true c6
  try have c6b2 : (9223372036854775807 < (rdOf ByteArray.empty y139 a0_0).size + 1) = False := eq_false (Nat.not_lt.2 c6)
  obtain ⟨t143, A7, H⟩ := bnd_ H
  obtain ⟨c8, H⟩ := ifs_ H
  have c8b0 := eq_true c8
  have c8b1 := decide_eq_true c8
  try have c8b2 : (9223372036854775807 < ((rdOf ByteArray.empty y139 a0_0) ++ (⟨#[32]⟩ : ByteArray)).size + t143.size) = False := eq_false (Nat.not_lt.2 c8)
  have c8s : (rdOf ByteArray.empty y139 a0_0).size + 1 + t143.size ≤ 9223372036854775807 := by have e_ := c8; simp only [ByteArray.size_append] at e_; exact e_
  have c8sb : (9223372036854775807 < (rdOf ByteArray.empty y139 a0_0).size + 1 + t143.size) = False := eq_false (Nat.not_lt.2 c8s)
  have HC9 := Aside0.mk H
  clear H
  go_enter Tryd.func18, Tryd.ntmps18
  try go_wp2_with (first | ((with_reducible refine gate_dst (N := 1) rfl ?_); refine box_event ?hg (N := 1) ?hd (cs := #[.int .i64 a0_0, .slice A0_1 l0_1.length c0_1, .int .i64 a0_2, .int .i64 a0_3, .int .i64 a0_4]) (t := 24) ?hr ?_; (case hd => rfl); (case hg => rfl); (case hr => exact z18_); intro gb137 hg w10 hbox hb; have BK137 := Aside0.mk (hbox); have GW137 := Aside0.mk ((by rw [hg]; exact (below_size z0_) : w.heap.size ≤ gb137)); have GE137 := Aside0.mk ((by rw [hg]; exact (below_size z0_) : w.heap.size ≤ gb137)); replace HB := Aside0.mk (below_step z0_ hb); clear hb hbox hg; obtain ⟨hcz11_0, hcz11_1, hcz11_2, hcz11_3, hcz11_4, hfz11_0, hfz11_1, hfz11_2, hfz11_3, hfz11_4⟩ := bx5_ BK137.out) | ((with_reducible refine gate_callee (f := 32) rfl ?_); refine goesL_ (some 5) rfl rfl Tryd.func32 (by kernel_rfl) rfl #[.agg #[.int .i64 a0_0, .slice A0_1 l0_1.length c0_1, .int .i64 a0_2, .int .i64 a0_3, .int .i64 a0_4]] rfl z1_ ?_; (with_reducible refine (spec_OpOk.calls k a0_0 _ _ l0_1 a0_2 a0_3 a0_4 true _ ?side1 ?side2 A2.out).mono ?_); (case side1 => exact z6_); (case side2 => exact HC0_1.out); rintro e w12 ⟨rfl, hb⟩; refine ⟨_, rfl, ?_⟩; replace BK137 := Aside0.mk (blk_below (g := gb137) (o := .cells #[.int .i64 a0_0, .slice A0_1 l0_1.length c0_1, .int .i64 a0_2, .int .i64 a0_3, .int .i64 a0_4] 24 (0, 0)) z36_ hb); replace HB := Aside0.mk (below_step z13_ hb); (try clear hb)))
  have pi142 : (0 ≤ (a0_0 : Int)) = True := eq_true (odt_)
  have qi142 : (a0_0 < (y139.length : Int)) = True := eq_true (odt_)
  have n0_ := Aside0.mk (blk_drew BK137.out)
  have n1_ := Aside0.mk (below_drew1 HB.out)
  clear BK137
  clear HB
  have BK137 := n0_
  have HB := n1_
  clear n0_ n1_
  refine start_ (n := 11) (S := fun w' => True) (ds := []) (fl_ 11 0) (by kernel_rfl) rfl (fl_zero _) trivial (fun hHeld => ?_); refine with_tabW spec_OpText.tab3 spec_OpText.bits3 (fun HT_ HW_ => ?_)
  generalize w12.drew = w13 at BK137 HB hHeld ⊢
  refine zpg_ (i := 1) (ra_ [0, 1, 1, 9]) HT_ rfl rfl (by kernel_rfl) (fun _ _ _ h => h) (by rfl) ?_
  refine zpg_ (i := 6) (ra_ [0, 1, 1, 4, 1, 4]) HT_ rfl rfl (by kernel_rfl) (fun _ _ _ h => h) (by rfl) ?_
  refine inv_at [0, 2, 3, 4, 5, 7, 8, 9, 10] (fun a0_ b a w' => ∃ (v140 : Value) (adz_v140 : Addr) (m3_ : Value), a = putSel a0_ b [(0, 7, v140), (2, 9, .int .i64 a0_0), (3, 10, m3_), (4, 11, .string (rdOf ByteArray.empty y139 a0_0)), (5, 12, .string ((rdOf ByteArray.empty y139 a0_0) ++ (⟨#[32]⟩ : ByteArray))), (7, 14, .slice A0_1 l0_1.length c0_1), (8, 15, .string t143), (9, 16, .string (((rdOf ByteArray.empty y139 a0_0) ++ (⟨#[32]⟩ : ByteArray)) ++ t143)), (10, 3, .string (((rdOf ByteArray.empty y139 a0_0) ++ (⟨#[32]⟩ : ByteArray)) ++ t143))] ∧ (w'.heap[gb137]? = some (.cells #[.int .i64 a0_0, .slice A0_1 l0_1.length c0_1, .int .i64 a0_2, .int .i64 a0_3, .int .i64 a0_4] 24 (0, 0))) ∧ (Below w.heap.size w w') ∧ (b 0 = true → Kd.R Kd.string 9 w' w.heap.size (fun _ => True) v140 y139) ∧ (b 0 = true → ∃ c_, (v140 : Value) = .slice (some adz_v140) y139.length c_) ∧ (b 3 = true → (m3_ : Value) = .pointer (some (adz_v140.add (a0_0).toNat)))) HT_.out HW_.out (by kernel_rfl) (by kernel_rfl) ?_ ?_ ?_
  ·exact ⟨.bool false, ⟨0, 0, none⟩, .bool false, by simp only [putSel, Bool.false_eq_true, if_false], BK137.out, HB.out, fun h_ => absurd h_ (by decide), fun h_ => absurd h_ (by decide), fun h_ => absurd h_ (by decide)⟩
  ·skip
   clear BK137 HB
   refine steps_cons ?_ ?_
   ·rintro b a w' ⟨v140, adz_v140, m3_, ha, Q_BK137, Q_HB, Q_HO141, Q_HA_HO141, Q_X3_⟩ hb_ hon hoff
    refine ⟨_, rfl, fun K hK => ?_⟩
    replace ha := Aside0.mk ha
    have BK137 := Aside0.mk Q_BK137
    have HB := Aside0.mk Q_HB
    refine Kd.R_lit_step Kd.string _ 9 ?hg (N := 7) ?hd (xs := ([(⟨#[]⟩ : ByteArray), (⟨#[114, 101, 108, 97, 98, 101, 108]⟩ : ByteArray), (⟨#[100, 101, 108, 101, 116, 101]⟩ : ByteArray), (⟨#[105, 110, 115, 101, 114, 116]⟩ : ByteArray)] : List ByteArray)) (inner := [.string (⟨#[]⟩ : ByteArray), .string (⟨#[114, 101, 108, 97, 98, 101, 108]⟩ : ByteArray), .string (⟨#[100, 101, 108, 101, 116, 101]⟩ : ByteArray), .string (⟨#[105, 110, 115, 101, 114, 116]⟩ : ByteArray)]) (ok := fun _ => True) (okp := fun _ => True) ?hr ?hp (fun _ hk => hk) trivial (Below.refl _ _) (Nat.le_refl _) (by simp) ?_; (case hd => rfl); (case hg => rfl); (case hr => exact z18_); (case hp => exact (Reps.one (show Kd.M Kd.string _ _ _ (⟨#[]⟩ : ByteArray) [.string (⟨#[]⟩ : ByteArray)] from rfl) (Reps.one (show Kd.M Kd.string _ _ _ (⟨#[114, 101, 108, 97, 98, 101, 108]⟩ : ByteArray) [.string (⟨#[114, 101, 108, 97, 98, 101, 108]⟩ : ByteArray)] from rfl) (Reps.one (show Kd.M Kd.string _ _ _ (⟨#[100, 101, 108, 101, 116, 101]⟩ : ByteArray) [.string (⟨#[100, 101, 108, 101, 116, 101]⟩ : ByteArray)] from rfl) (Reps.one (show Kd.M Kd.string _ _ _ (⟨#[105, 110, 115, 101, 114, 116]⟩ : ByteArray) [.string (⟨#[105, 110, 115, 101, 114, 116]⟩ : ByteArray)] from rfl) (Reps.none _ _))))))
    intro v140 w14 ho15 hb hg_ hnew_
    clear hg_ hnew_
    (first | rw [← Ny139.out] at ho15 | (simp only [Int.reduceToNat] at ho15; rw [← Ny139.out] at ho15))
    have n0_ := Aside0.mk (Kd.R_lower ho15 (below_size z13_))
    have n1_ := Aside0.mk (blk_below (g := gb137) (o := .cells #[.int .i64 a0_0, .slice A0_1 l0_1.length c0_1, .int .i64 a0_2, .int .i64 a0_3, .int .i64 a0_4] 24 (0, 0)) z36_ hb)
    have n2_ := Aside0.mk (below_step z13_ hb)
    clear BK137
    clear HB
    have HO141 := n0_
    have BK137 := n1_
    have HB := n2_
    clear n0_ n1_ n2_
    clear hb ho15
    obtain ⟨Ao16, co16, eo16⟩ := Kd.R_slice HO141.out
    subst eo16
    obtain ⟨ado16, fo16, _⟩ := Kd.at_string (Kd.R_reads' HO141.out).2.2 0 (by decide) (by rw [Ny139.out]; simp)
    cases fo16
    refine hK.out _ _ ⟨.slice (some ado16) y139.length co16, ado16, m3_, (by rw [ha.out]; exact putSel_upk 0 hb_ rfl rfl rfl), z36_, z13_, fun _ => z104_, fun _ => ⟨_, rfl⟩, fun h0_ => absurd ((hoff 3 (by kernel_rfl)).symm.trans h0_) (by decide)⟩
   refine steps_cons ?_ ?_
   ·rintro b a w' ⟨v140, adz_v140, m3_, ha, Q_BK137, Q_HB, Q_HO141, Q_HA_HO141, Q_X3_⟩ hb_ hon hoff
    refine ⟨_, rfl, fun K hK => ?_⟩
    have e8 : a.tmps[8]? = some (.pointer (some ⟨gb137, 0, none⟩)) := by rw [ha]; exact (putSel_off rfl).trans rfl
    replace ha := Aside0.mk ha
    have BK137 := Aside0.mk Q_BK137
    have HB := Aside0.mk Q_HB
    have hc0_ : w'.cell? ⟨gb137, 0, none⟩ = some (.int .i64 a0_0) := (blk_cell BK137.out 0).trans rfl
    have hc1_ : w'.cell? ⟨gb137, 1, none⟩ = some (.slice A0_1 l0_1.length c0_1) := (blk_cell BK137.out 1).trans rfl
    have hc2_ : w'.cell? ⟨gb137, 2, none⟩ = some (.int .i64 a0_2) := (blk_cell BK137.out 2).trans rfl
    have hc3_ : w'.cell? ⟨gb137, 3, none⟩ = some (.int .i64 a0_3) := (blk_cell BK137.out 3).trans rfl
    have hc4_ : w'.cell? ⟨gb137, 4, none⟩ = some (.int .i64 a0_4) := (blk_cell BK137.out 4).trans rfl
    refine value_ (w1 := w') (v := .int .i64 a0_0) (by rfl) rfl ?_ ?_
    ·go_simp
     (try simp only [i64_w])
     try rfl
    refine hK.out _ _ ⟨v140, adz_v140, m3_, (by rw [ha.out]; exact putSel_upk 1 hb_ rfl rfl rfl), Q_BK137, Q_HB, Q_HO141, Q_HA_HO141, fun h0_ => absurd ((hoff 3 (by kernel_rfl)).symm.trans h0_) (by decide)⟩
   refine steps_cons ?_ ?_
   ·rintro b a w' ⟨v140, adz_v140, m3_, ha, Q_BK137, Q_HB, Q_HO141, Q_HA_HO141, Q_X3_⟩ hb_ hon hoff
    refine ⟨_, rfl, fun K hK => ?_⟩
    have e7 : a.tmps[7]? = some (v140) := by rw [ha]; exact putSel_on (e := (0, 7, v140)) 0 rfl rfl (hon 0 (by kernel_rfl)) rfl
    have e9 : a.tmps[9]? = some (.int .i64 a0_0) := by rw [ha]; exact putSel_on (e := (2, 9, .int .i64 a0_0)) 1 rfl rfl (hon 2 (by kernel_rfl)) rfl
    replace ha := Aside0.mk ha
    have BK137 := Aside0.mk Q_BK137
    have HB := Aside0.mk Q_HB
    have HO141 := Aside0.mk (Q_HO141 (hon 0 (by kernel_rfl)))
    have HA_HO141 := Aside0.mk (Q_HA_HO141 (hon 0 (by kernel_rfl)))
    obtain ⟨c_, hv_⟩ := HA_HO141.out
    rw [hv_] at e7
    refine value_ (w1 := w') (v := .pointer (some (adz_v140.add (a0_0).toNat))) (by rfl) rfl ?_ ?_
    ·go_simp
     (try simp only [i64_w])
     try rfl
    refine hK.out _ _ ⟨v140, adz_v140, (.pointer (some (adz_v140.add (a0_0).toNat))), (by rw [ha.out]; exact putSel_upk 2 hb_ rfl rfl rfl), Q_BK137, Q_HB, Q_HO141, Q_HA_HO141, fun _ => rfl⟩
   refine steps_cons ?_ ?_
   ·rintro b a w' ⟨v140, adz_v140, m3_, ha, Q_BK137, Q_HB, Q_HO141, Q_HA_HO141, Q_X3_⟩ hb_ hon hoff
    refine ⟨_, rfl, fun K hK => ?_⟩
    have e10 : a.tmps[10]? = some (m3_) := by rw [ha]; exact putSel_on (e := (3, 10, m3_)) 2 rfl rfl (hon 3 (by kernel_rfl)) rfl
    rw [Q_X3_ (hon 3 (by kernel_rfl))] at e10
    replace ha := Aside0.mk ha
    have BK137 := Aside0.mk Q_BK137
    have HB := Aside0.mk Q_HB
    have HO141 := Aside0.mk (Q_HO141 (hon 0 (by kernel_rfl)))
    have HA_HO141 := Aside0.mk (Q_HA_HO141 (hon 0 (by kernel_rfl)))
    obtain ⟨c_, hv_⟩ := HA_HO141.out
    have hF_ := HO141.out
    rw [hv_] at hF_
    obtain ⟨ad_, ea_, hx_⟩ := Kd.at_string (Kd.R_reads' hF_).2.2 a0_0 (of_eq_true pi142) (of_eq_true qi142)
    cases ea_
    refine value_ (w1 := w') (v := .string (rdOf ByteArray.empty y139 a0_0)) (by rfl) rfl ?_ ?_
    ·go_simp
     (try simp only [i64_w])
     try rfl
    refine hK.out _ _ ⟨v140, adz_v140, m3_, (by rw [ha.out]; exact putSel_upk 3 hb_ rfl rfl rfl), Q_BK137, Q_HB, Q_HO141, Q_HA_HO141, Q_X3_⟩
   refine steps_cons ?_ ?_
   ·rintro b a w' ⟨v140, adz_v140, m3_, ha, Q_BK137, Q_HB, Q_HO141, Q_HA_HO141, Q_X3_⟩ hb_ hon hoff
    refine ⟨_, rfl, fun K hK => ?_⟩
    have e11 : a.tmps[11]? = some (.string (rdOf ByteArray.empty y139 a0_0)) := by rw [ha]; exact putSel_on (e := (4, 11, .string (rdOf ByteArray.empty y139 a0_0))) 3 rfl rfl (hon 4 (by kernel_rfl)) rfl
    replace ha := Aside0.mk ha
    have BK137 := Aside0.mk Q_BK137
    have HB := Aside0.mk Q_HB
    have HO141 := Aside0.mk (Q_HO141 (hon 0 (by kernel_rfl)))
    have HA_HO141 := Aside0.mk (Q_HA_HO141 (hon 0 (by kernel_rfl)))
    refine value_ (w1 := w') (v := .string ((rdOf ByteArray.empty y139 a0_0) ++ (⟨#[32]⟩ : ByteArray))) (by rfl) rfl ?_ ?_
    ·go_simp
     (try simp only [i64_w])
     try rfl
    refine hK.out _ _ ⟨v140, adz_v140, m3_, (by rw [ha.out]; exact putSel_upk 4 hb_ rfl rfl rfl), Q_BK137, Q_HB, Q_HO141, Q_HA_HO141, Q_X3_⟩
   refine steps_cons ?_ ?_
   ·rintro b a w' ⟨v140, adz_v140, m3_, ha, Q_BK137, Q_HB, Q_HO141, Q_HA_HO141, Q_X3_⟩ hb_ hon hoff
    refine ⟨_, rfl, fun K hK => ?_⟩
    have e13 : a.tmps[13]? = some (.pointer (some ⟨gb137, 1, none⟩)) := by rw [ha]; exact (putSel_off rfl).trans rfl
    replace ha := Aside0.mk ha
    have BK137 := Aside0.mk Q_BK137
    have HB := Aside0.mk Q_HB
    have hc0_ : w'.cell? ⟨gb137, 0, none⟩ = some (.int .i64 a0_0) := (blk_cell BK137.out 0).trans rfl
    have hc1_ : w'.cell? ⟨gb137, 1, none⟩ = some (.slice A0_1 l0_1.length c0_1) := (blk_cell BK137.out 1).trans rfl
    have hc2_ : w'.cell? ⟨gb137, 2, none⟩ = some (.int .i64 a0_2) := (blk_cell BK137.out 2).trans rfl
    have hc3_ : w'.cell? ⟨gb137, 3, none⟩ = some (.int .i64 a0_3) := (blk_cell BK137.out 3).trans rfl
    have hc4_ : w'.cell? ⟨gb137, 4, none⟩ = some (.int .i64 a0_4) := (blk_cell BK137.out 4).trans rfl
    refine value_ (w1 := w') (v := .slice A0_1 l0_1.length c0_1) (by rfl) rfl ?_ ?_
    ·go_simp
     (try simp only [i64_w])
     try rfl
    refine hK.out _ _ ⟨v140, adz_v140, m3_, (by rw [ha.out]; exact putSel_upk 5 hb_ rfl rfl rfl), Q_BK137, Q_HB, Q_HO141, Q_HA_HO141, Q_X3_⟩
   refine steps_cons ?_ ?_
   ·rintro b a w' ⟨v140, adz_v140, m3_, ha, Q_BK137, Q_HB, Q_HO141, Q_HA_HO141, Q_X3_⟩ hb_ hon hoff
    refine ⟨_, rfl, fun K hK => ?_⟩
    have e14 : a.tmps[14]? = some (.slice A0_1 l0_1.length c0_1) := by rw [ha]; exact putSel_on (e := (7, 14, .slice A0_1 l0_1.length c0_1)) 5 rfl rfl (hon 7 (by kernel_rfl)) rfl
    replace ha := Aside0.mk ha
    have BK137 := Aside0.mk Q_BK137
    have HB := Aside0.mk Q_HB
    refine goes_ Tryd.func33 (by kernel_rfl) rfl #[.slice A0_1 l0_1.length c0_1] (by rfl) rfl rfl (by first | (simp only [List.map_toArray, List.map_cons, List.map_nil, Act.eval, Array.getD_eq_getD_getElem?, Option.getD_some, e14]; done) | (simp only [List.map_toArray, List.map_cons, List.map_nil, Act.eval, Array.getD_eq_getD_getElem?, Option.getD_some, e14]; rfl)) ?_
    with_reducible refine (spec_l23Path.calls k _ _ l0_1 t143 _ ?side1 ?side2 A7.out).mono ?_
    (case side1 => exact z6_)
    (case side2 => exact HC0_1.out)
    rintro e w14 ⟨rfl, hb⟩
    refine ⟨_, rfl, ?_⟩
    have n0_ := Aside0.mk (blk_below (g := gb137) (o := .cells #[.int .i64 a0_0, .slice A0_1 l0_1.length c0_1, .int .i64 a0_2, .int .i64 a0_3, .int .i64 a0_4] 24 (0, 0)) z36_ hb)
    have n1_ := Aside0.mk (below_step z13_ hb)
    have z_HO141 := fun (h0_ : b 0 = true) => (show Kd.R Kd.string 9 w14 w.heap.size (fun _ => True) v140 y139 from by first | exact (Kd.R_below z103_ hb) | exact Kd.R_mono (Kd.R_below z103_ hb) (fun _ h_ => by first | trivial | exact h_ | exact h_.1))
    clear BK137
    clear HB
    have BK137 := n0_
    have HB := n1_
    clear n0_ n1_
    (try clear hb)
    (try clear hb2)
    (try clear hk)
    (try clear hi)
    refine hK.out _ _ ⟨v140, adz_v140, m3_, (by rw [ha.out]; exact putSel_upk 6 hb_ rfl rfl rfl), z36_, z13_, z_HO141, Q_HA_HO141, Q_X3_⟩
   refine steps_cons ?_ ?_
   ·rintro b a w' ⟨v140, adz_v140, m3_, ha, Q_BK137, Q_HB, Q_HO141, Q_HA_HO141, Q_X3_⟩ hb_ hon hoff
    refine ⟨_, rfl, fun K hK => ?_⟩
    have e12 : a.tmps[12]? = some (.string ((rdOf ByteArray.empty y139 a0_0) ++ (⟨#[32]⟩ : ByteArray))) := by rw [ha]; exact putSel_on (e := (5, 12, .string ((rdOf ByteArray.empty y139 a0_0) ++ (⟨#[32]⟩ : ByteArray)))) 4 rfl rfl (hon 5 (by kernel_rfl)) rfl
    have e15 : a.tmps[15]? = some (.string t143) := by rw [ha]; exact putSel_on (e := (8, 15, .string t143)) 6 rfl rfl (hon 8 (by kernel_rfl)) rfl
    replace ha := Aside0.mk ha
    have BK137 := Aside0.mk Q_BK137
    have HB := Aside0.mk Q_HB
    have HO141 := Aside0.mk (Q_HO141 (hon 0 (by kernel_rfl)))
    have HA_HO141 := Aside0.mk (Q_HA_HO141 (hon 0 (by kernel_rfl)))
    refine value_ (w1 := w') (v := .string (((rdOf ByteArray.empty y139 a0_0) ++ (⟨#[32]⟩ : ByteArray)) ++ t143)) (by rfl) rfl ?_ ?_
    ·go_simp
     (try simp only [i64_w])
     try rfl
    refine hK.out _ _ ⟨v140, adz_v140, m3_, (by rw [ha.out]; exact putSel_upk 7 hb_ rfl rfl rfl), Q_BK137, Q_HB, Q_HO141, Q_HA_HO141, Q_X3_⟩
   refine steps_cons ?_ ?_
   ·rintro b a w' ⟨v140, adz_v140, m3_, ha, Q_BK137, Q_HB, Q_HO141, Q_HA_HO141, Q_X3_⟩ hb_ hon hoff
    refine ⟨_, rfl, fun K hK => ?_⟩
    have e16 : a.tmps[16]? = some (.string (((rdOf ByteArray.empty y139 a0_0) ++ (⟨#[32]⟩ : ByteArray)) ++ t143)) := by rw [ha]; exact putSel_on (e := (9, 16, .string (((rdOf ByteArray.empty y139 a0_0) ++ (⟨#[32]⟩ : ByteArray)) ++ t143))) 7 rfl rfl (hon 9 (by kernel_rfl)) rfl
    replace ha := Aside0.mk ha
    have BK137 := Aside0.mk Q_BK137
    have HB := Aside0.mk Q_HB
    have HO141 := Aside0.mk (Q_HO141 (hon 0 (by kernel_rfl)))
    have HA_HO141 := Aside0.mk (Q_HA_HO141 (hon 0 (by kernel_rfl)))
    refine value_ (w1 := w') (v := .string (((rdOf ByteArray.empty y139 a0_0) ++ (⟨#[32]⟩ : ByteArray)) ++ t143)) (by rfl) rfl ?_ ?_
    ·go_simp
     (try simp only [i64_w])
     try rfl
    refine hK.out _ _ ⟨v140, adz_v140, m3_, (by rw [ha.out]; exact putSel_upk 8 hb_ rfl rfl rfl), Q_BK137, Q_HB, Q_HO141, Q_HA_HO141, Q_X3_⟩
   exact steps_nil
  rintro b a w18 hall ⟨v140, adz_v140, m3_, ha, Q_BK137, Q_HB, Q_HO141, Q_HA_HO141, Q_X3_⟩
  clear BK137 HB
  have hb0_ := hall 0 (by kernel_rfl)
  have hb2_ := hall 2 (by kernel_rfl)
  have hb3_ := hall 3 (by kernel_rfl)
  have hb4_ := hall 4 (by kernel_rfl)
  have hb5_ := hall 5 (by kernel_rfl)
  have hb7_ := hall 7 (by kernel_rfl)
  have hb8_ := hall 8 (by kernel_rfl)
  have hb9_ := hall 9 (by kernel_rfl)
  have hb10_ := hall 10 (by kernel_rfl)
  subst ha
  obtain rfl := Q_X3_ hb3_
  simp only [putSel, hb0_, hb2_, hb3_, hb4_, hb5_, hb7_, hb8_, hb9_, hb10_, if_true, Act.put, List.setIfInBounds_toArray, List.set_cons_zero, List.set_cons_succ]
  have BK137 := Aside0.mk Q_BK137
  clear Q_BK137
  have HB := Aside0.mk Q_HB
  clear Q_HB
  have HO141 := Aside0.mk (Q_HO141 hb0_)
  clear Q_HO141
  have HA_HO141 := Aside0.mk (Q_HA_HO141 hb0_)
  clear Q_HA_HO141
  clear hall hb0_ hb2_ hb3_ hb4_ hb5_ hb7_ hb8_ hb9_ hb10_
  obtain ⟨co19, eo19⟩ := HA_HO141.out
  clear HA_HO141
  subst eo19
  obtain ⟨hcz20_0, hcz20_1, hcz20_2, hcz20_3, hcz20_4, hfz20_0, hfz20_1, hfz20_2, hfz20_3, hfz20_4⟩ := bx5_ BK137.out
  go_upto_if 19 with (fail)
  go_cut [3] (fun v3 wc => ∃ (kq : Nat) (x3_8 : ByteArray), v3 = .string x3_8 ∧ Aside0 (spec_OpText.j0 kq x3_8 a0_0 l0_1 a0_2 a0_3 a0_4 = some r) ∧ Aside0 (kq ≤ k) ∧ Aside0 (wc.heap[gb137]? = some (.cells #[.int .i64 a0_0, (.slice A0_1 l0_1.length c0_1), .int .i64 a0_2, .int .i64 a0_3, .int .i64 a0_4] 24 (0, 0))) ∧ Aside0 (Below w.heap.size w wc))
  case first =>
   have H := HC9.out
   clear HC9
   by_cases c21 : a0_0 = 2
   ·rw [if_pos c21] at H
    have c21b0 : (a0_0 == 2) = true := beq_iff_eq.mpr c21
    have c21b1 : (a0_0 != 2) = false := bne_eq_false_iff_eq.mpr c21
    clear c21
    (first | rw [c21b0] | rw [c21b1] | (simp only [i64_w, i32_w]; rw [c21b0]) | skip)
    have H' := Aside0.mk H
    clear H
    go_wp2
    go_meet
    case rel => exact ⟨_, (((rdOf ByteArray.empty y139 a0_0) ++ (⟨#[32]⟩ : ByteArray)) ++ t143), z4_, H', ⟨z74_⟩, ⟨z36_⟩, ⟨z13_⟩⟩
   ·rw [if_neg c21] at H
    have c21b0 : (a0_0 == 2) = false := beq_eq_false_iff_ne.mpr c21
    have c21b1 : (a0_0 != 2) = true := bne_iff_ne.mpr c21
    (first | rw [c21b0] | rw [c21b1] | (simp only [i64_w, i32_w]; rw [c21b0]) | skip)
    obtain ⟨c22, H⟩ := ifs_ H
    have c22b0 := eq_true c22
    have c22b1 := decide_eq_true c22
    try have c22b2 : (9223372036854775807 < (((rdOf ByteArray.empty y139 a0_0) ++ (⟨#[32]⟩ : ByteArray)) ++ t143).size + 1) = False := eq_false (Nat.not_lt.2 c22)
    have c22s : (rdOf ByteArray.empty y139 a0_0).size + 1 + t143.size + 1 ≤ 9223372036854775807 := by have e_ := c22; simp only [ByteArray.size_append] at e_; exact e_
    have c22sb : (9223372036854775807 < (rdOf ByteArray.empty y139 a0_0).size + 1 + t143.size + 1) = False := eq_false (Nat.not_lt.2 c22s)
    obtain ⟨t144, A23, H⟩ := bnd_ H
    obtain ⟨c24, H⟩ := ifs_ H
    have c24b0 := eq_true c24
    have c24b1 := decide_eq_true c24
    try have c24b2 : (9223372036854775807 < ((((rdOf ByteArray.empty y139 a0_0) ++ (⟨#[32]⟩ : ByteArray)) ++ t143) ++ (⟨#[32]⟩ : ByteArray)).size + t144.size) = False := eq_false (Nat.not_lt.2 c24)
    have c24s : (rdOf ByteArray.empty y139 a0_0).size + 1 + t143.size + 1 + t144.size ≤ 9223372036854775807 := by have e_ := c24; simp only [ByteArray.size_append] at e_; exact e_
    have c24sb : (9223372036854775807 < (rdOf ByteArray.empty y139 a0_0).size + 1 + t143.size + 1 + t144.size) = False := eq_false (Nat.not_lt.2 c24s)
    have H' := Aside0.mk H
    clear H
    obtain ⟨hcz25_0, hcz25_1, hcz25_2, hcz25_3, hcz25_4, hfz25_0, hfz25_1, hfz25_2, hfz25_3, hfz25_4⟩ := bx5_ BK137.out
    go_wp2_with (first | ((with_reducible refine gate_callee (f := 31) rfl ?_); refine goesL_ (some 24) rfl rfl Tryd.func31 (by kernel_rfl) rfl #[.int .i64 a0_2] rfl z1_ ?_; (with_reducible refine (spec_LabelName.calls a0_2 t144 _ A23.out).mono ?_); rintro e w26 ⟨rfl, hb⟩; refine ⟨_, rfl, ?_⟩; replace HO141 := Aside0.mk (Kd.R_below z104_ hb); replace BK137 := Aside0.mk (blk_below (g := gb137) (o := .cells #[.int .i64 a0_0, .slice A0_1 l0_1.length c0_1, .int .i64 a0_2, .int .i64 a0_3, .int .i64 a0_4] 24 (0, 0)) z36_ hb); replace HB := Aside0.mk (below_step z13_ hb); (try clear hb)))
    go_meet
    case rel => exact ⟨_, (((((rdOf ByteArray.empty y139 a0_0) ++ (⟨#[32]⟩ : ByteArray)) ++ t143) ++ (⟨#[32]⟩ : ByteArray)) ++ t144), z4_, H', ⟨z74_⟩, ⟨z36_⟩, ⟨z13_⟩⟩
  case rest =>
   clear HC9
   try clear c1
   try clear qi1
   try clear c2
   try clear p2
   try clear c3
   try clear c4
   try clear c4b0
   try clear c5
   try clear c5b0
   try clear c6
   try clear c6b0
   try clear c6b1
   try clear c6b2
   try clear c8
   try clear c8b0
   try clear c8b1
   try clear c8b2
   try clear qi14
   try clear c18
   try clear c21
   try clear c21b0
   try clear c21b1
   try clear c22
   try clear c22b0
   try clear c22b1
   try clear c22b2
   try clear c24
   try clear c24b0
   try clear c24b1
   try clear c24b2
   try clear hcz11_0
   try clear hcz11_1
   try clear hcz11_2
   try clear hcz11_3
   try clear hcz11_4
   try clear hcz20_0
   try clear hcz20_1
   try clear hcz20_2
   try clear hcz20_3
   try clear hcz20_4
   try clear hcz25_0
   try clear hcz25_1
   try clear hcz25_2
   try clear hcz25_3
   try clear hcz25_4
   try clear hfz11_0
   try clear hfz11_1
   try clear hfz11_2
   try clear hfz11_3
   try clear hfz11_4
   try clear hfz20_0
   try clear hfz20_1
   try clear hfz20_2
   try clear hfz20_3
   try clear hfz20_4
   try clear hfz25_0
   try clear hfz25_1
   try clear hfz25_2
   try clear hfz25_3
   try clear hfz25_4
   obtain ⟨kq, x3_8, rfl, HA, HJ8, BK137, HB⟩ := hcut
   cases kq with
   | zero => exact absurd HA.out (by simp [spec_OpText.j0])
   | succ kj8 =>
    have H := HA.out
    clear HA
    simp only [spec_OpText.j0] at H
    by_cases c27 : a0_0 = 3
    ·rw [if_pos c27] at H
     have c27b0 : (a0_0 == 3) = true := beq_iff_eq.mpr c27
     have c27b1 : (a0_0 != 3) = false := bne_eq_false_iff_eq.mpr c27
     clear c27
     obtain ⟨c28, H⟩ := ifs_ H
     have c28b0 := eq_true c28
     have c28b1 := decide_eq_true c28
     try have c28b2 : (9223372036854775807 < x3_8.size + 1) = False := eq_false (Nat.not_lt.2 c28)
     obtain ⟨t145, A29, H⟩ := bnd_ H
     obtain ⟨c30, H⟩ := ifs_ H
     have c30b0 := eq_true c30
     have c30b1 := decide_eq_true c30
     try have c30b2 : (9223372036854775807 < (x3_8 ++ (⟨#[32]⟩ : ByteArray)).size + t145.size) = False := eq_false (Nat.not_lt.2 c30)
     have c30s : x3_8.size + 1 + t145.size ≤ 9223372036854775807 := by have e_ := c30; simp only [ByteArray.size_append] at e_; exact e_
     have c30sb : (9223372036854775807 < x3_8.size + 1 + t145.size) = False := eq_false (Nat.not_lt.2 c30s)
     obtain ⟨c31, H⟩ := ifs_ H
     have c31b0 := eq_true c31
     have c31b1 := decide_eq_true c31
     try have c31b2 : (9223372036854775807 < ((x3_8 ++ (⟨#[32]⟩ : ByteArray)) ++ t145).size + 1) = False := eq_false (Nat.not_lt.2 c31)
     have c31s : x3_8.size + 1 + t145.size + 1 ≤ 9223372036854775807 := by have e_ := c31; simp only [ByteArray.size_append] at e_; exact e_
     have c31sb : (9223372036854775807 < x3_8.size + 1 + t145.size + 1) = False := eq_false (Nat.not_lt.2 c31s)
     obtain ⟨t146, A32, H⟩ := bnd_ H
     obtain ⟨c33, H⟩ := ifs_ H
     have c33b0 := eq_true c33
     have c33b1 := decide_eq_true c33
     try have c33b2 : (9223372036854775807 < (((x3_8 ++ (⟨#[32]⟩ : ByteArray)) ++ t145) ++ (⟨#[32]⟩ : ByteArray)).size + t146.size) = False := eq_false (Nat.not_lt.2 c33)
     have c33s : x3_8.size + 1 + t145.size + 1 + t146.size ≤ 9223372036854775807 := by have e_ := c33; simp only [ByteArray.size_append] at e_; exact e_
     have c33sb : (9223372036854775807 < x3_8.size + 1 + t145.size + 1 + t146.size) = False := eq_false (Nat.not_lt.2 c33s)
     obtain rfl := Option.some.inj H
     obtain ⟨hcz34_0, hcz34_1, hcz34_2, hcz34_3, hcz34_4, hfz34_0, hfz34_1, hfz34_2, hfz34_3, hfz34_4⟩ := bx5_ BK137.out
     try go_wp2
     have n0_ := Aside0.mk (blk_drew BK137.out)
     have n1_ := Aside0.mk (below_drew1 HB.out)
     clear BK137
     clear HB
     have BK137 := n0_
     have HB := n1_
     clear n0_ n1_
     refine start_ (n := 12) (S := fun w' => w'.cell? ⟨gb137, 0, none⟩ = some (.int .i64 a0_0) ∧ w'.cell? ⟨gb137, 1, none⟩ = some (.slice A0_1 l0_1.length c0_1) ∧ w'.cell? ⟨gb137, 2, none⟩ = some (.int .i64 a0_2) ∧ w'.cell? ⟨gb137, 3, none⟩ = some (.int .i64 a0_3) ∧ w'.cell? ⟨gb137, 4, none⟩ = some (.int .i64 a0_4)) (ds := []) (fl_ 12 0) (by kernel_rfl) rfl (fl_zero _) ⟨(blk_cell BK137.out 0).trans rfl, (blk_cell BK137.out 1).trans rfl, (blk_cell BK137.out 2).trans rfl, (blk_cell BK137.out 3).trans rfl, (blk_cell BK137.out 4).trans rfl⟩ (fun hHeld => ?_); refine with_tabW spec_OpText.tab7 spec_OpText.bits7 (fun HT_ HW_ => ?_)
     generalize wc.drew = w35 at BK137 HB hHeld ⊢
     iterate 3 refine zp_ HT_ rfl rfl (by kernel_rfl) (fun _ _ _ h => h) (by rfl) ?_
     refine zpg_ (i := 7) (ra_ [3, 4, 1, 4]) HT_ rfl rfl (by kernel_rfl) (fun _ _ _ h => h) (by rfl) ?_
     refine ztg_ (i := 3) (ra_ [4, 3, 1, 4]) HT_ HW_ rfl rfl (by kernel_rfl) (fun _ _ _ h => h) (by rfl) hHeld ?_ z91_
     refine ztg_ (i := 8) (ra_ [4, 3, 2, 3]) HT_ HW_ rfl rfl (by kernel_rfl) (fun _ _ _ h => h) (by rfl) hHeld ?_ z91_
     refine one_ (i := 4) (N := some 33) (ra_ [5, 2, 2, 3]) rfl rfl (one_of HT_.out (by kernel_rfl)) (by decide) (fun K hK => ?_)
     refine goes_ Tryd.func30 (by kernel_rfl) rfl #[.int .i64 a0_3] (by rfl) rfl rfl z1_ ?_
     with_reducible refine (spec_Dec.calls kj8 a0_3 t145 _ A29.out).mono ?_
     rintro e w36 ⟨rfl, hb⟩
     refine ⟨_, rfl, ?_⟩
     have n0_ := Aside0.mk (blk_below (g := gb137) (o := .cells #[.int .i64 a0_0, .slice A0_1 l0_1.length c0_1, .int .i64 a0_2, .int .i64 a0_3, .int .i64 a0_4] 24 (0, 0)) z36_ hb)
     have n1_ := Aside0.mk (below_step z13_ hb)
     clear BK137
     clear HB
     have BK137 := n0_
     have HB := n1_
     clear n0_ n1_
     (try clear hb)
     (try clear hb2)
     (try clear hk)
     (try clear hi)
     refine hK.out _ _ ⟨(blk_cell BK137.out 0).trans rfl, (blk_cell BK137.out 1).trans rfl, (blk_cell BK137.out 2).trans rfl, (blk_cell BK137.out 3).trans rfl, (blk_cell BK137.out 4).trans rfl⟩ (fun hHeld => ?_)
     clear hK K
     refine zn_ rfl ?_
     refine zpg_ (i := 5) (ra_ [6, 1, 2, 3]) HT_ rfl rfl (by kernel_rfl) (fun _ _ _ h => h) (by rfl) ?_
     refine zpg_ (i := 6) (fl_ 12 9) HT_ rfl rfl (by kernel_rfl) (fun _ _ _ h => h) (by rfl) ?_
     refine one_ (i := 9) (N := some 38) (fl_ 12 10) rfl rfl (one_of HT_.out (by kernel_rfl)) (by decide) (fun K hK => ?_)
     refine goes_ Tryd.func30 (by kernel_rfl) rfl #[.int .i64 a0_4] (by rfl) rfl rfl z1_ ?_
     with_reducible refine (spec_Dec.calls kj8 a0_4 t146 _ A32.out).mono ?_
     rintro e w37 ⟨rfl, hb⟩
     refine ⟨_, rfl, ?_⟩
     have n0_ := Aside0.mk (blk_below (g := gb137) (o := .cells #[.int .i64 a0_0, .slice A0_1 l0_1.length c0_1, .int .i64 a0_2, .int .i64 a0_3, .int .i64 a0_4] 24 (0, 0)) z36_ hb)
     have n1_ := Aside0.mk (below_step z13_ hb)
     clear BK137
     clear HB
     have BK137 := n0_
     have HB := n1_
     clear n0_ n1_
     (try clear hb)
     (try clear hb2)
     (try clear hk)
     (try clear hi)
     refine hK.out _ _ ⟨(blk_cell BK137.out 0).trans rfl, (blk_cell BK137.out 1).trans rfl, (blk_cell BK137.out 2).trans rfl, (blk_cell BK137.out 3).trans rfl, (blk_cell BK137.out 4).trans rfl⟩ (fun hHeld => ?_)
     clear hK K
     refine zn_ rfl ?_
     iterate 2 refine zp_ HT_ rfl rfl (by kernel_rfl) (fun _ _ _ h => h) (by rfl) ?_
     refine done_ (done_of HT_.out (by kernel_rfl)) ?_
     try go_wp2
     go_ret
     exact ⟨z2_, z13_⟩
    ·rw [if_neg c27] at H
     have c27b0 : (a0_0 == 3) = false := beq_eq_false_iff_ne.mpr c27
     have c27b1 : (a0_0 != 3) = true := bne_iff_ne.mpr c27
     obtain rfl := Option.some.inj H
     obtain ⟨hcz38_0, hcz38_1, hcz38_2, hcz38_3, hcz38_4, hfz38_0, hfz38_1, hfz38_2, hfz38_3, hfz38_4⟩ := bx5_ BK137.out
     go_wp2
     go_ret
     exact ⟨z2_, z13_⟩
 ·replace c3 := Bool.eq_false_iff.mpr c3
  subst c3
  replace H := iff_ H
  obtain rfl := Option.some.inj H
  go_enter Tryd.func18, Tryd.ntmps18
  go_wp2_with (first | ((with_reducible refine gate_dst (N := 1) rfl ?_); refine box_event ?hg (N := 1) ?hd (cs := #[.int .i64 a0_0, .slice A0_1 l0_1.length c0_1, .int .i64 a0_2, .int .i64 a0_3, .int .i64 a0_4]) (t := 24) ?hr ?_; (case hd => rfl); (case hg => rfl); (case hr => exact z18_); intro gb137 hg w39 hbox hb; have BK137 := Aside0.mk (hbox); have GW137 := Aside0.mk ((by rw [hg]; exact (below_size z0_) : w.heap.size ≤ gb137)); have GE137 := Aside0.mk ((by rw [hg]; exact (below_size z0_) : w.heap.size ≤ gb137)); replace HB := Aside0.mk (below_step z0_ hb); clear hb hbox hg; obtain ⟨hcz40_0, hcz40_1, hcz40_2, hcz40_3, hcz40_4, hfz40_0, hfz40_1, hfz40_2, hfz40_3, hfz40_4⟩ := bx5_ BK137.out) | ((with_reducible refine gate_callee (f := 32) rfl ?_); refine goesL_ (some 5) rfl rfl Tryd.func32 (by kernel_rfl) rfl #[.agg #[.int .i64 a0_0, .slice A0_1 l0_1.length c0_1, .int .i64 a0_2, .int .i64 a0_3, .int .i64 a0_4]] rfl z1_ ?_; (with_reducible refine (spec_OpOk.calls k a0_0 _ _ l0_1 a0_2 a0_3 a0_4 false _ ?side1 ?side2 A2.out).mono ?_); (case side1 => exact z6_); (case side2 => exact HC0_1.out); rintro e w41 ⟨rfl, hb⟩; refine ⟨_, rfl, ?_⟩; replace BK137 := Aside0.mk (blk_below (g := gb137) (o := .cells #[.int .i64 a0_0, .slice A0_1 l0_1.length c0_1, .int .i64 a0_2, .int .i64 a0_3, .int .i64 a0_4] 24 (0, 0)) z36_ hb); replace HB := Aside0.mk (below_step z13_ hb); (try clear hb)))
  go_ret
  exact ⟨z2_, z13_⟩

end Go.Proofs.YtlfmlagdnebkiaaDoor.PFnExactReadScript
