/- Laid by a program of this session out of the kit's print for the law FnExactPatch: what it says of the machine is proved here, function by function; each contract under the conditions that it names. -/
import Derived.Test.YtbiffnahknkoiaaMFnExactPatchx0
import Derived.Test.YtbiffnahknkoiaaMFnExactPatchx2
namespace Go.Proofs.Ytbiffnahknkoiaa.PFnExactPatch
open Go.RowKit Go.Proofs.YtbiffnahknkoiaaW.PrintWords Go.Proofs.YtbiffnahknkoiaaW.PrintLast Go.Proofs.YtbiffnahknkoiaaW.PrintMore
attribute [local go_sem] max2_int min2_int max_two min_two max_three min_three max_four min_four   -- for this text's walks alone
set_option linter.unusedVariables false
set_option linter.unusedSimpArgs false

/-! ### spec_l15Get: function 63 -/
mutual
def spec_l15Get.j0 : Nat → Bool → ByteArray → Int → Int → Int → Int → Int → Int → Option (Int × List Int × Int × Int × Int × ByteArray × Int × Int)
 | 0, _, _, _, _, _, _, _, _ => none
 | k + 1, x17, x1000, x1001, x1002, x163000, x163002, x163003, x163004 => if x17 = true then (spec_l15Get.j1 k x1000 x1001 3 x163000 x163002 x163003 x163004) else (spec_l15Get.j1 k x1000 x1001 x1002 x163000 x163002 x163003 x163004)
def spec_l15Get.j1 : Nat → ByteArray → Int → Int → Int → Int → Int → Int → Option (Int × List Int × Int × Int × Int × ByteArray × Int × Int)
 | 0, _, _, _, _, _, _, _ => none
 | k + 1, x1000, x1001, x1002, x163000, x163002, x163003, x163004 => (spec_l15Num.f k x1000 x1001 x1002 12 4).bind fun bt163 => (spec_l15Get.l0 k bt163.1 bt163.2.1 bt163.2.2.1 bt163.2.2.2 x163000 ([] : List Int) x163002 x163003 x163004)
def spec_l15Get.l0 : Nat → Int → ByteArray → Int → Int → Int → List Int → Int → Int → Int → Option (Int × List Int × Int × Int × Int × ByteArray × Int × Int)
 | 0, _, _, _, _, _, _, _, _, _ => none
 | k + 1, x4, x1000, x1001, x1002, x163000, x163001, x163002, x163003, x163004 => if x4 > 0 then ((spec_l15Num.f k x1000 x1001 x1002 24 4).bind fun bt167 => (if x163001.length < 17592186044416 then (spec_l15Get.l0 k (wrap64 (x4 - 1)) bt167.2.1 bt167.2.2.1 bt167.2.2.2 x163000 (x163001 ++ [bt167.1]) x163002 x163003 x163004) else (none))) else (if x163000 = 2 then (spec_l15Get.j3 k x1000 x1001 x1002 x163000 x163001 x163002 x163003 x163004) else ((spec_l15Num.f k x1000 x1001 x1002 5 5).bind fun bt174 => (spec_l15Get.j3 k bt174.2.1 bt174.2.2.1 bt174.2.2.2 x163000 x163001 bt174.1 x163003 x163004)))
def spec_l15Get.j3 : Nat → ByteArray → Int → Int → Int → List Int → Int → Int → Int → Option (Int × List Int × Int × Int × Int × ByteArray × Int × Int)
 | 0, _, _, _, _, _, _, _, _ => none
 | k + 1, x1000, x1001, x1002, x163000, x163001, x163002, x163003, x163004 => if x163000 = 3 then ((spec_l15Num.f k x1000 x1001 x1002 24 6).bind fun bt178 => ((spec_l15Num.f k bt178.2.1 bt178.2.2.1 bt178.2.2.2 24 6).bind fun bt182 => (some (x163000, x163001, x163002, bt178.1, bt182.1, bt182.2.1, bt182.2.2.1, bt182.2.2.2)))) else (some (x163000, x163001, x163002, x163003, x163004, x1000, x1001, x1002))
end
def spec_l15Get.f (k : Nat) (s0_0 : ByteArray) (s0_1 : Int) (s0_2 : Int) : Option (Int × List Int × Int × Int × Int × ByteArray × Int × Int) := (spec_l15Num.f k s0_0 s0_1 s0_2 3 3).bind fun bt158 => (if bt158.2.2.2 = 0 then (spec_l15Get.j0 k (bt158.1 == 0) bt158.2.1 bt158.2.2.1 bt158.2.2.2 bt158.1 0 0 0) else (spec_l15Get.j0 k false bt158.2.1 bt158.2.2.1 bt158.2.2.2 bt158.1 0 0 0))
set_option maxHeartbeats 8000000 in
set_option maxRecDepth 100000 in
theorem spec_l15Get.calls (k : Nat) (g : Nat) (s0_0 : ByteArray) (s0_1 : Int) (s0_2 : Int) (r1 : Int) (r2 : List Int) (r3 : Int) (r4 : Int) (r5 : Int) (r6 : ByteArray) (r7 : Int) (r8 : Int) (w0 w : World) (hI : IsS97 w0 w g s0_0 s0_1 s0_2) (hB : Below w0.heap.size w0 w) (h : spec_l15Get.f k s0_0 s0_1 s0_2 = some (r1, r2, r3, r4, r5, r6, r7, r8)) :
  Calls Try.prog 63 #[.pointer (some ⟨g, 0, none⟩)] w fun e w' => ∃ v1_ : Value, e = .returned (.agg #[.int .i64 r1, v1_, .int .i64 r3, .int .i64 r4, .int .i64 r5]) ∧ Kd.R (Kd.int .i64) 3 w' w.heap.size (fun _ => True) v1_ r2 ∧ IsS97 w0 w' g r6 r7 r8 ∧ Below w0.heap.size w0 w' ∧ KeepBut w w' g none := by
 have hu100 := Try.underlying100
 have HI0 := Aside0.mk hI
 have HK := Aside0.mk (KeepBut.refl w g none)
 have HL := Aside0.mk hB.size
 clear hI
 have HW0 := Aside0.mk hB.size
 have HB := Aside0.mk hB
 clear hB
 have H : ((spec_l15Num.f k s0_0 s0_1 s0_2 3 3).bind fun bt158 => (if bt158.2.2.2 = 0 then (spec_l15Get.j0 k (bt158.1 == 0) bt158.2.1 bt158.2.2.1 bt158.2.2.2 bt158.1 0 0 0) else (spec_l15Get.j0 k false bt158.2.1 bt158.2.2.1 bt158.2.2.2 bt158.1 0 0 0))) = some (r1, r2, r3, r4, r5, r6, r7, r8) := h
 clear h
 replace H := Option.bind_eq_some_iff.mp H
 obtain ⟨⟨t158, t159, t160, t161⟩, A20, H⟩ := H
 try dsimp only at H
 have A2 := Aside0.mk A20
 clear A20
 have HC3 := Aside0.mk H
 clear H
 go_enter Try.func63, Try.ntmps63
 go_upto_region 2 with (first | ((with_reducible refine gate_dst (N := 2) rfl ?_); refine box_event ?hg (N := 2) ?hd (cs := #[.int .i64 0, .slice none 0 0, .int .i64 0, .int .i64 0, .int .i64 0]) (t := 100) ?hr ?_; (case hd => rfl); (case hg => rfl); (case hr => exact z10_); intro gb157 hg w4 hbox hb; replace HB := Aside0.mk (below_step z50_ hb); have BK157 := Aside0.mk (hbox); have GW157 := Aside0.mk ((by rw [hg]; exact (keep_size (w := w) (g := g) (row := none) z32_) : w.heap.size ≤ gb157)); have GE157 := Aside0.mk ((Nat.le_trans HW0.out (by rw [hg]; exact (keep_size (w := w) (g := g) (row := none) z32_) : w.heap.size ≤ gb157) : w0.heap.size ≤ gb157)); replace HK := Aside0.mk (KeepBut.trans z32_ (KeepBut.of_below hb g none) (.inl rfl)); have NB0_157 := Aside0.mk ((by rw [hg]; exact Nat.ne_of_lt (IsS97.lt (show IsS97 w0 _ g s0_0 s0_1 s0_2 from by repeat (first | (with_reducible first | exact HI0.out | apply IsS97.alloc | apply IsS97.drewN | apply IsS97.drew | apply IsS97.set_0 | apply IsS97.set_1 | apply IsS97.set_2) | exact HI0.out))) : g ≠ gb157)); have NB157_0 := Aside0.mk ((by rw [hg]; exact Nat.ne_of_gt (IsS97.lt (show IsS97 w0 _ g s0_0 s0_1 s0_2 from by repeat (first | (with_reducible first | exact HI0.out | apply IsS97.alloc | apply IsS97.drewN | apply IsS97.drew | apply IsS97.set_0 | apply IsS97.set_1 | apply IsS97.set_2) | exact HI0.out))) : gb157 ≠ g)); replace HI0 := Aside0.mk (IsS97.below z46_ hb); clear hb hbox hg) | ((with_reducible refine gate_callee (f := 62) rfl ?_); refine goesL_ (some 6) rfl rfl Try.func62 (by kernel_rfl) rfl #[.pointer (some ⟨g, 0, none⟩), .int .i64 3, .int .i64 3] rfl z1_ ?_; (with_reducible refine (spec_l15Num.calls k g s0_0 s0_1 s0_2 3 3 t158 t159 t160 t161 w0 _ ?side1 ?side2 A2.out).mono ?_); (case side1 => exact z99_); (case side2 => exact z105_); rintro e w5 ⟨rfl, hi, hb, hk⟩; refine ⟨_, rfl, ?_⟩; replace BK157 := Aside0.mk (KeepBut.blk hk (g' := gb157) (o := .cells #[.int .i64 0, .slice none 0 0, .int .i64 0, .int .i64 0, .int .i64 0] 100 (0, 0)) z48_ NB157_0.out (by simp)); replace HK := Aside0.mk (KeepBut.trans z78_ hk (.inl rfl)); replace HB := Aside0.mk (hb); replace HI0 := Aside0.mk (hi); (try clear hb hk hi)) | ((with_reducible refine gate_dst (N := 3) rfl ?_); refine box_event ?hg (N := 3) ?hd (cs := #[.int .i64 0, .slice none 0 0, .int .i64 0, .int .i64 0, .int .i64 0]) (t := 100) ?hr ?_; (case hd => rfl); (case hg => rfl); (case hr => exact z10_); intro gb162 hg w6 hbox hb; replace HB := Aside0.mk (below_step z105_ hb); have BK162 := Aside0.mk (hbox); have GW162 := Aside0.mk ((by rw [hg]; exact (keep_size (w := w) (g := g) (row := none) z78_) : w.heap.size ≤ gb162)); have GE162 := Aside0.mk ((Nat.le_trans HW0.out (by rw [hg]; exact (keep_size (w := w) (g := g) (row := none) z78_) : w.heap.size ≤ gb162) : w0.heap.size ≤ gb162)); replace HK := Aside0.mk (KeepBut.trans z78_ (KeepBut.of_below hb g none) (.inl rfl)); have NB157_162 := Aside0.mk ((by rw [hg]; exact Nat.ne_of_lt (blk_lt (g := gb157) (o := .cells #[.int .i64 0, .slice none 0 0, .int .i64 0, .int .i64 0, .int .i64 0] 100 (0, 0)) z48_) : gb157 ≠ gb162)); have NB162_157 := Aside0.mk ((by rw [hg]; exact Nat.ne_of_gt (blk_lt (g := gb157) (o := .cells #[.int .i64 0, .slice none 0 0, .int .i64 0, .int .i64 0, .int .i64 0] 100 (0, 0)) z48_) : gb162 ≠ gb157)); replace BK157 := Aside0.mk (blk_below (g := gb157) (o := .cells #[.int .i64 0, .slice none 0 0, .int .i64 0, .int .i64 0, .int .i64 0] 100 (0, 0)) z48_ hb); have NB0_162 := Aside0.mk ((by rw [hg]; exact Nat.ne_of_lt (IsS97.lt (show IsS97 w0 _ g t159 t160 t161 from by repeat (first | (with_reducible first | exact HI0.out | apply IsS97.alloc | apply IsS97.drewN | apply IsS97.drew | apply IsS97.set_0 | apply IsS97.set_1 | apply IsS97.set_2 | refine IsS97.far ?_ NB0_157.out _) | exact HI0.out))) : g ≠ gb162)); have NB162_0 := Aside0.mk ((by rw [hg]; exact Nat.ne_of_gt (IsS97.lt (show IsS97 w0 _ g t159 t160 t161 from by repeat (first | (with_reducible first | exact HI0.out | apply IsS97.alloc | apply IsS97.drewN | apply IsS97.drew | apply IsS97.set_0 | apply IsS97.set_1 | apply IsS97.set_2 | refine IsS97.far ?_ NB0_157.out _) | exact HI0.out))) : gb162 ≠ g)); replace HI0 := Aside0.mk (IsS97.below z99_ hb); clear hb hbox hg; have hnb7 := NB162_157.out; have hnc7 := NB157_162.out; have hnb8 := NB162_0.out; have hnc8 := NB0_162.out; obtain ⟨hcz9_0, hcz9_1, hcz9_2, hcz9_3, hcz9_4, hfz9_0, hfz9_1, hfz9_2, hfz9_3, hfz9_4⟩ := bx5_ BK162.out))
 (try simp only [Act.put, List.setIfInBounds_toArray, List.set_cons_zero, List.set_cons_succ])
 go_cut [17] (fun v17 wc => ∃ (kq : Nat) (x17_2 : Bool), v17 = .bool x17_2 ∧ Aside0 (spec_l15Get.j0 kq x17_2 t159 t160 t161 t158 0 0 0 = some (r1, r2, r3, r4, r5, r6, r7, r8)) ∧ Aside0 (kq ≤ k) ∧ Aside0 (wc.heap[gb157]? = some (.cells #[.int .i64 0, (.slice none 0 0), .int .i64 0, .int .i64 0, .int .i64 0] 100 (0, 0))) ∧ Aside0 (wc.heap[gb162]? = some (.cells #[.int .i64 t158, (.slice none 0 0), .int .i64 0, .int .i64 0, .int .i64 0] 100 (0, 0))) ∧ Aside0 (IsS97 w0 wc g t159 t160 t161) ∧ Aside0 (KeepBut w wc g none) ∧ Aside0 (Below w0.heap.size w0 wc))
 case first =>
  have H := HC3.out
  clear HC3
  by_cases c10 : t161 = 0
  ·rw [if_pos c10] at H
   have c10b0 : (t161 == 0) = true := beq_iff_eq.mpr c10
   have c10b1 : (t161 != 0) = false := bne_eq_false_iff_eq.mpr c10
   clear c10
   (first | rw [c10b0] | rw [c10b1] | (simp only [i64_w, i32_w]; rw [c10b0]) | skip)
   have H' := Aside0.mk H
   clear H
   obtain ⟨HGz11, hgz11⟩ := HI0.out
   have hcz11_0 := cellS97_0 HGz11
   have hcz11_1 := cellS97_1 HGz11
   have hcz11_2 := cellS97_2 HGz11
   have hfz11_0 := blk_frozen HGz11 0
   have hfz11_1 := blk_frozen HGz11 1
   have hfz11_2 := blk_frozen HGz11 2
   clear HGz11 hgz11
   have hnb12 := NB162_157.out
   have hnc12 := NB157_162.out
   have hnb13 := NB162_0.out
   have hnc13 := NB0_162.out
   obtain ⟨hcz14_0, hcz14_1, hcz14_2, hcz14_3, hcz14_4, hfz14_0, hfz14_1, hfz14_2, hfz14_3, hfz14_4⟩ := bx5_ BK162.out
   go_wp2
   go_meet
   case rel => exact ⟨_, ((t158 == 0)), z8_, H', ⟨z137_⟩, ⟨z42_⟩, ⟨z35_⟩, ⟨z13_⟩, ⟨z21_⟩, ⟨z18_⟩⟩
  ·rw [if_neg c10] at H
   have c10b0 : (t161 == 0) = false := beq_eq_false_iff_ne.mpr c10
   have c10b1 : (t161 != 0) = true := bne_iff_ne.mpr c10
   (first | rw [c10b0] | rw [c10b1] | (simp only [i64_w, i32_w]; rw [c10b0]) | skip)
   have H' := Aside0.mk H
   clear H
   obtain ⟨HGz15, hgz15⟩ := HI0.out
   have hcz15_0 := cellS97_0 HGz15
   have hcz15_1 := cellS97_1 HGz15
   have hcz15_2 := cellS97_2 HGz15
   have hfz15_0 := blk_frozen HGz15 0
   have hfz15_1 := blk_frozen HGz15 1
   have hfz15_2 := blk_frozen HGz15 2
   clear HGz15 hgz15
   go_wp2
   go_meet
   case rel => exact ⟨_, (false), z8_, H', ⟨z137_⟩, ⟨z42_⟩, ⟨z35_⟩, ⟨z13_⟩, ⟨z21_⟩, ⟨z18_⟩⟩
 case rest =>
  clear HC3
  try clear c1
  try clear p2
  try clear c6
  try clear c7
  try clear c8
  try clear c10
  try clear c10b0
  try clear c10b1
  try clear c12
  try clear c13
  try clear hcz11_0
  try clear hcz11_1
  try clear hcz11_2
  try clear hcz14_0
  try clear hcz14_1
  try clear hcz14_2
  try clear hcz14_3
  try clear hcz14_4
  try clear hcz15_0
  try clear hcz15_1
  try clear hcz15_2
  try clear hcz9_0
  try clear hcz9_1
  try clear hcz9_2
  try clear hcz9_3
  try clear hcz9_4
  try clear hfz11_0
  try clear hfz11_1
  try clear hfz11_2
  try clear hfz14_0
  try clear hfz14_1
  try clear hfz14_2
  try clear hfz14_3
  try clear hfz14_4
  try clear hfz15_0
  try clear hfz15_1
  try clear hfz15_2
  try clear hfz9_0
  try clear hfz9_1
  try clear hfz9_2
  try clear hfz9_3
  try clear hfz9_4
  obtain ⟨kq, x17_2, rfl, HA, HJ2, BK157, BK162, HI0, HK, HB⟩ := hcut
  cases kq with
  | zero => exact absurd HA.out (by simp [spec_l15Get.j0])
  | succ kj2 =>
   have H := HA.out
   clear HA
   simp only [spec_l15Get.j0] at H
   have HC16 := Aside0.mk H
   clear H
   go_upto_if 17 with (fail)
   go_cut [] (fun wc => ∃ (kq : Nat) (x1002_15 : Int), Aside0 (spec_l15Get.j1 kq t159 t160 x1002_15 t158 0 0 0 = some (r1, r2, r3, r4, r5, r6, r7, r8)) ∧ Aside0 (kq ≤ kj2) ∧ Aside0 (wc.heap[gb157]? = some (.cells #[.int .i64 0, (.slice none 0 0), .int .i64 0, .int .i64 0, .int .i64 0] 100 (0, 0))) ∧ Aside0 (wc.heap[gb162]? = some (.cells #[.int .i64 t158, (.slice none 0 0), .int .i64 0, .int .i64 0, .int .i64 0] 100 (0, 0))) ∧ Aside0 (IsS97 w0 wc g t159 t160 x1002_15) ∧ Aside0 (KeepBut w wc g none) ∧ Aside0 (Below w0.heap.size w0 wc))
   case first =>
    have H := HC16.out
    clear HC16
    by_cases c17 : x17_2 = true
    ·subst c17
     replace H := ift_ H
     have H' := Aside0.mk H
     clear H
     obtain ⟨HGz18, hgz18⟩ := HI0.out
     have hcz18_0 := cellS97_0 HGz18
     have hcz18_1 := cellS97_1 HGz18
     have hcz18_2 := cellS97_2 HGz18
     have hfz18_0 := blk_frozen HGz18 0
     have hfz18_1 := blk_frozen HGz18 1
     have hfz18_2 := blk_frozen HGz18 2
     clear HGz18 hgz18
     go_wp2
     go_meet
     case rel => exact ⟨_, (3), H', ⟨by have := HJ2.out; first | omega | exact Nat.le_refl _⟩, ⟨by (with_reducible repeat (first | refine blk_drewN ?_ _ | refine blk_drew ?_ | refine blk_alloc ?_ _)); refine blk_far ?_ NB157_0.out _; (with_reducible repeat (first | refine blk_drewN ?_ _ | refine blk_drew ?_ | refine blk_alloc ?_ _)); exact BK157.out⟩, ⟨by (with_reducible repeat (first | refine blk_drewN ?_ _ | refine blk_drew ?_ | refine blk_alloc ?_ _)); refine blk_far ?_ NB162_0.out _; (with_reducible repeat (first | refine blk_drewN ?_ _ | refine blk_drew ?_ | refine blk_alloc ?_ _)); exact BK162.out⟩, ⟨z13_⟩, ⟨z21_⟩, ⟨z18_⟩⟩
    ·replace c17 := Bool.eq_false_iff.mpr c17
     subst c17
     replace H := iff_ H
     have H' := Aside0.mk H
     clear H
     go_wp2
     go_meet
     case rel => exact ⟨_, (t161), H', ⟨by have := HJ2.out; first | omega | exact Nat.le_refl _⟩, ⟨z48_⟩, ⟨z67_⟩, ⟨z13_⟩, ⟨z21_⟩, ⟨z18_⟩⟩
   case rest =>
    clear HC16
    try clear c1
    try clear p2
    try clear c6
    try clear c7
    try clear c8
    try clear c10
    try clear c10b0
    try clear c10b1
    try clear c12
    try clear c13
    try clear c17
    try clear hcz11_0
    try clear hcz11_1
    try clear hcz11_2
    try clear hcz14_0
    try clear hcz14_1
    try clear hcz14_2
    try clear hcz14_3
    try clear hcz14_4
    try clear hcz15_0
    try clear hcz15_1
    try clear hcz15_2
    try clear hcz18_0
    try clear hcz18_1
    try clear hcz18_2
    try clear hcz9_0
    try clear hcz9_1
    try clear hcz9_2
    try clear hcz9_3
    try clear hcz9_4
    try clear hfz11_0
    try clear hfz11_1
    try clear hfz11_2
    try clear hfz14_0
    try clear hfz14_1
    try clear hfz14_2
    try clear hfz14_3
    try clear hfz14_4
    try clear hfz15_0
    try clear hfz15_1
    try clear hfz15_2
    try clear hfz18_0
    try clear hfz18_1
    try clear hfz18_2
    try clear hfz9_0
    try clear hfz9_1
    try clear hfz9_2
    try clear hfz9_3
    try clear hfz9_4
    try clear p2
    obtain ⟨kq, x1002_15, HA, HJ15, BK157, BK162, HI0, HK, HB⟩ := hcut
    cases kq with
    | zero => exact absurd HA.out (by simp [spec_l15Get.j1])
    | succ kj15 =>
     have H := HA.out
     clear HA
     simp only [spec_l15Get.j1] at H
     replace H := Option.bind_eq_some_iff.mp H
     obtain ⟨⟨t163, t164, t165, t166⟩, A190, H⟩ := H
     try dsimp only at H
     have A19 := Aside0.mk A190
     clear A190
     have H' := Aside0.mk H
     clear H
     go_wp2_with (first | ((with_reducible refine gate_callee (f := 62) rfl ?_); refine goesL_ (some 22) rfl rfl Try.func62 (by kernel_rfl) rfl #[.pointer (some ⟨g, 0, none⟩), .int .i64 12, .int .i64 4] rfl z1_ ?_; (with_reducible refine (spec_l15Num.calls kj15 g t159 t160 x1002_15 12 4 t163 t164 t165 t166 w0 _ ?side1 ?side2 A19.out).mono ?_); (case side1 => exact z13_); (case side2 => exact z18_); rintro e w20 ⟨rfl, hi, hb, hk⟩; refine ⟨_, rfl, ?_⟩; replace BK157 := Aside0.mk (KeepBut.blk hk (g' := gb157) (o := .cells #[.int .i64 0, .slice none 0 0, .int .i64 0, .int .i64 0, .int .i64 0] 100 (0, 0)) z48_ NB157_0.out (by simp)); replace BK162 := Aside0.mk (KeepBut.blk hk (g' := gb162) (o := .cells #[.int .i64 t158, .slice none 0 0, .int .i64 0, .int .i64 0, .int .i64 0] 100 (0, 0)) z67_ NB162_0.out (by simp)); replace HK := Aside0.mk (KeepBut.trans z21_ hk (.inl rfl)); replace HB := Aside0.mk (hb); replace HI0 := Aside0.mk (hi); (try clear hb hk hi)))
     go_loopg [4] kj15 (fun kq v4 w' => ∃ (x4_3 : Int) (x1000_3 : ByteArray) (x1001_3 : Int) (x1002_3 : Int) (x163001_3 : List Int) (u163001 : Value), v4 = .int .i64 x4_3 ∧ Aside0 (spec_l15Get.l0 kq x4_3 x1000_3 x1001_3 x1002_3 t158 x163001_3 0 0 0 = some (r1, r2, r3, r4, r5, r6, r7, r8)) ∧ Aside0 (kq ≤ kj15) ∧ Aside0 (Kd.R (Kd.int .i64) 3 w' w.heap.size (fun _ => True) u163001 x163001_3) ∧ Aside0 (w'.heap[gb157]? = some (.cells #[.int .i64 0, (.slice none 0 0), .int .i64 0, .int .i64 0, .int .i64 0] 100 (0, 0))) ∧ Aside0 (w'.heap[gb162]? = some (.cells #[.int .i64 t158, u163001, .int .i64 0, .int .i64 0, .int .i64 0] 100 (0, 0))) ∧ Aside0 (IsS97 w0 w' g x1000_3 x1001_3 x1002_3) ∧ Aside0 (KeepBut w w' g none) ∧ Aside0 (Below w0.heap.size w0 w'))
     case atStart => exact ⟨(t163), (t164), (t165), (t166), (([] : List Int)), (.slice none 0 0), z8_, H', ⟨Nat.le_refl _⟩, ⟨z130_⟩, ⟨z48_⟩, ⟨z67_⟩, ⟨z13_⟩, ⟨z21_⟩, ⟨z18_⟩⟩
     case round =>
      clear H'
      try clear c1
      try clear p2
      try clear c6
      try clear c7
      try clear c8
      try clear c10
      try clear c10b0
      try clear c10b1
      try clear c12
      try clear c13
      try clear c17
      try clear hcz11_0
      try clear hcz11_1
      try clear hcz11_2
      try clear hcz14_0
      try clear hcz14_1
      try clear hcz14_2
      try clear hcz14_3
      try clear hcz14_4
      try clear hcz15_0
      try clear hcz15_1
      try clear hcz15_2
      try clear hcz18_0
      try clear hcz18_1
      try clear hcz18_2
      try clear hcz9_0
      try clear hcz9_1
      try clear hcz9_2
      try clear hcz9_3
      try clear hcz9_4
      try clear hfz11_0
      try clear hfz11_1
      try clear hfz11_2
      try clear hfz14_0
      try clear hfz14_1
      try clear hfz14_2
      try clear hfz14_3
      try clear hfz14_4
      try clear hfz15_0
      try clear hfz15_1
      try clear hfz15_2
      try clear hfz18_0
      try clear hfz18_1
      try clear hfz18_2
      try clear hfz9_0
      try clear hfz9_1
      try clear hfz9_2
      try clear hfz9_3
      try clear hfz9_4
      try clear p2
      obtain ⟨x4_3, x1000_3, x1001_3, x1002_3, x163001_3, u163001, rfl, HA, HK3, HO_163001, BK157, BK162, HI0, HK, HB⟩ := hrel
      cases gk with
      | zero => exact absurd HA.out (by simp [spec_l15Get.l0])
      | succ k3 =>
       have H := HA.out
       clear HA
       simp only [spec_l15Get.l0] at H
       by_cases c21 : x4_3 > 0
       ·rw [if_pos c21] at H
        have c21b0 := decide_eq_true c21
        clear c21
        replace H := Option.bind_eq_some_iff.mp H
        obtain ⟨⟨t167, t168, t169, t170⟩, A220, H⟩ := H
        try dsimp only at H
        have A22 := Aside0.mk A220
        clear A220
        obtain ⟨c23, H⟩ := ifs_ H
        have LMc23 := Aside0.mk c23
        clear c23
        first | ((with_reducible have hz_ := gy_ H); obtain ⟨y171, Ny171, H⟩ := hz_) | (generalize hy_ : ((x163001_3 ++ [t167]) : List Int) = y171 at H; have Ny171 := Aside0.mk hy_.symm; clear hy_)
        have H' := Aside0.mk H
        clear H
        have hnb24 := NB162_157.out
        have hnc24 := NB157_162.out
        have hnb25 := NB162_0.out
        have hnc25 := NB0_162.out
        obtain ⟨hcz26_0, hcz26_1, hcz26_2, hcz26_3, hcz26_4, hfz26_0, hfz26_1, hfz26_2, hfz26_3, hfz26_4⟩ := bx5_ BK162.out
        go_upto_region 7 with (fail)
        refine start_ (n := 8) (S := fun w' => w'.cell? ⟨gb162, 1, none⟩ = some (u163001)) (ds := [7]) (fl_ 8 0) (by kernel_rfl) rfl (fl_zero _) ((blk_cell BK162.out 1).trans rfl) (fun hHeld => ?_)
        refine pure_ (i := 0) (N := some 27) (v := ?_) (a' := ?_) #[true, false, false, false, false, false, false, false] rfl rfl (by kernel_rfl) (fun _ _ _ h => h) (Or.inl ⟨by rfl, ?_⟩) ?_ ?_
        rotate_left
        ·intro w'
         go_simp
         with_reducible rfl
        rotate_left
        ·simp only [Act.put, List.setIfInBounds_toArray, List.set_cons_zero, List.set_cons_succ, i64_w, i32_w]
         rfl
        refine pure_ (i := 2) (N := some 29) (v := ?_) (a' := ?_) #[true, false, true, false, false, false, false, false] rfl rfl (by kernel_rfl) (fun _ _ _ h => h) (Or.inl ⟨by rfl, ?_⟩) ?_ ?_
        rotate_left
        ·intro w'
         go_simp
         with_reducible rfl
        rotate_left
        ·simp only [Act.put, List.setIfInBounds_toArray, List.set_cons_zero, List.set_cons_succ, i64_w, i32_w]
         rfl
        refine take_ (i := 1) (N := some 28) (v := ?_) (a' := ?_) #[true, true, true, false, false, false, false, false] rfl rfl (by kernel_rfl) (fun _ _ _ h => h) (Or.inl ⟨by rfl, ?_⟩) hHeld ?_ ?_
        rotate_left
        ·intro w' s0
         go_simp
         with_reducible rfl
        rotate_left
        ·simp only [Act.put, List.setIfInBounds_toArray, List.set_cons_zero, List.set_cons_succ, i64_w, i32_w]
         rfl
        refine one_ (i := 3) (N := some 30) (fl_ 8 4) rfl rfl (by kernel_rfl) (by decide) (fun K hK => ?_)
        refine goes_ Try.func62 (by kernel_rfl) rfl #[.pointer (some ⟨g, 0, none⟩), .int .i64 24, .int .i64 4] (by rfl) rfl rfl z1_ ?_
        (with_reducible refine (spec_l15Num.calls k3 g x1000_3 x1001_3 x1002_3 24 4 t167 t168 t169 t170 w0 _ ?side1 ?side2 A22.out).mono ?_)
        (case side1 => exact z13_)
        (case side2 => exact z18_)
        rintro e w27 ⟨rfl, hi, hb, hk⟩
        refine ⟨_, rfl, ?_⟩
        have n0_ := Aside0.mk (Kd.R_mono (Kd.R_keep (IsS97.apart (show IsS97 w0 _ g x1000_3 x1001_3 x1002_3 from by repeat (first | (with_reducible first | exact HI0.out | apply IsS97.alloc | apply IsS97.drewN | apply IsS97.drew | apply IsS97.set_0 | apply IsS97.set_1 | apply IsS97.set_2 | refine IsS97.far ?_ NB0_157.out _ | refine IsS97.far ?_ NB0_162.out _) | exact HI0.out)) z90_ (by decide)) hk (fun _ h => h.2)) (fun _ h => h.1))
        have n1_ := Aside0.mk (KeepBut.blk hk (g' := gb157) (o := .cells #[.int .i64 0, .slice none 0 0, .int .i64 0, .int .i64 0, .int .i64 0] 100 (0, 0)) z48_ NB157_0.out (by simp))
        have n2_ := Aside0.mk (KeepBut.blk hk (g' := gb162) (o := .cells #[.int .i64 t158, u163001, .int .i64 0, .int .i64 0, .int .i64 0] 100 (0, 0)) z67_ NB162_0.out (by simp))
        have n3_ := Aside0.mk (KeepBut.trans z21_ hk (.inl rfl))
        have n4_ := Aside0.mk (hb)
        have n5_ := Aside0.mk (hi)
        clear HO_163001
        clear BK157
        clear BK162
        clear HK
        clear HB
        clear HI0
        have HO_163001 := n0_
        have BK157 := n1_
        have BK162 := n2_
        have HK := n3_
        have HB := n4_
        have HI0 := n5_
        clear n0_ n1_ n2_ n3_ n4_ n5_
        (try clear hb)
        (try clear hb2)
        (try clear hk)
        (try clear hi)
        refine hK.out _ _ ((blk_cell BK162.out 1).trans rfl) (fun hHeld => ?_)
        clear hK K
        refine zn_ rfl ?_
        refine one_ (i := 4) (N := some 31) (fl_ 8 5) rfl rfl (by kernel_rfl) (by decide) (fun K hK => ?_)
        refine value_ (w1 := ?_) (v := ?_) (by rfl) rfl ?_ ?_
        rotate_left 2
        ·go_simp
         constructor
         ·rfl
         ·rfl
        refine hK.out _ _ ((blk_cell (blk_alloc BK162.out _) 1).trans rfl) (fun hHeld => ?_)
        clear hK K
        refine zn_ rfl ?_
        refine one_ (i := 5) (N := some 32) (fl_ 8 6) rfl rfl (by kernel_rfl) (by decide) (fun K hK => ?_)
        refine Kd.R_append_step (Kd.int .i64) w.heap.size (by rfl) (.tmp 28) (.tmp 31) 31 3 (.int .i64 0) 8 rfl Try.underlying31 info3 rfl (by decide) (by omega) u163001 x163001_3 t167 [.int .i64 t167] (fun _ => True) (fun _ => False) rfl rfl ?aP (fun _ hk => hk.elim) ?aF ?aO (Below.refl _ _) ?aS ?aL ?_
        (case aP => exact rfl)
        (case aF => exact z87_)
        (case aO => exact z90_)
        (case aS => exact (keep_size (w := w) (g := g) (row := none) z21_))
        (case aL => have := LMc23.out; omega)
        intro v172 w28 ho hb hg hat
        rw [← Ny171.out] at ho
        have n0_ := Aside0.mk (blk_grown (g := gb157) (o := .cells #[.int .i64 0, .slice none 0 0, .int .i64 0, .int .i64 0, .int .i64 0] 100 (0, 0)) z48_ hg (Kd.R_ne HO_163001.out BK157.out (by decide)))
        have n1_ := Aside0.mk (blk_grown (g := gb162) (o := .cells #[.int .i64 t158, u163001, .int .i64 0, .int .i64 0, .int .i64 0] 100 (0, 0)) z67_ hg (Kd.R_ne HO_163001.out BK162.out (by decide)))
        have n2_ := Aside0.mk (IsS97.grown z13_ hg (IsS97.own_ne HI0.out HO_163001.out (by decide)))
        have n3_ := Aside0.mk (below_weaken z18_ HL.out hb)
        have n4_ := Aside0.mk (KeepBut.trans z21_ (KeepBut.of_grown hg g) (Kd.R_base2 HO_163001.out))
        have n5_ := Aside0.mk (ho)
        clear BK157
        clear BK162
        clear HI0
        clear HB
        clear HK
        clear HO_163001
        have BK157 := n0_
        have BK162 := n1_
        have HI0 := n2_
        have HB := n3_
        have HK := n4_
        have HO173 := n5_
        clear n0_ n1_ n2_ n3_ n4_ n5_
        clear ho hb hg hat
        obtain ⟨Ao29, co29, eo29⟩ := Kd.R_slice HO173.out
        subst eo29
        obtain ⟨hcz30_0, hcz30_1, hcz30_2, hcz30_3, hcz30_4, hfz30_0, hfz30_1, hfz30_2, hfz30_3, hfz30_4⟩ := bx5_ BK162.out
        refine hK.out _ _ ((blk_cell BK162.out 1).trans rfl) (fun hHeld => ?_)
        clear hK K
        refine zn_ rfl ?_
        refine pure_ (i := 6) (N := some 33) (v := ?_) (a' := ?_) #[true, true, true, true, true, true, true, false] rfl rfl (by kernel_rfl) (fun _ _ _ h => h) (Or.inl ⟨by rfl, ?_⟩) ?_ ?_
        rotate_left
        ·intro w'
         go_simp
         with_reducible rfl
        rotate_left
        ·simp only [Act.put, List.setIfInBounds_toArray, List.set_cons_zero, List.set_cons_succ, i64_w, i32_w]
         rfl
        refine last_ (i := 7) (N := none) (fl_ 8 8) rfl rfl (by kernel_rfl) (by decide) (fun K hK => ?_)
        refine skip_ (w1 := ?_) (by rfl) rfl ?_ ?_
        rotate_left
        ·go_simp
         rfl
        refine hK.out _ _ ?_
        clear hK K
        refine done_ (by kernel_rfl) ?_
        go_wp2
        go_roundg k3
        case measure => have := HJ2.out; have := HJ15.out; have := HK3.out; omega
        case rel => exact ⟨(wrap64 (x4_3 - 1)), (t168), (t169), (t170), (y171), (.slice Ao29 y171.length co29), z8_, H', ⟨by have := HJ2.out; have := HJ15.out; have := HK3.out; omega⟩, ⟨by (with_reducible repeat (first | apply Kd.R_alloc | apply Kd.R_drewN | apply Kd.R_drew)); exact Kd.R_mono (Kd.R_far (p := ⟨gb162, 1, none⟩) (Kd.R_types HO173.out BK162.out (by decide)) (fun _ hk => hk.2) (.slice Ao29 y171.length co29)) (fun _ hk => trivial)⟩, ⟨z77_⟩, ⟨by (with_reducible repeat (first | refine blk_drewN ?_ _ | refine blk_drew ?_ | refine blk_alloc ?_ _)); refine blk_put (cs := #[.int .i64 t158, u163001, .int .i64 0, .int .i64 0, .int .i64 0]) ?_ 1 _ rfl; (with_reducible repeat (first | refine blk_drewN ?_ _ | refine blk_drew ?_ | refine blk_alloc ?_ _)); exact BK162.out⟩, ⟨z13_⟩, ⟨z21_⟩, ⟨z18_⟩⟩
       ·rw [if_neg c21] at H
        have c21b0 := decide_eq_false c21
        clear c21
        have HC31 := Aside0.mk H
        clear H
        have hnb32 := NB162_157.out
        have hnc32 := NB157_162.out
        have hnb33 := NB162_0.out
        have hnc33 := NB0_162.out
        obtain ⟨hcz34_0, hcz34_1, hcz34_2, hcz34_3, hcz34_4, hfz34_0, hfz34_1, hfz34_2, hfz34_3, hfz34_4⟩ := bx5_ BK162.out
        go_upto_if 36 with (fail)
        go_cut [] (fun wc => ∃ (kq : Nat) (x1000_30 : ByteArray) (x1001_30 : Int) (x1002_30 : Int) (x163002_30 : Int), Aside0 (spec_l15Get.j3 kq x1000_30 x1001_30 x1002_30 t158 x163001_3 x163002_30 0 0 = some (r1, r2, r3, r4, r5, r6, r7, r8)) ∧ Aside0 (kq ≤ k3) ∧ Aside0 (Kd.R (Kd.int .i64) 3 wc w.heap.size (fun _ => True) u163001 x163001_3) ∧ Aside0 (wc.heap[gb157]? = some (.cells #[.int .i64 0, (.slice none 0 0), .int .i64 0, .int .i64 0, .int .i64 0] 100 (0, 0))) ∧ Aside0 (wc.heap[gb162]? = some (.cells #[.int .i64 t158, u163001, .int .i64 x163002_30, .int .i64 0, .int .i64 0] 100 (0, 0))) ∧ Aside0 (IsS97 w0 wc g x1000_30 x1001_30 x1002_30) ∧ Aside0 (KeepBut w wc g none) ∧ Aside0 (Below w0.heap.size w0 wc))
        case first =>
         have H := HC31.out
         clear HC31
         by_cases c35 : t158 = 2
         ·rw [if_pos c35] at H
          have c35b0 : (t158 == 2) = true := beq_iff_eq.mpr c35
          have c35b1 : (t158 != 2) = false := bne_eq_false_iff_eq.mpr c35
          clear c35
          (first | rw [c35b0] | rw [c35b1] | (simp only [i64_w, i32_w]; rw [c35b0]) | skip)
          have H' := Aside0.mk H
          clear H
          go_wp2
          go_meet
          case rel => exact ⟨_, (x1000_3), (x1001_3), (x1002_3), (0), H', ⟨z150_⟩, ⟨z90_⟩, ⟨z48_⟩, ⟨z67_⟩, ⟨z13_⟩, ⟨z21_⟩, ⟨z18_⟩⟩
         ·rw [if_neg c35] at H
          have c35b0 : (t158 == 2) = false := beq_eq_false_iff_ne.mpr c35
          have c35b1 : (t158 != 2) = true := bne_iff_ne.mpr c35
          (first | rw [c35b0] | rw [c35b1] | (simp only [i64_w, i32_w]; rw [c35b0]) | skip)
          replace H := Option.bind_eq_some_iff.mp H
          obtain ⟨⟨t174, t175, t176, t177⟩, A360, H⟩ := H
          try dsimp only at H
          have A36 := Aside0.mk A360
          clear A360
          have H' := Aside0.mk H
          clear H
          go_wp2_with (first | ((with_reducible refine gate_callee (f := 62) rfl ?_); refine goesL_ (some 38) rfl rfl Try.func62 (by kernel_rfl) rfl #[.pointer (some ⟨g, 0, none⟩), .int .i64 5, .int .i64 5] rfl z1_ ?_; (with_reducible refine (spec_l15Num.calls k3 g x1000_3 x1001_3 x1002_3 5 5 t174 t175 t176 t177 w0 _ ?side1 ?side2 A36.out).mono ?_); (case side1 => exact z13_); (case side2 => exact z18_); rintro e w37 ⟨rfl, hi, hb, hk⟩; refine ⟨_, rfl, ?_⟩; replace HO_163001 := Aside0.mk (Kd.R_mono (Kd.R_keep (IsS97.apart (show IsS97 w0 _ g x1000_3 x1001_3 x1002_3 from by repeat (first | (with_reducible first | exact HI0.out | apply IsS97.alloc | apply IsS97.drewN | apply IsS97.drew | apply IsS97.set_0 | apply IsS97.set_1 | apply IsS97.set_2 | refine IsS97.far ?_ NB0_157.out _ | refine IsS97.far ?_ NB0_162.out _) | exact HI0.out)) z90_ (by decide)) hk (fun _ h => h.2)) (fun _ h => h.1)); replace BK157 := Aside0.mk (KeepBut.blk hk (g' := gb157) (o := .cells #[.int .i64 0, .slice none 0 0, .int .i64 0, .int .i64 0, .int .i64 0] 100 (0, 0)) z48_ NB157_0.out (by simp)); replace BK162 := Aside0.mk (KeepBut.blk hk (g' := gb162) (o := .cells #[.int .i64 t158, u163001, .int .i64 0, .int .i64 0, .int .i64 0] 100 (0, 0)) z67_ NB162_0.out (by simp)); replace HK := Aside0.mk (KeepBut.trans z21_ hk (.inl rfl)); replace HB := Aside0.mk (hb); replace HI0 := Aside0.mk (hi); (try clear hb hk hi); have hnb38 := NB162_157.out; have hnc38 := NB157_162.out; have hnb39 := NB162_0.out; have hnc39 := NB0_162.out; obtain ⟨hcz40_0, hcz40_1, hcz40_2, hcz40_3, hcz40_4, hfz40_0, hfz40_1, hfz40_2, hfz40_3, hfz40_4⟩ := bx5_ BK162.out))
          go_meet
          case rel => exact ⟨_, (t175), (t176), (t177), (t174), H', ⟨z150_⟩, ⟨by (with_reducible repeat (first | apply Kd.R_alloc | apply Kd.R_drewN | apply Kd.R_drew)); exact Kd.R_mono (Kd.R_far (p := ⟨gb162, 2, none⟩) (Kd.R_types HO_163001.out BK162.out (by decide)) (fun _ hk => hk.2) (.int .i64 t174)) (fun _ hk => trivial)⟩, ⟨z77_⟩, ⟨by (with_reducible repeat (first | refine blk_drewN ?_ _ | refine blk_drew ?_ | refine blk_alloc ?_ _)); refine blk_put (cs := #[.int .i64 t158, u163001, .int .i64 0, .int .i64 0, .int .i64 0]) ?_ 2 _ rfl; (with_reducible repeat (first | refine blk_drewN ?_ _ | refine blk_drew ?_ | refine blk_alloc ?_ _)); exact BK162.out⟩, ⟨z13_⟩, ⟨z21_⟩, ⟨z18_⟩⟩
        case rest =>
         clear HC31
         try clear c1
         try clear c2
         try clear p2
         try clear c3
         try clear c6
         try clear p6
         try clear c7
         try clear c8
         try clear c10
         try clear c10b0
         try clear c10b1
         try clear c12
         try clear c13
         try clear c17
         try clear c21
         try clear c21b0
         try clear c23
         try clear c24
         try clear c25
         try clear c32
         try clear c33
         try clear c35
         try clear c35b0
         try clear c35b1
         try clear c38
         try clear c39
         try clear hcz11_0
         try clear hcz11_1
         try clear hcz11_2
         try clear hcz14_0
         try clear hcz14_1
         try clear hcz14_2
         try clear hcz14_3
         try clear hcz14_4
         try clear hcz15_0
         try clear hcz15_1
         try clear hcz15_2
         try clear hcz18_0
         try clear hcz18_1
         try clear hcz18_2
         try clear hcz26_0
         try clear hcz26_1
         try clear hcz26_2
         try clear hcz26_3
         try clear hcz26_4
         try clear hcz30_0
         try clear hcz30_1
         try clear hcz30_2
         try clear hcz30_3
         try clear hcz30_4
         try clear hcz34_0
         try clear hcz34_1
         try clear hcz34_2
         try clear hcz34_3
         try clear hcz34_4
         try clear hcz40_0
         try clear hcz40_1
         try clear hcz40_2
         try clear hcz40_3
         try clear hcz40_4
         try clear hcz9_0
         try clear hcz9_1
         try clear hcz9_2
         try clear hcz9_3
         try clear hcz9_4
         try clear hfz11_0
         try clear hfz11_1
         try clear hfz11_2
         try clear hfz14_0
         try clear hfz14_1
         try clear hfz14_2
         try clear hfz14_3
         try clear hfz14_4
         try clear hfz15_0
         try clear hfz15_1
         try clear hfz15_2
         try clear hfz18_0
         try clear hfz18_1
         try clear hfz18_2
         try clear hfz26_0
         try clear hfz26_1
         try clear hfz26_2
         try clear hfz26_3
         try clear hfz26_4
         try clear hfz30_0
         try clear hfz30_1
         try clear hfz30_2
         try clear hfz30_3
         try clear hfz30_4
         try clear hfz34_0
         try clear hfz34_1
         try clear hfz34_2
         try clear hfz34_3
         try clear hfz34_4
         try clear hfz40_0
         try clear hfz40_1
         try clear hfz40_2
         try clear hfz40_3
         try clear hfz40_4
         try clear hfz9_0
         try clear hfz9_1
         try clear hfz9_2
         try clear hfz9_3
         try clear hfz9_4
         try clear p2
         obtain ⟨kq, x1000_30, x1001_30, x1002_30, x163002_30, HA, HJ30, HO_163001, BK157, BK162, HI0, HK, HB⟩ := hcut
         cases kq with
         | zero => exact absurd HA.out (by simp [spec_l15Get.j3])
         | succ kj30 =>
          have H := HA.out
          clear HA
          simp only [spec_l15Get.j3] at H
          by_cases c41 : t158 = 3
          ·rw [if_pos c41] at H
           have c41b0 : (t158 == 3) = true := beq_iff_eq.mpr c41
           have c41b1 : (t158 != 3) = false := bne_eq_false_iff_eq.mpr c41
           clear c41
           replace H := Option.bind_eq_some_iff.mp H
           obtain ⟨⟨t178, t179, t180, t181⟩, A420, H⟩ := H
           try dsimp only at H
           have A42 := Aside0.mk A420
           clear A420
           replace H := Option.bind_eq_some_iff.mp H
           obtain ⟨⟨t182, t183, t184, t185⟩, A430, H⟩ := H
           try dsimp only at H
           have A43 := Aside0.mk A430
           clear A430
           simp only [Option.some.injEq, Prod.mk.injEq] at H
           obtain ⟨rfl, rfl, rfl, rfl, rfl, rfl, rfl, rfl⟩ := H
           have hnb44 := NB162_157.out
           have hnc44 := NB157_162.out
           have hnb45 := NB162_0.out
           have hnc45 := NB0_162.out
           obtain ⟨hcz46_0, hcz46_1, hcz46_2, hcz46_3, hcz46_4, hfz46_0, hfz46_1, hfz46_2, hfz46_3, hfz46_4⟩ := bx5_ BK162.out
           go_wp2_with (first | ((with_reducible refine gate_callee (f := 62) rfl ?_); refine goesL_ (some 44) rfl rfl Try.func62 (by kernel_rfl) rfl #[.pointer (some ⟨g, 0, none⟩), .int .i64 24, .int .i64 6] rfl z1_ ?_; (with_reducible refine (spec_l15Num.calls kj30 g x1000_30 x1001_30 x1002_30 24 6 t178 t179 t180 t181 w0 _ ?side1 ?side2 A42.out).mono ?_); (case side1 => exact z13_); (case side2 => exact z18_); rintro e w47 ⟨rfl, hi, hb, hk⟩; refine ⟨_, rfl, ?_⟩; replace HO_163001 := Aside0.mk (Kd.R_mono (Kd.R_keep (IsS97.apart (show IsS97 w0 _ g x1000_30 x1001_30 x1002_30 from by repeat (first | (with_reducible first | exact HI0.out | apply IsS97.alloc | apply IsS97.drewN | apply IsS97.drew | apply IsS97.set_0 | apply IsS97.set_1 | apply IsS97.set_2 | refine IsS97.far ?_ NB0_157.out _ | refine IsS97.far ?_ NB0_162.out _) | exact HI0.out)) z90_ (by decide)) hk (fun _ h => h.2)) (fun _ h => h.1)); replace BK157 := Aside0.mk (KeepBut.blk hk (g' := gb157) (o := .cells #[.int .i64 0, .slice none 0 0, .int .i64 0, .int .i64 0, .int .i64 0] 100 (0, 0)) z48_ NB157_0.out (by simp)); replace BK162 := Aside0.mk (KeepBut.blk hk (g' := gb162) (o := .cells #[.int .i64 t158, u163001, .int .i64 x163002_30, .int .i64 0, .int .i64 0] 100 (0, 0)) z67_ NB162_0.out (by simp)); replace HK := Aside0.mk (KeepBut.trans z21_ hk (.inl rfl)); replace HB := Aside0.mk (hb); replace HI0 := Aside0.mk (hi); (try clear hb hk hi); obtain ⟨hcz48_0, hcz48_1, hcz48_2, hcz48_3, hcz48_4, hfz48_0, hfz48_1, hfz48_2, hfz48_3, hfz48_4⟩ := bx5_ BK162.out) | ((with_reducible refine gate_callee (f := 62) rfl ?_); refine goesL_ (some 47) rfl rfl Try.func62 (by kernel_rfl) rfl #[.pointer (some ⟨g, 0, none⟩), .int .i64 24, .int .i64 6] rfl z1_ ?_; (with_reducible refine (spec_l15Num.calls kj30 g t179 t180 t181 24 6 t182 t183 t184 t185 w0 _ ?side1 ?side2 A43.out).mono ?_); (case side1 => exact z13_); (case side2 => exact z18_); rintro e w49 ⟨rfl, hi, hb, hk⟩; refine ⟨_, rfl, ?_⟩; replace HO_163001 := Aside0.mk (Kd.R_mono (Kd.R_keep (IsS97.apart (show IsS97 w0 _ g t179 t180 t181 from by repeat (first | (with_reducible first | exact HI0.out | apply IsS97.alloc | apply IsS97.drewN | apply IsS97.drew | apply IsS97.set_0 | apply IsS97.set_1 | apply IsS97.set_2 | refine IsS97.far ?_ NB0_157.out _ | refine IsS97.far ?_ NB0_162.out _) | exact HI0.out)) (by (with_reducible repeat (first | apply Kd.R_alloc | apply Kd.R_drewN | apply Kd.R_drew)); exact (Kd.R_mono (Kd.R_far (p := ⟨gb162, 3, none⟩) (Kd.R_types HO_163001.out BK162.out (by decide)) (fun _ hk => hk.2) (.int .i64 t178)) (fun _ h_ => h_.1))) (by decide)) hk (fun _ h => h.2)) (fun _ h => h.1)); replace BK157 := Aside0.mk (KeepBut.blk hk (g' := gb157) (o := .cells #[.int .i64 0, .slice none 0 0, .int .i64 0, .int .i64 0, .int .i64 0] 100 (0, 0)) z77_ NB157_0.out (by simp)); replace BK162 := Aside0.mk (KeepBut.blk hk (g' := gb162) (o := .cells #[.int .i64 t158, u163001, .int .i64 x163002_30, .int .i64 t178, .int .i64 0] 100 (0, 0)) (by (with_reducible repeat (first | refine blk_drewN ?_ _ | refine blk_drew ?_ | refine blk_alloc ?_ _)); refine blk_put (cs := #[.int .i64 t158, u163001, .int .i64 x163002_30, .int .i64 0, .int .i64 0]) ?_ 3 _ rfl; (with_reducible repeat (first | refine blk_drewN ?_ _ | refine blk_drew ?_ | refine blk_alloc ?_ _)); exact BK162.out) NB162_0.out (by simp)); replace HK := Aside0.mk (KeepBut.trans z21_ hk (.inl rfl)); replace HB := Aside0.mk (hb); replace HI0 := Aside0.mk (hi); (try clear hb hk hi); obtain ⟨hcz50_0, hcz50_1, hcz50_2, hcz50_3, hcz50_4, hfz50_0, hfz50_1, hfz50_2, hfz50_3, hfz50_4⟩ := bx5_ BK162.out; have hnb51 := NB157_0.out; have hnc51 := NB0_157.out; obtain ⟨hcz52_0, hcz52_1, hcz52_2, hcz52_3, hcz52_4, hfz52_0, hfz52_1, hfz52_2, hfz52_3, hfz52_4⟩ := bx5_ BK157.out; obtain ⟨Ao53, co53, eo53⟩ := Kd.R_slice HO_163001.out; subst eo53))
           refine bodyPost_ret (results_cell_row rfl _ _ gb157 100 #[.int .i64 t158, .slice Ao53 x163001_3.length co53, .int .i64 x163002_30, .int .i64 t178, .int .i64 t182] (0, 0) _ rfl (by (with_reducible repeat (first | refine blk_drewN ?_ _ | refine blk_drew ?_ | refine blk_alloc ?_ _)); refine blk_put (cs := #[.int .i64 t158, .slice Ao53 x163001_3.length co53, .int .i64 x163002_30, .int .i64 t178, .int .i64 0]) ?_ 4 _ rfl; (with_reducible repeat (first | refine blk_drewN ?_ _ | refine blk_drew ?_ | refine blk_alloc ?_ _)); refine blk_put (cs := #[.int .i64 t158, .slice Ao53 x163001_3.length co53, .int .i64 x163002_30, .int .i64 0, .int .i64 0]) ?_ 3 _ rfl; (with_reducible repeat (first | refine blk_drewN ?_ _ | refine blk_drew ?_ | refine blk_alloc ?_ _)); refine blk_put (cs := #[.int .i64 t158, .slice Ao53 x163001_3.length co53, .int .i64 0, .int .i64 0, .int .i64 0]) ?_ 2 _ rfl; (with_reducible repeat (first | refine blk_drewN ?_ _ | refine blk_drew ?_ | refine blk_alloc ?_ _)); refine blk_put (cs := #[.int .i64 t158, .slice none 0 0, .int .i64 0, .int .i64 0, .int .i64 0]) ?_ 1 _ rfl; (with_reducible repeat (first | refine blk_drewN ?_ _ | refine blk_drew ?_ | refine blk_alloc ?_ _)); refine blk_put (cs := #[.int .i64 0, .slice none 0 0, .int .i64 0, .int .i64 0, .int .i64 0]) ?_ 0 _ rfl; (with_reducible repeat (first | refine blk_drewN ?_ _ | refine blk_drew ?_ | refine blk_alloc ?_ _)); refine blk_far ?_ NB157_162.out _; (with_reducible repeat (first | refine blk_drewN ?_ _ | refine blk_drew ?_ | refine blk_alloc ?_ _)); exact BK157.out) Try.underlying100 rfl (by kernel_rfl)) rfl ?_
           exact ⟨_, z3_, by (with_reducible repeat (first | apply Kd.R_alloc | apply Kd.R_drewN | apply Kd.R_drew)); exact Kd.R_mono (Kd.R_far (p := ⟨gb157, 4, none⟩) (Kd.R_far (p := ⟨gb157, 3, none⟩) (Kd.R_far (p := ⟨gb157, 2, none⟩) (Kd.R_far (p := ⟨gb157, 1, none⟩) (Kd.R_far (p := ⟨gb157, 0, none⟩) (Kd.R_far (p := ⟨gb162, 4, none⟩) (Kd.R_types (Kd.R_types HO_163001.out BK162.out (by decide)) BK157.out (by decide)) (fun _ hk => hk.1.2) (.int .i64 t182)) (fun _ hk => hk.2) (.int .i64 t158)) (fun _ hk => hk.2) (.slice Ao53 x163001_3.length co53)) (fun _ hk => hk.2) (.int .i64 x163002_30)) (fun _ hk => hk.2) (.int .i64 t178)) (fun _ hk => hk.2) (.int .i64 t182)) (fun _ hk => trivial), z13_, z18_, z21_⟩
          ·rw [if_neg c41] at H
           have c41b0 : (t158 == 3) = false := beq_eq_false_iff_ne.mpr c41
           have c41b1 : (t158 != 3) = true := bne_iff_ne.mpr c41
           simp only [Option.some.injEq, Prod.mk.injEq] at H
           obtain ⟨rfl, rfl, rfl, rfl, rfl, rfl, rfl, rfl⟩ := H
           have hnb54 := NB162_157.out
           have hnc54 := NB157_162.out
           have hnb55 := NB162_0.out
           have hnc55 := NB0_162.out
           obtain ⟨hcz56_0, hcz56_1, hcz56_2, hcz56_3, hcz56_4, hfz56_0, hfz56_1, hfz56_2, hfz56_3, hfz56_4⟩ := bx5_ BK162.out
           have hnb57 := NB157_0.out
           have hnc57 := NB0_157.out
           obtain ⟨hcz58_0, hcz58_1, hcz58_2, hcz58_3, hcz58_4, hfz58_0, hfz58_1, hfz58_2, hfz58_3, hfz58_4⟩ := bx5_ BK157.out
           obtain ⟨Ao59, co59, eo59⟩ := Kd.R_slice HO_163001.out
           subst eo59
           go_wp2
           refine bodyPost_ret (results_cell_row rfl _ _ gb157 100 #[.int .i64 t158, .slice Ao59 x163001_3.length co59, .int .i64 x163002_30, .int .i64 0, .int .i64 0] (0, 0) _ rfl (by (with_reducible repeat (first | refine blk_drewN ?_ _ | refine blk_drew ?_ | refine blk_alloc ?_ _)); refine blk_put (cs := #[.int .i64 t158, .slice Ao59 x163001_3.length co59, .int .i64 x163002_30, .int .i64 0, .int .i64 0]) ?_ 4 _ rfl; (with_reducible repeat (first | refine blk_drewN ?_ _ | refine blk_drew ?_ | refine blk_alloc ?_ _)); refine blk_put (cs := #[.int .i64 t158, .slice Ao59 x163001_3.length co59, .int .i64 x163002_30, .int .i64 0, .int .i64 0]) ?_ 3 _ rfl; (with_reducible repeat (first | refine blk_drewN ?_ _ | refine blk_drew ?_ | refine blk_alloc ?_ _)); refine blk_put (cs := #[.int .i64 t158, .slice Ao59 x163001_3.length co59, .int .i64 0, .int .i64 0, .int .i64 0]) ?_ 2 _ rfl; (with_reducible repeat (first | refine blk_drewN ?_ _ | refine blk_drew ?_ | refine blk_alloc ?_ _)); refine blk_put (cs := #[.int .i64 t158, .slice none 0 0, .int .i64 0, .int .i64 0, .int .i64 0]) ?_ 1 _ rfl; (with_reducible repeat (first | refine blk_drewN ?_ _ | refine blk_drew ?_ | refine blk_alloc ?_ _)); refine blk_put (cs := #[.int .i64 0, .slice none 0 0, .int .i64 0, .int .i64 0, .int .i64 0]) ?_ 0 _ rfl; (with_reducible repeat (first | refine blk_drewN ?_ _ | refine blk_drew ?_ | refine blk_alloc ?_ _)); exact BK157.out) Try.underlying100 rfl (by kernel_rfl)) rfl ?_
           exact ⟨_, z3_, by (with_reducible repeat (first | apply Kd.R_alloc | apply Kd.R_drewN | apply Kd.R_drew)); exact Kd.R_mono (Kd.R_far (p := ⟨gb157, 4, none⟩) (Kd.R_far (p := ⟨gb157, 3, none⟩) (Kd.R_far (p := ⟨gb157, 2, none⟩) (Kd.R_far (p := ⟨gb157, 1, none⟩) (Kd.R_far (p := ⟨gb157, 0, none⟩) (Kd.R_types HO_163001.out BK157.out (by decide)) (fun _ hk => hk.2) (.int .i64 t158)) (fun _ hk => hk.2) (.slice Ao59 x163001_3.length co59)) (fun _ hk => hk.2) (.int .i64 x163002_30)) (fun _ hk => hk.2) (.int .i64 0)) (fun _ hk => hk.2) (.int .i64 0)) (fun _ hk => trivial), z13_, z18_, z21_⟩

end Go.Proofs.Ytbiffnahknkoiaa.PFnExactPatch
