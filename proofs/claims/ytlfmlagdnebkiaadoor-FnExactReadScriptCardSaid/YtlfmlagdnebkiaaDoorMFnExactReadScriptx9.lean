/- Laid by a program of this session out of the kit's print for the law FnExactReadScript: what it says of the machine is proved here, function by function; each contract under the conditions that it names. -/
import Derived.Test.YtlfmlagdnebkiaaDoorShelf
import Derived.Lib.AppendIntMem
import Derived.Test.YtlfmlagdnebkiaaDoorMFnExactReadScriptx0
import Derived.Test.YtlfmlagdnebkiaaDoorMFnExactReadScriptx5
import Derived.Test.YtlfmlagdnebkiaaDoorMFnExactReadScriptx6
import Derived.Test.YtlfmlagdnebkiaaDoorMFnExactReadScriptx8
namespace Go.Proofs.YtlfmlagdnebkiaaDoor.PFnExactReadScript
open Go.RowKit Go.Proofs.YtlfmlagdnebkiaaDoorW.PrintWords Go.Proofs.YtlfmlagdnebkiaaDoorW.PrintLast Go.Proofs.YtlfmlagdnebkiaaDoorW.PrintMore
attribute [local go_sem] max2_int min2_int max_two min_two max_three min_three max_four min_four   -- for this text's walks alone
set_option linter.unusedVariables false
set_option linter.unusedSimpArgs false

/-! ### impl_ReadOp: function 6 -/
mutual
def impl_ReadOp.j0 : Nat → ByteArray → List ByteArray → Bool → Option (Int × List Int × Int × Int × Int × Bool)
 | 0, _, _, _ => none
 | k + 1, x0, x4, x21 => if x21 = true then (some (0, ([] : List Int), 0, 0, 0, false)) else (if 1 < (x4.length : Int) then (if ((rdOf ByteArray.empty x4 1).size : Int) > 1 then (if 1 ≤ ((rdOf ByteArray.empty x4 1).size : Int) then ((strings_Split.f k ((rdOf ByteArray.empty x4 1).extract 1 (rdOf ByteArray.empty x4 1).size) (⟨#[46]⟩ : ByteArray)).bind fun t273 => (impl_ReadOp.l0 k x0 x4 t273 (t273.length : Int) 0 2 ([] : List Int) 0 0 0)) else (none)) else (impl_ReadOp.j2 k x0 x4 2 ([] : List Int) 0 0 0)) else (none))
def impl_ReadOp.j2 : Nat → ByteArray → List ByteArray → Int → List Int → Int → Int → Int → Option (Int × List Int × Int × Int × Int × Bool)
 | 0, _, _, _, _, _, _, _ => none
 | k + 1, x0, x4, x271000, x271001, x271002, x271003, x271004 => if (x4.length : Int) > 2 then (if 2 < (x4.length : Int) then ((impl_LabelOf.f k (rdOf ByteArray.empty x4 2)).bind fun t283 => (impl_ReadOp.j3 k x0 x4 1 x271001 t283 x271003 x271004)) else (none)) else (impl_ReadOp.j3 k x0 x4 x271000 x271001 x271002 x271003 x271004)
def impl_ReadOp.j3 : Nat → ByteArray → List ByteArray → Int → List Int → Int → Int → Int → Option (Int × List Int × Int × Int × Int × Bool)
 | 0, _, _, _, _, _, _, _ => none
 | k + 1, x0, x4, x271000, x271001, x271002, x271003, x271004 => if (x4.length : Int) > 4 then (if 3 < (x4.length : Int) then ((impl_ReadDec.f k (rdOf ByteArray.empty x4 3)).bind fun bt285 => (if 4 < (x4.length : Int) then ((impl_ReadDec.f k (rdOf ByteArray.empty x4 4)).bind fun bt288 => ((impl_OpText.f k 3 x271001 x271002 bt285.1 bt288.1).bind fun t290 => (if t290.toList = x0.toList then (some (3, x271001, x271002, bt285.1, bt288.1, true)) else (some (0, ([] : List Int), 0, 0, 0, false))))) else (none))) else (none)) else ((impl_OpText.f k x271000 x271001 x271002 x271003 x271004).bind fun t291 => (if t291.toList = x0.toList then (some (x271000, x271001, x271002, x271003, x271004, true)) else (some (0, ([] : List Int), 0, 0, 0, false))))
def impl_ReadOp.l0 : Nat → ByteArray → List ByteArray → List ByteArray → Int → Int → Int → List Int → Int → Int → Int → Option (Int × List Int × Int × Int × Int × Bool)
 | 0, _, _, _, _, _, _, _, _, _, _ => none
 | k + 1, x0, x4, x33, x34, x35, x271000, x271001, x271002, x271003, x271004 => if x35 < x34 then (if 0 ≤ x35 then (if x35 < (x33.length : Int) then ((impl_ReadDec.f k (rdOf ByteArray.empty x33 x35)).bind fun bt277 => (if x271001.length < 17592186044416 then (impl_ReadOp.l0 k x0 x4 x33 x34 (wrap64 (x35 + 1)) x271000 (x271001 ++ [bt277.1]) x271002 x271003 x271004) else (none))) else (none)) else (none)) else (impl_ReadOp.j2 k x0 x4 x271000 x271001 x271002 x271003 x271004)
end
def impl_ReadOp.f (k : Nat) (a0 : ByteArray) : Option (Int × List Int × Int × Int × Int × Bool) := (strings_Split.f k a0 (⟨#[32]⟩ : ByteArray)).bind fun t266 => (if (t266.length : Int) < 2 then (impl_ReadOp.j0 k a0 t266 true) else (if 1 < (t266.length : Int) then (impl_ReadOp.j0 k a0 t266 (((rdOf ByteArray.empty t266 1).size : Int) == 0)) else (none)))
set_option maxHeartbeats 8000000 in
set_option maxRecDepth 100000 in
theorem impl_ReadOp.calls (k : Nat) (a0 : ByteArray) (r1 : Int) (r2 : List Int) (r3 : Int) (r4 : Int) (r5 : Int) (r6 : Bool) (w : World) (hL : Laid w) (h : impl_ReadOp.f k a0 = some (r1, r2, r3, r4, r5, r6)) :
  Calls Tryd.prog 6 #[.string a0] w fun e w' => ∃ v1_ : Value, e = .returned (.tuple #[.agg #[.int .i64 r1, v1_, .int .i64 r3, .int .i64 r4, .int .i64 r5], .bool r6]) ∧ Kd.R (Kd.int .i64) 3 w' w.heap.size (fun _ => True) v1_ r2 ∧ Below w.heap.size w w' := by
 have hu24 := Tryd.underlying24
 have HB := Aside0.mk (Below.refl w.heap.size w)
 have H : ((strings_Split.f k a0 (⟨#[32]⟩ : ByteArray)).bind fun t266 => (if (t266.length : Int) < 2 then (impl_ReadOp.j0 k a0 t266 true) else (if 1 < (t266.length : Int) then (impl_ReadOp.j0 k a0 t266 (((rdOf ByteArray.empty t266 1).size : Int) == 0)) else (none)))) = some (r1, r2, r3, r4, r5, r6) := h
 clear h
 obtain ⟨t266, A2, H⟩ := bnd_ H
 have HC3 := Aside0.mk H
 clear H
 go_enter Tryd.func6, Tryd.ntmps6
 go_upto_region 2 with (first | ((with_reducible refine gate_dst (N := 2) rfl ?_); (try (refine gate_guard (by rfl) ?_; dsimp only)); refine box_event ?hg (N := 2) ?hd (cs := #[.int .i64 0, .slice none 0 0, .int .i64 0, .int .i64 0, .int .i64 0]) (t := 24) ?hr ?_; (case hd => rfl); (case hg => rfl); (case hr => exact z18_); intro gb265 hg w4 hbox hb; have BK265 := Aside0.mk (hbox); have GW265 := Aside0.mk ((by rw [hg]; exact (below_size z0_) : w.heap.size ≤ gb265)); have GE265 := Aside0.mk ((by rw [hg]; exact (below_size z0_) : w.heap.size ≤ gb265)); replace HB := Aside0.mk (below_step z0_ hb); clear hb hbox hg) | ((with_reducible refine gate_callee (f := 19) rfl ?_); refine goesL_ (some 11) rfl rfl Tryd.func19 (by kernel_rfl) rfl #[.string a0, .string (⟨#[32]⟩ : ByteArray)] rfl z1_ ?_; (with_reducible refine (strings_Split.calls k a0 (⟨#[32]⟩ : ByteArray) t266 _ (hL.below z7_) A2.out).mono ?_); rintro e w5 ⟨v267, rfl, ho0, hb⟩; refine ⟨_, rfl, ?_⟩; have HO268 := Aside0.mk (Kd.R_lower ho0 (below_size z34_)); replace BK265 := Aside0.mk (blk_below (g := gb265) (o := .cells #[.int .i64 0, .slice none 0 0, .int .i64 0, .int .i64 0, .int .i64 0] 24 (0, 0)) z30_ hb); replace HB := Aside0.mk (below_step z34_ hb); (try clear hb ho0)))
 (try simp only [Act.put, List.setIfInBounds_toArray, List.set_cons_zero, List.set_cons_succ])
 go_cut [21] (fun v21 wc => ∃ (kq : Nat) (x21_2 : Bool), v21 = .bool x21_2 ∧ Aside0 (impl_ReadOp.j0 kq a0 t266 x21_2 = some (r1, r2, r3, r4, r5, r6)) ∧ Aside0 (kq ≤ k) ∧ Aside0 (Kd.R Kd.string 9 wc w.heap.size (fun _ => True) v267 t266) ∧ Aside0 (wc.heap[gb265]? = some (.cells #[.int .i64 0, (.slice none 0 0), .int .i64 0, .int .i64 0, .int .i64 0] 24 (0, 0))) ∧ Aside0 (Below w.heap.size w wc))
 case first =>
  have H := HC3.out
  clear HC3
  by_cases c6 : (t266.length : Int) < 2
  ·rw [if_pos c6] at H
   have c6b0 := decide_eq_true c6
   have c6b1 : decide (t266.length < 2) = true := decide_eq_true (by omega)
   clear c6
   (first | rw [c6b0] | rw [c6b1] | (simp only [i64_w, i32_w]; rw [c6b0]) | skip)
   have H' := Aside0.mk H
   clear H
   obtain ⟨Ao7, co7, eo7⟩ := Kd.R_slice HO268.out
   subst eo7
   go_wp2
   go_meet
   case rel => exact ⟨_, (true), z4_, H', ⟨z74_⟩, ⟨z108_⟩, ⟨z30_⟩, ⟨z34_⟩⟩
  ·rw [if_neg c6] at H
   have c6b0 := decide_eq_false c6
   have c6b1 : decide (t266.length < 2) = false := decide_eq_false (by omega)
   clear c6
   (first | rw [c6b0] | rw [c6b1] | (simp only [i64_w, i32_w]; rw [c6b0]) | skip)
   obtain ⟨c8, H⟩ := ifs_ H
   have c8b0 := decide_eq_true c8
   have c8b1 : decide (1 < t266.length) = true := decide_eq_true (by omega)
   clear c8
   have H' := Aside0.mk H
   clear H
   obtain ⟨Ao9, co9, eo9⟩ := Kd.R_slice HO268.out
   subst eo9
   have p269 : 0 ≤ (1 : Int) := (by omega)
   have q269 : 1 < (t266.length : Int) := odt_
   obtain ⟨ad269, e269, hx269_0⟩ := Kd.at_string (Kd.R_reads' HO268.out).2.2 1 p269 q269
   cases e269
   (try simp only [show (1 : Int).toNat = 1 from rfl, Nat.reduceMul, Nat.reduceEqDiff, Go.Addr.add, ↓reduceIte] at hx269_0)
   have qi269 : (1 < t266.length) = True := eq_true (by omega)
   (try rw [show ((1 : Int)).toNat = 1 from rfl] at hx269_0)
   replace p269 := eq_true p269
   replace q269 := eq_true q269
   go_wp2
   go_meet
   case rel => exact ⟨_, ((((rdOf ByteArray.empty t266 1).size : Int) == 0)), z4_, H', ⟨z74_⟩, ⟨z108_⟩, ⟨z30_⟩, ⟨z34_⟩⟩
 case rest =>
  clear HC3
  try clear c1
  try clear p2
  try clear q2
  try clear hx2
  try clear qi2
  try clear c6
  try clear c6b0
  try clear c6b1
  try clear c8
  try clear c8b0
  try clear c8b1
  try clear hx269_0
  try clear p269
  try clear q269
  obtain ⟨kq, x21_2, rfl, HA, HJ2, HO_4, BK265, HB⟩ := hcut
  cases kq with
  | zero => exact absurd HA.out (by simp [impl_ReadOp.j0])
  | succ kj2 =>
   have H := HA.out
   clear HA
   simp only [impl_ReadOp.j0] at H
   by_cases c10 : x21_2 = true
   ·subst c10
    replace H := ift_ H
    simp only [Option.some.injEq, Prod.mk.injEq] at H
    obtain ⟨rfl, rfl, rfl, rfl, rfl, rfl⟩ := H
    obtain ⟨hcz11_0, hcz11_1, hcz11_2, hcz11_3, hcz11_4, hfz11_0, hfz11_1, hfz11_2, hfz11_3, hfz11_4⟩ := bx5_ BK265.out
    go_wp2
    refine bodyPost_ret (results_ct rfl _ _ gb265 24 #[.int .i64 0, .slice none 0 0, .int .i64 0, .int .i64 0, .int .i64 0] (0, 0) _ rfl z9_ Tryd.underlying24 rfl (by kernel_rfl)) rfl ?_
    exact ⟨_, z2_, z32_, z34_⟩
   ·replace c10 := Bool.eq_false_iff.mpr c10
    subst c10
    replace H := iff_ H
    obtain ⟨c12, H⟩ := ifs_ H
    have c12b0 := decide_eq_true c12
    have c12b1 : decide (1 < t266.length) = true := decide_eq_true (by omega)
    clear c12
    have HC13 := Aside0.mk H
    clear H
    go_upto_if 28 with (first | ((with_reducible refine gate_dst (N := 5) rfl ?_); (try (refine gate_guard (by rfl) ?_; dsimp only)); refine box_event ?hg (N := 5) ?hd (cs := #[.int .i64 0, .slice none 0 0, .int .i64 0, .int .i64 0, .int .i64 0]) (t := 24) ?hr ?_; (case hd => rfl); (case hg => rfl); (case hr => exact z18_); intro gb270 hg w14 hbox hb; replace HO_4 := Aside0.mk (Kd.R_below z19_ hb); have BK270 := Aside0.mk (hbox); have GW270 := Aside0.mk ((by rw [hg]; exact (below_size z34_) : w.heap.size ≤ gb270)); have GE270 := Aside0.mk ((by rw [hg]; exact (below_size z34_) : w.heap.size ≤ gb270)); replace HB := Aside0.mk (below_step z34_ hb); have NB265_270 := Aside0.mk ((by rw [hg]; exact Nat.ne_of_lt (blk_lt (g := gb265) (o := .cells #[.int .i64 0, .slice none 0 0, .int .i64 0, .int .i64 0, .int .i64 0] 24 (0, 0)) z30_) : gb265 ≠ gb270)); have NB270_265 := Aside0.mk ((by rw [hg]; exact Nat.ne_of_gt (blk_lt (g := gb265) (o := .cells #[.int .i64 0, .slice none 0 0, .int .i64 0, .int .i64 0, .int .i64 0] 24 (0, 0)) z30_) : gb270 ≠ gb265)); replace BK265 := Aside0.mk (blk_below (g := gb265) (o := .cells #[.int .i64 0, .slice none 0 0, .int .i64 0, .int .i64 0, .int .i64 0] 24 (0, 0)) z30_ hb); clear hb hbox hg; have hnb15 := NB270_265.out; have hnc15 := NB265_270.out; obtain ⟨hcz16_0, hcz16_1, hcz16_2, hcz16_3, hcz16_4, hfz16_0, hfz16_1, hfz16_2, hfz16_3, hfz16_4⟩ := bx5_ BK270.out; obtain ⟨Ao17, co17, eo17⟩ := Kd.R_slice HO_4.out; subst eo17; have p271 : 0 ≤ (1 : Int) := (by omega); have q271 : 1 < (t266.length : Int) := odt_; obtain ⟨ad271, e271, hx271_0⟩ := Kd.at_string (Kd.R_reads' HO_4.out).2.2 1 p271 q271; cases e271; (try simp only [show (1 : Int).toNat = 1 from rfl, Nat.reduceMul, Nat.reduceEqDiff, Go.Addr.add, ↓reduceIte] at hx271_0); have qi271 : (1 < t266.length) = True := eq_true (by omega); (try rw [show ((1 : Int)).toNat = 1 from rfl] at hx271_0); have hn271_0 : ad271.block ≠ gb270 := Kd.own_blk (Kd.R_ne HO_4.out BK270.out (by decide)); have hn271_1 : ad271.block ≠ gb270 := Kd.own_blk (Kd.R_ne HO_4.out BK270.out (by decide)); have hn271_2 : ad271.block ≠ gb270 := Kd.own_blk (Kd.R_ne HO_4.out BK270.out (by decide)); have hn271_3 : ad271.block ≠ gb270 := Kd.own_blk (Kd.R_ne HO_4.out BK270.out (by decide)); have hn271_4 : ad271.block ≠ gb270 := Kd.own_blk (Kd.R_ne HO_4.out BK270.out (by decide)); replace hx271_0 := (cell_far (p := ⟨gb270, 0, none⟩) (by first | (rw [add_block]; exact hn271_0) | (show (Addr.add _ _).block ≠ _; rw [add_block]; exact hn271_0) | exact hn271_0) (.int .i64 2)).trans hx271_0; replace hx271_0 := (cell_far (p := ⟨gb270, 1, none⟩) (by first | (rw [add_block]; exact hn271_1) | (show (Addr.add _ _).block ≠ _; rw [add_block]; exact hn271_1) | exact hn271_1) (.slice none 0 0)).trans hx271_0; replace hx271_0 := (cell_far (p := ⟨gb270, 2, none⟩) (by first | (rw [add_block]; exact hn271_2) | (show (Addr.add _ _).block ≠ _; rw [add_block]; exact hn271_2) | exact hn271_2) (.int .i64 0)).trans hx271_0; replace hx271_0 := (cell_far (p := ⟨gb270, 3, none⟩) (by first | (rw [add_block]; exact hn271_3) | (show (Addr.add _ _).block ≠ _; rw [add_block]; exact hn271_3) | exact hn271_3) (.int .i64 0)).trans hx271_0; replace hx271_0 := (cell_far (p := ⟨gb270, 4, none⟩) (by first | (rw [add_block]; exact hn271_4) | (show (Addr.add _ _).block ≠ _; rw [add_block]; exact hn271_4) | exact hn271_4) (.int .i64 0)).trans hx271_0; clear hn271_0; clear hn271_1; clear hn271_2; clear hn271_3; clear hn271_4; replace p271 := eq_true p271; replace q271 := eq_true q271))
    (try simp only [Act.put, List.setIfInBounds_toArray, List.set_cons_zero, List.set_cons_succ])
    go_cut [] (fun wc => ∃ (kq : Nat) (x271001_12 : List Int) (u271001 : Value), Aside0 (impl_ReadOp.j2 kq a0 t266 2 x271001_12 0 0 0 = some (r1, r2, r3, r4, r5, r6)) ∧ Aside0 (kq ≤ kj2) ∧ Aside0 (Kd.R Kd.string 9 wc w.heap.size (fun _ => True) (.slice (some ad271) t266.length co17) t266) ∧ Aside0 (Kd.R (Kd.int .i64) 3 wc w.heap.size (fun _ => True) u271001 x271001_12) ∧ Aside0 (wc.heap[gb265]? = some (.cells #[.int .i64 0, (.slice none 0 0), .int .i64 0, .int .i64 0, .int .i64 0] 24 (0, 0))) ∧ Aside0 (wc.heap[gb270]? = some (.cells #[.int .i64 2, u271001, .int .i64 0, .int .i64 0, .int .i64 0] 24 (0, 0))) ∧ Aside0 (Below w.heap.size w wc))
    case first =>
     have H := HC13.out
     clear HC13
     by_cases c18 : ((rdOf ByteArray.empty t266 1).size : Int) > 1
     ·rw [if_pos c18] at H
      have c18b0 := decide_eq_true c18
      have c18b1 : decide (1 < (rdOf ByteArray.empty t266 1).size) = true := decide_eq_true (by omega)
      clear c18
      (first | rw [c18b0] | rw [c18b1] | (simp only [i64_w, i32_w]; rw [c18b0]) | skip)
      obtain ⟨c19b0, c19b1, H⟩ := ife_ H
      obtain ⟨t273, A20, H⟩ := bnd_ H
      have H' := Aside0.mk H
      clear H
      have p272 : 0 ≤ (1 : Int) := (by omega)
      have q272 : 1 < (t266.length : Int) := odt_
      obtain ⟨ad272, e272, hx272_0⟩ := Kd.at_string (Kd.R_reads' HO_4.out).2.2 1 p272 q272
      obtain rfl : ad271 = ad272 := (by injection e272)
      (try simp only [show (1 : Int).toNat = 1 from rfl, Nat.reduceMul, Nat.reduceEqDiff, Go.Addr.add, ↓reduceIte] at hx272_0)
      have qi272 : (1 < t266.length) = True := eq_true (by omega)
      (try rw [show ((1 : Int)).toNat = 1 from rfl] at hx272_0)
      have hn272_0 : ad271.block ≠ gb270 := Kd.own_blk (Kd.R_ne HO_4.out BK270.out (by decide))
      have hn272_1 : ad271.block ≠ gb270 := Kd.own_blk (Kd.R_ne HO_4.out BK270.out (by decide))
      have hn272_2 : ad271.block ≠ gb270 := Kd.own_blk (Kd.R_ne HO_4.out BK270.out (by decide))
      have hn272_3 : ad271.block ≠ gb270 := Kd.own_blk (Kd.R_ne HO_4.out BK270.out (by decide))
      have hn272_4 : ad271.block ≠ gb270 := Kd.own_blk (Kd.R_ne HO_4.out BK270.out (by decide))
      replace hx272_0 := (cell_far (p := ⟨gb270, 0, none⟩) (by first | (rw [add_block]; exact hn272_0) | (show (Addr.add _ _).block ≠ _; rw [add_block]; exact hn272_0) | exact hn272_0) (.int .i64 2)).trans hx272_0
      replace hx272_0 := (cell_far (p := ⟨gb270, 1, none⟩) (by first | (rw [add_block]; exact hn272_1) | (show (Addr.add _ _).block ≠ _; rw [add_block]; exact hn272_1) | exact hn272_1) (.slice none 0 0)).trans hx272_0
      replace hx272_0 := (cell_far (p := ⟨gb270, 2, none⟩) (by first | (rw [add_block]; exact hn272_2) | (show (Addr.add _ _).block ≠ _; rw [add_block]; exact hn272_2) | exact hn272_2) (.int .i64 0)).trans hx272_0
      replace hx272_0 := (cell_far (p := ⟨gb270, 3, none⟩) (by first | (rw [add_block]; exact hn272_3) | (show (Addr.add _ _).block ≠ _; rw [add_block]; exact hn272_3) | exact hn272_3) (.int .i64 0)).trans hx272_0
      replace hx272_0 := (cell_far (p := ⟨gb270, 4, none⟩) (by first | (rw [add_block]; exact hn272_4) | (show (Addr.add _ _).block ≠ _; rw [add_block]; exact hn272_4) | exact hn272_4) (.int .i64 0)).trans hx272_0
      clear hn272_0
      clear hn272_1
      clear hn272_2
      clear hn272_3
      clear hn272_4
      replace p272 := eq_true p272
      replace q272 := eq_true q272
      go_wp2_with (first | ((with_reducible refine gate_callee (f := 19) rfl ?_); refine goesL_ (some 33) rfl rfl Tryd.func19 (by kernel_rfl) rfl #[.string ((rdOf ByteArray.empty t266 1).extract 1 (rdOf ByteArray.empty t266 1).size), .string (⟨#[46]⟩ : ByteArray)] rfl z1_ ?_; (with_reducible refine (strings_Split.calls kj2 ((rdOf ByteArray.empty t266 1).extract 1 (rdOf ByteArray.empty t266 1).size) (⟨#[46]⟩ : ByteArray) t273 _ (hL.below z7_) A20.out).mono ?_); rintro e w21 ⟨v274, rfl, ho0, hb⟩; refine ⟨_, rfl, ?_⟩; have HO275 := Aside0.mk (Kd.R_lower (Kd.R_new' ho0 (Kd.R_lt z42_)) (below_size z5_)); replace HO_4 := Aside0.mk (Kd.R_elder' z42_ (Kd.R_base ho0) hb); replace BK265 := Aside0.mk (blk_below (g := gb265) (o := .cells #[.int .i64 0, .slice none 0 0, .int .i64 0, .int .i64 0, .int .i64 0] 24 (0, 0)) z31_ hb); replace BK270 := Aside0.mk (blk_below (g := gb270) (o := .cells #[.int .i64 2, .slice none 0 0, .int .i64 0, .int .i64 0, .int .i64 0] 24 (0, 0)) z17_ hb); replace HB := Aside0.mk (below_step z5_ hb); (try clear hb ho0); obtain ⟨Ao22, co22, eo22⟩ := Kd.R_slice HO275.out; subst eo22))
      go_loopg [35] kj2 (fun kq v35 w' => ∃ (x35_2 : Int) (x271001_2 : List Int) (u271001 : Value), v35 = .int .i64 x35_2 ∧ Aside0 (impl_ReadOp.l0 kq a0 t266 t273 (t273.length : Int) x35_2 2 x271001_2 0 0 0 = some (r1, r2, r3, r4, r5, r6)) ∧ Aside0 (kq ≤ kj2) ∧ Aside0 (Kd.R Kd.string 9 w' w.heap.size (fun k_ => some k_ ≠ ((.slice Ao22 t273.length co22) : Value).ownBlock) (.slice (some ad271) t266.length co17) t266) ∧ Aside0 (Kd.R Kd.string 9 w' w.heap.size (fun k_ => some k_ ≠ ((.slice (some ad271) t266.length co17) : Value).ownBlock) (.slice Ao22 t273.length co22) t273) ∧ Aside0 (Kd.R (Kd.int .i64) 3 w' w.heap.size (fun _ => True) u271001 x271001_2) ∧ Aside0 (w'.heap[gb265]? = some (.cells #[.int .i64 0, (.slice none 0 0), .int .i64 0, .int .i64 0, .int .i64 0] 24 (0, 0))) ∧ Aside0 (w'.heap[gb270]? = some (.cells #[.int .i64 2, u271001, .int .i64 0, .int .i64 0, .int .i64 0] 24 (0, 0))) ∧ Aside0 (Below w.heap.size w w'))
      case atStart => exact ⟨(0), (([] : List Int)), (.slice none 0 0), z4_, H', ⟨Nat.le_refl _⟩, ⟨z93_⟩, ⟨by (with_reducible repeat (first | apply Kd.R_alloc | apply Kd.R_drewN | apply Kd.R_drew)); exact Kd.R_mono HO275.out (fun _ hk => hk.2)⟩, ⟨z32_⟩, ⟨z30_⟩, ⟨z47_⟩, ⟨z5_⟩⟩
      case round =>
       clear H'
       try clear c1
       try clear p2
       try clear q2
       try clear hx2
       try clear qi2
       try clear c6
       try clear c6b0
       try clear c6b1
       try clear c8
       try clear c8b0
       try clear c8b1
       try clear c10
       try clear c12
       try clear c12b0
       try clear c12b1
       try clear c15
       try clear c18
       try clear c18b0
       try clear c18b1
       try clear c19
       try clear c19b0
       try clear c19b1
       try clear hcz11_0
       try clear hcz11_1
       try clear hcz11_2
       try clear hcz11_3
       try clear hcz11_4
       try clear hcz16_0
       try clear hcz16_1
       try clear hcz16_2
       try clear hcz16_3
       try clear hcz16_4
       try clear hfz11_0
       try clear hfz11_1
       try clear hfz11_2
       try clear hfz11_3
       try clear hfz11_4
       try clear hfz16_0
       try clear hfz16_1
       try clear hfz16_2
       try clear hfz16_3
       try clear hfz16_4
       try clear hx269_0
       try clear hx271_0
       try clear hx272_0
       try clear p2
       try clear p269
       try clear p271
       try clear p272
       try clear q2
       try clear q269
       try clear q271
       try clear q272
       obtain ⟨x35_2, x271001_2, u271001, rfl, HA, HK2, HO_4, HO_33, HO_271001, BK265, BK270, HB⟩ := hrel
       cases gk with
       | zero => exact absurd HA.out (by simp [impl_ReadOp.l0])
       | succ k2 =>
        have H := HA.out
        clear HA
        simp only [impl_ReadOp.l0] at H
        by_cases c23 : x35_2 < (t273.length : Int)
        ·rw [if_pos c23] at H
         have c23b0 := decide_eq_true c23
         clear c23
         obtain ⟨c24b0, H⟩ := ifd_ H
         obtain ⟨c25b0, H⟩ := ifd_ H
         replace H := Option.bind_eq_some_iff.mp H
         obtain ⟨⟨t277, t278⟩, A260, H⟩ := H
         try dsimp only at H
         have A26 := Aside0.mk A260
         clear A260
         obtain ⟨c27, H⟩ := ifs_ H
         have LMc27 := Aside0.mk c27
         clear c27
         first | ((with_reducible have hz_ := gy_ H); obtain ⟨y279, Ny279, H⟩ := hz_) | (generalize hy_ : ((x271001_2 ++ [t277]) : List Int) = y279 at H; have Ny279 := Aside0.mk hy_.symm; clear hy_)
         have H' := Aside0.mk H
         clear H
         have p276 : 0 ≤ (x35_2 : Int) := odt_
         have q276 : x35_2 < (t273.length : Int) := odt_
         obtain ⟨ad276, e276, hx276_0⟩ := Kd.at_string (Kd.R_reads' HO_33.out).2.2 x35_2 p276 q276
         cases e276
         replace p276 := eq_true p276
         replace q276 := eq_true q276
         go_wp2_with (first | ((with_reducible refine gate_callee (f := 20) rfl ?_); refine goesL_ (some 41) rfl rfl Tryd.func20 (by kernel_rfl) rfl #[.string (rdOf ByteArray.empty t273 x35_2)] rfl z1_ ?_; (with_reducible refine (impl_ReadDec.calls k2 (rdOf ByteArray.empty t273 x35_2) t277 t278 _ (hL.below z7_) A26.out).mono ?_); rintro e w28 ⟨rfl, hb⟩; refine ⟨_, rfl, ?_⟩; replace HO_4 := Aside0.mk (Kd.R_below z19_ hb); replace HO_33 := Aside0.mk (Kd.R_below z107_ hb); replace HO_271001 := Aside0.mk (Kd.R_below z46_ hb); replace BK265 := Aside0.mk (blk_below (g := gb265) (o := .cells #[.int .i64 0, .slice none 0 0, .int .i64 0, .int .i64 0, .int .i64 0] 24 (0, 0)) z30_ hb); replace BK270 := Aside0.mk (blk_below (g := gb270) (o := .cells #[.int .i64 2, u271001, .int .i64 0, .int .i64 0, .int .i64 0] 24 (0, 0)) z47_ hb); replace HB := Aside0.mk (below_step z5_ hb); (try clear hb); have hnb29 := NB270_265.out; have hnc29 := NB265_270.out; obtain ⟨hcz30_0, hcz30_1, hcz30_2, hcz30_3, hcz30_4, hfz30_0, hfz30_1, hfz30_2, hfz30_3, hfz30_4⟩ := bx5_ BK270.out) | ((with_reducible refine gate_builtin (b := .append) (xs := #[.tmp 45, .tmp 47]) rfl ?_); (try (refine gate_guard (by rfl) ?_; dsimp only)); at_builtin; refine Kd.R_append (Kd.int .i64) (w0 := w) w.heap.size rfl (.tmp 45) (.tmp 47) 22 3 (.int .i64 0) 8 rfl Tryd.underlying22 info3 rfl (by decide) (by omega) u271001 x271001_2 t277 [.int .i64 t277] (fun _ => True) (fun _ => False) rfl rfl ?aP (fun _ hk => hk.elim) ?aF ?aO ?aB ?aS ?aL ?_; (case aP => exact rfl); (case aB => exact z5_); (case aF => exact z116_); (case aO => exact z46_); (case aS => exact (below_size z5_)); (case aL => have := LMc27.out; omega); intro v280 w31 ho hb hg hat; rw [← Ny279.out] at ho; replace HO_4 := Aside0.mk (Kd.R_over' z19_ (Kd.R_typed z46_) (by decide) hg); replace HO_33 := Aside0.mk (Kd.R_over' z107_ (Kd.R_typed z46_) (by decide) hg); replace BK265 := Aside0.mk (blk_grown (g := gb265) (o := .cells #[.int .i64 0, .slice none 0 0, .int .i64 0, .int .i64 0, .int .i64 0] 24 (0, 0)) z30_ hg (Kd.R_ne HO_271001.out BK265.out (by decide))); replace BK270 := Aside0.mk (blk_grown (g := gb270) (o := .cells #[.int .i64 2, u271001, .int .i64 0, .int .i64 0, .int .i64 0] 24 (0, 0)) z47_ hg (Kd.R_ne HO_271001.out BK270.out (by decide))); replace HB := Aside0.mk (hb); have HO281 := Aside0.mk (ho); clear HO_271001; clear ho hb hg hat; obtain ⟨Ao32, co32, eo32⟩ := Kd.R_slice HO281.out; subst eo32; obtain ⟨hcz33_0, hcz33_1, hcz33_2, hcz33_3, hcz33_4, hfz33_0, hfz33_1, hfz33_2, hfz33_3, hfz33_4⟩ := bx5_ BK270.out))
         go_roundg k2
         case measure => have := HJ2.out; have := HK2.out; omega
         case rel => exact ⟨(wrap64 (x35_2 + 1)), (y279), (.slice Ao32 y279.length co32), z4_, H', ⟨by have := HJ2.out; have := HK2.out; omega⟩, ⟨by (with_reducible repeat (first | apply Kd.R_alloc | apply Kd.R_drewN | apply Kd.R_drew)); exact Kd.R_mono (Kd.R_far (p := ⟨gb270, 1, none⟩) (Kd.R_types HO_4.out BK270.out (by decide)) (fun _ hk => hk.2) (.slice Ao32 y279.length co32)) (fun _ hk => hk.1)⟩, ⟨by (with_reducible repeat (first | apply Kd.R_alloc | apply Kd.R_drewN | apply Kd.R_drew)); exact Kd.R_mono (Kd.R_far (p := ⟨gb270, 1, none⟩) (Kd.R_types HO_33.out BK270.out (by decide)) (fun _ hk => hk.2) (.slice Ao32 y279.length co32)) (fun _ hk => hk.1)⟩, ⟨by (with_reducible repeat (first | apply Kd.R_alloc | apply Kd.R_drewN | apply Kd.R_drew)); exact Kd.R_mono (Kd.R_far (p := ⟨gb270, 1, none⟩) (Kd.R_types HO281.out BK270.out (by decide)) (fun _ hk => hk.2) (.slice Ao32 y279.length co32)) (fun _ hk => trivial)⟩, ⟨z27_⟩, ⟨by (with_reducible repeat (first | refine blk_drewN ?_ _ | refine blk_drew ?_ | refine blk_alloc ?_ _)); refine blk_put (cs := #[.int .i64 2, u271001, .int .i64 0, .int .i64 0, .int .i64 0]) ?_ 1 _ rfl; (with_reducible repeat (first | refine blk_drewN ?_ _ | refine blk_drew ?_ | refine blk_alloc ?_ _)); exact BK270.out⟩, ⟨z5_⟩⟩
        ·rw [if_neg c23] at H
         have c23b0 := decide_eq_false c23
         clear c23
         have H' := Aside0.mk H
         clear H
         go_wp2
         go_meet
         case rel => exact ⟨_, (x271001_2), (u271001), H', ⟨by have := HJ2.out; have := HK2.out; first | omega | exact Nat.le_refl _⟩, ⟨z92_⟩, ⟨z46_⟩, ⟨z30_⟩, ⟨z47_⟩, ⟨z5_⟩⟩
     ·rw [if_neg c18] at H
      have c18b0 := decide_eq_false c18
      have c18b1 : decide (1 < (rdOf ByteArray.empty t266 1).size) = false := decide_eq_false (by omega)
      clear c18
      (first | rw [c18b0] | rw [c18b1] | (simp only [i64_w, i32_w]; rw [c18b0]) | skip)
      have H' := Aside0.mk H
      clear H
      go_wp2
      go_meet
      case rel => exact ⟨_, (([] : List Int)), (.slice none 0 0), H', ⟨by have := HJ2.out; first | omega | exact Nat.le_refl _⟩, ⟨by (with_reducible repeat (first | apply Kd.R_alloc | apply Kd.R_drewN | apply Kd.R_drew)); exact Kd.R_mono (Kd.R_far (p := ⟨gb270, 4, none⟩) (Kd.R_far (p := ⟨gb270, 3, none⟩) (Kd.R_far (p := ⟨gb270, 2, none⟩) (Kd.R_far (p := ⟨gb270, 1, none⟩) (Kd.R_far (p := ⟨gb270, 0, none⟩) (Kd.R_types HO_4.out BK270.out (by decide)) (fun _ hk => hk.2) (.int .i64 2)) (fun _ hk => hk.2) (.slice none 0 0)) (fun _ hk => hk.2) (.int .i64 0)) (fun _ hk => hk.2) (.int .i64 0)) (fun _ hk => hk.2) (.int .i64 0)) (fun _ hk => trivial)⟩, ⟨z32_⟩, ⟨z31_⟩, ⟨z17_⟩, ⟨z5_⟩⟩
    case rest =>
     clear HC13
     try clear c1
     try clear c2
     try clear p2
     try clear q2
     try clear hx2
     try clear qi2
     try clear c6
     try clear c6b0
     try clear c6b1
     try clear p6
     try clear c8
     try clear c8b0
     try clear c8b1
     try clear c10
     try clear c12
     try clear c12b0
     try clear c12b1
     try clear c15
     try clear c18
     try clear c18b0
     try clear c18b1
     try clear c19
     try clear c19b0
     try clear c19b1
     try clear c20
     try clear c23
     try clear c23b0
     try clear c24
     try clear c24b0
     try clear c25
     try clear c25b0
     try clear p26
     try clear q26
     try clear hx26
     try clear qi26
     try clear c27
     try clear p27
     try clear q27
     try clear hx27
     try clear qi27
     try clear c29
     try clear hcz11_0
     try clear hcz11_1
     try clear hcz11_2
     try clear hcz11_3
     try clear hcz11_4
     try clear hcz16_0
     try clear hcz16_1
     try clear hcz16_2
     try clear hcz16_3
     try clear hcz16_4
     try clear hcz30_0
     try clear hcz30_1
     try clear hcz30_2
     try clear hcz30_3
     try clear hcz30_4
     try clear hcz33_0
     try clear hcz33_1
     try clear hcz33_2
     try clear hcz33_3
     try clear hcz33_4
     try clear hfz11_0
     try clear hfz11_1
     try clear hfz11_2
     try clear hfz11_3
     try clear hfz11_4
     try clear hfz16_0
     try clear hfz16_1
     try clear hfz16_2
     try clear hfz16_3
     try clear hfz16_4
     try clear hfz30_0
     try clear hfz30_1
     try clear hfz30_2
     try clear hfz30_3
     try clear hfz30_4
     try clear hfz33_0
     try clear hfz33_1
     try clear hfz33_2
     try clear hfz33_3
     try clear hfz33_4
     try clear hx269_0
     try clear hx271_0
     try clear hx272_0
     try clear hx276_0
     try clear p2
     try clear p269
     try clear p271
     try clear p272
     try clear p276
     try clear q2
     try clear q269
     try clear q271
     try clear q272
     try clear q276
     obtain ⟨kq, x271001_12, u271001, HA, HJ12, HO_4, HO_271001, BK265, BK270, HB⟩ := hcut
     cases kq with
     | zero => exact absurd HA.out (by simp [impl_ReadOp.j2])
     | succ kj12 =>
      have H := HA.out
      clear HA
      simp only [impl_ReadOp.j2] at H
      have HC34 := Aside0.mk H
      clear H
      go_upto_if 53 with (fail)
      go_cut [] (fun wc => ∃ (kq : Nat) (x271000_33 : Int) (x271002_33 : Int), Aside0 (impl_ReadOp.j3 kq a0 t266 x271000_33 x271001_12 x271002_33 0 0 = some (r1, r2, r3, r4, r5, r6)) ∧ Aside0 (kq ≤ kj12) ∧ Aside0 (Kd.R Kd.string 9 wc w.heap.size (fun _ => True) (.slice (some ad271) t266.length co17) t266) ∧ Aside0 (Kd.R (Kd.int .i64) 3 wc w.heap.size (fun _ => True) u271001 x271001_12) ∧ Aside0 (wc.heap[gb265]? = some (.cells #[.int .i64 0, (.slice none 0 0), .int .i64 0, .int .i64 0, .int .i64 0] 24 (0, 0))) ∧ Aside0 (wc.heap[gb270]? = some (.cells #[.int .i64 x271000_33, u271001, .int .i64 x271002_33, .int .i64 0, .int .i64 0] 24 (0, 0))) ∧ Aside0 (Below w.heap.size w wc))
      case first =>
       have H := HC34.out
       clear HC34
       by_cases c35 : (t266.length : Int) > 2
       ·rw [if_pos c35] at H
        have c35b0 := decide_eq_true c35
        have c35b1 : decide (2 < t266.length) = true := decide_eq_true (by omega)
        clear c35
        (first | rw [c35b0] | rw [c35b1] | (simp only [i64_w, i32_w]; rw [c35b0]) | skip)
        obtain ⟨c36, H⟩ := ifs_ H
        have c36b0 := decide_eq_true c36
        have c36b1 : decide (2 < t266.length) = true := decide_eq_true (by omega)
        clear c36
        obtain ⟨t283, A37, H⟩ := bnd_ H
        have H' := Aside0.mk H
        clear H
        have p282 : 0 ≤ (2 : Int) := (by omega)
        have q282 : 2 < (t266.length : Int) := odt_
        obtain ⟨ad282, e282, hx282_0⟩ := Kd.at_string (Kd.R_reads' HO_4.out).2.2 2 p282 q282
        obtain rfl : ad271 = ad282 := (by injection e282)
        (try simp only [show (2 : Int).toNat = 2 from rfl, Nat.reduceMul, Nat.reduceEqDiff, Go.Addr.add, ↓reduceIte] at hx282_0)
        have qi282 : (2 < t266.length) = True := eq_true (by omega)
        (try rw [show ((2 : Int)).toNat = 2 from rfl] at hx282_0)
        replace p282 := eq_true p282
        replace q282 := eq_true q282
        go_wp2_with (first | ((with_reducible refine gate_callee (f := 21) rfl ?_); refine goesL_ (some 57) rfl rfl Tryd.func21 (by kernel_rfl) rfl #[.string (rdOf ByteArray.empty t266 2)] rfl z1_ ?_; (with_reducible refine (impl_LabelOf.calls kj12 (rdOf ByteArray.empty t266 2) t283 _ A37.out).mono ?_); rintro e w38 ⟨rfl, hb⟩; refine ⟨_, rfl, ?_⟩; replace HO_4 := Aside0.mk (Kd.R_below z19_ hb); replace HO_271001 := Aside0.mk (Kd.R_below z46_ hb); replace BK265 := Aside0.mk (blk_below (g := gb265) (o := .cells #[.int .i64 0, .slice none 0 0, .int .i64 0, .int .i64 0, .int .i64 0] 24 (0, 0)) z30_ hb); replace BK270 := Aside0.mk (blk_below (g := gb270) (o := .cells #[.int .i64 2, u271001, .int .i64 0, .int .i64 0, .int .i64 0] 24 (0, 0)) z47_ hb); replace HB := Aside0.mk (below_step z5_ hb); (try clear hb); have hnb39 := NB270_265.out; have hnc39 := NB265_270.out; obtain ⟨hcz40_0, hcz40_1, hcz40_2, hcz40_3, hcz40_4, hfz40_0, hfz40_1, hfz40_2, hfz40_3, hfz40_4⟩ := bx5_ BK270.out))
        go_meet
        case rel => exact ⟨_, (1), (t283), H', ⟨by have := HJ2.out; have := HJ12.out; first | omega | exact Nat.le_refl _⟩, ⟨by (with_reducible repeat (first | apply Kd.R_alloc | apply Kd.R_drewN | apply Kd.R_drew)); exact Kd.R_mono (Kd.R_far (p := ⟨gb270, 2, none⟩) (Kd.R_far (p := ⟨gb270, 0, none⟩) (Kd.R_types HO_4.out BK270.out (by decide)) (fun _ hk => hk.2) (.int .i64 1)) (fun _ hk => hk.2) (.int .i64 t283)) (fun _ hk => trivial)⟩, ⟨by (with_reducible repeat (first | apply Kd.R_alloc | apply Kd.R_drewN | apply Kd.R_drew)); exact Kd.R_mono (Kd.R_far (p := ⟨gb270, 2, none⟩) (Kd.R_far (p := ⟨gb270, 0, none⟩) (Kd.R_types HO_271001.out BK270.out (by decide)) (fun _ hk => hk.2) (.int .i64 1)) (fun _ hk => hk.2) (.int .i64 t283)) (fun _ hk => trivial)⟩, ⟨by (with_reducible repeat (first | refine blk_drewN ?_ _ | refine blk_drew ?_ | refine blk_alloc ?_ _)); refine blk_far ?_ NB265_270.out _; (with_reducible repeat (first | refine blk_drewN ?_ _ | refine blk_drew ?_ | refine blk_alloc ?_ _)); refine blk_far ?_ NB265_270.out _; (with_reducible repeat (first | refine blk_drewN ?_ _ | refine blk_drew ?_ | refine blk_alloc ?_ _)); exact BK265.out⟩, ⟨by (with_reducible repeat (first | refine blk_drewN ?_ _ | refine blk_drew ?_ | refine blk_alloc ?_ _)); refine blk_put (cs := #[.int .i64 1, u271001, .int .i64 0, .int .i64 0, .int .i64 0]) ?_ 2 _ rfl; (with_reducible repeat (first | refine blk_drewN ?_ _ | refine blk_drew ?_ | refine blk_alloc ?_ _)); refine blk_put (cs := #[.int .i64 2, u271001, .int .i64 0, .int .i64 0, .int .i64 0]) ?_ 0 _ rfl; (with_reducible repeat (first | refine blk_drewN ?_ _ | refine blk_drew ?_ | refine blk_alloc ?_ _)); exact BK270.out⟩, ⟨z5_⟩⟩
       ·rw [if_neg c35] at H
        have c35b0 := decide_eq_false c35
        have c35b1 : decide (2 < t266.length) = false := decide_eq_false (by omega)
        clear c35
        (first | rw [c35b0] | rw [c35b1] | (simp only [i64_w, i32_w]; rw [c35b0]) | skip)
        have H' := Aside0.mk H
        clear H
        go_wp2
        go_meet
        case rel => exact ⟨_, (2), (0), H', ⟨by have := HJ2.out; have := HJ12.out; first | omega | exact Nat.le_refl _⟩, ⟨z19_⟩, ⟨z46_⟩, ⟨z30_⟩, ⟨z47_⟩, ⟨z5_⟩⟩
      case rest =>
       clear HC34
       try clear c1
       try clear c2
       try clear p2
       try clear q2
       try clear hx2
       try clear qi2
       try clear c3
       try clear c6
       try clear c6b0
       try clear c6b1
       try clear p6
       try clear c8
       try clear c8b0
       try clear c8b1
       try clear c10
       try clear c12
       try clear c12b0
       try clear c12b1
       try clear c15
       try clear c18
       try clear c18b0
       try clear c18b1
       try clear c19
       try clear c19b0
       try clear c19b1
       try clear c20
       try clear c21
       try clear c23
       try clear c23b0
       try clear c24
       try clear c24b0
       try clear c25
       try clear c25b0
       try clear p26
       try clear q26
       try clear hx26
       try clear qi26
       try clear c27
       try clear p27
       try clear q27
       try clear hx27
       try clear qi27
       try clear p28
       try clear q28
       try clear hx28
       try clear qi28
       try clear c29
       try clear c35
       try clear c35b0
       try clear c35b1
       try clear c36
       try clear c36b0
       try clear c36b1
       try clear c39
       try clear hcz11_0
       try clear hcz11_1
       try clear hcz11_2
       try clear hcz11_3
       try clear hcz11_4
       try clear hcz16_0
       try clear hcz16_1
       try clear hcz16_2
       try clear hcz16_3
       try clear hcz16_4
       try clear hcz30_0
       try clear hcz30_1
       try clear hcz30_2
       try clear hcz30_3
       try clear hcz30_4
       try clear hcz33_0
       try clear hcz33_1
       try clear hcz33_2
       try clear hcz33_3
       try clear hcz33_4
       try clear hcz40_0
       try clear hcz40_1
       try clear hcz40_2
       try clear hcz40_3
       try clear hcz40_4
       try clear hfz11_0
       try clear hfz11_1
       try clear hfz11_2
       try clear hfz11_3
       try clear hfz11_4
       try clear hfz16_0
       try clear hfz16_1
       try clear hfz16_2
       try clear hfz16_3
       try clear hfz16_4
       try clear hfz30_0
       try clear hfz30_1
       try clear hfz30_2
       try clear hfz30_3
       try clear hfz30_4
       try clear hfz33_0
       try clear hfz33_1
       try clear hfz33_2
       try clear hfz33_3
       try clear hfz33_4
       try clear hfz40_0
       try clear hfz40_1
       try clear hfz40_2
       try clear hfz40_3
       try clear hfz40_4
       try clear hx269_0
       try clear hx271_0
       try clear hx272_0
       try clear hx276_0
       try clear hx282_0
       try clear p2
       try clear p26
       try clear p269
       try clear p27
       try clear p271
       try clear p272
       try clear p276
       try clear p282
       try clear p6
       try clear q2
       try clear q26
       try clear q269
       try clear q27
       try clear q271
       try clear q272
       try clear q276
       try clear q282
       obtain ⟨kq, x271000_33, x271002_33, HA, HJ33, HO_4, HO_271001, BK265, BK270, HB⟩ := hcut
       cases kq with
       | zero => exact absurd HA.out (by simp [impl_ReadOp.j3])
       | succ kj33 =>
        have H := HA.out
        clear HA
        simp only [impl_ReadOp.j3] at H
        by_cases c41 : (t266.length : Int) > 4
        ·rw [if_pos c41] at H
         have c41b0 := decide_eq_true c41
         have c41b1 : decide (4 < t266.length) = true := decide_eq_true (by omega)
         clear c41
         obtain ⟨c42, H⟩ := ifs_ H
         have c42b0 := decide_eq_true c42
         have c42b1 : decide (3 < t266.length) = true := decide_eq_true (by omega)
         clear c42
         replace H := Option.bind_eq_some_iff.mp H
         obtain ⟨⟨t285, t286⟩, A430, H⟩ := H
         try dsimp only at H
         have A43 := Aside0.mk A430
         clear A430
         obtain ⟨c44, H⟩ := ifs_ H
         have c44b0 := decide_eq_true c44
         have c44b1 : decide (4 < t266.length) = true := decide_eq_true (by omega)
         clear c44
         replace H := Option.bind_eq_some_iff.mp H
         obtain ⟨⟨t288, t289⟩, A450, H⟩ := H
         try dsimp only at H
         have A45 := Aside0.mk A450
         clear A450
         obtain ⟨t290, A46, H⟩ := bnd_ H
         by_cases c47 : t290.toList = a0.toList
         ·rw [if_pos c47] at H
          have c47b0 : (t290.toList == a0.toList) = true := beq_iff_eq.mpr c47
          have c47b1 : (t290.toList != a0.toList) = false := bne_eq_false_iff_eq.mpr c47
          clear c47
          simp only [Option.some.injEq, Prod.mk.injEq] at H
          obtain ⟨rfl, rfl, rfl, rfl, rfl, rfl⟩ := H
          have hnb48 := NB270_265.out
          have hnc48 := NB265_270.out
          obtain ⟨hcz49_0, hcz49_1, hcz49_2, hcz49_3, hcz49_4, hfz49_0, hfz49_1, hfz49_2, hfz49_3, hfz49_4⟩ := bx5_ BK270.out
          have p284 : 0 ≤ (3 : Int) := (by omega)
          have q284 : 3 < (t266.length : Int) := odt_
          obtain ⟨ad284, e284, hx284_0⟩ := Kd.at_string (Kd.R_reads' HO_4.out).2.2 3 p284 q284
          obtain rfl : ad271 = ad284 := (by injection e284)
          (try simp only [show (3 : Int).toNat = 3 from rfl, Nat.reduceMul, Nat.reduceEqDiff, Go.Addr.add, ↓reduceIte] at hx284_0)
          have qi284 : (3 < t266.length) = True := eq_true (by omega)
          (try rw [show ((3 : Int)).toNat = 3 from rfl] at hx284_0)
          have hn284_0 : ad271.block ≠ gb270 := Kd.own_blk (Kd.R_ne HO_4.out BK270.out (by decide))
          replace hx284_0 := (cell_far (p := ⟨gb270, 0, none⟩) z94_ (.int .i64 3)).trans hx284_0
          clear hn284_0
          replace p284 := eq_true p284
          replace q284 := eq_true q284
          go_wp2_with (first | ((with_reducible refine gate_callee (f := 20) rfl ?_); refine goesL_ (some 68) rfl rfl Tryd.func20 (by kernel_rfl) rfl #[.string (rdOf ByteArray.empty t266 3)] rfl z1_ ?_; (with_reducible refine (impl_ReadDec.calls kj33 (rdOf ByteArray.empty t266 3) t285 t286 _ (hL.below z7_) A43.out).mono ?_); rintro e w50 ⟨rfl, hb⟩; refine ⟨_, rfl, ?_⟩; replace HO_4 := Aside0.mk (Kd.R_below z69_ hb); replace HO_271001 := Aside0.mk (Kd.R_below z65_ hb); replace BK265 := Aside0.mk (blk_below (g := gb265) (o := .cells #[.int .i64 0, .slice none 0 0, .int .i64 0, .int .i64 0, .int .i64 0] 24 (0, 0)) z27_ hb); replace BK270 := Aside0.mk (blk_below (g := gb270) (o := .cells #[.int .i64 3, u271001, .int .i64 x271002_33, .int .i64 0, .int .i64 0] 24 (0, 0)) z57_ hb); replace HB := Aside0.mk (below_step z5_ hb); (try clear hb); obtain ⟨hcz51_0, hcz51_1, hcz51_2, hcz51_3, hcz51_4, hfz51_0, hfz51_1, hfz51_2, hfz51_3, hfz51_4⟩ := bx5_ BK270.out; have p287 : 0 ≤ (4 : Int) := (by omega); have q287 : 4 < (t266.length : Int) := odt_; obtain ⟨ad287, e287, hx287_0⟩ := Kd.at_string (Kd.R_reads' HO_4.out).2.2 4 p287 q287; obtain rfl : ad271 = ad287 := (by injection e287); (try simp only [show (4 : Int).toNat = 4 from rfl, Nat.reduceMul, Nat.reduceEqDiff, Go.Addr.add, ↓reduceIte] at hx287_0); have qi287 : (4 < t266.length) = True := eq_true (by omega); (try rw [show ((4 : Int)).toNat = 4 from rfl] at hx287_0); have hn287_0 : ad271.block ≠ gb270 := Kd.own_blk (Kd.R_ne HO_4.out BK270.out (by decide)); replace hx287_0 := (cell_far (p := ⟨gb270, 3, none⟩) z95_ (.int .i64 t285)).trans hx287_0; clear hn287_0; replace p287 := eq_true p287; replace q287 := eq_true q287) | ((with_reducible refine gate_callee (f := 20) rfl ?_); refine goesL_ (some 76) rfl rfl Tryd.func20 (by kernel_rfl) rfl #[.string (rdOf ByteArray.empty t266 4)] rfl z1_ ?_; (with_reducible refine (impl_ReadDec.calls kj33 (rdOf ByteArray.empty t266 4) t288 t289 _ (hL.below z7_) A45.out).mono ?_); rintro e w52 ⟨rfl, hb⟩; refine ⟨_, rfl, ?_⟩; replace HO_4 := Aside0.mk (Kd.R_below z67_ hb); replace HO_271001 := Aside0.mk (Kd.R_below z64_ hb); replace BK265 := Aside0.mk (blk_below (g := gb265) (o := .cells #[.int .i64 0, .slice none 0 0, .int .i64 0, .int .i64 0, .int .i64 0] 24 (0, 0)) z27_ hb); replace BK270 := Aside0.mk (blk_below (g := gb270) (o := .cells #[.int .i64 3, u271001, .int .i64 x271002_33, .int .i64 t285, .int .i64 0] 24 (0, 0)) z59_ hb); replace HB := Aside0.mk (below_step z5_ hb); (try clear hb); obtain ⟨hcz53_0, hcz53_1, hcz53_2, hcz53_3, hcz53_4, hfz53_0, hfz53_1, hfz53_2, hfz53_3, hfz53_4⟩ := bx5_ BK270.out; obtain ⟨Ao54, co54, eo54⟩ := Kd.R_slice HO_271001.out; subst eo54) | ((with_reducible refine gate_callee (f := 22) rfl ?_); refine goesL_ (some 81) rfl rfl Tryd.func22 (by kernel_rfl) rfl #[.agg #[.int .i64 3, .slice Ao54 x271001_12.length co54, .int .i64 x271002_33, .int .i64 t285, .int .i64 t288]] rfl z1_ ?_; (with_reducible refine (impl_OpText.calls kj33 3 _ _ x271001_12 x271002_33 t285 t288 t290 _ ?side1 ?side2 (hL.below z7_) A46.out).mono ?_); (case side1 => refine (Kd.R_reads' (e := 3) (base := w.heap.size) (ok := fun k_ => True) (n := x271001_12.length) (c := co54) ?_).2.2; exact z45_); (case side2 => exact z118_); rintro e w55 ⟨rfl, hb⟩; refine ⟨_, rfl, ?_⟩; replace HO_4 := Aside0.mk (Kd.R_below z68_ hb); replace HO_271001 := Aside0.mk (Kd.R_below z45_ hb); replace BK265 := Aside0.mk (blk_below (g := gb265) (o := .cells #[.int .i64 0, .slice none 0 0, .int .i64 0, .int .i64 0, .int .i64 0] 24 (0, 0)) z27_ hb); replace BK270 := Aside0.mk (blk_below (g := gb270) (o := .cells #[.int .i64 3, .slice Ao54 x271001_12.length co54, .int .i64 x271002_33, .int .i64 t285, .int .i64 t288] 24 (0, 0)) (by (with_reducible repeat (first | refine blk_drewN ?_ _ | refine blk_drew ?_ | refine blk_alloc ?_ _)); refine blk_put (cs := #[.int .i64 3, .slice Ao54 x271001_12.length co54, .int .i64 x271002_33, .int .i64 t285, .int .i64 0]) ?_ 4 _ rfl; (with_reducible repeat (first | refine blk_drewN ?_ _ | refine blk_drew ?_ | refine blk_alloc ?_ _)); exact BK270.out) hb); replace HB := Aside0.mk (below_step z5_ hb); (try clear hb); obtain ⟨hcz56_0, hcz56_1, hcz56_2, hcz56_3, hcz56_4, hfz56_0, hfz56_1, hfz56_2, hfz56_3, hfz56_4⟩ := bx5_ BK270.out; obtain ⟨hcz57_0, hcz57_1, hcz57_2, hcz57_3, hcz57_4, hfz57_0, hfz57_1, hfz57_2, hfz57_3, hfz57_4⟩ := bx5_ BK265.out))
          refine bodyPost_ret (results_ct rfl _ _ gb265 24 #[.int .i64 3, .slice Ao54 x271001_12.length co54, .int .i64 x271002_33, .int .i64 t285, .int .i64 t288] (0, 0) _ rfl (by (with_reducible repeat (first | refine blk_drewN ?_ _ | refine blk_drew ?_ | refine blk_alloc ?_ _)); refine blk_put (cs := #[.int .i64 3, .slice Ao54 x271001_12.length co54, .int .i64 x271002_33, .int .i64 t285, .int .i64 0]) ?_ 4 _ rfl; (with_reducible repeat (first | refine blk_drewN ?_ _ | refine blk_drew ?_ | refine blk_alloc ?_ _)); refine blk_put (cs := #[.int .i64 3, .slice Ao54 x271001_12.length co54, .int .i64 x271002_33, .int .i64 0, .int .i64 0]) ?_ 3 _ rfl; (with_reducible repeat (first | refine blk_drewN ?_ _ | refine blk_drew ?_ | refine blk_alloc ?_ _)); refine blk_put (cs := #[.int .i64 3, .slice Ao54 x271001_12.length co54, .int .i64 0, .int .i64 0, .int .i64 0]) ?_ 2 _ rfl; (with_reducible repeat (first | refine blk_drewN ?_ _ | refine blk_drew ?_ | refine blk_alloc ?_ _)); refine blk_put (cs := #[.int .i64 3, .slice none 0 0, .int .i64 0, .int .i64 0, .int .i64 0]) ?_ 1 _ rfl; (with_reducible repeat (first | refine blk_drewN ?_ _ | refine blk_drew ?_ | refine blk_alloc ?_ _)); refine blk_put (cs := #[.int .i64 0, .slice none 0 0, .int .i64 0, .int .i64 0, .int .i64 0]) ?_ 0 _ rfl; (with_reducible repeat (first | refine blk_drewN ?_ _ | refine blk_drew ?_ | refine blk_alloc ?_ _)); exact BK265.out) Tryd.underlying24 rfl (by kernel_rfl)) rfl ?_
          exact ⟨_, z2_, by (with_reducible repeat (first | apply Kd.R_alloc | apply Kd.R_drewN | apply Kd.R_drew)); exact Kd.R_mono (Kd.R_far (p := ⟨gb265, 4, none⟩) (Kd.R_far (p := ⟨gb265, 3, none⟩) (Kd.R_far (p := ⟨gb265, 2, none⟩) (Kd.R_far (p := ⟨gb265, 1, none⟩) (Kd.R_far (p := ⟨gb265, 0, none⟩) (Kd.R_types HO_271001.out BK265.out (by decide)) (fun _ hk => hk.2) (.int .i64 3)) (fun _ hk => hk.2) (.slice Ao54 x271001_12.length co54)) (fun _ hk => hk.2) (.int .i64 x271002_33)) (fun _ hk => hk.2) (.int .i64 t285)) (fun _ hk => hk.2) (.int .i64 t288)) (fun _ hk => trivial), z5_⟩
         ·rw [if_neg c47] at H
          have c47b0 : (t290.toList == a0.toList) = false := beq_eq_false_iff_ne.mpr c47
          have c47b1 : (t290.toList != a0.toList) = true := bne_iff_ne.mpr c47
          simp only [Option.some.injEq, Prod.mk.injEq] at H
          obtain ⟨rfl, rfl, rfl, rfl, rfl, rfl⟩ := H
          have hnb58 := NB270_265.out
          have hnc58 := NB265_270.out
          obtain ⟨hcz59_0, hcz59_1, hcz59_2, hcz59_3, hcz59_4, hfz59_0, hfz59_1, hfz59_2, hfz59_3, hfz59_4⟩ := bx5_ BK270.out
          have p284 : 0 ≤ (3 : Int) := (by omega)
          have q284 : 3 < (t266.length : Int) := odt_
          obtain ⟨ad284, e284, hx284_0⟩ := Kd.at_string (Kd.R_reads' HO_4.out).2.2 3 p284 q284
          obtain rfl : ad271 = ad284 := (by injection e284)
          (try simp only [show (3 : Int).toNat = 3 from rfl, Nat.reduceMul, Nat.reduceEqDiff, Go.Addr.add, ↓reduceIte] at hx284_0)
          have qi284 : (3 < t266.length) = True := eq_true (by omega)
          (try rw [show ((3 : Int)).toNat = 3 from rfl] at hx284_0)
          have hn284_0 : ad271.block ≠ gb270 := Kd.own_blk (Kd.R_ne HO_4.out BK270.out (by decide))
          replace hx284_0 := (cell_far (p := ⟨gb270, 0, none⟩) z94_ (.int .i64 3)).trans hx284_0
          clear hn284_0
          replace p284 := eq_true p284
          replace q284 := eq_true q284
          go_wp2_with (first | ((with_reducible refine gate_callee (f := 20) rfl ?_); refine goesL_ (some 68) rfl rfl Tryd.func20 (by kernel_rfl) rfl #[.string (rdOf ByteArray.empty t266 3)] rfl z1_ ?_; (with_reducible refine (impl_ReadDec.calls kj33 (rdOf ByteArray.empty t266 3) t285 t286 _ (hL.below z7_) A43.out).mono ?_); rintro e w60 ⟨rfl, hb⟩; refine ⟨_, rfl, ?_⟩; replace HO_4 := Aside0.mk (Kd.R_below z69_ hb); replace HO_271001 := Aside0.mk (Kd.R_below z65_ hb); replace BK265 := Aside0.mk (blk_below (g := gb265) (o := .cells #[.int .i64 0, .slice none 0 0, .int .i64 0, .int .i64 0, .int .i64 0] 24 (0, 0)) z27_ hb); replace BK270 := Aside0.mk (blk_below (g := gb270) (o := .cells #[.int .i64 3, u271001, .int .i64 x271002_33, .int .i64 0, .int .i64 0] 24 (0, 0)) z57_ hb); replace HB := Aside0.mk (below_step z5_ hb); (try clear hb); obtain ⟨hcz61_0, hcz61_1, hcz61_2, hcz61_3, hcz61_4, hfz61_0, hfz61_1, hfz61_2, hfz61_3, hfz61_4⟩ := bx5_ BK270.out; have p287 : 0 ≤ (4 : Int) := (by omega); have q287 : 4 < (t266.length : Int) := odt_; obtain ⟨ad287, e287, hx287_0⟩ := Kd.at_string (Kd.R_reads' HO_4.out).2.2 4 p287 q287; obtain rfl : ad271 = ad287 := (by injection e287); (try simp only [show (4 : Int).toNat = 4 from rfl, Nat.reduceMul, Nat.reduceEqDiff, Go.Addr.add, ↓reduceIte] at hx287_0); have qi287 : (4 < t266.length) = True := eq_true (by omega); (try rw [show ((4 : Int)).toNat = 4 from rfl] at hx287_0); have hn287_0 : ad271.block ≠ gb270 := Kd.own_blk (Kd.R_ne HO_4.out BK270.out (by decide)); replace hx287_0 := (cell_far (p := ⟨gb270, 3, none⟩) z95_ (.int .i64 t285)).trans hx287_0; clear hn287_0; replace p287 := eq_true p287; replace q287 := eq_true q287) | ((with_reducible refine gate_callee (f := 20) rfl ?_); refine goesL_ (some 76) rfl rfl Tryd.func20 (by kernel_rfl) rfl #[.string (rdOf ByteArray.empty t266 4)] rfl z1_ ?_; (with_reducible refine (impl_ReadDec.calls kj33 (rdOf ByteArray.empty t266 4) t288 t289 _ (hL.below z7_) A45.out).mono ?_); rintro e w62 ⟨rfl, hb⟩; refine ⟨_, rfl, ?_⟩; replace HO_4 := Aside0.mk (Kd.R_below z67_ hb); replace HO_271001 := Aside0.mk (Kd.R_below z64_ hb); replace BK265 := Aside0.mk (blk_below (g := gb265) (o := .cells #[.int .i64 0, .slice none 0 0, .int .i64 0, .int .i64 0, .int .i64 0] 24 (0, 0)) z27_ hb); replace BK270 := Aside0.mk (blk_below (g := gb270) (o := .cells #[.int .i64 3, u271001, .int .i64 x271002_33, .int .i64 t285, .int .i64 0] 24 (0, 0)) z59_ hb); replace HB := Aside0.mk (below_step z5_ hb); (try clear hb); obtain ⟨hcz63_0, hcz63_1, hcz63_2, hcz63_3, hcz63_4, hfz63_0, hfz63_1, hfz63_2, hfz63_3, hfz63_4⟩ := bx5_ BK270.out; obtain ⟨Ao64, co64, eo64⟩ := Kd.R_slice HO_271001.out; subst eo64) | ((with_reducible refine gate_callee (f := 22) rfl ?_); refine goesL_ (some 81) rfl rfl Tryd.func22 (by kernel_rfl) rfl #[.agg #[.int .i64 3, .slice Ao64 x271001_12.length co64, .int .i64 x271002_33, .int .i64 t285, .int .i64 t288]] rfl z1_ ?_; (with_reducible refine (impl_OpText.calls kj33 3 _ _ x271001_12 x271002_33 t285 t288 t290 _ ?side1 ?side2 (hL.below z7_) A46.out).mono ?_); (case side1 => refine (Kd.R_reads' (e := 3) (base := w.heap.size) (ok := fun k_ => True) (n := x271001_12.length) (c := co64) ?_).2.2; exact z45_); (case side2 => exact z118_); rintro e w65 ⟨rfl, hb⟩; refine ⟨_, rfl, ?_⟩; replace HO_4 := Aside0.mk (Kd.R_below z68_ hb); replace HO_271001 := Aside0.mk (Kd.R_below z45_ hb); replace BK265 := Aside0.mk (blk_below (g := gb265) (o := .cells #[.int .i64 0, .slice none 0 0, .int .i64 0, .int .i64 0, .int .i64 0] 24 (0, 0)) z27_ hb); replace BK270 := Aside0.mk (blk_below (g := gb270) (o := .cells #[.int .i64 3, .slice Ao64 x271001_12.length co64, .int .i64 x271002_33, .int .i64 t285, .int .i64 t288] 24 (0, 0)) (by (with_reducible repeat (first | refine blk_drewN ?_ _ | refine blk_drew ?_ | refine blk_alloc ?_ _)); refine blk_put (cs := #[.int .i64 3, .slice Ao64 x271001_12.length co64, .int .i64 x271002_33, .int .i64 t285, .int .i64 0]) ?_ 4 _ rfl; (with_reducible repeat (first | refine blk_drewN ?_ _ | refine blk_drew ?_ | refine blk_alloc ?_ _)); exact BK270.out) hb); replace HB := Aside0.mk (below_step z5_ hb); (try clear hb); obtain ⟨hcz66_0, hcz66_1, hcz66_2, hcz66_3, hcz66_4, hfz66_0, hfz66_1, hfz66_2, hfz66_3, hfz66_4⟩ := bx5_ BK265.out))
          refine bodyPost_ret (results_ct rfl _ _ gb265 24 #[.int .i64 0, .slice none 0 0, .int .i64 0, .int .i64 0, .int .i64 0] (0, 0) _ rfl z9_ Tryd.underlying24 rfl (by kernel_rfl)) rfl ?_
          exact ⟨_, z2_, z32_, z5_⟩
        ·rw [if_neg c41] at H
         have c41b0 := decide_eq_false c41
         have c41b1 : decide (4 < t266.length) = false := decide_eq_false (by omega)
         clear c41
         obtain ⟨t291, A67, H⟩ := bnd_ H
         by_cases c68 : t291.toList = a0.toList
         ·rw [if_pos c68] at H
          have c68b0 : (t291.toList == a0.toList) = true := beq_iff_eq.mpr c68
          have c68b1 : (t291.toList != a0.toList) = false := bne_eq_false_iff_eq.mpr c68
          clear c68
          simp only [Option.some.injEq, Prod.mk.injEq] at H
          obtain ⟨rfl, rfl, rfl, rfl, rfl, rfl⟩ := H
          have hnb69 := NB270_265.out
          have hnc69 := NB265_270.out
          obtain ⟨hcz70_0, hcz70_1, hcz70_2, hcz70_3, hcz70_4, hfz70_0, hfz70_1, hfz70_2, hfz70_3, hfz70_4⟩ := bx5_ BK270.out
          obtain ⟨Ao71, co71, eo71⟩ := Kd.R_slice HO_271001.out
          subst eo71
          go_wp2_with (first | ((with_reducible refine gate_callee (f := 22) rfl ?_); refine goesL_ (some 81) rfl rfl Tryd.func22 (by kernel_rfl) rfl #[.agg #[.int .i64 x271000_33, .slice Ao71 x271001_12.length co71, .int .i64 x271002_33, .int .i64 0, .int .i64 0]] rfl z1_ ?_; (with_reducible refine (impl_OpText.calls kj33 x271000_33 _ _ x271001_12 x271002_33 0 0 t291 _ ?side1 ?side2 (hL.below z7_) A67.out).mono ?_); (case side1 => exact z80_); (case side2 => exact z118_); rintro e w72 ⟨rfl, hb⟩; refine ⟨_, rfl, ?_⟩; replace HO_4 := Aside0.mk (Kd.R_below z19_ hb); replace HO_271001 := Aside0.mk (Kd.R_below z46_ hb); replace BK265 := Aside0.mk (blk_below (g := gb265) (o := .cells #[.int .i64 0, .slice none 0 0, .int .i64 0, .int .i64 0, .int .i64 0] 24 (0, 0)) z30_ hb); replace BK270 := Aside0.mk (blk_below (g := gb270) (o := .cells #[.int .i64 x271000_33, .slice Ao71 x271001_12.length co71, .int .i64 x271002_33, .int .i64 0, .int .i64 0] 24 (0, 0)) z47_ hb); replace HB := Aside0.mk (below_step z5_ hb); (try clear hb); obtain ⟨hcz73_0, hcz73_1, hcz73_2, hcz73_3, hcz73_4, hfz73_0, hfz73_1, hfz73_2, hfz73_3, hfz73_4⟩ := bx5_ BK270.out; obtain ⟨hcz74_0, hcz74_1, hcz74_2, hcz74_3, hcz74_4, hfz74_0, hfz74_1, hfz74_2, hfz74_3, hfz74_4⟩ := bx5_ BK265.out))
          refine bodyPost_ret (results_ct rfl _ _ gb265 24 #[.int .i64 x271000_33, .slice Ao71 x271001_12.length co71, .int .i64 x271002_33, .int .i64 0, .int .i64 0] (0, 0) _ rfl (by (with_reducible repeat (first | refine blk_drewN ?_ _ | refine blk_drew ?_ | refine blk_alloc ?_ _)); refine blk_put (cs := #[.int .i64 x271000_33, .slice Ao71 x271001_12.length co71, .int .i64 x271002_33, .int .i64 0, .int .i64 0]) ?_ 4 _ rfl; (with_reducible repeat (first | refine blk_drewN ?_ _ | refine blk_drew ?_ | refine blk_alloc ?_ _)); refine blk_put (cs := #[.int .i64 x271000_33, .slice Ao71 x271001_12.length co71, .int .i64 x271002_33, .int .i64 0, .int .i64 0]) ?_ 3 _ rfl; (with_reducible repeat (first | refine blk_drewN ?_ _ | refine blk_drew ?_ | refine blk_alloc ?_ _)); refine blk_put (cs := #[.int .i64 x271000_33, .slice Ao71 x271001_12.length co71, .int .i64 0, .int .i64 0, .int .i64 0]) ?_ 2 _ rfl; (with_reducible repeat (first | refine blk_drewN ?_ _ | refine blk_drew ?_ | refine blk_alloc ?_ _)); refine blk_put (cs := #[.int .i64 x271000_33, .slice none 0 0, .int .i64 0, .int .i64 0, .int .i64 0]) ?_ 1 _ rfl; (with_reducible repeat (first | refine blk_drewN ?_ _ | refine blk_drew ?_ | refine blk_alloc ?_ _)); refine blk_put (cs := #[.int .i64 0, .slice none 0 0, .int .i64 0, .int .i64 0, .int .i64 0]) ?_ 0 _ rfl; (with_reducible repeat (first | refine blk_drewN ?_ _ | refine blk_drew ?_ | refine blk_alloc ?_ _)); exact BK265.out) Tryd.underlying24 rfl (by kernel_rfl)) rfl ?_
          exact ⟨_, z2_, by (with_reducible repeat (first | apply Kd.R_alloc | apply Kd.R_drewN | apply Kd.R_drew)); exact Kd.R_mono (Kd.R_far (p := ⟨gb265, 4, none⟩) (Kd.R_far (p := ⟨gb265, 3, none⟩) (Kd.R_far (p := ⟨gb265, 2, none⟩) (Kd.R_far (p := ⟨gb265, 1, none⟩) (Kd.R_far (p := ⟨gb265, 0, none⟩) (Kd.R_types HO_271001.out BK265.out (by decide)) (fun _ hk => hk.2) (.int .i64 x271000_33)) (fun _ hk => hk.2) (.slice Ao71 x271001_12.length co71)) (fun _ hk => hk.2) (.int .i64 x271002_33)) (fun _ hk => hk.2) (.int .i64 0)) (fun _ hk => hk.2) (.int .i64 0)) (fun _ hk => trivial), z5_⟩
         ·rw [if_neg c68] at H
          have c68b0 : (t291.toList == a0.toList) = false := beq_eq_false_iff_ne.mpr c68
          have c68b1 : (t291.toList != a0.toList) = true := bne_iff_ne.mpr c68
          simp only [Option.some.injEq, Prod.mk.injEq] at H
          obtain ⟨rfl, rfl, rfl, rfl, rfl, rfl⟩ := H
          have hnb75 := NB270_265.out
          have hnc75 := NB265_270.out
          obtain ⟨hcz76_0, hcz76_1, hcz76_2, hcz76_3, hcz76_4, hfz76_0, hfz76_1, hfz76_2, hfz76_3, hfz76_4⟩ := bx5_ BK270.out
          obtain ⟨Ao77, co77, eo77⟩ := Kd.R_slice HO_271001.out
          subst eo77
          go_wp2_with (first | ((with_reducible refine gate_callee (f := 22) rfl ?_); refine goesL_ (some 81) rfl rfl Tryd.func22 (by kernel_rfl) rfl #[.agg #[.int .i64 x271000_33, .slice Ao77 x271001_12.length co77, .int .i64 x271002_33, .int .i64 0, .int .i64 0]] rfl z1_ ?_; (with_reducible refine (impl_OpText.calls kj33 x271000_33 _ _ x271001_12 x271002_33 0 0 t291 _ ?side1 ?side2 (hL.below z7_) A67.out).mono ?_); (case side1 => exact z80_); (case side2 => exact z118_); rintro e w78 ⟨rfl, hb⟩; refine ⟨_, rfl, ?_⟩; replace HO_4 := Aside0.mk (Kd.R_below z19_ hb); replace HO_271001 := Aside0.mk (Kd.R_below z46_ hb); replace BK265 := Aside0.mk (blk_below (g := gb265) (o := .cells #[.int .i64 0, .slice none 0 0, .int .i64 0, .int .i64 0, .int .i64 0] 24 (0, 0)) z30_ hb); replace BK270 := Aside0.mk (blk_below (g := gb270) (o := .cells #[.int .i64 x271000_33, .slice Ao77 x271001_12.length co77, .int .i64 x271002_33, .int .i64 0, .int .i64 0] 24 (0, 0)) z47_ hb); replace HB := Aside0.mk (below_step z5_ hb); (try clear hb); obtain ⟨hcz79_0, hcz79_1, hcz79_2, hcz79_3, hcz79_4, hfz79_0, hfz79_1, hfz79_2, hfz79_3, hfz79_4⟩ := bx5_ BK265.out))
          refine bodyPost_ret (results_ct rfl _ _ gb265 24 #[.int .i64 0, .slice none 0 0, .int .i64 0, .int .i64 0, .int .i64 0] (0, 0) _ rfl z9_ Tryd.underlying24 rfl (by kernel_rfl)) rfl ?_
          exact ⟨_, z2_, z32_, z5_⟩

end Go.Proofs.YtlfmlagdnebkiaaDoor.PFnExactReadScript
