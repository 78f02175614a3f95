/- Laid by a program of this session out of the kit's print for the law FnExactDomInsert: what it says of the machine is proved here, function by function; each contract under the conditions that it names. -/
import Derived.Test.YtdapeboajjidmabMFnExactDomInsertx0
import Derived.Test.YtdapeboajjidmabMFnExactDomInsertx3
import Derived.Test.YtdapeboajjidmabMFnExactDomInsertx6
import Derived.Test.YtdapeboajjidmabMFnExactDomInsertx7
import Derived.Test.YtdapeboajjidmabMFnExactDomInsertx8
import Derived.Test.YtdapeboajjidmabMFnExactDomInsertx9
namespace Go.Proofs.Ytdapeboajjidmab.PFnExactDomInsert
open Go.RowKit Go.Proofs.YtdapeboajjidmabW.PrintWords Go.Proofs.YtdapeboajjidmabW.PrintLast Go.Proofs.YtdapeboajjidmabW.PrintMore
attribute [local go_sem] max2_int min2_int max_two min_two max_three min_three max_four min_four   -- for this text's walks alone
set_option linter.unusedVariables false
set_option linter.unusedSimpArgs false

/-! ### spec_DomInsert: function 28 -/
mutual
def spec_DomInsert.j0 : Nat → Int → Int → Int → Int → Bool → List (S72) → List (S72) → Option ((List (S72)) × Int)
 | 0, _, _, _, _, _, _, _ => none
 | k + 1, x1, x2, x3, x4, x27, x271000, x276000 => if x27 = true then (some (x276000, (-1))) else ((spec_l17Kids.f k x271000 x1).bind fun t278 => ((spec_l1In.f x2 0 (t278.length : Int)).bind fun t281 => (if t281 = true then ((spec_l1In.f x3 0 (wrap64 ((t278.length : Int) - x2))).bind fun t282 => (spec_DomInsert.j1 k x1 x2 x3 x4 t278 (!t282) x271000 x276000)) else (spec_DomInsert.j1 k x1 x2 x3 x4 t278 true x271000 x276000))))
def spec_DomInsert.j1 : Nat → Int → Int → Int → Int → List Int → Bool → List (S72) → List (S72) → Option ((List (S72)) × Int)
 | 0, _, _, _, _, _, _, _, _ => none
 | k + 1, x1, x2, x3, x4, x13, x45, x271000, x276000 => if x45 = true then (some (x276000, (-1))) else ((spec_l17Free.f k x271000).bind fun t283 => (if t283 = 24 then (some (x276000, (-1))) else (if t283 = (x276000.length : Int) then ((l16Grow x276000).bind fun t284 => (spec_DomInsert.j2 k x1 x2 x3 x4 x13 t283 x271000 t284)) else (spec_DomInsert.j2 k x1 x2 x3 x4 x13 t283 x271000 x276000))))
def spec_DomInsert.j2 : Nat → Int → Int → Int → Int → List Int → Int → List (S72) → List (S72) → Option ((List (S72)) × Int)
 | 0, _, _, _, _, _, _, _, _ => none
 | k + 1, x1, x2, x3, x4, x13, x14, x271000, x276000 => if 0 ≤ x14 then (if x14 < (x276000.length : Int) then ((some (x276000.set (x14 : Int).toNat (⟨true, (rd_T72 x276000 x14).f1, (rd_T72 x276000 x14).f2, (rd_T72 x276000 x14).f3, (rd_T72 x276000 x14).f4, (rd_T72 x276000 x14).f5, (rd_T72 x276000 x14).f6⟩ : S72) : List (S72))).bind fun y287 => ((some (([] : List Int) : List Int)).bind fun y289 => (if 0 ≤ x2 then (if x2 ≤ (wrap64 (x2 + x3)) then (if (wrap64 (x2 + x3)) ≤ (x13.length : Int) then ((some ((x13.take ((wrap64 (x2 + x3)) : Int).toNat).drop (x2 : Int).toNat : List Int)).bind fun y292 => (if y289.length + y292.length < 17592186044416 then ((some (([] : List Int) : List Int)).bind fun y299 => (if x2 ≤ (x13.length : Int) then ((some (x13.take (x2 : Int).toNat : List Int)).bind fun y302 => (if y299.length + y302.length < 17592186044416 then ((some (y299 ++ y302 : List Int)).bind fun y306 => ((some (([x14] : List Int) : List Int)).bind fun y309 => (if y306.length + y309.length < 17592186044416 then ((some (y306 ++ y309 : List Int)).bind fun y312 => (if 0 ≤ (wrap64 (x2 + x3)) then ((some (x13.drop ((wrap64 (x2 + x3)) : Int).toNat : List Int)).bind fun y315 => (if y312.length + y315.length < 17592186044416 then ((spec_l17Set.f k (y287.set (x14 : Int).toNat (⟨(rd_T72 y287 x14).f0, x4, (rd_T72 y287 x14).f2, (rd_T72 y287 x14).f3, (rd_T72 y287 x14).f4, (rd_T72 y287 x14).f5, (rd_T72 y287 x14).f6⟩ : S72)) x14 (y289 ++ y292)).bind fun t322 => ((spec_l17Set.f k t322 x1 (y312 ++ y315)).bind fun t323 => ((spec_DomOk.f k t323).bind fun t324 => (if t324 = true then (some (t323, x14)) else ((spec_l16Copy.f x271000).bind fun t325 => (some (t325, (-1)))))))) else (none))) else (none))) else (none)))) else (none))) else (none))) else (none))) else (none)) else (none)) else (none)))) else (none)) else (none)
end
def spec_DomInsert.f (k : Nat) (l0_0 : List (S72)) (a1 : Int) (a2 : Int) (a3 : Int) (a4 : Int) : Option ((List (S72)) × Int) := (spec_l16Copy.f l0_0).bind fun t272 => ((spec_l17Live.f k l0_0 a1).bind fun t276 => (if t276 = true then ((spec_LabelOk.f a4).bind fun t277 => (spec_DomInsert.j0 k a1 a2 a3 a4 (!t277) l0_0 t272)) else (spec_DomInsert.j0 k a1 a2 a3 a4 true l0_0 t272)))
def spec_DomInsert.T15 : Bool × List (List Nat × List Nat) := (true, [([], []), ([], []), ([], []), ([1, 2], [1, 2]), ([0, 3], [0, 3]), ([], []), ([5], [5]), ([4, 6, 4], [4, 6]), ([], []), ([], []), ([], []), ([9, 10], [9, 10]), ([8, 11], [8, 11]), ([7, 12, 7], [7, 12]), ([13, 13, 0, 1, 2, 3, 4, 5, 6, 7, 8, 9, 10, 11, 12, 13], [13])])
def spec_DomInsert.B15 : List Nat := [0, 0, 0, 6, 15, 0, 32, 127, 0, 0, 0, 1536, 3840, 8191, 16383]
theorem spec_DomInsert.tab15 : rtab .any (opsOf Try.f28 15) = spec_DomInsert.T15 := by kernel_rfl
theorem spec_DomInsert.bits15 : waitsOk spec_DomInsert.T15.2 spec_DomInsert.B15 = true := by kernel_rfl
set_option maxHeartbeats 8000000 in
set_option maxRecDepth 100000 in
theorem spec_DomInsert.calls (k : Nat) (A0_0 : Option Addr) (c0_0 : Nat) (l0_0 : List (S72)) (a1 : Int) (a2 : Int) (a3 : Int) (a4 : Int) (r1 : List (S72)) (r2 : Int) (w : World) (hr0_0 : Kd.C k72 w A0_0 l0_0.length l0_0) (hc0_0 : l0_0.length ≤ c0_0) (h : spec_DomInsert.f k l0_0 a1 a2 a3 a4 = some (r1, r2)) :
  Calls Try.prog 28 #[.agg #[.slice A0_0 l0_0.length c0_0], .int .i64 a1, .int .i64 a2, .int .i64 a3, .int .i64 a4] w fun e w' => ∃ v0_ : Value, e = .returned (.tuple #[.agg #[v0_], .int .i64 r2]) ∧ Kd.R k72 72 w' w.heap.size (fun _ => True) v0_ r1 ∧ Below w.heap.size w w' := by
 have hu28 := Try.underlying28
 have HR0_0 := Aside0.mk hr0_0
 have HC0_0 := Aside0.mk hc0_0
 clear hr0_0 hc0_0
 have HB := Aside0.mk (Below.refl w.heap.size w)
 have H : ((spec_l16Copy.f l0_0).bind fun t272 => ((spec_l17Live.f k l0_0 a1).bind fun t276 => (if t276 = true then ((spec_LabelOk.f a4).bind fun t277 => (spec_DomInsert.j0 k a1 a2 a3 a4 (!t277) l0_0 t272)) else (spec_DomInsert.j0 k a1 a2 a3 a4 true l0_0 t272)))) = some (r1, r2) := h
 clear h
 obtain ⟨t272, A6, H⟩ := bnd_ H
 have HC7 := Aside0.mk H
 clear H
 go_enter Try.func28, Try.ntmps28
 go_upto_region 2 with (first | ((with_reducible refine gate_dst (N := 5) rfl ?_); (try (refine gate_guard (by rfl) ?_; dsimp only)); refine box_event ?hg (N := 5) ?hd (cs := #[.slice A0_0 l0_0.length c0_0]) (t := 28) ?hr ?_; (case hd => rfl); (case hg => rfl); (case hr => exact z19_); intro gb270 hg w8 hbox hb; have BK270 := Aside0.mk (hbox); have GW270 := Aside0.mk ((by rw [hg]; exact (below_size z0_) : w.heap.size ≤ gb270)); have GE270 := Aside0.mk ((by rw [hg]; exact (below_size z0_) : w.heap.size ≤ gb270)); replace HB := Aside0.mk (below_step z0_ hb); clear hb hbox hg) | ((with_reducible refine gate_dst (N := 10) rfl ?_); (try (refine gate_guard (by rfl) ?_; dsimp only)); refine box_event ?hg (N := 10) ?hd (cs := #[.slice none 0 0]) (t := 28) ?hr ?_; (case hd => rfl); (case hg => rfl); (case hr => exact z19_); intro gb271 hg w9 hbox hb; have BK271 := Aside0.mk (hbox); have GW271 := Aside0.mk ((by rw [hg]; exact (below_size z179_) : w.heap.size ≤ gb271)); have GE271 := Aside0.mk ((by rw [hg]; exact (below_size z179_) : w.heap.size ≤ gb271)); replace HB := Aside0.mk (below_step z179_ hb); have NB270_271 := Aside0.mk ((by rw [hg]; exact Nat.ne_of_lt (blk_lt (g := gb270) (o := .cells #[.slice A0_0 l0_0.length c0_0] 28 (0, 0)) z6_) : gb270 ≠ gb271)); have NB271_270 := Aside0.mk ((by rw [hg]; exact Nat.ne_of_gt (blk_lt (g := gb270) (o := .cells #[.slice A0_0 l0_0.length c0_0] 28 (0, 0)) z6_) : gb271 ≠ gb270)); replace BK270 := Aside0.mk (blk_below (g := gb270) (o := .cells #[.slice A0_0 l0_0.length c0_0] 28 (0, 0)) z6_ hb); clear hb hbox hg; have hnb10 := NB270_271.out; have hnc10 := NB271_270.out; have hcz11_0 : w9.cell? ⟨gb270, 0, none⟩ = some (.slice A0_0 l0_0.length c0_0) := (blk_cell BK270.out 0).trans rfl; have hfz11_0 := blk_frozen BK270.out 0) | ((with_reducible refine gate_callee (f := 66) rfl ?_); refine goesL_ (some 18) rfl rfl Try.func66 (by kernel_rfl) rfl #[.agg #[.slice A0_0 l0_0.length c0_0]] rfl z2_ ?_; (with_reducible refine (spec_l16Copy.calls _ _ l0_0 t272 _ ?side1 ?side2 A6.out).mono ?_); (case side1 => exact z9_); (case side2 => exact HC0_0.out); rintro e w12 ⟨v273, rfl, ho0, hb⟩; refine ⟨_, rfl, ?_⟩; have HO274 := Aside0.mk (Kd.R_lower ho0 (below_size z105_)); replace BK270 := Aside0.mk (blk_below (g := gb270) (o := .cells #[.slice A0_0 l0_0.length c0_0] 28 (0, 0)) z6_ hb); replace BK271 := Aside0.mk (blk_below (g := gb271) (o := .cells #[.slice none 0 0] 28 (0, 0)) z8_ hb); replace HB := Aside0.mk (below_step z105_ hb); (try clear hb ho0)) | ((with_reducible refine gate_dst (N := 12) rfl ?_); (try (refine gate_guard (by rfl) ?_; dsimp only)); refine box_event ?hg (N := 12) ?hd (cs := #[.slice none 0 0]) (t := 28) ?hr ?_; (case hd => rfl); (case hg => rfl); (case hr => exact z19_); intro gb275 hg w13 hbox hb; replace HO274 := Aside0.mk (Kd.R_below z232_ hb); have BK275 := Aside0.mk (hbox); have GW275 := Aside0.mk ((by rw [hg]; exact (below_size z105_) : w.heap.size ≤ gb275)); have GE275 := Aside0.mk ((by rw [hg]; exact (below_size z105_) : w.heap.size ≤ gb275)); replace HB := Aside0.mk (below_step z105_ hb); have NB270_275 := Aside0.mk ((by rw [hg]; exact Nat.ne_of_lt (blk_lt (g := gb270) (o := .cells #[.slice A0_0 l0_0.length c0_0] 28 (0, 0)) z6_) : gb270 ≠ gb275)); have NB275_270 := Aside0.mk ((by rw [hg]; exact Nat.ne_of_gt (blk_lt (g := gb270) (o := .cells #[.slice A0_0 l0_0.length c0_0] 28 (0, 0)) z6_) : gb275 ≠ gb270)); replace BK270 := Aside0.mk (blk_below (g := gb270) (o := .cells #[.slice A0_0 l0_0.length c0_0] 28 (0, 0)) z6_ hb); have NB271_275 := Aside0.mk ((by rw [hg]; exact Nat.ne_of_lt (blk_lt (g := gb271) (o := .cells #[.slice none 0 0] 28 (0, 0)) z8_) : gb271 ≠ gb275)); have NB275_271 := Aside0.mk ((by rw [hg]; exact Nat.ne_of_gt (blk_lt (g := gb271) (o := .cells #[.slice none 0 0] 28 (0, 0)) z8_) : gb275 ≠ gb271)); replace BK271 := Aside0.mk (blk_below (g := gb271) (o := .cells #[.slice none 0 0] 28 (0, 0)) z8_ hb); clear hb hbox hg; obtain ⟨Ao14, co14, eo14⟩ := Kd.R_slice HO274.out; subst eo14; have hnb15 := NB275_270.out; have hnc15 := NB270_275.out; have hnb16 := NB275_271.out; have hnc16 := NB271_275.out; have hcz17_0 : w13.cell? ⟨gb275, 0, none⟩ = some (.slice none 0 0) := (blk_cell BK275.out 0).trans rfl; have hfz17_0 := blk_frozen BK275.out 0))
 (try simp only [Act.put, List.setIfInBounds_toArray, List.set_cons_zero, List.set_cons_succ])
 go_cut [27] (fun v27 wc => ∃ (kq : Nat) (x27_6 : Bool), v27 = .bool x27_6 ∧ Aside0 (spec_DomInsert.j0 kq a1 a2 a3 a4 x27_6 l0_0 t272 = some (r1, r2)) ∧ Aside0 (kq ≤ k) ∧ Aside0 (Kd.R k72 72 wc w.heap.size (fun _ => True) (.slice Ao14 t272.length co14) t272) ∧ Aside0 (wc.heap[gb270]? = some (.cells #[(.slice A0_0 l0_0.length c0_0)] 28 (0, 0))) ∧ Aside0 (wc.heap[gb271]? = some (.cells #[(.slice none 0 0)] 28 (0, 0))) ∧ Aside0 (wc.heap[gb275]? = some (.cells #[(.slice Ao14 t272.length co14)] 28 (0, 0))) ∧ Aside0 (Below w.heap.size w wc))
 case first =>
  have H := HC7.out
  clear HC7
  obtain ⟨t276, A18, H⟩ := bnd_ H
  by_cases c19 : t276 = true
  ·subst c19
   replace H := ift_ H
   obtain ⟨t277, A20, H⟩ := bnd_ H
   have H' := Aside0.mk H
   clear H
   have hnb21 := NB270_271.out
   have hnc21 := NB271_270.out
   have hnb22 := NB270_275.out
   have hnc22 := NB275_270.out
   have hcz23_0 : w13.cell? ⟨gb270, 0, none⟩ = some (.slice A0_0 l0_0.length c0_0) := (blk_cell BK270.out 0).trans rfl
   have hfz23_0 := blk_frozen BK270.out 0
   go_wp2_with (first | ((with_reducible refine gate_callee (f := 67) rfl ?_); refine goesL_ (some 21) rfl rfl Try.func67 (by kernel_rfl) rfl #[.agg #[.slice A0_0 l0_0.length c0_0], .int .i64 a1] rfl z2_ ?_; (with_reducible refine (spec_l17Live.calls k _ _ l0_0 a1 true _ ?side1 ?side2 A18.out).mono ?_); (case side1 => exact z152_); (case side2 => exact HC0_0.out); rintro e w24 ⟨rfl, hb⟩; refine ⟨_, rfl, ?_⟩; replace HO274 := Aside0.mk (Kd.R_below z157_ hb); replace BK270 := Aside0.mk (blk_below (g := gb270) (o := .cells #[.slice A0_0 l0_0.length c0_0] 28 (0, 0)) z118_ hb); replace BK271 := Aside0.mk (blk_below (g := gb271) (o := .cells #[.slice none 0 0] 28 (0, 0)) z119_ hb); replace BK275 := Aside0.mk (blk_below (g := gb275) (o := .cells #[.slice Ao14 t272.length co14] 28 (0, 0)) z147_ hb); replace HB := Aside0.mk (below_step z1_ hb); (try clear hb)) | (go_at_call 57; (with_reducible refine (spec_LabelOk.calls a4 t277 _ A20.out).mono ?_); rintro e w' ⟨rfl, ⟨nd, rfl⟩⟩))
   go_meet
   case rel => exact ⟨_, (!t277), z17_, H', ⟨z124_⟩, ⟨z232_⟩, ⟨z6_⟩, ⟨z8_⟩, ⟨z13_⟩, ⟨z1_⟩⟩
  ·replace c19 := Bool.eq_false_iff.mpr c19
   subst c19
   replace H := iff_ H
   have H' := Aside0.mk H
   clear H
   have hnb25 := NB270_271.out
   have hnc25 := NB271_270.out
   have hnb26 := NB270_275.out
   have hnc26 := NB275_270.out
   have hcz27_0 : w13.cell? ⟨gb270, 0, none⟩ = some (.slice A0_0 l0_0.length c0_0) := (blk_cell BK270.out 0).trans rfl
   have hfz27_0 := blk_frozen BK270.out 0
   go_wp2_with (first | ((with_reducible refine gate_callee (f := 67) rfl ?_); refine goesL_ (some 21) rfl rfl Try.func67 (by kernel_rfl) rfl #[.agg #[.slice A0_0 l0_0.length c0_0], .int .i64 a1] rfl z2_ ?_; (with_reducible refine (spec_l17Live.calls k _ _ l0_0 a1 false _ ?side1 ?side2 A18.out).mono ?_); (case side1 => exact z152_); (case side2 => exact HC0_0.out); rintro e w28 ⟨rfl, hb⟩; refine ⟨_, rfl, ?_⟩; replace HO274 := Aside0.mk (Kd.R_below z157_ hb); replace BK270 := Aside0.mk (blk_below (g := gb270) (o := .cells #[.slice A0_0 l0_0.length c0_0] 28 (0, 0)) z118_ hb); replace BK271 := Aside0.mk (blk_below (g := gb271) (o := .cells #[.slice none 0 0] 28 (0, 0)) z119_ hb); replace BK275 := Aside0.mk (blk_below (g := gb275) (o := .cells #[.slice Ao14 t272.length co14] 28 (0, 0)) z147_ hb); replace HB := Aside0.mk (below_step z1_ hb); (try clear hb)))
   go_meet
   case rel => exact ⟨_, (true), z17_, H', ⟨z124_⟩, ⟨z232_⟩, ⟨z6_⟩, ⟨z8_⟩, ⟨z13_⟩, ⟨z1_⟩⟩
 case rest =>
  clear HC7
  try clear c1
  try clear c2
  try clear p2
  try clear c6
  try clear c10
  try clear c15
  try clear c16
  try clear c19
  try clear c21
  try clear c22
  try clear c25
  try clear c26
  try clear c28
  try clear hcz11_0
  try clear hcz17_0
  try clear hcz23_0
  try clear hcz27_0
  try clear hfz11_0
  try clear hfz17_0
  try clear hfz23_0
  try clear hfz27_0
  obtain ⟨kq, x27_6, rfl, HA, HJ6, HO_276000, BK270, BK271, BK275, HB⟩ := hcut
  cases kq with
  | zero => exact absurd HA.out (by simp [spec_DomInsert.j0])
  | succ kj6 =>
   have H := HA.out
   clear HA
   simp only [spec_DomInsert.j0] at H
   by_cases c29 : x27_6 = true
   ·subst c29
    replace H := ift_ H
    simp only [Option.some.injEq, Prod.mk.injEq] at H
    obtain ⟨rfl, rfl⟩ := H
    have hnb30 := NB275_270.out
    have hnc30 := NB270_275.out
    have hnb31 := NB275_271.out
    have hnc31 := NB271_275.out
    have hcz32_0 : wc.cell? ⟨gb275, 0, none⟩ = some (.slice Ao14 t272.length co14) := (blk_cell BK275.out 0).trans rfl
    have hfz32_0 := blk_frozen BK275.out 0
    have hnb33 := NB271_270.out
    have hnc33 := NB270_271.out
    have hcz34_0 : wc.cell? ⟨gb271, 0, none⟩ = some (.slice none 0 0) := (blk_cell BK271.out 0).trans rfl
    have hfz34_0 := blk_frozen BK271.out 0
    go_wp2
    refine bodyPost_ret (results_ct rfl _ _ gb271 28 #[.slice Ao14 t272.length co14] (0, 0) _ rfl z69_ Try.underlying28 rfl (by kernel_rfl)) rfl ?_
    exact ⟨_, z4_, z116_, z1_⟩
   ·replace c29 := Bool.eq_false_iff.mpr c29
    subst c29
    replace H := iff_ H
    obtain ⟨t278, A35, H⟩ := bnd_ H
    have HC36 := Aside0.mk H
    clear H
    have hnb37 := NB270_271.out
    have hnc37 := NB271_270.out
    have hnb38 := NB270_275.out
    have hnc38 := NB275_270.out
    have hcz39_0 : wc.cell? ⟨gb270, 0, none⟩ = some (.slice A0_0 l0_0.length c0_0) := (blk_cell BK270.out 0).trans rfl
    have hfz39_0 := blk_frozen BK270.out 0
    go_upto_region 5 with (first | ((with_reducible refine gate_callee (f := 68) rfl ?_); refine goesL_ (some 31) rfl rfl Try.func68 (by kernel_rfl) rfl #[.agg #[.slice A0_0 l0_0.length c0_0], .int .i64 a1] rfl z2_ ?_; (with_reducible refine (spec_l17Kids.calls kj6 _ _ l0_0 a1 t278 _ ?side1 ?side2 A35.out).mono ?_); (case side1 => exact z9_); (case side2 => exact HC0_0.out); rintro e w40 ⟨v279, rfl, ho0, hb⟩; refine ⟨_, rfl, ?_⟩; replace HO_276000 := Aside0.mk (Kd.R_below z18_ hb); have HO280 := Aside0.mk (Kd.R_lower ho0 (below_size z1_)); replace BK270 := Aside0.mk (blk_below (g := gb270) (o := .cells #[.slice A0_0 l0_0.length c0_0] 28 (0, 0)) z6_ hb); replace BK271 := Aside0.mk (blk_below (g := gb271) (o := .cells #[.slice none 0 0] 28 (0, 0)) z8_ hb); replace BK275 := Aside0.mk (blk_below (g := gb275) (o := .cells #[.slice Ao14 t272.length co14] 28 (0, 0)) z13_ hb); replace HB := Aside0.mk (below_step z1_ hb); (try clear hb ho0)))
    (try simp only [Act.put, List.setIfInBounds_toArray, List.set_cons_zero, List.set_cons_succ])
    go_cut [45] (fun v45 wc => ∃ (kq : Nat) (x45_35 : Bool), v45 = .bool x45_35 ∧ Aside0 (spec_DomInsert.j1 kq a1 a2 a3 a4 t278 x45_35 l0_0 t272 = some (r1, r2)) ∧ Aside0 (kq ≤ kj6) ∧ Aside0 (Kd.R (Kd.int .i64) 3 wc w.heap.size (fun _ => True) v279 t278) ∧ Aside0 (Kd.R k72 72 wc w.heap.size (fun _ => True) (.slice Ao14 t272.length co14) t272) ∧ Aside0 (wc.heap[gb270]? = some (.cells #[(.slice A0_0 l0_0.length c0_0)] 28 (0, 0))) ∧ Aside0 (wc.heap[gb271]? = some (.cells #[(.slice none 0 0)] 28 (0, 0))) ∧ Aside0 (wc.heap[gb275]? = some (.cells #[(.slice Ao14 t272.length co14)] 28 (0, 0))) ∧ Aside0 (Below w.heap.size w wc))
    case first =>
     have H := HC36.out
     clear HC36
     obtain ⟨t281, A41, H⟩ := bnd_ H
     by_cases c42 : t281 = true
     ·subst c42
      replace H := ift_ H
      obtain ⟨t282, A43, H⟩ := bnd_ H
      have H' := Aside0.mk H
      clear H
      obtain ⟨Ao44, co44, eo44⟩ := Kd.R_slice HO280.out
      subst eo44
      go_wp2_with (first | ((with_reducible refine gate_callee (f := 58) rfl ?_); refine goesL_ (some 35) rfl rfl Try.func58 (by kernel_rfl) rfl #[.int .i64 a2, .int .i64 0, .int .i64 (t278.length : Int)] rfl z2_ ?_; (with_reducible refine (spec_l1In.calls a2 0 (t278.length : Int) true _ A41.out).mono ?_); rintro e w' ⟨rfl, ⟨nd, rfl⟩⟩; refine ⟨_, rfl, ?_⟩) | (go_at_call 58; (with_reducible refine (spec_l1In.calls a3 0 (wrap64 ((t278.length : Int) - a2)) t282 _ A43.out).mono ?_); rintro e w' ⟨rfl, ⟨nd, rfl⟩⟩))
      go_meet
      case rel => exact ⟨_, (!t282), z17_, H', ⟨by have := HJ6.out; first | omega | exact Nat.le_refl _⟩, ⟨z287_⟩, ⟨z18_⟩, ⟨z6_⟩, ⟨z8_⟩, ⟨z13_⟩, ⟨z1_⟩⟩
     ·replace c42 := Bool.eq_false_iff.mpr c42
      subst c42
      replace H := iff_ H
      have H' := Aside0.mk H
      clear H
      obtain ⟨Ao45, co45, eo45⟩ := Kd.R_slice HO280.out
      subst eo45
      go_wp2_with (first | ((with_reducible refine gate_callee (f := 58) rfl ?_); refine goesL_ (some 35) rfl rfl Try.func58 (by kernel_rfl) rfl #[.int .i64 a2, .int .i64 0, .int .i64 (t278.length : Int)] rfl z2_ ?_; (with_reducible refine (spec_l1In.calls a2 0 (t278.length : Int) false _ A41.out).mono ?_); rintro e w' ⟨rfl, ⟨nd, rfl⟩⟩; refine ⟨_, rfl, ?_⟩))
      go_meet
      case rel => exact ⟨_, (true), z17_, H', ⟨by have := HJ6.out; first | omega | exact Nat.le_refl _⟩, ⟨z287_⟩, ⟨z18_⟩, ⟨z6_⟩, ⟨z8_⟩, ⟨z13_⟩, ⟨z1_⟩⟩
    case rest =>
     clear HC36
     try clear c1
     try clear c2
     try clear p2
     try clear c3
     try clear c4
     try clear c5
     try clear c6
     try clear p6
     try clear c10
     try clear c15
     try clear c16
     try clear c19
     try clear c21
     try clear c22
     try clear c25
     try clear c26
     try clear c28
     try clear c29
     try clear c30
     try clear c31
     try clear c33
     try clear c37
     try clear c38
     try clear c42
     try clear hcz11_0
     try clear hcz17_0
     try clear hcz23_0
     try clear hcz27_0
     try clear hcz32_0
     try clear hcz34_0
     try clear hcz39_0
     try clear hfz11_0
     try clear hfz17_0
     try clear hfz23_0
     try clear hfz27_0
     try clear hfz32_0
     try clear hfz34_0
     try clear hfz39_0
     try clear p2
     obtain ⟨kq, x45_35, rfl, HA, HJ35, HO_13, HO_276000, BK270, BK271, BK275, HB⟩ := hcut
     cases kq with
     | zero => exact absurd HA.out (by simp [spec_DomInsert.j1])
     | succ kj35 =>
      have H := HA.out
      clear HA
      simp only [spec_DomInsert.j1] at H
      by_cases c46 : x45_35 = true
      ·subst c46
       replace H := ift_ H
       simp only [Option.some.injEq, Prod.mk.injEq] at H
       obtain ⟨rfl, rfl⟩ := H
       have hnb47 := NB275_270.out
       have hnc47 := NB270_275.out
       have hnb48 := NB275_271.out
       have hnc48 := NB271_275.out
       have hcz49_0 : wc.cell? ⟨gb275, 0, none⟩ = some (.slice Ao14 t272.length co14) := (blk_cell BK275.out 0).trans rfl
       have hfz49_0 := blk_frozen BK275.out 0
       have hnb50 := NB271_270.out
       have hnc50 := NB270_271.out
       have hcz51_0 : wc.cell? ⟨gb271, 0, none⟩ = some (.slice none 0 0) := (blk_cell BK271.out 0).trans rfl
       have hfz51_0 := blk_frozen BK271.out 0
       go_wp2
       refine bodyPost_ret (results_ct rfl _ _ gb271 28 #[.slice Ao14 t272.length co14] (0, 0) _ rfl z69_ Try.underlying28 rfl (by kernel_rfl)) rfl ?_
       exact ⟨_, z4_, z116_, z1_⟩
      ·replace c46 := Bool.eq_false_iff.mpr c46
       subst c46
       replace H := iff_ H
       obtain ⟨t283, A52, H⟩ := bnd_ H
       by_cases c53 : t283 = 24
       ·rw [if_pos c53] at H
        have c53b0 : (t283 == 24) = true := beq_iff_eq.mpr c53
        have c53b1 : (t283 != 24) = false := bne_eq_false_iff_eq.mpr c53
        clear c53
        simp only [Option.some.injEq, Prod.mk.injEq] at H
        obtain ⟨rfl, rfl⟩ := H
        have hnb54 := NB270_271.out
        have hnc54 := NB271_270.out
        have hnb55 := NB270_275.out
        have hnc55 := NB275_270.out
        have hcz56_0 : wc.cell? ⟨gb270, 0, none⟩ = some (.slice A0_0 l0_0.length c0_0) := (blk_cell BK270.out 0).trans rfl
        have hfz56_0 := blk_frozen BK270.out 0
        go_wp2_with (first | ((with_reducible refine gate_callee (f := 79) rfl ?_); refine goesL_ (some 48) rfl rfl Try.func79 (by kernel_rfl) rfl #[.agg #[.slice A0_0 l0_0.length c0_0]] rfl z2_ ?_; (with_reducible refine (spec_l17Free.calls kj35 _ _ l0_0 t283 _ ?side1 ?side2 A52.out).mono ?_); (case side1 => exact z9_); (case side2 => exact HC0_0.out); rintro e w57 ⟨rfl, hb⟩; refine ⟨_, rfl, ?_⟩; replace HO_13 := Aside0.mk (Kd.R_below z11_ hb); replace HO_276000 := Aside0.mk (Kd.R_below z18_ hb); replace BK270 := Aside0.mk (blk_below (g := gb270) (o := .cells #[.slice A0_0 l0_0.length c0_0] 28 (0, 0)) z6_ hb); replace BK271 := Aside0.mk (blk_below (g := gb271) (o := .cells #[.slice none 0 0] 28 (0, 0)) z8_ hb); replace BK275 := Aside0.mk (blk_below (g := gb275) (o := .cells #[.slice Ao14 t272.length co14] 28 (0, 0)) z13_ hb); replace HB := Aside0.mk (below_step z1_ hb); (try clear hb); have hnb58 := NB275_271.out; have hnc58 := NB271_275.out; have hcz59_0 : w57.cell? ⟨gb275, 0, none⟩ = some (.slice Ao14 t272.length co14) := (blk_cell BK275.out 0).trans rfl; have hfz59_0 := blk_frozen BK275.out 0; have hcz60_0 : w57.cell? ⟨gb271, 0, none⟩ = some (.slice none 0 0) := (blk_cell BK271.out 0).trans rfl; have hfz60_0 := blk_frozen BK271.out 0))
        refine bodyPost_ret (results_ct rfl _ _ gb271 28 #[.slice Ao14 t272.length co14] (0, 0) _ rfl z69_ Try.underlying28 rfl (by kernel_rfl)) rfl ?_
        exact ⟨_, z4_, z116_, z1_⟩
       ·rw [if_neg c53] at H
        have c53b0 : (t283 == 24) = false := beq_eq_false_iff_ne.mpr c53
        have c53b1 : (t283 != 24) = true := bne_iff_ne.mpr c53
        have HC61 := Aside0.mk H
        clear H
        have hnb62 := NB270_271.out
        have hnc62 := NB271_270.out
        have hnb63 := NB270_275.out
        have hnc63 := NB275_270.out
        have hcz64_0 : wc.cell? ⟨gb270, 0, none⟩ = some (.slice A0_0 l0_0.length c0_0) := (blk_cell BK270.out 0).trans rfl
        have hfz64_0 := blk_frozen BK270.out 0
        go_upto_if 56 with (first | ((with_reducible refine gate_callee (f := 79) rfl ?_); refine goesL_ (some 48) rfl rfl Try.func79 (by kernel_rfl) rfl #[.agg #[.slice A0_0 l0_0.length c0_0]] rfl z2_ ?_; (with_reducible refine (spec_l17Free.calls kj35 _ _ l0_0 t283 _ ?side1 ?side2 A52.out).mono ?_); (case side1 => exact z9_); (case side2 => exact HC0_0.out); rintro e w65 ⟨rfl, hb⟩; refine ⟨_, rfl, ?_⟩; replace HO_13 := Aside0.mk (Kd.R_below z11_ hb); replace HO_276000 := Aside0.mk (Kd.R_below z18_ hb); replace BK270 := Aside0.mk (blk_below (g := gb270) (o := .cells #[.slice A0_0 l0_0.length c0_0] 28 (0, 0)) z6_ hb); replace BK271 := Aside0.mk (blk_below (g := gb271) (o := .cells #[.slice none 0 0] 28 (0, 0)) z8_ hb); replace BK275 := Aside0.mk (blk_below (g := gb275) (o := .cells #[.slice Ao14 t272.length co14] 28 (0, 0)) z13_ hb); replace HB := Aside0.mk (below_step z1_ hb); (try clear hb); have hnb66 := NB275_271.out; have hnc66 := NB271_275.out; have hcz67_0 : w65.cell? ⟨gb275, 0, none⟩ = some (.slice Ao14 t272.length co14) := (blk_cell BK275.out 0).trans rfl; have hfz67_0 := blk_frozen BK275.out 0))
        (try simp only [Act.put, List.setIfInBounds_toArray, List.set_cons_zero, List.set_cons_succ])
        go_cut [] (fun wc => ∃ (kq : Nat) (x276000_60 : List (S72)) (u276000 : Value), Aside0 (spec_DomInsert.j2 kq a1 a2 a3 a4 t278 t283 l0_0 x276000_60 = some (r1, r2)) ∧ Aside0 (kq ≤ kj35) ∧ Aside0 (Kd.R (Kd.int .i64) 3 wc w.heap.size (fun _ => True) v279 t278) ∧ Aside0 (Kd.R k72 72 wc w.heap.size (fun _ => True) u276000 x276000_60) ∧ Aside0 (wc.heap[gb270]? = some (.cells #[(.slice A0_0 l0_0.length c0_0)] 28 (0, 0))) ∧ Aside0 (wc.heap[gb271]? = some (.cells #[(.slice none 0 0)] 28 (0, 0))) ∧ Aside0 (wc.heap[gb275]? = some (.cells #[u276000] 28 (0, 0))) ∧ Aside0 (Below w.heap.size w wc))
        case first =>
         have H := HC61.out
         clear HC61
         by_cases c68 : t283 = (t272.length : Int)
         ·rw [if_pos c68] at H
          have c68b0 : (t283 == (t272.length : Int)) = true := beq_iff_eq.mpr c68
          have c68b1 : (t283 != (t272.length : Int)) = false := bne_eq_false_iff_eq.mpr c68
          clear c68
          (first | rw [c68b0] | rw [c68b1] | (simp only [i64_w, i32_w]; rw [c68b0]) | skip)
          obtain ⟨t284, A69, H⟩ := bnd_ H
          have H' := Aside0.mk H
          clear H
          have hnb70 := NB275_270.out
          have hnc70 := NB270_275.out
          have hnb71 := NB275_271.out
          have hnc71 := NB271_275.out
          have hcz72_0 : w65.cell? ⟨gb275, 0, none⟩ = some (.slice Ao14 t272.length co14) := (blk_cell BK275.out 0).trans rfl
          have hfz72_0 := blk_frozen BK275.out 0
          try go_wp2
          obtain ⟨hgl_, hgq_⟩ := l16Grow_eq A69.out
          have LMg := Aside0.mk hgl_
          have Neg := Aside0.mk hgq_
          clear hgl_ hgq_
          have n0_ := Aside0.mk (Kd.R_drew HO_13.out)
          have n1_ := Aside0.mk (Kd.R_drew HO_276000.out)
          have n2_ := Aside0.mk (blk_drew BK270.out)
          have n3_ := Aside0.mk (blk_drew BK271.out)
          have n4_ := Aside0.mk (blk_drew BK275.out)
          have n5_ := Aside0.mk (below_drew1 HB.out)
          clear HO_13 HO_276000 BK270 BK271 BK275 HB
          have HO_13 := n0_
          have HO_276000 := n1_
          have BK270 := n2_
          have BK271 := n3_
          have BK275 := n4_
          have HB := n5_
          clear n0_ n1_ n2_ n3_ n4_ n5_
          refine start_ (n := 7) (S := fun w' => w'.cell? ⟨gb275, 0, none⟩ = some (.slice Ao14 t272.length co14)) (ds := [6]) (fl_ 7 0) (by kernel_rfl) rfl (fl_zero _) ((blk_cell BK275.out 0).trans rfl) (fun hHeld => ?_)
          generalize w65.drew = w65d at HO_13 HO_276000 BK270 BK271 BK275 HB hHeld ⊢
          refine pure_ (i := 0) (N := some 57) (v := ?_) (a' := ?_) #[true, false, false, false, false, false, false] rfl rfl (by kernel_rfl) (fun _ _ _ h => h) (Or.inl ⟨by rfl, ?_⟩) ?_ ?_
          rotate_left
          ·intro w'
           go_simp
           with_reducible rfl
          rotate_left
          ·simp only [Act.put, List.setIfInBounds_toArray, List.set_cons_zero, List.set_cons_succ, i64_w, i32_w]
           rfl
          refine take_ (i := 1) (N := some 58) (v := ?_) (a' := ?_) #[true, true, false, false, false, false, false] rfl rfl (by kernel_rfl) (fun _ _ _ h => h) (Or.inl ⟨by rfl, ?_⟩) hHeld ?_ ?_
          rotate_left
          ·intro w' s0
           go_simp
           with_reducible rfl
          rotate_left
          ·simp only [Act.put, List.setIfInBounds_toArray, List.set_cons_zero, List.set_cons_succ, i64_w, i32_w]
           rfl
          refine one_ (i := 2) (N := some 59) (fl_ 7 3) rfl rfl (by kernel_rfl) (by decide) (fun K hK => ?_)
          refine goes_ Try.func62 (by kernel_rfl) rfl #[] (by rfl) rfl rfl (by (try simp only [List.map_toArray, List.map_cons, List.map_nil]); first | done | rfl) ?_
          with_reducible refine (spec_l16Empty.calls false 0 (-1) (-1) (-1) (-1) (-1) _ rfl).mono ?_
          rintro e w65c ⟨rfl, hb⟩
          refine ⟨_, rfl, ?_⟩
          have n0_ := Aside0.mk (Kd.R_below HO_13.out hb)
          have n1_ := Aside0.mk (Kd.R_below HO_276000.out hb)
          have n2_ := Aside0.mk (blk_below BK270.out hb)
          have n3_ := Aside0.mk (blk_below BK271.out hb)
          have n4_ := Aside0.mk (blk_below BK275.out hb)
          have n5_ := Aside0.mk (below_step HB.out hb)
          clear HO_13 HO_276000 BK270 BK271 BK275 HB
          have HO_13 := n0_
          have HO_276000 := n1_
          have BK270 := n2_
          have BK271 := n3_
          have BK275 := n4_
          have HB := n5_
          clear n0_ n1_ n2_ n3_ n4_ n5_
          clear hb
          refine hK.out _ _ ((blk_cell BK275.out 0).trans rfl) (fun hHeld => ?_)
          clear hK K
          refine zn_ rfl ?_
          refine one_ (i := 3) (N := some 60) (fl_ 7 4) rfl rfl (by kernel_rfl) (by decide) (fun K hK => ?_)
          refine Kd.R_lit_step k72 _ 72 ?hg (N := 60) ?hd (xs := ([(⟨false, 0, (-1), (-1), (-1), (-1), (-1)⟩ : S72)] : List S72)) (inner := [.bool false, .int .i64 0, .int .i64 (-1), .int .i64 (-1), .int .i64 (-1), .int .i64 (-1), .int .i64 (-1)]) (ok := fun _ => True) (okp := fun _ => True) ?hr ?hp (fun _ hk => hk) trivial (Below.refl _ _) (Nat.le_refl _) (by simp) ?_; (case hd => rfl); (case hg => rfl); (case hr => exact z19_); (case hp => exact z146_)
          intro vl_ w65l hol_ hb hg_ hnew_
          clear hg_ hnew_
          have HOl_ := Aside0.mk hol_
          clear hol_
          have n0_ := Aside0.mk (Kd.R_below HO_13.out hb)
          have n1_ := Aside0.mk (Kd.R_below HO_276000.out hb)
          have n2_ := Aside0.mk (blk_below BK270.out hb)
          have n3_ := Aside0.mk (blk_below BK271.out hb)
          have n4_ := Aside0.mk (blk_below BK275.out hb)
          have n5_ := Aside0.mk (below_step HB.out hb)
          clear HO_13 HO_276000 BK270 BK271 BK275 HB
          have HO_13 := n0_
          have HO_276000 := n1_
          have BK270 := n2_
          have BK271 := n3_
          have BK275 := n4_
          have HB := n5_
          clear n0_ n1_ n2_ n3_ n4_ n5_
          clear hb
          obtain ⟨Aol_, col_, eol_⟩ := Kd.R_slice HOl_.out
          subst eol_
          refine hK.out _ _ ((blk_cell BK275.out 0).trans rfl) (fun hHeld => ?_)
          clear hK K
          refine zn_ rfl ?_
          refine one_ (i := 4) (N := some 61) (fl_ 7 5) rfl rfl (by kernel_rfl) (by decide) (fun K hK => ?_)
          refine Kd.R_append_rows_step k72 (w0 := w) w.heap.size (by rfl) (.tmp 58) (.tmp 60) 26 72 (.agg #[(.bool false), (.int .i64 0), (.int .i64 0), (.int .i64 0), (.int .i64 0), (.int .i64 0), (.int .i64 0)]) 56 rfl Try.underlying26 info72 rfl (by decide) (by omega) (.slice Ao14 t272.length co14) t272 [(⟨false, 0, (-1), (-1), (-1), (-1), (-1)⟩ : S72)] _ _ _ (fun _ => True) (fun _ => False) rfl rfl ?aO ?aR (fun _ _ h => h) (fun _ h => h.elim) ?aF ?aB ?aS ?aL ?_
          (case aR => exact (Kd.R_reads' HOl_.out).2.2)
          (case aB => exact HB.out)
          (case aF => exact z298_)
          (case aO => exact Kd.R_mono HO_276000.out (fun _ _ => trivial))
          (case aS => exact below_size HB.out)
          (case aL => have := LMg.out; show (_ + 1) * 56 ≤ _; omega)
          intro v285 w73 ho hb hg hat
          rw [← Neg.out] at ho
          have HO286 := Aside0.mk ho
          have n0_ := Aside0.mk (Kd.R_over' HO_13.out (Kd.R_typed HO_276000.out) (by decide) hg)
          have n1_ := Aside0.mk (blk_grown BK270.out hg (Kd.R_ne HO_276000.out BK270.out (by decide)))
          have n2_ := Aside0.mk (blk_grown BK271.out hg (Kd.R_ne HO_276000.out BK271.out (by decide)))
          have n3_ := Aside0.mk (blk_grown BK275.out hg (Kd.R_ne HO_276000.out BK275.out (by decide)))
          have n4_ := Aside0.mk (hb)
          clear HO_13 BK270 BK271 BK275 HB
          have HO_13 := n0_
          have BK270 := n1_
          have BK271 := n2_
          have BK275 := n3_
          have HB := n4_
          clear n0_ n1_ n2_ n3_ n4_
          clear ho hb hg hat HOl_
          obtain ⟨Ao74, co74, eo74⟩ := Kd.R_slice HO286.out
          subst eo74
          refine hK.out _ _ ((blk_cell BK275.out 0).trans rfl) (fun hHeld => ?_)
          clear hK K
          refine zn_ rfl ?_
          refine pure_ (i := 5) (N := some 62) (v := ?_) (a' := ?_) #[true, true, true, true, true, true, false] rfl rfl (by kernel_rfl) (fun _ _ _ h => h) (Or.inl ⟨by rfl, ?_⟩) ?_ ?_
          rotate_left
          ·intro w'
           go_simp
           with_reducible rfl
          rotate_left
          ·simp only [Act.put, List.setIfInBounds_toArray, List.set_cons_zero, List.set_cons_succ, i64_w, i32_w]
           rfl
          have hczg_ : w73.cell? ⟨gb275, 0, none⟩ = some (.slice Ao14 t272.length co14) := (blk_cell BK275.out 0).trans rfl
          have hfzg_ := blk_frozen BK275.out 0
          refine last_ (i := 6) (N := none) (fl_ 7 7) rfl rfl (by kernel_rfl) (by decide) (fun K hK => ?_)
          refine skip_ (w1 := ?_) (by rfl) rfl ?_ ?_
          rotate_left
          ·go_simp
           rfl
          refine hK.out _ _ ?_
          clear hK K
          refine done_ (by kernel_rfl) ?_
          try go_wp2
          go_meet
          case rel => exact ⟨_, (t284), (.slice Ao74 t284.length co74), H', ⟨by have := HJ6.out; have := HJ35.out; first | omega | exact Nat.le_refl _⟩, ⟨by (with_reducible repeat (first | apply Kd.R_alloc | apply Kd.R_drewN | apply Kd.R_drew)); exact Kd.R_mono (Kd.R_far (p := ⟨gb275, 0, none⟩) (Kd.R_types HO_13.out BK275.out (by decide)) (fun _ hk => hk.2) (.slice Ao74 t284.length co74)) (fun _ hk => trivial)⟩, ⟨by (with_reducible repeat (first | apply Kd.R_alloc | apply Kd.R_drewN | apply Kd.R_drew)); exact Kd.R_mono (Kd.R_far (p := ⟨gb275, 0, none⟩) (Kd.R_types HO286.out BK275.out (by decide)) (fun _ hk => hk.2) (.slice Ao74 t284.length co74)) (fun _ hk => trivial)⟩, ⟨z118_⟩, ⟨z119_⟩, ⟨by (with_reducible repeat (first | refine blk_drewN ?_ _ | refine blk_drew ?_ | refine blk_alloc ?_ _)); refine blk_put (cs := #[.slice Ao14 t272.length co14]) ?_ 0 _ rfl; (with_reducible repeat (first | refine blk_drewN ?_ _ | refine blk_drew ?_ | refine blk_alloc ?_ _)); exact BK275.out⟩, ⟨z1_⟩⟩
         ·rw [if_neg c68] at H
          have c68b0 : (t283 == (t272.length : Int)) = false := beq_eq_false_iff_ne.mpr c68
          have c68b1 : (t283 != (t272.length : Int)) = true := bne_iff_ne.mpr c68
          (first | rw [c68b0] | rw [c68b1] | (simp only [i64_w, i32_w]; rw [c68b0]) | skip)
          have H' := Aside0.mk H
          clear H
          go_wp2
          go_meet
          case rel => exact ⟨_, (t272), (.slice Ao14 t272.length co14), H', ⟨by have := HJ6.out; have := HJ35.out; first | omega | exact Nat.le_refl _⟩, ⟨z11_⟩, ⟨z18_⟩, ⟨z6_⟩, ⟨z8_⟩, ⟨z13_⟩, ⟨z1_⟩⟩
        case rest =>
         clear HC61
         try clear c1
         try clear c2
         try clear p2
         try clear c3
         try clear c4
         try clear c5
         try clear c6
         try clear p6
         try clear c7
         try clear c10
         try clear c15
         try clear c16
         try clear c19
         try clear c21
         try clear c22
         try clear c25
         try clear c26
         try clear c28
         try clear c29
         try clear c30
         try clear c31
         try clear c33
         try clear c37
         try clear c38
         try clear c42
         try clear c46
         try clear c47
         try clear c48
         try clear c50
         try clear c53
         try clear c53b0
         try clear c53b1
         try clear c54
         try clear c55
         try clear c58
         try clear c62
         try clear c63
         try clear p64
         try clear c66
         try clear c67
         try clear c68
         try clear c68b0
         try clear c68b1
         try clear c70
         try clear c71
         try clear hcz11_0
         try clear hcz17_0
         try clear hcz23_0
         try clear hcz27_0
         try clear hcz32_0
         try clear hcz34_0
         try clear hcz39_0
         try clear hcz49_0
         try clear hcz51_0
         try clear hcz56_0
         try clear hcz59_0
         try clear hcz60_0
         try clear hcz64_0
         try clear hcz67_0
         try clear hcz72_0
         try clear hcz75_0
         try clear hfz11_0
         try clear hfz17_0
         try clear hfz23_0
         try clear hfz27_0
         try clear hfz32_0
         try clear hfz34_0
         try clear hfz39_0
         try clear hfz49_0
         try clear hfz51_0
         try clear hfz56_0
         try clear hfz59_0
         try clear hfz60_0
         try clear hfz64_0
         try clear hfz67_0
         try clear hfz72_0
         try clear hfz75_0
         try clear p2
         try clear p6
         obtain ⟨kq, x276000_60, u276000, HA, HJ60, HO_13, HO_276000, BK270, BK271, BK275, HB⟩ := hcut
         cases kq with
         | zero => exact absurd HA.out (by simp [spec_DomInsert.j2])
         | succ kj60 =>
          have H := HA.out
          clear HA
          simp only [spec_DomInsert.j2] at H
          obtain ⟨c76b0, H⟩ := ifd_ H
          obtain ⟨c77b0, H⟩ := ifd_ H
          obtain ⟨y287, hy287⟩ : ∃ y_ : List (S72), y_ = (x276000_60.set (t283 : Int).toNat (⟨true, (rd_T72 x276000_60 t283).f1, (rd_T72 x276000_60 t283).f2, (rd_T72 x276000_60 t283).f3, (rd_T72 x276000_60 t283).f4, (rd_T72 x276000_60 t283).f5, (rd_T72 x276000_60 t283).f6⟩ : S72)) := ⟨_, rfl⟩
          replace H : ((some (([] : List Int) : List Int)).bind fun y289 => (if 0 ≤ a2 then (if a2 ≤ (wrap64 (a2 + a3)) then (if (wrap64 (a2 + a3)) ≤ (t278.length : Int) then ((some ((t278.take ((wrap64 (a2 + a3)) : Int).toNat).drop (a2 : Int).toNat : List Int)).bind fun y292 => (if y289.length + y292.length < 17592186044416 then ((some (([] : List Int) : List Int)).bind fun y299 => (if a2 ≤ (t278.length : Int) then ((some (t278.take (a2 : Int).toNat : List Int)).bind fun y302 => (if y299.length + y302.length < 17592186044416 then ((some (y299 ++ y302 : List Int)).bind fun y306 => ((some (([t283] : List Int) : List Int)).bind fun y309 => (if y306.length + y309.length < 17592186044416 then ((some (y306 ++ y309 : List Int)).bind fun y312 => (if 0 ≤ (wrap64 (a2 + a3)) then ((some (t278.drop ((wrap64 (a2 + a3)) : Int).toNat : List Int)).bind fun y315 => (if y312.length + y315.length < 17592186044416 then ((spec_l17Set.f kj60 (y287.set (t283 : Int).toNat (⟨(rd_T72 y287 t283).f0, a4, (rd_T72 y287 t283).f2, (rd_T72 y287 t283).f3, (rd_T72 y287 t283).f4, (rd_T72 y287 t283).f5, (rd_T72 y287 t283).f6⟩ : S72)) t283 (y289 ++ y292)).bind fun t322 => ((spec_l17Set.f kj60 t322 a1 (y312 ++ y315)).bind fun t323 => ((spec_DomOk.f kj60 t323).bind fun t324 => (if t324 = true then (some (t323, t283)) else ((spec_l16Copy.f l0_0).bind fun t325 => (some (t325, (-1)))))))) else (none))) else (none))) else (none)))) else (none))) else (none))) else (none))) else (none)) else (none)) else (none))) = some (r1, r2) := by first | (rw [hy287]; with_reducible exact H) | (have H2_ := (Option.bind_some _ _).symm.trans H; rw [hy287]; with_reducible exact H2_) | (have H2_ := (Option.bind_some _ _).symm.trans H; with_reducible exact H2_) | with_reducible exact H | (rw [hy287]; exact H) | exact H
          have Ny287 := Aside0.mk hy287
          clear hy287
          obtain ⟨y288, hy288⟩ : ∃ y_ : List (S72), y_ = (y287.set (t283 : Int).toNat (⟨(rd_T72 y287 t283).f0, a4, (rd_T72 y287 t283).f2, (rd_T72 y287 t283).f3, (rd_T72 y287 t283).f4, (rd_T72 y287 t283).f5, (rd_T72 y287 t283).f6⟩ : S72)) := ⟨_, rfl⟩
          replace H : ((some (([] : List Int) : List Int)).bind fun y289 => (if 0 ≤ a2 then (if a2 ≤ (wrap64 (a2 + a3)) then (if (wrap64 (a2 + a3)) ≤ (t278.length : Int) then ((some ((t278.take ((wrap64 (a2 + a3)) : Int).toNat).drop (a2 : Int).toNat : List Int)).bind fun y292 => (if y289.length + y292.length < 17592186044416 then ((some (([] : List Int) : List Int)).bind fun y299 => (if a2 ≤ (t278.length : Int) then ((some (t278.take (a2 : Int).toNat : List Int)).bind fun y302 => (if y299.length + y302.length < 17592186044416 then ((some (y299 ++ y302 : List Int)).bind fun y306 => ((some (([t283] : List Int) : List Int)).bind fun y309 => (if y306.length + y309.length < 17592186044416 then ((some (y306 ++ y309 : List Int)).bind fun y312 => (if 0 ≤ (wrap64 (a2 + a3)) then ((some (t278.drop ((wrap64 (a2 + a3)) : Int).toNat : List Int)).bind fun y315 => (if y312.length + y315.length < 17592186044416 then ((spec_l17Set.f kj60 y288 t283 (y289 ++ y292)).bind fun t322 => ((spec_l17Set.f kj60 t322 a1 (y312 ++ y315)).bind fun t323 => ((spec_DomOk.f kj60 t323).bind fun t324 => (if t324 = true then (some (t323, t283)) else ((spec_l16Copy.f l0_0).bind fun t325 => (some (t325, (-1)))))))) else (none))) else (none))) else (none)))) else (none))) else (none))) else (none))) else (none)) else (none)) else (none))) = some (r1, r2) := by first | (rw [hy288]; with_reducible exact H) | (have H2_ := (Option.bind_some _ _).symm.trans H; rw [hy288]; with_reducible exact H2_) | (have H2_ := (Option.bind_some _ _).symm.trans H; with_reducible exact H2_) | with_reducible exact H | (rw [hy288]; exact H) | exact H
          have Ny288 := Aside0.mk hy288
          clear hy288
          obtain ⟨y289, hy289⟩ : ∃ y_ : List Int, y_ = (([] : List Int)) := ⟨_, rfl⟩
          replace H : (if 0 ≤ a2 then (if a2 ≤ (wrap64 (a2 + a3)) then (if (wrap64 (a2 + a3)) ≤ (t278.length : Int) then ((some ((t278.take ((wrap64 (a2 + a3)) : Int).toNat).drop (a2 : Int).toNat : List Int)).bind fun y292 => (if y289.length + y292.length < 17592186044416 then ((some (([] : List Int) : List Int)).bind fun y299 => (if a2 ≤ (t278.length : Int) then ((some (t278.take (a2 : Int).toNat : List Int)).bind fun y302 => (if y299.length + y302.length < 17592186044416 then ((some (y299 ++ y302 : List Int)).bind fun y306 => ((some (([t283] : List Int) : List Int)).bind fun y309 => (if y306.length + y309.length < 17592186044416 then ((some (y306 ++ y309 : List Int)).bind fun y312 => (if 0 ≤ (wrap64 (a2 + a3)) then ((some (t278.drop ((wrap64 (a2 + a3)) : Int).toNat : List Int)).bind fun y315 => (if y312.length + y315.length < 17592186044416 then ((spec_l17Set.f kj60 y288 t283 (y289 ++ y292)).bind fun t322 => ((spec_l17Set.f kj60 t322 a1 (y312 ++ y315)).bind fun t323 => ((spec_DomOk.f kj60 t323).bind fun t324 => (if t324 = true then (some (t323, t283)) else ((spec_l16Copy.f l0_0).bind fun t325 => (some (t325, (-1)))))))) else (none))) else (none))) else (none)))) else (none))) else (none))) else (none))) else (none)) else (none)) else (none)) = some (r1, r2) := by first | (rw [hy289]; with_reducible exact H) | (have H2_ := (Option.bind_some _ _).symm.trans H; rw [hy289]; with_reducible exact H2_) | (have H2_ := (Option.bind_some _ _).symm.trans H; with_reducible exact H2_) | with_reducible exact H | (rw [hy289]; exact H) | exact H
          have Ny289 := Aside0.mk hy289
          clear hy289
          obtain ⟨c80b0, c80b1, H⟩ := ife_ H
          obtain ⟨c81, H⟩ := ifs_ H
          have c81b0 := eq_true c81
          have c81b1 : decide (a2 ≤ (wrap64 (a2 + a3))) = true := decide_eq_true c81
          obtain ⟨c82, H⟩ := ifs_ H
          have c82b0 := eq_true c82
          have c82b1 : decide ((wrap64 (a2 + a3)) ≤ (t278.length : Int)) = true := decide_eq_true c82
          obtain ⟨y292, hy292⟩ : ∃ y_ : List Int, y_ = ((t278.take ((wrap64 (a2 + a3)) : Int).toNat).drop (a2 : Int).toNat) := ⟨_, rfl⟩
          replace H : (if y289.length + y292.length < 17592186044416 then ((some (([] : List Int) : List Int)).bind fun y299 => (if a2 ≤ (t278.length : Int) then ((some (t278.take (a2 : Int).toNat : List Int)).bind fun y302 => (if y299.length + y302.length < 17592186044416 then ((some (y299 ++ y302 : List Int)).bind fun y306 => ((some (([t283] : List Int) : List Int)).bind fun y309 => (if y306.length + y309.length < 17592186044416 then ((some (y306 ++ y309 : List Int)).bind fun y312 => (if 0 ≤ (wrap64 (a2 + a3)) then ((some (t278.drop ((wrap64 (a2 + a3)) : Int).toNat : List Int)).bind fun y315 => (if y312.length + y315.length < 17592186044416 then ((spec_l17Set.f kj60 y288 t283 (y289 ++ y292)).bind fun t322 => ((spec_l17Set.f kj60 t322 a1 (y312 ++ y315)).bind fun t323 => ((spec_DomOk.f kj60 t323).bind fun t324 => (if t324 = true then (some (t323, t283)) else ((spec_l16Copy.f l0_0).bind fun t325 => (some (t325, (-1)))))))) else (none))) else (none))) else (none)))) else (none))) else (none))) else (none)) = some (r1, r2) := by first | (rw [hy292]; with_reducible exact H) | (have H2_ := (Option.bind_some _ _).symm.trans H; rw [hy292]; with_reducible exact H2_) | (have H2_ := (Option.bind_some _ _).symm.trans H; with_reducible exact H2_) | with_reducible exact H | (rw [hy292]; exact H) | exact H
          have Ny292 := Aside0.mk hy292
          clear hy292
          obtain ⟨c83, H⟩ := ifs_ H
          have LMc83 := Aside0.mk c83
          clear c83
          obtain ⟨y296, hy296⟩ : ∃ y_ : List Int, y_ = (y289 ++ y292) := ⟨_, rfl⟩
          replace H : ((some (([] : List Int) : List Int)).bind fun y299 => (if a2 ≤ (t278.length : Int) then ((some (t278.take (a2 : Int).toNat : List Int)).bind fun y302 => (if y299.length + y302.length < 17592186044416 then ((some (y299 ++ y302 : List Int)).bind fun y306 => ((some (([t283] : List Int) : List Int)).bind fun y309 => (if y306.length + y309.length < 17592186044416 then ((some (y306 ++ y309 : List Int)).bind fun y312 => (if 0 ≤ (wrap64 (a2 + a3)) then ((some (t278.drop ((wrap64 (a2 + a3)) : Int).toNat : List Int)).bind fun y315 => (if y312.length + y315.length < 17592186044416 then ((spec_l17Set.f kj60 y288 t283 y296).bind fun t322 => ((spec_l17Set.f kj60 t322 a1 (y312 ++ y315)).bind fun t323 => ((spec_DomOk.f kj60 t323).bind fun t324 => (if t324 = true then (some (t323, t283)) else ((spec_l16Copy.f l0_0).bind fun t325 => (some (t325, (-1)))))))) else (none))) else (none))) else (none)))) else (none))) else (none))) = some (r1, r2) := by first | (rw [hy296]; with_reducible exact H) | (have H2_ := (Option.bind_some _ _).symm.trans H; rw [hy296]; with_reducible exact H2_) | (have H2_ := (Option.bind_some _ _).symm.trans H; with_reducible exact H2_) | with_reducible exact H | (rw [hy296]; exact H) | exact H
          have Ny296 := Aside0.mk hy296
          clear hy296
          obtain ⟨y299, hy299⟩ : ∃ y_ : List Int, y_ = (([] : List Int)) := ⟨_, rfl⟩
          replace H : (if a2 ≤ (t278.length : Int) then ((some (t278.take (a2 : Int).toNat : List Int)).bind fun y302 => (if y299.length + y302.length < 17592186044416 then ((some (y299 ++ y302 : List Int)).bind fun y306 => ((some (([t283] : List Int) : List Int)).bind fun y309 => (if y306.length + y309.length < 17592186044416 then ((some (y306 ++ y309 : List Int)).bind fun y312 => (if 0 ≤ (wrap64 (a2 + a3)) then ((some (t278.drop ((wrap64 (a2 + a3)) : Int).toNat : List Int)).bind fun y315 => (if y312.length + y315.length < 17592186044416 then ((spec_l17Set.f kj60 y288 t283 y296).bind fun t322 => ((spec_l17Set.f kj60 t322 a1 (y312 ++ y315)).bind fun t323 => ((spec_DomOk.f kj60 t323).bind fun t324 => (if t324 = true then (some (t323, t283)) else ((spec_l16Copy.f l0_0).bind fun t325 => (some (t325, (-1)))))))) else (none))) else (none))) else (none)))) else (none))) else (none)) = some (r1, r2) := by first | (rw [hy299]; with_reducible exact H) | (have H2_ := (Option.bind_some _ _).symm.trans H; rw [hy299]; with_reducible exact H2_) | (have H2_ := (Option.bind_some _ _).symm.trans H; with_reducible exact H2_) | with_reducible exact H | (rw [hy299]; exact H) | exact H
          have Ny299 := Aside0.mk hy299
          clear hy299
          have c84b0 := eq_true (odt_ : 0 ≤ a2)
          obtain ⟨c85b0, c85b1, H⟩ := ife_ H
          obtain ⟨y302, hy302⟩ : ∃ y_ : List Int, y_ = (t278.take (a2 : Int).toNat) := ⟨_, rfl⟩
          replace H : (if y299.length + y302.length < 17592186044416 then ((some (y299 ++ y302 : List Int)).bind fun y306 => ((some (([t283] : List Int) : List Int)).bind fun y309 => (if y306.length + y309.length < 17592186044416 then ((some (y306 ++ y309 : List Int)).bind fun y312 => (if 0 ≤ (wrap64 (a2 + a3)) then ((some (t278.drop ((wrap64 (a2 + a3)) : Int).toNat : List Int)).bind fun y315 => (if y312.length + y315.length < 17592186044416 then ((spec_l17Set.f kj60 y288 t283 y296).bind fun t322 => ((spec_l17Set.f kj60 t322 a1 (y312 ++ y315)).bind fun t323 => ((spec_DomOk.f kj60 t323).bind fun t324 => (if t324 = true then (some (t323, t283)) else ((spec_l16Copy.f l0_0).bind fun t325 => (some (t325, (-1)))))))) else (none))) else (none))) else (none)))) else (none)) = some (r1, r2) := by first | (rw [hy302]; with_reducible exact H) | (have H2_ := (Option.bind_some _ _).symm.trans H; rw [hy302]; with_reducible exact H2_) | (have H2_ := (Option.bind_some _ _).symm.trans H; with_reducible exact H2_) | with_reducible exact H | (rw [hy302]; exact H) | exact H
          have Ny302 := Aside0.mk hy302
          clear hy302
          obtain ⟨c86, H⟩ := ifs_ H
          have LMc86 := Aside0.mk c86
          clear c86
          obtain ⟨y306, hy306⟩ : ∃ y_ : List Int, y_ = (y299 ++ y302) := ⟨_, rfl⟩
          replace H : ((some (([t283] : List Int) : List Int)).bind fun y309 => (if y306.length + y309.length < 17592186044416 then ((some (y306 ++ y309 : List Int)).bind fun y312 => (if 0 ≤ (wrap64 (a2 + a3)) then ((some (t278.drop ((wrap64 (a2 + a3)) : Int).toNat : List Int)).bind fun y315 => (if y312.length + y315.length < 17592186044416 then ((spec_l17Set.f kj60 y288 t283 y296).bind fun t322 => ((spec_l17Set.f kj60 t322 a1 (y312 ++ y315)).bind fun t323 => ((spec_DomOk.f kj60 t323).bind fun t324 => (if t324 = true then (some (t323, t283)) else ((spec_l16Copy.f l0_0).bind fun t325 => (some (t325, (-1)))))))) else (none))) else (none))) else (none))) = some (r1, r2) := by first | (rw [hy306]; with_reducible exact H) | (have H2_ := (Option.bind_some _ _).symm.trans H; rw [hy306]; with_reducible exact H2_) | (have H2_ := (Option.bind_some _ _).symm.trans H; with_reducible exact H2_) | with_reducible exact H | (rw [hy306]; exact H) | exact H
          have Ny306 := Aside0.mk hy306
          clear hy306
          obtain ⟨y309, hy309⟩ : ∃ y_ : List Int, y_ = (([t283] : List Int)) := ⟨_, rfl⟩
          replace H : (if y306.length + y309.length < 17592186044416 then ((some (y306 ++ y309 : List Int)).bind fun y312 => (if 0 ≤ (wrap64 (a2 + a3)) then ((some (t278.drop ((wrap64 (a2 + a3)) : Int).toNat : List Int)).bind fun y315 => (if y312.length + y315.length < 17592186044416 then ((spec_l17Set.f kj60 y288 t283 y296).bind fun t322 => ((spec_l17Set.f kj60 t322 a1 (y312 ++ y315)).bind fun t323 => ((spec_DomOk.f kj60 t323).bind fun t324 => (if t324 = true then (some (t323, t283)) else ((spec_l16Copy.f l0_0).bind fun t325 => (some (t325, (-1)))))))) else (none))) else (none))) else (none)) = some (r1, r2) := by first | (rw [hy309]; with_reducible exact H) | (have H2_ := (Option.bind_some _ _).symm.trans H; rw [hy309]; with_reducible exact H2_) | (have H2_ := (Option.bind_some _ _).symm.trans H; with_reducible exact H2_) | with_reducible exact H | (rw [hy309]; exact H) | exact H
          have Ny309 := Aside0.mk hy309
          clear hy309
          obtain ⟨c87, H⟩ := ifs_ H
          have LMc87 := Aside0.mk c87
          clear c87
          obtain ⟨y312, hy312⟩ : ∃ y_ : List Int, y_ = (y306 ++ y309) := ⟨_, rfl⟩
          replace H : (if 0 ≤ (wrap64 (a2 + a3)) then ((some (t278.drop ((wrap64 (a2 + a3)) : Int).toNat : List Int)).bind fun y315 => (if y312.length + y315.length < 17592186044416 then ((spec_l17Set.f kj60 y288 t283 y296).bind fun t322 => ((spec_l17Set.f kj60 t322 a1 (y312 ++ y315)).bind fun t323 => ((spec_DomOk.f kj60 t323).bind fun t324 => (if t324 = true then (some (t323, t283)) else ((spec_l16Copy.f l0_0).bind fun t325 => (some (t325, (-1)))))))) else (none))) else (none)) = some (r1, r2) := by first | (rw [hy312]; with_reducible exact H) | (have H2_ := (Option.bind_some _ _).symm.trans H; rw [hy312]; with_reducible exact H2_) | (have H2_ := (Option.bind_some _ _).symm.trans H; with_reducible exact H2_) | with_reducible exact H | (rw [hy312]; exact H) | exact H
          have Ny312 := Aside0.mk hy312
          clear hy312
          obtain ⟨ji88, hji88⟩ : ∃ j_ : Int, (wrap64 (a2 + a3)) = j_ := ⟨_, rfl⟩
          replace H : (if 0 ≤ (ji88) then ((some (t278.drop ((ji88) : Int).toNat : List Int)).bind fun y315 => (if y312.length + y315.length < 17592186044416 then ((spec_l17Set.f kj60 y288 t283 y296).bind fun t322 => ((spec_l17Set.f kj60 t322 a1 (y312 ++ y315)).bind fun t323 => ((spec_DomOk.f kj60 t323).bind fun t324 => (if t324 = true then (some (t323, t283)) else ((spec_l16Copy.f l0_0).bind fun t325 => (some (t325, (-1)))))))) else (none))) else (none)) = some (r1, r2) := by first | (rw [hji88] at H; exact H) | (simp only [hji88] at H ⊢; exact H)
          (try rw [hji88] at c81b0)
          (try rw [hji88] at c81b1)
          (try rw [hji88] at c81)
          (try rw [hji88] at c82b0)
          (try rw [hji88] at c82b1)
          (try rw [hji88] at c82)
          (try rw [hji88] at Ny292)
          (try rw [hji88] at Ny292)
          have hji88w : (IntKind.i64.wrap (a2 + a3)) = ji88 := (i64_w _).trans hji88
          obtain ⟨c89b0, c89b1, H⟩ := ife_ H
          have c90b0 := eq_true (odt_ : (ji88) ≤ (t278.length : Int))
          obtain ⟨y315, hy315⟩ : ∃ y_ : List Int, y_ = (t278.drop ((ji88) : Int).toNat) := ⟨_, rfl⟩
          replace H : (if y312.length + y315.length < 17592186044416 then ((spec_l17Set.f kj60 y288 t283 y296).bind fun t322 => ((spec_l17Set.f kj60 t322 a1 (y312 ++ y315)).bind fun t323 => ((spec_DomOk.f kj60 t323).bind fun t324 => (if t324 = true then (some (t323, t283)) else ((spec_l16Copy.f l0_0).bind fun t325 => (some (t325, (-1)))))))) else (none)) = some (r1, r2) := by first | (rw [hy315]; with_reducible exact H) | (have H2_ := (Option.bind_some _ _).symm.trans H; rw [hy315]; with_reducible exact H2_) | (have H2_ := (Option.bind_some _ _).symm.trans H; with_reducible exact H2_) | with_reducible exact H | (rw [hy315]; exact H) | exact H
          have Ny315 := Aside0.mk hy315
          clear hy315
          obtain ⟨c91, H⟩ := ifs_ H
          have LMc91 := Aside0.mk c91
          clear c91
          obtain ⟨y319, hy319⟩ : ∃ y_ : List Int, y_ = (y312 ++ y315) := ⟨_, rfl⟩
          replace H : ((spec_l17Set.f kj60 y288 t283 y296).bind fun t322 => ((spec_l17Set.f kj60 t322 a1 y319).bind fun t323 => ((spec_DomOk.f kj60 t323).bind fun t324 => (if t324 = true then (some (t323, t283)) else ((spec_l16Copy.f l0_0).bind fun t325 => (some (t325, (-1)))))))) = some (r1, r2) := by first | (rw [hy319]; with_reducible exact H) | (have H2_ := (Option.bind_some _ _).symm.trans H; rw [hy319]; with_reducible exact H2_) | (have H2_ := (Option.bind_some _ _).symm.trans H; with_reducible exact H2_) | with_reducible exact H | (rw [hy319]; exact H) | exact H
          have Ny319 := Aside0.mk hy319
          clear hy319
          obtain ⟨t322, A92, H⟩ := bnd_ H
          obtain ⟨t323, A93, H⟩ := bnd_ H
          obtain ⟨t324, A94, H⟩ := bnd_ H
          by_cases c95 : t324 = true
          ·subst c95
           replace H := ift_ H
           simp only [Option.some.injEq, Prod.mk.injEq] at H
           obtain ⟨rfl, rfl⟩ := H
           have hnb96 := NB275_270.out
           have hnc96 := NB270_275.out
           have hnb97 := NB275_271.out
           have hnc97 := NB271_275.out
           have hcz98_0 : wc.cell? ⟨gb275, 0, none⟩ = some (u276000) := (blk_cell BK275.out 0).trans rfl
           have hfz98_0 := blk_frozen BK275.out 0
           have p78 : 0 ≤ (t283 : Int) := odt_
           have q78 : (t283 : Int) < ((x276000_60.length : Int) : Int) := odt_
           obtain ⟨go78, co78, eo78, gb78, gl78, cl78, HG78⟩ := Kd.R_form HO_276000.out (by omega)
           (first | cases eo78 | (injection eo78 with ea_ en_ ec_; (first | subst ea_ | (injection ea_ with ea_; subst ea_)); subst ec_; clear en_))
           have GB78 := Aside0.mk gb78
           have GG78 := Aside0.mk HG78
           clear gb78 gl78 HG78
           obtain ⟨ce78, hcl78, hM78, hcc78, hfr78⟩ := Kd.R_elem HO_276000.out z72 (t283 : Int) p78 q78
           obtain rfl := k72_openM hM78
           have hx78_0 : wc.cell? ⟨go78, (t283 : Int).toNat * 7, none⟩ = some (.bool ((rd_T72 x276000_60 t283).f0)) := hcc78 0 _ rfl
           have hx78_1 : wc.cell? ⟨go78, (t283 : Int).toNat * 7 + 1, none⟩ = some (.int .i64 ((rd_T72 x276000_60 t283).f1)) := hcc78 1 _ rfl
           have hx78_2 : wc.cell? ⟨go78, (t283 : Int).toNat * 7 + 2, none⟩ = some (.int .i64 ((rd_T72 x276000_60 t283).f2)) := hcc78 2 _ rfl
           have hx78_3 : wc.cell? ⟨go78, (t283 : Int).toNat * 7 + 3, none⟩ = some (.int .i64 ((rd_T72 x276000_60 t283).f3)) := hcc78 3 _ rfl
           have hx78_4 : wc.cell? ⟨go78, (t283 : Int).toNat * 7 + 4, none⟩ = some (.int .i64 ((rd_T72 x276000_60 t283).f4)) := hcc78 4 _ rfl
           have hx78_5 : wc.cell? ⟨go78, (t283 : Int).toNat * 7 + 5, none⟩ = some (.int .i64 ((rd_T72 x276000_60 t283).f5)) := hcc78 5 _ rfl
           have hx78_6 : wc.cell? ⟨go78, (t283 : Int).toNat * 7 + 6, none⟩ = some (.int .i64 ((rd_T72 x276000_60 t283).f6)) := hcc78 6 _ rfl
           have hf78_0 : wc.frozen? ⟨go78, (t283 : Int).toNat * 7, none⟩ = false := hfr78 0
           have hf78_1 : wc.frozen? ⟨go78, (t283 : Int).toNat * 7 + 1, none⟩ = false := hfr78 1
           have hf78_2 : wc.frozen? ⟨go78, (t283 : Int).toNat * 7 + 2, none⟩ = false := hfr78 2
           have hf78_3 : wc.frozen? ⟨go78, (t283 : Int).toNat * 7 + 3, none⟩ = false := hfr78 3
           have hf78_4 : wc.frozen? ⟨go78, (t283 : Int).toNat * 7 + 4, none⟩ = false := hfr78 4
           have hf78_5 : wc.frozen? ⟨go78, (t283 : Int).toNat * 7 + 5, none⟩ = false := hfr78 5
           have hf78_6 : wc.frozen? ⟨go78, (t283 : Int).toNat * 7 + 6, none⟩ = false := hfr78 6
           clear hcl78 hcc78 hfr78 hM78
           replace p78 := eq_true p78
           replace q78 := eq_true q78
           have HX99 := Aside0.mk (show Kd.R k72 72 wc w.heap.size (fun _ => True) (.slice (some ⟨go78, 0, none⟩) x276000_60.length co78) x276000_60 from z18_)
           obtain ⟨ce99, hcl99, hM99, hcc99, hfr99⟩ := Kd.R_elem HX99.out z72 (t283 : Int) (odt_) (by have h_ : (t283 : Int) < ((x276000_60.length : Int) : Int) := odt_; first | exact h_ | (have e_ := (Kd.R_reads' HO_276000.out).1; omega) | simpa using h_)
           obtain rfl := k72_openM hM99
           have HP99 := Kd.R_seg HX99.out (t283 : Int) (odt_) (by have h_ : (t283 : Int) < ((x276000_60.length : Int) : Int) := odt_; first | exact h_ | (have e_ := (Kd.R_reads' HO_276000.out).1; omega) | simpa using h_) (seg := [.bool true]) (j := 0) hcl99 hcc99 (show 1 ≤ 7 from by decide) (x' := (⟨true, (rd_T72 x276000_60 t283).f1, (rd_T72 x276000_60 t283).f2, (rd_T72 x276000_60 t283).f3, (rd_T72 x276000_60 t283).f4, (rd_T72 x276000_60 t283).f5, (rd_T72 x276000_60 t283).f6⟩ : S72)) (k72_mkM _ _ _ (⟨true, (rd_T72 x276000_60 t283).f1, (rd_T72 x276000_60 t283).f2, (rd_T72 x276000_60 t283).f3, (rd_T72 x276000_60 t283).f4, (rd_T72 x276000_60 t283).f5, (rd_T72 x276000_60 t283).f6⟩ : S72) ) (fun _ hk => hk)
           have hx99_0 := hcc99 0 _ rfl
           (try simp only [show (k72).sz = 7 from rfl, Nat.mul_one, Nat.add_zero] at hx99_0)
           have hf99_0 := hfr99 0
           (try simp only [show (k72).sz = 7 from rfl, Nat.mul_one, Nat.add_zero] at hf99_0)
           clear hcl99 hcc99 hfr99 hM99
           try go_wp2_with (first | ((with_reducible refine gate_store (t := 4) (p := 67) rfl ?_); refine store_event (t := 4) (p := 67) (v := ?vo_w100) (w1 := (wc.setCell ⟨go78, (t283 : Int).toNat * 7, none⟩ (.bool true))) ?hg ?ho ?hn ?hr ?_; (case ho => rfl); (case hg => rfl); (case hn => rfl); (case hr => exact z19_); intro w100 hw; have hg : wc.grownBy w100 (some go78) := (by rw [hw]; exact HP99.2); have hp_ : Kd.R k72 72 w100 w.heap.size (fun _ => True) (.slice (some ⟨go78, 0, none⟩) x276000_60.length co78) y287 := (by rw [hw, Ny287.out]; exact HP99.1); clear HP99; replace HO_13 := Aside0.mk (Kd.R_over' (v := (.slice (some ⟨go78, 0, none⟩) x276000_60.length co78)) z11_ (Kd.R_typed HO_276000.out) (by decide) hg); replace BK270 := Aside0.mk (blk_grown (g := gb270) (o := .cells #[.slice A0_0 l0_0.length c0_0] 28 (0, 0)) z6_ hg (Kd.R_ne HO_276000.out BK270.out (by decide))); replace BK271 := Aside0.mk (blk_grown (g := gb271) (o := .cells #[.slice none 0 0] 28 (0, 0)) z8_ hg (Kd.R_ne HO_276000.out BK271.out (by decide))); replace BK275 := Aside0.mk (blk_grown (g := gb275) (o := .cells #[.slice (some ⟨go78, 0, none⟩) x276000_60.length co78] 28 (0, 0)) z13_ hg (Kd.R_ne HO_276000.out BK275.out (by decide))); replace HO_276000 := Aside0.mk (hp_); replace HB := Aside0.mk ((by rw [hw]; exact below_set (HB.out) GB78.out : Below w.heap.size w w100)); clear hg hw hp_; have hcz101_0 : w100.cell? ⟨gb275, 0, none⟩ = some (.slice (some ⟨go78, 0, none⟩) x276000_60.length co78) := (blk_cell BK275.out 0).trans rfl; have hfz101_0 := blk_frozen BK275.out 0; have p79 : 0 ≤ (t283 : Int) := odt_; have q79 : (t283 : Int) < ((x276000_60.length : Int) : Int) := odt_; obtain ⟨ce79, hcl79, hM79, hcc79, hfr79⟩ := Kd.R_elem HO_276000.out z72 (t283 : Int) p79 q79; obtain rfl := k72_openM hM79; have hx79_0 : w100.cell? ⟨go78, (t283 : Int).toNat * 7, none⟩ = some (.bool ((rd_T72 y287 t283).f0)) := hcc79 0 _ rfl; have hx79_1 : w100.cell? ⟨go78, (t283 : Int).toNat * 7 + 1, none⟩ = some (.int .i64 ((rd_T72 y287 t283).f1)) := hcc79 1 _ rfl; have hx79_2 : w100.cell? ⟨go78, (t283 : Int).toNat * 7 + 2, none⟩ = some (.int .i64 ((rd_T72 y287 t283).f2)) := hcc79 2 _ rfl; have hx79_3 : w100.cell? ⟨go78, (t283 : Int).toNat * 7 + 3, none⟩ = some (.int .i64 ((rd_T72 y287 t283).f3)) := hcc79 3 _ rfl; have hx79_4 : w100.cell? ⟨go78, (t283 : Int).toNat * 7 + 4, none⟩ = some (.int .i64 ((rd_T72 y287 t283).f4)) := hcc79 4 _ rfl; have hx79_5 : w100.cell? ⟨go78, (t283 : Int).toNat * 7 + 5, none⟩ = some (.int .i64 ((rd_T72 y287 t283).f5)) := hcc79 5 _ rfl; have hx79_6 : w100.cell? ⟨go78, (t283 : Int).toNat * 7 + 6, none⟩ = some (.int .i64 ((rd_T72 y287 t283).f6)) := hcc79 6 _ rfl; have hf79_0 : w100.frozen? ⟨go78, (t283 : Int).toNat * 7, none⟩ = false := hfr79 0; have hf79_1 : w100.frozen? ⟨go78, (t283 : Int).toNat * 7 + 1, none⟩ = false := hfr79 1; have hf79_2 : w100.frozen? ⟨go78, (t283 : Int).toNat * 7 + 2, none⟩ = false := hfr79 2; have hf79_3 : w100.frozen? ⟨go78, (t283 : Int).toNat * 7 + 3, none⟩ = false := hfr79 3; have hf79_4 : w100.frozen? ⟨go78, (t283 : Int).toNat * 7 + 4, none⟩ = false := hfr79 4; have hf79_5 : w100.frozen? ⟨go78, (t283 : Int).toNat * 7 + 5, none⟩ = false := hfr79 5; have hf79_6 : w100.frozen? ⟨go78, (t283 : Int).toNat * 7 + 6, none⟩ = false := hfr79 6; clear hcl79 hcc79 hfr79 hM79; replace p79 := eq_true p79; replace q79 := eq_true q79; have HX102 := Aside0.mk (show Kd.R k72 72 w100 w.heap.size (fun _ => True) (.slice (some ⟨go78, 0, none⟩) x276000_60.length co78) y287 from z18_); obtain ⟨ce102, hcl102, hM102, hcc102, hfr102⟩ := Kd.R_elem HX102.out z72 (t283 : Int) (odt_) (by have h_ : (t283 : Int) < ((x276000_60.length : Int) : Int) := odt_; first | exact h_ | (have e_ := (Kd.R_reads' HO_276000.out).1; omega) | simpa using h_); obtain rfl := k72_openM hM102; have HP102 := Kd.R_seg HX102.out (t283 : Int) (odt_) (by have h_ : (t283 : Int) < ((x276000_60.length : Int) : Int) := odt_; first | exact h_ | (have e_ := (Kd.R_reads' HO_276000.out).1; omega) | simpa using h_) (seg := [.int .i64 a4]) (j := 1) hcl102 hcc102 (show 2 ≤ 7 from by decide) (x' := (⟨(rd_T72 y287 t283).f0, a4, (rd_T72 y287 t283).f2, (rd_T72 y287 t283).f3, (rd_T72 y287 t283).f4, (rd_T72 y287 t283).f5, (rd_T72 y287 t283).f6⟩ : S72)) (k72_mkM _ _ _ (⟨(rd_T72 y287 t283).f0, a4, (rd_T72 y287 t283).f2, (rd_T72 y287 t283).f3, (rd_T72 y287 t283).f4, (rd_T72 y287 t283).f5, (rd_T72 y287 t283).f6⟩ : S72) ) (fun _ hk => hk); have hx102_1 := hcc102 1 _ rfl; (try simp only [show (k72).sz = 7 from rfl, Nat.mul_one, Nat.add_zero] at hx102_1); have hf102_1 := hfr102 1; (try simp only [show (k72).sz = 7 from rfl, Nat.mul_one, Nat.add_zero] at hf102_1); clear hcl102 hcc102 hfr102 hM102) | ((with_reducible refine gate_store (t := 3) (p := 73) rfl ?_); refine store_event (t := 3) (p := 73) (v := ?vo_w103) (w1 := (w100.setCell ⟨go78, (t283 : Int).toNat * 7 + 1, none⟩ (.int .i64 a4))) ?hg ?ho ?hn ?hr ?_; (case ho => rfl); (case hg => rfl); (case hn => rfl); (case hr => exact z19_); intro w103 hw; have hg : w100.grownBy w103 (some go78) := (by rw [hw]; exact HP102.2); have hp_ : Kd.R k72 72 w103 w.heap.size (fun _ => True) (.slice (some ⟨go78, 0, none⟩) x276000_60.length co78) y288 := (by rw [hw, Ny288.out]; exact HP102.1); clear HP102; replace HO_13 := Aside0.mk (Kd.R_over' (v := (.slice (some ⟨go78, 0, none⟩) x276000_60.length co78)) z11_ (Kd.R_typed HO_276000.out) (by decide) hg); replace BK270 := Aside0.mk (blk_grown (g := gb270) (o := .cells #[.slice A0_0 l0_0.length c0_0] 28 (0, 0)) z6_ hg (Kd.R_ne HO_276000.out BK270.out (by decide))); replace BK271 := Aside0.mk (blk_grown (g := gb271) (o := .cells #[.slice none 0 0] 28 (0, 0)) z8_ hg (Kd.R_ne HO_276000.out BK271.out (by decide))); replace BK275 := Aside0.mk (blk_grown (g := gb275) (o := .cells #[.slice (some ⟨go78, 0, none⟩) x276000_60.length co78] 28 (0, 0)) z13_ hg (Kd.R_ne HO_276000.out BK275.out (by decide))); replace HO_276000 := Aside0.mk (hp_); replace HB := Aside0.mk ((by rw [hw]; exact below_set (HB.out) GB78.out : Below w.heap.size w w103)); clear hg hw hp_) | ((with_reducible refine gate_dst (N := 74) rfl ?_); (try (refine gate_guard (by rfl) ?_; dsimp only)); refine Kd.R_lit (Kd.int .i64) _ 3 ?hg (N := 74) ?hd (xs := ([] : List Int)) (inner := []) (ok := fun _ => True) (okp := fun _ => True) ?hr ?hp (fun _ hk => hk) trivial (Below.refl _ _) (Nat.le_refl _) (by simp) ?_; (case hd => rfl); (case hg => rfl); (case hr => exact z19_); (case hp => exact z280_); intro v290 w104 ho105 hb hg_ hnew_; clear hg_ hnew_; (first | rw [← Ny289.out] at ho105 | (simp only [Int.reduceToNat] at ho105; rw [← Ny289.out] at ho105)); replace HO_276000 := Aside0.mk (Kd.R_below z18_ hb); have HO291 := Aside0.mk (Kd.R_lower (Kd.R_new' ho105 (Kd.R_lt z11_)) (below_size z1_)); replace HO_13 := Aside0.mk (Kd.R_elder' z11_ (Kd.R_base ho105) hb); replace BK270 := Aside0.mk (blk_below (g := gb270) (o := .cells #[.slice A0_0 l0_0.length c0_0] 28 (0, 0)) z6_ hb); replace BK271 := Aside0.mk (blk_below (g := gb271) (o := .cells #[.slice none 0 0] 28 (0, 0)) z8_ hb); replace BK275 := Aside0.mk (blk_below (g := gb275) (o := .cells #[.slice (some ⟨go78, 0, none⟩) x276000_60.length co78] 28 (0, 0)) z13_ hb); replace HB := Aside0.mk (below_step z1_ hb); clear hb ho105; obtain ⟨Ao107, co107, eo107⟩ := Kd.R_slice HO_13.out; subst eo107; have q106 : ((ji88) : Int) ≤ ((t278.length : Int) : Int) := odt_; obtain ⟨i0106, hi0106, _, hsz106, _⟩ := info_parts info3; have hroom106 : t278.length ≤ co107 := (Kd.R_reads' HO_13.out).2.1; have hC106 : Kd.C (Kd.int .i64) _ Ao107 t278.length t278 := (Kd.R_reads' HO_13.out).2.2; have ql106 : (a2 : Int) ≤ ((ji88) : Int) := odt_; have q0106 : (0 : Int) ≤ (a2 : Int) := odt_; have hcut106 := cut_mid (P := Try.prog) 49 3 .i64 .i64 Try.underlying49 hi0106 1 hsz106 Ao107 t278.length co107 a2 (ji88) q0106 ql106 q106 hroom106; have hr106 := Kd.C_mid (lo := (a2 : Int).toNat) (hi := ((ji88) : Int).toNat) (c := co107) hC106 (by omega) (by omega) hroom106; obtain ⟨A106, hA106⟩ : ∃ A1, A1 = (if co107 = (a2 : Int).toNat then Ao107 else (Ao107 : Option Addr).map (·.add ((a2 : Int).toNat * 1))) := ⟨_, rfl⟩; obtain ⟨c106, hc106⟩ : ∃ c1, c1 = co107 - (a2 : Int).toNat := ⟨_, rfl⟩; have hy106 : y292.length = ((ji88) : Int).toNat - (a2 : Int).toNat := (by rw [Ny292.out, List.length_drop, List.length_take] <;> omega); rw [show ((t278).take ((ji88) : Int).toNat).drop (a2 : Int).toNat = y292 from Ny292.out.symm] at hr106; replace hr106 : Kd.C (Kd.int .i64) _ A106 y292.length y292 := (by rw [hA106]; exact hr106); rw [← hy106, ← hA106, ← hc106] at hcut106; have HR295 := Aside0.mk hr106; have HC295 := Aside0.mk (show y292.length ≤ c106 from by rw [hy106, hc106]; exact Nat.sub_le_sub_right (Nat.le_trans (by omega) hroom106) _); clear hr106 hC106 hroom106 hi0106 hsz106 hc106; have KY106 := Aside0.mk hy106; have KA106 := Aside0.mk hA106; clear hy106 hA106; have KL106 := Aside0.mk (show ((ji88) : Int).toNat ≤ t278.length from by omega); have KM106 := Aside0.mk (show (a2 : Int).toNat ≤ ((ji88) : Int).toNat from by omega); replace q106 := eq_true q106) | ((with_reducible refine gate_builtin (b := .append) (xs := #[.tmp 74, .tmp 80]) rfl ?_); (try (refine gate_guard (by rfl) ?_; dsimp only)); at_builtin; refine Kd.R_append_rows (Kd.int .i64) (w0 := w) w.heap.size rfl (.tmp 74) (.tmp 80) 49 3 (.int .i64 0) 8 rfl Try.underlying49 info3 rfl (by decide) (by omega) v290 y289 y292 _ _ _ (fun k_ => some k_ ≠ (.slice Ao107 t278.length co107 : Value).ownBlock) (fun _ => False) rfl rfl ?aO ?aR (fun _ _ h => h) (fun _ h => h.elim) ?aF ?aB ?aS ?aL ?_; (case aR => exact z126_); (case aB => exact z43_); (case aF => exact z234_); (case aO => exact z257_); (case aS => exact z42_); (case aL => have := LMc83.out; omega); intro v297 w108 ho hb hg hat; rw [← Ny296.out] at ho; replace HO_276000 := Aside0.mk (Kd.R_over' z18_ (Kd.R_typed z286_) (by decide) hg); replace BK270 := Aside0.mk (blk_grown (g := gb270) (o := .cells #[.slice A0_0 l0_0.length c0_0] 28 (0, 0)) z6_ hg (Kd.R_ne HO291.out BK270.out (by decide))); replace BK271 := Aside0.mk (blk_grown (g := gb271) (o := .cells #[.slice none 0 0] 28 (0, 0)) z8_ hg (Kd.R_ne HO291.out BK271.out (by decide))); replace BK275 := Aside0.mk (blk_grown (g := gb275) (o := .cells #[.slice (some ⟨go78, 0, none⟩) x276000_60.length co78] 28 (0, 0)) z13_ hg (Kd.R_ne HO291.out BK275.out (by decide))); replace HB := Aside0.mk (hb); replace HR295 := Aside0.mk ((show Kd.C (Kd.int .i64) w108 A106 y292.length y292 from by rw [Ny292.out, KA106.out]; exact Kd.C_mid (lo := (a2 : Int).toNat) (hi := ((ji88) : Int).toNat) (c := co107) ((Kd.R_reads' (Kd.R_after (ok := (fun _ => True)) z11_ hg hat)).2.2) KM106.out KL106.out ((Kd.R_reads' (Kd.R_after (ok := (fun _ => True)) z11_ hg hat)).2.1))); replace HO_13 := Aside0.mk (Kd.R_after (ok := (fun _ => True)) z11_ hg hat); have HO298 := Aside0.mk (ho); clear HO291; clear ho hb hg hat))
           have n0_ := Aside0.mk (Kd.R_drew HO_13.out)
           have n1_ := Aside0.mk (Kd.R_drew HO_276000.out)
           have n2_ := Aside0.mk (Kd.R_drew HO298.out)
           have n3_ := Aside0.mk (blk_drew BK270.out)
           have n4_ := Aside0.mk (blk_drew BK271.out)
           have n5_ := Aside0.mk (blk_drew BK275.out)
           have n6_ := Aside0.mk (Kd.C_drew HR295.out)
           have n7_ := Aside0.mk (below_drew1 HB.out)
           clear HO_13
           clear HO_276000
           clear HO298
           clear BK270
           clear BK271
           clear BK275
           clear HR295
           clear HB
           have HO_13 := n0_
           have HO_276000 := n1_
           have HO298 := n2_
           have BK270 := n3_
           have BK271 := n4_
           have BK275 := n5_
           have HR295 := n6_
           have HB := n7_
           clear n0_ n1_ n2_ n3_ n4_ n5_ n6_ n7_
           have q110 : (a2 : Int) ≤ ((t278.length : Int) : Int) := odt_
           obtain ⟨i0110, hi0110, _, hsz110, _⟩ := info_parts info3
           have hroom110 : t278.length ≤ co107 := (Kd.R_reads' HO_13.out).2.1
           have hC110 : Kd.C (Kd.int .i64) _ Ao107 t278.length t278 := (Kd.R_reads' HO_13.out).2.2
           have hcut110 := cut_to (P := Try.prog) 49 3 .i64 Try.underlying49 hi0110 Ao107 t278.length co107 a2 (odt_) q110 hroom110
           have hr110 := Kd.C_take (m := (a2 : Int).toNat) hC110 (by omega)
           have hy110 : y302.length = (a2 : Int).toNat := (by rw [Ny302.out, List.length_take]; omega)
           rw [← Ny302.out] at hr110
           rw [← hy110] at hcut110
           have HR305 := Aside0.mk hr110
           have HC305 := Aside0.mk (show y302.length ≤ co107 from by omega)
           clear hr110 hC110 hroom110 hi0110 hsz110
           have KY110 := Aside0.mk hy110
           clear hy110
           have KL110 := Aside0.mk (show (a2 : Int).toNat ≤ t278.length from by omega)
           replace q110 := eq_true q110
           have q119 : ((ji88) : Int) ≤ ((t278.length : Int) : Int) := odt_
           obtain ⟨i0119, hi0119, _, hsz119, _⟩ := info_parts info3
           have hroom119 : t278.length ≤ co107 := (Kd.R_reads' HO_13.out).2.1
           have hC119 : Kd.C (Kd.int .i64) _ Ao107 t278.length t278 := (Kd.R_reads' HO_13.out).2.2
           have q0119 : (0 : Int) ≤ ((ji88) : Int) := odt_
           have hcut119 := cut_from (P := Try.prog) 49 3 .i64 Try.underlying49 hi0119 1 hsz119 Ao107 t278.length co107 (ji88) q0119 q119
           have hr119 := Kd.C_drop (m := ((ji88) : Int).toNat) (c := co107) hC119 (by omega) hroom119
           obtain ⟨A119, hA119⟩ : ∃ A1, A1 = (if co107 = ((ji88) : Int).toNat then Ao107 else (Ao107 : Option Addr).map (·.add (((ji88) : Int).toNat * 1))) := ⟨_, rfl⟩
           obtain ⟨c119, hc119⟩ : ∃ c1, c1 = co107 - ((ji88) : Int).toNat := ⟨_, rfl⟩
           have hy119 : y315.length = t278.length - ((ji88) : Int).toNat := (by rw [Ny315.out, List.length_drop] <;> omega)
           rw [show (t278).drop ((ji88) : Int).toNat = y315 from Ny315.out.symm] at hr119
           replace hr119 : Kd.C (Kd.int .i64) _ A119 y315.length y315 := (by rw [hA119]; exact hr119)
           rw [← hy119, ← hA119, ← hc119] at hcut119
           have HR318 := Aside0.mk hr119
           have HC318 := Aside0.mk (show y315.length ≤ c119 from by rw [hy119, hc119]; exact Nat.sub_le_sub_right hroom119 _)
           clear hr119 hC119 hroom119 hi0119 hsz119 hc119
           have KY119 := Aside0.mk hy119
           have KA119 := Aside0.mk hA119
           clear hy119 hA119
           have KL119 := Aside0.mk (show ((ji88) : Int).toNat ≤ t278.length from by omega)
           replace q119 := eq_true q119
           clear HR318
           refine start_ (n := 15) (S := fun w' => True) (ds := []) (fl_ 15 0) (by kernel_rfl) rfl (fl_zero _) trivial (fun hHeld => ?_); refine with_tabW spec_DomInsert.tab15 spec_DomInsert.bits15 (fun HT_ HW_ => ?_)
           generalize w108.drew = w109 at HO_13 HO_276000 HO298 BK270 BK271 BK275 HR295 HB HR305 hHeld ⊢
           refine zpg_ (i := 1) (ra_ [0, 1, 1, 13]) HT_ rfl rfl (by kernel_rfl) (fun _ _ _ h => h) (by rfl) ?_
           refine zpg_ (i := 2) (ra_ [0, 1, 2, 12]) HT_ rfl rfl (by kernel_rfl) (fun _ _ _ h => h) (by rfl) ?_
           refine zpg_ (i := 3) (ra_ [0, 1, 3, 11]) HT_ rfl rfl (by kernel_rfl) (fun _ _ _ h => h) (by rfl) ?_
           refine zpg_ (i := 5) (ra_ [0, 1, 3, 1, 1, 9]) HT_ rfl rfl (by kernel_rfl) (fun _ _ _ h => h) (by rfl) ?_
           refine zpg_ (i := 8) (ra_ [0, 1, 3, 1, 1, 2, 1, 6]) HT_ rfl rfl (by kernel_rfl) (fun _ _ _ h => h) (by rfl) ?_
           refine zpg_ (i := 9) (ra_ [0, 1, 3, 1, 1, 2, 2, 5]) HT_ rfl rfl (by kernel_rfl) (fun _ _ _ h => h) (by rfl) ?_
           refine zpg_ (i := 10) (ra_ [0, 1, 3, 1, 1, 2, 3, 4]) HT_ rfl rfl (by kernel_rfl) (fun _ _ _ h => h) (by rfl) ?_
           refine zpg_ (i := 11) (ra_ [0, 1, 3, 1, 1, 2, 4, 3]) HT_ rfl rfl (by kernel_rfl) (fun _ _ _ h => h) (by rfl) ?_
           refine zpg_ (i := 12) (ra_ [0, 1, 3, 1, 1, 2, 5, 2]) HT_ rfl rfl (by kernel_rfl) (fun _ _ _ h => h) (by rfl) ?_
           refine join_ (σ := Value × Value × Value) 3 #[true, true, true, true, true, true, true, false, true, true, true, true, true, false, false] (fun s_ => [(82, s_.1), (86, s_.2.1), (88, s_.2.2)]) (fun s_ w' => (Kd.R (Kd.int .i64) 3 w' w.heap.size (fun k_ => some k_ ≠ (s_.2.1 : Value).ownBlock ∧ some k_ ≠ (s_.2.2 : Value).ownBlock ∧ some k_ ≠ (.slice Ao107 t278.length co107 : Value).ownBlock) v297 y296) ∧ (Kd.R (Kd.int .i64) 3 w' w.heap.size (fun k_ => some k_ ≠ (v297 : Value).ownBlock ∧ some k_ ≠ (s_.2.2 : Value).ownBlock ∧ some k_ ≠ (.slice Ao107 t278.length co107 : Value).ownBlock) s_.2.1 y306) ∧ (Kd.R (Kd.int .i64) 3 w' w.heap.size (fun k_ => some k_ ≠ (v297 : Value).ownBlock ∧ some k_ ≠ (s_.2.1 : Value).ownBlock ∧ some k_ ≠ (.slice Ao107 t278.length co107 : Value).ownBlock) s_.2.2 y309) ∧ (Kd.R (Kd.int .i64) 3 w' w.heap.size (fun k_ => some k_ ≠ (v297 : Value).ownBlock ∧ some k_ ≠ (s_.2.1 : Value).ownBlock ∧ some k_ ≠ (s_.2.2 : Value).ownBlock) (.slice Ao107 t278.length co107) t278) ∧ (Kd.R k72 72 w' w.heap.size (fun _ => True) (.slice (some ⟨go78, 0, none⟩) x276000_60.length co78) y288) ∧ (w'.heap[gb270]? = some (.cells #[.slice A0_0 l0_0.length c0_0] 28 (0, 0))) ∧ (w'.heap[gb271]? = some (.cells #[.slice none 0 0] 28 (0, 0))) ∧ (w'.heap[gb275]? = some (.cells #[.slice (some ⟨go78, 0, none⟩) x276000_60.length co78] 28 (0, 0))) ∧ (Below w.heap.size w w')) ?_ ?_
           rotate_left
           ·intro hCont
            refine two_ (i := 0) (j := 6) (Ni := some 82) (Nj := some 88) #[true, true, true, true, false, true, false, false, true, true, true, true, true, false, false] #[false, true, true, true, false, true, true, false, true, true, true, true, true, false, false] rfl rfl rfl rfl (two_of HT_.out (by kernel_rfl)) (by decide) (by decide) (fun K hK => ?_) (fun K hK => ?_)
            ·skip
             refine Kd.R_lit_step (Kd.int .i64) _ 3 ?hg (N := 82) ?hd (xs := ([] : List Int)) (inner := []) (ok := fun _ => True) (okp := fun _ => True) ?hr ?hp (fun _ hk => hk) trivial (Below.refl _ _) (Nat.le_refl _) (by simp) ?_; (case hd => rfl); (case hg => rfl); (case hr => exact z19_); (case hp => exact z280_)
             intro v300 w111 ho112 hb hg_ hnew_
             clear hg_ hnew_
             (first | rw [← Ny299.out] at ho112 | (simp only [Int.reduceToNat] at ho112; rw [← Ny299.out] at ho112))
             have n0_ := Aside0.mk (Kd.R_elder' z11_ (Kd.R_base ho112) hb)
             have n1_ := Aside0.mk (Kd.R_below z18_ hb)
             have n2_ := Aside0.mk (Kd.R_elder' z27_ (Kd.R_base ho112) hb)
             have n3_ := Aside0.mk (Kd.R_lower (Kd.R_new' (Kd.R_new' ho112 (Kd.R_lt z11_)) (Kd.R_lt z27_)) (below_size z1_))
             have n4_ := Aside0.mk (blk_below (g := gb270) (o := .cells #[.slice A0_0 l0_0.length c0_0] 28 (0, 0)) z6_ hb)
             have n5_ := Aside0.mk (blk_below (g := gb271) (o := .cells #[.slice none 0 0] 28 (0, 0)) z8_ hb)
             have n6_ := Aside0.mk (blk_below (g := gb275) (o := .cells #[.slice (some ⟨go78, 0, none⟩) x276000_60.length co78] 28 (0, 0)) z13_ hb)
             have n7_ := Aside0.mk (Kd.C_below z51_ hb)
             have n8_ := Aside0.mk (Kd.C_below z41_ hb)
             have n9_ := Aside0.mk (below_step z1_ hb)
             clear HO_13
             clear HO_276000
             clear HO298
             clear BK270
             clear BK271
             clear BK275
             clear HR295
             clear HR305
             clear HB
             have HO_13 := n0_
             have HO_276000 := n1_
             have HO298 := n2_
             have HO301 := n3_
             have BK270 := n4_
             have BK271 := n5_
             have BK275 := n6_
             have HR295 := n7_
             have HR305 := n8_
             have HB := n9_
             clear n0_ n1_ n2_ n3_ n4_ n5_ n6_ n7_ n8_ n9_
             clear hb ho112
             refine hK.out _ _ trivial (fun hHeld => ?_)
             clear hK K
             refine zn_ rfl ?_
             refine two_ (i := 4) (j := 6) (Ni := some 86) (Nj := some 88) #[true, true, true, true, true, true, false, false, true, true, true, true, true, false, false] #[true, true, true, true, false, true, true, false, true, true, true, true, true, false, false] rfl rfl rfl rfl (two_of HT_.out (by kernel_rfl)) (by decide) (by decide) (fun K hK => ?_) (fun K hK => ?_)
             ·skip
              refine Kd.R_append_rows_step (Kd.int .i64) (w0 := w) w.heap.size (by rfl) (.tmp 82) (.tmp 85) 49 3 (.int .i64 0) 8 rfl Try.underlying49 info3 rfl (by decide) (by omega) v300 y299 y302 _ _ _ (fun k_ => some k_ ≠ (.slice Ao107 t278.length co107 : Value).ownBlock ∧ some k_ ≠ (v297 : Value).ownBlock) (fun _ => False) rfl rfl ?aO ?aR (fun _ _ h => h) (fun _ h => h.elim) ?aF ?aB ?aS ?aL ?_
              (case aR => exact z59_)
              (case aB => exact z43_)
              (case aF => exact z139_)
              (case aO => exact z241_)
              (case aS => exact z42_)
              (case aL => exact z307_)
              intro v307 w113 ho hb hg hat
              rw [← Ny306.out] at ho
              have n0_ := Aside0.mk (Kd.R_after (ok := (fun k_ => some k_ ≠ (v297 : Value).ownBlock)) z86_ hg hat)
              have n1_ := Aside0.mk (Kd.R_over' z18_ (Kd.R_typed z93_) (by decide) hg)
              have n2_ := Aside0.mk (blk_grown (g := gb270) (o := .cells #[.slice A0_0 l0_0.length c0_0] 28 (0, 0)) z6_ hg (Kd.R_ne HO301.out BK270.out (by decide)))
              have n3_ := Aside0.mk (blk_grown (g := gb271) (o := .cells #[.slice none 0 0] 28 (0, 0)) z8_ hg (Kd.R_ne HO301.out BK271.out (by decide)))
              have n4_ := Aside0.mk (blk_grown (g := gb275) (o := .cells #[.slice (some ⟨go78, 0, none⟩) x276000_60.length co78] 28 (0, 0)) z13_ hg (Kd.R_ne HO301.out BK275.out (by decide)))
              have n5_ := Aside0.mk (Kd.R_after (ok := (fun k_ => some k_ ≠ (.slice Ao107 t278.length co107 : Value).ownBlock)) z27_ hg hat)
              have n6_ := Aside0.mk (hb)
              have n7_ := Aside0.mk ((show Kd.C (Kd.int .i64) w113 A106 y292.length y292 from by rw [Ny292.out, KA106.out]; exact Kd.C_mid (lo := (a2 : Int).toNat) (hi := ((ji88) : Int).toNat) (c := co107) ((Kd.R_reads' (Kd.R_after (ok := (fun k_ => some k_ ≠ (v297 : Value).ownBlock)) z86_ hg hat)).2.2) KM106.out KL106.out ((Kd.R_reads' (Kd.R_after (ok := (fun k_ => some k_ ≠ (v297 : Value).ownBlock)) z86_ hg hat)).2.1)))
              have n8_ := Aside0.mk ((show Kd.C (Kd.int .i64) w113 Ao107 y302.length y302 from by rw [Ny302.out]; exact Kd.C_take (m := (a2 : Int).toNat) ((Kd.R_reads' (Kd.R_after (ok := (fun k_ => some k_ ≠ (v297 : Value).ownBlock)) z86_ hg hat)).2.2) KL110.out))
              have n9_ := Aside0.mk (ho)
              clear HO_13
              clear HO_276000
              clear BK270
              clear BK271
              clear BK275
              clear HO298
              clear HB
              clear HR295
              clear HR305
              clear HO301
              have HO_13 := n0_
              have HO_276000 := n1_
              have BK270 := n2_
              have BK271 := n3_
              have BK275 := n4_
              have HO298 := n5_
              have HB := n6_
              have HR295 := n7_
              have HR305 := n8_
              have HO308 := n9_
              clear n0_ n1_ n2_ n3_ n4_ n5_ n6_ n7_ n8_ n9_
              clear ho hb hg hat
              refine hK.out _ _ trivial (fun hHeld => ?_)
              clear hK K
              refine zn_ rfl ?_
              refine one_ (i := 6) (N := some 88) (ra_ [7, 1, 5, 2]) rfl rfl (one_of HT_.out (by kernel_rfl)) (by decide) (fun K hK => ?_)
              refine Kd.R_lit_step (Kd.int .i64) _ 3 ?hg (N := 88) ?hd (xs := ([t283] : List Int)) (inner := [.int .i64 t283]) (ok := fun _ => True) (okp := fun _ => True) ?hr ?hp (fun _ hk => hk) trivial (Below.refl _ _) (Nat.le_refl _) (by simp) ?_; (case hd => rfl); (case hg => rfl); (case hr => exact z19_); (case hp => exact z144_)
              intro v310 w114 ho115 hb hg_ hnew_
              clear hg_ hnew_
              (first | rw [← Ny309.out] at ho115 | (simp only [Int.reduceToNat] at ho115; rw [← Ny309.out] at ho115))
              have n0_ := Aside0.mk (Kd.R_elder' z11_ (Kd.R_base ho115) hb)
              have n1_ := Aside0.mk (Kd.R_below z18_ hb)
              have n2_ := Aside0.mk (Kd.R_elder' z27_ (Kd.R_base ho115) hb)
              have n3_ := Aside0.mk (Kd.R_elder' z131_ (Kd.R_base ho115) hb)
              have n4_ := Aside0.mk (Kd.R_lower (Kd.R_new' (Kd.R_new' (Kd.R_new' ho115 (Kd.R_lt z11_)) (Kd.R_lt z27_)) (Kd.R_lt z131_)) (below_size z1_))
              have n5_ := Aside0.mk (blk_below (g := gb270) (o := .cells #[.slice A0_0 l0_0.length c0_0] 28 (0, 0)) z6_ hb)
              have n6_ := Aside0.mk (blk_below (g := gb271) (o := .cells #[.slice none 0 0] 28 (0, 0)) z8_ hb)
              have n7_ := Aside0.mk (blk_below (g := gb275) (o := .cells #[.slice (some ⟨go78, 0, none⟩) x276000_60.length co78] 28 (0, 0)) z13_ hb)
              have n8_ := Aside0.mk (Kd.C_below z51_ hb)
              have n9_ := Aside0.mk (Kd.C_below z41_ hb)
              have n10_ := Aside0.mk (below_step z1_ hb)
              clear HO_13
              clear HO_276000
              clear HO298
              clear HO308
              clear BK270
              clear BK271
              clear BK275
              clear HR295
              clear HR305
              clear HB
              have HO_13 := n0_
              have HO_276000 := n1_
              have HO298 := n2_
              have HO308 := n3_
              have HO311 := n4_
              have BK270 := n5_
              have BK271 := n6_
              have BK275 := n7_
              have HR295 := n8_
              have HR305 := n9_
              have HB := n10_
              clear n0_ n1_ n2_ n3_ n4_ n5_ n6_ n7_ n8_ n9_ n10_
              clear hb ho115
              refine hK.out _ _ trivial (fun hHeld => ?_)
              clear hK K
              refine zn_ rfl ?_
              exact norm_ z106_ (hCont (v300, v307, v310) _ ⟨z243_, z244_, z240_, z245_, z18_, z6_, z8_, z13_, z1_⟩)
             ·skip
              refine Kd.R_lit_step (Kd.int .i64) _ 3 ?hg (N := 88) ?hd (xs := ([t283] : List Int)) (inner := [.int .i64 t283]) (ok := fun _ => True) (okp := fun _ => True) ?hr ?hp (fun _ hk => hk) trivial (Below.refl _ _) (Nat.le_refl _) (by simp) ?_; (case hd => rfl); (case hg => rfl); (case hr => exact z19_); (case hp => exact z144_)
              intro v310 w113 ho114 hb hg_ hnew_
              clear hg_ hnew_
              (first | rw [← Ny309.out] at ho114 | (simp only [Int.reduceToNat] at ho114; rw [← Ny309.out] at ho114))
              have n0_ := Aside0.mk (Kd.R_elder' z11_ (Kd.R_base ho114) hb)
              have n1_ := Aside0.mk (Kd.R_below z18_ hb)
              have n2_ := Aside0.mk (Kd.R_elder' z27_ (Kd.R_base ho114) hb)
              have n3_ := Aside0.mk (Kd.R_elder' z93_ (Kd.R_base ho114) hb)
              have n4_ := Aside0.mk (Kd.R_lower (Kd.R_new' (Kd.R_new' (Kd.R_new' ho114 (Kd.R_lt z11_)) (Kd.R_lt z27_)) (Kd.R_lt z93_)) (below_size z1_))
              have n5_ := Aside0.mk (blk_below (g := gb270) (o := .cells #[.slice A0_0 l0_0.length c0_0] 28 (0, 0)) z6_ hb)
              have n6_ := Aside0.mk (blk_below (g := gb271) (o := .cells #[.slice none 0 0] 28 (0, 0)) z8_ hb)
              have n7_ := Aside0.mk (blk_below (g := gb275) (o := .cells #[.slice (some ⟨go78, 0, none⟩) x276000_60.length co78] 28 (0, 0)) z13_ hb)
              have n8_ := Aside0.mk (Kd.C_below z51_ hb)
              have n9_ := Aside0.mk (Kd.C_below z41_ hb)
              have n10_ := Aside0.mk (below_step z1_ hb)
              clear HO_13
              clear HO_276000
              clear HO298
              clear HO301
              clear BK270
              clear BK271
              clear BK275
              clear HR295
              clear HR305
              clear HB
              have HO_13 := n0_
              have HO_276000 := n1_
              have HO298 := n2_
              have HO301 := n3_
              have HO311 := n4_
              have BK270 := n5_
              have BK271 := n6_
              have BK275 := n7_
              have HR295 := n8_
              have HR305 := n9_
              have HB := n10_
              clear n0_ n1_ n2_ n3_ n4_ n5_ n6_ n7_ n8_ n9_ n10_
              clear hb ho114
              refine hK.out _ _ trivial (fun hHeld => ?_)
              clear hK K
              refine zn_ rfl ?_
              refine one_ (i := 4) (N := some 86) (ra_ [7, 1, 5, 2]) rfl rfl (one_of HT_.out (by kernel_rfl)) (by decide) (fun K hK => ?_)
              refine Kd.R_append_rows_step (Kd.int .i64) (w0 := w) w.heap.size (by rfl) (.tmp 82) (.tmp 85) 49 3 (.int .i64 0) 8 rfl Try.underlying49 info3 rfl (by decide) (by omega) v300 y299 y302 _ _ _ (fun k_ => some k_ ≠ (.slice Ao107 t278.length co107 : Value).ownBlock ∧ some k_ ≠ (v297 : Value).ownBlock ∧ some k_ ≠ (v310 : Value).ownBlock) (fun _ => False) rfl rfl ?aO ?aR (fun _ _ h => h) (fun _ h => h.elim) ?aF ?aB ?aS ?aL ?_
              (case aR => exact z59_)
              (case aB => exact z43_)
              (case aF => exact z34_)
              (case aO => exact z128_)
              (case aS => exact z42_)
              (case aL => exact z307_)
              intro v307 w115 ho hb hg hat
              rw [← Ny306.out] at ho
              have n0_ := Aside0.mk (Kd.R_after (ok := (fun k_ => some k_ ≠ (v297 : Value).ownBlock ∧ some k_ ≠ (v310 : Value).ownBlock)) z80_ hg hat)
              have n1_ := Aside0.mk (Kd.R_over' z18_ (Kd.R_typed z93_) (by decide) hg)
              have n2_ := Aside0.mk (blk_grown (g := gb270) (o := .cells #[.slice A0_0 l0_0.length c0_0] 28 (0, 0)) z6_ hg (Kd.R_ne HO301.out BK270.out (by decide)))
              have n3_ := Aside0.mk (blk_grown (g := gb271) (o := .cells #[.slice none 0 0] 28 (0, 0)) z8_ hg (Kd.R_ne HO301.out BK271.out (by decide)))
              have n4_ := Aside0.mk (blk_grown (g := gb275) (o := .cells #[.slice (some ⟨go78, 0, none⟩) x276000_60.length co78] 28 (0, 0)) z13_ hg (Kd.R_ne HO301.out BK275.out (by decide)))
              have n5_ := Aside0.mk (Kd.R_after (ok := (fun k_ => some k_ ≠ (.slice Ao107 t278.length co107 : Value).ownBlock ∧ some k_ ≠ (v310 : Value).ownBlock)) z246_ hg hat)
              have n6_ := Aside0.mk (Kd.R_after (ok := (fun k_ => some k_ ≠ (.slice Ao107 t278.length co107 : Value).ownBlock ∧ some k_ ≠ (v297 : Value).ownBlock)) z133_ hg hat)
              have n7_ := Aside0.mk (hb)
              have n8_ := Aside0.mk ((show Kd.C (Kd.int .i64) w115 A106 y292.length y292 from by rw [Ny292.out, KA106.out]; exact Kd.C_mid (lo := (a2 : Int).toNat) (hi := ((ji88) : Int).toNat) (c := co107) ((Kd.R_reads' (Kd.R_after (ok := (fun k_ => some k_ ≠ (v297 : Value).ownBlock ∧ some k_ ≠ (v310 : Value).ownBlock)) z80_ hg hat)).2.2) KM106.out KL106.out ((Kd.R_reads' (Kd.R_after (ok := (fun k_ => some k_ ≠ (v297 : Value).ownBlock ∧ some k_ ≠ (v310 : Value).ownBlock)) z80_ hg hat)).2.1)))
              have n9_ := Aside0.mk ((show Kd.C (Kd.int .i64) w115 Ao107 y302.length y302 from by rw [Ny302.out]; exact Kd.C_take (m := (a2 : Int).toNat) ((Kd.R_reads' (Kd.R_after (ok := (fun k_ => some k_ ≠ (v297 : Value).ownBlock ∧ some k_ ≠ (v310 : Value).ownBlock)) z80_ hg hat)).2.2) KL110.out))
              have n10_ := Aside0.mk (ho)
              clear HO_13
              clear HO_276000
              clear BK270
              clear BK271
              clear BK275
              clear HO298
              clear HO311
              clear HB
              clear HR295
              clear HR305
              clear HO301
              have HO_13 := n0_
              have HO_276000 := n1_
              have BK270 := n2_
              have BK271 := n3_
              have BK275 := n4_
              have HO298 := n5_
              have HO311 := n6_
              have HB := n7_
              have HR295 := n8_
              have HR305 := n9_
              have HO308 := n10_
              clear n0_ n1_ n2_ n3_ n4_ n5_ n6_ n7_ n8_ n9_ n10_
              clear ho hb hg hat
              refine hK.out _ _ trivial (fun hHeld => ?_)
              clear hK K
              refine zn_ rfl ?_
              exact norm_ z106_ (hCont (v300, v307, v310) _ ⟨z134_, z135_, z136_, z137_, z18_, z6_, z8_, z13_, z1_⟩)
            ·skip
             refine Kd.R_lit_step (Kd.int .i64) _ 3 ?hg (N := 88) ?hd (xs := ([t283] : List Int)) (inner := [.int .i64 t283]) (ok := fun _ => True) (okp := fun _ => True) ?hr ?hp (fun _ hk => hk) trivial (Below.refl _ _) (Nat.le_refl _) (by simp) ?_; (case hd => rfl); (case hg => rfl); (case hr => exact z19_); (case hp => exact z144_)
             intro v310 w111 ho112 hb hg_ hnew_
             clear hg_ hnew_
             (first | rw [← Ny309.out] at ho112 | (simp only [Int.reduceToNat] at ho112; rw [← Ny309.out] at ho112))
             have n0_ := Aside0.mk (Kd.R_elder' z11_ (Kd.R_base ho112) hb)
             have n1_ := Aside0.mk (Kd.R_below z18_ hb)
             have n2_ := Aside0.mk (Kd.R_elder' z27_ (Kd.R_base ho112) hb)
             have n3_ := Aside0.mk (Kd.R_lower (Kd.R_new' (Kd.R_new' ho112 (Kd.R_lt z11_)) (Kd.R_lt z27_)) (below_size z1_))
             have n4_ := Aside0.mk (blk_below (g := gb270) (o := .cells #[.slice A0_0 l0_0.length c0_0] 28 (0, 0)) z6_ hb)
             have n5_ := Aside0.mk (blk_below (g := gb271) (o := .cells #[.slice none 0 0] 28 (0, 0)) z8_ hb)
             have n6_ := Aside0.mk (blk_below (g := gb275) (o := .cells #[.slice (some ⟨go78, 0, none⟩) x276000_60.length co78] 28 (0, 0)) z13_ hb)
             have n7_ := Aside0.mk (Kd.C_below z51_ hb)
             have n8_ := Aside0.mk (Kd.C_below z41_ hb)
             have n9_ := Aside0.mk (below_step z1_ hb)
             clear HO_13
             clear HO_276000
             clear HO298
             clear BK270
             clear BK271
             clear BK275
             clear HR295
             clear HR305
             clear HB
             have HO_13 := n0_
             have HO_276000 := n1_
             have HO298 := n2_
             have HO311 := n3_
             have BK270 := n4_
             have BK271 := n5_
             have BK275 := n6_
             have HR295 := n7_
             have HR305 := n8_
             have HB := n9_
             clear n0_ n1_ n2_ n3_ n4_ n5_ n6_ n7_ n8_ n9_
             clear hb ho112
             refine hK.out _ _ trivial (fun hHeld => ?_)
             clear hK K
             refine zn_ rfl ?_
             refine one_ (i := 0) (N := some 82) (ra_ [4, 1, 2, 1, 5, 2]) rfl rfl (one_of HT_.out (by kernel_rfl)) (by decide) (fun K hK => ?_)
             refine Kd.R_lit_step (Kd.int .i64) _ 3 ?hg (N := 82) ?hd (xs := ([] : List Int)) (inner := []) (ok := fun _ => True) (okp := fun _ => True) ?hr ?hp (fun _ hk => hk) trivial (Below.refl _ _) (Nat.le_refl _) (by simp) ?_; (case hd => rfl); (case hg => rfl); (case hr => exact z19_); (case hp => exact z280_)
             intro v300 w113 ho114 hb hg_ hnew_
             clear hg_ hnew_
             (first | rw [← Ny299.out] at ho114 | (simp only [Int.reduceToNat] at ho114; rw [← Ny299.out] at ho114))
             have n0_ := Aside0.mk (Kd.R_elder' z11_ (Kd.R_base ho114) hb)
             have n1_ := Aside0.mk (Kd.R_below z18_ hb)
             have n2_ := Aside0.mk (Kd.R_elder' z27_ (Kd.R_base ho114) hb)
             have n3_ := Aside0.mk (Kd.R_elder' z61_ (Kd.R_base ho114) hb)
             have n4_ := Aside0.mk (Kd.R_lower (Kd.R_new' (Kd.R_new' (Kd.R_new' ho114 (Kd.R_lt z11_)) (Kd.R_lt z27_)) (Kd.R_lt z61_)) (below_size z1_))
             have n5_ := Aside0.mk (blk_below (g := gb270) (o := .cells #[.slice A0_0 l0_0.length c0_0] 28 (0, 0)) z6_ hb)
             have n6_ := Aside0.mk (blk_below (g := gb271) (o := .cells #[.slice none 0 0] 28 (0, 0)) z8_ hb)
             have n7_ := Aside0.mk (blk_below (g := gb275) (o := .cells #[.slice (some ⟨go78, 0, none⟩) x276000_60.length co78] 28 (0, 0)) z13_ hb)
             have n8_ := Aside0.mk (Kd.C_below z51_ hb)
             have n9_ := Aside0.mk (Kd.C_below z41_ hb)
             have n10_ := Aside0.mk (below_step z1_ hb)
             clear HO_13
             clear HO_276000
             clear HO298
             clear HO311
             clear BK270
             clear BK271
             clear BK275
             clear HR295
             clear HR305
             clear HB
             have HO_13 := n0_
             have HO_276000 := n1_
             have HO298 := n2_
             have HO311 := n3_
             have HO301 := n4_
             have BK270 := n5_
             have BK271 := n6_
             have BK275 := n7_
             have HR295 := n8_
             have HR305 := n9_
             have HB := n10_
             clear n0_ n1_ n2_ n3_ n4_ n5_ n6_ n7_ n8_ n9_ n10_
             clear hb ho114
             refine hK.out _ _ trivial (fun hHeld => ?_)
             clear hK K
             refine zn_ rfl ?_
             refine one_ (i := 4) (N := some 86) (ra_ [7, 1, 5, 2]) rfl rfl (one_of HT_.out (by kernel_rfl)) (by decide) (fun K hK => ?_)
             refine Kd.R_append_rows_step (Kd.int .i64) (w0 := w) w.heap.size (by rfl) (.tmp 82) (.tmp 85) 49 3 (.int .i64 0) 8 rfl Try.underlying49 info3 rfl (by decide) (by omega) v300 y299 y302 _ _ _ (fun k_ => some k_ ≠ (.slice Ao107 t278.length co107 : Value).ownBlock ∧ some k_ ≠ (v297 : Value).ownBlock ∧ some k_ ≠ (v310 : Value).ownBlock) (fun _ => False) rfl rfl ?aO ?aR (fun _ _ h => h) (fun _ h => h.elim) ?aF ?aB ?aS ?aL ?_
             (case aR => exact z59_)
             (case aB => exact z43_)
             (case aF => exact z34_)
             (case aO => exact z128_)
             (case aS => exact z42_)
             (case aL => exact z307_)
             intro v307 w115 ho hb hg hat
             rw [← Ny306.out] at ho
             have n0_ := Aside0.mk (Kd.R_after (ok := (fun k_ => some k_ ≠ (v297 : Value).ownBlock ∧ some k_ ≠ (v310 : Value).ownBlock)) z81_ hg hat)
             have n1_ := Aside0.mk (Kd.R_over' z18_ (Kd.R_typed z93_) (by decide) hg)
             have n2_ := Aside0.mk (blk_grown (g := gb270) (o := .cells #[.slice A0_0 l0_0.length c0_0] 28 (0, 0)) z6_ hg (Kd.R_ne HO301.out BK270.out (by decide)))
             have n3_ := Aside0.mk (blk_grown (g := gb271) (o := .cells #[.slice none 0 0] 28 (0, 0)) z8_ hg (Kd.R_ne HO301.out BK271.out (by decide)))
             have n4_ := Aside0.mk (blk_grown (g := gb275) (o := .cells #[.slice (some ⟨go78, 0, none⟩) x276000_60.length co78] 28 (0, 0)) z13_ hg (Kd.R_ne HO301.out BK275.out (by decide)))
             have n5_ := Aside0.mk (Kd.R_after (ok := (fun k_ => some k_ ≠ (.slice Ao107 t278.length co107 : Value).ownBlock ∧ some k_ ≠ (v310 : Value).ownBlock)) z27_ hg hat)
             have n6_ := Aside0.mk (Kd.R_after (ok := (fun k_ => some k_ ≠ (.slice Ao107 t278.length co107 : Value).ownBlock ∧ some k_ ≠ (v297 : Value).ownBlock)) z133_ hg hat)
             have n7_ := Aside0.mk (hb)
             have n8_ := Aside0.mk ((show Kd.C (Kd.int .i64) w115 A106 y292.length y292 from by rw [Ny292.out, KA106.out]; exact Kd.C_mid (lo := (a2 : Int).toNat) (hi := ((ji88) : Int).toNat) (c := co107) ((Kd.R_reads' (Kd.R_after (ok := (fun k_ => some k_ ≠ (v297 : Value).ownBlock ∧ some k_ ≠ (v310 : Value).ownBlock)) z81_ hg hat)).2.2) KM106.out KL106.out ((Kd.R_reads' (Kd.R_after (ok := (fun k_ => some k_ ≠ (v297 : Value).ownBlock ∧ some k_ ≠ (v310 : Value).ownBlock)) z81_ hg hat)).2.1)))
             have n9_ := Aside0.mk ((show Kd.C (Kd.int .i64) w115 Ao107 y302.length y302 from by rw [Ny302.out]; exact Kd.C_take (m := (a2 : Int).toNat) ((Kd.R_reads' (Kd.R_after (ok := (fun k_ => some k_ ≠ (v297 : Value).ownBlock ∧ some k_ ≠ (v310 : Value).ownBlock)) z81_ hg hat)).2.2) KL110.out))
             have n10_ := Aside0.mk (ho)
             clear HO_13
             clear HO_276000
             clear BK270
             clear BK271
             clear BK275
             clear HO298
             clear HO311
             clear HB
             clear HR295
             clear HR305
             clear HO301
             have HO_13 := n0_
             have HO_276000 := n1_
             have BK270 := n2_
             have BK271 := n3_
             have BK275 := n4_
             have HO298 := n5_
             have HO311 := n6_
             have HB := n7_
             have HR295 := n8_
             have HR305 := n9_
             have HO308 := n10_
             clear n0_ n1_ n2_ n3_ n4_ n5_ n6_ n7_ n8_ n9_ n10_
             clear ho hb hg hat
             refine hK.out _ _ trivial (fun hHeld => ?_)
             clear hK K
             refine zn_ rfl ?_
             exact norm_ z106_ (hCont (v300, v307, v310) _ ⟨z134_, z135_, z136_, z137_, z18_, z6_, z8_, z13_, z1_⟩)
           rintro ⟨v300, v307, v310⟩ w116 ⟨h0_, h1_, h2_, h3_, h4_, h5_, h6_, h7_, h8_⟩
           have n0_ : Aside0 (Kd.R (Kd.int .i64) 3 w116 w.heap.size (fun k_ => some k_ ≠ (v307 : Value).ownBlock ∧ some k_ ≠ (v310 : Value).ownBlock ∧ some k_ ≠ (.slice Ao107 t278.length co107 : Value).ownBlock) v297 y296) := ⟨h0_⟩
           have n1_ : Aside0 (Kd.R (Kd.int .i64) 3 w116 w.heap.size (fun k_ => some k_ ≠ (v297 : Value).ownBlock ∧ some k_ ≠ (v310 : Value).ownBlock ∧ some k_ ≠ (.slice Ao107 t278.length co107 : Value).ownBlock) v307 y306) := ⟨h1_⟩
           have n2_ : Aside0 (Kd.R (Kd.int .i64) 3 w116 w.heap.size (fun k_ => some k_ ≠ (v297 : Value).ownBlock ∧ some k_ ≠ (v307 : Value).ownBlock ∧ some k_ ≠ (.slice Ao107 t278.length co107 : Value).ownBlock) v310 y309) := ⟨h2_⟩
           have n3_ : Aside0 (Kd.R (Kd.int .i64) 3 w116 w.heap.size (fun k_ => some k_ ≠ (v297 : Value).ownBlock ∧ some k_ ≠ (v307 : Value).ownBlock ∧ some k_ ≠ (v310 : Value).ownBlock) (.slice Ao107 t278.length co107) t278) := ⟨h3_⟩
           have n4_ : Aside0 (Kd.R k72 72 w116 w.heap.size (fun _ => True) (.slice (some ⟨go78, 0, none⟩) x276000_60.length co78) y288) := ⟨h4_⟩
           have n5_ : Aside0 (w116.heap[gb270]? = some (.cells #[.slice A0_0 l0_0.length c0_0] 28 (0, 0))) := ⟨h5_⟩
           have n6_ : Aside0 (w116.heap[gb271]? = some (.cells #[.slice none 0 0] 28 (0, 0))) := ⟨h6_⟩
           have n7_ : Aside0 (w116.heap[gb275]? = some (.cells #[.slice (some ⟨go78, 0, none⟩) x276000_60.length co78] 28 (0, 0))) := ⟨h7_⟩
           have n8_ : Aside0 (Below w.heap.size w w116) := ⟨h8_⟩
           clear HO_13
           clear HO_276000
           clear HO298
           clear BK270
           clear BK271
           clear BK275
           clear HR295
           clear HB
           clear h0_ h1_ h2_ h3_ h4_ h5_ h6_ h7_ h8_
           have HO298 := n0_
           have HO308 := n1_
           have HO311 := n2_
           have HO_13 := n3_
           have HO_276000 := n4_
           have BK270 := n5_
           have BK271 := n6_
           have BK275 := n7_
           have HB := n8_
           clear n0_ n1_ n2_ n3_ n4_ n5_ n6_ n7_ n8_
           have hHeld := trivial
           obtain ⟨Ao118, co118, eo118⟩ := Kd.R_slice HO311.out
           (first | subst eo118 | (injection eo118 with f1_ f2_ f3_; have f4_ := f1_.symm; have f5_ := f3_.symm; clear f1_ f2_ f3_; subst f4_; subst f5_))
           refine norm_ (a' := ?_) ?_ ?_
           rotate_left
           ·simp only [putAll, Act.put, List.setIfInBounds_toArray, List.set_cons_zero, List.set_cons_succ]
            rfl
           refine one_ (i := 7) (N := some 89) (fl_ 15 13) rfl rfl (one_of HT_.out (by kernel_rfl)) (by decide) (fun K hK => ?_)
           refine Kd.R_append_rows_step (Kd.int .i64) (w0 := w) w.heap.size (by rfl) (.tmp 86) (.tmp 88) 49 3 (.int .i64 0) 8 rfl Try.underlying49 info3 rfl (by decide) (by omega) v307 y306 y309 _ _ _ (fun k_ => some k_ ≠ (.slice Ao107 t278.length co107 : Value).ownBlock ∧ some k_ ≠ (v297 : Value).ownBlock ∧ some k_ ≠ (.slice Ao118 y309.length co118 : Value).ownBlock) (fun _ => False) rfl rfl ?aO ?aR (fun _ _ h => h) (fun _ h => h.elim) ?aF ?aB ?aS ?aL ?_
           (case aR => exact z213_)
           (case aB => exact z43_)
           (case aF => exact z34_)
           (case aO => exact z229_)
           (case aS => exact z42_)
           (case aL => have := LMc87.out; omega)
           intro v313 w117 ho hb hg hat
           rw [← Ny312.out] at ho
           have n0_ := Aside0.mk (Kd.R_after (ok := (fun k_ => some k_ ≠ (v297 : Value).ownBlock ∧ some k_ ≠ (.slice Ao118 y309.length co118 : Value).ownBlock)) z248_ hg hat)
           have n1_ := Aside0.mk (Kd.R_over' z18_ (Kd.R_typed z131_) (by decide) hg)
           have n2_ := Aside0.mk (blk_grown (g := gb270) (o := .cells #[.slice A0_0 l0_0.length c0_0] 28 (0, 0)) z6_ hg (Kd.R_ne HO308.out BK270.out (by decide)))
           have n3_ := Aside0.mk (blk_grown (g := gb271) (o := .cells #[.slice none 0 0] 28 (0, 0)) z8_ hg (Kd.R_ne HO308.out BK271.out (by decide)))
           have n4_ := Aside0.mk (blk_grown (g := gb275) (o := .cells #[.slice (some ⟨go78, 0, none⟩) x276000_60.length co78] 28 (0, 0)) z13_ hg (Kd.R_ne HO308.out BK275.out (by decide)))
           have n5_ := Aside0.mk (Kd.R_after (ok := (fun k_ => some k_ ≠ (.slice Ao107 t278.length co107 : Value).ownBlock ∧ some k_ ≠ (.slice Ao118 y309.length co118 : Value).ownBlock)) z249_ hg hat)
           have n6_ := Aside0.mk (Kd.R_after (ok := (fun k_ => some k_ ≠ (.slice Ao107 t278.length co107 : Value).ownBlock ∧ some k_ ≠ (v297 : Value).ownBlock)) z250_ hg hat)
           have n7_ := Aside0.mk (hb)
           have n8_ := Aside0.mk (ho)
           clear HO_13
           clear HO_276000
           clear BK270
           clear BK271
           clear BK275
           clear HO298
           clear HO311
           clear HB
           clear HO308
           have HO_13 := n0_
           have HO_276000 := n1_
           have BK270 := n2_
           have BK271 := n3_
           have BK275 := n4_
           have HO298 := n5_
           have HO311 := n6_
           have HB := n7_
           have HO314 := n8_
           clear n0_ n1_ n2_ n3_ n4_ n5_ n6_ n7_ n8_
           clear ho hb hg hat
           refine hK.out _ _ trivial (fun hHeld => ?_)
           clear hK K
           refine zn_ rfl ?_
           have hroom119 : t278.length ≤ co107 := (Kd.R_reads' HO_13.out).2.1
           have hC119 : Kd.C (Kd.int .i64) _ Ao107 t278.length t278 := (Kd.R_reads' HO_13.out).2.2
           have hr119 := Kd.C_drop (m := ((ji88) : Int).toNat) (c := co107) hC119 (by omega) hroom119
           rw [show (t278).drop ((ji88) : Int).toNat = y315 from Ny315.out.symm] at hr119
           replace hr119 : Kd.C (Kd.int .i64) _ A119 y315.length y315 := (by rw [KA119.out]; exact hr119)
           have HR318 := Aside0.mk hr119
           clear hroom119 hC119 hr119
           refine one_ (i := 13) (N := some 95) (fl_ 15 14) rfl rfl (one_of HT_.out (by kernel_rfl)) (by decide) (fun K hK => ?_)
           refine Kd.R_append_rows_step (Kd.int .i64) (w0 := w) w.heap.size (by rfl) (.tmp 89) (.tmp 94) 49 3 (.int .i64 0) 8 rfl Try.underlying49 info3 rfl (by decide) (by omega) v313 y312 y315 _ _ _ (fun k_ => some k_ ≠ (.slice Ao107 t278.length co107 : Value).ownBlock ∧ some k_ ≠ (v297 : Value).ownBlock ∧ some k_ ≠ (.slice Ao118 y309.length co118 : Value).ownBlock) (fun _ => False) rfl rfl ?aO ?aR (fun _ _ h => h) (fun _ h => h.elim) ?aF ?aB ?aS ?aL ?_
           (case aR => exact z127_)
           (case aB => exact z43_)
           (case aF => exact z34_)
           (case aO => exact z278_)
           (case aS => exact z42_)
           (case aL => have := LMc91.out; omega)
           intro v320 w120 ho hb hg hat
           rw [← Ny319.out] at ho
           have n0_ := Aside0.mk (Kd.R_after (ok := (fun k_ => some k_ ≠ (v297 : Value).ownBlock ∧ some k_ ≠ (.slice Ao118 y309.length co118 : Value).ownBlock)) z11_ hg hat)
           have n1_ := Aside0.mk (Kd.R_over' z18_ (Kd.R_typed z194_) (by decide) hg)
           have n2_ := Aside0.mk (blk_grown (g := gb270) (o := .cells #[.slice A0_0 l0_0.length c0_0] 28 (0, 0)) z6_ hg (Kd.R_ne HO314.out BK270.out (by decide)))
           have n3_ := Aside0.mk (blk_grown (g := gb271) (o := .cells #[.slice none 0 0] 28 (0, 0)) z8_ hg (Kd.R_ne HO314.out BK271.out (by decide)))
           have n4_ := Aside0.mk (blk_grown (g := gb275) (o := .cells #[.slice (some ⟨go78, 0, none⟩) x276000_60.length co78] 28 (0, 0)) z13_ hg (Kd.R_ne HO314.out BK275.out (by decide)))
           have n5_ := Aside0.mk (Kd.R_after (ok := (fun k_ => some k_ ≠ (.slice Ao107 t278.length co107 : Value).ownBlock ∧ some k_ ≠ (.slice Ao118 y309.length co118 : Value).ownBlock)) z27_ hg hat)
           have n6_ := Aside0.mk (Kd.R_after (ok := (fun k_ => some k_ ≠ (.slice Ao107 t278.length co107 : Value).ownBlock ∧ some k_ ≠ (v297 : Value).ownBlock)) z61_ hg hat)
           have n7_ := Aside0.mk (hb)
           have n8_ := Aside0.mk ((show Kd.C (Kd.int .i64) w120 A119 y315.length y315 from by rw [Ny315.out, KA119.out]; exact Kd.C_drop (m := ((ji88) : Int).toNat) (c := co107) ((Kd.R_reads' (Kd.R_after (ok := (fun k_ => some k_ ≠ (v297 : Value).ownBlock ∧ some k_ ≠ (.slice Ao118 y309.length co118 : Value).ownBlock)) z11_ hg hat)).2.2) KL119.out ((Kd.R_reads' (Kd.R_after (ok := (fun k_ => some k_ ≠ (v297 : Value).ownBlock ∧ some k_ ≠ (.slice Ao118 y309.length co118 : Value).ownBlock)) z11_ hg hat)).2.1)))
           have n9_ := Aside0.mk (ho)
           clear HO_13
           clear HO_276000
           clear BK270
           clear BK271
           clear BK275
           clear HO298
           clear HO311
           clear HB
           clear HR318
           clear HO314
           have HO_13 := n0_
           have HO_276000 := n1_
           have BK270 := n2_
           have BK271 := n3_
           have BK275 := n4_
           have HO298 := n5_
           have HO311 := n6_
           have HB := n7_
           have HR318 := n8_
           have HO321 := n9_
           clear n0_ n1_ n2_ n3_ n4_ n5_ n6_ n7_ n8_ n9_
           clear ho hb hg hat
           have hcz121_0 : w120.cell? ⟨gb275, 0, none⟩ = some (.slice (some ⟨go78, 0, none⟩) x276000_60.length co78) := (blk_cell BK275.out 0).trans rfl
           have hfz121_0 := blk_frozen BK275.out 0
           obtain ⟨Ao122, co122, eo122⟩ := Kd.R_slice HO298.out
           subst eo122
           refine hK.out _ _ trivial (fun hHeld => ?_)
           clear hK K
           refine zn_ rfl ?_
           refine zp_ HT_ rfl rfl (by kernel_rfl) (fun _ _ _ h => h) (by rfl) ?_
           refine done_ (done_of HT_.out (by kernel_rfl)) ?_
           try go_wp2_with (first | ((with_reducible refine gate_callee (f := 69) rfl ?_); refine goesL_ (some 99) rfl rfl Try.func69 (by kernel_rfl) rfl #[.agg #[.slice (some ⟨go78, 0, none⟩) x276000_60.length co78], .int .i64 t283, .slice Ao122 y296.length co122] rfl z2_ ?_; (with_reducible refine (spec_l17Set.calls kj60 (fun k_ => some k_ = (.slice (some ⟨go78, 0, none⟩) x276000_60.length co78 : Value).ownBlock) (.slice (some ⟨go78, 0, none⟩) x276000_60.length co78) y288 t283 _ _ y296 t322 w _ ?side1 ?side2 ?side3 ?side4 A92.out).mono ?_); (case side1 => exact z1_); (case side2 => exact z308_); (case side3 => exact z275_); (case side4 => exact (Kd.R_reads' HO298.out).2.1); rintro e w123 ⟨rfl, hy0, hb, hkp⟩; refine ⟨_, rfl, ?_⟩; replace HO_13 := Aside0.mk (Kd.R_mono (ok' := fun k_ => some k_ ≠ (.slice Ao122 y296.length co122 : Value).ownBlock ∧ some k_ ≠ (.slice Ao118 y309.length co118 : Value).ownBlock ∧ some k_ ≠ (v320 : Value).ownBlock) (Kd.R_keptB ((Kd.R_apart' HO_13.out (Kd.R_typed HO_276000.out) (by decide))) hkp (fun k_ hk_ hs_ => (hk_.2) hs_)) (fun k_ hk_ => ⟨hk_.1.1.1.1, hk_.1.1.1.2, hk_.1.1.2⟩)); replace BK270 := Aside0.mk (blk_kept z6_ hkp (fun hs_ => (fun e_ => (Kd.R_ne HO_276000.out BK270.out (by decide)) e_) hs_)); replace BK271 := Aside0.mk (blk_kept z8_ hkp (fun hs_ => (fun e_ => (Kd.R_ne HO_276000.out BK271.out (by decide)) e_) hs_)); replace BK275 := Aside0.mk (blk_kept z13_ hkp (fun hs_ => (fun e_ => (Kd.R_ne HO_276000.out BK275.out (by decide)) e_) hs_)); replace HO298 := Aside0.mk (Kd.R_mono (ok' := fun k_ => some k_ ≠ (.slice Ao107 t278.length co107 : Value).ownBlock ∧ some k_ ≠ (.slice Ao118 y309.length co118 : Value).ownBlock ∧ some k_ ≠ (v320 : Value).ownBlock) (Kd.R_keptB ((Kd.R_apart' HO298.out (Kd.R_typed HO_276000.out) (by decide))) hkp (fun k_ hk_ hs_ => (hk_.2) hs_)) (fun k_ hk_ => ⟨hk_.1.1.1.1, hk_.1.1.1.2, hk_.1.1.2⟩)); replace HO311 := Aside0.mk (Kd.R_mono (ok' := fun k_ => some k_ ≠ (.slice Ao107 t278.length co107 : Value).ownBlock ∧ some k_ ≠ (.slice Ao122 y296.length co122 : Value).ownBlock ∧ some k_ ≠ (v320 : Value).ownBlock) (Kd.R_keptB ((Kd.R_apart' HO311.out (Kd.R_typed HO_276000.out) (by decide))) hkp (fun k_ hk_ hs_ => (hk_.2) hs_)) (fun k_ hk_ => ⟨hk_.1.1.1.1, hk_.1.1.1.2, hk_.1.1.2⟩)); replace HO321 := Aside0.mk (Kd.R_mono (ok' := fun k_ => some k_ ≠ (.slice Ao107 t278.length co107 : Value).ownBlock ∧ some k_ ≠ (.slice Ao122 y296.length co122 : Value).ownBlock ∧ some k_ ≠ (.slice Ao118 y309.length co118 : Value).ownBlock) (Kd.R_keptB ((Kd.R_apart' HO321.out (Kd.R_typed HO_276000.out) (by decide))) hkp (fun k_ hk_ hs_ => (hk_.2) hs_)) (fun k_ hk_ => ⟨hk_.1.1.1, hk_.1.1.2.1, hk_.1.1.2.2⟩)); replace HO_276000 := Aside0.mk (Kd.R_reok rfl hy0 (fun k_ e_ => HO_276000.out.1 k_ e_)); replace HB := Aside0.mk (hb); (try clear hb hkp hy0); have hcz124_0 : w123.cell? ⟨gb275, 0, none⟩ = some (.slice (some ⟨go78, 0, none⟩) x276000_60.length co78) := (blk_cell BK275.out 0).trans rfl; have hfz124_0 := blk_frozen BK275.out 0; obtain ⟨Ao125, co125, eo125⟩ := Kd.R_slice HO321.out; subst eo125) | ((with_reducible refine gate_callee (f := 69) rfl ?_); refine goesL_ (some 103) rfl rfl Try.func69 (by kernel_rfl) rfl #[.agg #[.slice (some ⟨go78, 0, none⟩) x276000_60.length co78], .int .i64 a1, .slice Ao125 y319.length co125] rfl z2_ ?_; (with_reducible refine (spec_l17Set.calls kj60 (fun k_ => some k_ = (.slice (some ⟨go78, 0, none⟩) x276000_60.length co78 : Value).ownBlock) (.slice (some ⟨go78, 0, none⟩) x276000_60.length co78) t322 a1 _ _ y319 t323 w _ ?side1 ?side2 ?side3 ?side4 A93.out).mono ?_); (case side1 => exact z1_); (case side2 => exact z308_); (case side3 => exact z276_); (case side4 => exact (Kd.R_reads' HO321.out).2.1); rintro e w126 ⟨rfl, hy0, hb, hkp⟩; refine ⟨_, rfl, ?_⟩; replace HO_13 := Aside0.mk (Kd.R_mono (ok' := fun k_ => some k_ ≠ (.slice Ao122 y296.length co122 : Value).ownBlock ∧ some k_ ≠ (.slice Ao118 y309.length co118 : Value).ownBlock ∧ some k_ ≠ (.slice Ao125 y319.length co125 : Value).ownBlock) (Kd.R_keptB ((Kd.R_apart' HO_13.out (Kd.R_typed HO_276000.out) (by decide))) hkp (fun k_ hk_ hs_ => (hk_.2) hs_)) (fun k_ hk_ => ⟨hk_.1.1.1, hk_.1.1.2.1, hk_.1.1.2.2⟩)); replace BK270 := Aside0.mk (blk_kept z6_ hkp (fun hs_ => (fun e_ => (Kd.R_ne HO_276000.out BK270.out (by decide)) e_) hs_)); replace BK271 := Aside0.mk (blk_kept z8_ hkp (fun hs_ => (fun e_ => (Kd.R_ne HO_276000.out BK271.out (by decide)) e_) hs_)); replace BK275 := Aside0.mk (blk_kept z13_ hkp (fun hs_ => (fun e_ => (Kd.R_ne HO_276000.out BK275.out (by decide)) e_) hs_)); replace HO298 := Aside0.mk (Kd.R_mono (ok' := fun k_ => some k_ ≠ (.slice Ao107 t278.length co107 : Value).ownBlock ∧ some k_ ≠ (.slice Ao118 y309.length co118 : Value).ownBlock ∧ some k_ ≠ (.slice Ao125 y319.length co125 : Value).ownBlock) (Kd.R_keptB ((Kd.R_apart' HO298.out (Kd.R_typed HO_276000.out) (by decide))) hkp (fun k_ hk_ hs_ => (hk_.2) hs_)) (fun k_ hk_ => ⟨hk_.1.1.1, hk_.1.1.2.1, hk_.1.1.2.2⟩)); replace HO311 := Aside0.mk (Kd.R_mono (ok' := fun k_ => some k_ ≠ (.slice Ao107 t278.length co107 : Value).ownBlock ∧ some k_ ≠ (.slice Ao122 y296.length co122 : Value).ownBlock ∧ some k_ ≠ (.slice Ao125 y319.length co125 : Value).ownBlock) (Kd.R_keptB ((Kd.R_apart' HO311.out (Kd.R_typed HO_276000.out) (by decide))) hkp (fun k_ hk_ hs_ => (hk_.2) hs_)) (fun k_ hk_ => ⟨hk_.1.1.1, hk_.1.1.2.1, hk_.1.1.2.2⟩)); replace HO321 := Aside0.mk (Kd.R_mono (ok' := fun k_ => some k_ ≠ (.slice Ao107 t278.length co107 : Value).ownBlock ∧ some k_ ≠ (.slice Ao122 y296.length co122 : Value).ownBlock ∧ some k_ ≠ (.slice Ao118 y309.length co118 : Value).ownBlock) (Kd.R_keptB ((Kd.R_apart' HO321.out (Kd.R_typed HO_276000.out) (by decide))) hkp (fun k_ hk_ hs_ => (hk_.2) hs_)) (fun k_ hk_ => ⟨hk_.1.1.1, hk_.1.1.2.1, hk_.1.1.2.2⟩)); replace HO_276000 := Aside0.mk (Kd.R_reok rfl hy0 (fun k_ e_ => HO_276000.out.1 k_ e_)); replace HB := Aside0.mk (hb); (try clear hb hkp hy0); have hcz127_0 : w126.cell? ⟨gb275, 0, none⟩ = some (.slice (some ⟨go78, 0, none⟩) x276000_60.length co78) := (blk_cell BK275.out 0).trans rfl; have hfz127_0 := blk_frozen BK275.out 0) | ((with_reducible refine gate_callee (f := 15) rfl ?_); refine goesL_ (some 105) rfl rfl Try.func15 (by kernel_rfl) rfl #[.agg #[.slice (some ⟨go78, 0, none⟩) t323.length co78]] rfl z187_ ?_; (with_reducible refine (spec_DomOk.calls kj60 _ _ t323 true _ ?side1 ?side2 A94.out).mono ?_); (case side1 => exact z205_); (case side2 => exact z269_); rintro e w128 ⟨rfl, hb⟩; refine ⟨_, rfl, ?_⟩; replace HO_13 := Aside0.mk (Kd.R_below z11_ hb); replace HO_276000 := Aside0.mk (Kd.R_below z18_ hb); replace HO298 := Aside0.mk (Kd.R_below z27_ hb); replace HO311 := Aside0.mk (Kd.R_below z61_ hb); replace HO321 := Aside0.mk (Kd.R_below z233_ hb); replace BK270 := Aside0.mk (blk_below (g := gb270) (o := .cells #[.slice A0_0 l0_0.length c0_0] 28 (0, 0)) z6_ hb); replace BK271 := Aside0.mk (blk_below (g := gb271) (o := .cells #[.slice none 0 0] 28 (0, 0)) z8_ hb); replace BK275 := Aside0.mk (blk_below (g := gb275) (o := .cells #[.slice (some ⟨go78, 0, none⟩) x276000_60.length co78] 28 (0, 0)) z13_ hb); replace HB := Aside0.mk (below_step z1_ hb); (try clear hb); have hcz129_0 : w128.cell? ⟨gb275, 0, none⟩ = some (.slice (some ⟨go78, 0, none⟩) x276000_60.length co78) := (blk_cell BK275.out 0).trans rfl; have hfz129_0 := blk_frozen BK275.out 0; have hnb130 := NB271_270.out; have hnc130 := NB270_271.out; have hcz131_0 : w128.cell? ⟨gb271, 0, none⟩ = some (.slice none 0 0) := (blk_cell BK271.out 0).trans rfl; have hfz131_0 := blk_frozen BK271.out 0))
           refine bodyPost_ret (results_ct rfl _ _ gb271 28 #[.slice (some ⟨go78, 0, none⟩) x276000_60.length co78] (0, 0) _ rfl z69_ Try.underlying28 rfl (by kernel_rfl)) rfl ?_
           exact ⟨_, z215_, by (with_reducible repeat (first | apply Kd.R_alloc | apply Kd.R_drewN | apply Kd.R_drew)); exact Kd.R_mono (Kd.R_far (p := ⟨gb271, 0, none⟩) (Kd.R_types HO_276000.out BK271.out (by decide)) (fun _ hk => hk.2) (.slice (some ⟨go78, 0, none⟩) x276000_60.length co78)) (fun _ hk => trivial), z1_⟩
          ·replace c95 := Bool.eq_false_iff.mpr c95
           subst c95
           replace H := iff_ H
           obtain ⟨t325, A132, H⟩ := bnd_ H
           simp only [Option.some.injEq, Prod.mk.injEq] at H
           obtain ⟨rfl, rfl⟩ := H
           have hnb133 := NB275_270.out
           have hnc133 := NB270_275.out
           have hnb134 := NB275_271.out
           have hnc134 := NB271_275.out
           have hcz135_0 : wc.cell? ⟨gb275, 0, none⟩ = some (u276000) := (blk_cell BK275.out 0).trans rfl
           have hfz135_0 := blk_frozen BK275.out 0
           have p78 : 0 ≤ (t283 : Int) := odt_
           have q78 : (t283 : Int) < ((x276000_60.length : Int) : Int) := odt_
           obtain ⟨go78, co78, eo78, gb78, gl78, cl78, HG78⟩ := Kd.R_form HO_276000.out (by omega)
           (first | cases eo78 | (injection eo78 with ea_ en_ ec_; (first | subst ea_ | (injection ea_ with ea_; subst ea_)); subst ec_; clear en_))
           have GB78 := Aside0.mk gb78
           have GG78 := Aside0.mk HG78
           clear gb78 gl78 HG78
           obtain ⟨ce78, hcl78, hM78, hcc78, hfr78⟩ := Kd.R_elem HO_276000.out z72 (t283 : Int) p78 q78
           obtain rfl := k72_openM hM78
           have hx78_0 : wc.cell? ⟨go78, (t283 : Int).toNat * 7, none⟩ = some (.bool ((rd_T72 x276000_60 t283).f0)) := hcc78 0 _ rfl
           have hx78_1 : wc.cell? ⟨go78, (t283 : Int).toNat * 7 + 1, none⟩ = some (.int .i64 ((rd_T72 x276000_60 t283).f1)) := hcc78 1 _ rfl
           have hx78_2 : wc.cell? ⟨go78, (t283 : Int).toNat * 7 + 2, none⟩ = some (.int .i64 ((rd_T72 x276000_60 t283).f2)) := hcc78 2 _ rfl
           have hx78_3 : wc.cell? ⟨go78, (t283 : Int).toNat * 7 + 3, none⟩ = some (.int .i64 ((rd_T72 x276000_60 t283).f3)) := hcc78 3 _ rfl
           have hx78_4 : wc.cell? ⟨go78, (t283 : Int).toNat * 7 + 4, none⟩ = some (.int .i64 ((rd_T72 x276000_60 t283).f4)) := hcc78 4 _ rfl
           have hx78_5 : wc.cell? ⟨go78, (t283 : Int).toNat * 7 + 5, none⟩ = some (.int .i64 ((rd_T72 x276000_60 t283).f5)) := hcc78 5 _ rfl
           have hx78_6 : wc.cell? ⟨go78, (t283 : Int).toNat * 7 + 6, none⟩ = some (.int .i64 ((rd_T72 x276000_60 t283).f6)) := hcc78 6 _ rfl
           have hf78_0 : wc.frozen? ⟨go78, (t283 : Int).toNat * 7, none⟩ = false := hfr78 0
           have hf78_1 : wc.frozen? ⟨go78, (t283 : Int).toNat * 7 + 1, none⟩ = false := hfr78 1
           have hf78_2 : wc.frozen? ⟨go78, (t283 : Int).toNat * 7 + 2, none⟩ = false := hfr78 2
           have hf78_3 : wc.frozen? ⟨go78, (t283 : Int).toNat * 7 + 3, none⟩ = false := hfr78 3
           have hf78_4 : wc.frozen? ⟨go78, (t283 : Int).toNat * 7 + 4, none⟩ = false := hfr78 4
           have hf78_5 : wc.frozen? ⟨go78, (t283 : Int).toNat * 7 + 5, none⟩ = false := hfr78 5
           have hf78_6 : wc.frozen? ⟨go78, (t283 : Int).toNat * 7 + 6, none⟩ = false := hfr78 6
           clear hcl78 hcc78 hfr78 hM78
           replace p78 := eq_true p78
           replace q78 := eq_true q78
           have HX136 := Aside0.mk (show Kd.R k72 72 wc w.heap.size (fun _ => True) (.slice (some ⟨go78, 0, none⟩) x276000_60.length co78) x276000_60 from z18_)
           obtain ⟨ce136, hcl136, hM136, hcc136, hfr136⟩ := Kd.R_elem HX136.out z72 (t283 : Int) (odt_) (by have h_ : (t283 : Int) < ((x276000_60.length : Int) : Int) := odt_; first | exact h_ | (have e_ := (Kd.R_reads' HO_276000.out).1; omega) | simpa using h_)
           obtain rfl := k72_openM hM136
           have HP136 := Kd.R_seg HX136.out (t283 : Int) (odt_) (by have h_ : (t283 : Int) < ((x276000_60.length : Int) : Int) := odt_; first | exact h_ | (have e_ := (Kd.R_reads' HO_276000.out).1; omega) | simpa using h_) (seg := [.bool true]) (j := 0) hcl136 hcc136 (show 1 ≤ 7 from by decide) (x' := (⟨true, (rd_T72 x276000_60 t283).f1, (rd_T72 x276000_60 t283).f2, (rd_T72 x276000_60 t283).f3, (rd_T72 x276000_60 t283).f4, (rd_T72 x276000_60 t283).f5, (rd_T72 x276000_60 t283).f6⟩ : S72)) (k72_mkM _ _ _ (⟨true, (rd_T72 x276000_60 t283).f1, (rd_T72 x276000_60 t283).f2, (rd_T72 x276000_60 t283).f3, (rd_T72 x276000_60 t283).f4, (rd_T72 x276000_60 t283).f5, (rd_T72 x276000_60 t283).f6⟩ : S72) ) (fun _ hk => hk)
           have hx136_0 := hcc136 0 _ rfl
           (try simp only [show (k72).sz = 7 from rfl, Nat.mul_one, Nat.add_zero] at hx136_0)
           have hf136_0 := hfr136 0
           (try simp only [show (k72).sz = 7 from rfl, Nat.mul_one, Nat.add_zero] at hf136_0)
           clear hcl136 hcc136 hfr136 hM136
           try go_wp2_with (first | ((with_reducible refine gate_store (t := 4) (p := 67) rfl ?_); refine store_event (t := 4) (p := 67) (v := ?vo_w137) (w1 := (wc.setCell ⟨go78, (t283 : Int).toNat * 7, none⟩ (.bool true))) ?hg ?ho ?hn ?hr ?_; (case ho => rfl); (case hg => rfl); (case hn => rfl); (case hr => exact z19_); intro w137 hw; have hg : wc.grownBy w137 (some go78) := (by rw [hw]; exact HP136.2); have hp_ : Kd.R k72 72 w137 w.heap.size (fun _ => True) (.slice (some ⟨go78, 0, none⟩) x276000_60.length co78) y287 := (by rw [hw, Ny287.out]; exact HP136.1); clear HP136; replace HO_13 := Aside0.mk (Kd.R_over' (v := (.slice (some ⟨go78, 0, none⟩) x276000_60.length co78)) z11_ (Kd.R_typed HO_276000.out) (by decide) hg); replace BK270 := Aside0.mk (blk_grown (g := gb270) (o := .cells #[.slice A0_0 l0_0.length c0_0] 28 (0, 0)) z6_ hg (Kd.R_ne HO_276000.out BK270.out (by decide))); replace BK271 := Aside0.mk (blk_grown (g := gb271) (o := .cells #[.slice none 0 0] 28 (0, 0)) z8_ hg (Kd.R_ne HO_276000.out BK271.out (by decide))); replace BK275 := Aside0.mk (blk_grown (g := gb275) (o := .cells #[.slice (some ⟨go78, 0, none⟩) x276000_60.length co78] 28 (0, 0)) z13_ hg (Kd.R_ne HO_276000.out BK275.out (by decide))); replace HO_276000 := Aside0.mk (hp_); replace HB := Aside0.mk ((by rw [hw]; exact below_set (HB.out) GB78.out : Below w.heap.size w w137)); clear hg hw hp_; have hcz138_0 : w137.cell? ⟨gb275, 0, none⟩ = some (.slice (some ⟨go78, 0, none⟩) x276000_60.length co78) := (blk_cell BK275.out 0).trans rfl; have hfz138_0 := blk_frozen BK275.out 0; have p79 : 0 ≤ (t283 : Int) := odt_; have q79 : (t283 : Int) < ((x276000_60.length : Int) : Int) := odt_; obtain ⟨ce79, hcl79, hM79, hcc79, hfr79⟩ := Kd.R_elem HO_276000.out z72 (t283 : Int) p79 q79; obtain rfl := k72_openM hM79; have hx79_0 : w137.cell? ⟨go78, (t283 : Int).toNat * 7, none⟩ = some (.bool ((rd_T72 y287 t283).f0)) := hcc79 0 _ rfl; have hx79_1 : w137.cell? ⟨go78, (t283 : Int).toNat * 7 + 1, none⟩ = some (.int .i64 ((rd_T72 y287 t283).f1)) := hcc79 1 _ rfl; have hx79_2 : w137.cell? ⟨go78, (t283 : Int).toNat * 7 + 2, none⟩ = some (.int .i64 ((rd_T72 y287 t283).f2)) := hcc79 2 _ rfl; have hx79_3 : w137.cell? ⟨go78, (t283 : Int).toNat * 7 + 3, none⟩ = some (.int .i64 ((rd_T72 y287 t283).f3)) := hcc79 3 _ rfl; have hx79_4 : w137.cell? ⟨go78, (t283 : Int).toNat * 7 + 4, none⟩ = some (.int .i64 ((rd_T72 y287 t283).f4)) := hcc79 4 _ rfl; have hx79_5 : w137.cell? ⟨go78, (t283 : Int).toNat * 7 + 5, none⟩ = some (.int .i64 ((rd_T72 y287 t283).f5)) := hcc79 5 _ rfl; have hx79_6 : w137.cell? ⟨go78, (t283 : Int).toNat * 7 + 6, none⟩ = some (.int .i64 ((rd_T72 y287 t283).f6)) := hcc79 6 _ rfl; have hf79_0 : w137.frozen? ⟨go78, (t283 : Int).toNat * 7, none⟩ = false := hfr79 0; have hf79_1 : w137.frozen? ⟨go78, (t283 : Int).toNat * 7 + 1, none⟩ = false := hfr79 1; have hf79_2 : w137.frozen? ⟨go78, (t283 : Int).toNat * 7 + 2, none⟩ = false := hfr79 2; have hf79_3 : w137.frozen? ⟨go78, (t283 : Int).toNat * 7 + 3, none⟩ = false := hfr79 3; have hf79_4 : w137.frozen? ⟨go78, (t283 : Int).toNat * 7 + 4, none⟩ = false := hfr79 4; have hf79_5 : w137.frozen? ⟨go78, (t283 : Int).toNat * 7 + 5, none⟩ = false := hfr79 5; have hf79_6 : w137.frozen? ⟨go78, (t283 : Int).toNat * 7 + 6, none⟩ = false := hfr79 6; clear hcl79 hcc79 hfr79 hM79; replace p79 := eq_true p79; replace q79 := eq_true q79; have HX139 := Aside0.mk (show Kd.R k72 72 w137 w.heap.size (fun _ => True) (.slice (some ⟨go78, 0, none⟩) x276000_60.length co78) y287 from z18_); obtain ⟨ce139, hcl139, hM139, hcc139, hfr139⟩ := Kd.R_elem HX139.out z72 (t283 : Int) (odt_) (by have h_ : (t283 : Int) < ((x276000_60.length : Int) : Int) := odt_; first | exact h_ | (have e_ := (Kd.R_reads' HO_276000.out).1; omega) | simpa using h_); obtain rfl := k72_openM hM139; have HP139 := Kd.R_seg HX139.out (t283 : Int) (odt_) (by have h_ : (t283 : Int) < ((x276000_60.length : Int) : Int) := odt_; first | exact h_ | (have e_ := (Kd.R_reads' HO_276000.out).1; omega) | simpa using h_) (seg := [.int .i64 a4]) (j := 1) hcl139 hcc139 (show 2 ≤ 7 from by decide) (x' := (⟨(rd_T72 y287 t283).f0, a4, (rd_T72 y287 t283).f2, (rd_T72 y287 t283).f3, (rd_T72 y287 t283).f4, (rd_T72 y287 t283).f5, (rd_T72 y287 t283).f6⟩ : S72)) (k72_mkM _ _ _ (⟨(rd_T72 y287 t283).f0, a4, (rd_T72 y287 t283).f2, (rd_T72 y287 t283).f3, (rd_T72 y287 t283).f4, (rd_T72 y287 t283).f5, (rd_T72 y287 t283).f6⟩ : S72) ) (fun _ hk => hk); have hx139_1 := hcc139 1 _ rfl; (try simp only [show (k72).sz = 7 from rfl, Nat.mul_one, Nat.add_zero] at hx139_1); have hf139_1 := hfr139 1; (try simp only [show (k72).sz = 7 from rfl, Nat.mul_one, Nat.add_zero] at hf139_1); clear hcl139 hcc139 hfr139 hM139) | ((with_reducible refine gate_store (t := 3) (p := 73) rfl ?_); refine store_event (t := 3) (p := 73) (v := ?vo_w140) (w1 := (w137.setCell ⟨go78, (t283 : Int).toNat * 7 + 1, none⟩ (.int .i64 a4))) ?hg ?ho ?hn ?hr ?_; (case ho => rfl); (case hg => rfl); (case hn => rfl); (case hr => exact z19_); intro w140 hw; have hg : w137.grownBy w140 (some go78) := (by rw [hw]; exact HP139.2); have hp_ : Kd.R k72 72 w140 w.heap.size (fun _ => True) (.slice (some ⟨go78, 0, none⟩) x276000_60.length co78) y288 := (by rw [hw, Ny288.out]; exact HP139.1); clear HP139; replace HO_13 := Aside0.mk (Kd.R_over' (v := (.slice (some ⟨go78, 0, none⟩) x276000_60.length co78)) z11_ (Kd.R_typed HO_276000.out) (by decide) hg); replace BK270 := Aside0.mk (blk_grown (g := gb270) (o := .cells #[.slice A0_0 l0_0.length c0_0] 28 (0, 0)) z6_ hg (Kd.R_ne HO_276000.out BK270.out (by decide))); replace BK271 := Aside0.mk (blk_grown (g := gb271) (o := .cells #[.slice none 0 0] 28 (0, 0)) z8_ hg (Kd.R_ne HO_276000.out BK271.out (by decide))); replace BK275 := Aside0.mk (blk_grown (g := gb275) (o := .cells #[.slice (some ⟨go78, 0, none⟩) x276000_60.length co78] 28 (0, 0)) z13_ hg (Kd.R_ne HO_276000.out BK275.out (by decide))); replace HO_276000 := Aside0.mk (hp_); replace HB := Aside0.mk ((by rw [hw]; exact below_set (HB.out) GB78.out : Below w.heap.size w w140)); clear hg hw hp_) | ((with_reducible refine gate_dst (N := 74) rfl ?_); (try (refine gate_guard (by rfl) ?_; dsimp only)); refine Kd.R_lit (Kd.int .i64) _ 3 ?hg (N := 74) ?hd (xs := ([] : List Int)) (inner := []) (ok := fun _ => True) (okp := fun _ => True) ?hr ?hp (fun _ hk => hk) trivial (Below.refl _ _) (Nat.le_refl _) (by simp) ?_; (case hd => rfl); (case hg => rfl); (case hr => exact z19_); (case hp => exact z280_); intro v290 w141 ho142 hb hg_ hnew_; clear hg_ hnew_; (first | rw [← Ny289.out] at ho142 | (simp only [Int.reduceToNat] at ho142; rw [← Ny289.out] at ho142)); replace HO_276000 := Aside0.mk (Kd.R_below z18_ hb); have HO291 := Aside0.mk (Kd.R_lower (Kd.R_new' ho142 (Kd.R_lt z11_)) (below_size z1_)); replace HO_13 := Aside0.mk (Kd.R_elder' z11_ (Kd.R_base ho142) hb); replace BK270 := Aside0.mk (blk_below (g := gb270) (o := .cells #[.slice A0_0 l0_0.length c0_0] 28 (0, 0)) z6_ hb); replace BK271 := Aside0.mk (blk_below (g := gb271) (o := .cells #[.slice none 0 0] 28 (0, 0)) z8_ hb); replace BK275 := Aside0.mk (blk_below (g := gb275) (o := .cells #[.slice (some ⟨go78, 0, none⟩) x276000_60.length co78] 28 (0, 0)) z13_ hb); replace HB := Aside0.mk (below_step z1_ hb); clear hb ho142; obtain ⟨Ao144, co144, eo144⟩ := Kd.R_slice HO_13.out; subst eo144; have q143 : ((ji88) : Int) ≤ ((t278.length : Int) : Int) := odt_; obtain ⟨i0143, hi0143, _, hsz143, _⟩ := info_parts info3; have hroom143 : t278.length ≤ co144 := (Kd.R_reads' HO_13.out).2.1; have hC143 : Kd.C (Kd.int .i64) _ Ao144 t278.length t278 := (Kd.R_reads' HO_13.out).2.2; have ql143 : (a2 : Int) ≤ ((ji88) : Int) := odt_; have q0143 : (0 : Int) ≤ (a2 : Int) := odt_; have hcut143 := cut_mid (P := Try.prog) 49 3 .i64 .i64 Try.underlying49 hi0143 1 hsz143 Ao144 t278.length co144 a2 (ji88) q0143 ql143 q143 hroom143; have hr143 := Kd.C_mid (lo := (a2 : Int).toNat) (hi := ((ji88) : Int).toNat) (c := co144) hC143 (by omega) (by omega) hroom143; obtain ⟨A143, hA143⟩ : ∃ A1, A1 = (if co144 = (a2 : Int).toNat then Ao144 else (Ao144 : Option Addr).map (·.add ((a2 : Int).toNat * 1))) := ⟨_, rfl⟩; obtain ⟨c143, hc143⟩ : ∃ c1, c1 = co144 - (a2 : Int).toNat := ⟨_, rfl⟩; have hy143 : y292.length = ((ji88) : Int).toNat - (a2 : Int).toNat := (by rw [Ny292.out, List.length_drop, List.length_take] <;> omega); rw [show ((t278).take ((ji88) : Int).toNat).drop (a2 : Int).toNat = y292 from Ny292.out.symm] at hr143; replace hr143 : Kd.C (Kd.int .i64) _ A143 y292.length y292 := (by rw [hA143]; exact hr143); rw [← hy143, ← hA143, ← hc143] at hcut143; have HR295 := Aside0.mk hr143; have HC295 := Aside0.mk (show y292.length ≤ c143 from by rw [hy143, hc143]; exact Nat.sub_le_sub_right (Nat.le_trans (by omega) hroom143) _); clear hr143 hC143 hroom143 hi0143 hsz143 hc143; have KY143 := Aside0.mk hy143; have KA143 := Aside0.mk hA143; clear hy143 hA143; have KL143 := Aside0.mk (show ((ji88) : Int).toNat ≤ t278.length from by omega); have KM143 := Aside0.mk (show (a2 : Int).toNat ≤ ((ji88) : Int).toNat from by omega); replace q143 := eq_true q143) | ((with_reducible refine gate_builtin (b := .append) (xs := #[.tmp 74, .tmp 80]) rfl ?_); (try (refine gate_guard (by rfl) ?_; dsimp only)); at_builtin; refine Kd.R_append_rows (Kd.int .i64) (w0 := w) w.heap.size rfl (.tmp 74) (.tmp 80) 49 3 (.int .i64 0) 8 rfl Try.underlying49 info3 rfl (by decide) (by omega) v290 y289 y292 _ _ _ (fun k_ => some k_ ≠ (.slice Ao144 t278.length co144 : Value).ownBlock) (fun _ => False) rfl rfl ?aO ?aR (fun _ _ h => h) (fun _ h => h.elim) ?aF ?aB ?aS ?aL ?_; (case aR => exact z126_); (case aB => exact z43_); (case aF => exact z234_); (case aO => exact z257_); (case aS => exact z42_); (case aL => have := LMc83.out; omega); intro v297 w145 ho hb hg hat; rw [← Ny296.out] at ho; replace HO_276000 := Aside0.mk (Kd.R_over' z18_ (Kd.R_typed z286_) (by decide) hg); replace BK270 := Aside0.mk (blk_grown (g := gb270) (o := .cells #[.slice A0_0 l0_0.length c0_0] 28 (0, 0)) z6_ hg (Kd.R_ne HO291.out BK270.out (by decide))); replace BK271 := Aside0.mk (blk_grown (g := gb271) (o := .cells #[.slice none 0 0] 28 (0, 0)) z8_ hg (Kd.R_ne HO291.out BK271.out (by decide))); replace BK275 := Aside0.mk (blk_grown (g := gb275) (o := .cells #[.slice (some ⟨go78, 0, none⟩) x276000_60.length co78] 28 (0, 0)) z13_ hg (Kd.R_ne HO291.out BK275.out (by decide))); replace HB := Aside0.mk (hb); replace HR295 := Aside0.mk ((show Kd.C (Kd.int .i64) w145 A143 y292.length y292 from by rw [Ny292.out, KA143.out]; exact Kd.C_mid (lo := (a2 : Int).toNat) (hi := ((ji88) : Int).toNat) (c := co144) ((Kd.R_reads' (Kd.R_after (ok := (fun _ => True)) z11_ hg hat)).2.2) KM143.out KL143.out ((Kd.R_reads' (Kd.R_after (ok := (fun _ => True)) z11_ hg hat)).2.1))); replace HO_13 := Aside0.mk (Kd.R_after (ok := (fun _ => True)) z11_ hg hat); have HO298 := Aside0.mk (ho); clear HO291; clear ho hb hg hat))
           have n0_ := Aside0.mk (Kd.R_drew HO_13.out)
           have n1_ := Aside0.mk (Kd.R_drew HO_276000.out)
           have n2_ := Aside0.mk (Kd.R_drew HO298.out)
           have n3_ := Aside0.mk (blk_drew BK270.out)
           have n4_ := Aside0.mk (blk_drew BK271.out)
           have n5_ := Aside0.mk (blk_drew BK275.out)
           have n6_ := Aside0.mk (Kd.C_drew HR295.out)
           have n7_ := Aside0.mk (below_drew1 HB.out)
           clear HO_13
           clear HO_276000
           clear HO298
           clear BK270
           clear BK271
           clear BK275
           clear HR295
           clear HB
           have HO_13 := n0_
           have HO_276000 := n1_
           have HO298 := n2_
           have BK270 := n3_
           have BK271 := n4_
           have BK275 := n5_
           have HR295 := n6_
           have HB := n7_
           clear n0_ n1_ n2_ n3_ n4_ n5_ n6_ n7_
           have q147 : (a2 : Int) ≤ ((t278.length : Int) : Int) := odt_
           obtain ⟨i0147, hi0147, _, hsz147, _⟩ := info_parts info3
           have hroom147 : t278.length ≤ co144 := (Kd.R_reads' HO_13.out).2.1
           have hC147 : Kd.C (Kd.int .i64) _ Ao144 t278.length t278 := (Kd.R_reads' HO_13.out).2.2
           have hcut147 := cut_to (P := Try.prog) 49 3 .i64 Try.underlying49 hi0147 Ao144 t278.length co144 a2 (odt_) q147 hroom147
           have hr147 := Kd.C_take (m := (a2 : Int).toNat) hC147 (by omega)
           have hy147 : y302.length = (a2 : Int).toNat := (by rw [Ny302.out, List.length_take]; omega)
           rw [← Ny302.out] at hr147
           rw [← hy147] at hcut147
           have HR305 := Aside0.mk hr147
           have HC305 := Aside0.mk (show y302.length ≤ co144 from by omega)
           clear hr147 hC147 hroom147 hi0147 hsz147
           have KY147 := Aside0.mk hy147
           clear hy147
           have KL147 := Aside0.mk (show (a2 : Int).toNat ≤ t278.length from by omega)
           replace q147 := eq_true q147
           have q156 : ((ji88) : Int) ≤ ((t278.length : Int) : Int) := odt_
           obtain ⟨i0156, hi0156, _, hsz156, _⟩ := info_parts info3
           have hroom156 : t278.length ≤ co144 := (Kd.R_reads' HO_13.out).2.1
           have hC156 : Kd.C (Kd.int .i64) _ Ao144 t278.length t278 := (Kd.R_reads' HO_13.out).2.2
           have q0156 : (0 : Int) ≤ ((ji88) : Int) := odt_
           have hcut156 := cut_from (P := Try.prog) 49 3 .i64 Try.underlying49 hi0156 1 hsz156 Ao144 t278.length co144 (ji88) q0156 q156
           have hr156 := Kd.C_drop (m := ((ji88) : Int).toNat) (c := co144) hC156 (by omega) hroom156
           obtain ⟨A156, hA156⟩ : ∃ A1, A1 = (if co144 = ((ji88) : Int).toNat then Ao144 else (Ao144 : Option Addr).map (·.add (((ji88) : Int).toNat * 1))) := ⟨_, rfl⟩
           obtain ⟨c156, hc156⟩ : ∃ c1, c1 = co144 - ((ji88) : Int).toNat := ⟨_, rfl⟩
           have hy156 : y315.length = t278.length - ((ji88) : Int).toNat := (by rw [Ny315.out, List.length_drop] <;> omega)
           rw [show (t278).drop ((ji88) : Int).toNat = y315 from Ny315.out.symm] at hr156
           replace hr156 : Kd.C (Kd.int .i64) _ A156 y315.length y315 := (by rw [hA156]; exact hr156)
           rw [← hy156, ← hA156, ← hc156] at hcut156
           have HR318 := Aside0.mk hr156
           have HC318 := Aside0.mk (show y315.length ≤ c156 from by rw [hy156, hc156]; exact Nat.sub_le_sub_right hroom156 _)
           clear hr156 hC156 hroom156 hi0156 hsz156 hc156
           have KY156 := Aside0.mk hy156
           have KA156 := Aside0.mk hA156
           clear hy156 hA156
           have KL156 := Aside0.mk (show ((ji88) : Int).toNat ≤ t278.length from by omega)
           replace q156 := eq_true q156
           clear HR318
           refine start_ (n := 15) (S := fun w' => True) (ds := []) (fl_ 15 0) (by kernel_rfl) rfl (fl_zero _) trivial (fun hHeld => ?_); refine with_tabW spec_DomInsert.tab15 spec_DomInsert.bits15 (fun HT_ HW_ => ?_)
           generalize w145.drew = w146 at HO_13 HO_276000 HO298 BK270 BK271 BK275 HR295 HB HR305 hHeld ⊢
           refine zpg_ (i := 1) (ra_ [0, 1, 1, 13]) HT_ rfl rfl (by kernel_rfl) (fun _ _ _ h => h) (by rfl) ?_
           refine zpg_ (i := 2) (ra_ [0, 1, 2, 12]) HT_ rfl rfl (by kernel_rfl) (fun _ _ _ h => h) (by rfl) ?_
           refine zpg_ (i := 3) (ra_ [0, 1, 3, 11]) HT_ rfl rfl (by kernel_rfl) (fun _ _ _ h => h) (by rfl) ?_
           refine zpg_ (i := 5) (ra_ [0, 1, 3, 1, 1, 9]) HT_ rfl rfl (by kernel_rfl) (fun _ _ _ h => h) (by rfl) ?_
           refine zpg_ (i := 8) (ra_ [0, 1, 3, 1, 1, 2, 1, 6]) HT_ rfl rfl (by kernel_rfl) (fun _ _ _ h => h) (by rfl) ?_
           refine zpg_ (i := 9) (ra_ [0, 1, 3, 1, 1, 2, 2, 5]) HT_ rfl rfl (by kernel_rfl) (fun _ _ _ h => h) (by rfl) ?_
           refine zpg_ (i := 10) (ra_ [0, 1, 3, 1, 1, 2, 3, 4]) HT_ rfl rfl (by kernel_rfl) (fun _ _ _ h => h) (by rfl) ?_
           refine zpg_ (i := 11) (ra_ [0, 1, 3, 1, 1, 2, 4, 3]) HT_ rfl rfl (by kernel_rfl) (fun _ _ _ h => h) (by rfl) ?_
           refine zpg_ (i := 12) (ra_ [0, 1, 3, 1, 1, 2, 5, 2]) HT_ rfl rfl (by kernel_rfl) (fun _ _ _ h => h) (by rfl) ?_
           refine join_ (σ := Value × Value × Value) 3 #[true, true, true, true, true, true, true, false, true, true, true, true, true, false, false] (fun s_ => [(82, s_.1), (86, s_.2.1), (88, s_.2.2)]) (fun s_ w' => (Kd.R (Kd.int .i64) 3 w' w.heap.size (fun k_ => some k_ ≠ (s_.2.1 : Value).ownBlock ∧ some k_ ≠ (s_.2.2 : Value).ownBlock ∧ some k_ ≠ (.slice Ao144 t278.length co144 : Value).ownBlock) v297 y296) ∧ (Kd.R (Kd.int .i64) 3 w' w.heap.size (fun k_ => some k_ ≠ (v297 : Value).ownBlock ∧ some k_ ≠ (s_.2.2 : Value).ownBlock ∧ some k_ ≠ (.slice Ao144 t278.length co144 : Value).ownBlock) s_.2.1 y306) ∧ (Kd.R (Kd.int .i64) 3 w' w.heap.size (fun k_ => some k_ ≠ (v297 : Value).ownBlock ∧ some k_ ≠ (s_.2.1 : Value).ownBlock ∧ some k_ ≠ (.slice Ao144 t278.length co144 : Value).ownBlock) s_.2.2 y309) ∧ (Kd.R (Kd.int .i64) 3 w' w.heap.size (fun k_ => some k_ ≠ (v297 : Value).ownBlock ∧ some k_ ≠ (s_.2.1 : Value).ownBlock ∧ some k_ ≠ (s_.2.2 : Value).ownBlock) (.slice Ao144 t278.length co144) t278) ∧ (Kd.R k72 72 w' w.heap.size (fun _ => True) (.slice (some ⟨go78, 0, none⟩) x276000_60.length co78) y288) ∧ (w'.heap[gb270]? = some (.cells #[.slice A0_0 l0_0.length c0_0] 28 (0, 0))) ∧ (w'.heap[gb271]? = some (.cells #[.slice none 0 0] 28 (0, 0))) ∧ (w'.heap[gb275]? = some (.cells #[.slice (some ⟨go78, 0, none⟩) x276000_60.length co78] 28 (0, 0))) ∧ (Below w.heap.size w w')) ?_ ?_
           rotate_left
           ·intro hCont
            refine two_ (i := 0) (j := 6) (Ni := some 82) (Nj := some 88) #[true, true, true, true, false, true, false, false, true, true, true, true, true, false, false] #[false, true, true, true, false, true, true, false, true, true, true, true, true, false, false] rfl rfl rfl rfl (two_of HT_.out (by kernel_rfl)) (by decide) (by decide) (fun K hK => ?_) (fun K hK => ?_)
            ·skip
             refine Kd.R_lit_step (Kd.int .i64) _ 3 ?hg (N := 82) ?hd (xs := ([] : List Int)) (inner := []) (ok := fun _ => True) (okp := fun _ => True) ?hr ?hp (fun _ hk => hk) trivial (Below.refl _ _) (Nat.le_refl _) (by simp) ?_; (case hd => rfl); (case hg => rfl); (case hr => exact z19_); (case hp => exact z280_)
             intro v300 w148 ho149 hb hg_ hnew_
             clear hg_ hnew_
             (first | rw [← Ny299.out] at ho149 | (simp only [Int.reduceToNat] at ho149; rw [← Ny299.out] at ho149))
             have n0_ := Aside0.mk (Kd.R_elder' z11_ (Kd.R_base ho149) hb)
             have n1_ := Aside0.mk (Kd.R_below z18_ hb)
             have n2_ := Aside0.mk (Kd.R_elder' z27_ (Kd.R_base ho149) hb)
             have n3_ := Aside0.mk (Kd.R_lower (Kd.R_new' (Kd.R_new' ho149 (Kd.R_lt z11_)) (Kd.R_lt z27_)) (below_size z1_))
             have n4_ := Aside0.mk (blk_below (g := gb270) (o := .cells #[.slice A0_0 l0_0.length c0_0] 28 (0, 0)) z6_ hb)
             have n5_ := Aside0.mk (blk_below (g := gb271) (o := .cells #[.slice none 0 0] 28 (0, 0)) z8_ hb)
             have n6_ := Aside0.mk (blk_below (g := gb275) (o := .cells #[.slice (some ⟨go78, 0, none⟩) x276000_60.length co78] 28 (0, 0)) z13_ hb)
             have n7_ := Aside0.mk (Kd.C_below z51_ hb)
             have n8_ := Aside0.mk (Kd.C_below z41_ hb)
             have n9_ := Aside0.mk (below_step z1_ hb)
             clear HO_13
             clear HO_276000
             clear HO298
             clear BK270
             clear BK271
             clear BK275
             clear HR295
             clear HR305
             clear HB
             have HO_13 := n0_
             have HO_276000 := n1_
             have HO298 := n2_
             have HO301 := n3_
             have BK270 := n4_
             have BK271 := n5_
             have BK275 := n6_
             have HR295 := n7_
             have HR305 := n8_
             have HB := n9_
             clear n0_ n1_ n2_ n3_ n4_ n5_ n6_ n7_ n8_ n9_
             clear hb ho149
             refine hK.out _ _ trivial (fun hHeld => ?_)
             clear hK K
             refine zn_ rfl ?_
             refine two_ (i := 4) (j := 6) (Ni := some 86) (Nj := some 88) #[true, true, true, true, true, true, false, false, true, true, true, true, true, false, false] #[true, true, true, true, false, true, true, false, true, true, true, true, true, false, false] rfl rfl rfl rfl (two_of HT_.out (by kernel_rfl)) (by decide) (by decide) (fun K hK => ?_) (fun K hK => ?_)
             ·skip
              refine Kd.R_append_rows_step (Kd.int .i64) (w0 := w) w.heap.size (by rfl) (.tmp 82) (.tmp 85) 49 3 (.int .i64 0) 8 rfl Try.underlying49 info3 rfl (by decide) (by omega) v300 y299 y302 _ _ _ (fun k_ => some k_ ≠ (.slice Ao144 t278.length co144 : Value).ownBlock ∧ some k_ ≠ (v297 : Value).ownBlock) (fun _ => False) rfl rfl ?aO ?aR (fun _ _ h => h) (fun _ h => h.elim) ?aF ?aB ?aS ?aL ?_
              (case aR => exact z59_)
              (case aB => exact z43_)
              (case aF => exact z139_)
              (case aO => exact z241_)
              (case aS => exact z42_)
              (case aL => exact z307_)
              intro v307 w150 ho hb hg hat
              rw [← Ny306.out] at ho
              have n0_ := Aside0.mk (Kd.R_after (ok := (fun k_ => some k_ ≠ (v297 : Value).ownBlock)) z86_ hg hat)
              have n1_ := Aside0.mk (Kd.R_over' z18_ (Kd.R_typed z93_) (by decide) hg)
              have n2_ := Aside0.mk (blk_grown (g := gb270) (o := .cells #[.slice A0_0 l0_0.length c0_0] 28 (0, 0)) z6_ hg (Kd.R_ne HO301.out BK270.out (by decide)))
              have n3_ := Aside0.mk (blk_grown (g := gb271) (o := .cells #[.slice none 0 0] 28 (0, 0)) z8_ hg (Kd.R_ne HO301.out BK271.out (by decide)))
              have n4_ := Aside0.mk (blk_grown (g := gb275) (o := .cells #[.slice (some ⟨go78, 0, none⟩) x276000_60.length co78] 28 (0, 0)) z13_ hg (Kd.R_ne HO301.out BK275.out (by decide)))
              have n5_ := Aside0.mk (Kd.R_after (ok := (fun k_ => some k_ ≠ (.slice Ao144 t278.length co144 : Value).ownBlock)) z27_ hg hat)
              have n6_ := Aside0.mk (hb)
              have n7_ := Aside0.mk ((show Kd.C (Kd.int .i64) w150 A143 y292.length y292 from by rw [Ny292.out, KA143.out]; exact Kd.C_mid (lo := (a2 : Int).toNat) (hi := ((ji88) : Int).toNat) (c := co144) ((Kd.R_reads' (Kd.R_after (ok := (fun k_ => some k_ ≠ (v297 : Value).ownBlock)) z86_ hg hat)).2.2) KM143.out KL143.out ((Kd.R_reads' (Kd.R_after (ok := (fun k_ => some k_ ≠ (v297 : Value).ownBlock)) z86_ hg hat)).2.1)))
              have n8_ := Aside0.mk ((show Kd.C (Kd.int .i64) w150 Ao144 y302.length y302 from by rw [Ny302.out]; exact Kd.C_take (m := (a2 : Int).toNat) ((Kd.R_reads' (Kd.R_after (ok := (fun k_ => some k_ ≠ (v297 : Value).ownBlock)) z86_ hg hat)).2.2) KL147.out))
              have n9_ := Aside0.mk (ho)
              clear HO_13
              clear HO_276000
              clear BK270
              clear BK271
              clear BK275
              clear HO298
              clear HB
              clear HR295
              clear HR305
              clear HO301
              have HO_13 := n0_
              have HO_276000 := n1_
              have BK270 := n2_
              have BK271 := n3_
              have BK275 := n4_
              have HO298 := n5_
              have HB := n6_
              have HR295 := n7_
              have HR305 := n8_
              have HO308 := n9_
              clear n0_ n1_ n2_ n3_ n4_ n5_ n6_ n7_ n8_ n9_
              clear ho hb hg hat
              refine hK.out _ _ trivial (fun hHeld => ?_)
              clear hK K
              refine zn_ rfl ?_
              refine one_ (i := 6) (N := some 88) (ra_ [7, 1, 5, 2]) rfl rfl (one_of HT_.out (by kernel_rfl)) (by decide) (fun K hK => ?_)
              refine Kd.R_lit_step (Kd.int .i64) _ 3 ?hg (N := 88) ?hd (xs := ([t283] : List Int)) (inner := [.int .i64 t283]) (ok := fun _ => True) (okp := fun _ => True) ?hr ?hp (fun _ hk => hk) trivial (Below.refl _ _) (Nat.le_refl _) (by simp) ?_; (case hd => rfl); (case hg => rfl); (case hr => exact z19_); (case hp => exact z144_)
              intro v310 w151 ho152 hb hg_ hnew_
              clear hg_ hnew_
              (first | rw [← Ny309.out] at ho152 | (simp only [Int.reduceToNat] at ho152; rw [← Ny309.out] at ho152))
              have n0_ := Aside0.mk (Kd.R_elder' z11_ (Kd.R_base ho152) hb)
              have n1_ := Aside0.mk (Kd.R_below z18_ hb)
              have n2_ := Aside0.mk (Kd.R_elder' z27_ (Kd.R_base ho152) hb)
              have n3_ := Aside0.mk (Kd.R_elder' z131_ (Kd.R_base ho152) hb)
              have n4_ := Aside0.mk (Kd.R_lower (Kd.R_new' (Kd.R_new' (Kd.R_new' ho152 (Kd.R_lt z11_)) (Kd.R_lt z27_)) (Kd.R_lt z131_)) (below_size z1_))
              have n5_ := Aside0.mk (blk_below (g := gb270) (o := .cells #[.slice A0_0 l0_0.length c0_0] 28 (0, 0)) z6_ hb)
              have n6_ := Aside0.mk (blk_below (g := gb271) (o := .cells #[.slice none 0 0] 28 (0, 0)) z8_ hb)
              have n7_ := Aside0.mk (blk_below (g := gb275) (o := .cells #[.slice (some ⟨go78, 0, none⟩) x276000_60.length co78] 28 (0, 0)) z13_ hb)
              have n8_ := Aside0.mk (Kd.C_below z51_ hb)
              have n9_ := Aside0.mk (Kd.C_below z41_ hb)
              have n10_ := Aside0.mk (below_step z1_ hb)
              clear HO_13
              clear HO_276000
              clear HO298
              clear HO308
              clear BK270
              clear BK271
              clear BK275
              clear HR295
              clear HR305
              clear HB
              have HO_13 := n0_
              have HO_276000 := n1_
              have HO298 := n2_
              have HO308 := n3_
              have HO311 := n4_
              have BK270 := n5_
              have BK271 := n6_
              have BK275 := n7_
              have HR295 := n8_
              have HR305 := n9_
              have HB := n10_
              clear n0_ n1_ n2_ n3_ n4_ n5_ n6_ n7_ n8_ n9_ n10_
              clear hb ho152
              refine hK.out _ _ trivial (fun hHeld => ?_)
              clear hK K
              refine zn_ rfl ?_
              exact norm_ z106_ (hCont (v300, v307, v310) _ ⟨z243_, z244_, z240_, z245_, z18_, z6_, z8_, z13_, z1_⟩)
             ·skip
              refine Kd.R_lit_step (Kd.int .i64) _ 3 ?hg (N := 88) ?hd (xs := ([t283] : List Int)) (inner := [.int .i64 t283]) (ok := fun _ => True) (okp := fun _ => True) ?hr ?hp (fun _ hk => hk) trivial (Below.refl _ _) (Nat.le_refl _) (by simp) ?_; (case hd => rfl); (case hg => rfl); (case hr => exact z19_); (case hp => exact z144_)
              intro v310 w150 ho151 hb hg_ hnew_
              clear hg_ hnew_
              (first | rw [← Ny309.out] at ho151 | (simp only [Int.reduceToNat] at ho151; rw [← Ny309.out] at ho151))
              have n0_ := Aside0.mk (Kd.R_elder' z11_ (Kd.R_base ho151) hb)
              have n1_ := Aside0.mk (Kd.R_below z18_ hb)
              have n2_ := Aside0.mk (Kd.R_elder' z27_ (Kd.R_base ho151) hb)
              have n3_ := Aside0.mk (Kd.R_elder' z93_ (Kd.R_base ho151) hb)
              have n4_ := Aside0.mk (Kd.R_lower (Kd.R_new' (Kd.R_new' (Kd.R_new' ho151 (Kd.R_lt z11_)) (Kd.R_lt z27_)) (Kd.R_lt z93_)) (below_size z1_))
              have n5_ := Aside0.mk (blk_below (g := gb270) (o := .cells #[.slice A0_0 l0_0.length c0_0] 28 (0, 0)) z6_ hb)
              have n6_ := Aside0.mk (blk_below (g := gb271) (o := .cells #[.slice none 0 0] 28 (0, 0)) z8_ hb)
              have n7_ := Aside0.mk (blk_below (g := gb275) (o := .cells #[.slice (some ⟨go78, 0, none⟩) x276000_60.length co78] 28 (0, 0)) z13_ hb)
              have n8_ := Aside0.mk (Kd.C_below z51_ hb)
              have n9_ := Aside0.mk (Kd.C_below z41_ hb)
              have n10_ := Aside0.mk (below_step z1_ hb)
              clear HO_13
              clear HO_276000
              clear HO298
              clear HO301
              clear BK270
              clear BK271
              clear BK275
              clear HR295
              clear HR305
              clear HB
              have HO_13 := n0_
              have HO_276000 := n1_
              have HO298 := n2_
              have HO301 := n3_
              have HO311 := n4_
              have BK270 := n5_
              have BK271 := n6_
              have BK275 := n7_
              have HR295 := n8_
              have HR305 := n9_
              have HB := n10_
              clear n0_ n1_ n2_ n3_ n4_ n5_ n6_ n7_ n8_ n9_ n10_
              clear hb ho151
              refine hK.out _ _ trivial (fun hHeld => ?_)
              clear hK K
              refine zn_ rfl ?_
              refine one_ (i := 4) (N := some 86) (ra_ [7, 1, 5, 2]) rfl rfl (one_of HT_.out (by kernel_rfl)) (by decide) (fun K hK => ?_)
              refine Kd.R_append_rows_step (Kd.int .i64) (w0 := w) w.heap.size (by rfl) (.tmp 82) (.tmp 85) 49 3 (.int .i64 0) 8 rfl Try.underlying49 info3 rfl (by decide) (by omega) v300 y299 y302 _ _ _ (fun k_ => some k_ ≠ (.slice Ao144 t278.length co144 : Value).ownBlock ∧ some k_ ≠ (v297 : Value).ownBlock ∧ some k_ ≠ (v310 : Value).ownBlock) (fun _ => False) rfl rfl ?aO ?aR (fun _ _ h => h) (fun _ h => h.elim) ?aF ?aB ?aS ?aL ?_
              (case aR => exact z59_)
              (case aB => exact z43_)
              (case aF => exact z34_)
              (case aO => exact z128_)
              (case aS => exact z42_)
              (case aL => exact z307_)
              intro v307 w152 ho hb hg hat
              rw [← Ny306.out] at ho
              have n0_ := Aside0.mk (Kd.R_after (ok := (fun k_ => some k_ ≠ (v297 : Value).ownBlock ∧ some k_ ≠ (v310 : Value).ownBlock)) z80_ hg hat)
              have n1_ := Aside0.mk (Kd.R_over' z18_ (Kd.R_typed z93_) (by decide) hg)
              have n2_ := Aside0.mk (blk_grown (g := gb270) (o := .cells #[.slice A0_0 l0_0.length c0_0] 28 (0, 0)) z6_ hg (Kd.R_ne HO301.out BK270.out (by decide)))
              have n3_ := Aside0.mk (blk_grown (g := gb271) (o := .cells #[.slice none 0 0] 28 (0, 0)) z8_ hg (Kd.R_ne HO301.out BK271.out (by decide)))
              have n4_ := Aside0.mk (blk_grown (g := gb275) (o := .cells #[.slice (some ⟨go78, 0, none⟩) x276000_60.length co78] 28 (0, 0)) z13_ hg (Kd.R_ne HO301.out BK275.out (by decide)))
              have n5_ := Aside0.mk (Kd.R_after (ok := (fun k_ => some k_ ≠ (.slice Ao144 t278.length co144 : Value).ownBlock ∧ some k_ ≠ (v310 : Value).ownBlock)) z246_ hg hat)
              have n6_ := Aside0.mk (Kd.R_after (ok := (fun k_ => some k_ ≠ (.slice Ao144 t278.length co144 : Value).ownBlock ∧ some k_ ≠ (v297 : Value).ownBlock)) z133_ hg hat)
              have n7_ := Aside0.mk (hb)
              have n8_ := Aside0.mk ((show Kd.C (Kd.int .i64) w152 A143 y292.length y292 from by rw [Ny292.out, KA143.out]; exact Kd.C_mid (lo := (a2 : Int).toNat) (hi := ((ji88) : Int).toNat) (c := co144) ((Kd.R_reads' (Kd.R_after (ok := (fun k_ => some k_ ≠ (v297 : Value).ownBlock ∧ some k_ ≠ (v310 : Value).ownBlock)) z80_ hg hat)).2.2) KM143.out KL143.out ((Kd.R_reads' (Kd.R_after (ok := (fun k_ => some k_ ≠ (v297 : Value).ownBlock ∧ some k_ ≠ (v310 : Value).ownBlock)) z80_ hg hat)).2.1)))
              have n9_ := Aside0.mk ((show Kd.C (Kd.int .i64) w152 Ao144 y302.length y302 from by rw [Ny302.out]; exact Kd.C_take (m := (a2 : Int).toNat) ((Kd.R_reads' (Kd.R_after (ok := (fun k_ => some k_ ≠ (v297 : Value).ownBlock ∧ some k_ ≠ (v310 : Value).ownBlock)) z80_ hg hat)).2.2) KL147.out))
              have n10_ := Aside0.mk (ho)
              clear HO_13
              clear HO_276000
              clear BK270
              clear BK271
              clear BK275
              clear HO298
              clear HO311
              clear HB
              clear HR295
              clear HR305
              clear HO301
              have HO_13 := n0_
              have HO_276000 := n1_
              have BK270 := n2_
              have BK271 := n3_
              have BK275 := n4_
              have HO298 := n5_
              have HO311 := n6_
              have HB := n7_
              have HR295 := n8_
              have HR305 := n9_
              have HO308 := n10_
              clear n0_ n1_ n2_ n3_ n4_ n5_ n6_ n7_ n8_ n9_ n10_
              clear ho hb hg hat
              refine hK.out _ _ trivial (fun hHeld => ?_)
              clear hK K
              refine zn_ rfl ?_
              exact norm_ z106_ (hCont (v300, v307, v310) _ ⟨z134_, z135_, z136_, z137_, z18_, z6_, z8_, z13_, z1_⟩)
            ·skip
             refine Kd.R_lit_step (Kd.int .i64) _ 3 ?hg (N := 88) ?hd (xs := ([t283] : List Int)) (inner := [.int .i64 t283]) (ok := fun _ => True) (okp := fun _ => True) ?hr ?hp (fun _ hk => hk) trivial (Below.refl _ _) (Nat.le_refl _) (by simp) ?_; (case hd => rfl); (case hg => rfl); (case hr => exact z19_); (case hp => exact z144_)
             intro v310 w148 ho149 hb hg_ hnew_
             clear hg_ hnew_
             (first | rw [← Ny309.out] at ho149 | (simp only [Int.reduceToNat] at ho149; rw [← Ny309.out] at ho149))
             have n0_ := Aside0.mk (Kd.R_elder' z11_ (Kd.R_base ho149) hb)
             have n1_ := Aside0.mk (Kd.R_below z18_ hb)
             have n2_ := Aside0.mk (Kd.R_elder' z27_ (Kd.R_base ho149) hb)
             have n3_ := Aside0.mk (Kd.R_lower (Kd.R_new' (Kd.R_new' ho149 (Kd.R_lt z11_)) (Kd.R_lt z27_)) (below_size z1_))
             have n4_ := Aside0.mk (blk_below (g := gb270) (o := .cells #[.slice A0_0 l0_0.length c0_0] 28 (0, 0)) z6_ hb)
             have n5_ := Aside0.mk (blk_below (g := gb271) (o := .cells #[.slice none 0 0] 28 (0, 0)) z8_ hb)
             have n6_ := Aside0.mk (blk_below (g := gb275) (o := .cells #[.slice (some ⟨go78, 0, none⟩) x276000_60.length co78] 28 (0, 0)) z13_ hb)
             have n7_ := Aside0.mk (Kd.C_below z51_ hb)
             have n8_ := Aside0.mk (Kd.C_below z41_ hb)
             have n9_ := Aside0.mk (below_step z1_ hb)
             clear HO_13
             clear HO_276000
             clear HO298
             clear BK270
             clear BK271
             clear BK275
             clear HR295
             clear HR305
             clear HB
             have HO_13 := n0_
             have HO_276000 := n1_
             have HO298 := n2_
             have HO311 := n3_
             have BK270 := n4_
             have BK271 := n5_
             have BK275 := n6_
             have HR295 := n7_
             have HR305 := n8_
             have HB := n9_
             clear n0_ n1_ n2_ n3_ n4_ n5_ n6_ n7_ n8_ n9_
             clear hb ho149
             refine hK.out _ _ trivial (fun hHeld => ?_)
             clear hK K
             refine zn_ rfl ?_
             refine one_ (i := 0) (N := some 82) (ra_ [4, 1, 2, 1, 5, 2]) rfl rfl (one_of HT_.out (by kernel_rfl)) (by decide) (fun K hK => ?_)
             refine Kd.R_lit_step (Kd.int .i64) _ 3 ?hg (N := 82) ?hd (xs := ([] : List Int)) (inner := []) (ok := fun _ => True) (okp := fun _ => True) ?hr ?hp (fun _ hk => hk) trivial (Below.refl _ _) (Nat.le_refl _) (by simp) ?_; (case hd => rfl); (case hg => rfl); (case hr => exact z19_); (case hp => exact z280_)
             intro v300 w150 ho151 hb hg_ hnew_
             clear hg_ hnew_
             (first | rw [← Ny299.out] at ho151 | (simp only [Int.reduceToNat] at ho151; rw [← Ny299.out] at ho151))
             have n0_ := Aside0.mk (Kd.R_elder' z11_ (Kd.R_base ho151) hb)
             have n1_ := Aside0.mk (Kd.R_below z18_ hb)
             have n2_ := Aside0.mk (Kd.R_elder' z27_ (Kd.R_base ho151) hb)
             have n3_ := Aside0.mk (Kd.R_elder' z61_ (Kd.R_base ho151) hb)
             have n4_ := Aside0.mk (Kd.R_lower (Kd.R_new' (Kd.R_new' (Kd.R_new' ho151 (Kd.R_lt z11_)) (Kd.R_lt z27_)) (Kd.R_lt z61_)) (below_size z1_))
             have n5_ := Aside0.mk (blk_below (g := gb270) (o := .cells #[.slice A0_0 l0_0.length c0_0] 28 (0, 0)) z6_ hb)
             have n6_ := Aside0.mk (blk_below (g := gb271) (o := .cells #[.slice none 0 0] 28 (0, 0)) z8_ hb)
             have n7_ := Aside0.mk (blk_below (g := gb275) (o := .cells #[.slice (some ⟨go78, 0, none⟩) x276000_60.length co78] 28 (0, 0)) z13_ hb)
             have n8_ := Aside0.mk (Kd.C_below z51_ hb)
             have n9_ := Aside0.mk (Kd.C_below z41_ hb)
             have n10_ := Aside0.mk (below_step z1_ hb)
             clear HO_13
             clear HO_276000
             clear HO298
             clear HO311
             clear BK270
             clear BK271
             clear BK275
             clear HR295
             clear HR305
             clear HB
             have HO_13 := n0_
             have HO_276000 := n1_
             have HO298 := n2_
             have HO311 := n3_
             have HO301 := n4_
             have BK270 := n5_
             have BK271 := n6_
             have BK275 := n7_
             have HR295 := n8_
             have HR305 := n9_
             have HB := n10_
             clear n0_ n1_ n2_ n3_ n4_ n5_ n6_ n7_ n8_ n9_ n10_
             clear hb ho151
             refine hK.out _ _ trivial (fun hHeld => ?_)
             clear hK K
             refine zn_ rfl ?_
             refine one_ (i := 4) (N := some 86) (ra_ [7, 1, 5, 2]) rfl rfl (one_of HT_.out (by kernel_rfl)) (by decide) (fun K hK => ?_)
             refine Kd.R_append_rows_step (Kd.int .i64) (w0 := w) w.heap.size (by rfl) (.tmp 82) (.tmp 85) 49 3 (.int .i64 0) 8 rfl Try.underlying49 info3 rfl (by decide) (by omega) v300 y299 y302 _ _ _ (fun k_ => some k_ ≠ (.slice Ao144 t278.length co144 : Value).ownBlock ∧ some k_ ≠ (v297 : Value).ownBlock ∧ some k_ ≠ (v310 : Value).ownBlock) (fun _ => False) rfl rfl ?aO ?aR (fun _ _ h => h) (fun _ h => h.elim) ?aF ?aB ?aS ?aL ?_
             (case aR => exact z59_)
             (case aB => exact z43_)
             (case aF => exact z34_)
             (case aO => exact z128_)
             (case aS => exact z42_)
             (case aL => exact z307_)
             intro v307 w152 ho hb hg hat
             rw [← Ny306.out] at ho
             have n0_ := Aside0.mk (Kd.R_after (ok := (fun k_ => some k_ ≠ (v297 : Value).ownBlock ∧ some k_ ≠ (v310 : Value).ownBlock)) z81_ hg hat)
             have n1_ := Aside0.mk (Kd.R_over' z18_ (Kd.R_typed z93_) (by decide) hg)
             have n2_ := Aside0.mk (blk_grown (g := gb270) (o := .cells #[.slice A0_0 l0_0.length c0_0] 28 (0, 0)) z6_ hg (Kd.R_ne HO301.out BK270.out (by decide)))
             have n3_ := Aside0.mk (blk_grown (g := gb271) (o := .cells #[.slice none 0 0] 28 (0, 0)) z8_ hg (Kd.R_ne HO301.out BK271.out (by decide)))
             have n4_ := Aside0.mk (blk_grown (g := gb275) (o := .cells #[.slice (some ⟨go78, 0, none⟩) x276000_60.length co78] 28 (0, 0)) z13_ hg (Kd.R_ne HO301.out BK275.out (by decide)))
             have n5_ := Aside0.mk (Kd.R_after (ok := (fun k_ => some k_ ≠ (.slice Ao144 t278.length co144 : Value).ownBlock ∧ some k_ ≠ (v310 : Value).ownBlock)) z27_ hg hat)
             have n6_ := Aside0.mk (Kd.R_after (ok := (fun k_ => some k_ ≠ (.slice Ao144 t278.length co144 : Value).ownBlock ∧ some k_ ≠ (v297 : Value).ownBlock)) z133_ hg hat)
             have n7_ := Aside0.mk (hb)
             have n8_ := Aside0.mk ((show Kd.C (Kd.int .i64) w152 A143 y292.length y292 from by rw [Ny292.out, KA143.out]; exact Kd.C_mid (lo := (a2 : Int).toNat) (hi := ((ji88) : Int).toNat) (c := co144) ((Kd.R_reads' (Kd.R_after (ok := (fun k_ => some k_ ≠ (v297 : Value).ownBlock ∧ some k_ ≠ (v310 : Value).ownBlock)) z81_ hg hat)).2.2) KM143.out KL143.out ((Kd.R_reads' (Kd.R_after (ok := (fun k_ => some k_ ≠ (v297 : Value).ownBlock ∧ some k_ ≠ (v310 : Value).ownBlock)) z81_ hg hat)).2.1)))
             have n9_ := Aside0.mk ((show Kd.C (Kd.int .i64) w152 Ao144 y302.length y302 from by rw [Ny302.out]; exact Kd.C_take (m := (a2 : Int).toNat) ((Kd.R_reads' (Kd.R_after (ok := (fun k_ => some k_ ≠ (v297 : Value).ownBlock ∧ some k_ ≠ (v310 : Value).ownBlock)) z81_ hg hat)).2.2) KL147.out))
             have n10_ := Aside0.mk (ho)
             clear HO_13
             clear HO_276000
             clear BK270
             clear BK271
             clear BK275
             clear HO298
             clear HO311
             clear HB
             clear HR295
             clear HR305
             clear HO301
             have HO_13 := n0_
             have HO_276000 := n1_
             have BK270 := n2_
             have BK271 := n3_
             have BK275 := n4_
             have HO298 := n5_
             have HO311 := n6_
             have HB := n7_
             have HR295 := n8_
             have HR305 := n9_
             have HO308 := n10_
             clear n0_ n1_ n2_ n3_ n4_ n5_ n6_ n7_ n8_ n9_ n10_
             clear ho hb hg hat
             refine hK.out _ _ trivial (fun hHeld => ?_)
             clear hK K
             refine zn_ rfl ?_
             exact norm_ z106_ (hCont (v300, v307, v310) _ ⟨z134_, z135_, z136_, z137_, z18_, z6_, z8_, z13_, z1_⟩)
           rintro ⟨v300, v307, v310⟩ w153 ⟨h0_, h1_, h2_, h3_, h4_, h5_, h6_, h7_, h8_⟩
           have n0_ : Aside0 (Kd.R (Kd.int .i64) 3 w153 w.heap.size (fun k_ => some k_ ≠ (v307 : Value).ownBlock ∧ some k_ ≠ (v310 : Value).ownBlock ∧ some k_ ≠ (.slice Ao144 t278.length co144 : Value).ownBlock) v297 y296) := ⟨h0_⟩
           have n1_ : Aside0 (Kd.R (Kd.int .i64) 3 w153 w.heap.size (fun k_ => some k_ ≠ (v297 : Value).ownBlock ∧ some k_ ≠ (v310 : Value).ownBlock ∧ some k_ ≠ (.slice Ao144 t278.length co144 : Value).ownBlock) v307 y306) := ⟨h1_⟩
           have n2_ : Aside0 (Kd.R (Kd.int .i64) 3 w153 w.heap.size (fun k_ => some k_ ≠ (v297 : Value).ownBlock ∧ some k_ ≠ (v307 : Value).ownBlock ∧ some k_ ≠ (.slice Ao144 t278.length co144 : Value).ownBlock) v310 y309) := ⟨h2_⟩
           have n3_ : Aside0 (Kd.R (Kd.int .i64) 3 w153 w.heap.size (fun k_ => some k_ ≠ (v297 : Value).ownBlock ∧ some k_ ≠ (v307 : Value).ownBlock ∧ some k_ ≠ (v310 : Value).ownBlock) (.slice Ao144 t278.length co144) t278) := ⟨h3_⟩
           have n4_ : Aside0 (Kd.R k72 72 w153 w.heap.size (fun _ => True) (.slice (some ⟨go78, 0, none⟩) x276000_60.length co78) y288) := ⟨h4_⟩
           have n5_ : Aside0 (w153.heap[gb270]? = some (.cells #[.slice A0_0 l0_0.length c0_0] 28 (0, 0))) := ⟨h5_⟩
           have n6_ : Aside0 (w153.heap[gb271]? = some (.cells #[.slice none 0 0] 28 (0, 0))) := ⟨h6_⟩
           have n7_ : Aside0 (w153.heap[gb275]? = some (.cells #[.slice (some ⟨go78, 0, none⟩) x276000_60.length co78] 28 (0, 0))) := ⟨h7_⟩
           have n8_ : Aside0 (Below w.heap.size w w153) := ⟨h8_⟩
           clear HO_13
           clear HO_276000
           clear HO298
           clear BK270
           clear BK271
           clear BK275
           clear HR295
           clear HB
           clear h0_ h1_ h2_ h3_ h4_ h5_ h6_ h7_ h8_
           have HO298 := n0_
           have HO308 := n1_
           have HO311 := n2_
           have HO_13 := n3_
           have HO_276000 := n4_
           have BK270 := n5_
           have BK271 := n6_
           have BK275 := n7_
           have HB := n8_
           clear n0_ n1_ n2_ n3_ n4_ n5_ n6_ n7_ n8_
           have hHeld := trivial
           obtain ⟨Ao155, co155, eo155⟩ := Kd.R_slice HO311.out
           (first | subst eo155 | (injection eo155 with f1_ f2_ f3_; have f4_ := f1_.symm; have f5_ := f3_.symm; clear f1_ f2_ f3_; subst f4_; subst f5_))
           refine norm_ (a' := ?_) ?_ ?_
           rotate_left
           ·simp only [putAll, Act.put, List.setIfInBounds_toArray, List.set_cons_zero, List.set_cons_succ]
            rfl
           refine one_ (i := 7) (N := some 89) (fl_ 15 13) rfl rfl (one_of HT_.out (by kernel_rfl)) (by decide) (fun K hK => ?_)
           refine Kd.R_append_rows_step (Kd.int .i64) (w0 := w) w.heap.size (by rfl) (.tmp 86) (.tmp 88) 49 3 (.int .i64 0) 8 rfl Try.underlying49 info3 rfl (by decide) (by omega) v307 y306 y309 _ _ _ (fun k_ => some k_ ≠ (.slice Ao144 t278.length co144 : Value).ownBlock ∧ some k_ ≠ (v297 : Value).ownBlock ∧ some k_ ≠ (.slice Ao155 y309.length co155 : Value).ownBlock) (fun _ => False) rfl rfl ?aO ?aR (fun _ _ h => h) (fun _ h => h.elim) ?aF ?aB ?aS ?aL ?_
           (case aR => exact z213_)
           (case aB => exact z43_)
           (case aF => exact z34_)
           (case aO => exact z229_)
           (case aS => exact z42_)
           (case aL => have := LMc87.out; omega)
           intro v313 w154 ho hb hg hat
           rw [← Ny312.out] at ho
           have n0_ := Aside0.mk (Kd.R_after (ok := (fun k_ => some k_ ≠ (v297 : Value).ownBlock ∧ some k_ ≠ (.slice Ao155 y309.length co155 : Value).ownBlock)) z248_ hg hat)
           have n1_ := Aside0.mk (Kd.R_over' z18_ (Kd.R_typed z131_) (by decide) hg)
           have n2_ := Aside0.mk (blk_grown (g := gb270) (o := .cells #[.slice A0_0 l0_0.length c0_0] 28 (0, 0)) z6_ hg (Kd.R_ne HO308.out BK270.out (by decide)))
           have n3_ := Aside0.mk (blk_grown (g := gb271) (o := .cells #[.slice none 0 0] 28 (0, 0)) z8_ hg (Kd.R_ne HO308.out BK271.out (by decide)))
           have n4_ := Aside0.mk (blk_grown (g := gb275) (o := .cells #[.slice (some ⟨go78, 0, none⟩) x276000_60.length co78] 28 (0, 0)) z13_ hg (Kd.R_ne HO308.out BK275.out (by decide)))
           have n5_ := Aside0.mk (Kd.R_after (ok := (fun k_ => some k_ ≠ (.slice Ao144 t278.length co144 : Value).ownBlock ∧ some k_ ≠ (.slice Ao155 y309.length co155 : Value).ownBlock)) z249_ hg hat)
           have n6_ := Aside0.mk (Kd.R_after (ok := (fun k_ => some k_ ≠ (.slice Ao144 t278.length co144 : Value).ownBlock ∧ some k_ ≠ (v297 : Value).ownBlock)) z250_ hg hat)
           have n7_ := Aside0.mk (hb)
           have n8_ := Aside0.mk (ho)
           clear HO_13
           clear HO_276000
           clear BK270
           clear BK271
           clear BK275
           clear HO298
           clear HO311
           clear HB
           clear HO308
           have HO_13 := n0_
           have HO_276000 := n1_
           have BK270 := n2_
           have BK271 := n3_
           have BK275 := n4_
           have HO298 := n5_
           have HO311 := n6_
           have HB := n7_
           have HO314 := n8_
           clear n0_ n1_ n2_ n3_ n4_ n5_ n6_ n7_ n8_
           clear ho hb hg hat
           refine hK.out _ _ trivial (fun hHeld => ?_)
           clear hK K
           refine zn_ rfl ?_
           have hroom156 : t278.length ≤ co144 := (Kd.R_reads' HO_13.out).2.1
           have hC156 : Kd.C (Kd.int .i64) _ Ao144 t278.length t278 := (Kd.R_reads' HO_13.out).2.2
           have hr156 := Kd.C_drop (m := ((ji88) : Int).toNat) (c := co144) hC156 (by omega) hroom156
           rw [show (t278).drop ((ji88) : Int).toNat = y315 from Ny315.out.symm] at hr156
           replace hr156 : Kd.C (Kd.int .i64) _ A156 y315.length y315 := (by rw [KA156.out]; exact hr156)
           have HR318 := Aside0.mk hr156
           clear hroom156 hC156 hr156
           refine one_ (i := 13) (N := some 95) (fl_ 15 14) rfl rfl (one_of HT_.out (by kernel_rfl)) (by decide) (fun K hK => ?_)
           refine Kd.R_append_rows_step (Kd.int .i64) (w0 := w) w.heap.size (by rfl) (.tmp 89) (.tmp 94) 49 3 (.int .i64 0) 8 rfl Try.underlying49 info3 rfl (by decide) (by omega) v313 y312 y315 _ _ _ (fun k_ => some k_ ≠ (.slice Ao144 t278.length co144 : Value).ownBlock ∧ some k_ ≠ (v297 : Value).ownBlock ∧ some k_ ≠ (.slice Ao155 y309.length co155 : Value).ownBlock) (fun _ => False) rfl rfl ?aO ?aR (fun _ _ h => h) (fun _ h => h.elim) ?aF ?aB ?aS ?aL ?_
           (case aR => exact z127_)
           (case aB => exact z43_)
           (case aF => exact z34_)
           (case aO => exact z278_)
           (case aS => exact z42_)
           (case aL => have := LMc91.out; omega)
           intro v320 w157 ho hb hg hat
           rw [← Ny319.out] at ho
           have n0_ := Aside0.mk (Kd.R_after (ok := (fun k_ => some k_ ≠ (v297 : Value).ownBlock ∧ some k_ ≠ (.slice Ao155 y309.length co155 : Value).ownBlock)) z11_ hg hat)
           have n1_ := Aside0.mk (Kd.R_over' z18_ (Kd.R_typed z194_) (by decide) hg)
           have n2_ := Aside0.mk (blk_grown (g := gb270) (o := .cells #[.slice A0_0 l0_0.length c0_0] 28 (0, 0)) z6_ hg (Kd.R_ne HO314.out BK270.out (by decide)))
           have n3_ := Aside0.mk (blk_grown (g := gb271) (o := .cells #[.slice none 0 0] 28 (0, 0)) z8_ hg (Kd.R_ne HO314.out BK271.out (by decide)))
           have n4_ := Aside0.mk (blk_grown (g := gb275) (o := .cells #[.slice (some ⟨go78, 0, none⟩) x276000_60.length co78] 28 (0, 0)) z13_ hg (Kd.R_ne HO314.out BK275.out (by decide)))
           have n5_ := Aside0.mk (Kd.R_after (ok := (fun k_ => some k_ ≠ (.slice Ao144 t278.length co144 : Value).ownBlock ∧ some k_ ≠ (.slice Ao155 y309.length co155 : Value).ownBlock)) z27_ hg hat)
           have n6_ := Aside0.mk (Kd.R_after (ok := (fun k_ => some k_ ≠ (.slice Ao144 t278.length co144 : Value).ownBlock ∧ some k_ ≠ (v297 : Value).ownBlock)) z61_ hg hat)
           have n7_ := Aside0.mk (hb)
           have n8_ := Aside0.mk ((show Kd.C (Kd.int .i64) w157 A156 y315.length y315 from by rw [Ny315.out, KA156.out]; exact Kd.C_drop (m := ((ji88) : Int).toNat) (c := co144) ((Kd.R_reads' (Kd.R_after (ok := (fun k_ => some k_ ≠ (v297 : Value).ownBlock ∧ some k_ ≠ (.slice Ao155 y309.length co155 : Value).ownBlock)) z11_ hg hat)).2.2) KL156.out ((Kd.R_reads' (Kd.R_after (ok := (fun k_ => some k_ ≠ (v297 : Value).ownBlock ∧ some k_ ≠ (.slice Ao155 y309.length co155 : Value).ownBlock)) z11_ hg hat)).2.1)))
           have n9_ := Aside0.mk (ho)
           clear HO_13
           clear HO_276000
           clear BK270
           clear BK271
           clear BK275
           clear HO298
           clear HO311
           clear HB
           clear HR318
           clear HO314
           have HO_13 := n0_
           have HO_276000 := n1_
           have BK270 := n2_
           have BK271 := n3_
           have BK275 := n4_
           have HO298 := n5_
           have HO311 := n6_
           have HB := n7_
           have HR318 := n8_
           have HO321 := n9_
           clear n0_ n1_ n2_ n3_ n4_ n5_ n6_ n7_ n8_ n9_
           clear ho hb hg hat
           have hcz158_0 : w157.cell? ⟨gb275, 0, none⟩ = some (.slice (some ⟨go78, 0, none⟩) x276000_60.length co78) := (blk_cell BK275.out 0).trans rfl
           have hfz158_0 := blk_frozen BK275.out 0
           obtain ⟨Ao159, co159, eo159⟩ := Kd.R_slice HO298.out
           subst eo159
           refine hK.out _ _ trivial (fun hHeld => ?_)
           clear hK K
           refine zn_ rfl ?_
           refine zp_ HT_ rfl rfl (by kernel_rfl) (fun _ _ _ h => h) (by rfl) ?_
           refine done_ (done_of HT_.out (by kernel_rfl)) ?_
           try go_wp2_with (first | ((with_reducible refine gate_callee (f := 69) rfl ?_); refine goesL_ (some 99) rfl rfl Try.func69 (by kernel_rfl) rfl #[.agg #[.slice (some ⟨go78, 0, none⟩) x276000_60.length co78], .int .i64 t283, .slice Ao159 y296.length co159] rfl z2_ ?_; (with_reducible refine (spec_l17Set.calls kj60 (fun k_ => some k_ = (.slice (some ⟨go78, 0, none⟩) x276000_60.length co78 : Value).ownBlock) (.slice (some ⟨go78, 0, none⟩) x276000_60.length co78) y288 t283 _ _ y296 t322 w _ ?side1 ?side2 ?side3 ?side4 A92.out).mono ?_); (case side1 => exact z1_); (case side2 => exact z308_); (case side3 => exact z275_); (case side4 => exact (Kd.R_reads' HO298.out).2.1); rintro e w160 ⟨rfl, hy0, hb, hkp⟩; refine ⟨_, rfl, ?_⟩; replace HO_13 := Aside0.mk (Kd.R_mono (ok' := fun k_ => some k_ ≠ (.slice Ao159 y296.length co159 : Value).ownBlock ∧ some k_ ≠ (.slice Ao155 y309.length co155 : Value).ownBlock ∧ some k_ ≠ (v320 : Value).ownBlock) (Kd.R_keptB ((Kd.R_apart' HO_13.out (Kd.R_typed HO_276000.out) (by decide))) hkp (fun k_ hk_ hs_ => (hk_.2) hs_)) (fun k_ hk_ => ⟨hk_.1.1.1.1, hk_.1.1.1.2, hk_.1.1.2⟩)); replace BK270 := Aside0.mk (blk_kept z6_ hkp (fun hs_ => (fun e_ => (Kd.R_ne HO_276000.out BK270.out (by decide)) e_) hs_)); replace BK271 := Aside0.mk (blk_kept z8_ hkp (fun hs_ => (fun e_ => (Kd.R_ne HO_276000.out BK271.out (by decide)) e_) hs_)); replace BK275 := Aside0.mk (blk_kept z13_ hkp (fun hs_ => (fun e_ => (Kd.R_ne HO_276000.out BK275.out (by decide)) e_) hs_)); replace HO298 := Aside0.mk (Kd.R_mono (ok' := fun k_ => some k_ ≠ (.slice Ao144 t278.length co144 : Value).ownBlock ∧ some k_ ≠ (.slice Ao155 y309.length co155 : Value).ownBlock ∧ some k_ ≠ (v320 : Value).ownBlock) (Kd.R_keptB ((Kd.R_apart' HO298.out (Kd.R_typed HO_276000.out) (by decide))) hkp (fun k_ hk_ hs_ => (hk_.2) hs_)) (fun k_ hk_ => ⟨hk_.1.1.1.1, hk_.1.1.1.2, hk_.1.1.2⟩)); replace HO311 := Aside0.mk (Kd.R_mono (ok' := fun k_ => some k_ ≠ (.slice Ao144 t278.length co144 : Value).ownBlock ∧ some k_ ≠ (.slice Ao159 y296.length co159 : Value).ownBlock ∧ some k_ ≠ (v320 : Value).ownBlock) (Kd.R_keptB ((Kd.R_apart' HO311.out (Kd.R_typed HO_276000.out) (by decide))) hkp (fun k_ hk_ hs_ => (hk_.2) hs_)) (fun k_ hk_ => ⟨hk_.1.1.1.1, hk_.1.1.1.2, hk_.1.1.2⟩)); replace HO321 := Aside0.mk (Kd.R_mono (ok' := fun k_ => some k_ ≠ (.slice Ao144 t278.length co144 : Value).ownBlock ∧ some k_ ≠ (.slice Ao159 y296.length co159 : Value).ownBlock ∧ some k_ ≠ (.slice Ao155 y309.length co155 : Value).ownBlock) (Kd.R_keptB ((Kd.R_apart' HO321.out (Kd.R_typed HO_276000.out) (by decide))) hkp (fun k_ hk_ hs_ => (hk_.2) hs_)) (fun k_ hk_ => ⟨hk_.1.1.1, hk_.1.1.2.1, hk_.1.1.2.2⟩)); replace HO_276000 := Aside0.mk (Kd.R_reok rfl hy0 (fun k_ e_ => HO_276000.out.1 k_ e_)); replace HB := Aside0.mk (hb); (try clear hb hkp hy0); have hcz161_0 : w160.cell? ⟨gb275, 0, none⟩ = some (.slice (some ⟨go78, 0, none⟩) x276000_60.length co78) := (blk_cell BK275.out 0).trans rfl; have hfz161_0 := blk_frozen BK275.out 0; obtain ⟨Ao162, co162, eo162⟩ := Kd.R_slice HO321.out; subst eo162) | ((with_reducible refine gate_callee (f := 69) rfl ?_); refine goesL_ (some 103) rfl rfl Try.func69 (by kernel_rfl) rfl #[.agg #[.slice (some ⟨go78, 0, none⟩) x276000_60.length co78], .int .i64 a1, .slice Ao162 y319.length co162] rfl z2_ ?_; (with_reducible refine (spec_l17Set.calls kj60 (fun k_ => some k_ = (.slice (some ⟨go78, 0, none⟩) x276000_60.length co78 : Value).ownBlock) (.slice (some ⟨go78, 0, none⟩) x276000_60.length co78) t322 a1 _ _ y319 t323 w _ ?side1 ?side2 ?side3 ?side4 A93.out).mono ?_); (case side1 => exact z1_); (case side2 => exact z308_); (case side3 => exact z276_); (case side4 => exact (Kd.R_reads' HO321.out).2.1); rintro e w163 ⟨rfl, hy0, hb, hkp⟩; refine ⟨_, rfl, ?_⟩; replace HO_13 := Aside0.mk (Kd.R_mono (ok' := fun k_ => some k_ ≠ (.slice Ao159 y296.length co159 : Value).ownBlock ∧ some k_ ≠ (.slice Ao155 y309.length co155 : Value).ownBlock ∧ some k_ ≠ (.slice Ao162 y319.length co162 : Value).ownBlock) (Kd.R_keptB ((Kd.R_apart' HO_13.out (Kd.R_typed HO_276000.out) (by decide))) hkp (fun k_ hk_ hs_ => (hk_.2) hs_)) (fun k_ hk_ => ⟨hk_.1.1.1, hk_.1.1.2.1, hk_.1.1.2.2⟩)); replace BK270 := Aside0.mk (blk_kept z6_ hkp (fun hs_ => (fun e_ => (Kd.R_ne HO_276000.out BK270.out (by decide)) e_) hs_)); replace BK271 := Aside0.mk (blk_kept z8_ hkp (fun hs_ => (fun e_ => (Kd.R_ne HO_276000.out BK271.out (by decide)) e_) hs_)); replace BK275 := Aside0.mk (blk_kept z13_ hkp (fun hs_ => (fun e_ => (Kd.R_ne HO_276000.out BK275.out (by decide)) e_) hs_)); replace HO298 := Aside0.mk (Kd.R_mono (ok' := fun k_ => some k_ ≠ (.slice Ao144 t278.length co144 : Value).ownBlock ∧ some k_ ≠ (.slice Ao155 y309.length co155 : Value).ownBlock ∧ some k_ ≠ (.slice Ao162 y319.length co162 : Value).ownBlock) (Kd.R_keptB ((Kd.R_apart' HO298.out (Kd.R_typed HO_276000.out) (by decide))) hkp (fun k_ hk_ hs_ => (hk_.2) hs_)) (fun k_ hk_ => ⟨hk_.1.1.1, hk_.1.1.2.1, hk_.1.1.2.2⟩)); replace HO311 := Aside0.mk (Kd.R_mono (ok' := fun k_ => some k_ ≠ (.slice Ao144 t278.length co144 : Value).ownBlock ∧ some k_ ≠ (.slice Ao159 y296.length co159 : Value).ownBlock ∧ some k_ ≠ (.slice Ao162 y319.length co162 : Value).ownBlock) (Kd.R_keptB ((Kd.R_apart' HO311.out (Kd.R_typed HO_276000.out) (by decide))) hkp (fun k_ hk_ hs_ => (hk_.2) hs_)) (fun k_ hk_ => ⟨hk_.1.1.1, hk_.1.1.2.1, hk_.1.1.2.2⟩)); replace HO321 := Aside0.mk (Kd.R_mono (ok' := fun k_ => some k_ ≠ (.slice Ao144 t278.length co144 : Value).ownBlock ∧ some k_ ≠ (.slice Ao159 y296.length co159 : Value).ownBlock ∧ some k_ ≠ (.slice Ao155 y309.length co155 : Value).ownBlock) (Kd.R_keptB ((Kd.R_apart' HO321.out (Kd.R_typed HO_276000.out) (by decide))) hkp (fun k_ hk_ hs_ => (hk_.2) hs_)) (fun k_ hk_ => ⟨hk_.1.1.1, hk_.1.1.2.1, hk_.1.1.2.2⟩)); replace HO_276000 := Aside0.mk (Kd.R_reok rfl hy0 (fun k_ e_ => HO_276000.out.1 k_ e_)); replace HB := Aside0.mk (hb); (try clear hb hkp hy0); have hcz164_0 : w163.cell? ⟨gb275, 0, none⟩ = some (.slice (some ⟨go78, 0, none⟩) x276000_60.length co78) := (blk_cell BK275.out 0).trans rfl; have hfz164_0 := blk_frozen BK275.out 0) | ((with_reducible refine gate_callee (f := 15) rfl ?_); refine goesL_ (some 105) rfl rfl Try.func15 (by kernel_rfl) rfl #[.agg #[.slice (some ⟨go78, 0, none⟩) t323.length co78]] rfl z187_ ?_; (with_reducible refine (spec_DomOk.calls kj60 _ _ t323 false _ ?side1 ?side2 A94.out).mono ?_); (case side1 => exact z205_); (case side2 => exact z269_); rintro e w165 ⟨rfl, hb⟩; refine ⟨_, rfl, ?_⟩; replace HO_13 := Aside0.mk (Kd.R_below z11_ hb); replace HO_276000 := Aside0.mk (Kd.R_below z18_ hb); replace HO298 := Aside0.mk (Kd.R_below z27_ hb); replace HO311 := Aside0.mk (Kd.R_below z61_ hb); replace HO321 := Aside0.mk (Kd.R_below z233_ hb); replace BK270 := Aside0.mk (blk_below (g := gb270) (o := .cells #[.slice A0_0 l0_0.length c0_0] 28 (0, 0)) z6_ hb); replace BK271 := Aside0.mk (blk_below (g := gb271) (o := .cells #[.slice none 0 0] 28 (0, 0)) z8_ hb); replace BK275 := Aside0.mk (blk_below (g := gb275) (o := .cells #[.slice (some ⟨go78, 0, none⟩) x276000_60.length co78] 28 (0, 0)) z13_ hb); replace HB := Aside0.mk (below_step z1_ hb); (try clear hb); have hnb166 := NB270_271.out; have hnc166 := NB271_270.out; have hcz167_0 : w165.cell? ⟨gb270, 0, none⟩ = some (.slice A0_0 l0_0.length c0_0) := (blk_cell BK270.out 0).trans rfl; have hfz167_0 := blk_frozen BK270.out 0) | ((with_reducible refine gate_callee (f := 66) rfl ?_); refine goesL_ (some 108) rfl rfl Try.func66 (by kernel_rfl) rfl #[.agg #[.slice A0_0 l0_0.length c0_0]] rfl z2_ ?_; (with_reducible refine (spec_l16Copy.calls _ _ l0_0 t325 _ ?side1 ?side2 A132.out).mono ?_); (case side1 => exact z9_); (case side2 => exact HC0_0.out); rintro e w168 ⟨v326, rfl, ho0, hb⟩; refine ⟨_, rfl, ?_⟩; replace HO_13 := Aside0.mk (Kd.R_below z11_ hb); replace HO298 := Aside0.mk (Kd.R_below z27_ hb); replace HO311 := Aside0.mk (Kd.R_below z61_ hb); replace HO321 := Aside0.mk (Kd.R_below z233_ hb); have HO327 := Aside0.mk (Kd.R_lower (Kd.R_new' ho0 (Kd.R_lt z18_)) (below_size z1_)); replace HO_276000 := Aside0.mk (Kd.R_elder' z18_ (Kd.R_base ho0) hb); replace BK270 := Aside0.mk (blk_below (g := gb270) (o := .cells #[.slice A0_0 l0_0.length c0_0] 28 (0, 0)) z6_ hb); replace BK271 := Aside0.mk (blk_below (g := gb271) (o := .cells #[.slice none 0 0] 28 (0, 0)) z8_ hb); replace BK275 := Aside0.mk (blk_below (g := gb275) (o := .cells #[.slice (some ⟨go78, 0, none⟩) x276000_60.length co78] 28 (0, 0)) z13_ hb); replace HB := Aside0.mk (below_step z1_ hb); (try clear hb ho0); obtain ⟨Ao169, co169, eo169⟩ := Kd.R_slice HO327.out; subst eo169; have hcz170_0 : w168.cell? ⟨gb271, 0, none⟩ = some (.slice none 0 0) := (blk_cell BK271.out 0).trans rfl; have hfz170_0 := blk_frozen BK271.out 0))
           refine bodyPost_ret (results_ct rfl _ _ gb271 28 #[.slice Ao169 t325.length co169] (0, 0) _ rfl z69_ Try.underlying28 rfl (by kernel_rfl)) rfl ?_
           exact ⟨_, z215_, by (with_reducible repeat (first | apply Kd.R_alloc | apply Kd.R_drewN | apply Kd.R_drew)); exact Kd.R_mono (Kd.R_far (p := ⟨gb271, 0, none⟩) (Kd.R_types HO327.out BK271.out (by decide)) (fun _ hk => hk.2) (.slice Ao169 t325.length co169)) (fun _ hk => trivial), z1_⟩

end Go.Proofs.Ytdapeboajjidmab.PFnExactDomInsert
