/- Laid by a program of this session out of the kit's print for the law FnExactDomInsert: what it says of the machine is proved here, function by function; each contract under the conditions that it names. -/
import Derived.Test.YtdapeboajjidmabMFnExactDomInsertx0
import Derived.Test.YtdapeboajjidmabMFnExactDomInsertx11
import Derived.Test.YtdapeboajjidmabMFnExactDomInsertx14
import Derived.Test.YtdapeboajjidmabMFnExactDomInsertx15
import Derived.Test.YtdapeboajjidmabMFnExactDomInsertx16
namespace Go.Proofs.Ytdapeboajjidmab.PFnExactDomInsert
open Go.RowKit Go.Proofs.YtdapeboajjidmabW.PrintWords Go.Proofs.YtdapeboajjidmabW.PrintLast Go.Proofs.YtdapeboajjidmabW.PrintMore
attribute [local go_sem] max2_int min2_int max_two min_two max_three min_three max_four min_four   -- for this text's walks alone
set_option linter.unusedVariables false
set_option linter.unusedSimpArgs false

/-! ### impl_DomInsert: function 29 -/
mutual
def impl_DomInsert.j0 : Nat → Int → Int → Int → Int → Bool → List (S72) → Option ((List (S72)) × Int)
 | 0, _, _, _, _, _, _ => none
 | k + 1, x1, x2, x3, x4, x23, x449000 => if x23 = true then ((impl_domCopy.f x449000).bind fun t452 => (some (t452, (-1)))) else ((impl_Dom_kids.f k x449000 x1).bind fun t455 => ((impl_within.f x2 0 (t455.length : Int)).bind fun t458 => (if t458 = true then ((impl_within.f x3 0 (wrap64 ((t455.length : Int) - x2))).bind fun t459 => (impl_DomInsert.j1 k x1 x2 x3 x4 t455 (!t459) x449000)) else (impl_DomInsert.j1 k x1 x2 x3 x4 t455 true x449000))))
def impl_DomInsert.j1 : Nat → Int → Int → Int → Int → List Int → Bool → List (S72) → Option ((List (S72)) × Int)
 | 0, _, _, _, _, _, _, _ => none
 | k + 1, x1, x2, x3, x4, x12, x42, x449000 => if x42 = true then ((impl_domCopy.f x449000).bind fun t460 => (some (t460, (-1)))) else ((impl_domCopy.f x449000).bind fun t463 => ((slices_IndexFunc_DomNode.f k t463).bind fun t467 => (if t467 < 0 then ((l16Grow t463).bind fun t468 => (impl_DomInsert.j2 k x1 x2 x3 x4 x12 (t463.length : Int) x449000 t468)) else (impl_DomInsert.j2 k x1 x2 x3 x4 x12 t467 x449000 t463))))
def impl_DomInsert.j2 : Nat → Int → Int → Int → Int → List Int → Int → List (S72) → List (S72) → Option ((List (S72)) × Int)
 | 0, _, _, _, _, _, _, _, _ => none
 | k + 1, x1, x2, x3, x4, x12, x14, x449000, x467000 => if 0 ≤ x14 then (if x14 < (x467000.length : Int) then ((some (x467000.set (x14 : Int).toNat (⟨true, (rd_T72 x467000 x14).f1, (rd_T72 x467000 x14).f2, (rd_T72 x467000 x14).f3, (rd_T72 x467000 x14).f4, (rd_T72 x467000 x14).f5, (rd_T72 x467000 x14).f6⟩ : S72) : List (S72))).bind fun y471 => (if 0 ≤ x2 then (if x2 ≤ (wrap64 (x2 + x3)) then (if (wrap64 (x2 + x3)) ≤ (x12.length : Int) then ((impl_Dom_link.f k (y471.set (x14 : Int).toNat (⟨(rd_T72 y471 x14).f0, x4, (rd_T72 y471 x14).f2, (rd_T72 y471 x14).f3, (rd_T72 y471 x14).f4, (rd_T72 y471 x14).f5, (rd_T72 y471 x14).f6⟩ : S72)) x14 ((x12.take ((wrap64 (x2 + x3)) : Int).toNat).drop (x2 : Int).toNat)).bind fun t478 => (if x2 ≤ (x12.length : Int) then (if 0 ≤ (wrap64 (x2 + x3)) then ((slices_Concat_int.f k (([(x12.take (x2 : Int).toNat), (([x14] : List Int)), (x12.drop ((wrap64 (x2 + x3)) : Int).toNat)] : List (List Int)))).bind fun t495 => ((impl_Dom_link.f k t478 x1 t495).bind fun t498 => ((impl_DomOk.f k t498).bind fun t499 => (if t499 = true then (some (t498, x14)) else ((impl_domCopy.f x449000).bind fun t500 => (some (t500, (-1)))))))) else (none)) else (none))) else (none)) else (none)) else (none))) else (none)) else (none)
end
def impl_DomInsert.f (k : Nat) (l0_0 : List (S72)) (a1 : Int) (a2 : Int) (a3 : Int) (a4 : Int) : Option ((List (S72)) × Int) := (impl_Dom_isLive.f k l0_0 a1).bind fun t450 => (if t450 = true then ((impl_LabelOk.f a4).bind fun t451 => (impl_DomInsert.j0 k a1 a2 a3 a4 (!t451) l0_0)) else (impl_DomInsert.j0 k a1 a2 a3 a4 true l0_0))
def impl_DomInsert.T12 : Bool × List (List Nat × List Nat) := (true, [([], []), ([], []), ([], []), ([], []), ([], []), ([], []), ([4, 5], [4, 5]), ([2, 3, 6], [2, 3, 6]), ([0, 1, 7], [0, 1, 7])])
def impl_DomInsert.B12 : List Nat := [0, 0, 0, 0, 0, 0, 48, 124, 255]
theorem impl_DomInsert.tab12 : rtab .any (opsOf Try.f29 12) = impl_DomInsert.T12 := by kernel_rfl
theorem impl_DomInsert.bits12 : waitsOk impl_DomInsert.T12.2 impl_DomInsert.B12 = true := by kernel_rfl
def impl_DomInsert.T13 : Bool × List (List Nat × List Nat) := (true, [([], []), ([], []), ([], []), ([], []), ([2, 3], [2, 3]), ([], []), ([5], [5]), ([], []), ([], []), ([], []), ([8, 9], [8, 9]), ([7, 10], [7, 10]), ([4, 6, 11], [4, 6, 11]), ([12], [12]), ([0, 1, 13, 13], [0, 1, 13])])
def impl_DomInsert.B13 : List Nat := [0, 0, 0, 0, 12, 0, 32, 0, 0, 0, 768, 1920, 4092, 8188, 16383]
theorem impl_DomInsert.tab13 : rtab .any (opsOf Try.f29 13) = impl_DomInsert.T13 := by kernel_rfl
theorem impl_DomInsert.bits13 : waitsOk impl_DomInsert.T13.2 impl_DomInsert.B13 = true := by kernel_rfl
set_option maxHeartbeats 8000000 in
set_option maxRecDepth 100000 in
theorem impl_DomInsert.calls (k : Nat) (A0_0 : Option Addr) (c0_0 : Nat) (l0_0 : List (S72)) (a1 : Int) (a2 : Int) (a3 : Int) (a4 : Int) (r1 : List (S72)) (r2 : Int) (w : World) (hr0_0 : Kd.C k72 w A0_0 l0_0.length l0_0) (hc0_0 : l0_0.length ≤ c0_0) (h : impl_DomInsert.f k l0_0 a1 a2 a3 a4 = some (r1, r2)) :
  Calls Try.prog 29 #[.agg #[.slice A0_0 l0_0.length c0_0], .int .i64 a1, .int .i64 a2, .int .i64 a3, .int .i64 a4] w fun e w' => ∃ v0_ : Value, e = .returned (.tuple #[.agg #[v0_], .int .i64 r2]) ∧ Kd.R k72 72 w' w.heap.size (fun _ => True) v0_ r1 ∧ Below w.heap.size w w' := by
 have hu28 := Try.underlying28
 have HR0_0 := Aside0.mk hr0_0
 have HC0_0 := Aside0.mk hc0_0
 clear hr0_0 hc0_0
 have HB := Aside0.mk (Below.refl w.heap.size w)
 have H : ((impl_Dom_isLive.f k l0_0 a1).bind fun t450 => (if t450 = true then ((impl_LabelOk.f a4).bind fun t451 => (impl_DomInsert.j0 k a1 a2 a3 a4 (!t451) l0_0)) else (impl_DomInsert.j0 k a1 a2 a3 a4 true l0_0))) = some (r1, r2) := h
 clear h
 have HC6 := Aside0.mk H
 clear H
 go_enter Try.func29, Try.ntmps29
 go_upto_region 1 with (first | ((with_reducible refine gate_dst (N := 5) rfl ?_); (try (refine gate_guard (by rfl) ?_; dsimp only)); refine box_event ?hg (N := 5) ?hd (cs := #[.slice A0_0 l0_0.length c0_0]) (t := 28) ?hr ?_; (case hd => rfl); (case hg => rfl); (case hr => exact z19_); intro gb448 hg w7 hbox hb; have BK448 := Aside0.mk (hbox); have GW448 := Aside0.mk ((by rw [hg]; exact (below_size z0_) : w.heap.size ≤ gb448)); have GE448 := Aside0.mk ((by rw [hg]; exact (below_size z0_) : w.heap.size ≤ gb448)); replace HB := Aside0.mk (below_step z0_ hb); clear hb hbox hg) | ((with_reducible refine gate_dst (N := 10) rfl ?_); (try (refine gate_guard (by rfl) ?_; dsimp only)); refine box_event ?hg (N := 10) ?hd (cs := #[.slice none 0 0]) (t := 28) ?hr ?_; (case hd => rfl); (case hg => rfl); (case hr => exact z19_); intro gb449 hg w8 hbox hb; have BK449 := Aside0.mk (hbox); have GW449 := Aside0.mk ((by rw [hg]; exact (below_size z181_) : w.heap.size ≤ gb449)); have GE449 := Aside0.mk ((by rw [hg]; exact (below_size z181_) : w.heap.size ≤ gb449)); replace HB := Aside0.mk (below_step z181_ hb); have NB448_449 := Aside0.mk ((by rw [hg]; exact Nat.ne_of_lt (blk_lt (g := gb448) (o := .cells #[.slice A0_0 l0_0.length c0_0] 28 (0, 0)) z24_) : gb448 ≠ gb449)); have NB449_448 := Aside0.mk ((by rw [hg]; exact Nat.ne_of_gt (blk_lt (g := gb448) (o := .cells #[.slice A0_0 l0_0.length c0_0] 28 (0, 0)) z24_) : gb449 ≠ gb448)); replace BK448 := Aside0.mk (blk_below (g := gb448) (o := .cells #[.slice A0_0 l0_0.length c0_0] 28 (0, 0)) z24_ hb); clear hb hbox hg))
 go_cut [23] (fun v23 wc => ∃ (kq : Nat) (x23_5 : Bool), v23 = .bool x23_5 ∧ Aside0 (impl_DomInsert.j0 kq a1 a2 a3 a4 x23_5 l0_0 = some (r1, r2)) ∧ Aside0 (kq ≤ k) ∧ Aside0 (wc.heap[gb448]? = some (.cells #[(.slice A0_0 l0_0.length c0_0)] 28 (0, 0))) ∧ Aside0 (wc.heap[gb449]? = some (.cells #[(.slice none 0 0)] 28 (0, 0))) ∧ Aside0 (Below w.heap.size w wc))
 case first =>
  have H := HC6.out
  clear HC6
  obtain ⟨t450, A9, H⟩ := bnd_ H
  by_cases c10 : t450 = true
  ·subst c10
   replace H := ift_ H
   obtain ⟨t451, A11, H⟩ := bnd_ H
   have H' := Aside0.mk H
   clear H
   have hnb12 := NB448_449.out
   have hnc12 := NB449_448.out
   have hcz13_0 : w8.cell? ⟨gb448, 0, none⟩ = some (.slice A0_0 l0_0.length c0_0) := (blk_cell BK448.out 0).trans rfl
   have hfz13_0 := blk_frozen BK448.out 0
   go_wp2_with (first | ((with_reducible refine gate_callee (f := 72) rfl ?_); refine goesL_ (some 17) rfl rfl Try.func72 (by kernel_rfl) rfl #[.agg #[.slice A0_0 l0_0.length c0_0], .int .i64 a1] rfl z2_ ?_; (with_reducible refine (impl_Dom_isLive.calls k _ _ l0_0 a1 true _ ?side1 ?side2 A9.out).mono ?_); (case side1 => exact z9_); (case side2 => exact HC0_0.out); rintro e w14 ⟨rfl, hb⟩; refine ⟨_, rfl, ?_⟩; replace BK448 := Aside0.mk (blk_below (g := gb448) (o := .cells #[.slice A0_0 l0_0.length c0_0] 28 (0, 0)) z24_ hb); replace BK449 := Aside0.mk (blk_below (g := gb449) (o := .cells #[.slice none 0 0] 28 (0, 0)) z31_ hb); replace HB := Aside0.mk (below_step z32_ hb); (try clear hb)) | (go_at_call 80; (with_reducible refine (impl_LabelOk.calls a4 t451 _ A11.out).mono ?_); rintro e w' ⟨rfl, ⟨nd, rfl⟩⟩))
   go_meet
   case rel => exact ⟨_, (!t451), z17_, H', ⟨z124_⟩, ⟨z24_⟩, ⟨z31_⟩, ⟨z32_⟩⟩
  ·replace c10 := Bool.eq_false_iff.mpr c10
   subst c10
   replace H := iff_ H
   have H' := Aside0.mk H
   clear H
   have hnb15 := NB448_449.out
   have hnc15 := NB449_448.out
   have hcz16_0 : w8.cell? ⟨gb448, 0, none⟩ = some (.slice A0_0 l0_0.length c0_0) := (blk_cell BK448.out 0).trans rfl
   have hfz16_0 := blk_frozen BK448.out 0
   go_wp2_with (((with_reducible refine gate_callee (f := 72) rfl ?_); refine goesL_ (some 17) rfl rfl Try.func72 (by kernel_rfl) rfl #[.agg #[.slice A0_0 l0_0.length c0_0], .int .i64 a1] rfl z2_ ?_; (with_reducible refine (impl_Dom_isLive.calls k _ _ l0_0 a1 false _ ?side1 ?side2 A9.out).mono ?_); (case side1 => exact z9_); (case side2 => exact HC0_0.out); rintro e w17 ⟨rfl, hb⟩; refine ⟨_, rfl, ?_⟩; replace BK448 := Aside0.mk (blk_below (g := gb448) (o := .cells #[.slice A0_0 l0_0.length c0_0] 28 (0, 0)) z24_ hb); replace BK449 := Aside0.mk (blk_below (g := gb449) (o := .cells #[.slice none 0 0] 28 (0, 0)) z31_ hb); replace HB := Aside0.mk (below_step z32_ hb); (try clear hb)))
   go_meet
   case rel => exact ⟨_, (true), z17_, H', ⟨z124_⟩, ⟨z24_⟩, ⟨z31_⟩, ⟨z32_⟩⟩
 case rest =>
  clear HC6
  obtain ⟨kq, x23_5, rfl, HA, HJ5, BK448, BK449, HB⟩ := hcut
  cases kq with
  | zero => exact absurd HA.out (by simp [impl_DomInsert.j0])
  | succ kj5 =>
   have H := HA.out
   clear HA
   simp only [impl_DomInsert.j0] at H
   by_cases c18 : x23_5 = true
   ·subst c18
    replace H := ift_ H
    obtain ⟨t452, A19, H⟩ := bnd_ H
    simp only [Option.some.injEq, Prod.mk.injEq] at H
    obtain ⟨rfl, rfl⟩ := H
    have hnb20 := NB448_449.out
    have hnc20 := NB449_448.out
    have hcz21_0 : wc.cell? ⟨gb448, 0, none⟩ = some (.slice A0_0 l0_0.length c0_0) := (blk_cell BK448.out 0).trans rfl
    have hfz21_0 := blk_frozen BK448.out 0
    go_wp2_with (((with_reducible refine gate_callee (f := 71) rfl ?_); refine goesL_ (some 25) rfl rfl Try.func71 (by kernel_rfl) rfl #[.agg #[.slice A0_0 l0_0.length c0_0]] rfl z2_ ?_; (with_reducible refine (impl_domCopy.calls _ _ l0_0 t452 _ ?side1 ?side2 A19.out).mono ?_); (case side1 => exact z9_); (case side2 => exact HC0_0.out); rintro e w22 ⟨v453, rfl, ho0, hb⟩; refine ⟨_, rfl, ?_⟩; have HO454 := Aside0.mk (Kd.R_lower ho0 (below_size z32_)); replace BK448 := Aside0.mk (blk_below (g := gb448) (o := .cells #[.slice A0_0 l0_0.length c0_0] 28 (0, 0)) z24_ hb); replace BK449 := Aside0.mk (blk_below (g := gb449) (o := .cells #[.slice none 0 0] 28 (0, 0)) z31_ hb); replace HB := Aside0.mk (below_step z32_ hb); (try clear hb ho0); obtain ⟨Ao23, co23, eo23⟩ := Kd.R_slice HO454.out; subst eo23; have hcz24_0 : w22.cell? ⟨gb449, 0, none⟩ = some (.slice none 0 0) := (blk_cell BK449.out 0).trans rfl; have hfz24_0 := blk_frozen BK449.out 0))
    refine bodyPost_ret (results_ct rfl _ _ gb449 28 #[.slice Ao23 t452.length co23] (0, 0) _ rfl z91_ Try.underlying28 rfl (by kernel_rfl)) rfl ?_
    exact ⟨_, z4_, by exact Kd.R_mono (Kd.R_far (p := ⟨gb449, 0, none⟩) (Kd.R_types HO454.out BK449.out (by decide)) (fun _ hk => hk.2) (.slice Ao23 t452.length co23)) (fun _ hk => trivial), z32_⟩
   ·replace c18 := Bool.eq_false_iff.mpr c18
    subst c18
    replace H := iff_ H
    obtain ⟨t455, A25, H⟩ := bnd_ H
    have HC26 := Aside0.mk H
    clear H
    have hnb27 := NB448_449.out
    have hnc27 := NB449_448.out
    have hcz28_0 : wc.cell? ⟨gb448, 0, none⟩ = some (.slice A0_0 l0_0.length c0_0) := (blk_cell BK448.out 0).trans rfl
    have hfz28_0 := blk_frozen BK448.out 0
    go_upto_region 4 with (((with_reducible refine gate_callee (f := 73) rfl ?_); refine goesL_ (some 28) rfl rfl Try.func73 (by kernel_rfl) rfl #[.agg #[.slice A0_0 l0_0.length c0_0], .int .i64 a1] rfl z2_ ?_; (with_reducible refine (impl_Dom_kids.calls kj5 _ _ l0_0 a1 t455 _ ?side1 ?side2 A25.out).mono ?_); (case side1 => exact z9_); (case side2 => exact HC0_0.out); rintro e w29 ⟨v456, rfl, ho0, hb⟩; refine ⟨_, rfl, ?_⟩; have HO457 := Aside0.mk (Kd.R_lower ho0 (below_size z32_)); replace BK448 := Aside0.mk (blk_below (g := gb448) (o := .cells #[.slice A0_0 l0_0.length c0_0] 28 (0, 0)) z24_ hb); replace BK449 := Aside0.mk (blk_below (g := gb449) (o := .cells #[.slice none 0 0] 28 (0, 0)) z31_ hb); replace HB := Aside0.mk (below_step z32_ hb); (try clear hb ho0)))
    go_cut [42] (fun v42 wc => ∃ (kq : Nat) (x42_25 : Bool), v42 = .bool x42_25 ∧ Aside0 (impl_DomInsert.j1 kq a1 a2 a3 a4 t455 x42_25 l0_0 = some (r1, r2)) ∧ Aside0 (kq ≤ kj5) ∧ Aside0 (Kd.R (Kd.int .i64) 3 wc w.heap.size (fun _ => True) v456 t455) ∧ Aside0 (wc.heap[gb448]? = some (.cells #[(.slice A0_0 l0_0.length c0_0)] 28 (0, 0))) ∧ Aside0 (wc.heap[gb449]? = some (.cells #[(.slice none 0 0)] 28 (0, 0))) ∧ Aside0 (Below w.heap.size w wc))
    case first =>
     have H := HC26.out
     clear HC26
     obtain ⟨t458, A30, H⟩ := bnd_ H
     by_cases c31 : t458 = true
     ·subst c31
      replace H := ift_ H
      obtain ⟨t459, A32, H⟩ := bnd_ H
      have H' := Aside0.mk H
      clear H
      obtain ⟨Ao33, co33, eo33⟩ := Kd.R_slice HO457.out
      subst eo33
      go_wp2_with (first | ((with_reducible refine gate_callee (f := 81) rfl ?_); refine goesL_ (some 32) rfl rfl Try.func81 (by kernel_rfl) rfl #[.int .i64 a2, .int .i64 0, .int .i64 (t455.length : Int)] rfl z2_ ?_; (with_reducible refine (impl_within.calls a2 0 (t455.length : Int) true _ A30.out).mono ?_); rintro e w' ⟨rfl, ⟨nd, rfl⟩⟩; refine ⟨_, rfl, ?_⟩) | (go_at_call 81; (with_reducible refine (impl_within.calls a3 0 (wrap64 ((t455.length : Int) - a2)) t459 _ A32.out).mono ?_); rintro e w' ⟨rfl, ⟨nd, rfl⟩⟩))
      go_meet
      case rel => exact ⟨_, (!t459), z17_, H', ⟨by have := HJ5.out; omega⟩, ⟨z291_⟩, ⟨z24_⟩, ⟨z31_⟩, ⟨z32_⟩⟩
     ·replace c31 := Bool.eq_false_iff.mpr c31
      subst c31
      replace H := iff_ H
      have H' := Aside0.mk H
      clear H
      obtain ⟨Ao34, co34, eo34⟩ := Kd.R_slice HO457.out
      subst eo34
      go_wp2_with (((with_reducible refine gate_callee (f := 81) rfl ?_); refine goesL_ (some 32) rfl rfl Try.func81 (by kernel_rfl) rfl #[.int .i64 a2, .int .i64 0, .int .i64 (t455.length : Int)] rfl z2_ ?_; (with_reducible refine (impl_within.calls a2 0 (t455.length : Int) false _ A30.out).mono ?_); rintro e w' ⟨rfl, ⟨nd, rfl⟩⟩; refine ⟨_, rfl, ?_⟩))
      go_meet
      case rel => exact ⟨_, (true), z17_, H', ⟨by have := HJ5.out; omega⟩, ⟨z291_⟩, ⟨z24_⟩, ⟨z31_⟩, ⟨z32_⟩⟩
    case rest =>
     clear HC26 hcz28_0 hfz28_0
     obtain ⟨kq, x42_25, rfl, HA, HJ25, HO_12, BK448, BK449, HB⟩ := hcut
     cases kq with
     | zero => exact absurd HA.out (by simp [impl_DomInsert.j1])
     | succ kj25 =>
      have H := HA.out
      clear HA
      simp only [impl_DomInsert.j1] at H
      by_cases c35 : x42_25 = true
      ·subst c35
       replace H := ift_ H
       obtain ⟨t460, A36, H⟩ := bnd_ H
       simp only [Option.some.injEq, Prod.mk.injEq] at H
       obtain ⟨rfl, rfl⟩ := H
       have hnb37 := NB448_449.out
       have hnc37 := NB449_448.out
       have hcz38_0 : wc.cell? ⟨gb448, 0, none⟩ = some (.slice A0_0 l0_0.length c0_0) := (blk_cell BK448.out 0).trans rfl
       have hfz38_0 := blk_frozen BK448.out 0
       go_wp2_with (((with_reducible refine gate_callee (f := 71) rfl ?_); refine goesL_ (some 44) rfl rfl Try.func71 (by kernel_rfl) rfl #[.agg #[.slice A0_0 l0_0.length c0_0]] rfl z2_ ?_; (with_reducible refine (impl_domCopy.calls _ _ l0_0 t460 _ ?side1 ?side2 A36.out).mono ?_); (case side1 => exact z9_); (case side2 => exact HC0_0.out); rintro e w39 ⟨v461, rfl, ho0, hb⟩; refine ⟨_, rfl, ?_⟩; replace HO_12 := Aside0.mk (Kd.R_below z54_ hb); have HO462 := Aside0.mk (Kd.R_lower ho0 (below_size z32_)); replace BK448 := Aside0.mk (blk_below (g := gb448) (o := .cells #[.slice A0_0 l0_0.length c0_0] 28 (0, 0)) z24_ hb); replace BK449 := Aside0.mk (blk_below (g := gb449) (o := .cells #[.slice none 0 0] 28 (0, 0)) z31_ hb); replace HB := Aside0.mk (below_step z32_ hb); (try clear hb ho0); obtain ⟨Ao40, co40, eo40⟩ := Kd.R_slice HO462.out; subst eo40; have hcz41_0 : w39.cell? ⟨gb449, 0, none⟩ = some (.slice none 0 0) := (blk_cell BK449.out 0).trans rfl; have hfz41_0 := blk_frozen BK449.out 0))
       refine bodyPost_ret (results_ct rfl _ _ gb449 28 #[.slice Ao40 t460.length co40] (0, 0) _ rfl z91_ Try.underlying28 rfl (by kernel_rfl)) rfl ?_
       exact ⟨_, z4_, by exact Kd.R_mono (Kd.R_far (p := ⟨gb449, 0, none⟩) (Kd.R_types HO462.out BK449.out (by decide)) (fun _ hk => hk.2) (.slice Ao40 t460.length co40)) (fun _ hk => trivial), z32_⟩
      ·replace c35 := Bool.eq_false_iff.mpr c35
       subst c35
       replace H := iff_ H
       obtain ⟨t463, A42, H⟩ := bnd_ H
       obtain ⟨t467, A43, H⟩ := bnd_ H
       have HC44 := Aside0.mk H
       clear H
       have hnb45 := NB448_449.out
       have hnc45 := NB449_448.out
       have hcz46_0 : wc.cell? ⟨gb448, 0, none⟩ = some (.slice A0_0 l0_0.length c0_0) := (blk_cell BK448.out 0).trans rfl
       have hfz46_0 := blk_frozen BK448.out 0
       go_upto_if 51 with (first | ((with_reducible refine gate_callee (f := 71) rfl ?_); refine goesL_ (some 46) rfl rfl Try.func71 (by kernel_rfl) rfl #[.agg #[.slice A0_0 l0_0.length c0_0]] rfl z2_ ?_; (with_reducible refine (impl_domCopy.calls _ _ l0_0 t463 _ ?side1 ?side2 A42.out).mono ?_); (case side1 => exact z9_); (case side2 => exact HC0_0.out); rintro e w47 ⟨v464, rfl, ho0, hb⟩; refine ⟨_, rfl, ?_⟩; replace HO_12 := Aside0.mk (Kd.R_below z54_ hb); have HO465 := Aside0.mk (Kd.R_lower ho0 (below_size z32_)); replace BK448 := Aside0.mk (blk_below (g := gb448) (o := .cells #[.slice A0_0 l0_0.length c0_0] 28 (0, 0)) z24_ hb); replace BK449 := Aside0.mk (blk_below (g := gb449) (o := .cells #[.slice none 0 0] 28 (0, 0)) z31_ hb); replace HB := Aside0.mk (below_step z32_ hb); (try clear hb ho0)) | ((with_reducible refine gate_dst (N := 13) rfl ?_); (try (refine gate_guard (by rfl) ?_; dsimp only)); refine box_event ?hg (N := 13) ?hd (cs := #[.slice none 0 0]) (t := 28) ?hr ?_; (case hd => rfl); (case hg => rfl); (case hr => exact z19_); intro gb466 hg w48 hbox hb; replace HO_12 := Aside0.mk (Kd.R_below z54_ hb); replace HO465 := Aside0.mk (Kd.R_below z290_ hb); have BK466 := Aside0.mk (hbox); have GW466 := Aside0.mk ((by rw [hg]; exact (below_size z32_) : w.heap.size ≤ gb466)); have GE466 := Aside0.mk ((by rw [hg]; exact (below_size z32_) : w.heap.size ≤ gb466)); replace HB := Aside0.mk (below_step z32_ hb); have NB448_466 := Aside0.mk ((by rw [hg]; exact Nat.ne_of_lt (blk_lt (g := gb448) (o := .cells #[.slice A0_0 l0_0.length c0_0] 28 (0, 0)) z24_) : gb448 ≠ gb466)); have NB466_448 := Aside0.mk ((by rw [hg]; exact Nat.ne_of_gt (blk_lt (g := gb448) (o := .cells #[.slice A0_0 l0_0.length c0_0] 28 (0, 0)) z24_) : gb466 ≠ gb448)); replace BK448 := Aside0.mk (blk_below (g := gb448) (o := .cells #[.slice A0_0 l0_0.length c0_0] 28 (0, 0)) z24_ hb); have NB449_466 := Aside0.mk ((by rw [hg]; exact Nat.ne_of_lt (blk_lt (g := gb449) (o := .cells #[.slice none 0 0] 28 (0, 0)) z31_) : gb449 ≠ gb466)); have NB466_449 := Aside0.mk ((by rw [hg]; exact Nat.ne_of_gt (blk_lt (g := gb449) (o := .cells #[.slice none 0 0] 28 (0, 0)) z31_) : gb466 ≠ gb449)); replace BK449 := Aside0.mk (blk_below (g := gb449) (o := .cells #[.slice none 0 0] 28 (0, 0)) z31_ hb); clear hb hbox hg; obtain ⟨Ao49, co49, eo49⟩ := Kd.R_slice HO465.out; subst eo49; have hnb50 := NB466_448.out; have hnc50 := NB448_466.out; have hnb51 := NB466_449.out; have hnc51 := NB449_466.out; have hcz52_0 : w48.cell? ⟨gb466, 0, none⟩ = some (.slice none 0 0) := (blk_cell BK466.out 0).trans rfl; have hfz52_0 := blk_frozen BK466.out 0) | ((with_reducible refine gate_callee (f := 82) rfl ?_); refine goesL_ (some 49) rfl rfl Try.func82 (by kernel_rfl) rfl #[.slice Ao49 t463.length co49, .func (.func 83) #[] #[]] rfl z2_ ?_; (with_reducible refine (slices_IndexFunc_DomNode.calls kj25 _ _ t463 t467 _ ?side1 ?side2 A43.out).mono ?_); (case side1 => refine (Kd.R_reads' (e := 72) (base := w.heap.size) (ok := fun k_ => True) (n := t463.length) (c := co49) ?_).2.2; exact z158_); (case side2 => exact (Kd.R_reads' HO465.out).2.1); rintro e w53 ⟨rfl, hb⟩; refine ⟨_, rfl, ?_⟩; replace HO_12 := Aside0.mk (Kd.R_below (by exact (Kd.R_mono (Kd.R_far (p := ⟨gb466, 0, none⟩) (Kd.R_types HO_12.out BK466.out (by decide)) (fun _ hk => hk.2) (.slice Ao49 t463.length co49)) (fun _ h_ => h_.1))) hb); replace HO465 := Aside0.mk (Kd.R_below z158_ hb); replace BK448 := Aside0.mk (blk_below (g := gb448) (o := .cells #[.slice A0_0 l0_0.length c0_0] 28 (0, 0)) z165_ hb); replace BK449 := Aside0.mk (blk_below (g := gb449) (o := .cells #[.slice none 0 0] 28 (0, 0)) z166_ hb); replace BK466 := Aside0.mk (blk_below (g := gb466) (o := .cells #[.slice Ao49 t463.length co49] 28 (0, 0)) (by refine blk_put (cs := #[.slice none 0 0]) ?_ 0 _ rfl; exact BK466.out) hb); replace HB := Aside0.mk (below_step z15_ hb); (try clear hb)))
       go_cut [14] (fun v14 wc => ∃ (kq : Nat) (x14_43 : Int) (x467000_43 : List (S72)) (u467000 : Value), v14 = .int .i64 x14_43 ∧ Aside0 (impl_DomInsert.j2 kq a1 a2 a3 a4 t455 x14_43 l0_0 x467000_43 = some (r1, r2)) ∧ Aside0 (kq ≤ kj25) ∧ Aside0 (Kd.R (Kd.int .i64) 3 wc w.heap.size (fun _ => True) v456 t455) ∧ Aside0 (Kd.R k72 72 wc w.heap.size (fun _ => True) u467000 x467000_43) ∧ Aside0 (wc.heap[gb448]? = some (.cells #[(.slice A0_0 l0_0.length c0_0)] 28 (0, 0))) ∧ Aside0 (wc.heap[gb449]? = some (.cells #[(.slice none 0 0)] 28 (0, 0))) ∧ Aside0 (wc.heap[gb466]? = some (.cells #[u467000] 28 (0, 0))) ∧ Aside0 (Below w.heap.size w wc))
       case first =>
        have H := HC44.out
        clear HC44
        by_cases c54 : t467 < 0
        ·rw [if_pos c54] at H
         have c54b0 := decide_eq_true c54
         clear c54
         (rw [c54b0])
         obtain ⟨t468, A55, H⟩ := bnd_ H
         have H' := Aside0.mk H
         clear H
         have hnb56 := NB466_448.out
         have hnc56 := NB448_466.out
         have hnb57 := NB466_449.out
         have hnc57 := NB449_466.out
         have hcz58_0 : w53.cell? ⟨gb466, 0, none⟩ = some (.slice Ao49 t463.length co49) := (blk_cell BK466.out 0).trans rfl
         have hfz58_0 := blk_frozen BK466.out 0
         try go_wp2
         obtain ⟨hgl_, hgq_⟩ := l16Grow_eq A55.out
         have LMg := Aside0.mk hgl_
         have Neg := Aside0.mk hgq_
         clear hgl_ hgq_
         have n0_ := Aside0.mk (Kd.R_drew HO_12.out)
         have n1_ := Aside0.mk (Kd.R_drew HO465.out)
         have n2_ := Aside0.mk (blk_drew BK448.out)
         have n3_ := Aside0.mk (blk_drew BK449.out)
         have n4_ := Aside0.mk (blk_drew BK466.out)
         have n5_ := Aside0.mk (below_drew1 HB.out)
         clear HO_12 HO465 BK448 BK449 BK466 HB
         have HO_12 := n0_
         have HO465 := n1_
         have BK448 := n2_
         have BK449 := n3_
         have BK466 := n4_
         have HB := n5_
         clear n0_ n1_ n2_ n3_ n4_ n5_
         refine start_ (n := 7) (S := fun w' => w'.cell? ⟨gb466, 0, none⟩ = some (.slice Ao49 t463.length co49)) (ds := [6]) (fl_ 7 0) (by kernel_rfl) rfl (fl_zero _) ((blk_cell BK466.out 0).trans rfl) (fun hHeld => ?_)
         generalize w53.drew = w53d at HO_12 HO465 BK448 BK449 BK466 HB hHeld ⊢
         refine pure_ (i := 0) (N := some 55) (v := ?_) (a' := ?_) #[true, false, false, false, false, false, false] rfl rfl (by kernel_rfl) (fun _ _ _ h => h) (Or.inl ⟨by rfl, ?_⟩) ?_ ?_
         rotate_left
         ·intro w'
          go_simp
          with_reducible rfl
         rotate_left
         ·simp only [Act.put, List.setIfInBounds_toArray, List.set_cons_zero, List.set_cons_succ, i64_w, i32_w]
          rfl
         refine take_ (i := 1) (N := some 56) (v := ?_) (a' := ?_) #[true, true, false, false, false, false, false] rfl rfl (by kernel_rfl) (fun _ _ _ h => h) (Or.inl ⟨by rfl, ?_⟩) hHeld ?_ ?_
         rotate_left
         ·intro w' s0
          go_simp
          with_reducible rfl
         rotate_left
         ·simp only [Act.put, List.setIfInBounds_toArray, List.set_cons_zero, List.set_cons_succ, i64_w, i32_w]
          rfl
         refine one_ (i := 2) (N := some 57) (fl_ 7 3) rfl rfl (by kernel_rfl) (by decide) (fun K hK => ?_)
         refine goes_ Try.func53 (by kernel_rfl) rfl #[] (by rfl) rfl rfl (by (try simp only [List.map_toArray, List.map_cons, List.map_nil]); done) ?_
         with_reducible refine (impl_unused.calls false 0 (-1) (-1) (-1) (-1) (-1) _ rfl).mono ?_
         rintro e w53c ⟨rfl, hb⟩
         refine ⟨_, rfl, ?_⟩
         have n0_ := Aside0.mk (Kd.R_below HO_12.out hb)
         have n1_ := Aside0.mk (Kd.R_below HO465.out hb)
         have n2_ := Aside0.mk (blk_below BK448.out hb)
         have n3_ := Aside0.mk (blk_below BK449.out hb)
         have n4_ := Aside0.mk (blk_below BK466.out hb)
         have n5_ := Aside0.mk (below_step HB.out hb)
         clear HO_12 HO465 BK448 BK449 BK466 HB
         have HO_12 := n0_
         have HO465 := n1_
         have BK448 := n2_
         have BK449 := n3_
         have BK466 := n4_
         have HB := n5_
         clear n0_ n1_ n2_ n3_ n4_ n5_
         clear hb
         refine hK.out _ _ ((blk_cell BK466.out 0).trans rfl) (fun hHeld => ?_)
         clear hK K
         refine zn_ rfl ?_
         refine one_ (i := 3) (N := some 58) (fl_ 7 4) rfl rfl (by kernel_rfl) (by decide) (fun K hK => ?_)
         refine Kd.R_lit_step k72 _ 72 ?hg (N := 58) ?hd (xs := ([(⟨false, 0, (-1), (-1), (-1), (-1), (-1)⟩ : S72)] : List S72)) (inner := [.bool false, .int .i64 0, .int .i64 (-1), .int .i64 (-1), .int .i64 (-1), .int .i64 (-1), .int .i64 (-1)]) (ok := fun _ => True) (okp := fun _ => True) ?hr ?hp (fun _ hk => hk) trivial (Below.refl _ _) (Nat.le_refl _) (by simp) ?_; (case hd => rfl); (case hg => rfl); (case hr => exact z19_); (case hp => exact z146_)
         intro vl_ w53l hol_ hb hg_ hnew_
         clear hg_ hnew_
         have HOl_ := Aside0.mk hol_
         clear hol_
         have n0_ := Aside0.mk (Kd.R_below HO_12.out hb)
         have n1_ := Aside0.mk (Kd.R_below HO465.out hb)
         have n2_ := Aside0.mk (blk_below BK448.out hb)
         have n3_ := Aside0.mk (blk_below BK449.out hb)
         have n4_ := Aside0.mk (blk_below BK466.out hb)
         have n5_ := Aside0.mk (below_step HB.out hb)
         clear HO_12 HO465 BK448 BK449 BK466 HB
         have HO_12 := n0_
         have HO465 := n1_
         have BK448 := n2_
         have BK449 := n3_
         have BK466 := n4_
         have HB := n5_
         clear n0_ n1_ n2_ n3_ n4_ n5_
         clear hb
         obtain ⟨Aol_, col_, eol_⟩ := Kd.R_slice HOl_.out
         subst eol_
         refine hK.out _ _ ((blk_cell BK466.out 0).trans rfl) (fun hHeld => ?_)
         clear hK K
         refine zn_ rfl ?_
         refine one_ (i := 4) (N := some 59) (fl_ 7 5) rfl rfl (by kernel_rfl) (by decide) (fun K hK => ?_)
         refine Kd.R_append_rows_step k72 (w0 := w) w.heap.size (by rfl) (.tmp 56) (.tmp 58) 26 72 (.agg #[(.bool false), (.int .i64 0), (.int .i64 0), (.int .i64 0), (.int .i64 0), (.int .i64 0), (.int .i64 0)]) 56 rfl Try.underlying26 info72 rfl (by decide) (by omega) (.slice Ao49 t463.length co49) t463 [(⟨false, 0, (-1), (-1), (-1), (-1), (-1)⟩ : S72)] _ _ _ (fun _ => True) (fun _ => False) rfl rfl ?aO ?aR (fun _ _ h => h) (fun _ h => h.elim) ?aF ?aB ?aS ?aL ?_
         (case aR => exact (Kd.R_reads' HOl_.out).2.2)
         (case aB => exact HB.out)
         (case aF => exact z298_)
         (case aO => exact Kd.R_mono HO465.out (fun _ _ => trivial))
         (case aS => exact below_size HB.out)
         (case aL => have := LMg.out; show (_ + 1) * 56 ≤ _; omega)
         intro v469 w59 ho hb hg hat
         rw [← Neg.out] at ho
         have HO470 := Aside0.mk ho
         have n0_ := Aside0.mk (Kd.R_over' HO_12.out (Kd.R_typed HO465.out) (by decide) hg)
         have n1_ := Aside0.mk (blk_grown BK448.out hg (Kd.R_ne HO465.out BK448.out (by decide)))
         have n2_ := Aside0.mk (blk_grown BK449.out hg (Kd.R_ne HO465.out BK449.out (by decide)))
         have n3_ := Aside0.mk (blk_grown BK466.out hg (Kd.R_ne HO465.out BK466.out (by decide)))
         have n4_ := Aside0.mk (hb)
         clear HO_12 BK448 BK449 BK466 HB
         have HO_12 := n0_
         have BK448 := n1_
         have BK449 := n2_
         have BK466 := n3_
         have HB := n4_
         clear n0_ n1_ n2_ n3_ n4_
         clear ho hb hg hat HOl_
         obtain ⟨Ao60, co60, eo60⟩ := Kd.R_slice HO470.out
         subst eo60
         refine hK.out _ _ ((blk_cell BK466.out 0).trans rfl) (fun hHeld => ?_)
         clear hK K
         refine zn_ rfl ?_
         refine pure_ (i := 5) (N := some 60) (v := ?_) (a' := ?_) #[true, true, true, true, true, true, false] rfl rfl (by kernel_rfl) (fun _ _ _ h => h) (Or.inl ⟨by rfl, ?_⟩) ?_ ?_
         rotate_left
         ·intro w'
          go_simp
          with_reducible rfl
         rotate_left
         ·simp only [Act.put, List.setIfInBounds_toArray, List.set_cons_zero, List.set_cons_succ, i64_w, i32_w]
          rfl
         have hczg_ : w59.cell? ⟨gb466, 0, none⟩ = some (.slice Ao49 t463.length co49) := (blk_cell BK466.out 0).trans rfl
         have hfzg_ := blk_frozen BK466.out 0
         refine last_ (i := 6) (N := none) (fl_ 7 7) rfl rfl (by kernel_rfl) (by decide) (fun K hK => ?_)
         refine skip_ (w1 := ?_) (by rfl) rfl ?_ ?_
         rotate_left
         ·go_simp
          rfl
         refine hK.out _ _ ?_
         clear hK K
         refine done_ (by kernel_rfl) ?_
         try go_wp2
         go_meet
         case rel => exact ⟨_, ((t463.length : Int)), (t468), (.slice Ao60 t468.length co60), z17_, H', ⟨by have := HJ5.out; have := HJ25.out; omega⟩, ⟨by exact Kd.R_mono (Kd.R_far (p := ⟨gb466, 0, none⟩) (Kd.R_types HO_12.out BK466.out (by decide)) (fun _ hk => hk.2) (.slice Ao60 t468.length co60)) (fun _ hk => trivial)⟩, ⟨by exact Kd.R_mono (Kd.R_far (p := ⟨gb466, 0, none⟩) (Kd.R_types HO470.out BK466.out (by decide)) (fun _ hk => hk.2) (.slice Ao60 t468.length co60)) (fun _ hk => trivial)⟩, ⟨z165_⟩, ⟨z166_⟩, ⟨by refine blk_put (cs := #[.slice Ao49 t463.length co49]) ?_ 0 _ rfl; exact BK466.out⟩, ⟨z15_⟩⟩
        ·rw [if_neg c54] at H
         have c54b0 := decide_eq_false c54
         clear c54
         (rw [c54b0])
         have H' := Aside0.mk H
         clear H
         go_wp2
         go_meet
         case rel => exact ⟨_, (t467), (t463), (.slice Ao49 t463.length co49), z17_, H', ⟨by have := HJ5.out; have := HJ25.out; omega⟩, ⟨z54_⟩, ⟨z290_⟩, ⟨z24_⟩, ⟨z31_⟩, ⟨z50_⟩, ⟨z15_⟩⟩
       case rest =>
        clear HC44 hcz46_0 hcz52_0 hfz46_0 hfz52_0
        obtain ⟨kq, x14_43, x467000_43, u467000, rfl, HA, HJ43, HO_12, HO_467000, BK448, BK449, BK466, HB⟩ := hcut
        cases kq with
        | zero => exact absurd HA.out (by simp [impl_DomInsert.j2])
        | succ kj43 =>
         have H := HA.out
         clear HA
         simp only [impl_DomInsert.j2] at H
         obtain ⟨c62b0, H⟩ := ifd_ H
         obtain ⟨c63b0, H⟩ := ifd_ H
         ((with_reducible have hz_ := gy_ H); obtain ⟨y471, Ny471, H⟩ := hz_)
         (generalize hy_ : ((y471.set (x14_43 : Int).toNat (⟨(rd_T72 y471 x14_43).f0, a4, (rd_T72 y471 x14_43).f2, (rd_T72 y471 x14_43).f3, (rd_T72 y471 x14_43).f4, (rd_T72 y471 x14_43).f5, (rd_T72 y471 x14_43).f6⟩ : S72)) : List (S72)) = y472 at H; have Ny472 := Aside0.mk hy_.symm; clear hy_)
         obtain ⟨c66b0, c66b1, H⟩ := ife_ H
         obtain ⟨c67, H⟩ := ifs_ H
         have c67b0 := eq_true c67
         have c67b1 := decide_eq_true c67
         obtain ⟨c68, H⟩ := ifs_ H
         have c68b0 := eq_true c68
         have c68b1 := decide_eq_true c68
         (generalize hy_ : (((t455.take ((wrap64 (a2 + a3)) : Int).toNat).drop (a2 : Int).toNat) : List Int) = y473 at H; have Ny473 := Aside0.mk hy_.symm; clear hy_)
         obtain ⟨t478, A69, H⟩ := bnd_ H
         have c70b0 := eq_true (odt_ : 0 ≤ a2)
         obtain ⟨c71b0, c71b1, H⟩ := ife_ H
         (generalize hy_ : ((t455.take (a2 : Int).toNat) : List Int) = y479 at H; have Ny479 := Aside0.mk hy_.symm; clear hy_)
         (generalize hy_ : ((([x14_43] : List Int)) : List Int) = y484 at H; have Ny484 := Aside0.mk hy_.symm; clear hy_)
         obtain ⟨ji72, hji72⟩ : ∃ j_ : Int, (wrap64 (a2 + a3)) = j_ := ⟨_, rfl⟩
         rw [hji72] at H
         (try rw [hji72] at c67b0)
         (try rw [hji72] at c67b1)
         (try rw [hji72] at c67)
         (try rw [hji72] at c68b0)
         (try rw [hji72] at c68b1)
         (try rw [hji72] at c68)
         (try rw [hji72] at Ny473)
         have hji72w : (IntKind.i64.wrap (a2 + a3)) = ji72 := (i64_w _).trans hji72
         obtain ⟨c73b0, c73b1, H⟩ := ife_ H
         have c74b0 := eq_true (odt_ : (ji72) ≤ (t455.length : Int))
         (generalize hy_ : ((t455.drop ((ji72) : Int).toNat) : List Int) = y487 at H; have Ny487 := Aside0.mk hy_.symm; clear hy_)
         (generalize hy_ : ((([y479, y484, y487] : List (List Int))) : List (List Int)) = y492 at H; have Ny492 := Aside0.mk hy_.symm; clear hy_)
         obtain ⟨t495, A75, H⟩ := bnd_ H
         obtain ⟨t498, A76, H⟩ := bnd_ H
         obtain ⟨t499, A77, H⟩ := bnd_ H
         by_cases c78 : t499 = true
         ·subst c78
          replace H := ift_ H
          simp only [Option.some.injEq, Prod.mk.injEq] at H
          obtain ⟨rfl, rfl⟩ := H
          try go_wp2
          have p64 : 0 ≤ (x14_43 : Int) := odt_
          have q64 : (x14_43 : Int) < ((x467000_43.length : Int) : Int) := odt_
          obtain ⟨go64, co64, eo64, gb64, gl64, cl64, HG64⟩ := Kd.R_form HO_467000.out (by omega)
          (cases eo64)
          have GB64 := Aside0.mk gb64
          have GG64 := Aside0.mk HG64
          clear gb64 gl64 HG64
          have n0_ := Aside0.mk (Kd.R_drew HO_12.out)
          have n1_ := Aside0.mk (Kd.R_drew HO_467000.out)
          have n2_ := Aside0.mk (blk_drew BK448.out)
          have n3_ := Aside0.mk (blk_drew BK449.out)
          have n4_ := Aside0.mk (blk_drew BK466.out)
          have n5_ := Aside0.mk (below_drew1 HB.out)
          clear HO_12
          clear HO_467000
          clear BK448
          clear BK449
          clear BK466
          clear HB
          have HO_12 := n0_
          have HO_467000 := n1_
          have BK448 := n2_
          have BK449 := n3_
          have BK466 := n4_
          have HB := n5_
          clear n0_ n1_ n2_ n3_ n4_ n5_
          refine start_ (n := 13) (S := fun w' => w'.cell? ⟨gb466, 0, none⟩ = some (.slice (some ⟨go64, 0, none⟩) x467000_43.length co64)) (ds := []) (fl_ 13 0) (by kernel_rfl) rfl (fl_zero _) ((blk_cell BK466.out 0).trans rfl) (fun hHeld => ?_)
          generalize wc.drew = wcD at HO_12 HO_467000 BK448 BK449 BK466 HB hHeld ⊢
          have hnb79 := NB466_448.out
          have hnc79 := NB448_466.out
          have hnb80 := NB466_449.out
          have hnc80 := NB449_466.out
          have hcz81_0 : wcD.cell? ⟨gb466, 0, none⟩ = some (.slice (some ⟨go64, 0, none⟩) x467000_43.length co64) := (blk_cell BK466.out 0).trans rfl
          have hfz81_0 := blk_frozen BK466.out 0
          obtain ⟨ce64, hcl64, hM64, hcc64, hfr64⟩ := Kd.R_elem HO_467000.out z72 (x14_43 : Int) p64 q64
          obtain rfl := k72_openM hM64
          have hx64_0 : wcD.cell? ⟨go64, (x14_43 : Int).toNat * 7, none⟩ = some (.bool ((rd_T72 x467000_43 x14_43).f0)) := hcc64 0 _ rfl
          have hx64_1 : wcD.cell? ⟨go64, (x14_43 : Int).toNat * 7 + 1, none⟩ = some (.int .i64 ((rd_T72 x467000_43 x14_43).f1)) := hcc64 1 _ rfl
          have hx64_2 : wcD.cell? ⟨go64, (x14_43 : Int).toNat * 7 + 2, none⟩ = some (.int .i64 ((rd_T72 x467000_43 x14_43).f2)) := hcc64 2 _ rfl
          have hx64_3 : wcD.cell? ⟨go64, (x14_43 : Int).toNat * 7 + 3, none⟩ = some (.int .i64 ((rd_T72 x467000_43 x14_43).f3)) := hcc64 3 _ rfl
          have hx64_4 : wcD.cell? ⟨go64, (x14_43 : Int).toNat * 7 + 4, none⟩ = some (.int .i64 ((rd_T72 x467000_43 x14_43).f4)) := hcc64 4 _ rfl
          have hx64_5 : wcD.cell? ⟨go64, (x14_43 : Int).toNat * 7 + 5, none⟩ = some (.int .i64 ((rd_T72 x467000_43 x14_43).f5)) := hcc64 5 _ rfl
          have hx64_6 : wcD.cell? ⟨go64, (x14_43 : Int).toNat * 7 + 6, none⟩ = some (.int .i64 ((rd_T72 x467000_43 x14_43).f6)) := hcc64 6 _ rfl
          have hf64_0 : wcD.frozen? ⟨go64, (x14_43 : Int).toNat * 7, none⟩ = false := hfr64 0
          have hf64_1 : wcD.frozen? ⟨go64, (x14_43 : Int).toNat * 7 + 1, none⟩ = false := hfr64 1
          have hf64_2 : wcD.frozen? ⟨go64, (x14_43 : Int).toNat * 7 + 2, none⟩ = false := hfr64 2
          have hf64_3 : wcD.frozen? ⟨go64, (x14_43 : Int).toNat * 7 + 3, none⟩ = false := hfr64 3
          have hf64_4 : wcD.frozen? ⟨go64, (x14_43 : Int).toNat * 7 + 4, none⟩ = false := hfr64 4
          have hf64_5 : wcD.frozen? ⟨go64, (x14_43 : Int).toNat * 7 + 5, none⟩ = false := hfr64 5
          have hf64_6 : wcD.frozen? ⟨go64, (x14_43 : Int).toNat * 7 + 6, none⟩ = false := hfr64 6
          clear hcl64 hcc64 hfr64 hM64
          replace p64 := eq_true p64
          replace q64 := eq_true q64
          have HX82 := Aside0.mk (show Kd.R k72 72 wcD w.heap.size (fun _ => True) (.slice (some ⟨go64, 0, none⟩) x467000_43.length co64) x467000_43 from z63_)
          obtain ⟨ce82, hcl82, hM82, hcc82, hfr82⟩ := Kd.R_elem HX82.out z72 (x14_43 : Int) (odt_) (by have h_ : (x14_43 : Int) < ((x467000_43.length : Int) : Int) := odt_; exact h_)
          obtain rfl := k72_openM hM82
          have HP82 := Kd.R_seg HX82.out (x14_43 : Int) (odt_) (by have h_ : (x14_43 : Int) < ((x467000_43.length : Int) : Int) := odt_; exact h_) (seg := [.bool true]) (j := 0) hcl82 hcc82 (show 1 ≤ 7 from by decide) (x' := (⟨true, (rd_T72 x467000_43 x14_43).f1, (rd_T72 x467000_43 x14_43).f2, (rd_T72 x467000_43 x14_43).f3, (rd_T72 x467000_43 x14_43).f4, (rd_T72 x467000_43 x14_43).f5, (rd_T72 x467000_43 x14_43).f6⟩ : S72)) (k72_mkM _ _ _ (⟨true, (rd_T72 x467000_43 x14_43).f1, (rd_T72 x467000_43 x14_43).f2, (rd_T72 x467000_43 x14_43).f3, (rd_T72 x467000_43 x14_43).f4, (rd_T72 x467000_43 x14_43).f5, (rd_T72 x467000_43 x14_43).f6⟩ : S72) ) (fun _ hk => hk)
          have hx82_0 := hcc82 0 _ rfl
          (try simp only [show (k72).sz = 7 from rfl, Nat.mul_one, Nat.add_zero] at hx82_0)
          have hf82_0 := hfr82 0
          (try simp only [show (k72).sz = 7 from rfl, Nat.mul_one, Nat.add_zero] at hf82_0)
          clear hcl82 hcc82 hfr82 hM82
          refine pure_ (i := 0) (N := some 61) (v := ?_) (a' := ?_) #[true, false, false, false, false, false, false, false, false, false, false, false, false] rfl rfl (by kernel_rfl) (fun _ _ _ h => h) (Or.inl ⟨by rfl, ?_⟩) ?_ ?_
          rotate_left
          ·intro w'
           go_simp
           with_reducible rfl
          rotate_left
          ·simp only [Act.put, List.setIfInBounds_toArray, List.set_cons_zero, List.set_cons_succ, i64_w, i32_w]
           rfl
          refine pure_ (i := 2) (N := some 63) (v := ?_) (a' := ?_) #[true, false, true, false, false, false, false, false, false, false, false, false, false] rfl rfl (by kernel_rfl) (fun _ _ _ h => h) (Or.inl ⟨by rfl, ?_⟩) ?_ ?_
          rotate_left
          ·intro w'
           go_simp
           with_reducible rfl
          rotate_left
          ·simp only [Act.put, List.setIfInBounds_toArray, List.set_cons_zero, List.set_cons_succ, i64_w, i32_w]
           rfl
          refine pure_ (i := 3) (N := some 64) (v := ?_) (a' := ?_) #[true, false, true, true, false, false, false, false, false, false, false, false, false] rfl rfl (by kernel_rfl) (fun _ _ _ h => h) (Or.inl ⟨by rfl, ?_⟩) ?_ ?_
          rotate_left
          ·intro w'
           go_simp
           with_reducible rfl
          rotate_left
          ·simp only [Act.put, List.setIfInBounds_toArray, List.set_cons_zero, List.set_cons_succ, i64_w, i32_w]
           rfl
          refine pure_ (i := 5) (N := some 66) (v := ?_) (a' := ?_) #[true, false, true, true, false, true, false, false, false, false, false, false, false] rfl rfl (by kernel_rfl) (fun _ _ _ h => h) (Or.inl ⟨by rfl, ?_⟩) ?_ ?_
          rotate_left
          ·intro w'
           go_simp
           with_reducible rfl
          rotate_left
          ·simp only [Act.put, List.setIfInBounds_toArray, List.set_cons_zero, List.set_cons_succ, i64_w, i32_w]
           rfl
          refine pure_ (i := 6) (N := some 67) (v := ?_) (a' := ?_) #[true, false, true, true, false, true, true, false, false, false, false, false, false] rfl rfl (by kernel_rfl) (fun _ _ _ h => h) (Or.inl ⟨by rfl, ?_⟩) ?_ ?_
          rotate_left
          ·intro w'
           go_simp
           with_reducible rfl
          rotate_left
          ·simp only [Act.put, List.setIfInBounds_toArray, List.set_cons_zero, List.set_cons_succ, i64_w, i32_w]
           rfl
          refine take_ (i := 1) (N := some 62) (v := ?_) (a' := ?_) #[true, true, true, true, false, true, true, false, false, false, false, false, false] rfl rfl (by kernel_rfl) (fun _ _ _ h => h) (Or.inl ⟨by rfl, ?_⟩) hHeld ?_ ?_
          rotate_left
          ·intro w' s0
           go_simp
           with_reducible rfl
          rotate_left
          ·simp only [Act.put, List.setIfInBounds_toArray, List.set_cons_zero, List.set_cons_succ, i64_w, i32_w]
           rfl
          refine take_ (i := 4) (N := some 65) (v := ?_) (a' := ?_) #[true, true, true, true, true, true, true, false, false, false, false, false, false] rfl rfl (by kernel_rfl) (fun _ _ _ h => h) (Or.inl ⟨by rfl, ?_⟩) hHeld ?_ ?_
          rotate_left
          ·intro w' s0
           go_simp
           with_reducible rfl
          rotate_left
          ·simp only [Act.put, List.setIfInBounds_toArray, List.set_cons_zero, List.set_cons_succ, i64_w, i32_w]
           rfl
          refine pure_ (i := 7) (N := some 68) (v := ?_) (a' := ?_) #[true, true, true, true, true, true, true, true, false, false, false, false, false] rfl rfl (by kernel_rfl) (fun _ _ _ h => h) (Or.inl ⟨by rfl, ?_⟩) ?_ ?_
          rotate_left
          ·intro w'
           go_simp
           with_reducible rfl
          rotate_left
          ·simp only [Act.put, List.setIfInBounds_toArray, List.set_cons_zero, List.set_cons_succ, i64_w, i32_w]
           rfl
          refine pure_ (i := 8) (N := some 69) (v := ?_) (a' := ?_) #[true, true, true, true, true, true, true, true, true, false, false, false, false] rfl rfl (by kernel_rfl) (fun _ _ _ h => h) (Or.inl ⟨by rfl, ?_⟩) ?_ ?_
          rotate_left
          ·intro w'
           go_simp
           with_reducible rfl
          rotate_left
          ·simp only [Act.put, List.setIfInBounds_toArray, List.set_cons_zero, List.set_cons_succ, i64_w, i32_w]
           rfl
          refine one_ (i := 9) (N := none) (fl_ 13 10) rfl rfl (by kernel_rfl) (by decide) (fun K hK => ?_)
          refine skip_ (w1 := ?_) (by rfl) rfl ?_ ?_
          rotate_left
          ·go_simp
           rfl
          generalize hw_ : (wcD.setCell ⟨go64, (x14_43 : Int).toNat * 7, none⟩ (.bool true)) = w83
          have hw := hw_.symm
          clear hw_
          have hg : wcD.grownBy w83 (some go64) := (by rw [hw]; exact HP82.2)
          have hp_ : Kd.R k72 72 w83 w.heap.size (fun _ => True) (.slice (some ⟨go64, 0, none⟩) x467000_43.length co64) y471 := (by rw [hw, Ny471.out]; exact HP82.1)
          clear HP82
          have n0_ := Aside0.mk (Kd.R_over' (v := (.slice (some ⟨go64, 0, none⟩) x467000_43.length co64)) z54_ (Kd.R_typed HO_467000.out) (by decide) hg)
          have n1_ := Aside0.mk (hp_)
          have n2_ := Aside0.mk (blk_grown (g := gb448) (o := .cells #[.slice A0_0 l0_0.length c0_0] 28 (0, 0)) z24_ hg (Kd.R_ne HO_467000.out BK448.out (by decide)))
          have n3_ := Aside0.mk (blk_grown (g := gb449) (o := .cells #[.slice none 0 0] 28 (0, 0)) z31_ hg (Kd.R_ne HO_467000.out BK449.out (by decide)))
          have n4_ := Aside0.mk (blk_grown (g := gb466) (o := .cells #[.slice (some ⟨go64, 0, none⟩) x467000_43.length co64] 28 (0, 0)) z50_ hg (Kd.R_ne HO_467000.out BK466.out (by decide)))
          have n5_ := Aside0.mk ((by rw [hw]; exact below_set (HB.out) GB64.out : Below w.heap.size w w83))
          clear HO_12
          clear HO_467000
          clear BK448
          clear BK449
          clear BK466
          clear HB
          have HO_12 := n0_
          have HO_467000 := n1_
          have BK448 := n2_
          have BK449 := n3_
          have BK466 := n4_
          have HB := n5_
          clear n0_ n1_ n2_ n3_ n4_ n5_
          clear hg hw hp_
          have hcz84_0 : w83.cell? ⟨gb466, 0, none⟩ = some (.slice (some ⟨go64, 0, none⟩) x467000_43.length co64) := (blk_cell BK466.out 0).trans rfl
          have hfz84_0 := blk_frozen BK466.out 0
          have p65 : 0 ≤ (x14_43 : Int) := odt_
          have q65 : (x14_43 : Int) < ((x467000_43.length : Int) : Int) := odt_
          obtain ⟨ce65, hcl65, hM65, hcc65, hfr65⟩ := Kd.R_elem HO_467000.out z72 (x14_43 : Int) p65 q65
          obtain rfl := k72_openM hM65
          have hx65_0 : w83.cell? ⟨go64, (x14_43 : Int).toNat * 7, none⟩ = some (.bool ((rd_T72 y471 x14_43).f0)) := hcc65 0 _ rfl
          have hx65_1 : w83.cell? ⟨go64, (x14_43 : Int).toNat * 7 + 1, none⟩ = some (.int .i64 ((rd_T72 y471 x14_43).f1)) := hcc65 1 _ rfl
          have hx65_2 : w83.cell? ⟨go64, (x14_43 : Int).toNat * 7 + 2, none⟩ = some (.int .i64 ((rd_T72 y471 x14_43).f2)) := hcc65 2 _ rfl
          have hx65_3 : w83.cell? ⟨go64, (x14_43 : Int).toNat * 7 + 3, none⟩ = some (.int .i64 ((rd_T72 y471 x14_43).f3)) := hcc65 3 _ rfl
          have hx65_4 : w83.cell? ⟨go64, (x14_43 : Int).toNat * 7 + 4, none⟩ = some (.int .i64 ((rd_T72 y471 x14_43).f4)) := hcc65 4 _ rfl
          have hx65_5 : w83.cell? ⟨go64, (x14_43 : Int).toNat * 7 + 5, none⟩ = some (.int .i64 ((rd_T72 y471 x14_43).f5)) := hcc65 5 _ rfl
          have hx65_6 : w83.cell? ⟨go64, (x14_43 : Int).toNat * 7 + 6, none⟩ = some (.int .i64 ((rd_T72 y471 x14_43).f6)) := hcc65 6 _ rfl
          have hf65_0 : w83.frozen? ⟨go64, (x14_43 : Int).toNat * 7, none⟩ = false := hfr65 0
          have hf65_1 : w83.frozen? ⟨go64, (x14_43 : Int).toNat * 7 + 1, none⟩ = false := hfr65 1
          have hf65_2 : w83.frozen? ⟨go64, (x14_43 : Int).toNat * 7 + 2, none⟩ = false := hfr65 2
          have hf65_3 : w83.frozen? ⟨go64, (x14_43 : Int).toNat * 7 + 3, none⟩ = false := hfr65 3
          have hf65_4 : w83.frozen? ⟨go64, (x14_43 : Int).toNat * 7 + 4, none⟩ = false := hfr65 4
          have hf65_5 : w83.frozen? ⟨go64, (x14_43 : Int).toNat * 7 + 5, none⟩ = false := hfr65 5
          have hf65_6 : w83.frozen? ⟨go64, (x14_43 : Int).toNat * 7 + 6, none⟩ = false := hfr65 6
          clear hcl65 hcc65 hfr65 hM65
          replace p65 := eq_true p65
          replace q65 := eq_true q65
          have HX85 := Aside0.mk (show Kd.R k72 72 w83 w.heap.size (fun _ => True) (.slice (some ⟨go64, 0, none⟩) x467000_43.length co64) y471 from z63_)
          obtain ⟨ce85, hcl85, hM85, hcc85, hfr85⟩ := Kd.R_elem HX85.out z72 (x14_43 : Int) (odt_) (by have h_ : (x14_43 : Int) < ((x467000_43.length : Int) : Int) := odt_; exact h_)
          obtain rfl := k72_openM hM85
          have HP85 := Kd.R_seg HX85.out (x14_43 : Int) (odt_) (by have h_ : (x14_43 : Int) < ((x467000_43.length : Int) : Int) := odt_; exact h_) (seg := [.int .i64 a4]) (j := 1) hcl85 hcc85 (show 2 ≤ 7 from by decide) (x' := (⟨(rd_T72 y471 x14_43).f0, a4, (rd_T72 y471 x14_43).f2, (rd_T72 y471 x14_43).f3, (rd_T72 y471 x14_43).f4, (rd_T72 y471 x14_43).f5, (rd_T72 y471 x14_43).f6⟩ : S72)) (k72_mkM _ _ _ (⟨(rd_T72 y471 x14_43).f0, a4, (rd_T72 y471 x14_43).f2, (rd_T72 y471 x14_43).f3, (rd_T72 y471 x14_43).f4, (rd_T72 y471 x14_43).f5, (rd_T72 y471 x14_43).f6⟩ : S72) ) (fun _ hk => hk)
          have hx85_1 := hcc85 1 _ rfl
          (try simp only [show (k72).sz = 7 from rfl, Nat.mul_one, Nat.add_zero] at hx85_1)
          have hf85_1 := hfr85 1
          (try simp only [show (k72).sz = 7 from rfl, Nat.mul_one, Nat.add_zero] at hf85_1)
          clear hcl85 hcc85 hfr85 hM85
          refine hK.out _ _ ((blk_cell BK466.out 0).trans rfl) (fun hHeld => ?_)
          clear hK K
          refine pure_ (i := 10) (N := some 70) (v := ?_) (a' := ?_) #[true, true, true, true, true, true, true, true, true, true, true, false, false] rfl rfl (by kernel_rfl) (fun _ _ _ h => h) (Or.inl ⟨by rfl, ?_⟩) ?_ ?_
          rotate_left
          ·intro w'
           go_simp
           with_reducible rfl
          rotate_left
          ·simp only [Act.put, List.setIfInBounds_toArray, List.set_cons_zero, List.set_cons_succ, i64_w, i32_w]
           rfl
          refine pure_ (i := 11) (N := some 71) (v := ?_) (a' := ?_) #[true, true, true, true, true, true, true, true, true, true, true, true, false] rfl rfl (by kernel_rfl) (fun _ _ _ h => h) (Or.inl ⟨by rfl, ?_⟩) ?_ ?_
          rotate_left
          ·intro w'
           go_simp
           with_reducible rfl
          rotate_left
          ·simp only [Act.put, List.setIfInBounds_toArray, List.set_cons_zero, List.set_cons_succ, i64_w, i32_w]
           rfl
          refine one_ (i := 12) (N := none) (fl_ 13 13) rfl rfl (by kernel_rfl) (by decide) (fun K hK => ?_)
          refine skip_ (w1 := ?_) (by rfl) rfl ?_ ?_
          rotate_left
          ·go_simp
           rfl
          generalize hw_ : (w83.setCell ⟨go64, (x14_43 : Int).toNat * 7 + 1, none⟩ (.int .i64 a4)) = w86
          have hw := hw_.symm
          clear hw_
          have hg : w83.grownBy w86 (some go64) := (by rw [hw]; exact HP85.2)
          have hp_ : Kd.R k72 72 w86 w.heap.size (fun _ => True) (.slice (some ⟨go64, 0, none⟩) x467000_43.length co64) y472 := (by rw [hw, Ny472.out]; exact HP85.1)
          clear HP85
          have n0_ := Aside0.mk (Kd.R_over' (v := (.slice (some ⟨go64, 0, none⟩) x467000_43.length co64)) z54_ (Kd.R_typed HO_467000.out) (by decide) hg)
          have n1_ := Aside0.mk (hp_)
          have n2_ := Aside0.mk (blk_grown (g := gb448) (o := .cells #[.slice A0_0 l0_0.length c0_0] 28 (0, 0)) z24_ hg (Kd.R_ne HO_467000.out BK448.out (by decide)))
          have n3_ := Aside0.mk (blk_grown (g := gb449) (o := .cells #[.slice none 0 0] 28 (0, 0)) z31_ hg (Kd.R_ne HO_467000.out BK449.out (by decide)))
          have n4_ := Aside0.mk (blk_grown (g := gb466) (o := .cells #[.slice (some ⟨go64, 0, none⟩) x467000_43.length co64] 28 (0, 0)) z50_ hg (Kd.R_ne HO_467000.out BK466.out (by decide)))
          have n5_ := Aside0.mk ((by rw [hw]; exact below_set (HB.out) GB64.out : Below w.heap.size w w86))
          clear HO_12
          clear HO_467000
          clear BK448
          clear BK449
          clear BK466
          clear HB
          have HO_12 := n0_
          have HO_467000 := n1_
          have BK448 := n2_
          have BK449 := n3_
          have BK466 := n4_
          have HB := n5_
          clear n0_ n1_ n2_ n3_ n4_ n5_
          clear hg hw hp_
          refine hK.out _ _ ((blk_cell BK466.out 0).trans rfl) (fun hHeld => ?_)
          clear hK K
          refine done_ (by kernel_rfl) ?_
          try go_wp2
          have n0_ := Aside0.mk (Kd.R_drew HO_12.out)
          have n1_ := Aside0.mk (Kd.R_drew HO_467000.out)
          have n2_ := Aside0.mk (blk_drew BK448.out)
          have n3_ := Aside0.mk (blk_drew BK449.out)
          have n4_ := Aside0.mk (blk_drew BK466.out)
          have n5_ := Aside0.mk (below_drew1 HB.out)
          clear HO_12
          clear HO_467000
          clear BK448
          clear BK449
          clear BK466
          clear HB
          have HO_12 := n0_
          have HO_467000 := n1_
          have BK448 := n2_
          have BK449 := n3_
          have BK466 := n4_
          have HB := n5_
          clear n0_ n1_ n2_ n3_ n4_ n5_
          obtain ⟨Ao89, co89, eo89⟩ := Kd.R_slice HO_12.out
          (subst eo89)
          have q88 : ((ji72) : Int) ≤ ((t455.length : Int) : Int) := odt_
          obtain ⟨i088, hi088, _, hsz88, _⟩ := info_parts info3
          have hroom88 : t455.length ≤ co89 := (Kd.R_reads' HO_12.out).2.1
          have hC88 : Kd.F (Kd.int .i64) _ _ Ao89 t455.length t455 := (Kd.V_at (base := w.heap.size) (Kd.R_V (Kd.R_types (Kd.R_types (Kd.R_types (Kd.R_apart' (HO_12.out) (Kd.R_typed HO_467000.out) (by decide)) BK448.out (by decide)) BK449.out (by decide)) BK466.out (by decide)))).2.2
          have ql88 : (a2 : Int) ≤ ((ji72) : Int) := odt_
          have q088 : (0 : Int) ≤ (a2 : Int) := odt_
          have hcut88 := cut_mid (P := Try.prog) 49 3 .i64 .i64 Try.underlying49 hi088 1 hsz88 Ao89 t455.length co89 a2 (ji72) q088 ql88 q88 hroom88
          have hr88 := Kd.F_mid (lo := (a2 : Int).toNat) (hi := ((ji72) : Int).toNat) (c := co89) hC88 (by omega) (by omega) hroom88
          obtain ⟨A88, hA88⟩ : ∃ A1, A1 = (if co89 = (a2 : Int).toNat then Ao89 else (Ao89 : Option Addr).map (·.add ((a2 : Int).toNat * 1))) := ⟨_, rfl⟩
          obtain ⟨c88, hc88⟩ : ∃ c1, c1 = co89 - (a2 : Int).toNat := ⟨_, rfl⟩
          have hy88 : y473.length = ((ji72) : Int).toNat - (a2 : Int).toNat := (by rw [Ny473.out, List.length_drop, List.length_take] <;> omega)
          rw [show ((t455).take ((ji72) : Int).toNat).drop (a2 : Int).toNat = y473 from Ny473.out.symm] at hr88
          replace hr88 : Kd.F (Kd.int .i64) _ _ A88 y473.length y473 := (by rw [hA88]; exact hr88)
          rw [← hy88, ← hA88, ← hc88] at hcut88
          have HO477 := Aside0.mk (show Kd.V (Kd.int .i64) 3 _ w.heap.size _ (.slice A88 y473.length c88) y473 from Kd.V_mk (by rw [hy88, hc88]; exact Nat.sub_le_sub_right (Nat.le_trans (by omega) hroom88) _) hr88)
          have HC477 := Aside0.mk (show y473.length ≤ c88 from by rw [hy88, hc88]; exact Nat.sub_le_sub_right (Nat.le_trans (by omega) hroom88) _)
          clear hr88 hC88 hroom88 hi088 hsz88 hc88
          have KY88 := Aside0.mk hy88
          have KA88 := Aside0.mk hA88
          clear hy88 hA88
          replace q88 := eq_true q88
          refine start_ (n := 9) (S := fun w' => w'.cell? ⟨gb466, 0, none⟩ = some (.slice (some ⟨go64, 0, none⟩) x467000_43.length co64)) (ds := []) (fl_ 9 0) (by kernel_rfl) rfl (fl_zero _) ((blk_cell BK466.out 0).trans rfl) (fun hHeld => ?_); refine with_tabW impl_DomInsert.tab12 impl_DomInsert.bits12 (fun HT_ HW_ => ?_)
          generalize w86.drew = w87 at HO_12 HO_467000 BK448 BK449 BK466 HB HO477 hHeld ⊢
          refine zpg_ (i := 1) (ra_ [0, 1, 1, 7]) HT_ rfl rfl (by kernel_rfl) (fun _ _ _ h => h) (by rfl) ?_
          refine zpg_ (i := 2) (ra_ [0, 1, 2, 6]) HT_ rfl rfl (by kernel_rfl) (fun _ _ _ h => h) (by rfl) ?_
          refine zpg_ (i := 3) (ra_ [0, 1, 3, 5]) HT_ rfl rfl (by kernel_rfl) (fun _ _ _ h => h) (by rfl) ?_
          refine zpg_ (i := 4) (ra_ [0, 1, 4, 4]) HT_ rfl rfl (by kernel_rfl) (fun _ _ _ h => h) (by rfl) ?_
          refine zpg_ (i := 5) (ra_ [0, 1, 5, 3]) HT_ rfl rfl (by kernel_rfl) (fun _ _ _ h => h) (by rfl) ?_
          refine zpg_ (i := 6) (ra_ [0, 1, 6, 2]) HT_ rfl rfl (by kernel_rfl) (fun _ _ _ h => h) (by rfl) ?_
          refine zpg_ (i := 7) (ra_ [0, 1, 7, 1]) HT_ rfl rfl (by kernel_rfl) (fun _ _ _ h => h) (by rfl) ?_
          refine ztg_ (i := 0) (fl_ 9 8) HT_ HW_ rfl rfl (by kernel_rfl) (fun _ _ _ h => h) (by rfl) hHeld ?_ z301_
          refine one_ (i := 8) (N := some 80) (fl_ 9 9) rfl rfl (one_of HT_.out (by kernel_rfl)) (by decide) (fun K hK => ?_)
          refine goes_ Try.func74 (by kernel_rfl) rfl #[.agg #[.slice (some ⟨go64, 0, none⟩) x467000_43.length co64], .int .i64 x14_43, .slice A88 y473.length c88] (by rfl) rfl rfl z2_ ?_
          with_reducible refine (impl_Dom_link.calls kj43 (fun k_ => some k_ = (.slice (some ⟨go64, 0, none⟩) x467000_43.length co64 : Value).ownBlock) (.slice (some ⟨go64, 0, none⟩) x467000_43.length co64) y472 x14_43 _ _ y473 t478 w _ ?side1 ?side2 ?side3 ?side4 A69.out).mono ?_
          (case side1 => exact z15_)
          (case side2 => exact z309_)
          (case side3 => exact Kd.C_kept_ownV (HO477.out) (fun k_ hk_ hs_ => (hk_.1.1.1.2) hs_))
          (case side4 => exact (Kd.V_reads' HO477.out).2.1)
          rintro e w90 ⟨rfl, hy0, hb, hkp⟩
          refine ⟨_, rfl, ?_⟩
          have n0_ := Aside0.mk (Kd.R_mono (ok' := fun k_ => True) (Kd.R_keptB ((Kd.R_apart' HO_12.out (Kd.R_typed HO_467000.out) (by decide))) hkp (fun k_ hk_ hs_ => (hk_.2) hs_)) (fun k_ hk_ => trivial))
          have n1_ := Aside0.mk (Kd.R_reok rfl hy0 (fun k_ e_ => HO_467000.out.1 k_ e_))
          have n2_ := Aside0.mk (blk_kept z24_ hkp (fun hs_ => (fun e_ => (Kd.R_ne HO_467000.out BK448.out (by decide)) e_) hs_))
          have n3_ := Aside0.mk (blk_kept z31_ hkp (fun hs_ => (fun e_ => (Kd.R_ne HO_467000.out BK449.out (by decide)) e_) hs_))
          have n4_ := Aside0.mk (blk_kept z50_ hkp (fun hs_ => (fun e_ => (Kd.R_ne HO_467000.out BK466.out (by decide)) e_) hs_))
          have n5_ := Aside0.mk (Kd.V_mono (ok' := fun k_ => some k_ ≠ (.slice (some ⟨go64, 0, none⟩) x467000_43.length co64 : Value).ownBlock ∧ k_ ≠ gb448 ∧ k_ ≠ gb449 ∧ k_ ≠ gb466) (Kd.V_keptB (HO477.out) hkp (fun k_ hk_ hs_ => (hk_.1.1.1.2) hs_)) (fun k_ hk_ => ⟨hk_.1.1.1.1.2, hk_.1.1.1.2, hk_.1.1.2, hk_.1.2⟩))
          have n6_ := Aside0.mk (hb)
          clear HO_12
          clear HO_467000
          clear BK448
          clear BK449
          clear BK466
          clear HO477
          clear HB
          have HO_12 := n0_
          have HO_467000 := n1_
          have BK448 := n2_
          have BK449 := n3_
          have BK466 := n4_
          have HO477 := n5_
          have HB := n6_
          clear n0_ n1_ n2_ n3_ n4_ n5_ n6_
          (try clear hb)
          (try clear hkp)
          (try clear hy0)
          refine hK.out _ _ ((blk_cell BK466.out 0).trans rfl) (fun hHeld => ?_)
          clear hK K
          refine zn_ rfl ?_
          refine done_ (done_of HT_.out (by kernel_rfl)) ?_
          try go_wp2
          have n0_ := Aside0.mk (Kd.R_drew HO_12.out)
          have n1_ := Aside0.mk (Kd.R_drew HO_467000.out)
          have n2_ := Aside0.mk (Kd.V_drew HO477.out)
          have n3_ := Aside0.mk (blk_drew BK448.out)
          have n4_ := Aside0.mk (blk_drew BK449.out)
          have n5_ := Aside0.mk (blk_drew BK466.out)
          have n6_ := Aside0.mk (below_drew1 HB.out)
          clear HO_12
          clear HO_467000
          clear HO477
          clear BK448
          clear BK449
          clear BK466
          clear HB
          have HO_12 := n0_
          have HO_467000 := n1_
          have HO477 := n2_
          have BK448 := n3_
          have BK449 := n4_
          have BK466 := n5_
          have HB := n6_
          clear n0_ n1_ n2_ n3_ n4_ n5_ n6_
          have q92 : (a2 : Int) ≤ ((t455.length : Int) : Int) := odt_
          obtain ⟨i092, hi092, _, hsz92, _⟩ := info_parts info3
          have hroom92 : t455.length ≤ co89 := (Kd.R_reads' HO_12.out).2.1
          have hC92 : Kd.F (Kd.int .i64) _ _ Ao89 t455.length t455 := (Kd.V_at (base := w.heap.size) (Kd.R_V (Kd.R_types (Kd.R_types (Kd.R_types (Kd.R_apart' (HO_12.out) (Kd.R_typed HO_467000.out) (by decide)) BK448.out (by decide)) BK449.out (by decide)) BK466.out (by decide)))).2.2
          have hcut92 := cut_to (P := Try.prog) 49 3 .i64 Try.underlying49 hi092 Ao89 t455.length co89 a2 (odt_) q92 hroom92
          have hr92 := Kd.F_take (m := (a2 : Int).toNat) hC92 (by omega)
          have hy92 : y479.length = (a2 : Int).toNat := (by rw [Ny479.out, List.length_take]; omega)
          rw [← Ny479.out] at hr92
          rw [← hy92] at hcut92
          have HO483 := Aside0.mk (show Kd.V (Kd.int .i64) 3 _ w.heap.size _ (.slice Ao89 y479.length co89) y479 from Kd.V_mk (by omega) hr92)
          have HC483 := Aside0.mk (show y479.length ≤ co89 from by omega)
          clear hr92 hC92 hroom92 hi092 hsz92
          have KY92 := Aside0.mk hy92
          clear hy92
          replace q92 := eq_true q92
          have q93 : ((ji72) : Int) ≤ ((t455.length : Int) : Int) := odt_
          obtain ⟨i093, hi093, _, hsz93, _⟩ := info_parts info3
          have hroom93 : t455.length ≤ co89 := (Kd.R_reads' HO_12.out).2.1
          have hC93 : Kd.F (Kd.int .i64) _ _ Ao89 t455.length t455 := (Kd.V_at (base := w.heap.size) (Kd.R_V (Kd.R_types (Kd.R_types (Kd.R_types (Kd.R_apart' (HO_12.out) (Kd.R_typed HO_467000.out) (by decide)) BK448.out (by decide)) BK449.out (by decide)) BK466.out (by decide)))).2.2
          have q093 : (0 : Int) ≤ ((ji72) : Int) := odt_
          have hcut93 := cut_from (P := Try.prog) 49 3 .i64 Try.underlying49 hi093 1 hsz93 Ao89 t455.length co89 (ji72) q093 q93
          have hr93 := Kd.F_cut (m := ((ji72) : Int).toNat) (c := co89) hC93 (by omega) hroom93
          obtain ⟨A93, hA93⟩ : ∃ A1, A1 = (if co89 = ((ji72) : Int).toNat then Ao89 else (Ao89 : Option Addr).map (·.add (((ji72) : Int).toNat * 1))) := ⟨_, rfl⟩
          obtain ⟨c93, hc93⟩ : ∃ c1, c1 = co89 - ((ji72) : Int).toNat := ⟨_, rfl⟩
          have hy93 : y487.length = t455.length - ((ji72) : Int).toNat := (by rw [Ny487.out, List.length_drop] <;> omega)
          rw [show (t455).drop ((ji72) : Int).toNat = y487 from Ny487.out.symm] at hr93
          replace hr93 : Kd.F (Kd.int .i64) _ _ A93 y487.length y487 := (by rw [hA93]; exact hr93)
          rw [← hy93, ← hA93, ← hc93] at hcut93
          have HO491 := Aside0.mk (show Kd.V (Kd.int .i64) 3 _ w.heap.size _ (.slice A93 y487.length c93) y487 from Kd.V_mk (by rw [hy93, hc93]; exact Nat.sub_le_sub_right hroom93 _) hr93)
          have HC491 := Aside0.mk (show y487.length ≤ c93 from by rw [hy93, hc93]; exact Nat.sub_le_sub_right hroom93 _)
          clear hr93 hC93 hroom93 hi093 hsz93 hc93
          have KY93 := Aside0.mk hy93
          have KA93 := Aside0.mk hA93
          clear hy93 hA93
          replace q93 := eq_true q93
          refine start_ (n := 15) (S := fun w' => w'.cell? ⟨gb466, 0, none⟩ = some (.slice (some ⟨go64, 0, none⟩) x467000_43.length co64)) (ds := []) (fl_ 15 0) (by kernel_rfl) rfl (fl_zero _) ((blk_cell BK466.out 0).trans rfl) (fun hHeld => ?_); refine with_tabW impl_DomInsert.tab13 impl_DomInsert.bits13 (fun HT_ HW_ => ?_)
          generalize w90.drew = w91 at HO_12 HO_467000 HO477 BK448 BK449 BK466 HB HO483 HO491 hHeld ⊢
          refine zpg_ (i := 1) (ra_ [0, 1, 1, 13]) HT_ rfl rfl (by kernel_rfl) (fun _ _ _ h => h) (by rfl) ?_
          refine zpg_ (i := 2) (ra_ [0, 1, 2, 12]) HT_ rfl rfl (by kernel_rfl) (fun _ _ _ h => h) (by rfl) ?_
          refine zpg_ (i := 3) (ra_ [0, 1, 3, 11]) HT_ rfl rfl (by kernel_rfl) (fun _ _ _ h => h) (by rfl) ?_
          refine zpg_ (i := 4) (ra_ [0, 1, 4, 10]) HT_ rfl rfl (by kernel_rfl) (fun _ _ _ h => h) (by rfl) ?_
          refine zpg_ (i := 5) (ra_ [0, 1, 5, 9]) HT_ rfl rfl (by kernel_rfl) (fun _ _ _ h => h) (by rfl) ?_
          refine zpg_ (i := 7) (ra_ [0, 1, 5, 1, 1, 7]) HT_ rfl rfl (by kernel_rfl) (fun _ _ _ h => h) (by rfl) ?_
          refine zpg_ (i := 8) (ra_ [0, 1, 5, 1, 2, 6]) HT_ rfl rfl (by kernel_rfl) (fun _ _ _ h => h) (by rfl) ?_
          refine zpg_ (i := 9) (ra_ [0, 1, 5, 1, 3, 5]) HT_ rfl rfl (by kernel_rfl) (fun _ _ _ h => h) (by rfl) ?_
          refine zpg_ (i := 10) (ra_ [0, 1, 5, 1, 4, 4]) HT_ rfl rfl (by kernel_rfl) (fun _ _ _ h => h) (by rfl) ?_
          refine zpg_ (i := 11) (ra_ [0, 1, 5, 1, 5, 3]) HT_ rfl rfl (by kernel_rfl) (fun _ _ _ h => h) (by rfl) ?_
          refine ztg_ (i := 0) (ra_ [6, 1, 5, 3]) HT_ HW_ rfl rfl (by kernel_rfl) (fun _ _ _ h => h) (by rfl) hHeld ?_ z301_
          refine one_ (i := 6) (N := some 87) (fl_ 15 12) rfl rfl (one_of HT_.out (by kernel_rfl)) (by decide) (fun K hK => ?_)
          refine Kd.R_lit_step (Kd.int .i64) _ 3 ?hg (N := 87) ?hd (xs := ([x14_43] : List Int)) (inner := [.int .i64 x14_43]) (ok := fun _ => True) (okp := fun _ => True) ?hr ?hp (fun _ hk => hk) trivial (Below.refl _ _) (Nat.le_refl _) (by simp) ?_; (case hd => rfl); (case hg => rfl); (case hr => exact z19_); (case hp => exact z296_)
          intro v485 w94 ho95 hb hg_ hnew_
          clear hg_ hnew_
          (rw [← Ny484.out] at ho95)
          have n0_ := Aside0.mk (Kd.R_elder' z54_ (Kd.R_base ho95) hb)
          have n1_ := Aside0.mk (Kd.R_below z63_ hb)
          have n2_ := Aside0.mk (Kd.V_elder' z108_ (Kd.R_base ho95) hb)
          have n3_ := Aside0.mk (Kd.V_elder' z109_ (Kd.R_base ho95) hb)
          have n4_ := Aside0.mk (Kd.V_elder' z110_ (Kd.R_base ho95) hb)
          have n5_ := Aside0.mk (Kd.R_lower (Kd.R_new' ho95 (Kd.R_lt z54_)) (below_size z15_))
          have n6_ := Aside0.mk (blk_below (g := gb448) (o := .cells #[.slice A0_0 l0_0.length c0_0] 28 (0, 0)) z24_ hb)
          have n7_ := Aside0.mk (blk_below (g := gb449) (o := .cells #[.slice none 0 0] 28 (0, 0)) z31_ hb)
          have n8_ := Aside0.mk (blk_below (g := gb466) (o := .cells #[.slice (some ⟨go64, 0, none⟩) x467000_43.length co64] 28 (0, 0)) z50_ hb)
          have n9_ := Aside0.mk (below_step z15_ hb)
          clear HO_12
          clear HO_467000
          clear HO477
          clear HO483
          clear HO491
          clear BK448
          clear BK449
          clear BK466
          clear HB
          have HO_12 := n0_
          have HO_467000 := n1_
          have HO477 := n2_
          have HO483 := n3_
          have HO491 := n4_
          have HO486 := n5_
          have BK448 := n6_
          have BK449 := n7_
          have BK466 := n8_
          have HB := n9_
          clear n0_ n1_ n2_ n3_ n4_ n5_ n6_ n7_ n8_ n9_
          clear hb ho95
          obtain ⟨Ao96, co96, eo96⟩ := Kd.R_slice HO486.out
          (subst eo96)
          refine hK.out _ _ ((blk_cell BK466.out 0).trans rfl) (fun hHeld => ?_)
          clear hK K
          refine zn_ rfl ?_
          refine one_ (i := 12) (N := some 93) (fl_ 15 13) rfl rfl (one_of HT_.out (by kernel_rfl)) (by decide) (fun K hK => ?_)
          refine Kd.N_lit_step (Kd.slice 3 (Kd.int .i64)) _ 49 ?hg (N' := 93) ?hd (xs := ([y479, y484, y487] : List (List Int))) (inner := [.slice Ao89 y479.length co89, .slice Ao96 y484.length co96, .slice A93 y487.length c93]) (ok := (fun k_ => some k_ ≠ (.slice (some ⟨go64, 0, none⟩) x467000_43.length co64 : Value).ownBlock ∧ k_ ≠ gb448 ∧ k_ ≠ gb449 ∧ k_ ≠ gb466)) (okp := (fun k_ => some k_ ≠ (.slice (some ⟨go64, 0, none⟩) x467000_43.length co64 : Value).ownBlock ∧ k_ ≠ gb448 ∧ k_ ≠ gb449 ∧ k_ ≠ gb466)) ?hr ?hp (fun _ hk => hk) ((show ∀ k_, w94.heap.size ≤ k_ → (fun k_ => some k_ ≠ (.slice (some ⟨go64, 0, none⟩) x467000_43.length co64 : Value).ownBlock ∧ k_ ≠ gb448 ∧ k_ ≠ gb449 ∧ k_ ≠ gb466) k_ from fun k_ hk => ⟨Kd.fresh' (Kd.R_lt z63_) k_ hk, Kd.freshB (g := gb448) (o := .cells #[.slice A0_0 l0_0.length c0_0] 28 (0, 0)) z24_ k_ hk, Kd.freshB (g := gb449) (o := .cells #[.slice none 0 0] 28 (0, 0)) z31_ k_ hk, Kd.freshB (g := gb466) (o := .cells #[.slice (some ⟨go64, 0, none⟩) x467000_43.length co64] 28 (0, 0)) z50_ k_ hk⟩) _ (Nat.le_refl _)) (Below.refl _ _) (Nat.le_refl _) (by simp) ?_; (case hd => rfl); (case hg => rfl); (case hr => exact z19_); (case hp => exact (Reps.one (show Kd.FK (Kd.slice 3 (Kd.int .i64)) _ _ y479 [.slice Ao89 y479.length co89] from (Kd.FK_slice_mk (Kd.V_reads' (Kd.V_mono (ok' := (fun k_ => some k_ ≠ (.slice (some ⟨go64, 0, none⟩) x467000_43.length co64 : Value).ownBlock ∧ k_ ≠ gb448 ∧ k_ ≠ gb449 ∧ k_ ≠ gb466)) (HO483.out) (fun k_ hk => ⟨hk.1.1.1.1.2, ⟨hk.1.1.1.2, ⟨hk.1.1.2, hk.1.2⟩⟩⟩))).2.1 (Kd.V_F (Kd.V_mono (ok' := (fun k_ => some k_ ≠ (.slice (some ⟨go64, 0, none⟩) x467000_43.length co64 : Value).ownBlock ∧ k_ ≠ gb448 ∧ k_ ≠ gb449 ∧ k_ ≠ gb466)) (HO483.out) (fun k_ hk => ⟨hk.1.1.1.1.2, ⟨hk.1.1.1.2, ⟨hk.1.1.2, hk.1.2⟩⟩⟩))))) (Reps.one (show Kd.FK (Kd.slice 3 (Kd.int .i64)) _ _ y484 [.slice Ao96 y484.length co96] from (Kd.FK_slice_mk (Kd.R_reads' (Kd.R_mono (ok' := (fun k_ => some k_ ≠ (.slice (some ⟨go64, 0, none⟩) x467000_43.length co64 : Value).ownBlock ∧ k_ ≠ gb448 ∧ k_ ≠ gb449 ∧ k_ ≠ gb466)) (Kd.R_types (Kd.R_types (Kd.R_types (Kd.R_apart' (HO486.out) (Kd.R_typed HO_467000.out) (by decide)) BK448.out (by decide)) BK449.out (by decide)) BK466.out (by decide)) (fun k_ hk => ⟨hk.1.1.1.2, ⟨hk.1.1.2, ⟨hk.1.2, hk.2⟩⟩⟩))).2.1 (Kd.R_F (Kd.R_mono (ok' := (fun k_ => some k_ ≠ (.slice (some ⟨go64, 0, none⟩) x467000_43.length co64 : Value).ownBlock ∧ k_ ≠ gb448 ∧ k_ ≠ gb449 ∧ k_ ≠ gb466)) (Kd.R_types (Kd.R_types (Kd.R_types (Kd.R_apart' (HO486.out) (Kd.R_typed HO_467000.out) (by decide)) BK448.out (by decide)) BK449.out (by decide)) BK466.out (by decide)) (fun k_ hk => ⟨hk.1.1.1.2, ⟨hk.1.1.2, ⟨hk.1.2, hk.2⟩⟩⟩))))) (Reps.one (show Kd.FK (Kd.slice 3 (Kd.int .i64)) _ _ y487 [.slice A93 y487.length c93] from (Kd.FK_slice_mk (Kd.V_reads' (Kd.V_mono (ok' := (fun k_ => some k_ ≠ (.slice (some ⟨go64, 0, none⟩) x467000_43.length co64 : Value).ownBlock ∧ k_ ≠ gb448 ∧ k_ ≠ gb449 ∧ k_ ≠ gb466)) (HO491.out) (fun k_ hk => ⟨hk.1.1.1.1.2, ⟨hk.1.1.1.2, ⟨hk.1.1.2, hk.1.2⟩⟩⟩))).2.1 (Kd.V_F (Kd.V_mono (ok' := (fun k_ => some k_ ≠ (.slice (some ⟨go64, 0, none⟩) x467000_43.length co64 : Value).ownBlock ∧ k_ ≠ gb448 ∧ k_ ≠ gb449 ∧ k_ ≠ gb466)) (HO491.out) (fun k_ hk => ⟨hk.1.1.1.1.2, ⟨hk.1.1.1.2, ⟨hk.1.1.2, hk.1.2⟩⟩⟩))))) (Reps.none _ _)))))
          intro v493 w97 ho98 hb hg_ hnew_
          clear hg_ hnew_
          (rw [← Ny492.out] at ho98)
          have n0_ := Aside0.mk (Kd.R_below z54_ hb)
          have n1_ := Aside0.mk (Kd.R_below z63_ hb)
          have n2_ := Aside0.mk (Kd.V_elder' z108_ (Kd.N_base ho98) hb)
          have n3_ := Aside0.mk (Kd.V_elder' z109_ (Kd.N_base ho98) hb)
          have n4_ := Aside0.mk (Kd.V_elder' z110_ (Kd.N_base ho98) hb)
          have n5_ := Aside0.mk (Kd.N_lower ho98 (below_size z15_))
          have n6_ := Aside0.mk (blk_below (g := gb448) (o := .cells #[.slice A0_0 l0_0.length c0_0] 28 (0, 0)) z24_ hb)
          have n7_ := Aside0.mk (blk_below (g := gb449) (o := .cells #[.slice none 0 0] 28 (0, 0)) z31_ hb)
          have n8_ := Aside0.mk (blk_below (g := gb466) (o := .cells #[.slice (some ⟨go64, 0, none⟩) x467000_43.length co64] 28 (0, 0)) z50_ hb)
          have n9_ := Aside0.mk (below_step z15_ hb)
          clear HO_12
          clear HO_467000
          clear HO477
          clear HO483
          clear HO491
          clear BK448
          clear BK449
          clear BK466
          clear HB
          clear HO486
          have HO_12 := n0_
          have HO_467000 := n1_
          have HO477 := n2_
          have HO483 := n3_
          have HO491 := n4_
          have HO494 := n5_
          have BK448 := n6_
          have BK449 := n7_
          have BK466 := n8_
          have HB := n9_
          clear n0_ n1_ n2_ n3_ n4_ n5_ n6_ n7_ n8_ n9_
          clear hb ho98
          obtain ⟨Ao99, co99, eo99⟩ := Kd.N_slice HO494.out
          (subst eo99)
          refine hK.out _ _ ((blk_cell BK466.out 0).trans rfl) (fun hHeld => ?_)
          clear hK K
          refine zn_ rfl ?_
          refine one_ (i := 13) (N := some 94) (fl_ 15 14) rfl rfl (one_of HT_.out (by kernel_rfl)) (by decide) (fun K hK => ?_)
          refine goes_ Try.func75 (by kernel_rfl) rfl #[.slice Ao99 y492.length co99] (by rfl) rfl rfl z2_ ?_
          with_reducible refine (slices_Concat_int.calls kj43 _ _ y492 t495 _ ?side1 ?side2 A75.out).mono ?_
          (case side1 => exact z214_)
          (case side2 => exact (Kd.N_reads' HO494.out).2.1)
          rintro e w100 ⟨v496, rfl, ho0, hb⟩
          refine ⟨_, rfl, ?_⟩
          have n0_ := Aside0.mk (Kd.R_elder' z54_ (Kd.R_base ho0) hb)
          have n1_ := Aside0.mk (Kd.R_below z63_ hb)
          have n2_ := Aside0.mk (Kd.V_elder' z108_ (Kd.R_base ho0) hb)
          have n3_ := Aside0.mk (Kd.V_elder' z109_ (Kd.R_base ho0) hb)
          have n4_ := Aside0.mk (Kd.V_elder' z110_ (Kd.R_base ho0) hb)
          have n5_ := Aside0.mk (Kd.N_elder' z153_ (Kd.R_base ho0) hb)
          have n6_ := Aside0.mk (Kd.R_lower (Kd.R_new' ho0 (Kd.R_lt z54_)) (below_size z15_))
          have n7_ := Aside0.mk (blk_below (g := gb448) (o := .cells #[.slice A0_0 l0_0.length c0_0] 28 (0, 0)) z24_ hb)
          have n8_ := Aside0.mk (blk_below (g := gb449) (o := .cells #[.slice none 0 0] 28 (0, 0)) z31_ hb)
          have n9_ := Aside0.mk (blk_below (g := gb466) (o := .cells #[.slice (some ⟨go64, 0, none⟩) x467000_43.length co64] 28 (0, 0)) z50_ hb)
          have n10_ := Aside0.mk (below_step z15_ hb)
          clear HO_12
          clear HO_467000
          clear HO477
          clear HO483
          clear HO491
          clear HO494
          clear BK448
          clear BK449
          clear BK466
          clear HB
          have HO_12 := n0_
          have HO_467000 := n1_
          have HO477 := n2_
          have HO483 := n3_
          have HO491 := n4_
          have HO494 := n5_
          have HO497 := n6_
          have BK448 := n7_
          have BK449 := n8_
          have BK466 := n9_
          have HB := n10_
          clear n0_ n1_ n2_ n3_ n4_ n5_ n6_ n7_ n8_ n9_ n10_
          (try clear hb)
          (try clear ho0)
          obtain ⟨Ao101, co101, eo101⟩ := Kd.R_slice HO497.out
          (subst eo101)
          refine hK.out _ _ ((blk_cell BK466.out 0).trans rfl) (fun hHeld => ?_)
          clear hK K
          refine zn_ rfl ?_
          refine one_ (i := 14) (N := some 95) (fl_ 15 15) rfl rfl (one_of HT_.out (by kernel_rfl)) (by decide) (fun K hK => ?_)
          refine goes_ Try.func74 (by kernel_rfl) rfl #[.agg #[.slice (some ⟨go64, 0, none⟩) x467000_43.length co64], .int .i64 a1, .slice Ao101 t495.length co101] (by rfl) rfl rfl z2_ ?_
          with_reducible refine (impl_Dom_link.calls kj43 (fun k_ => some k_ = (.slice (some ⟨go64, 0, none⟩) x467000_43.length co64 : Value).ownBlock) (.slice (some ⟨go64, 0, none⟩) x467000_43.length co64) t478 a1 _ _ t495 t498 w _ ?side1 ?side2 ?side3 ?side4 A76.out).mono ?_
          (case side1 => exact z15_)
          (case side2 => exact z309_)
          (case side3 => exact z277_)
          (case side4 => exact (Kd.R_reads' HO497.out).2.1)
          rintro e w102 ⟨rfl, hy0, hb, hkp⟩
          refine ⟨_, rfl, ?_⟩
          have n0_ := Aside0.mk (Kd.R_mono (ok' := fun k_ => some k_ ≠ (.slice Ao101 t495.length co101 : Value).ownBlock) (Kd.R_keptB ((Kd.R_apart' HO_12.out (Kd.R_typed HO_467000.out) (by decide))) hkp (fun k_ hk_ hs_ => (hk_.2) hs_)) (fun k_ hk_ => hk_.1.1.2))
          have n1_ := Aside0.mk (Kd.R_reok rfl hy0 (fun k_ e_ => HO_467000.out.1 k_ e_))
          have n2_ := Aside0.mk (blk_kept z24_ hkp (fun hs_ => (fun e_ => (Kd.R_ne HO_467000.out BK448.out (by decide)) e_) hs_))
          have n3_ := Aside0.mk (blk_kept z31_ hkp (fun hs_ => (fun e_ => (Kd.R_ne HO_467000.out BK449.out (by decide)) e_) hs_))
          have n4_ := Aside0.mk (blk_kept z50_ hkp (fun hs_ => (fun e_ => (Kd.R_ne HO_467000.out BK466.out (by decide)) e_) hs_))
          have n5_ := Aside0.mk (Kd.V_mono (ok' := fun k_ => some k_ ≠ (.slice (some ⟨go64, 0, none⟩) x467000_43.length co64 : Value).ownBlock ∧ some k_ ≠ (.slice Ao99 y492.length co99 : Value).ownBlock ∧ some k_ ≠ (.slice Ao101 t495.length co101 : Value).ownBlock ∧ k_ ≠ gb448 ∧ k_ ≠ gb449 ∧ k_ ≠ gb466) (Kd.V_keptB (HO477.out) hkp (fun k_ hk_ hs_ => (hk_.1.1.1.1) hs_)) (fun k_ hk_ => ⟨hk_.1.1.1.1.1, hk_.1.1.2, hk_.1.2, hk_.1.1.1.1.2.1, hk_.1.1.1.1.2.2.1, hk_.1.1.1.1.2.2.2⟩))
          have n6_ := Aside0.mk (Kd.V_mono (ok' := fun k_ => some k_ ≠ (.slice (some ⟨go64, 0, none⟩) x467000_43.length co64 : Value).ownBlock ∧ some k_ ≠ (.slice Ao99 y492.length co99 : Value).ownBlock ∧ some k_ ≠ (.slice Ao101 t495.length co101 : Value).ownBlock ∧ k_ ≠ gb448 ∧ k_ ≠ gb449 ∧ k_ ≠ gb466) (Kd.V_keptB (HO483.out) hkp (fun k_ hk_ hs_ => (hk_.1.1.1.1.1.1.2) hs_)) (fun k_ hk_ => ⟨hk_.1.1.1.1.1.1.1.2, hk_.1.1.2, hk_.1.2, hk_.1.1.1.1.1.1.2, hk_.1.1.1.1.1.2, hk_.1.1.1.1.2⟩))
          have n7_ := Aside0.mk (Kd.V_mono (ok' := fun k_ => some k_ ≠ (.slice (some ⟨go64, 0, none⟩) x467000_43.length co64 : Value).ownBlock ∧ some k_ ≠ (.slice Ao99 y492.length co99 : Value).ownBlock ∧ some k_ ≠ (.slice Ao101 t495.length co101 : Value).ownBlock ∧ k_ ≠ gb448 ∧ k_ ≠ gb449 ∧ k_ ≠ gb466) (Kd.V_keptB (HO491.out) hkp (fun k_ hk_ hs_ => (hk_.1.1.1.1.1.1.2) hs_)) (fun k_ hk_ => ⟨hk_.1.1.1.1.1.1.1.2, hk_.1.1.2, hk_.1.2, hk_.1.1.1.1.1.1.2, hk_.1.1.1.1.1.2, hk_.1.1.1.1.2⟩))
          have n8_ := Aside0.mk (Kd.N_mono (ok' := fun k_ => some k_ ≠ (.slice (some ⟨go64, 0, none⟩) x467000_43.length co64 : Value).ownBlock ∧ some k_ ≠ (.slice Ao101 t495.length co101 : Value).ownBlock ∧ k_ ≠ gb448 ∧ k_ ≠ gb449 ∧ k_ ≠ gb466) (Kd.N_keptB (HO494.out) hkp (fun k_ hk_ hs_ => (hk_.1.1) hs_)) (fun k_ hk_ => ⟨hk_.1.1.1, hk_.1.2, hk_.1.1.2.1, hk_.1.1.2.2.1, hk_.1.1.2.2.2⟩))
          have n9_ := Aside0.mk (Kd.R_mono (ok' := fun k_ => some k_ ≠ (.slice Ao89 t455.length co89 : Value).ownBlock) (Kd.R_keptB ((Kd.R_apart' HO497.out (Kd.R_typed HO_467000.out) (by decide))) hkp (fun k_ hk_ hs_ => (hk_.2) hs_)) (fun k_ hk_ => hk_.1.1.2))
          have n10_ := Aside0.mk (hb)
          clear HO_12
          clear HO_467000
          clear BK448
          clear BK449
          clear BK466
          clear HO477
          clear HO483
          clear HO491
          clear HO494
          clear HO497
          clear HB
          have HO_12 := n0_
          have HO_467000 := n1_
          have BK448 := n2_
          have BK449 := n3_
          have BK466 := n4_
          have HO477 := n5_
          have HO483 := n6_
          have HO491 := n7_
          have HO494 := n8_
          have HO497 := n9_
          have HB := n10_
          clear n0_ n1_ n2_ n3_ n4_ n5_ n6_ n7_ n8_ n9_ n10_
          (try clear hb)
          (try clear hkp)
          (try clear hy0)
          refine hK.out _ _ ((blk_cell BK466.out 0).trans rfl) (fun hHeld => ?_)
          clear hK K
          refine zn_ rfl ?_
          refine done_ (done_of HT_.out (by kernel_rfl)) ?_
          have hcz103_0 : w102.cell? ⟨gb466, 0, none⟩ = some (.slice (some ⟨go64, 0, none⟩) x467000_43.length co64) := (blk_cell BK466.out 0).trans rfl
          have hfz103_0 := blk_frozen BK466.out 0
          try go_wp2_with (((with_reducible refine gate_callee (f := 13) rfl ?_); refine goesL_ (some 97) rfl rfl Try.func13 (by kernel_rfl) rfl #[.agg #[.slice (some ⟨go64, 0, none⟩) t498.length co64]] rfl z188_ ?_; (with_reducible refine (impl_DomOk.calls kj43 _ _ t498 true _ ?side1 ?side2 A77.out).mono ?_); (case side1 => exact z206_); (case side2 => exact z270_); rintro e w104 ⟨rfl, hb⟩; refine ⟨_, rfl, ?_⟩; replace HO_12 := Aside0.mk (Kd.R_below z54_ hb); replace HO_467000 := Aside0.mk (Kd.R_below z63_ hb); replace HO477 := Aside0.mk (Kd.V_below z108_ hb); replace HO483 := Aside0.mk (Kd.V_below z109_ hb); replace HO491 := Aside0.mk (Kd.V_below z110_ hb); replace HO494 := Aside0.mk (Kd.N_below z153_ hb); replace HO497 := Aside0.mk (Kd.R_below z236_ hb); replace BK448 := Aside0.mk (blk_below (g := gb448) (o := .cells #[.slice A0_0 l0_0.length c0_0] 28 (0, 0)) z24_ hb); replace BK449 := Aside0.mk (blk_below (g := gb449) (o := .cells #[.slice none 0 0] 28 (0, 0)) z31_ hb); replace BK466 := Aside0.mk (blk_below (g := gb466) (o := .cells #[.slice (some ⟨go64, 0, none⟩) x467000_43.length co64] 28 (0, 0)) z50_ hb); replace HB := Aside0.mk (below_step z15_ hb); (try clear hb); have hcz105_0 : w104.cell? ⟨gb466, 0, none⟩ = some (.slice (some ⟨go64, 0, none⟩) x467000_43.length co64) := (blk_cell BK466.out 0).trans rfl; have hfz105_0 := blk_frozen BK466.out 0; have hnb106 := NB449_448.out; have hnc106 := NB448_449.out; have hcz107_0 : w104.cell? ⟨gb449, 0, none⟩ = some (.slice none 0 0) := (blk_cell BK449.out 0).trans rfl; have hfz107_0 := blk_frozen BK449.out 0))
          refine bodyPost_ret (results_ct rfl _ _ gb449 28 #[.slice (some ⟨go64, 0, none⟩) x467000_43.length co64] (0, 0) _ rfl z91_ Try.underlying28 rfl (by kernel_rfl)) rfl ?_
          exact ⟨_, z216_, by exact Kd.R_mono (Kd.R_far (p := ⟨gb449, 0, none⟩) (Kd.R_types HO_467000.out BK449.out (by decide)) (fun _ hk => hk.2) (.slice (some ⟨go64, 0, none⟩) x467000_43.length co64)) (fun _ hk => trivial), z15_⟩
         ·replace c78 := Bool.eq_false_iff.mpr c78
          subst c78
          replace H := iff_ H
          obtain ⟨t500, A108, H⟩ := bnd_ H
          simp only [Option.some.injEq, Prod.mk.injEq] at H
          obtain ⟨rfl, rfl⟩ := H
          try go_wp2
          have p64 : 0 ≤ (x14_43 : Int) := odt_
          have q64 : (x14_43 : Int) < ((x467000_43.length : Int) : Int) := odt_
          obtain ⟨go64, co64, eo64, gb64, gl64, cl64, HG64⟩ := Kd.R_form HO_467000.out (by omega)
          (cases eo64)
          have GB64 := Aside0.mk gb64
          have GG64 := Aside0.mk HG64
          clear gb64 gl64 HG64
          have n0_ := Aside0.mk (Kd.R_drew HO_12.out)
          have n1_ := Aside0.mk (Kd.R_drew HO_467000.out)
          have n2_ := Aside0.mk (blk_drew BK448.out)
          have n3_ := Aside0.mk (blk_drew BK449.out)
          have n4_ := Aside0.mk (blk_drew BK466.out)
          have n5_ := Aside0.mk (below_drew1 HB.out)
          clear HO_12
          clear HO_467000
          clear BK448
          clear BK449
          clear BK466
          clear HB
          have HO_12 := n0_
          have HO_467000 := n1_
          have BK448 := n2_
          have BK449 := n3_
          have BK466 := n4_
          have HB := n5_
          clear n0_ n1_ n2_ n3_ n4_ n5_
          refine start_ (n := 13) (S := fun w' => w'.cell? ⟨gb466, 0, none⟩ = some (.slice (some ⟨go64, 0, none⟩) x467000_43.length co64)) (ds := []) (fl_ 13 0) (by kernel_rfl) rfl (fl_zero _) ((blk_cell BK466.out 0).trans rfl) (fun hHeld => ?_)
          generalize wc.drew = wcD at HO_12 HO_467000 BK448 BK449 BK466 HB hHeld ⊢
          have hnb109 := NB466_448.out
          have hnc109 := NB448_466.out
          have hnb110 := NB466_449.out
          have hnc110 := NB449_466.out
          have hcz111_0 : wcD.cell? ⟨gb466, 0, none⟩ = some (.slice (some ⟨go64, 0, none⟩) x467000_43.length co64) := (blk_cell BK466.out 0).trans rfl
          have hfz111_0 := blk_frozen BK466.out 0
          obtain ⟨ce64, hcl64, hM64, hcc64, hfr64⟩ := Kd.R_elem HO_467000.out z72 (x14_43 : Int) p64 q64
          obtain rfl := k72_openM hM64
          have hx64_0 : wcD.cell? ⟨go64, (x14_43 : Int).toNat * 7, none⟩ = some (.bool ((rd_T72 x467000_43 x14_43).f0)) := hcc64 0 _ rfl
          have hx64_1 : wcD.cell? ⟨go64, (x14_43 : Int).toNat * 7 + 1, none⟩ = some (.int .i64 ((rd_T72 x467000_43 x14_43).f1)) := hcc64 1 _ rfl
          have hx64_2 : wcD.cell? ⟨go64, (x14_43 : Int).toNat * 7 + 2, none⟩ = some (.int .i64 ((rd_T72 x467000_43 x14_43).f2)) := hcc64 2 _ rfl
          have hx64_3 : wcD.cell? ⟨go64, (x14_43 : Int).toNat * 7 + 3, none⟩ = some (.int .i64 ((rd_T72 x467000_43 x14_43).f3)) := hcc64 3 _ rfl
          have hx64_4 : wcD.cell? ⟨go64, (x14_43 : Int).toNat * 7 + 4, none⟩ = some (.int .i64 ((rd_T72 x467000_43 x14_43).f4)) := hcc64 4 _ rfl
          have hx64_5 : wcD.cell? ⟨go64, (x14_43 : Int).toNat * 7 + 5, none⟩ = some (.int .i64 ((rd_T72 x467000_43 x14_43).f5)) := hcc64 5 _ rfl
          have hx64_6 : wcD.cell? ⟨go64, (x14_43 : Int).toNat * 7 + 6, none⟩ = some (.int .i64 ((rd_T72 x467000_43 x14_43).f6)) := hcc64 6 _ rfl
          have hf64_0 : wcD.frozen? ⟨go64, (x14_43 : Int).toNat * 7, none⟩ = false := hfr64 0
          have hf64_1 : wcD.frozen? ⟨go64, (x14_43 : Int).toNat * 7 + 1, none⟩ = false := hfr64 1
          have hf64_2 : wcD.frozen? ⟨go64, (x14_43 : Int).toNat * 7 + 2, none⟩ = false := hfr64 2
          have hf64_3 : wcD.frozen? ⟨go64, (x14_43 : Int).toNat * 7 + 3, none⟩ = false := hfr64 3
          have hf64_4 : wcD.frozen? ⟨go64, (x14_43 : Int).toNat * 7 + 4, none⟩ = false := hfr64 4
          have hf64_5 : wcD.frozen? ⟨go64, (x14_43 : Int).toNat * 7 + 5, none⟩ = false := hfr64 5
          have hf64_6 : wcD.frozen? ⟨go64, (x14_43 : Int).toNat * 7 + 6, none⟩ = false := hfr64 6
          clear hcl64 hcc64 hfr64 hM64
          replace p64 := eq_true p64
          replace q64 := eq_true q64
          have HX112 := Aside0.mk (show Kd.R k72 72 wcD w.heap.size (fun _ => True) (.slice (some ⟨go64, 0, none⟩) x467000_43.length co64) x467000_43 from z63_)
          obtain ⟨ce112, hcl112, hM112, hcc112, hfr112⟩ := Kd.R_elem HX112.out z72 (x14_43 : Int) (odt_) (by have h_ : (x14_43 : Int) < ((x467000_43.length : Int) : Int) := odt_; exact h_)
          obtain rfl := k72_openM hM112
          have HP112 := Kd.R_seg HX112.out (x14_43 : Int) (odt_) (by have h_ : (x14_43 : Int) < ((x467000_43.length : Int) : Int) := odt_; exact h_) (seg := [.bool true]) (j := 0) hcl112 hcc112 (show 1 ≤ 7 from by decide) (x' := (⟨true, (rd_T72 x467000_43 x14_43).f1, (rd_T72 x467000_43 x14_43).f2, (rd_T72 x467000_43 x14_43).f3, (rd_T72 x467000_43 x14_43).f4, (rd_T72 x467000_43 x14_43).f5, (rd_T72 x467000_43 x14_43).f6⟩ : S72)) (k72_mkM _ _ _ (⟨true, (rd_T72 x467000_43 x14_43).f1, (rd_T72 x467000_43 x14_43).f2, (rd_T72 x467000_43 x14_43).f3, (rd_T72 x467000_43 x14_43).f4, (rd_T72 x467000_43 x14_43).f5, (rd_T72 x467000_43 x14_43).f6⟩ : S72) ) (fun _ hk => hk)
          have hx112_0 := hcc112 0 _ rfl
          (try simp only [show (k72).sz = 7 from rfl, Nat.mul_one, Nat.add_zero] at hx112_0)
          have hf112_0 := hfr112 0
          (try simp only [show (k72).sz = 7 from rfl, Nat.mul_one, Nat.add_zero] at hf112_0)
          clear hcl112 hcc112 hfr112 hM112
          refine pure_ (i := 0) (N := some 61) (v := ?_) (a' := ?_) #[true, false, false, false, false, false, false, false, false, false, false, false, false] rfl rfl (by kernel_rfl) (fun _ _ _ h => h) (Or.inl ⟨by rfl, ?_⟩) ?_ ?_
          rotate_left
          ·intro w'
           go_simp
           with_reducible rfl
          rotate_left
          ·simp only [Act.put, List.setIfInBounds_toArray, List.set_cons_zero, List.set_cons_succ, i64_w, i32_w]
           rfl
          refine pure_ (i := 2) (N := some 63) (v := ?_) (a' := ?_) #[true, false, true, false, false, false, false, false, false, false, false, false, false] rfl rfl (by kernel_rfl) (fun _ _ _ h => h) (Or.inl ⟨by rfl, ?_⟩) ?_ ?_
          rotate_left
          ·intro w'
           go_simp
           with_reducible rfl
          rotate_left
          ·simp only [Act.put, List.setIfInBounds_toArray, List.set_cons_zero, List.set_cons_succ, i64_w, i32_w]
           rfl
          refine pure_ (i := 3) (N := some 64) (v := ?_) (a' := ?_) #[true, false, true, true, false, false, false, false, false, false, false, false, false] rfl rfl (by kernel_rfl) (fun _ _ _ h => h) (Or.inl ⟨by rfl, ?_⟩) ?_ ?_
          rotate_left
          ·intro w'
           go_simp
           with_reducible rfl
          rotate_left
          ·simp only [Act.put, List.setIfInBounds_toArray, List.set_cons_zero, List.set_cons_succ, i64_w, i32_w]
           rfl
          refine pure_ (i := 5) (N := some 66) (v := ?_) (a' := ?_) #[true, false, true, true, false, true, false, false, false, false, false, false, false] rfl rfl (by kernel_rfl) (fun _ _ _ h => h) (Or.inl ⟨by rfl, ?_⟩) ?_ ?_
          rotate_left
          ·intro w'
           go_simp
           with_reducible rfl
          rotate_left
          ·simp only [Act.put, List.setIfInBounds_toArray, List.set_cons_zero, List.set_cons_succ, i64_w, i32_w]
           rfl
          refine pure_ (i := 6) (N := some 67) (v := ?_) (a' := ?_) #[true, false, true, true, false, true, true, false, false, false, false, false, false] rfl rfl (by kernel_rfl) (fun _ _ _ h => h) (Or.inl ⟨by rfl, ?_⟩) ?_ ?_
          rotate_left
          ·intro w'
           go_simp
           with_reducible rfl
          rotate_left
          ·simp only [Act.put, List.setIfInBounds_toArray, List.set_cons_zero, List.set_cons_succ, i64_w, i32_w]
           rfl
          refine take_ (i := 1) (N := some 62) (v := ?_) (a' := ?_) #[true, true, true, true, false, true, true, false, false, false, false, false, false] rfl rfl (by kernel_rfl) (fun _ _ _ h => h) (Or.inl ⟨by rfl, ?_⟩) hHeld ?_ ?_
          rotate_left
          ·intro w' s0
           go_simp
           with_reducible rfl
          rotate_left
          ·simp only [Act.put, List.setIfInBounds_toArray, List.set_cons_zero, List.set_cons_succ, i64_w, i32_w]
           rfl
          refine take_ (i := 4) (N := some 65) (v := ?_) (a' := ?_) #[true, true, true, true, true, true, true, false, false, false, false, false, false] rfl rfl (by kernel_rfl) (fun _ _ _ h => h) (Or.inl ⟨by rfl, ?_⟩) hHeld ?_ ?_
          rotate_left
          ·intro w' s0
           go_simp
           with_reducible rfl
          rotate_left
          ·simp only [Act.put, List.setIfInBounds_toArray, List.set_cons_zero, List.set_cons_succ, i64_w, i32_w]
           rfl
          refine pure_ (i := 7) (N := some 68) (v := ?_) (a' := ?_) #[true, true, true, true, true, true, true, true, false, false, false, false, false] rfl rfl (by kernel_rfl) (fun _ _ _ h => h) (Or.inl ⟨by rfl, ?_⟩) ?_ ?_
          rotate_left
          ·intro w'
           go_simp
           with_reducible rfl
          rotate_left
          ·simp only [Act.put, List.setIfInBounds_toArray, List.set_cons_zero, List.set_cons_succ, i64_w, i32_w]
           rfl
          refine pure_ (i := 8) (N := some 69) (v := ?_) (a' := ?_) #[true, true, true, true, true, true, true, true, true, false, false, false, false] rfl rfl (by kernel_rfl) (fun _ _ _ h => h) (Or.inl ⟨by rfl, ?_⟩) ?_ ?_
          rotate_left
          ·intro w'
           go_simp
           with_reducible rfl
          rotate_left
          ·simp only [Act.put, List.setIfInBounds_toArray, List.set_cons_zero, List.set_cons_succ, i64_w, i32_w]
           rfl
          refine one_ (i := 9) (N := none) (fl_ 13 10) rfl rfl (by kernel_rfl) (by decide) (fun K hK => ?_)
          refine skip_ (w1 := ?_) (by rfl) rfl ?_ ?_
          rotate_left
          ·go_simp
           rfl
          generalize hw_ : (wcD.setCell ⟨go64, (x14_43 : Int).toNat * 7, none⟩ (.bool true)) = w113
          have hw := hw_.symm
          clear hw_
          have hg : wcD.grownBy w113 (some go64) := (by rw [hw]; exact HP112.2)
          have hp_ : Kd.R k72 72 w113 w.heap.size (fun _ => True) (.slice (some ⟨go64, 0, none⟩) x467000_43.length co64) y471 := (by rw [hw, Ny471.out]; exact HP112.1)
          clear HP112
          have n0_ := Aside0.mk (Kd.R_over' (v := (.slice (some ⟨go64, 0, none⟩) x467000_43.length co64)) z54_ (Kd.R_typed HO_467000.out) (by decide) hg)
          have n1_ := Aside0.mk (hp_)
          have n2_ := Aside0.mk (blk_grown (g := gb448) (o := .cells #[.slice A0_0 l0_0.length c0_0] 28 (0, 0)) z24_ hg (Kd.R_ne HO_467000.out BK448.out (by decide)))
          have n3_ := Aside0.mk (blk_grown (g := gb449) (o := .cells #[.slice none 0 0] 28 (0, 0)) z31_ hg (Kd.R_ne HO_467000.out BK449.out (by decide)))
          have n4_ := Aside0.mk (blk_grown (g := gb466) (o := .cells #[.slice (some ⟨go64, 0, none⟩) x467000_43.length co64] 28 (0, 0)) z50_ hg (Kd.R_ne HO_467000.out BK466.out (by decide)))
          have n5_ := Aside0.mk ((by rw [hw]; exact below_set (HB.out) GB64.out : Below w.heap.size w w113))
          clear HO_12
          clear HO_467000
          clear BK448
          clear BK449
          clear BK466
          clear HB
          have HO_12 := n0_
          have HO_467000 := n1_
          have BK448 := n2_
          have BK449 := n3_
          have BK466 := n4_
          have HB := n5_
          clear n0_ n1_ n2_ n3_ n4_ n5_
          clear hg hw hp_
          have hcz114_0 : w113.cell? ⟨gb466, 0, none⟩ = some (.slice (some ⟨go64, 0, none⟩) x467000_43.length co64) := (blk_cell BK466.out 0).trans rfl
          have hfz114_0 := blk_frozen BK466.out 0
          have p65 : 0 ≤ (x14_43 : Int) := odt_
          have q65 : (x14_43 : Int) < ((x467000_43.length : Int) : Int) := odt_
          obtain ⟨ce65, hcl65, hM65, hcc65, hfr65⟩ := Kd.R_elem HO_467000.out z72 (x14_43 : Int) p65 q65
          obtain rfl := k72_openM hM65
          have hx65_0 : w113.cell? ⟨go64, (x14_43 : Int).toNat * 7, none⟩ = some (.bool ((rd_T72 y471 x14_43).f0)) := hcc65 0 _ rfl
          have hx65_1 : w113.cell? ⟨go64, (x14_43 : Int).toNat * 7 + 1, none⟩ = some (.int .i64 ((rd_T72 y471 x14_43).f1)) := hcc65 1 _ rfl
          have hx65_2 : w113.cell? ⟨go64, (x14_43 : Int).toNat * 7 + 2, none⟩ = some (.int .i64 ((rd_T72 y471 x14_43).f2)) := hcc65 2 _ rfl
          have hx65_3 : w113.cell? ⟨go64, (x14_43 : Int).toNat * 7 + 3, none⟩ = some (.int .i64 ((rd_T72 y471 x14_43).f3)) := hcc65 3 _ rfl
          have hx65_4 : w113.cell? ⟨go64, (x14_43 : Int).toNat * 7 + 4, none⟩ = some (.int .i64 ((rd_T72 y471 x14_43).f4)) := hcc65 4 _ rfl
          have hx65_5 : w113.cell? ⟨go64, (x14_43 : Int).toNat * 7 + 5, none⟩ = some (.int .i64 ((rd_T72 y471 x14_43).f5)) := hcc65 5 _ rfl
          have hx65_6 : w113.cell? ⟨go64, (x14_43 : Int).toNat * 7 + 6, none⟩ = some (.int .i64 ((rd_T72 y471 x14_43).f6)) := hcc65 6 _ rfl
          have hf65_0 : w113.frozen? ⟨go64, (x14_43 : Int).toNat * 7, none⟩ = false := hfr65 0
          have hf65_1 : w113.frozen? ⟨go64, (x14_43 : Int).toNat * 7 + 1, none⟩ = false := hfr65 1
          have hf65_2 : w113.frozen? ⟨go64, (x14_43 : Int).toNat * 7 + 2, none⟩ = false := hfr65 2
          have hf65_3 : w113.frozen? ⟨go64, (x14_43 : Int).toNat * 7 + 3, none⟩ = false := hfr65 3
          have hf65_4 : w113.frozen? ⟨go64, (x14_43 : Int).toNat * 7 + 4, none⟩ = false := hfr65 4
          have hf65_5 : w113.frozen? ⟨go64, (x14_43 : Int).toNat * 7 + 5, none⟩ = false := hfr65 5
          have hf65_6 : w113.frozen? ⟨go64, (x14_43 : Int).toNat * 7 + 6, none⟩ = false := hfr65 6
          clear hcl65 hcc65 hfr65 hM65
          replace p65 := eq_true p65
          replace q65 := eq_true q65
          have HX115 := Aside0.mk (show Kd.R k72 72 w113 w.heap.size (fun _ => True) (.slice (some ⟨go64, 0, none⟩) x467000_43.length co64) y471 from z63_)
          obtain ⟨ce115, hcl115, hM115, hcc115, hfr115⟩ := Kd.R_elem HX115.out z72 (x14_43 : Int) (odt_) (by have h_ : (x14_43 : Int) < ((x467000_43.length : Int) : Int) := odt_; exact h_)
          obtain rfl := k72_openM hM115
          have HP115 := Kd.R_seg HX115.out (x14_43 : Int) (odt_) (by have h_ : (x14_43 : Int) < ((x467000_43.length : Int) : Int) := odt_; exact h_) (seg := [.int .i64 a4]) (j := 1) hcl115 hcc115 (show 2 ≤ 7 from by decide) (x' := (⟨(rd_T72 y471 x14_43).f0, a4, (rd_T72 y471 x14_43).f2, (rd_T72 y471 x14_43).f3, (rd_T72 y471 x14_43).f4, (rd_T72 y471 x14_43).f5, (rd_T72 y471 x14_43).f6⟩ : S72)) (k72_mkM _ _ _ (⟨(rd_T72 y471 x14_43).f0, a4, (rd_T72 y471 x14_43).f2, (rd_T72 y471 x14_43).f3, (rd_T72 y471 x14_43).f4, (rd_T72 y471 x14_43).f5, (rd_T72 y471 x14_43).f6⟩ : S72) ) (fun _ hk => hk)
          have hx115_1 := hcc115 1 _ rfl
          (try simp only [show (k72).sz = 7 from rfl, Nat.mul_one, Nat.add_zero] at hx115_1)
          have hf115_1 := hfr115 1
          (try simp only [show (k72).sz = 7 from rfl, Nat.mul_one, Nat.add_zero] at hf115_1)
          clear hcl115 hcc115 hfr115 hM115
          refine hK.out _ _ ((blk_cell BK466.out 0).trans rfl) (fun hHeld => ?_)
          clear hK K
          refine pure_ (i := 10) (N := some 70) (v := ?_) (a' := ?_) #[true, true, true, true, true, true, true, true, true, true, true, false, false] rfl rfl (by kernel_rfl) (fun _ _ _ h => h) (Or.inl ⟨by rfl, ?_⟩) ?_ ?_
          rotate_left
          ·intro w'
           go_simp
           with_reducible rfl
          rotate_left
          ·simp only [Act.put, List.setIfInBounds_toArray, List.set_cons_zero, List.set_cons_succ, i64_w, i32_w]
           rfl
          refine pure_ (i := 11) (N := some 71) (v := ?_) (a' := ?_) #[true, true, true, true, true, true, true, true, true, true, true, true, false] rfl rfl (by kernel_rfl) (fun _ _ _ h => h) (Or.inl ⟨by rfl, ?_⟩) ?_ ?_
          rotate_left
          ·intro w'
           go_simp
           with_reducible rfl
          rotate_left
          ·simp only [Act.put, List.setIfInBounds_toArray, List.set_cons_zero, List.set_cons_succ, i64_w, i32_w]
           rfl
          refine one_ (i := 12) (N := none) (fl_ 13 13) rfl rfl (by kernel_rfl) (by decide) (fun K hK => ?_)
          refine skip_ (w1 := ?_) (by rfl) rfl ?_ ?_
          rotate_left
          ·go_simp
           rfl
          generalize hw_ : (w113.setCell ⟨go64, (x14_43 : Int).toNat * 7 + 1, none⟩ (.int .i64 a4)) = w116
          have hw := hw_.symm
          clear hw_
          have hg : w113.grownBy w116 (some go64) := (by rw [hw]; exact HP115.2)
          have hp_ : Kd.R k72 72 w116 w.heap.size (fun _ => True) (.slice (some ⟨go64, 0, none⟩) x467000_43.length co64) y472 := (by rw [hw, Ny472.out]; exact HP115.1)
          clear HP115
          have n0_ := Aside0.mk (Kd.R_over' (v := (.slice (some ⟨go64, 0, none⟩) x467000_43.length co64)) z54_ (Kd.R_typed HO_467000.out) (by decide) hg)
          have n1_ := Aside0.mk (hp_)
          have n2_ := Aside0.mk (blk_grown (g := gb448) (o := .cells #[.slice A0_0 l0_0.length c0_0] 28 (0, 0)) z24_ hg (Kd.R_ne HO_467000.out BK448.out (by decide)))
          have n3_ := Aside0.mk (blk_grown (g := gb449) (o := .cells #[.slice none 0 0] 28 (0, 0)) z31_ hg (Kd.R_ne HO_467000.out BK449.out (by decide)))
          have n4_ := Aside0.mk (blk_grown (g := gb466) (o := .cells #[.slice (some ⟨go64, 0, none⟩) x467000_43.length co64] 28 (0, 0)) z50_ hg (Kd.R_ne HO_467000.out BK466.out (by decide)))
          have n5_ := Aside0.mk ((by rw [hw]; exact below_set (HB.out) GB64.out : Below w.heap.size w w116))
          clear HO_12
          clear HO_467000
          clear BK448
          clear BK449
          clear BK466
          clear HB
          have HO_12 := n0_
          have HO_467000 := n1_
          have BK448 := n2_
          have BK449 := n3_
          have BK466 := n4_
          have HB := n5_
          clear n0_ n1_ n2_ n3_ n4_ n5_
          clear hg hw hp_
          refine hK.out _ _ ((blk_cell BK466.out 0).trans rfl) (fun hHeld => ?_)
          clear hK K
          refine done_ (by kernel_rfl) ?_
          try go_wp2
          have n0_ := Aside0.mk (Kd.R_drew HO_12.out)
          have n1_ := Aside0.mk (Kd.R_drew HO_467000.out)
          have n2_ := Aside0.mk (blk_drew BK448.out)
          have n3_ := Aside0.mk (blk_drew BK449.out)
          have n4_ := Aside0.mk (blk_drew BK466.out)
          have n5_ := Aside0.mk (below_drew1 HB.out)
          clear HO_12
          clear HO_467000
          clear BK448
          clear BK449
          clear BK466
          clear HB
          have HO_12 := n0_
          have HO_467000 := n1_
          have BK448 := n2_
          have BK449 := n3_
          have BK466 := n4_
          have HB := n5_
          clear n0_ n1_ n2_ n3_ n4_ n5_
          obtain ⟨Ao119, co119, eo119⟩ := Kd.R_slice HO_12.out
          (subst eo119)
          have q118 : ((ji72) : Int) ≤ ((t455.length : Int) : Int) := odt_
          obtain ⟨i0118, hi0118, _, hsz118, _⟩ := info_parts info3
          have hroom118 : t455.length ≤ co119 := (Kd.R_reads' HO_12.out).2.1
          have hC118 : Kd.F (Kd.int .i64) _ _ Ao119 t455.length t455 := (Kd.V_at (base := w.heap.size) (Kd.R_V (Kd.R_types (Kd.R_types (Kd.R_types (Kd.R_apart' (HO_12.out) (Kd.R_typed HO_467000.out) (by decide)) BK448.out (by decide)) BK449.out (by decide)) BK466.out (by decide)))).2.2
          have ql118 : (a2 : Int) ≤ ((ji72) : Int) := odt_
          have q0118 : (0 : Int) ≤ (a2 : Int) := odt_
          have hcut118 := cut_mid (P := Try.prog) 49 3 .i64 .i64 Try.underlying49 hi0118 1 hsz118 Ao119 t455.length co119 a2 (ji72) q0118 ql118 q118 hroom118
          have hr118 := Kd.F_mid (lo := (a2 : Int).toNat) (hi := ((ji72) : Int).toNat) (c := co119) hC118 (by omega) (by omega) hroom118
          obtain ⟨A118, hA118⟩ : ∃ A1, A1 = (if co119 = (a2 : Int).toNat then Ao119 else (Ao119 : Option Addr).map (·.add ((a2 : Int).toNat * 1))) := ⟨_, rfl⟩
          obtain ⟨c118, hc118⟩ : ∃ c1, c1 = co119 - (a2 : Int).toNat := ⟨_, rfl⟩
          have hy118 : y473.length = ((ji72) : Int).toNat - (a2 : Int).toNat := (by rw [Ny473.out, List.length_drop, List.length_take] <;> omega)
          rw [show ((t455).take ((ji72) : Int).toNat).drop (a2 : Int).toNat = y473 from Ny473.out.symm] at hr118
          replace hr118 : Kd.F (Kd.int .i64) _ _ A118 y473.length y473 := (by rw [hA118]; exact hr118)
          rw [← hy118, ← hA118, ← hc118] at hcut118
          have HO477 := Aside0.mk (show Kd.V (Kd.int .i64) 3 _ w.heap.size _ (.slice A118 y473.length c118) y473 from Kd.V_mk (by rw [hy118, hc118]; exact Nat.sub_le_sub_right (Nat.le_trans (by omega) hroom118) _) hr118)
          have HC477 := Aside0.mk (show y473.length ≤ c118 from by rw [hy118, hc118]; exact Nat.sub_le_sub_right (Nat.le_trans (by omega) hroom118) _)
          clear hr118 hC118 hroom118 hi0118 hsz118 hc118
          have KY118 := Aside0.mk hy118
          have KA118 := Aside0.mk hA118
          clear hy118 hA118
          replace q118 := eq_true q118
          refine start_ (n := 9) (S := fun w' => w'.cell? ⟨gb466, 0, none⟩ = some (.slice (some ⟨go64, 0, none⟩) x467000_43.length co64)) (ds := []) (fl_ 9 0) (by kernel_rfl) rfl (fl_zero _) ((blk_cell BK466.out 0).trans rfl) (fun hHeld => ?_); refine with_tabW impl_DomInsert.tab12 impl_DomInsert.bits12 (fun HT_ HW_ => ?_)
          generalize w116.drew = w117 at HO_12 HO_467000 BK448 BK449 BK466 HB HO477 hHeld ⊢
          refine zpg_ (i := 1) (ra_ [0, 1, 1, 7]) HT_ rfl rfl (by kernel_rfl) (fun _ _ _ h => h) (by rfl) ?_
          refine zpg_ (i := 2) (ra_ [0, 1, 2, 6]) HT_ rfl rfl (by kernel_rfl) (fun _ _ _ h => h) (by rfl) ?_
          refine zpg_ (i := 3) (ra_ [0, 1, 3, 5]) HT_ rfl rfl (by kernel_rfl) (fun _ _ _ h => h) (by rfl) ?_
          refine zpg_ (i := 4) (ra_ [0, 1, 4, 4]) HT_ rfl rfl (by kernel_rfl) (fun _ _ _ h => h) (by rfl) ?_
          refine zpg_ (i := 5) (ra_ [0, 1, 5, 3]) HT_ rfl rfl (by kernel_rfl) (fun _ _ _ h => h) (by rfl) ?_
          refine zpg_ (i := 6) (ra_ [0, 1, 6, 2]) HT_ rfl rfl (by kernel_rfl) (fun _ _ _ h => h) (by rfl) ?_
          refine zpg_ (i := 7) (ra_ [0, 1, 7, 1]) HT_ rfl rfl (by kernel_rfl) (fun _ _ _ h => h) (by rfl) ?_
          refine ztg_ (i := 0) (fl_ 9 8) HT_ HW_ rfl rfl (by kernel_rfl) (fun _ _ _ h => h) (by rfl) hHeld ?_ z301_
          refine one_ (i := 8) (N := some 80) (fl_ 9 9) rfl rfl (one_of HT_.out (by kernel_rfl)) (by decide) (fun K hK => ?_)
          refine goes_ Try.func74 (by kernel_rfl) rfl #[.agg #[.slice (some ⟨go64, 0, none⟩) x467000_43.length co64], .int .i64 x14_43, .slice A118 y473.length c118] (by rfl) rfl rfl z2_ ?_
          with_reducible refine (impl_Dom_link.calls kj43 (fun k_ => some k_ = (.slice (some ⟨go64, 0, none⟩) x467000_43.length co64 : Value).ownBlock) (.slice (some ⟨go64, 0, none⟩) x467000_43.length co64) y472 x14_43 _ _ y473 t478 w _ ?side1 ?side2 ?side3 ?side4 A69.out).mono ?_
          (case side1 => exact z15_)
          (case side2 => exact z309_)
          (case side3 => exact Kd.C_kept_ownV (HO477.out) (fun k_ hk_ hs_ => (hk_.1.1.1.2) hs_))
          (case side4 => exact (Kd.V_reads' HO477.out).2.1)
          rintro e w120 ⟨rfl, hy0, hb, hkp⟩
          refine ⟨_, rfl, ?_⟩
          have n0_ := Aside0.mk (Kd.R_mono (ok' := fun k_ => True) (Kd.R_keptB ((Kd.R_apart' HO_12.out (Kd.R_typed HO_467000.out) (by decide))) hkp (fun k_ hk_ hs_ => (hk_.2) hs_)) (fun k_ hk_ => trivial))
          have n1_ := Aside0.mk (Kd.R_reok rfl hy0 (fun k_ e_ => HO_467000.out.1 k_ e_))
          have n2_ := Aside0.mk (blk_kept z24_ hkp (fun hs_ => (fun e_ => (Kd.R_ne HO_467000.out BK448.out (by decide)) e_) hs_))
          have n3_ := Aside0.mk (blk_kept z31_ hkp (fun hs_ => (fun e_ => (Kd.R_ne HO_467000.out BK449.out (by decide)) e_) hs_))
          have n4_ := Aside0.mk (blk_kept z50_ hkp (fun hs_ => (fun e_ => (Kd.R_ne HO_467000.out BK466.out (by decide)) e_) hs_))
          have n5_ := Aside0.mk (Kd.V_mono (ok' := fun k_ => some k_ ≠ (.slice (some ⟨go64, 0, none⟩) x467000_43.length co64 : Value).ownBlock ∧ k_ ≠ gb448 ∧ k_ ≠ gb449 ∧ k_ ≠ gb466) (Kd.V_keptB (HO477.out) hkp (fun k_ hk_ hs_ => (hk_.1.1.1.2) hs_)) (fun k_ hk_ => ⟨hk_.1.1.1.1.2, hk_.1.1.1.2, hk_.1.1.2, hk_.1.2⟩))
          have n6_ := Aside0.mk (hb)
          clear HO_12
          clear HO_467000
          clear BK448
          clear BK449
          clear BK466
          clear HO477
          clear HB
          have HO_12 := n0_
          have HO_467000 := n1_
          have BK448 := n2_
          have BK449 := n3_
          have BK466 := n4_
          have HO477 := n5_
          have HB := n6_
          clear n0_ n1_ n2_ n3_ n4_ n5_ n6_
          (try clear hb)
          (try clear hkp)
          (try clear hy0)
          refine hK.out _ _ ((blk_cell BK466.out 0).trans rfl) (fun hHeld => ?_)
          clear hK K
          refine zn_ rfl ?_
          refine done_ (done_of HT_.out (by kernel_rfl)) ?_
          try go_wp2
          have n0_ := Aside0.mk (Kd.R_drew HO_12.out)
          have n1_ := Aside0.mk (Kd.R_drew HO_467000.out)
          have n2_ := Aside0.mk (Kd.V_drew HO477.out)
          have n3_ := Aside0.mk (blk_drew BK448.out)
          have n4_ := Aside0.mk (blk_drew BK449.out)
          have n5_ := Aside0.mk (blk_drew BK466.out)
          have n6_ := Aside0.mk (below_drew1 HB.out)
          clear HO_12
          clear HO_467000
          clear HO477
          clear BK448
          clear BK449
          clear BK466
          clear HB
          have HO_12 := n0_
          have HO_467000 := n1_
          have HO477 := n2_
          have BK448 := n3_
          have BK449 := n4_
          have BK466 := n5_
          have HB := n6_
          clear n0_ n1_ n2_ n3_ n4_ n5_ n6_
          have q122 : (a2 : Int) ≤ ((t455.length : Int) : Int) := odt_
          obtain ⟨i0122, hi0122, _, hsz122, _⟩ := info_parts info3
          have hroom122 : t455.length ≤ co119 := (Kd.R_reads' HO_12.out).2.1
          have hC122 : Kd.F (Kd.int .i64) _ _ Ao119 t455.length t455 := (Kd.V_at (base := w.heap.size) (Kd.R_V (Kd.R_types (Kd.R_types (Kd.R_types (Kd.R_apart' (HO_12.out) (Kd.R_typed HO_467000.out) (by decide)) BK448.out (by decide)) BK449.out (by decide)) BK466.out (by decide)))).2.2
          have hcut122 := cut_to (P := Try.prog) 49 3 .i64 Try.underlying49 hi0122 Ao119 t455.length co119 a2 (odt_) q122 hroom122
          have hr122 := Kd.F_take (m := (a2 : Int).toNat) hC122 (by omega)
          have hy122 : y479.length = (a2 : Int).toNat := (by rw [Ny479.out, List.length_take]; omega)
          rw [← Ny479.out] at hr122
          rw [← hy122] at hcut122
          have HO483 := Aside0.mk (show Kd.V (Kd.int .i64) 3 _ w.heap.size _ (.slice Ao119 y479.length co119) y479 from Kd.V_mk (by omega) hr122)
          have HC483 := Aside0.mk (show y479.length ≤ co119 from by omega)
          clear hr122 hC122 hroom122 hi0122 hsz122
          have KY122 := Aside0.mk hy122
          clear hy122
          replace q122 := eq_true q122
          have q123 : ((ji72) : Int) ≤ ((t455.length : Int) : Int) := odt_
          obtain ⟨i0123, hi0123, _, hsz123, _⟩ := info_parts info3
          have hroom123 : t455.length ≤ co119 := (Kd.R_reads' HO_12.out).2.1
          have hC123 : Kd.F (Kd.int .i64) _ _ Ao119 t455.length t455 := (Kd.V_at (base := w.heap.size) (Kd.R_V (Kd.R_types (Kd.R_types (Kd.R_types (Kd.R_apart' (HO_12.out) (Kd.R_typed HO_467000.out) (by decide)) BK448.out (by decide)) BK449.out (by decide)) BK466.out (by decide)))).2.2
          have q0123 : (0 : Int) ≤ ((ji72) : Int) := odt_
          have hcut123 := cut_from (P := Try.prog) 49 3 .i64 Try.underlying49 hi0123 1 hsz123 Ao119 t455.length co119 (ji72) q0123 q123
          have hr123 := Kd.F_cut (m := ((ji72) : Int).toNat) (c := co119) hC123 (by omega) hroom123
          obtain ⟨A123, hA123⟩ : ∃ A1, A1 = (if co119 = ((ji72) : Int).toNat then Ao119 else (Ao119 : Option Addr).map (·.add (((ji72) : Int).toNat * 1))) := ⟨_, rfl⟩
          obtain ⟨c123, hc123⟩ : ∃ c1, c1 = co119 - ((ji72) : Int).toNat := ⟨_, rfl⟩
          have hy123 : y487.length = t455.length - ((ji72) : Int).toNat := (by rw [Ny487.out, List.length_drop] <;> omega)
          rw [show (t455).drop ((ji72) : Int).toNat = y487 from Ny487.out.symm] at hr123
          replace hr123 : Kd.F (Kd.int .i64) _ _ A123 y487.length y487 := (by rw [hA123]; exact hr123)
          rw [← hy123, ← hA123, ← hc123] at hcut123
          have HO491 := Aside0.mk (show Kd.V (Kd.int .i64) 3 _ w.heap.size _ (.slice A123 y487.length c123) y487 from Kd.V_mk (by rw [hy123, hc123]; exact Nat.sub_le_sub_right hroom123 _) hr123)
          have HC491 := Aside0.mk (show y487.length ≤ c123 from by rw [hy123, hc123]; exact Nat.sub_le_sub_right hroom123 _)
          clear hr123 hC123 hroom123 hi0123 hsz123 hc123
          have KY123 := Aside0.mk hy123
          have KA123 := Aside0.mk hA123
          clear hy123 hA123
          replace q123 := eq_true q123
          refine start_ (n := 15) (S := fun w' => w'.cell? ⟨gb466, 0, none⟩ = some (.slice (some ⟨go64, 0, none⟩) x467000_43.length co64)) (ds := []) (fl_ 15 0) (by kernel_rfl) rfl (fl_zero _) ((blk_cell BK466.out 0).trans rfl) (fun hHeld => ?_); refine with_tabW impl_DomInsert.tab13 impl_DomInsert.bits13 (fun HT_ HW_ => ?_)
          generalize w120.drew = w121 at HO_12 HO_467000 HO477 BK448 BK449 BK466 HB HO483 HO491 hHeld ⊢
          refine zpg_ (i := 1) (ra_ [0, 1, 1, 13]) HT_ rfl rfl (by kernel_rfl) (fun _ _ _ h => h) (by rfl) ?_
          refine zpg_ (i := 2) (ra_ [0, 1, 2, 12]) HT_ rfl rfl (by kernel_rfl) (fun _ _ _ h => h) (by rfl) ?_
          refine zpg_ (i := 3) (ra_ [0, 1, 3, 11]) HT_ rfl rfl (by kernel_rfl) (fun _ _ _ h => h) (by rfl) ?_
          refine zpg_ (i := 4) (ra_ [0, 1, 4, 10]) HT_ rfl rfl (by kernel_rfl) (fun _ _ _ h => h) (by rfl) ?_
          refine zpg_ (i := 5) (ra_ [0, 1, 5, 9]) HT_ rfl rfl (by kernel_rfl) (fun _ _ _ h => h) (by rfl) ?_
          refine zpg_ (i := 7) (ra_ [0, 1, 5, 1, 1, 7]) HT_ rfl rfl (by kernel_rfl) (fun _ _ _ h => h) (by rfl) ?_
          refine zpg_ (i := 8) (ra_ [0, 1, 5, 1, 2, 6]) HT_ rfl rfl (by kernel_rfl) (fun _ _ _ h => h) (by rfl) ?_
          refine zpg_ (i := 9) (ra_ [0, 1, 5, 1, 3, 5]) HT_ rfl rfl (by kernel_rfl) (fun _ _ _ h => h) (by rfl) ?_
          refine zpg_ (i := 10) (ra_ [0, 1, 5, 1, 4, 4]) HT_ rfl rfl (by kernel_rfl) (fun _ _ _ h => h) (by rfl) ?_
          refine zpg_ (i := 11) (ra_ [0, 1, 5, 1, 5, 3]) HT_ rfl rfl (by kernel_rfl) (fun _ _ _ h => h) (by rfl) ?_
          refine ztg_ (i := 0) (ra_ [6, 1, 5, 3]) HT_ HW_ rfl rfl (by kernel_rfl) (fun _ _ _ h => h) (by rfl) hHeld ?_ z301_
          refine one_ (i := 6) (N := some 87) (fl_ 15 12) rfl rfl (one_of HT_.out (by kernel_rfl)) (by decide) (fun K hK => ?_)
          refine Kd.R_lit_step (Kd.int .i64) _ 3 ?hg (N := 87) ?hd (xs := ([x14_43] : List Int)) (inner := [.int .i64 x14_43]) (ok := fun _ => True) (okp := fun _ => True) ?hr ?hp (fun _ hk => hk) trivial (Below.refl _ _) (Nat.le_refl _) (by simp) ?_; (case hd => rfl); (case hg => rfl); (case hr => exact z19_); (case hp => exact z296_)
          intro v485 w124 ho125 hb hg_ hnew_
          clear hg_ hnew_
          (rw [← Ny484.out] at ho125)
          have n0_ := Aside0.mk (Kd.R_elder' z54_ (Kd.R_base ho125) hb)
          have n1_ := Aside0.mk (Kd.R_below z63_ hb)
          have n2_ := Aside0.mk (Kd.V_elder' z108_ (Kd.R_base ho125) hb)
          have n3_ := Aside0.mk (Kd.V_elder' z109_ (Kd.R_base ho125) hb)
          have n4_ := Aside0.mk (Kd.V_elder' z110_ (Kd.R_base ho125) hb)
          have n5_ := Aside0.mk (Kd.R_lower (Kd.R_new' ho125 (Kd.R_lt z54_)) (below_size z15_))
          have n6_ := Aside0.mk (blk_below (g := gb448) (o := .cells #[.slice A0_0 l0_0.length c0_0] 28 (0, 0)) z24_ hb)
          have n7_ := Aside0.mk (blk_below (g := gb449) (o := .cells #[.slice none 0 0] 28 (0, 0)) z31_ hb)
          have n8_ := Aside0.mk (blk_below (g := gb466) (o := .cells #[.slice (some ⟨go64, 0, none⟩) x467000_43.length co64] 28 (0, 0)) z50_ hb)
          have n9_ := Aside0.mk (below_step z15_ hb)
          clear HO_12
          clear HO_467000
          clear HO477
          clear HO483
          clear HO491
          clear BK448
          clear BK449
          clear BK466
          clear HB
          have HO_12 := n0_
          have HO_467000 := n1_
          have HO477 := n2_
          have HO483 := n3_
          have HO491 := n4_
          have HO486 := n5_
          have BK448 := n6_
          have BK449 := n7_
          have BK466 := n8_
          have HB := n9_
          clear n0_ n1_ n2_ n3_ n4_ n5_ n6_ n7_ n8_ n9_
          clear hb ho125
          obtain ⟨Ao126, co126, eo126⟩ := Kd.R_slice HO486.out
          (subst eo126)
          refine hK.out _ _ ((blk_cell BK466.out 0).trans rfl) (fun hHeld => ?_)
          clear hK K
          refine zn_ rfl ?_
          refine one_ (i := 12) (N := some 93) (fl_ 15 13) rfl rfl (one_of HT_.out (by kernel_rfl)) (by decide) (fun K hK => ?_)
          refine Kd.N_lit_step (Kd.slice 3 (Kd.int .i64)) _ 49 ?hg (N' := 93) ?hd (xs := ([y479, y484, y487] : List (List Int))) (inner := [.slice Ao119 y479.length co119, .slice Ao126 y484.length co126, .slice A123 y487.length c123]) (ok := (fun k_ => some k_ ≠ (.slice (some ⟨go64, 0, none⟩) x467000_43.length co64 : Value).ownBlock ∧ k_ ≠ gb448 ∧ k_ ≠ gb449 ∧ k_ ≠ gb466)) (okp := (fun k_ => some k_ ≠ (.slice (some ⟨go64, 0, none⟩) x467000_43.length co64 : Value).ownBlock ∧ k_ ≠ gb448 ∧ k_ ≠ gb449 ∧ k_ ≠ gb466)) ?hr ?hp (fun _ hk => hk) ((show ∀ k_, w124.heap.size ≤ k_ → (fun k_ => some k_ ≠ (.slice (some ⟨go64, 0, none⟩) x467000_43.length co64 : Value).ownBlock ∧ k_ ≠ gb448 ∧ k_ ≠ gb449 ∧ k_ ≠ gb466) k_ from fun k_ hk => ⟨Kd.fresh' (Kd.R_lt z63_) k_ hk, Kd.freshB (g := gb448) (o := .cells #[.slice A0_0 l0_0.length c0_0] 28 (0, 0)) z24_ k_ hk, Kd.freshB (g := gb449) (o := .cells #[.slice none 0 0] 28 (0, 0)) z31_ k_ hk, Kd.freshB (g := gb466) (o := .cells #[.slice (some ⟨go64, 0, none⟩) x467000_43.length co64] 28 (0, 0)) z50_ k_ hk⟩) _ (Nat.le_refl _)) (Below.refl _ _) (Nat.le_refl _) (by simp) ?_; (case hd => rfl); (case hg => rfl); (case hr => exact z19_); (case hp => exact (Reps.one (show Kd.FK (Kd.slice 3 (Kd.int .i64)) _ _ y479 [.slice Ao119 y479.length co119] from (Kd.FK_slice_mk (Kd.V_reads' (Kd.V_mono (ok' := (fun k_ => some k_ ≠ (.slice (some ⟨go64, 0, none⟩) x467000_43.length co64 : Value).ownBlock ∧ k_ ≠ gb448 ∧ k_ ≠ gb449 ∧ k_ ≠ gb466)) (HO483.out) (fun k_ hk => ⟨hk.1.1.1.1.2, ⟨hk.1.1.1.2, ⟨hk.1.1.2, hk.1.2⟩⟩⟩))).2.1 (Kd.V_F (Kd.V_mono (ok' := (fun k_ => some k_ ≠ (.slice (some ⟨go64, 0, none⟩) x467000_43.length co64 : Value).ownBlock ∧ k_ ≠ gb448 ∧ k_ ≠ gb449 ∧ k_ ≠ gb466)) (HO483.out) (fun k_ hk => ⟨hk.1.1.1.1.2, ⟨hk.1.1.1.2, ⟨hk.1.1.2, hk.1.2⟩⟩⟩))))) (Reps.one (show Kd.FK (Kd.slice 3 (Kd.int .i64)) _ _ y484 [.slice Ao126 y484.length co126] from (Kd.FK_slice_mk (Kd.R_reads' (Kd.R_mono (ok' := (fun k_ => some k_ ≠ (.slice (some ⟨go64, 0, none⟩) x467000_43.length co64 : Value).ownBlock ∧ k_ ≠ gb448 ∧ k_ ≠ gb449 ∧ k_ ≠ gb466)) (Kd.R_types (Kd.R_types (Kd.R_types (Kd.R_apart' (HO486.out) (Kd.R_typed HO_467000.out) (by decide)) BK448.out (by decide)) BK449.out (by decide)) BK466.out (by decide)) (fun k_ hk => ⟨hk.1.1.1.2, ⟨hk.1.1.2, ⟨hk.1.2, hk.2⟩⟩⟩))).2.1 (Kd.R_F (Kd.R_mono (ok' := (fun k_ => some k_ ≠ (.slice (some ⟨go64, 0, none⟩) x467000_43.length co64 : Value).ownBlock ∧ k_ ≠ gb448 ∧ k_ ≠ gb449 ∧ k_ ≠ gb466)) (Kd.R_types (Kd.R_types (Kd.R_types (Kd.R_apart' (HO486.out) (Kd.R_typed HO_467000.out) (by decide)) BK448.out (by decide)) BK449.out (by decide)) BK466.out (by decide)) (fun k_ hk => ⟨hk.1.1.1.2, ⟨hk.1.1.2, ⟨hk.1.2, hk.2⟩⟩⟩))))) (Reps.one (show Kd.FK (Kd.slice 3 (Kd.int .i64)) _ _ y487 [.slice A123 y487.length c123] from (Kd.FK_slice_mk (Kd.V_reads' (Kd.V_mono (ok' := (fun k_ => some k_ ≠ (.slice (some ⟨go64, 0, none⟩) x467000_43.length co64 : Value).ownBlock ∧ k_ ≠ gb448 ∧ k_ ≠ gb449 ∧ k_ ≠ gb466)) (HO491.out) (fun k_ hk => ⟨hk.1.1.1.1.2, ⟨hk.1.1.1.2, ⟨hk.1.1.2, hk.1.2⟩⟩⟩))).2.1 (Kd.V_F (Kd.V_mono (ok' := (fun k_ => some k_ ≠ (.slice (some ⟨go64, 0, none⟩) x467000_43.length co64 : Value).ownBlock ∧ k_ ≠ gb448 ∧ k_ ≠ gb449 ∧ k_ ≠ gb466)) (HO491.out) (fun k_ hk => ⟨hk.1.1.1.1.2, ⟨hk.1.1.1.2, ⟨hk.1.1.2, hk.1.2⟩⟩⟩))))) (Reps.none _ _)))))
          intro v493 w127 ho128 hb hg_ hnew_
          clear hg_ hnew_
          (rw [← Ny492.out] at ho128)
          have n0_ := Aside0.mk (Kd.R_below z54_ hb)
          have n1_ := Aside0.mk (Kd.R_below z63_ hb)
          have n2_ := Aside0.mk (Kd.V_elder' z108_ (Kd.N_base ho128) hb)
          have n3_ := Aside0.mk (Kd.V_elder' z109_ (Kd.N_base ho128) hb)
          have n4_ := Aside0.mk (Kd.V_elder' z110_ (Kd.N_base ho128) hb)
          have n5_ := Aside0.mk (Kd.N_lower ho128 (below_size z15_))
          have n6_ := Aside0.mk (blk_below (g := gb448) (o := .cells #[.slice A0_0 l0_0.length c0_0] 28 (0, 0)) z24_ hb)
          have n7_ := Aside0.mk (blk_below (g := gb449) (o := .cells #[.slice none 0 0] 28 (0, 0)) z31_ hb)
          have n8_ := Aside0.mk (blk_below (g := gb466) (o := .cells #[.slice (some ⟨go64, 0, none⟩) x467000_43.length co64] 28 (0, 0)) z50_ hb)
          have n9_ := Aside0.mk (below_step z15_ hb)
          clear HO_12
          clear HO_467000
          clear HO477
          clear HO483
          clear HO491
          clear BK448
          clear BK449
          clear BK466
          clear HB
          clear HO486
          have HO_12 := n0_
          have HO_467000 := n1_
          have HO477 := n2_
          have HO483 := n3_
          have HO491 := n4_
          have HO494 := n5_
          have BK448 := n6_
          have BK449 := n7_
          have BK466 := n8_
          have HB := n9_
          clear n0_ n1_ n2_ n3_ n4_ n5_ n6_ n7_ n8_ n9_
          clear hb ho128
          obtain ⟨Ao129, co129, eo129⟩ := Kd.N_slice HO494.out
          (subst eo129)
          refine hK.out _ _ ((blk_cell BK466.out 0).trans rfl) (fun hHeld => ?_)
          clear hK K
          refine zn_ rfl ?_
          refine one_ (i := 13) (N := some 94) (fl_ 15 14) rfl rfl (one_of HT_.out (by kernel_rfl)) (by decide) (fun K hK => ?_)
          refine goes_ Try.func75 (by kernel_rfl) rfl #[.slice Ao129 y492.length co129] (by rfl) rfl rfl z2_ ?_
          with_reducible refine (slices_Concat_int.calls kj43 _ _ y492 t495 _ ?side1 ?side2 A75.out).mono ?_
          (case side1 => exact z214_)
          (case side2 => exact (Kd.N_reads' HO494.out).2.1)
          rintro e w130 ⟨v496, rfl, ho0, hb⟩
          refine ⟨_, rfl, ?_⟩
          have n0_ := Aside0.mk (Kd.R_elder' z54_ (Kd.R_base ho0) hb)
          have n1_ := Aside0.mk (Kd.R_below z63_ hb)
          have n2_ := Aside0.mk (Kd.V_elder' z108_ (Kd.R_base ho0) hb)
          have n3_ := Aside0.mk (Kd.V_elder' z109_ (Kd.R_base ho0) hb)
          have n4_ := Aside0.mk (Kd.V_elder' z110_ (Kd.R_base ho0) hb)
          have n5_ := Aside0.mk (Kd.N_elder' z153_ (Kd.R_base ho0) hb)
          have n6_ := Aside0.mk (Kd.R_lower (Kd.R_new' ho0 (Kd.R_lt z54_)) (below_size z15_))
          have n7_ := Aside0.mk (blk_below (g := gb448) (o := .cells #[.slice A0_0 l0_0.length c0_0] 28 (0, 0)) z24_ hb)
          have n8_ := Aside0.mk (blk_below (g := gb449) (o := .cells #[.slice none 0 0] 28 (0, 0)) z31_ hb)
          have n9_ := Aside0.mk (blk_below (g := gb466) (o := .cells #[.slice (some ⟨go64, 0, none⟩) x467000_43.length co64] 28 (0, 0)) z50_ hb)
          have n10_ := Aside0.mk (below_step z15_ hb)
          clear HO_12
          clear HO_467000
          clear HO477
          clear HO483
          clear HO491
          clear HO494
          clear BK448
          clear BK449
          clear BK466
          clear HB
          have HO_12 := n0_
          have HO_467000 := n1_
          have HO477 := n2_
          have HO483 := n3_
          have HO491 := n4_
          have HO494 := n5_
          have HO497 := n6_
          have BK448 := n7_
          have BK449 := n8_
          have BK466 := n9_
          have HB := n10_
          clear n0_ n1_ n2_ n3_ n4_ n5_ n6_ n7_ n8_ n9_ n10_
          (try clear hb)
          (try clear ho0)
          obtain ⟨Ao131, co131, eo131⟩ := Kd.R_slice HO497.out
          (subst eo131)
          refine hK.out _ _ ((blk_cell BK466.out 0).trans rfl) (fun hHeld => ?_)
          clear hK K
          refine zn_ rfl ?_
          refine one_ (i := 14) (N := some 95) (fl_ 15 15) rfl rfl (one_of HT_.out (by kernel_rfl)) (by decide) (fun K hK => ?_)
          refine goes_ Try.func74 (by kernel_rfl) rfl #[.agg #[.slice (some ⟨go64, 0, none⟩) x467000_43.length co64], .int .i64 a1, .slice Ao131 t495.length co131] (by rfl) rfl rfl z2_ ?_
          with_reducible refine (impl_Dom_link.calls kj43 (fun k_ => some k_ = (.slice (some ⟨go64, 0, none⟩) x467000_43.length co64 : Value).ownBlock) (.slice (some ⟨go64, 0, none⟩) x467000_43.length co64) t478 a1 _ _ t495 t498 w _ ?side1 ?side2 ?side3 ?side4 A76.out).mono ?_
          (case side1 => exact z15_)
          (case side2 => exact z309_)
          (case side3 => exact z277_)
          (case side4 => exact (Kd.R_reads' HO497.out).2.1)
          rintro e w132 ⟨rfl, hy0, hb, hkp⟩
          refine ⟨_, rfl, ?_⟩
          have n0_ := Aside0.mk (Kd.R_mono (ok' := fun k_ => some k_ ≠ (.slice Ao131 t495.length co131 : Value).ownBlock) (Kd.R_keptB ((Kd.R_apart' HO_12.out (Kd.R_typed HO_467000.out) (by decide))) hkp (fun k_ hk_ hs_ => (hk_.2) hs_)) (fun k_ hk_ => hk_.1.1.2))
          have n1_ := Aside0.mk (Kd.R_reok rfl hy0 (fun k_ e_ => HO_467000.out.1 k_ e_))
          have n2_ := Aside0.mk (blk_kept z24_ hkp (fun hs_ => (fun e_ => (Kd.R_ne HO_467000.out BK448.out (by decide)) e_) hs_))
          have n3_ := Aside0.mk (blk_kept z31_ hkp (fun hs_ => (fun e_ => (Kd.R_ne HO_467000.out BK449.out (by decide)) e_) hs_))
          have n4_ := Aside0.mk (blk_kept z50_ hkp (fun hs_ => (fun e_ => (Kd.R_ne HO_467000.out BK466.out (by decide)) e_) hs_))
          have n5_ := Aside0.mk (Kd.V_mono (ok' := fun k_ => some k_ ≠ (.slice (some ⟨go64, 0, none⟩) x467000_43.length co64 : Value).ownBlock ∧ some k_ ≠ (.slice Ao129 y492.length co129 : Value).ownBlock ∧ some k_ ≠ (.slice Ao131 t495.length co131 : Value).ownBlock ∧ k_ ≠ gb448 ∧ k_ ≠ gb449 ∧ k_ ≠ gb466) (Kd.V_keptB (HO477.out) hkp (fun k_ hk_ hs_ => (hk_.1.1.1.1) hs_)) (fun k_ hk_ => ⟨hk_.1.1.1.1.1, hk_.1.1.2, hk_.1.2, hk_.1.1.1.1.2.1, hk_.1.1.1.1.2.2.1, hk_.1.1.1.1.2.2.2⟩))
          have n6_ := Aside0.mk (Kd.V_mono (ok' := fun k_ => some k_ ≠ (.slice (some ⟨go64, 0, none⟩) x467000_43.length co64 : Value).ownBlock ∧ some k_ ≠ (.slice Ao129 y492.length co129 : Value).ownBlock ∧ some k_ ≠ (.slice Ao131 t495.length co131 : Value).ownBlock ∧ k_ ≠ gb448 ∧ k_ ≠ gb449 ∧ k_ ≠ gb466) (Kd.V_keptB (HO483.out) hkp (fun k_ hk_ hs_ => (hk_.1.1.1.1.1.1.2) hs_)) (fun k_ hk_ => ⟨hk_.1.1.1.1.1.1.1.2, hk_.1.1.2, hk_.1.2, hk_.1.1.1.1.1.1.2, hk_.1.1.1.1.1.2, hk_.1.1.1.1.2⟩))
          have n7_ := Aside0.mk (Kd.V_mono (ok' := fun k_ => some k_ ≠ (.slice (some ⟨go64, 0, none⟩) x467000_43.length co64 : Value).ownBlock ∧ some k_ ≠ (.slice Ao129 y492.length co129 : Value).ownBlock ∧ some k_ ≠ (.slice Ao131 t495.length co131 : Value).ownBlock ∧ k_ ≠ gb448 ∧ k_ ≠ gb449 ∧ k_ ≠ gb466) (Kd.V_keptB (HO491.out) hkp (fun k_ hk_ hs_ => (hk_.1.1.1.1.1.1.2) hs_)) (fun k_ hk_ => ⟨hk_.1.1.1.1.1.1.1.2, hk_.1.1.2, hk_.1.2, hk_.1.1.1.1.1.1.2, hk_.1.1.1.1.1.2, hk_.1.1.1.1.2⟩))
          have n8_ := Aside0.mk (Kd.N_mono (ok' := fun k_ => some k_ ≠ (.slice (some ⟨go64, 0, none⟩) x467000_43.length co64 : Value).ownBlock ∧ some k_ ≠ (.slice Ao131 t495.length co131 : Value).ownBlock ∧ k_ ≠ gb448 ∧ k_ ≠ gb449 ∧ k_ ≠ gb466) (Kd.N_keptB (HO494.out) hkp (fun k_ hk_ hs_ => (hk_.1.1) hs_)) (fun k_ hk_ => ⟨hk_.1.1.1, hk_.1.2, hk_.1.1.2.1, hk_.1.1.2.2.1, hk_.1.1.2.2.2⟩))
          have n9_ := Aside0.mk (Kd.R_mono (ok' := fun k_ => some k_ ≠ (.slice Ao119 t455.length co119 : Value).ownBlock) (Kd.R_keptB ((Kd.R_apart' HO497.out (Kd.R_typed HO_467000.out) (by decide))) hkp (fun k_ hk_ hs_ => (hk_.2) hs_)) (fun k_ hk_ => hk_.1.1.2))
          have n10_ := Aside0.mk (hb)
          clear HO_12
          clear HO_467000
          clear BK448
          clear BK449
          clear BK466
          clear HO477
          clear HO483
          clear HO491
          clear HO494
          clear HO497
          clear HB
          have HO_12 := n0_
          have HO_467000 := n1_
          have BK448 := n2_
          have BK449 := n3_
          have BK466 := n4_
          have HO477 := n5_
          have HO483 := n6_
          have HO491 := n7_
          have HO494 := n8_
          have HO497 := n9_
          have HB := n10_
          clear n0_ n1_ n2_ n3_ n4_ n5_ n6_ n7_ n8_ n9_ n10_
          (try clear hb)
          (try clear hkp)
          (try clear hy0)
          refine hK.out _ _ ((blk_cell BK466.out 0).trans rfl) (fun hHeld => ?_)
          clear hK K
          refine zn_ rfl ?_
          refine done_ (done_of HT_.out (by kernel_rfl)) ?_
          have hcz133_0 : w132.cell? ⟨gb466, 0, none⟩ = some (.slice (some ⟨go64, 0, none⟩) x467000_43.length co64) := (blk_cell BK466.out 0).trans rfl
          have hfz133_0 := blk_frozen BK466.out 0
          try go_wp2_with (first | ((with_reducible refine gate_callee (f := 13) rfl ?_); refine goesL_ (some 97) rfl rfl Try.func13 (by kernel_rfl) rfl #[.agg #[.slice (some ⟨go64, 0, none⟩) t498.length co64]] rfl z188_ ?_; (with_reducible refine (impl_DomOk.calls kj43 _ _ t498 false _ ?side1 ?side2 A77.out).mono ?_); (case side1 => exact z206_); (case side2 => exact z270_); rintro e w134 ⟨rfl, hb⟩; refine ⟨_, rfl, ?_⟩; replace HO_12 := Aside0.mk (Kd.R_below z54_ hb); replace HO_467000 := Aside0.mk (Kd.R_below z63_ hb); replace HO477 := Aside0.mk (Kd.V_below z108_ hb); replace HO483 := Aside0.mk (Kd.V_below z109_ hb); replace HO491 := Aside0.mk (Kd.V_below z110_ hb); replace HO494 := Aside0.mk (Kd.N_below z153_ hb); replace HO497 := Aside0.mk (Kd.R_below z236_ hb); replace BK448 := Aside0.mk (blk_below (g := gb448) (o := .cells #[.slice A0_0 l0_0.length c0_0] 28 (0, 0)) z24_ hb); replace BK449 := Aside0.mk (blk_below (g := gb449) (o := .cells #[.slice none 0 0] 28 (0, 0)) z31_ hb); replace BK466 := Aside0.mk (blk_below (g := gb466) (o := .cells #[.slice (some ⟨go64, 0, none⟩) x467000_43.length co64] 28 (0, 0)) z50_ hb); replace HB := Aside0.mk (below_step z15_ hb); (try clear hb); have hnb135 := NB448_449.out; have hnc135 := NB449_448.out; have hcz136_0 : w134.cell? ⟨gb448, 0, none⟩ = some (.slice A0_0 l0_0.length c0_0) := (blk_cell BK448.out 0).trans rfl; have hfz136_0 := blk_frozen BK448.out 0) | ((with_reducible refine gate_callee (f := 71) rfl ?_); refine goesL_ (some 100) rfl rfl Try.func71 (by kernel_rfl) rfl #[.agg #[.slice A0_0 l0_0.length c0_0]] rfl z2_ ?_; (with_reducible refine (impl_domCopy.calls _ _ l0_0 t500 _ ?side1 ?side2 A108.out).mono ?_); (case side1 => exact z9_); (case side2 => exact HC0_0.out); rintro e w137 ⟨v501, rfl, ho0, hb⟩; refine ⟨_, rfl, ?_⟩; replace HO_12 := Aside0.mk (Kd.R_below z54_ hb); replace HO477 := Aside0.mk (Kd.V_elder' z108_ (Kd.R_base ho0) hb); replace HO483 := Aside0.mk (Kd.V_elder' z109_ (Kd.R_base ho0) hb); replace HO491 := Aside0.mk (Kd.V_elder' z110_ (Kd.R_base ho0) hb); replace HO494 := Aside0.mk (Kd.N_elder' z153_ (Kd.R_base ho0) hb); replace HO497 := Aside0.mk (Kd.R_below z236_ hb); have HO502 := Aside0.mk (Kd.R_lower (Kd.R_new' ho0 (Kd.R_lt z63_)) (below_size z15_)); replace HO_467000 := Aside0.mk (Kd.R_elder' z63_ (Kd.R_base ho0) hb); replace BK448 := Aside0.mk (blk_below (g := gb448) (o := .cells #[.slice A0_0 l0_0.length c0_0] 28 (0, 0)) z24_ hb); replace BK449 := Aside0.mk (blk_below (g := gb449) (o := .cells #[.slice none 0 0] 28 (0, 0)) z31_ hb); replace BK466 := Aside0.mk (blk_below (g := gb466) (o := .cells #[.slice (some ⟨go64, 0, none⟩) x467000_43.length co64] 28 (0, 0)) z50_ hb); replace HB := Aside0.mk (below_step z15_ hb); (try clear hb ho0); obtain ⟨Ao138, co138, eo138⟩ := Kd.R_slice HO502.out; subst eo138; have hcz139_0 : w137.cell? ⟨gb449, 0, none⟩ = some (.slice none 0 0) := (blk_cell BK449.out 0).trans rfl; have hfz139_0 := blk_frozen BK449.out 0))
          refine bodyPost_ret (results_ct rfl _ _ gb449 28 #[.slice Ao138 t500.length co138] (0, 0) _ rfl z91_ Try.underlying28 rfl (by kernel_rfl)) rfl ?_
          exact ⟨_, z216_, by exact Kd.R_mono (Kd.R_far (p := ⟨gb449, 0, none⟩) (Kd.R_types HO502.out BK449.out (by decide)) (fun _ hk => hk.2) (.slice Ao138 t500.length co138)) (fun _ hk => trivial), z15_⟩

end Go.Proofs.Ytdapeboajjidmab.PFnExactDomInsert
