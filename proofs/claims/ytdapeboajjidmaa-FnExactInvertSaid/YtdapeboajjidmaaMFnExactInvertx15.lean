/- Laid by a program of this session out of the kit's print for the law FnExactInvert: what it says of the machine is proved here, function by function; each contract under the conditions that it names. -/
import Derived.Test.YtdapeboajjidmaaMFnExactInvertx1
import Derived.Test.YtdapeboajjidmaaMFnExactInvertx2
import Derived.Test.YtdapeboajjidmaaMFnExactInvertx3
import Derived.Test.YtdapeboajjidmaaMFnExactInvertx4
import Derived.Test.YtdapeboajjidmaaMFnExactInvertx5
import Derived.Test.YtdapeboajjidmaaMFnExactInvertx6
import Derived.Test.YtdapeboajjidmaaMFnExactInvertx7
import Derived.Test.YtdapeboajjidmaaMFnExactInvertx8
import Derived.Test.YtdapeboajjidmaaMFnExactInvertx9
import Derived.Test.YtdapeboajjidmaaMFnExactInvertx11
import Derived.Test.YtdapeboajjidmaaMFnExactInvertx12
import Derived.Test.YtdapeboajjidmaaMFnExactInvertx0
import Derived.Test.YtdapeboajjidmaaMFnExactInvertx10
import Derived.Test.YtdapeboajjidmaaMFnExactInvertx13
import Derived.Test.YtdapeboajjidmaaMFnExactInvertx14
import Derived.Deep.RegionLaw
import Derived.Lib.Overlaps
import Derived.Laws.Externs
import Derived.Lib.AppendZeros
import Derived.Lib.AppendZerosOnto
import Derived.Laws.NewBlocks
import Derived.Lib.SliceRun
import Derived.Test.YtdapeboajjidmaaSliceOps
import Derived.Test.YtdapeboajjidmaaRevOp
namespace Go.Proofs.Ytdapeboajjidmaa.PFnExactInvert
open Go.RowKit Go.Proofs.YtdapeboajjidmaaW.PrintWords Go.Proofs.YtdapeboajjidmaaW.PrintLast Go.Proofs.YtdapeboajjidmaaW.PrintMore Go.Proofs.Ytdapeboajjidmaa.SliceOps
attribute [local go_sem] max2_int min2_int max_two min_two max_three min_three max_four min_four   -- for this text's walks alone
set_option linter.unusedVariables false
set_option linter.unusedSimpArgs false

/-! ### slices_Reverse_Op: function 68 -/
theorem S_rev_ {α : Type} {d : Kd α} {e base g cap : Nat} {ok : Nat → Prop} {w w' : World} {xs : List α} {cur cur' : Array Value} (h : Kd.S d e w base ok (.slice (some ⟨g, 0, none⟩) xs.length cap) xs) (hb : w.heap[g]? = some (.cells cur e (0, 0))) (hb' : w'.heap[g]? = some (.cells cur' e (0, 0)))
  (hsz : cur'.size = cur.size) (hO : ∀ k, k ≠ g → w'.heap[k]? = w.heap[k]?) (hs0 : 0 < d.sz) (hc : ∀ j c, j < xs.length → c < d.sz → cur'[j * d.sz + c]? = cur[(xs.length - 1 - j) * d.sz + c]?) : Kd.S d e w' base ok (.slice (some ⟨g, 0, none⟩) xs.length cap) xs.reverse := by
 obtain ⟨f, h0, inner, ho, hr⟩ := h
 have hgo : (Value.slice (some ⟨g, 0, none⟩) xs.length cap).ownBlock = some g := by simp [Value.ownBlock]
 have hzl : xs.zipIdx.length = xs.length := List.length_zipIdx
 obtain ⟨hil, ho2⟩ := ho
 rcases ho2 with ⟨he, _⟩ | ⟨g2, cap2, cur2, he, hbg, hb2, hnc, hcm, hcs, htake⟩
 ·cases he
 injection he with ha _ hcap
 injection ha with ha
 injection ha with hg2
 subst hg2
 subst hcap
 rw [hb] at hb2
 injection hb2 with hb2
 injection hb2 with hcur
 subst hcur
 rw [hzl] at hil htake hnc
 rw [show (Kd.tag f d).sz = d.sz from rfl] at hil htake hcs
 have e1 : cur.toList.length = cur.size := Array.length_toList
 have e2 : cur'.toList.length = cur'.size := Array.length_toList
 have hle : xs.length * d.sz ≤ cur.toList.length := by rw [e1, hcs]; exact Nat.mul_le_mul_right _ hnc
 have hlen : (cur'.toList.take (xs.length * d.sz)).length = xs.length * d.sz := by rw [List.length_take, e2, hsz, ← e1]; exact Nat.min_eq_left hle
 refine ⟨fun k => xs.length - 1 - f k, h0, cur'.toList.take (xs.length * d.sz), ⟨?_, .inr ⟨g, cap, cur', ?_, hbg, hb', ?_, hcm, hsz.trans hcs, ?_⟩⟩, ?_, ?_⟩
 ·rw [List.length_zipIdx, List.length_reverse]; exact hlen
 ·rw [List.length_zipIdx, List.length_reverse]
 ·rw [List.length_zipIdx, List.length_reverse]; exact hnc
 ·rw [List.length_zipIdx, List.length_reverse]; rfl
 ·rw [List.length_zipIdx, List.length_reverse]; exact hlen
 ·intro m p hm
  rw [List.getElem?_zipIdx, Nat.zero_add] at hm
  obtain ⟨q, hq, rfl⟩ := Option.map_eq_some_iff.1 hm
  have hml : m < xs.length := by
   have := (List.getElem?_eq_some_iff.1 hq).1
   rwa [List.length_reverse] at this
  have hq2 : xs[xs.length - 1 - m]? = some q := by
   rw [List.getElem?_reverse hml] at hq
   exact hq
  have hM := hr.2 (xs.length - 1 - m) (q, xs.length - 1 - m) (by rw [List.getElem?_zipIdx, hq2, Nat.zero_add]; rfl)
  have hcells : (inner.drop ((xs.length - 1 - m) * d.sz)).take d.sz = ((cur'.toList.take (xs.length * d.sz)).drop (m * d.sz)).take d.sz := by
   have b1 : (xs.length - 1 - m) * d.sz + d.sz ≤ xs.length * d.sz := by rw [← Nat.succ_mul]; exact Nat.mul_le_mul_right _ (by omega)
   have b2 : m * d.sz + d.sz ≤ xs.length * d.sz := by rw [← Nat.succ_mul]; exact Nat.mul_le_mul_right _ (by omega)
   apply List.ext_getElem?
   intro c
   rw [List.getElem?_take, List.getElem?_take]
   by_cases hcd : c < d.sz
   ·have g1 : (xs.length - 1 - m) * d.sz + c < xs.length * d.sz := by omega
    have g2 : m * d.sz + c < xs.length * d.sz := by omega
    rw [if_pos hcd, if_pos hcd, List.getElem?_drop, List.getElem?_drop, ← htake, List.getElem?_take_of_lt g1, List.getElem?_take_of_lt g2, Array.getElem?_toList, Array.getElem?_toList]
    exact (hc m c hml hcd).symm
   ·rw [if_neg hcd, if_neg hcd]
  show d.M w' base _ q (((cur'.toList.take (xs.length * d.sz)).drop (m * d.sz)).take d.sz)
  rw [← hcells]
  refine d.M_mono (fun k hk => ?_) (Kd.M_step hM (w1 := w') (fun k hk hlt => hO k (fun hkg => ?_)))
  ·obtain ⟨⟨h1, h2⟩, h3⟩ := hk
   refine ⟨⟨h1, h2⟩, ?_⟩
   show xs.length - 1 - f k = m
   have h4 : f k = xs.length - 1 - m := h3
   rw [h4]
   omega
  ·subst hkg
   exact hk.1.2 (by simp [Value.ownBlock])
def slices_Reverse_Op.f (l0 : List (S78)) : Option (List (S78)) := some l0.reverse
set_option maxHeartbeats 8000000 in
set_option maxRecDepth 100000 in
theorem slices_Reverse_Op.calls (P0_ : Nat → Prop) (u : Value) (l0 : List (S78)) (r : List (S78)) (w0 w : World) (hB : Below w0.heap.size w0 w) (ho0 : Kd.S k78 78 w w0.heap.size P0_ u l0) (h : slices_Reverse_Op.f l0 = some r) :
  Calls Try.prog 68 #[u] w fun e w' => e = .returned (.tuple #[]) ∧ Kd.S k78 78 w' w0.heap.size P0_ u r ∧ Below w0.heap.size w0 w' ∧ Kept w w' (fun k_ => some k_ = u.ownBlock) := by
 obtain rfl : l0.reverse = r := by injection h
 rcases Nat.eq_zero_or_pos l0.length with hz | hp
 ·have hl : l0 = [] := List.eq_nil_of_length_eq_zero hz
  subst hl
  obtain ⟨A1, c1, rfl⟩ := Kd.S_slice ho0
  have C := AnyQ.slices_Reverse_empty Try.revOp A1 c1 w
  change Calls Try.prog 68 _ _ _ at C
  refine C.mono ?_
  rintro e w' ⟨rfl, rfl⟩
  exact ⟨rfl, ho0, hB, Kept.refl _ _⟩
 ·obtain ⟨g, cap, rfl, hbg, hgl, cur, hcell⟩ := Kd.S_form ho0 hp
  obtain ⟨f, h0, inner, ho, hr⟩ := ho0
  have ho0 : Kd.S k78 78 w w0.heap.size P0_ (.slice (some ⟨g, 0, none⟩) l0.length cap) l0 := ⟨f, h0, inner, ho, hr⟩
  obtain ⟨hil, ho2⟩ := ho
  rw [List.length_zipIdx] at hil ho2
  rcases ho2 with ⟨he, _⟩ | ⟨g2, cap2, cur2, he, _, hb2, hnc, hcm, hcs, htake⟩
  ·cases he
  injection he with ha _ hcap
  injection ha with ha
  injection ha with hg2
  subst hg2
  subst hcap
  have h5 : (k78).sz = 5 := rfl
  rw [show (Kd.tag f k78).sz = 5 from rfl] at hcs htake hil
  have h1 : ∀ u ∈ cur2.toList.take (l0.length * 5), u.oneCell' = true := by
   rw [htake]
   intro u hu
   obtain ⟨q, hq, rfl⟩ := List.mem_iff_getElem.1 hu
   have hq5 : q / 5 < l0.length := by omega
   have hM := hr.2 (q / 5) (l0[q / 5], q / 5) (by rw [List.getElem?_zipIdx, List.getElem?_eq_getElem hq5, Nat.zero_add]; rfl)
   have hone := (Kd.tag f k78).K_one ((Kd.tag f k78).K_of_M hM)
   refine hone _ ?_
   rw [List.mem_iff_getElem]
   refine ⟨q % 5, ?_, ?_⟩
   ·show q % 5 < ((inner.drop (q / 5 * 5)).take 5).length
    rw [List.length_take, List.length_drop]; omega
   ·show ((inner.drop (q / 5 * 5)).take 5)[q % 5]'_ = _
    rw [List.getElem_take, List.getElem_drop]
    congr 1
    omega
  refine (Go.Proofs.Ytdapeboajjidmaa.RevOp.reverse_cells g cap l0.length cur2 w hb2 hcs hnc hcm h1).mono ?_
  rintro e w' ⟨rfl, cur', hb', hcs', hO, hc⟩
  have hbw : w0.heap.size ≤ g := hbg
  refine ⟨rfl, S_rev_ ho0 hb2 hb' (hcs'.trans hcs.symm) hO.block (by rw [h5]; omega) hc, ?_, hO.size ▸ Nat.le_refl _, fun i _ hi => hO.block i (fun e_ => hi (by rw [e_]; simp [Value.ownBlock]))⟩
  exact hB.trans (hO.below hbw)

/-! ### impl_Invert: function 28 -/
def impl_Invert.l0 : Nat → List (S78) → List (S80) → List (S78) → Int → Int → Option ((List (S78)) × Bool)
 | 0, _, _, _, _, _ => none
 | k + 1, x6, x7, x18, x19, x20 => if x20 < x19 then (if 0 ≤ x20 then (if x20 < (x18.length : Int) then ((impl_ApplyOp.f k x7 ((rd_T78 x18 x20).f0) ((rd_T78 x18 x20).f1) ((rd_T78 x18 x20).f2) ((rd_T78 x18 x20).f3) ((rd_T78 x18 x20).f4)).bind fun bt454 => (if bt454.2 = 0 then ((impl_undone.f k x7 ((rd_T78 x18 x20).f0) ((rd_T78 x18 x20).f1) ((rd_T78 x18 x20).f2) ((rd_T78 x18 x20).f3) ((rd_T78 x18 x20).f4)).bind fun bt458 => (if x6.length < 2513169434916 then (impl_Invert.l0 k (x6 ++ [(⟨bt458.1, bt458.2.1, bt458.2.2.1, bt458.2.2.2.1, bt458.2.2.2.2⟩ : S78)]) bt454.1 x18 x19 (wrap64 (x20 + 1))) else (none))) else (some ((([] : List (S78))), false)))) else (none)) else (none)) else (some (x6.reverse, true))
def impl_Invert.f (k : Nat) (l0 : List (S80)) (l1 : List (S78)) : Option ((List (S78)) × Bool) := (some (([] : List (S78)) : List (S78))).bind fun y448 => ((impl_TreeOk.f k l0).bind fun t451 => (if t451 = true then (impl_Invert.l0 k y448 l0 l1 (l1.length : Int) 0) else (some (y448, false))))
set_option maxHeartbeats 8000000 in
set_option maxRecDepth 100000 in
theorem impl_Invert.calls (k : Nat) (P0_ : Nat → Prop) (A0 : Option Addr) (c0 : Nat) (l0 : List (S80)) (A1 : Option Addr) (c1 : Nat) (l1 : List (S78)) (r1 : List (S78)) (r2 : Bool) (w : World) (hs0 : Kd.V k80 80 w w.heap.size (fun k_ => P0_ k_) (.slice A0 l0.length c0) l0) (hr1 : Kd.C k78 w A1 l1.length l1) (hc1 : l1.length ≤ c1) (h : impl_Invert.f k l0 l1 = some (r1, r2)) :
  Calls Try.prog 28 #[.slice A0 l0.length c0, .slice A1 l1.length c1] w fun e w' => ∃ v0_ : Value, e = .returned (.tuple #[v0_, .bool r2]) ∧ Kd.S k78 78 w' w.heap.size (fun k_ => (w.heap.size ≤ k_)) v0_ r1 ∧ Below w.heap.size w w' := by
 have hu78 := Try.underlying78
 have HO0 := Aside0.mk (show Kd.V k80 80 w w.heap.size (fun k_ => (P0_ k_ ∨ w.heap.size ≤ k_)) (.slice A0 l0.length c0) l0 from Kd.V_mono hs0 (fun k_ hk => .inl hk))
 have HR1 := Aside0.mk hr1
 have HC1 := Aside0.mk hc1
 clear hr1 hc1
 have HB := Aside0.mk (Below.refl w.heap.size w)
 have H : ((some (([] : List (S78)) : List (S78))).bind fun y448 => ((impl_TreeOk.f k l0).bind fun t451 => (if t451 = true then (impl_Invert.l0 k y448 l0 l1 (l1.length : Int) 0) else (some (y448, false))))) = some (r1, r2) := h
 clear h
 first | ((with_reducible have hz_ := gy_ H); obtain ⟨y448, Ny448, H⟩ := hz_) | (generalize hy_ : ((([] : List (S78))) : List (S78)) = y448 at H; have Ny448 := Aside0.mk hy_.symm; clear hy_)
 obtain ⟨t451, A3, H⟩ := bnd_ H
 by_cases c4 : t451 = true
 ·subst c4
  replace H := ift_ H
  have H' := Aside0.mk H
  clear H
  go_enter Try.func28, Try.ntmps28
  go_wp2_with (first | ((with_reducible refine gate_dst (N := 12) rfl ?_); refine Kd.S_lit k78 _ 78 ?hg (N := 12) ?hd (xs := ([] : List (S78))) (inner := []) (ok := fun _ => True) (okp := fun _ => True) ?hr ?hp (fun _ hk => hk) trivial (Below.refl _ _) (Nat.le_refl _) (by simp) ?_; (case hd => rfl); (case hg => rfl); (case hr => exact z10_); (case hp => exact z97_); intro v449 w5 ho6 hb hg_ hnew_; clear hg_ hnew_; (first | rw [← Ny448.out] at ho6 | (simp only [Int.reduceToNat] at ho6; rw [← Ny448.out] at ho6)); replace HO0 := Aside0.mk (Kd.V_elder' z96_ (Kd.S_base ho6) hb); have HO450 := Aside0.mk (Kd.S_lower (Kd.S_newM (M := fun k_ => (w.heap.size ≤ k_)) ho6 (below_size z0_) (fun k_ h_ => h_)) (below_size z0_)); replace HB := Aside0.mk (below_step z0_ hb); clear hb ho6) | ((with_reducible refine gate_callee (f := 50) rfl ?_); refine goesL_ (some 15) rfl rfl Try.func50 (by kernel_rfl) rfl #[.slice A0 l0.length c0] rfl z1_ ?_; (with_reducible refine (impl_TreeOk.calls k _ _ l0 true _ ?side1 ?side2 A3.out).mono ?_); (case side1 => exact z125_); (case side2 => exact (Kd.V_reads' HO0.out).2.1); rintro e w7 ⟨rfl, hb⟩; refine ⟨_, rfl, ?_⟩; replace HO0 := Aside0.mk (Kd.V_below z96_ hb); replace HO450 := Aside0.mk (Kd.S_below z156_ hb); replace HB := Aside0.mk (below_step z0_ hb); (try clear hb)))
  go_loopg [6, 7, 20] k (fun kq v6 v7 v20 w' => ∃ (x6_1 : List (S78)) (x7_1 : List (S80)) (x20_1 : Int), v20 = .int .i64 x20_1 ∧ Aside0 (impl_Invert.l0 kq x6_1 x7_1 l1 (l1.length : Int) x20_1 = some (r1, r2)) ∧ Aside0 (kq ≤ k) ∧ Aside0 (Kd.S k78 78 w' w.heap.size (fun k_ => (w.heap.size ≤ k_)) v6 x6_1) ∧ Aside0 (Kd.V k80 80 w' w.heap.size (fun k_ => (P0_ k_ ∨ w.heap.size ≤ k_) ∧ some k_ ≠ (v6 : Value).ownBlock) v7 x7_1) ∧ Aside0 (Below w.heap.size w w'))
  case atStart => exact ⟨(y448), (l0), (0), z8_, H', ⟨Nat.le_refl _⟩, ⟨z143_⟩, ⟨z96_⟩, ⟨z0_⟩⟩
  case round =>
   clear H'
   try clear c1
   try clear c2
   try clear p2
   try clear c4
   try clear c5
   obtain ⟨x6_1, x7_1, x20_1, rfl, HA, HK1, HO_6, HO_7, HB⟩ := hrel
   cases gk with
   | zero => exact absurd HA.out (by simp [impl_Invert.l0])
   | succ k1 =>
    have H := HA.out
    clear HA
    simp only [impl_Invert.l0] at H
    by_cases c8 : x20_1 < (l1.length : Int)
    ·rw [if_pos c8] at H
     have c8b0 := decide_eq_true c8
     clear c8
     obtain ⟨c9b0, H⟩ := ifd_ H
     obtain ⟨c10b0, H⟩ := ifd_ H
     replace H := Option.bind_eq_some_iff.mp H
     obtain ⟨⟨t454, t457⟩, A110, H⟩ := H
     try dsimp only at H
     have A11 := Aside0.mk A110
     clear A110
     by_cases c12 : t457 = 0
     ·rw [if_pos c12] at H
      have c12b0 : (t457 == 0) = true := beq_iff_eq.mpr c12
      have c12b1 : (t457 != 0) = false := bne_eq_false_iff_eq.mpr c12
      clear c12
      replace H := Option.bind_eq_some_iff.mp H
      obtain ⟨⟨t458, t459, t462, t463, t464⟩, A130, H⟩ := H
      try dsimp only at H
      have A13 := Aside0.mk A130
      clear A130
      obtain ⟨c14, H⟩ := ifs_ H
      have LMc14 := Aside0.mk c14
      clear c14
      first | ((with_reducible have hz_ := gy_ H); obtain ⟨y465, Ny465, H⟩ := hz_) | (generalize hy_ : ((x6_1 ++ [(⟨t458, t459, t462, t463, t464⟩ : S78)]) : List (S78)) = y465 at H; have Ny465 := Aside0.mk hy_.symm; clear hy_)
      have H' := Aside0.mk H
      clear H
      have p452 : 0 ≤ (x20_1 : Int) := odt_
      have q452 : x20_1 < (l1.length : Int) := odt_
      obtain ⟨ad452, A452_1, c452_1, e452, hx452_0, hx452_1, hx452_2, hx452_3, hx452_4, hl452_1, hi452_1⟩ := at_T78 HR1.out x20_1 p452 q452
      cases e452
      replace hx452_0 := (HB.out.cell (World.block_lt_of_cell? w _ hx452_0)).trans hx452_0
      replace hx452_1 := (HB.out.cell (World.block_lt_of_cell? w _ hx452_1)).trans hx452_1
      replace hx452_2 := (HB.out.cell (World.block_lt_of_cell? w _ hx452_2)).trans hx452_2
      replace hx452_3 := (HB.out.cell (World.block_lt_of_cell? w _ hx452_3)).trans hx452_3
      replace hx452_4 := (HB.out.cell (World.block_lt_of_cell? w _ hx452_4)).trans hx452_4
      have HR452_1 := Aside0.mk hi452_1
      have HC452_1 := Aside0.mk hl452_1
      clear hi452_1 hl452_1
      replace p452 := eq_true p452
      replace q452 := eq_true q452
      go_wp2_with (first | ((with_reducible refine gate_dst (N := 9) rfl ?_); refine box_event ?hg (N := 9) ?hd (cs := #[.int .i64 0, .slice none 0 0, .int .i64 0, .int .i64 0, .int .i64 0]) (t := 78) ?hr ?_; (case hd => rfl); (case hg => rfl); (case hr => exact z10_); intro gb453 hg w15 hbox hb; replace HO_6 := Aside0.mk (Kd.S_below (Kd.S_elderB z70_ gb453 (Nat.le_of_eq hg.symm)) hb); replace HO_7 := Aside0.mk (Kd.V_below (Kd.V_elderB z105_ gb453 (Nat.le_of_eq hg.symm)) hb); have BK453 := Aside0.mk (hbox); have GW453 := Aside0.mk ((by rw [hg]; exact (below_size z0_) : w.heap.size ≤ gb453)); have GE453 := Aside0.mk ((by rw [hg]; exact (below_size z0_) : w.heap.size ≤ gb453)); replace HB := Aside0.mk (below_step z0_ hb); clear hb hbox hg; obtain ⟨hcz16_0, hcz16_1, hcz16_2, hcz16_3, hcz16_4, hfz16_0, hfz16_1, hfz16_2, hfz16_3, hfz16_4⟩ := bx5_ BK453.out; obtain ⟨Ao17, co17, eo17⟩ := Kd.V_slice HO_7.out; subst eo17) | ((with_reducible refine gate_callee (f := 51) rfl ?_); refine goesL_ (some 27) rfl rfl Try.func51 (by kernel_rfl) rfl #[.slice Ao17 x7_1.length co17, .agg #[.int .i64 ((rd_T78 l1 x20_1).f0), .slice A452_1 ((rd_T78 l1 x20_1).f1).length c452_1, .int .i64 ((rd_T78 l1 x20_1).f2), .int .i64 ((rd_T78 l1 x20_1).f3), .int .i64 ((rd_T78 l1 x20_1).f4)]] rfl z1_ ?_; (with_reducible refine (impl_ApplyOp.calls k1 _ _ x7_1 ((rd_T78 l1 x20_1).f0) _ _ ((rd_T78 l1 x20_1).f1) ((rd_T78 l1 x20_1).f2) ((rd_T78 l1 x20_1).f3) ((rd_T78 l1 x20_1).f4) t454 t457 _ ?side1 ?side2 ?side3 ?side4 A11.out).mono ?_); (case side1 => refine (Kd.V_reads' (e := 80) (base := w.heap.size) (ok := fun k_ => (((P0_ k_ ∨ w.heap.size ≤ k_) ∧ some k_ ≠ (u6 : Value).ownBlock) ∧ k_ ≠ gb453)) (n := x7_1.length) (c := co17) ?_).2.2; exact z26_); (case side2 => exact (Kd.V_reads' HO_7.out).2.1); (case side3 => exact z108_); (case side4 => exact HC452_1.out); rintro e w18 ⟨v455, rfl, ho0, hb⟩; refine ⟨_, rfl, ?_⟩; replace HO_6 := Aside0.mk (Kd.S_below z52_ hb); replace HO_7 := Aside0.mk (Kd.V_elder' z26_ (Kd.R_base ho0) hb); have HO456 := Aside0.mk (Kd.R_lower (Kd.R_newM (M := fun k_ => (w.heap.size ≤ k_)) ho0 (below_size z23_) (fun k_ h_ => h_)) (below_size z23_)); replace BK453 := Aside0.mk (blk_below (g := gb453) (o := .cells #[.int .i64 ((rd_T78 l1 x20_1).f0), .slice A452_1 ((rd_T78 l1 x20_1).f1).length c452_1, .int .i64 ((rd_T78 l1 x20_1).f2), .int .i64 ((rd_T78 l1 x20_1).f3), .int .i64 ((rd_T78 l1 x20_1).f4)] 78 (0, 0)) z25_ hb); replace HB := Aside0.mk (below_step z23_ hb); (try clear hb ho0); obtain ⟨hcz19_0, hcz19_1, hcz19_2, hcz19_3, hcz19_4, hfz19_0, hfz19_1, hfz19_2, hfz19_3, hfz19_4⟩ := bx5_ BK453.out) | ((with_reducible refine gate_callee (f := 67) rfl ?_); refine goesL_ (some 36) rfl rfl Try.func67 (by kernel_rfl) rfl #[.slice Ao17 x7_1.length co17, .agg #[.int .i64 ((rd_T78 l1 x20_1).f0), .slice A452_1 ((rd_T78 l1 x20_1).f1).length c452_1, .int .i64 ((rd_T78 l1 x20_1).f2), .int .i64 ((rd_T78 l1 x20_1).f3), .int .i64 ((rd_T78 l1 x20_1).f4)]] rfl z1_ ?_; (with_reducible refine (impl_undone.calls k1 _ _ x7_1 ((rd_T78 l1 x20_1).f0) _ _ ((rd_T78 l1 x20_1).f1) ((rd_T78 l1 x20_1).f2) ((rd_T78 l1 x20_1).f3) ((rd_T78 l1 x20_1).f4) t458 t459 t462 t463 t464 _ ?side1 ?side2 ?side3 ?side4 A13.out).mono ?_); (case side1 => repeat (first | exact (Kd.V_reads' HO_7.out).2.2 | (with_reducible refine Kd.C_alloc ?_ _) | (with_reducible refine Kd.C_drewN ?_ _) | (with_reducible refine Kd.C_drew ?_))); (case side2 => exact (Kd.V_reads' HO_7.out).2.1); (case side3 => repeat (first | exact (Kd.C_below HR452_1.out HB.out) | (with_reducible refine Kd.C_alloc ?_ _) | (with_reducible refine Kd.C_drewN ?_ _) | (with_reducible refine Kd.C_drew ?_))); (case side4 => exact HC452_1.out); rintro e w20 ⟨v460, rfl, ho0, hb⟩; refine ⟨_, rfl, ?_⟩; replace HO_6 := Aside0.mk (Kd.S_elder' z70_ (Kd.R_base ho0) hb); replace HO_7 := Aside0.mk (Kd.V_elder' z105_ (Kd.R_base ho0) hb); replace HO456 := Aside0.mk (Kd.R_below z133_ hb); have HO461 := Aside0.mk (Kd.R_lower (Kd.R_newM (M := fun k_ => (w.heap.size ≤ k_)) ho0 (below_size z23_) (fun k_ h_ => h_)) (below_size z23_)); replace BK453 := Aside0.mk (blk_below (g := gb453) (o := .cells #[.int .i64 ((rd_T78 l1 x20_1).f0), .slice A452_1 ((rd_T78 l1 x20_1).f1).length c452_1, .int .i64 ((rd_T78 l1 x20_1).f2), .int .i64 ((rd_T78 l1 x20_1).f3), .int .i64 ((rd_T78 l1 x20_1).f4)] 78 (0, 0)) z87_ hb); replace HB := Aside0.mk (below_step z23_ hb); (try clear hb ho0); obtain ⟨Ao22, co22, eo22⟩ := Kd.R_slice HO461.out; subst eo22) | ((with_reducible refine gate_builtin (b := .append) (xs := #[.tmp 33, .tmp 37]) rfl ?_); at_builtin; refine Kd.S_append k78 (w0 := w) w.heap.size rfl (.tmp 33) (.tmp 37) 26 78 (.agg #[(.int .i64 0), (.slice none 0 0), (.int .i64 0), (.int .i64 0), (.int .i64 0)]) 56 rfl Try.underlying26 info78 rfl (by decide) (by omega) u6 x6_1 (⟨t458, t459, t462, t463, t464⟩ : S78) [.int .i64 t458, .slice Ao22 t459.length co22, .int .i64 t462, .int .i64 t463, .int .i64 t464] (fun k_ => (w.heap.size ≤ k_) ∧ k_ ≠ gb453) (fun k_ => some k_ = (.slice Ao22 t459.length co22 : Value).ownBlock) rfl rfl ?aP (fun k_ hk_ => ((Kd.R_mono (ok' := fun k_ => ((fun k_ => (w.heap.size ≤ k_) ∧ k_ ≠ gb453)) k_ ∧ some k_ ≠ (u6 : Value).ownBlock) (Kd.R_types (Kd.R_apart' (HO461.out) (Kd.S_typed HO_6.out) (by decide)) BK453.out (by decide)) (fun k_ hk => ⟨⟨hk.1.1.1, hk.2⟩, hk.1.2⟩))).1 k_ hk_.symm) ?aF ?aO ?aB ?aS ?aL ?_; (case aP => exact k78_mkM _ _ _ (⟨t458, t459, t462, t463, t464⟩ : S78) (Kd.R_mono (Kd.R_tight rfl (Kd.R_mono (ok' := fun k_ => ((fun k_ => (w.heap.size ≤ k_) ∧ k_ ≠ gb453)) k_ ∧ some k_ ≠ (u6 : Value).ownBlock) (Kd.R_types (Kd.R_apart' (HO461.out) (Kd.S_typed HO_6.out) (by decide)) BK453.out (by decide)) (fun k_ hk => ⟨⟨hk.1.1.1, hk.2⟩, hk.1.2⟩))) (fun _ h_ => h_))); (case aB => exact z23_); (case aF => exact (fun k_ hk => ⟨(Nat.le_trans (below_size z23_) hk), Kd.freshB (g := gb453) (o := .cells #[.int .i64 ((rd_T78 l1 x20_1).f0), .slice A452_1 ((rd_T78 l1 x20_1).f1).length c452_1, .int .i64 ((rd_T78 l1 x20_1).f2), .int .i64 ((rd_T78 l1 x20_1).f3), .int .i64 ((rd_T78 l1 x20_1).f4)] 78 (0, 0)) z87_ k_ hk⟩)); (case aO => exact (by (with_reducible repeat (first | apply Kd.S_alloc | apply Kd.S_drewN | apply Kd.S_drew)); exact Kd.S_mono HO_6.out (fun k_ hk => ⟨⟨hk.1.1, hk.1.2⟩, fun e_ => hk.2 e_⟩))); (case aS => exact (below_size z23_)); (case aL => have := LMc14.out; omega); intro v466 w21 ho hb hg hat; rw [← Ny465.out] at ho; replace HO_7 := Aside0.mk (Kd.V_afterv (ok := (fun k_ => (P0_ k_ ∨ w.heap.size ≤ k_) ∧ some k_ ≠ (v455 : Value).ownBlock ∧ some k_ ≠ (.slice Ao22 t459.length co22 : Value).ownBlock ∧ k_ ≠ gb453)) (by (with_reducible repeat (first | apply Kd.V_alloc | apply Kd.V_drewN | apply Kd.V_drew)); exact Kd.V_mono HO_7.out (fun _ hk => ⟨⟨hk.1.1.1.1, ⟨hk.1.2, ⟨hk.2, hk.1.1.2⟩⟩⟩, hk.1.1.1.2⟩)) hg hat); replace BK453 := Aside0.mk (blk_grown (g := gb453) (o := .cells #[.int .i64 ((rd_T78 l1 x20_1).f0), .slice A452_1 ((rd_T78 l1 x20_1).f1).length c452_1, .int .i64 ((rd_T78 l1 x20_1).f2), .int .i64 ((rd_T78 l1 x20_1).f3), .int .i64 ((rd_T78 l1 x20_1).f4)] 78 (0, 0)) z87_ hg (Kd.S_away HO_6.out (fun _ hk => hk.1.2))); replace HO456 := Aside0.mk (Kd.R_over' z133_ (Kd.S_typed z70_) (by decide) hg); replace HB := Aside0.mk (hb); have HO467 := Aside0.mk (ho); clear HO_6 HO461; clear ho hb hg hat))
      go_roundg k1
      case measure => have := HK1.out; omega
      case rel => exact ⟨(y465), (t454), (wrap64 (x20_1 + 1)), z8_, H', ⟨z89_⟩, ⟨by (with_reducible repeat (first | apply Kd.S_alloc | apply Kd.S_drewN | apply Kd.S_drew)); exact Kd.S_mono HO467.out (fun _ hk => hk.1)⟩, ⟨Kd.V_mono (Kd.R_V (by (with_reducible repeat (first | apply Kd.R_alloc | apply Kd.R_drewN | apply Kd.R_drew)); exact Kd.R_mono (Kd.R_apart' HO456.out (Kd.S_typed HO467.out) (by decide)) (fun _ hk => And.intro hk.1.1 hk.2))) (fun k_ hk => by first | exact ⟨(.inr (hk.1)), hk.2⟩ | exact (.inr (hk)))⟩, ⟨z23_⟩⟩
     ·rw [if_neg c12] at H
      have c12b0 : (t457 == 0) = false := beq_eq_false_iff_ne.mpr c12
      have c12b1 : (t457 != 0) = true := bne_iff_ne.mpr c12
      first | ((with_reducible have hz_ := gy_ H); obtain ⟨y468, Ny468, H⟩ := hz_) | (generalize hy_ : ((([] : List (S78))) : List (S78)) = y468 at H; have Ny468 := Aside0.mk hy_.symm; clear hy_)
      simp only [Option.some.injEq, Prod.mk.injEq] at H
      obtain ⟨rfl, rfl⟩ := H
      have p452 : 0 ≤ (x20_1 : Int) := odt_
      have q452 : x20_1 < (l1.length : Int) := odt_
      obtain ⟨ad452, A452_1, c452_1, e452, hx452_0, hx452_1, hx452_2, hx452_3, hx452_4, hl452_1, hi452_1⟩ := at_T78 HR1.out x20_1 p452 q452
      cases e452
      replace hx452_0 := (HB.out.cell (World.block_lt_of_cell? w _ hx452_0)).trans hx452_0
      replace hx452_1 := (HB.out.cell (World.block_lt_of_cell? w _ hx452_1)).trans hx452_1
      replace hx452_2 := (HB.out.cell (World.block_lt_of_cell? w _ hx452_2)).trans hx452_2
      replace hx452_3 := (HB.out.cell (World.block_lt_of_cell? w _ hx452_3)).trans hx452_3
      replace hx452_4 := (HB.out.cell (World.block_lt_of_cell? w _ hx452_4)).trans hx452_4
      have HR452_1 := Aside0.mk hi452_1
      have HC452_1 := Aside0.mk hl452_1
      clear hi452_1 hl452_1
      replace p452 := eq_true p452
      replace q452 := eq_true q452
      go_wp2_with (first | ((with_reducible refine gate_dst (N := 9) rfl ?_); refine box_event ?hg (N := 9) ?hd (cs := #[.int .i64 0, .slice none 0 0, .int .i64 0, .int .i64 0, .int .i64 0]) (t := 78) ?hr ?_; (case hd => rfl); (case hg => rfl); (case hr => exact z10_); intro gb453 hg w23 hbox hb; replace HO_6 := Aside0.mk (Kd.S_below (Kd.S_elderB z70_ gb453 (Nat.le_of_eq hg.symm)) hb); replace HO_7 := Aside0.mk (Kd.V_below (Kd.V_elderB z105_ gb453 (Nat.le_of_eq hg.symm)) hb); have BK453 := Aside0.mk (hbox); have GW453 := Aside0.mk ((by rw [hg]; exact (below_size z0_) : w.heap.size ≤ gb453)); have GE453 := Aside0.mk ((by rw [hg]; exact (below_size z0_) : w.heap.size ≤ gb453)); replace HB := Aside0.mk (below_step z0_ hb); clear hb hbox hg; obtain ⟨hcz24_0, hcz24_1, hcz24_2, hcz24_3, hcz24_4, hfz24_0, hfz24_1, hfz24_2, hfz24_3, hfz24_4⟩ := bx5_ BK453.out; obtain ⟨Ao25, co25, eo25⟩ := Kd.V_slice HO_7.out; subst eo25) | ((with_reducible refine gate_callee (f := 51) rfl ?_); refine goesL_ (some 27) rfl rfl Try.func51 (by kernel_rfl) rfl #[.slice Ao25 x7_1.length co25, .agg #[.int .i64 ((rd_T78 l1 x20_1).f0), .slice A452_1 ((rd_T78 l1 x20_1).f1).length c452_1, .int .i64 ((rd_T78 l1 x20_1).f2), .int .i64 ((rd_T78 l1 x20_1).f3), .int .i64 ((rd_T78 l1 x20_1).f4)]] rfl z1_ ?_; (with_reducible refine (impl_ApplyOp.calls k1 _ _ x7_1 ((rd_T78 l1 x20_1).f0) _ _ ((rd_T78 l1 x20_1).f1) ((rd_T78 l1 x20_1).f2) ((rd_T78 l1 x20_1).f3) ((rd_T78 l1 x20_1).f4) t454 t457 _ ?side1 ?side2 ?side3 ?side4 A11.out).mono ?_); (case side1 => refine (Kd.V_reads' (e := 80) (base := w.heap.size) (ok := fun k_ => (((P0_ k_ ∨ w.heap.size ≤ k_) ∧ some k_ ≠ (u6 : Value).ownBlock) ∧ k_ ≠ gb453)) (n := x7_1.length) (c := co25) ?_).2.2; exact z26_); (case side2 => exact (Kd.V_reads' HO_7.out).2.1); (case side3 => exact z108_); (case side4 => exact HC452_1.out); rintro e w26 ⟨v455, rfl, ho0, hb⟩; refine ⟨_, rfl, ?_⟩; replace HO_6 := Aside0.mk (Kd.S_below z52_ hb); replace HO_7 := Aside0.mk (Kd.V_elder' z26_ (Kd.R_base ho0) hb); have HO456 := Aside0.mk (Kd.R_lower (Kd.R_newM (M := fun k_ => (w.heap.size ≤ k_)) ho0 (below_size z23_) (fun k_ h_ => h_)) (below_size z23_)); replace BK453 := Aside0.mk (blk_below (g := gb453) (o := .cells #[.int .i64 ((rd_T78 l1 x20_1).f0), .slice A452_1 ((rd_T78 l1 x20_1).f1).length c452_1, .int .i64 ((rd_T78 l1 x20_1).f2), .int .i64 ((rd_T78 l1 x20_1).f3), .int .i64 ((rd_T78 l1 x20_1).f4)] 78 (0, 0)) z25_ hb); replace HB := Aside0.mk (below_step z23_ hb); (try clear hb ho0)) | ((with_reducible refine gate_dst (N := 32) rfl ?_); refine Kd.S_lit k78 _ 78 ?hg (N := 32) ?hd (xs := ([] : List (S78))) (inner := []) (ok := fun _ => True) (okp := fun _ => True) ?hr ?hp (fun _ hk => hk) trivial (Below.refl _ _) (Nat.le_refl _) (by simp) ?_; (case hd => rfl); (case hg => rfl); (case hr => exact z10_); (case hp => exact z97_); intro v469 w27 ho28 hb hg_ hnew_; clear hg_ hnew_; (first | rw [← Ny468.out] at ho28 | (simp only [Int.reduceToNat] at ho28; rw [← Ny468.out] at ho28)); replace HO_7 := Aside0.mk (Kd.V_elder' z105_ (Kd.S_base ho28) hb); replace HO456 := Aside0.mk (Kd.R_below z133_ hb); have HO470 := Aside0.mk (Kd.S_lower (Kd.S_newB (Kd.S_new' (Kd.S_newM (M := fun k_ => (w.heap.size ≤ k_)) ho28 (below_size z23_) (fun k_ h_ => h_)) (Kd.S_lt z70_)) (g := gb453) (o := .cells #[.int .i64 ((rd_T78 l1 x20_1).f0), .slice A452_1 ((rd_T78 l1 x20_1).f1).length c452_1, .int .i64 ((rd_T78 l1 x20_1).f2), .int .i64 ((rd_T78 l1 x20_1).f3), .int .i64 ((rd_T78 l1 x20_1).f4)] 78 (0, 0)) z87_) (below_size z23_)); replace HO_6 := Aside0.mk (Kd.S_elder' z70_ (Kd.S_base ho28) hb); replace BK453 := Aside0.mk (blk_below (g := gb453) (o := .cells #[.int .i64 ((rd_T78 l1 x20_1).f0), .slice A452_1 ((rd_T78 l1 x20_1).f1).length c452_1, .int .i64 ((rd_T78 l1 x20_1).f2), .int .i64 ((rd_T78 l1 x20_1).f3), .int .i64 ((rd_T78 l1 x20_1).f4)] 78 (0, 0)) z87_ hb); replace HB := Aside0.mk (below_step z23_ hb); clear hb ho28))
      go_ret2
      exact ⟨_, z4_, by (with_reducible repeat (first | apply Kd.S_alloc | apply Kd.S_drewN | apply Kd.S_drew)); exact Kd.S_mono HO470.out (fun _ hk => hk.1.1.1), z23_⟩
    ·rw [if_neg c8] at H
     have c8b0 := decide_eq_false c8
     clear c8
     simp only [Option.some.injEq, Prod.mk.injEq] at H
     obtain ⟨rfl, rfl⟩ := H
     obtain ⟨Aq_, cq_, eq_⟩ := Kd.S_slice HO_6.out
     subst eq_
     go_wp2_with (first | ((with_reducible refine gate_callee (f := 68) rfl ?_); refine goesL_ (some 42) rfl rfl Try.func68 (by kernel_rfl) rfl #[.slice Aq_ x6_1.length cq_] rfl (by first | rfl | (go_simp; done)) ?_; (refine (slices_Reverse_Op.calls ?pP_ (.slice Aq_ x6_1.length cq_) x6_1 _ w _ ?sB ?sS rfl).mono ?_); (case sB => exact z31_); (case sS => exact z70_); rintro e wx ⟨rfl, hy0, hb, hkp⟩; refine ⟨_, rfl, ?_⟩; clear HO_6; clear HB; have HO_6 := Aside0.mk hy0; have HB := Aside0.mk hb; clear hy0 hb hkp))
     go_ret2
     exact ⟨_, z4_, z70_, z0_⟩
 ·replace c4 := Bool.eq_false_iff.mpr c4
  subst c4
  replace H := iff_ H
  simp only [Option.some.injEq, Prod.mk.injEq] at H
  obtain ⟨rfl, rfl⟩ := H
  go_enter Try.func28, Try.ntmps28
  go_wp2_with (first | ((with_reducible refine gate_dst (N := 12) rfl ?_); refine Kd.S_lit k78 _ 78 ?hg (N := 12) ?hd (xs := ([] : List (S78))) (inner := []) (ok := fun _ => True) (okp := fun _ => True) ?hr ?hp (fun _ hk => hk) trivial (Below.refl _ _) (Nat.le_refl _) (by simp) ?_; (case hd => rfl); (case hg => rfl); (case hr => exact z10_); (case hp => exact z97_); intro v449 w29 ho30 hb hg_ hnew_; clear hg_ hnew_; (first | rw [← Ny448.out] at ho30 | (simp only [Int.reduceToNat] at ho30; rw [← Ny448.out] at ho30)); replace HO0 := Aside0.mk (Kd.V_elder' z96_ (Kd.S_base ho30) hb); have HO450 := Aside0.mk (Kd.S_lower (Kd.S_newM (M := fun k_ => (w.heap.size ≤ k_)) ho30 (below_size z0_) (fun k_ h_ => h_)) (below_size z0_)); replace HB := Aside0.mk (below_step z0_ hb); clear hb ho30) | ((with_reducible refine gate_callee (f := 50) rfl ?_); refine goesL_ (some 15) rfl rfl Try.func50 (by kernel_rfl) rfl #[.slice A0 l0.length c0] rfl z1_ ?_; (with_reducible refine (impl_TreeOk.calls k _ _ l0 false _ ?side1 ?side2 A3.out).mono ?_); (case side1 => exact z125_); (case side2 => exact (Kd.V_reads' HO0.out).2.1); rintro e w31 ⟨rfl, hb⟩; refine ⟨_, rfl, ?_⟩; replace HO0 := Aside0.mk (Kd.V_below z96_ hb); replace HO450 := Aside0.mk (Kd.S_below z156_ hb); replace HB := Aside0.mk (below_step z0_ hb); (try clear hb)))
  go_ret2
  exact ⟨_, z4_, z143_, z0_⟩

/-! ### laws_FnExactInvert: function 5 -/
theorem ivR {α : Type} {d : Kd α} {e base b hi0 : Nat} {ok : Nat → Prop} {w' : World} {v : Value} {l : List α} (h : d.R e w' b ok v l) (hbs : base ≤ b) (hz : hi0 ≤ b) (hs : b ≤ w'.heap.size) : ∃ hi, hi0 ≤ hi ∧ hi ≤ w'.heap.size ∧ d.R e w' base (fun k => hi0 ≤ k ∧ k < hi) v l :=
 ⟨w'.heap.size, Nat.le_trans hz hs, Nat.le_refl _, Kd.R_mono (Kd.R_lower (Kd.R_bound h) hbs) (fun k hk => ⟨Nat.le_trans hz hk.2.1, hk.2.2.1⟩)⟩
theorem ivS {α : Type} {d : Kd α} {e base b hi0 : Nat} {ok : Nat → Prop} {w' : World} {v : Value} {l : List α} (h : Kd.S d e w' b ok v l) (hbs : base ≤ b) (hz : hi0 ≤ b) (hs : b ≤ w'.heap.size) : ∃ hi, hi0 ≤ hi ∧ hi ≤ w'.heap.size ∧ Kd.S d e w' base (fun k => hi0 ≤ k ∧ k < hi) v l :=
 ⟨w'.heap.size, Nat.le_trans hz hs, Nat.le_refl _, Kd.S_mono (Kd.S_lower (Kd.S_bound h) hbs) (fun k hk => ⟨Nat.le_trans hz hk.2.1, hk.2.2.1⟩)⟩
theorem ivN {α : Type} {d : Kd α} {e base b hi0 : Nat} {ok : Nat → Prop} {w' : World} {v : Value} {l : List α} (h : Kd.N d e w' b ok v l) (hbs : base ≤ b) (hz : hi0 ≤ b) (hs : b ≤ w'.heap.size) (hok : ∀ k, ok k → b ≤ k) : ∃ hi, hi0 ≤ hi ∧ hi ≤ w'.heap.size ∧ Kd.N d e w' base (fun k => hi0 ≤ k ∧ k < hi) v l :=
 ⟨w'.heap.size, Nat.le_trans hz hs, Nat.le_refl _, Kd.N_mono (Kd.N_lower (Kd.N_bound h) hbs) (fun k hk => ⟨Nat.le_trans hz (hok k hk.1), hk.2⟩)⟩
theorem iv_apart {a b c d k : Nat} (h1 : a ≤ k ∧ k < b) (h2 : c ≤ k ∧ k < d) (h : b ≤ c ∨ d ≤ a) : False := by omega
def laws_FnExactInvert.f (k : Nat) (l0 : List (S82)) (l1 : List (S73)) : Option Bool := (laws_szNodeS.f l0 1048576).bind fun t1 => if t1 < 0 then some true else (laws_szOpS.f k l1 t1).bind fun t3 => if t3 < 0 then some true else (laws_toNodeS.f k l0).bind fun t5 => (laws_toOpS.f k l1).bind fun t11 => (spec_Invert.f k t5 t11).bind fun bt17 => (laws_toNodeS.f k l0).bind fun t24 => (laws_toOpS.f k l1).bind fun t30 => (impl_Invert.f k t24 t30).bind fun bt36 => (laws_eqOpS.f k bt36.1 bt17.1).bind fun t43 => if t43 = true then if bt36.2 = bt17.2 then (laws_toNodeS.f k l0).bind fun t45 => (laws_eqNodeS.f k t24 t45).bind fun t51 => if t51 = true then (laws_toOpS.f k l1).bind fun t53 => (laws_eqOpS.f k t30 t53).bind fun t59 => if t59 = true then (laws_markNodeS.f k t24 1).bind fun bt61 => (laws_markOpS.f k t30 bt61.1).bind fun bt65 => if bt65.1 < 0 then none else (laws_eqOpS.f k bt36.1 bt17.1).bind fun t69 => if t69 = true then (laws_markOpS.f k bt36.1 1).bind fun bt71 => (laws_heldOpS.f k bt71.2 1).bind fun t75 => if t75 < 0 then none else if t75 = bt71.1 then (laws_toNodeS.f k l0).bind fun t77 => (laws_toOpS.f k l1).bind fun t83 => (impl_Invert.f k t77 t83).bind fun bt89 => (laws_eqOpS.f k bt89.1 bt17.1).bind fun t96 => if t96 = true then if bt89.2 = bt17.2 then (laws_heldOpS.f k bt71.2 1).bind fun t98 => if t98 < 0 then none else if t98 = bt71.1 then some true else none else none else none else none else none else none else none else none else none
set_option maxHeartbeats 8000000 in
set_option maxRecDepth 100000 in
theorem laws_FnExactInvert.calls (k : Nat) (A0 : Option Addr) (c0 : Nat) (l0 : List (S82)) (A1 : Option Addr) (c1 : Nat) (l1 : List (S73)) (r : Bool) (w : World) (hr0 : Kd.C k82 w A0 l0.length l0) (hc0 : l0.length ≤ c0) (hr1 : Kd.C k73 w A1 l1.length l1) (hc1 : l1.length ≤ c1) (h : laws_FnExactInvert.f k l0 l1 = some r) :
  Calls Try.prog 5 #[.slice A0 l0.length c0, .slice A1 l1.length c1] w fun e w' => e = .returned (.bool r) ∧ Below w.heap.size w w' := by
 have HR0 := Aside0.mk hr0
 have HC0 := Aside0.mk hc0
 clear hr0 hc0
 have HR1 := Aside0.mk hr1
 have HC1 := Aside0.mk hc1
 clear hr1 hc1
 have HB := Aside0.mk (Below.refl w.heap.size w)
 obtain ⟨z0, hz0_⟩ : ∃ z0, z0 = w.heap.size := ⟨_, rfl⟩
 have HZ := Aside0.mk (show z0 ≤ w.heap.size from Nat.le_of_eq hz0_)
 clear hz0_
 unfold laws_FnExactInvert.f at h
 have H := h
 clear h
 replace H := Option.bind_eq_some_iff.mp H
 obtain ⟨t1, F20_, H⟩ := H
 have F2 := Aside0.mk F20_
 clear F20_
 by_cases q2 : t1 < 0
 ·rw [if_pos q2] at H
  obtain rfl := Option.some.inj H
  have qb2 : decide (t1 < 0) = true := decide_eq_true q2
  clear q2
  go_enter Try.func5, Try.ntmps5
  go_wp2_with (first | ((with_reducible refine gate_callee (f := 9) rfl ?_); refine goesL_ (some 19) rfl rfl Try.func9 (by kernel_rfl) rfl #[.slice A0 l0.length c0, .int .i64 1048576] rfl z1_ ?_; (refine (laws_szNodeS.calls _ _ l0 1048576 t1 _ ?side1 ?side2 F2.out).mono ?_); (case side1 => exact z2_); (case side2 => exact HC0.out); rintro e w' ⟨rfl, ⟨nd, rfl⟩⟩; refine ⟨_, rfl, ?_⟩))
  go_ret
  exact ⟨z4_, z0_⟩
 rw [if_neg q2] at H
 have qb2 : decide (t1 < 0) = false := decide_eq_false q2
 clear q2
 replace H := Option.bind_eq_some_iff.mp H
 obtain ⟨t3, F40_, H⟩ := H
 have F4 := Aside0.mk F40_
 clear F40_
 by_cases q4 : t3 < 0
 ·rw [if_pos q4] at H
  obtain rfl := Option.some.inj H
  have qb4 : decide (t3 < 0) = true := decide_eq_true q4
  clear q4
  go_enter Try.func5, Try.ntmps5
  go_wp2_with (first | ((with_reducible refine gate_callee (f := 9) rfl ?_); refine goesL_ (some 19) rfl rfl Try.func9 (by kernel_rfl) rfl #[.slice A0 l0.length c0, .int .i64 1048576] rfl z1_ ?_; (refine (laws_szNodeS.calls _ _ l0 1048576 t1 _ ?side1 ?side2 F2.out).mono ?_); (case side1 => exact z2_); (case side2 => exact HC0.out); rintro e w' ⟨rfl, ⟨nd, rfl⟩⟩; refine ⟨_, rfl, ?_⟩) | ((with_reducible refine gate_callee (f := 10) rfl ?_); refine goesL_ (some 24) rfl rfl Try.func10 (by kernel_rfl) rfl #[.slice A1 l1.length c1, .int .i64 t1] rfl z1_ ?_; (refine (laws_szOpS.calls k _ _ l1 t1 t3 _ ?side1 ?side2 F4.out).mono ?_); (case side1 => exact z60_); (case side2 => exact HC1.out); rintro e wx ⟨rfl, hb⟩; refine ⟨_, rfl, ?_⟩; replace HZ := Aside0.mk (Nat.le_trans HZ.out hb.size); replace HB := Aside0.mk (below_step z0_ hb); clear hb))
  go_ret
  exact ⟨z4_, z0_⟩
 rw [if_neg q4] at H
 have qb4 : decide (t3 < 0) = false := decide_eq_false q4
 clear q4
 replace H := Option.bind_eq_some_iff.mp H
 obtain ⟨t5, F60_, H⟩ := H
 have F6 := Aside0.mk F60_
 clear F60_
 replace H := Option.bind_eq_some_iff.mp H
 obtain ⟨t11, F120_, H⟩ := H
 have F12 := Aside0.mk F120_
 clear F120_
 replace H := Option.bind_eq_some_iff.mp H
 obtain ⟨⟨t17, t18⟩, F190_, H⟩ := H
 have F19 := Aside0.mk F190_
 clear F190_
 dsimp only at H
 replace H := Option.bind_eq_some_iff.mp H
 obtain ⟨t24, F250_, H⟩ := H
 have F25 := Aside0.mk F250_
 clear F250_
 replace H := Option.bind_eq_some_iff.mp H
 obtain ⟨t30, F310_, H⟩ := H
 have F31 := Aside0.mk F310_
 clear F310_
 replace H := Option.bind_eq_some_iff.mp H
 obtain ⟨⟨t36, t37⟩, F380_, H⟩ := H
 have F38 := Aside0.mk F380_
 clear F380_
 dsimp only at H
 replace H := Option.bind_eq_some_iff.mp H
 obtain ⟨t43, F440_, H⟩ := H
 have F44 := Aside0.mk F440_
 clear F440_
 by_cases q12 : t43 = true
 rotate_left
 ·rw [if_neg q12] at H; cases H
 rw [if_pos q12] at H
 subst q12
 by_cases q13 : t37 = t18
 rotate_left
 ·rw [if_neg q13] at H; cases H
 rw [if_pos q13] at H
 have qb13 : (t37 != t18) = false := bne_eq_false_iff_eq.mpr q13
 have qc13 : (t37 == t18) = true := beq_iff_eq.mpr q13
 clear q13
 replace H := Option.bind_eq_some_iff.mp H
 obtain ⟨t45, F460_, H⟩ := H
 have F46 := Aside0.mk F460_
 clear F460_
 replace H := Option.bind_eq_some_iff.mp H
 obtain ⟨t51, F520_, H⟩ := H
 have F52 := Aside0.mk F520_
 clear F520_
 by_cases q16 : t51 = true
 rotate_left
 ·rw [if_neg q16] at H; cases H
 rw [if_pos q16] at H
 subst q16
 replace H := Option.bind_eq_some_iff.mp H
 obtain ⟨t53, F540_, H⟩ := H
 have F54 := Aside0.mk F540_
 clear F540_
 replace H := Option.bind_eq_some_iff.mp H
 obtain ⟨t59, F600_, H⟩ := H
 have F60 := Aside0.mk F600_
 clear F600_
 by_cases q19 : t59 = true
 rotate_left
 ·rw [if_neg q19] at H; cases H
 rw [if_pos q19] at H
 subst q19
 replace H := Option.bind_eq_some_iff.mp H
 obtain ⟨⟨t61, t62⟩, F630_, H⟩ := H
 have F63 := Aside0.mk F630_
 clear F630_
 dsimp only at H
 replace H := Option.bind_eq_some_iff.mp H
 obtain ⟨⟨t65, t66⟩, F670_, H⟩ := H
 have F67 := Aside0.mk F670_
 clear F670_
 dsimp only at H
 by_cases q22 : t65 < 0
 ·rw [if_pos q22] at H; cases H
 rw [if_neg q22] at H
 have qb22 : decide (t65 < 0) = false := decide_eq_false q22
 clear q22
 replace H := Option.bind_eq_some_iff.mp H
 obtain ⟨t69, F700_, H⟩ := H
 have F70 := Aside0.mk F700_
 clear F700_
 by_cases q24 : t69 = true
 rotate_left
 ·rw [if_neg q24] at H; cases H
 rw [if_pos q24] at H
 subst q24
 replace H := Option.bind_eq_some_iff.mp H
 obtain ⟨⟨t71, t72⟩, F730_, H⟩ := H
 have F73 := Aside0.mk F730_
 clear F730_
 dsimp only at H
 replace H := Option.bind_eq_some_iff.mp H
 obtain ⟨t75, F760_, H⟩ := H
 have F76 := Aside0.mk F760_
 clear F760_
 by_cases q27 : t75 < 0
 ·rw [if_pos q27] at H; cases H
 rw [if_neg q27] at H
 have qb27 : decide (t75 < 0) = false := decide_eq_false q27
 clear q27
 by_cases q28 : t75 = t71
 rotate_left
 ·rw [if_neg q28] at H; cases H
 rw [if_pos q28] at H
 have qb28 : (t75 != t71) = false := bne_eq_false_iff_eq.mpr q28
 have qc28 : (t75 == t71) = true := beq_iff_eq.mpr q28
 clear q28
 replace H := Option.bind_eq_some_iff.mp H
 obtain ⟨t77, F780_, H⟩ := H
 have F78 := Aside0.mk F780_
 clear F780_
 replace H := Option.bind_eq_some_iff.mp H
 obtain ⟨t83, F840_, H⟩ := H
 have F84 := Aside0.mk F840_
 clear F840_
 replace H := Option.bind_eq_some_iff.mp H
 obtain ⟨⟨t89, t90⟩, F910_, H⟩ := H
 have F91 := Aside0.mk F910_
 clear F910_
 dsimp only at H
 replace H := Option.bind_eq_some_iff.mp H
 obtain ⟨t96, F970_, H⟩ := H
 have F97 := Aside0.mk F970_
 clear F970_
 by_cases q33 : t96 = true
 rotate_left
 ·rw [if_neg q33] at H; cases H
 rw [if_pos q33] at H
 subst q33
 by_cases q34 : t90 = t18
 rotate_left
 ·rw [if_neg q34] at H; cases H
 rw [if_pos q34] at H
 have qb34 : (t90 != t18) = false := bne_eq_false_iff_eq.mpr q34
 have qc34 : (t90 == t18) = true := beq_iff_eq.mpr q34
 clear q34
 replace H := Option.bind_eq_some_iff.mp H
 obtain ⟨t98, F990_, H⟩ := H
 have F99 := Aside0.mk F990_
 clear F990_
 by_cases q36 : t98 < 0
 ·rw [if_pos q36] at H; cases H
 rw [if_neg q36] at H
 have qb36 : decide (t98 < 0) = false := decide_eq_false q36
 clear q36
 by_cases q37 : t98 = t71
 rotate_left
 ·rw [if_neg q37] at H; cases H
 rw [if_pos q37] at H
 have qb37 : (t98 != t71) = false := bne_eq_false_iff_eq.mpr q37
 have qc37 : (t98 == t71) = true := beq_iff_eq.mpr q37
 clear q37
 obtain rfl := Option.some.inj H
 go_enter Try.func5, Try.ntmps5
 go_wp2_with (first | ((with_reducible refine gate_callee (f := 9) rfl ?_); refine goesL_ (some 19) rfl rfl Try.func9 (by kernel_rfl) rfl #[.slice A0 l0.length c0, .int .i64 1048576] rfl z1_ ?_; (refine (laws_szNodeS.calls _ _ l0 1048576 t1 _ ?side1 ?side2 F2.out).mono ?_); (case side1 => exact z2_); (case side2 => exact HC0.out); rintro e w' ⟨rfl, ⟨nd, rfl⟩⟩; refine ⟨_, rfl, ?_⟩) | ((with_reducible refine gate_callee (f := 10) rfl ?_); refine goesL_ (some 24) rfl rfl Try.func10 (by kernel_rfl) rfl #[.slice A1 l1.length c1, .int .i64 t1] rfl z1_ ?_; (refine (laws_szOpS.calls k _ _ l1 t1 t3 _ ?side1 ?side2 F4.out).mono ?_); (case side1 => exact z60_); (case side2 => exact HC1.out); rintro e wx ⟨rfl, hb⟩; refine ⟨_, rfl, ?_⟩; replace HZ := Aside0.mk (Nat.le_trans HZ.out hb.size); replace HB := Aside0.mk (below_step z0_ hb); clear hb) | ((with_reducible refine gate_callee (f := 12) rfl ?_); refine goesL_ (some 29) rfl rfl Try.func12 (by kernel_rfl) rfl #[.slice A0 l0.length c0] rfl z1_ ?_; (refine (laws_toNodeS.calls k _ _ l0 t5 _ ?side1 ?side2 F6.out).mono ?_); (case side1 => exact z2_); (case side2 => exact HC0.out); rintro e wx ⟨v7, rfl, ho0, hb⟩; refine ⟨_, rfl, ?_⟩; obtain ⟨z1, za1_, zb1_, hn0_⟩ := ivR ho0 (below_size z0_) HZ.out hb.size; have HZ1 := Aside0.mk za1_; replace HZ := Aside0.mk (zb1_); replace HB := Aside0.mk (below_step z0_ hb); have HO8 := Aside0.mk hn0_; obtain ⟨Ao9, co10, eo_⟩ := Kd.R_slice HO8.out; subst eo_; clear hn0_ ho0; clear hb; clear za1_ zb1_) | ((with_reducible refine gate_callee (f := 13) rfl ?_); refine goesL_ (some 31) rfl rfl Try.func13 (by kernel_rfl) rfl #[.slice A1 l1.length c1] rfl z1_ ?_; (refine (laws_toOpS.calls k _ _ l1 t11 _ ?side1 ?side2 F12.out).mono ?_); (case side1 => exact z60_); (case side2 => exact HC1.out); rintro e wx ⟨v13, rfl, ho0, hb⟩; refine ⟨_, rfl, ?_⟩; obtain ⟨z2, za2_, zb2_, hn0_⟩ := ivS ho0 (below_size z0_) HZ.out hb.size; have HZ2 := Aside0.mk za2_; replace HO8 := Aside0.mk (Kd.R_below z161_ hb); replace HZ := Aside0.mk (zb2_); replace HB := Aside0.mk (below_step z0_ hb); have HO14 := Aside0.mk hn0_; obtain ⟨Ao15, co16, eo_⟩ := Kd.S_slice HO14.out; subst eo_; clear hn0_ ho0; clear hb; clear za2_ zb2_) | ((with_reducible refine gate_callee (f := 27) rfl ?_); refine goesL_ (some 32) rfl rfl Try.func27 (by kernel_rfl) rfl #[.slice Ao9 t5.length co10, .slice Ao15 t11.length co16] rfl z1_ ?_; (refine (spec_Invert.calls k _ _ t5 _ _ t11 t17 t18 _ ?side1 ?side2 ?side3 ?side4 F19.out).mono ?_); (case side1 => repeat (first | exact (Kd.R_reads' HO8.out).2.2 | (with_reducible refine Kd.C_alloc ?_ _) | (with_reducible refine Kd.C_drewN ?_ _) | (with_reducible refine Kd.C_drew ?_))); (case side2 => exact (Kd.R_reads' HO8.out).2.1); (case side3 => repeat (first | exact (Kd.R_reads' (Kd.S_R HO14.out)).2.2 | (with_reducible refine Kd.C_alloc ?_ _) | (with_reducible refine Kd.C_drewN ?_ _) | (with_reducible refine Kd.C_drew ?_))); (case side4 => exact (Kd.R_reads' (Kd.S_R HO14.out)).2.1); rintro e wx ⟨v20, rfl, ho0, hb⟩; refine ⟨_, rfl, ?_⟩; obtain ⟨z3, za3_, zb3_, hn0_⟩ := ivN ho0 (below_size z0_) HZ.out hb.size (fun _ h_ => h_); have HZ3 := Aside0.mk za3_; replace HO8 := Aside0.mk (Kd.R_below z161_ hb); replace HO14 := Aside0.mk (Kd.S_below (by (with_reducible repeat (first | apply Kd.S_alloc | apply Kd.S_drewN | apply Kd.S_drew)); exact HO14.out) hb); replace HZ := Aside0.mk (zb3_); replace HB := Aside0.mk (below_step z0_ hb); have HO21 := Aside0.mk hn0_; obtain ⟨Ao22, co23, eo_⟩ := Kd.V_slice (Kd.N_V (base' := 0) HO21.out); subst eo_; clear hn0_ ho0; clear hb; clear za3_ zb3_; clear HO8; clear HO14) | ((with_reducible refine gate_callee (f := 12) rfl ?_); refine goesL_ (some 36) rfl rfl Try.func12 (by kernel_rfl) rfl #[.slice A0 l0.length c0] rfl z1_ ?_; (refine (laws_toNodeS.calls k _ _ l0 t24 _ ?side1 ?side2 F25.out).mono ?_); (case side1 => exact z2_); (case side2 => exact HC0.out); rintro e wx ⟨v26, rfl, ho0, hb⟩; refine ⟨_, rfl, ?_⟩; obtain ⟨z4, za4_, zb4_, hn0_⟩ := ivR ho0 (below_size z0_) HZ.out hb.size; have HZ4 := Aside0.mk za4_; replace HO21 := Aside0.mk (Kd.N_below z44_ hb); replace HZ := Aside0.mk (zb4_); replace HB := Aside0.mk (below_step z0_ hb); have HO27 := Aside0.mk hn0_; obtain ⟨Ao28, co29, eo_⟩ := Kd.R_slice HO27.out; subst eo_; clear hn0_ ho0; clear hb; clear za4_ zb4_) | ((with_reducible refine gate_callee (f := 13) rfl ?_); refine goesL_ (some 38) rfl rfl Try.func13 (by kernel_rfl) rfl #[.slice A1 l1.length c1] rfl z1_ ?_; (refine (laws_toOpS.calls k _ _ l1 t30 _ ?side1 ?side2 F31.out).mono ?_); (case side1 => exact z60_); (case side2 => exact HC1.out); rintro e wx ⟨v32, rfl, ho0, hb⟩; refine ⟨_, rfl, ?_⟩; obtain ⟨z5, za5_, zb5_, hn0_⟩ := ivS ho0 (below_size z0_) HZ.out hb.size; have HZ5 := Aside0.mk za5_; replace HO21 := Aside0.mk (Kd.N_below z44_ hb); replace HO27 := Aside0.mk (Kd.R_below z76_ hb); replace HZ := Aside0.mk (zb5_); replace HB := Aside0.mk (below_step z0_ hb); have HO33 := Aside0.mk hn0_; obtain ⟨Ao34, co35, eo_⟩ := Kd.S_slice HO33.out; subst eo_; clear hn0_ ho0; clear hb; clear za5_ zb5_) | ((with_reducible refine gate_callee (f := 28) rfl ?_); refine goesL_ (some 42) rfl rfl Try.func28 (by kernel_rfl) rfl #[.slice Ao28 t24.length co29, .slice Ao34 t30.length co35] rfl z1_ ?_; (refine (impl_Invert.calls k (fun _ => True) _ _ t24 _ _ t30 t36 t37 _ ?side1 ?side2 ?side3 F38.out).mono ?_); (case side1 => (with_reducible repeat (first | apply Kd.V_alloc | apply Kd.V_drewN | apply Kd.V_drew)); exact Kd.R_V (Kd.R_mono HO27.out (fun _ _ => trivial))); (case side2 => exact z112_); (case side3 => exact (Kd.R_reads' (Kd.S_R HO33.out)).2.1); rintro e wx ⟨v39, rfl, ho0, hb⟩; refine ⟨_, rfl, ?_⟩; obtain ⟨z6, za6_, zb6_, hn0_⟩ := ivS ho0 (below_size z0_) HZ.out hb.size; have HZ6 := Aside0.mk za6_; replace HO21 := Aside0.mk (Kd.N_below z44_ hb); replace HO27 := Aside0.mk (Kd.R_below z76_ hb); replace HO33 := Aside0.mk (Kd.S_below z77_ hb); replace HZ := Aside0.mk (zb6_); replace HB := Aside0.mk (below_step z0_ hb); have HO40 := Aside0.mk hn0_; obtain ⟨Ao41, co42, eo_⟩ := Kd.S_slice HO40.out; subst eo_; clear hn0_ ho0; clear hb; clear za6_ zb6_) | ((with_reducible refine gate_callee (f := 15) rfl ?_); refine goesL_ (some 47) rfl rfl Try.func15 (by kernel_rfl) rfl #[.slice Ao41 t36.length co42, .slice Ao22 t17.length co23] rfl z1_ ?_; (refine (laws_eqOpS.calls k _ _ t36 _ _ t17 true _ ?side1 ?side2 ?side3 ?side4 F44.out).mono ?_); (case side1 => exact z113_); (case side2 => exact (Kd.R_reads' (Kd.S_R HO40.out)).2.1); (case side3 => exact z88_); (case side4 => exact z165_); rintro e wx ⟨rfl, hb⟩; refine ⟨_, rfl, ?_⟩; replace HO21 := Aside0.mk (Kd.N_below z44_ hb); replace HO27 := Aside0.mk (Kd.R_below z76_ hb); replace HO33 := Aside0.mk (Kd.S_below z77_ hb); replace HO40 := Aside0.mk (Kd.S_below z71_ hb); replace HZ := Aside0.mk (Nat.le_trans HZ.out hb.size); replace HB := Aside0.mk (below_step z0_ hb); clear hb) | ((with_reducible refine gate_callee (f := 12) rfl ?_); refine goesL_ (some 56) rfl rfl Try.func12 (by kernel_rfl) rfl #[.slice A0 l0.length c0] rfl z1_ ?_; (refine (laws_toNodeS.calls k _ _ l0 t45 _ ?side1 ?side2 F46.out).mono ?_); (case side1 => exact z2_); (case side2 => exact HC0.out); rintro e wx ⟨v47, rfl, ho0, hb⟩; refine ⟨_, rfl, ?_⟩; obtain ⟨z7, za7_, zb7_, hn0_⟩ := ivR ho0 (below_size z0_) HZ.out hb.size; have HZ7 := Aside0.mk za7_; replace HO21 := Aside0.mk (Kd.N_below z44_ hb); replace HO27 := Aside0.mk (Kd.R_below z76_ hb); replace HO33 := Aside0.mk (Kd.S_below z77_ hb); replace HO40 := Aside0.mk (Kd.S_below z71_ hb); replace HZ := Aside0.mk (zb7_); replace HB := Aside0.mk (below_step z0_ hb); have HO48 := Aside0.mk hn0_; obtain ⟨Ao49, co50, eo_⟩ := Kd.R_slice HO48.out; subst eo_; clear hn0_ ho0; clear hb; clear za7_ zb7_) | ((with_reducible refine gate_callee (f := 16) rfl ?_); refine goesL_ (some 57) rfl rfl Try.func16 (by kernel_rfl) rfl #[.slice Ao28 t24.length co29, .slice Ao49 t45.length co50] rfl z1_ ?_; (refine (laws_eqNodeS.calls k _ _ t24 _ _ t45 true _ ?side1 ?side2 ?side3 ?side4 F52.out).mono ?_); (case side1 => repeat (first | exact (Kd.R_reads' HO27.out).2.2 | (with_reducible refine Kd.C_alloc ?_ _) | (with_reducible refine Kd.C_drewN ?_ _) | (with_reducible refine Kd.C_drew ?_))); (case side2 => exact (Kd.R_reads' HO27.out).2.1); (case side3 => repeat (first | exact (Kd.R_reads' HO48.out).2.2 | (with_reducible refine Kd.C_alloc ?_ _) | (with_reducible refine Kd.C_drewN ?_ _) | (with_reducible refine Kd.C_drew ?_))); (case side4 => exact (Kd.R_reads' HO48.out).2.1); rintro e wx ⟨rfl, hb⟩; refine ⟨_, rfl, ?_⟩; replace HO21 := Aside0.mk (Kd.N_below z44_ hb); replace HO27 := Aside0.mk (Kd.R_below z76_ hb); replace HO33 := Aside0.mk (Kd.S_below z77_ hb); replace HO40 := Aside0.mk (Kd.S_below z71_ hb); replace HO48 := Aside0.mk (Kd.R_below (by (with_reducible repeat (first | apply Kd.R_alloc | apply Kd.R_drewN | apply Kd.R_drew)); exact HO48.out) hb); replace HZ := Aside0.mk (Nat.le_trans HZ.out hb.size); replace HB := Aside0.mk (below_step z0_ hb); clear hb; clear HO48) | ((with_reducible refine gate_callee (f := 13) rfl ?_); refine goesL_ (some 61) rfl rfl Try.func13 (by kernel_rfl) rfl #[.slice A1 l1.length c1] rfl z1_ ?_; (refine (laws_toOpS.calls k _ _ l1 t53 _ ?side1 ?side2 F54.out).mono ?_); (case side1 => exact z60_); (case side2 => exact HC1.out); rintro e wx ⟨v55, rfl, ho0, hb⟩; refine ⟨_, rfl, ?_⟩; obtain ⟨z8, za8_, zb8_, hn0_⟩ := ivS ho0 (below_size z0_) HZ.out hb.size; have HZ8 := Aside0.mk za8_; replace HO21 := Aside0.mk (Kd.N_below z44_ hb); replace HO27 := Aside0.mk (Kd.R_below z76_ hb); replace HO33 := Aside0.mk (Kd.S_below z77_ hb); replace HO40 := Aside0.mk (Kd.S_below z71_ hb); replace HZ := Aside0.mk (zb8_); replace HB := Aside0.mk (below_step z0_ hb); have HO56 := Aside0.mk hn0_; obtain ⟨Ao57, co58, eo_⟩ := Kd.S_slice HO56.out; subst eo_; clear hn0_ ho0; clear hb; clear za8_ zb8_) | ((with_reducible refine gate_callee (f := 15) rfl ?_); refine goesL_ (some 62) rfl rfl Try.func15 (by kernel_rfl) rfl #[.slice Ao34 t30.length co35, .slice Ao57 t53.length co58] rfl z1_ ?_; (refine (laws_eqOpS.calls k _ _ t30 _ _ t53 true _ ?side1 ?side2 ?side3 ?side4 F60.out).mono ?_); (case side1 => exact z112_); (case side2 => exact (Kd.R_reads' (Kd.S_R HO33.out)).2.1); (case side3 => repeat (first | exact (Kd.R_reads' (Kd.S_R HO56.out)).2.2 | (with_reducible refine Kd.C_alloc ?_ _) | (with_reducible refine Kd.C_drewN ?_ _) | (with_reducible refine Kd.C_drew ?_))); (case side4 => exact (Kd.R_reads' (Kd.S_R HO56.out)).2.1); rintro e wx ⟨rfl, hb⟩; refine ⟨_, rfl, ?_⟩; replace HO21 := Aside0.mk (Kd.N_below z44_ hb); replace HO27 := Aside0.mk (Kd.R_below z76_ hb); replace HO33 := Aside0.mk (Kd.S_below z77_ hb); replace HO40 := Aside0.mk (Kd.S_below z71_ hb); replace HO56 := Aside0.mk (Kd.S_below (by (with_reducible repeat (first | apply Kd.S_alloc | apply Kd.S_drewN | apply Kd.S_drew)); exact HO56.out) hb); replace HZ := Aside0.mk (Nat.le_trans HZ.out hb.size); replace HB := Aside0.mk (below_step z0_ hb); clear hb; clear HO56) | ((with_reducible refine gate_callee (f := 17) rfl ?_); refine goesL_ (some 66) rfl rfl Try.func17 (by kernel_rfl) rfl #[.slice Ao28 t24.length co29, .int .i64 1] rfl z1_ ?_; (refine (laws_markNodeS.calls k (fun k_ => z3 ≤ k_ ∧ k_ < z4) (.slice Ao28 t24.length co29) t24 1 t61 t62 w _ ?side1 ?side2 F63.out).mono ?_); (case side1 => exact z31_); (case side2 => (with_reducible repeat (first | apply Kd.R_drewN | apply Kd.R_drew)); exact HO27.out); rintro e wx ⟨rfl, hy0, hb, hkp⟩; refine ⟨_, rfl, ?_⟩; replace HO21 := Aside0.mk (Kd.N_kept z44_ hkp (fun k_ h1_ h2_ => iv_apart h1_ h2_ z59_)); replace HO33 := Aside0.mk (Kd.S_kept z77_ hkp (fun k_ h1_ h2_ => iv_apart h1_ h2_ z59_)); replace HO40 := Aside0.mk (Kd.S_kept z71_ hkp (fun k_ h1_ h2_ => iv_apart h1_ h2_ z59_)); replace HZ := Aside0.mk (Nat.le_trans HZ.out hkp.1); have HO64 := Aside0.mk hy0; clear HO27; clear HB; have HB := Aside0.mk hb; clear hy0 hb hkp; clear HO64) | ((with_reducible refine gate_callee (f := 18) rfl ?_); refine goesL_ (some 69) rfl rfl Try.func18 (by kernel_rfl) rfl #[.slice Ao34 t30.length co35, .int .i64 t61] rfl z1_ ?_; (refine (laws_markOpS.calls k (fun k_ => z4 ≤ k_ ∧ k_ < z5) (.slice Ao34 t30.length co35) t30 t61 t65 t66 w _ ?side1 ?side2 F67.out).mono ?_); (case side1 => exact z31_); (case side2 => (with_reducible repeat (first | apply Kd.S_drewN | apply Kd.S_drew)); exact HO33.out); rintro e wx ⟨rfl, hy0, hb, hkp⟩; refine ⟨_, rfl, ?_⟩; replace HO21 := Aside0.mk (Kd.N_kept z44_ hkp (fun k_ h1_ h2_ => iv_apart h1_ h2_ z59_)); replace HO40 := Aside0.mk (Kd.S_kept z71_ hkp (fun k_ h1_ h2_ => iv_apart h1_ h2_ z59_)); replace HZ := Aside0.mk (Nat.le_trans HZ.out hkp.1); have HO68 := Aside0.mk hy0; clear HO33; clear HB; have HB := Aside0.mk hb; clear hy0 hb hkp; clear HO68) | (go_at_call 15; (refine (laws_eqOpS.calls k _ _ t36 _ _ t17 true _ ?side1 ?side2 ?side3 ?side4 F70.out).mono ?_); (case side1 => exact z113_); (case side2 => exact (Kd.R_reads' (Kd.S_R HO40.out)).2.1); (case side3 => exact z88_); (case side4 => exact z165_); rintro e wx ⟨rfl, hb⟩; replace HO21 := Aside0.mk (Kd.N_below z44_ hb); replace HO40 := Aside0.mk (Kd.S_below z71_ hb); replace HZ := Aside0.mk (Nat.le_trans HZ.out hb.size); replace HB := Aside0.mk (below_step z0_ hb); clear hb) | ((with_reducible refine gate_callee (f := 18) rfl ?_); refine goesL_ (some 85) rfl rfl Try.func18 (by kernel_rfl) rfl #[.slice Ao41 t36.length co42, .int .i64 1] rfl z1_ ?_; (refine (laws_markOpS.calls k (fun k_ => z5 ≤ k_ ∧ k_ < z6) (.slice Ao41 t36.length co42) t36 1 t71 t72 w _ ?side1 ?side2 F73.out).mono ?_); (case side1 => exact z31_); (case side2 => (with_reducible repeat (first | apply Kd.S_drewN | apply Kd.S_drew)); exact HO40.out); rintro e wx ⟨rfl, hy0, hb, hkp⟩; refine ⟨_, rfl, ?_⟩; replace HO21 := Aside0.mk (Kd.N_kept z44_ hkp (fun k_ h1_ h2_ => iv_apart h1_ h2_ z59_)); replace HZ := Aside0.mk (Nat.le_trans HZ.out hkp.1); have HO74 := Aside0.mk hy0; clear HO40; clear HB; have HB := Aside0.mk hb; clear hy0 hb hkp) | ((with_reducible refine gate_callee (f := 19) rfl ?_); refine goesL_ (some 88) rfl rfl Try.func19 (by kernel_rfl) rfl #[.slice Ao41 t72.length co42, .int .i64 1] rfl z102_ ?_; (refine (laws_heldOpS.calls k _ _ t72 1 t75 _ ?side1 ?side2 F76.out).mono ?_); (case side1 => exact z114_); (case side2 => exact z146_); rintro e w' ⟨rfl, ⟨nd, rfl⟩⟩; refine ⟨_, rfl, ?_⟩) | ((with_reducible refine gate_callee (f := 12) rfl ?_); refine goesL_ (some 96) rfl rfl Try.func12 (by kernel_rfl) rfl #[.slice A0 l0.length c0] rfl z1_ ?_; (refine (laws_toNodeS.calls k _ _ l0 t77 _ ?side1 ?side2 F78.out).mono ?_); (case side1 => exact z2_); (case side2 => exact HC0.out); rintro e wx ⟨v79, rfl, ho0, hb⟩; refine ⟨_, rfl, ?_⟩; obtain ⟨z9, za9_, zb9_, hn0_⟩ := ivR ho0 (below_size z0_) HZ.out hb.size; have HZ9 := Aside0.mk za9_; replace HO21 := Aside0.mk (Kd.N_below z44_ hb); replace HO74 := Aside0.mk (Kd.S_below z106_ hb); replace HZ := Aside0.mk (zb9_); replace HB := Aside0.mk (below_step z0_ hb); have HO80 := Aside0.mk hn0_; obtain ⟨Ao81, co82, eo_⟩ := Kd.R_slice HO80.out; subst eo_; clear hn0_ ho0; clear hb; clear za9_ zb9_) | ((with_reducible refine gate_callee (f := 13) rfl ?_); refine goesL_ (some 98) rfl rfl Try.func13 (by kernel_rfl) rfl #[.slice A1 l1.length c1] rfl z1_ ?_; (refine (laws_toOpS.calls k _ _ l1 t83 _ ?side1 ?side2 F84.out).mono ?_); (case side1 => exact z60_); (case side2 => exact HC1.out); rintro e wx ⟨v85, rfl, ho0, hb⟩; refine ⟨_, rfl, ?_⟩; obtain ⟨z10, za10_, zb10_, hn0_⟩ := ivS ho0 (below_size z0_) HZ.out hb.size; have HZ10 := Aside0.mk za10_; replace HO21 := Aside0.mk (Kd.N_below z44_ hb); replace HO74 := Aside0.mk (Kd.S_below z106_ hb); replace HO80 := Aside0.mk (Kd.R_below z158_ hb); replace HZ := Aside0.mk (zb10_); replace HB := Aside0.mk (below_step z0_ hb); have HO86 := Aside0.mk hn0_; obtain ⟨Ao87, co88, eo_⟩ := Kd.S_slice HO86.out; subst eo_; clear hn0_ ho0; clear hb; clear za10_ zb10_) | ((with_reducible refine gate_callee (f := 28) rfl ?_); refine goesL_ (some 99) rfl rfl Try.func28 (by kernel_rfl) rfl #[.slice Ao81 t77.length co82, .slice Ao87 t83.length co88] rfl z1_ ?_; (refine (impl_Invert.calls k (fun _ => True) _ _ t77 _ _ t83 t89 t90 _ ?side1 ?side2 ?side3 F91.out).mono ?_); (case side1 => (with_reducible repeat (first | apply Kd.V_alloc | apply Kd.V_drewN | apply Kd.V_drew)); exact Kd.R_V (Kd.R_mono HO80.out (fun _ _ => trivial))); (case side2 => repeat (first | exact (Kd.R_reads' (Kd.S_R HO86.out)).2.2 | (with_reducible refine Kd.C_alloc ?_ _) | (with_reducible refine Kd.C_drewN ?_ _) | (with_reducible refine Kd.C_drew ?_))); (case side3 => exact (Kd.R_reads' (Kd.S_R HO86.out)).2.1); rintro e wx ⟨v92, rfl, ho0, hb⟩; refine ⟨_, rfl, ?_⟩; obtain ⟨z11, za11_, zb11_, hn0_⟩ := ivS ho0 (below_size z0_) HZ.out hb.size; have HZ11 := Aside0.mk za11_; replace HO21 := Aside0.mk (Kd.N_below z44_ hb); replace HO74 := Aside0.mk (Kd.S_below z106_ hb); replace HO80 := Aside0.mk (Kd.R_below z158_ hb); replace HO86 := Aside0.mk (Kd.S_below (by (with_reducible repeat (first | apply Kd.S_alloc | apply Kd.S_drewN | apply Kd.S_drew)); exact HO86.out) hb); replace HZ := Aside0.mk (zb11_); replace HB := Aside0.mk (below_step z0_ hb); have HO93 := Aside0.mk hn0_; obtain ⟨Ao94, co95, eo_⟩ := Kd.S_slice HO93.out; subst eo_; clear hn0_ ho0; clear hb; clear za11_ zb11_; clear HO80; clear HO86) | ((with_reducible refine gate_callee (f := 15) rfl ?_); refine goesL_ (some 104) rfl rfl Try.func15 (by kernel_rfl) rfl #[.slice Ao94 t89.length co95, .slice Ao22 t17.length co23] rfl z1_ ?_; (refine (laws_eqOpS.calls k _ _ t89 _ _ t17 true _ ?side1 ?side2 ?side3 ?side4 F97.out).mono ?_); (case side1 => repeat (first | exact (Kd.R_reads' (Kd.S_R HO93.out)).2.2 | (with_reducible refine Kd.C_alloc ?_ _) | (with_reducible refine Kd.C_drewN ?_ _) | (with_reducible refine Kd.C_drew ?_))); (case side2 => exact (Kd.R_reads' (Kd.S_R HO93.out)).2.1); (case side3 => exact z88_); (case side4 => exact z165_); rintro e wx ⟨rfl, hb⟩; refine ⟨_, rfl, ?_⟩; replace HO21 := Aside0.mk (Kd.N_below z44_ hb); replace HO74 := Aside0.mk (Kd.S_below z106_ hb); replace HO93 := Aside0.mk (Kd.S_below (by (with_reducible repeat (first | apply Kd.S_alloc | apply Kd.S_drewN | apply Kd.S_drew)); exact HO93.out) hb); replace HZ := Aside0.mk (Nat.le_trans HZ.out hb.size); replace HB := Aside0.mk (below_step z0_ hb); clear hb; clear HO93) | ((with_reducible refine gate_callee (f := 19) rfl ?_); refine goesL_ (some 113) rfl rfl Try.func19 (by kernel_rfl) rfl #[.slice Ao41 t72.length co42, .int .i64 1] rfl z102_ ?_; (refine (laws_heldOpS.calls k _ _ t72 1 t98 _ ?side1 ?side2 F99.out).mono ?_); (case side1 => exact z114_); (case side2 => exact z146_); rintro e w' ⟨rfl, ⟨nd, rfl⟩⟩; refine ⟨_, rfl, ?_⟩))
 go_ret
 exact ⟨z4_, z0_⟩

end Go.Proofs.Ytdapeboajjidmaa.PFnExactInvert
