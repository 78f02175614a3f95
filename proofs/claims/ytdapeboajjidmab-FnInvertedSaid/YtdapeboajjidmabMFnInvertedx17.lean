/- Laid by a program of this session out of the kit's print for the law FnInverted: what it says of the machine is proved here, function by function; each contract under the conditions that it names. -/
import Derived.Test.YtdapeboajjidmabMFnInvertedx0
import Derived.Test.YtdapeboajjidmabMFnInvertedx3
import Derived.Test.YtdapeboajjidmabMFnInvertedx5
import Derived.Test.YtdapeboajjidmabMFnInvertedx8
import Derived.Test.YtdapeboajjidmabMFnInvertedx11
import Derived.Test.YtdapeboajjidmabMFnInvertedx15
import Derived.Test.YtdapeboajjidmabMFnInvertedx16
import Derived.Deep.RegionLaw
import Derived.Lib.Overlaps
import Derived.Laws.Externs
import Derived.Lib.AppendZeros
import Derived.Lib.AppendZerosOnto
import Derived.Laws.NewBlocks
import Derived.Lib.SliceRun
import Derived.Test.YtdapeboajjidmabSliceOps
import Derived.Test.YtdapeboajjidmabRevOp
namespace Go.Proofs.Ytdapeboajjidmab.PFnInverted
open Go.RowKit Go.Proofs.YtdapeboajjidmabW.PrintWords Go.Proofs.YtdapeboajjidmabW.PrintLast Go.Proofs.YtdapeboajjidmabW.PrintMore Go.Proofs.Ytdapeboajjidmab.SliceOps
attribute [local go_sem] max2_int min2_int max_two min_two max_three min_three max_four min_four   -- for this text's walks alone
set_option linter.unusedVariables false
set_option linter.unusedSimpArgs false

/-! ### slices_Reverse_Op: function 99 -/
theorem S_rev_ {α : Type} {d : Kd α} {e base g cap : Nat} {ok : Nat → Prop} {w w' : World} {xs : List α} {cur cur' : Array Value} (h : Kd.S d e w base ok (.slice (some ⟨g, 0, none⟩) xs.length cap) xs) (hb : w.heap[g]? = some (.cells cur e (0, 0))) (hb' : w'.heap[g]? = some (.cells cur' e (0, 0)))
  (hsz : cur'.size = cur.size) (hO : ∀ k, k ≠ g → w'.heap[k]? = w.heap[k]?) (hs0 : 0 < d.sz) (hc : ∀ j c, j < xs.length → c < d.sz → cur'[j * d.sz + c]? = cur[(xs.length - 1 - j) * d.sz + c]?) : Kd.S d e w' base ok (.slice (some ⟨g, 0, none⟩) xs.length cap) xs.reverse := by
 obtain ⟨f, h0, inner, ho, hr⟩ := h
 have hgo : (Value.slice (some ⟨g, 0, none⟩) xs.length cap).ownBlock = some g := by simp [Value.ownBlock]
 have hzl : xs.zipIdx.length = xs.length := List.length_zipIdx
 obtain ⟨hil, ho2⟩ := ho
 rcases ho2 with ⟨he, _⟩ | ⟨g2, cap2, cur2, he, hbg, hb2, hnc, hcm, hcs, htake⟩
 ·cases he
 injection he with ha _ hcap
 injection ha with ha
 injection ha with hg2
 subst hg2
 subst hcap
 rw [hb] at hb2
 injection hb2 with hb2
 injection hb2 with hcur
 subst hcur
 rw [hzl] at hil htake hnc
 rw [show (Kd.tag f d).sz = d.sz from rfl] at hil htake hcs
 have e1 : cur.toList.length = cur.size := Array.length_toList
 have e2 : cur'.toList.length = cur'.size := Array.length_toList
 have hle : xs.length * d.sz ≤ cur.toList.length := by rw [e1, hcs]; exact Nat.mul_le_mul_right _ hnc
 have hlen : (cur'.toList.take (xs.length * d.sz)).length = xs.length * d.sz := by rw [List.length_take, e2, hsz, ← e1]; exact Nat.min_eq_left hle
 refine ⟨fun k => xs.length - 1 - f k, h0, cur'.toList.take (xs.length * d.sz), ⟨?_, .inr ⟨g, cap, cur', ?_, hbg, hb', ?_, hcm, hsz.trans hcs, ?_⟩⟩, ?_, ?_⟩
 ·rw [List.length_zipIdx, List.length_reverse]; exact hlen
 ·rw [List.length_zipIdx, List.length_reverse]
 ·rw [List.length_zipIdx, List.length_reverse]; exact hnc
 ·rw [List.length_zipIdx, List.length_reverse]; rfl
 ·rw [List.length_zipIdx, List.length_reverse]; exact hlen
 ·intro m p hm
  rw [List.getElem?_zipIdx, Nat.zero_add] at hm
  obtain ⟨q, hq, rfl⟩ := Option.map_eq_some_iff.1 hm
  have hml : m < xs.length := by
   have := (List.getElem?_eq_some_iff.1 hq).1
   rwa [List.length_reverse] at this
  have hq2 : xs[xs.length - 1 - m]? = some q := by
   rw [List.getElem?_reverse hml] at hq
   exact hq
  have hM := hr.2 (xs.length - 1 - m) (q, xs.length - 1 - m) (by rw [List.getElem?_zipIdx, hq2, Nat.zero_add]; rfl)
  have hcells : (inner.drop ((xs.length - 1 - m) * d.sz)).take d.sz = ((cur'.toList.take (xs.length * d.sz)).drop (m * d.sz)).take d.sz := by
   have b1 : (xs.length - 1 - m) * d.sz + d.sz ≤ xs.length * d.sz := by rw [← Nat.succ_mul]; exact Nat.mul_le_mul_right _ (by omega)
   have b2 : m * d.sz + d.sz ≤ xs.length * d.sz := by rw [← Nat.succ_mul]; exact Nat.mul_le_mul_right _ (by omega)
   apply List.ext_getElem?
   intro c
   rw [List.getElem?_take, List.getElem?_take]
   by_cases hcd : c < d.sz
   ·have g1 : (xs.length - 1 - m) * d.sz + c < xs.length * d.sz := by omega
    have g2 : m * d.sz + c < xs.length * d.sz := by omega
    rw [if_pos hcd, if_pos hcd, List.getElem?_drop, List.getElem?_drop, ← htake, List.getElem?_take_of_lt g1, List.getElem?_take_of_lt g2, Array.getElem?_toList, Array.getElem?_toList]
    exact (hc m c hml hcd).symm
   ·rw [if_neg hcd, if_neg hcd]
  show d.M w' base _ q (((cur'.toList.take (xs.length * d.sz)).drop (m * d.sz)).take d.sz)
  rw [← hcells]
  refine d.M_mono (fun k hk => ?_) (Kd.M_step hM (w1 := w') (fun k hk hlt => hO k (fun hkg => ?_)))
  ·obtain ⟨⟨h1, h2⟩, h3⟩ := hk
   refine ⟨⟨h1, h2⟩, ?_⟩
   show xs.length - 1 - f k = m
   have h4 : f k = xs.length - 1 - m := h3
   rw [h4]
   omega
  ·subst hkg
   exact hk.1.2 (by simp [Value.ownBlock])
def slices_Reverse_Op.f (l0 : List (S121)) : Option (List (S121)) := some l0.reverse
set_option maxHeartbeats 8000000 in
set_option maxRecDepth 100000 in
theorem slices_Reverse_Op.calls (P0_ : Nat → Prop) (u : Value) (l0 : List (S121)) (r : List (S121)) (w0 w : World) (hB : Below w0.heap.size w0 w) (ho0 : Kd.S k121 121 w w0.heap.size P0_ u l0) (h : slices_Reverse_Op.f l0 = some r) :
  Calls Try.prog 99 #[u] w fun e w' => e = .returned (.tuple #[]) ∧ Kd.S k121 121 w' w0.heap.size P0_ u r ∧ Below w0.heap.size w0 w' ∧ Kept w w' (fun k_ => some k_ = u.ownBlock) := by
 obtain rfl : l0.reverse = r := by injection h
 rcases Nat.eq_zero_or_pos l0.length with hz | hp
 ·have hl : l0 = [] := List.eq_nil_of_length_eq_zero hz
  subst hl
  obtain ⟨A1, c1, rfl⟩ := Kd.S_slice ho0
  have C := AnyQ.slices_Reverse_empty Try.revOp A1 c1 w
  change Calls Try.prog 99 _ _ _ at C
  refine C.mono ?_
  rintro e w' ⟨rfl, rfl⟩
  exact ⟨rfl, ho0, hB, Kept.refl _ _⟩
 ·obtain ⟨g, cap, rfl, hbg, hgl, cur, hcell⟩ := Kd.S_form ho0 hp
  obtain ⟨f, h0, inner, ho, hr⟩ := ho0
  have ho0 : Kd.S k121 121 w w0.heap.size P0_ (.slice (some ⟨g, 0, none⟩) l0.length cap) l0 := ⟨f, h0, inner, ho, hr⟩
  obtain ⟨hil, ho2⟩ := ho
  rw [List.length_zipIdx] at hil ho2
  rcases ho2 with ⟨he, _⟩ | ⟨g2, cap2, cur2, he, _, hb2, hnc, hcm, hcs, htake⟩
  ·cases he
  injection he with ha _ hcap
  injection ha with ha
  injection ha with hg2
  subst hg2
  subst hcap
  have h5 : (k121).sz = 5 := rfl
  rw [show (Kd.tag f k121).sz = 5 from rfl] at hcs htake hil
  have h1 : ∀ u ∈ cur2.toList.take (l0.length * 5), u.oneCell' = true := by
   rw [htake]
   intro u hu
   obtain ⟨q, hq, rfl⟩ := List.mem_iff_getElem.1 hu
   have hq5 : q / 5 < l0.length := by omega
   have hM := hr.2 (q / 5) (l0[q / 5], q / 5) (by rw [List.getElem?_zipIdx, List.getElem?_eq_getElem hq5, Nat.zero_add]; rfl)
   have hone := (Kd.tag f k121).K_one ((Kd.tag f k121).K_of_M hM)
   refine hone _ ?_
   rw [List.mem_iff_getElem]
   refine ⟨q % 5, ?_, ?_⟩
   ·show q % 5 < ((inner.drop (q / 5 * 5)).take 5).length
    rw [List.length_take, List.length_drop]; omega
   ·show ((inner.drop (q / 5 * 5)).take 5)[q % 5]'_ = _
    rw [List.getElem_take, List.getElem_drop]
    congr 1
    omega
  refine (Go.Proofs.Ytdapeboajjidmab.RevOp.reverse_cells g cap l0.length cur2 w hb2 hcs hnc hcm h1).mono ?_
  rintro e w' ⟨rfl, cur', hb', hcs', hO, hc⟩
  have hbw : w0.heap.size ≤ g := hbg
  refine ⟨rfl, S_rev_ ho0 hb2 hb' (hcs'.trans hcs.symm) hO.block (by rw [h5]; omega) hc, ?_, hO.size ▸ Nat.le_refl _, fun i _ hi => hO.block i (fun e_ => hi (by rw [e_]; simp [Value.ownBlock]))⟩
  exact hB.trans (hO.below hbw)

/-! ### impl_Invert: function 45 -/
def impl_Invert.l0 : Nat → List (S121) → List (S62) → List (S121) → Int → Int → Option ((List (S121)) × Bool)
 | 0, _, _, _, _, _ => none
 | k + 1, x6, x7, x18, x19, x20 => if x20 < x19 then (if 0 ≤ x20 then (if x20 < (x18.length : Int) then ((impl_ApplyOp.f k x7 ((rd_T121 x18 x20).f0) ((rd_T121 x18 x20).f1) ((rd_T121 x18 x20).f2) ((rd_T121 x18 x20).f3) ((rd_T121 x18 x20).f4)).bind fun bt585 => (if bt585.2 = 0 then ((impl_undone.f k x7 ((rd_T121 x18 x20).f0) ((rd_T121 x18 x20).f1) ((rd_T121 x18 x20).f2) ((rd_T121 x18 x20).f3) ((rd_T121 x18 x20).f4)).bind fun bt589 => (if x6.length < 2513169434916 then (impl_Invert.l0 k (x6 ++ [(⟨bt589.1, bt589.2.1, bt589.2.2.1, bt589.2.2.2.1, bt589.2.2.2.2⟩ : S121)]) bt585.1 x18 x19 (wrap64 (x20 + 1))) else (none))) else (some ((([] : List (S121))), false)))) else (none)) else (none)) else (some (x6.reverse, true))
def impl_Invert.f (k : Nat) (l0 : List (S62)) (l1 : List (S121)) : Option ((List (S121)) × Bool) := (some (([] : List (S121)) : List (S121))).bind fun y579 => ((impl_TreeOk.f k l0).bind fun t582 => (if t582 = true then (impl_Invert.l0 k y579 l0 l1 (l1.length : Int) 0) else (some (y579, false))))
set_option maxHeartbeats 8000000 in
set_option maxRecDepth 100000 in
theorem impl_Invert.calls (k : Nat) (P0_ : Nat → Prop) (A0 : Option Addr) (c0 : Nat) (l0 : List (S62)) (A1 : Option Addr) (c1 : Nat) (l1 : List (S121)) (r1 : List (S121)) (r2 : Bool) (w : World) (hs0 : Kd.V k62 62 w w.heap.size (fun k_ => P0_ k_) (.slice A0 l0.length c0) l0) (hr1 : Kd.C k121 w A1 l1.length l1) (hc1 : l1.length ≤ c1) (h : impl_Invert.f k l0 l1 = some (r1, r2)) :
  Calls Try.prog 45 #[.slice A0 l0.length c0, .slice A1 l1.length c1] w fun e w' => ∃ v0_ : Value, e = .returned (.tuple #[v0_, .bool r2]) ∧ Kd.S k121 121 w' w.heap.size (fun k_ => (w.heap.size ≤ k_)) v0_ r1 ∧ Below w.heap.size w w' := by
 have hu121 := Try.underlying121
 have HO0 := Aside0.mk (show Kd.V k62 62 w w.heap.size (fun k_ => (P0_ k_ ∨ w.heap.size ≤ k_)) (.slice A0 l0.length c0) l0 from Kd.V_mono hs0 (fun k_ hk => .inl hk))
 have HR1 := Aside0.mk hr1
 have HC1 := Aside0.mk hc1
 clear hr1 hc1
 have HB := Aside0.mk (Below.refl w.heap.size w)
 have H : ((some (([] : List (S121)) : List (S121))).bind fun y579 => ((impl_TreeOk.f k l0).bind fun t582 => (if t582 = true then (impl_Invert.l0 k y579 l0 l1 (l1.length : Int) 0) else (some (y579, false))))) = some (r1, r2) := h
 clear h
 first | ((with_reducible have hz_ := gy_ H); obtain ⟨y579, Ny579, H⟩ := hz_) | (generalize hy_ : (([] : List (S121))) = y579 at H; have Ny579 := Aside0.mk hy_.symm; clear hy_)
 obtain ⟨t582, A3, H⟩ := bnd_ H
 by_cases c4 : t582 = true
 ·subst c4
  replace H := ift_ H
  have H' := Aside0.mk H
  clear H
  go_enter Try.func45, Try.ntmps45
  go_wp2_with (first | ((with_reducible refine gate_dst (N := 12) rfl ?_); refine Kd.S_lit k121 _ 121 ?hg (N := 12) ?hd (xs := ([] : List (S121))) (inner := []) (ok := fun _ => True) (okp := fun _ => True) ?hr ?hp (fun _ hk => hk) trivial (Below.refl _ _) (Nat.le_refl _) (by simp) ?_; (case hd => rfl); (case hg => rfl); (case hr => exact z21_); (case hp => exact z144_); intro v580 w5 ho6 hb hg_ hnew_; clear hg_ hnew_; (first | rw [← Ny579.out] at ho6 | (simp only [Int.reduceToNat] at ho6; rw [← Ny579.out] at ho6)); replace HO0 := Aside0.mk (Kd.V_elder' z137_ (Kd.S_base ho6) hb); have HO581 := Aside0.mk (Kd.S_lower (Kd.S_newM (M := fun k_ => (w.heap.size ≤ k_)) ho6 (below_size z0_) (fun k_ h_ => h_)) (below_size z0_)); replace HB := Aside0.mk (below_step z0_ hb); clear hb ho6) | ((with_reducible refine gate_callee (f := 52) rfl ?_); refine goesL_ (some 15) rfl rfl Try.func52 (by kernel_rfl) rfl #[.slice A0 l0.length c0] rfl z1_ ?_; (with_reducible refine (impl_TreeOk.calls k _ _ l0 true _ ?side1 ?side2 A3.out).mono ?_); (case side1 => exact z171_); (case side2 => exact (Kd.V_reads' HO0.out).2.1); rintro e w7 ⟨rfl, hb⟩; refine ⟨_, rfl, ?_⟩; replace HO0 := Aside0.mk (Kd.V_below z137_ hb); replace HO581 := Aside0.mk (Kd.S_below z224_ hb); replace HB := Aside0.mk (below_step z0_ hb); (try clear hb)))
  go_loopg [6, 7, 20] k (fun kq v6 v7 v20 w' => ∃ (x6_1 : List (S121)) (x7_1 : List (S62)) (x20_1 : Int), v20 = .int .i64 x20_1 ∧ Aside0 (impl_Invert.l0 kq x6_1 x7_1 l1 (l1.length : Int) x20_1 = some (r1, r2)) ∧ Aside0 (kq ≤ k) ∧ Aside0 (Kd.S k121 121 w' w.heap.size (fun k_ => (w.heap.size ≤ k_)) v6 x6_1) ∧ Aside0 (Kd.V k62 62 w' w.heap.size (fun k_ => (P0_ k_ ∨ w.heap.size ≤ k_) ∧ some k_ ≠ (v6 : Value).ownBlock) v7 x7_1) ∧ Aside0 (Below w.heap.size w w'))
  case atStart => exact ⟨(y579), (l0), (0), z15_, H', ⟨Nat.le_refl _⟩, ⟨z201_⟩, ⟨z137_⟩, ⟨z0_⟩⟩
  case round =>
   clear H'
   try clear c1
   try clear p2
   try clear c4
   try clear c5
   obtain ⟨x6_1, x7_1, x20_1, rfl, HA, HK1, HO_6, HO_7, HB⟩ := hrel
   cases gk with
   | zero => exact absurd HA.out (by simp [impl_Invert.l0])
   | succ k1 =>
    have H := HA.out
    clear HA
    simp only [impl_Invert.l0] at H
    by_cases c8 : x20_1 < (l1.length : Int)
    ·rw [if_pos c8] at H
     have c8b0 := decide_eq_true c8
     clear c8
     obtain ⟨c9b0, H⟩ := ifd_ H
     obtain ⟨c10b0, H⟩ := ifd_ H
     replace H := Option.bind_eq_some_iff.mp H
     obtain ⟨⟨t585, t588⟩, A110, H⟩ := H
     try dsimp only at H
     have A11 := Aside0.mk A110
     clear A110
     by_cases c12 : t588 = 0
     ·rw [if_pos c12] at H
      have c12b0 : (t588 == 0) = true := beq_iff_eq.mpr c12
      have c12b1 : (t588 != 0) = false := bne_eq_false_iff_eq.mpr c12
      clear c12
      replace H := Option.bind_eq_some_iff.mp H
      obtain ⟨⟨t589, t590, t593, t594, t595⟩, A130, H⟩ := H
      try dsimp only at H
      have A13 := Aside0.mk A130
      clear A130
      obtain ⟨c14, H⟩ := ifs_ H
      have LMc14 := Aside0.mk c14
      clear c14
      first | ((with_reducible have hz_ := gy_ H); obtain ⟨y596, Ny596, H⟩ := hz_) | (generalize hy_ : (x6_1 ++ [(⟨t589, t590, t593, t594, t595⟩ : S121)]) = y596 at H; have Ny596 := Aside0.mk hy_.symm; clear hy_)
      have H' := Aside0.mk H
      clear H
      have p583 : 0 ≤ (x20_1 : Int) := odt_
      have q583 : x20_1 < (l1.length : Int) := odt_
      obtain ⟨ad583, A583_1, c583_1, e583, hx583_0, hx583_1, hx583_2, hx583_3, hx583_4, hl583_1, hi583_1⟩ := at_T121 HR1.out x20_1 p583 q583
      cases e583
      replace hx583_0 := (HB.out.cell (World.block_lt_of_cell? w _ hx583_0)).trans hx583_0
      replace hx583_1 := (HB.out.cell (World.block_lt_of_cell? w _ hx583_1)).trans hx583_1
      replace hx583_2 := (HB.out.cell (World.block_lt_of_cell? w _ hx583_2)).trans hx583_2
      replace hx583_3 := (HB.out.cell (World.block_lt_of_cell? w _ hx583_3)).trans hx583_3
      replace hx583_4 := (HB.out.cell (World.block_lt_of_cell? w _ hx583_4)).trans hx583_4
      have HR583_1 := Aside0.mk hi583_1
      have HC583_1 := Aside0.mk hl583_1
      clear hi583_1 hl583_1
      replace p583 := eq_true p583
      replace q583 := eq_true q583
      go_wp2_with (first | ((with_reducible refine gate_dst (N := 9) rfl ?_); refine box_event ?hg (N := 9) ?hd (cs := #[.int .i64 0, .slice none 0 0, .int .i64 0, .int .i64 0, .int .i64 0]) (t := 121) ?hr ?_; (case hd => rfl); (case hg => rfl); (case hr => exact z21_); intro gb584 hg w15 hbox hb; replace HO_6 := Aside0.mk (Kd.S_below (Kd.S_elderB z98_ gb584 (Nat.le_of_eq hg.symm)) hb); replace HO_7 := Aside0.mk (Kd.V_below (Kd.V_elderB z152_ gb584 (Nat.le_of_eq hg.symm)) hb); have BK584 := Aside0.mk (hbox); have GW584 := Aside0.mk ((by rw [hg]; exact (below_size z0_) : w.heap.size ≤ gb584)); have GE584 := Aside0.mk ((by rw [hg]; exact (below_size z0_) : w.heap.size ≤ gb584)); replace HB := Aside0.mk (below_step z0_ hb); clear hb hbox hg; obtain ⟨hcz16_0, hcz16_1, hcz16_2, hcz16_3, hcz16_4, hfz16_0, hfz16_1, hfz16_2, hfz16_3, hfz16_4⟩ := bx5_ BK584.out; obtain ⟨Ao17, co17, eo17⟩ := Kd.V_slice HO_7.out; subst eo17) | ((with_reducible refine gate_callee (f := 97) rfl ?_); refine goesL_ (some 27) rfl rfl Try.func97 (by kernel_rfl) rfl #[.slice Ao17 x7_1.length co17, .agg #[.int .i64 ((rd_T121 l1 x20_1).f0), .slice A583_1 ((rd_T121 l1 x20_1).f1).length c583_1, .int .i64 ((rd_T121 l1 x20_1).f2), .int .i64 ((rd_T121 l1 x20_1).f3), .int .i64 ((rd_T121 l1 x20_1).f4)]] rfl z1_ ?_; (with_reducible refine (impl_ApplyOp.calls k1 _ _ x7_1 ((rd_T121 l1 x20_1).f0) _ _ ((rd_T121 l1 x20_1).f1) ((rd_T121 l1 x20_1).f2) ((rd_T121 l1 x20_1).f3) ((rd_T121 l1 x20_1).f4) t585 t588 _ ?side1 ?side2 ?side3 ?side4 A11.out).mono ?_); (case side1 => refine (Kd.V_reads' (e := 62) (base := w.heap.size) (ok := fun k_ => (((P0_ k_ ∨ w.heap.size ≤ k_) ∧ some k_ ≠ (u6 : Value).ownBlock) ∧ k_ ≠ gb584)) (n := x7_1.length) (c := co17) ?_).2.2; exact z40_); (case side2 => exact (Kd.V_reads' HO_7.out).2.1); (case side3 => exact z155_); (case side4 => exact HC583_1.out); rintro e w18 ⟨v586, rfl, ho0, hb⟩; refine ⟨_, rfl, ?_⟩; replace HO_6 := Aside0.mk (Kd.S_below z72_ hb); replace HO_7 := Aside0.mk (Kd.V_elder' z40_ (Kd.R_base ho0) hb); have HO587 := Aside0.mk (Kd.R_lower (Kd.R_newM (M := fun k_ => (w.heap.size ≤ k_)) ho0 (below_size z35_) (fun k_ h_ => h_)) (below_size z35_)); replace BK584 := Aside0.mk (blk_below (g := gb584) (o := .cells #[.int .i64 ((rd_T121 l1 x20_1).f0), .slice A583_1 ((rd_T121 l1 x20_1).f1).length c583_1, .int .i64 ((rd_T121 l1 x20_1).f2), .int .i64 ((rd_T121 l1 x20_1).f3), .int .i64 ((rd_T121 l1 x20_1).f4)] 121 (0, 0)) z36_ hb); replace HB := Aside0.mk (below_step z35_ hb); (try clear hb ho0); obtain ⟨hcz19_0, hcz19_1, hcz19_2, hcz19_3, hcz19_4, hfz19_0, hfz19_1, hfz19_2, hfz19_3, hfz19_4⟩ := bx5_ BK584.out) | ((with_reducible refine gate_callee (f := 98) rfl ?_); refine goesL_ (some 36) rfl rfl Try.func98 (by kernel_rfl) rfl #[.slice Ao17 x7_1.length co17, .agg #[.int .i64 ((rd_T121 l1 x20_1).f0), .slice A583_1 ((rd_T121 l1 x20_1).f1).length c583_1, .int .i64 ((rd_T121 l1 x20_1).f2), .int .i64 ((rd_T121 l1 x20_1).f3), .int .i64 ((rd_T121 l1 x20_1).f4)]] rfl z1_ ?_; (with_reducible refine (impl_undone.calls k1 _ _ x7_1 ((rd_T121 l1 x20_1).f0) _ _ ((rd_T121 l1 x20_1).f1) ((rd_T121 l1 x20_1).f2) ((rd_T121 l1 x20_1).f3) ((rd_T121 l1 x20_1).f4) t589 t590 t593 t594 t595 _ ?side1 ?side2 ?side3 ?side4 A13.out).mono ?_); (case side1 => repeat (first | exact (Kd.V_reads' HO_7.out).2.2 | (with_reducible refine Kd.C_alloc ?_ _) | (with_reducible refine Kd.C_drewN ?_ _) | (with_reducible refine Kd.C_drew ?_))); (case side2 => exact (Kd.V_reads' HO_7.out).2.1); (case side3 => repeat (first | exact (Kd.C_below HR583_1.out HB.out) | (with_reducible refine Kd.C_alloc ?_ _) | (with_reducible refine Kd.C_drewN ?_ _) | (with_reducible refine Kd.C_drew ?_))); (case side4 => exact HC583_1.out); rintro e w20 ⟨v591, rfl, ho0, hb⟩; refine ⟨_, rfl, ?_⟩; replace HO_6 := Aside0.mk (Kd.S_elder' z98_ (Kd.R_base ho0) hb); replace HO_7 := Aside0.mk (Kd.V_elder' z152_ (Kd.R_base ho0) hb); replace HO587 := Aside0.mk (Kd.R_below z179_ hb); have HO592 := Aside0.mk (Kd.R_lower (Kd.R_newM (M := fun k_ => (w.heap.size ≤ k_)) ho0 (below_size z35_) (fun k_ h_ => h_)) (below_size z35_)); replace BK584 := Aside0.mk (blk_below (g := gb584) (o := .cells #[.int .i64 ((rd_T121 l1 x20_1).f0), .slice A583_1 ((rd_T121 l1 x20_1).f1).length c583_1, .int .i64 ((rd_T121 l1 x20_1).f2), .int .i64 ((rd_T121 l1 x20_1).f3), .int .i64 ((rd_T121 l1 x20_1).f4)] 121 (0, 0)) z124_ hb); replace HB := Aside0.mk (below_step z35_ hb); (try clear hb ho0); obtain ⟨Ao22, co22, eo22⟩ := Kd.R_slice HO592.out; subst eo22) | ((with_reducible refine gate_builtin (b := .append) (xs := #[.tmp 33, .tmp 37]) rfl ?_); at_builtin; refine Kd.S_append k121 (w0 := w) w.heap.size rfl (.tmp 33) (.tmp 37) 73 121 (.agg #[(.int .i64 0), (.slice none 0 0), (.int .i64 0), (.int .i64 0), (.int .i64 0)]) 56 rfl Try.underlying73 info121 rfl (by decide) (by omega) u6 x6_1 (⟨t589, t590, t593, t594, t595⟩ : S121) [.int .i64 t589, .slice Ao22 t590.length co22, .int .i64 t593, .int .i64 t594, .int .i64 t595] (fun k_ => (w.heap.size ≤ k_) ∧ k_ ≠ gb584) (fun k_ => some k_ = (.slice Ao22 t590.length co22 : Value).ownBlock) rfl rfl ?aP (fun k_ hk_ => ((Kd.R_mono (ok' := fun k_ => ((fun k_ => (w.heap.size ≤ k_) ∧ k_ ≠ gb584)) k_ ∧ some k_ ≠ (u6 : Value).ownBlock) (Kd.R_types (Kd.R_apart' (HO592.out) (Kd.S_typed HO_6.out) (by decide)) BK584.out (by decide)) (fun k_ hk => ⟨⟨hk.1.1.1, hk.2⟩, hk.1.2⟩))).1 k_ hk_.symm) ?aF ?aO ?aB ?aS ?aL ?_; (case aP => exact k121_mkM _ _ _ (⟨t589, t590, t593, t594, t595⟩ : S121) (Kd.R_mono (Kd.R_tight rfl (Kd.R_mono (ok' := fun k_ => ((fun k_ => (w.heap.size ≤ k_) ∧ k_ ≠ gb584)) k_ ∧ some k_ ≠ (u6 : Value).ownBlock) (Kd.R_types (Kd.R_apart' (HO592.out) (Kd.S_typed HO_6.out) (by decide)) BK584.out (by decide)) (fun k_ hk => ⟨⟨hk.1.1.1, hk.2⟩, hk.1.2⟩))) (fun _ h_ => h_))); (case aB => exact z35_); (case aF => exact (fun k_ hk => ⟨(Nat.le_trans (below_size z35_) hk), Kd.freshB (g := gb584) (o := .cells #[.int .i64 ((rd_T121 l1 x20_1).f0), .slice A583_1 ((rd_T121 l1 x20_1).f1).length c583_1, .int .i64 ((rd_T121 l1 x20_1).f2), .int .i64 ((rd_T121 l1 x20_1).f3), .int .i64 ((rd_T121 l1 x20_1).f4)] 121 (0, 0)) z124_ k_ hk⟩)); (case aO => exact (by (with_reducible repeat (first | apply Kd.S_alloc | apply Kd.S_drewN | apply Kd.S_drew)); exact Kd.S_mono HO_6.out (fun k_ hk => ⟨⟨hk.1.1, hk.1.2⟩, fun e_ => hk.2 e_⟩))); (case aS => exact (below_size z35_)); (case aL => have := LMc14.out; omega); intro v597 w21 ho hb hg hat; rw [← Ny596.out] at ho; replace HO_7 := Aside0.mk (Kd.V_afterv (ok := (fun k_ => (P0_ k_ ∨ w.heap.size ≤ k_) ∧ some k_ ≠ (v586 : Value).ownBlock ∧ some k_ ≠ (.slice Ao22 t590.length co22 : Value).ownBlock ∧ k_ ≠ gb584)) (by (with_reducible repeat (first | apply Kd.V_alloc | apply Kd.V_drewN | apply Kd.V_drew)); exact Kd.V_mono HO_7.out (fun _ hk => ⟨⟨hk.1.1.1.1, ⟨hk.1.2, ⟨hk.2, hk.1.1.2⟩⟩⟩, hk.1.1.1.2⟩)) hg hat); replace BK584 := Aside0.mk (blk_grown (g := gb584) (o := .cells #[.int .i64 ((rd_T121 l1 x20_1).f0), .slice A583_1 ((rd_T121 l1 x20_1).f1).length c583_1, .int .i64 ((rd_T121 l1 x20_1).f2), .int .i64 ((rd_T121 l1 x20_1).f3), .int .i64 ((rd_T121 l1 x20_1).f4)] 121 (0, 0)) z124_ hg (Kd.S_away HO_6.out (fun _ hk => hk.1.2))); replace HO587 := Aside0.mk (Kd.R_over' z179_ (Kd.S_typed z98_) (by decide) hg); replace HB := Aside0.mk (hb); have HO598 := Aside0.mk (ho); clear HO_6 HO592; clear ho hb hg hat))
      go_roundg k1
      case measure => have := HK1.out; omega
      case rel => exact ⟨(y596), (t585), (wrap64 (x20_1 + 1)), z15_, H', ⟨z122_⟩, ⟨by (with_reducible repeat (first | apply Kd.S_alloc | apply Kd.S_drewN | apply Kd.S_drew)); exact Kd.S_mono HO598.out (fun _ hk => hk.1)⟩, ⟨Kd.V_mono (Kd.R_V (by (with_reducible repeat (first | apply Kd.R_alloc | apply Kd.R_drewN | apply Kd.R_drew)); exact Kd.R_mono (Kd.R_apart' HO587.out (Kd.S_typed HO598.out) (by decide)) (fun _ hk => And.intro hk.1.1 hk.2))) (fun k_ hk => by first | exact ⟨(.inr (hk.1)), hk.2⟩ | exact (.inr (hk)))⟩, ⟨z35_⟩⟩
     ·rw [if_neg c12] at H
      have c12b0 : (t588 == 0) = false := beq_eq_false_iff_ne.mpr c12
      have c12b1 : (t588 != 0) = true := bne_iff_ne.mpr c12
      first | ((with_reducible have hz_ := gy_ H); obtain ⟨y599, Ny599, H⟩ := hz_) | (generalize hy_ : (([] : List (S121))) = y599 at H; have Ny599 := Aside0.mk hy_.symm; clear hy_)
      simp only [Option.some.injEq, Prod.mk.injEq] at H
      obtain ⟨rfl, rfl⟩ := H
      have p583 : 0 ≤ (x20_1 : Int) := odt_
      have q583 : x20_1 < (l1.length : Int) := odt_
      obtain ⟨ad583, A583_1, c583_1, e583, hx583_0, hx583_1, hx583_2, hx583_3, hx583_4, hl583_1, hi583_1⟩ := at_T121 HR1.out x20_1 p583 q583
      cases e583
      replace hx583_0 := (HB.out.cell (World.block_lt_of_cell? w _ hx583_0)).trans hx583_0
      replace hx583_1 := (HB.out.cell (World.block_lt_of_cell? w _ hx583_1)).trans hx583_1
      replace hx583_2 := (HB.out.cell (World.block_lt_of_cell? w _ hx583_2)).trans hx583_2
      replace hx583_3 := (HB.out.cell (World.block_lt_of_cell? w _ hx583_3)).trans hx583_3
      replace hx583_4 := (HB.out.cell (World.block_lt_of_cell? w _ hx583_4)).trans hx583_4
      have HR583_1 := Aside0.mk hi583_1
      have HC583_1 := Aside0.mk hl583_1
      clear hi583_1 hl583_1
      replace p583 := eq_true p583
      replace q583 := eq_true q583
      go_wp2_with (first | ((with_reducible refine gate_dst (N := 9) rfl ?_); refine box_event ?hg (N := 9) ?hd (cs := #[.int .i64 0, .slice none 0 0, .int .i64 0, .int .i64 0, .int .i64 0]) (t := 121) ?hr ?_; (case hd => rfl); (case hg => rfl); (case hr => exact z21_); intro gb584 hg w23 hbox hb; replace HO_6 := Aside0.mk (Kd.S_below (Kd.S_elderB z98_ gb584 (Nat.le_of_eq hg.symm)) hb); replace HO_7 := Aside0.mk (Kd.V_below (Kd.V_elderB z152_ gb584 (Nat.le_of_eq hg.symm)) hb); have BK584 := Aside0.mk (hbox); have GW584 := Aside0.mk ((by rw [hg]; exact (below_size z0_) : w.heap.size ≤ gb584)); have GE584 := Aside0.mk ((by rw [hg]; exact (below_size z0_) : w.heap.size ≤ gb584)); replace HB := Aside0.mk (below_step z0_ hb); clear hb hbox hg; obtain ⟨hcz24_0, hcz24_1, hcz24_2, hcz24_3, hcz24_4, hfz24_0, hfz24_1, hfz24_2, hfz24_3, hfz24_4⟩ := bx5_ BK584.out; obtain ⟨Ao25, co25, eo25⟩ := Kd.V_slice HO_7.out; subst eo25) | ((with_reducible refine gate_callee (f := 97) rfl ?_); refine goesL_ (some 27) rfl rfl Try.func97 (by kernel_rfl) rfl #[.slice Ao25 x7_1.length co25, .agg #[.int .i64 ((rd_T121 l1 x20_1).f0), .slice A583_1 ((rd_T121 l1 x20_1).f1).length c583_1, .int .i64 ((rd_T121 l1 x20_1).f2), .int .i64 ((rd_T121 l1 x20_1).f3), .int .i64 ((rd_T121 l1 x20_1).f4)]] rfl z1_ ?_; (with_reducible refine (impl_ApplyOp.calls k1 _ _ x7_1 ((rd_T121 l1 x20_1).f0) _ _ ((rd_T121 l1 x20_1).f1) ((rd_T121 l1 x20_1).f2) ((rd_T121 l1 x20_1).f3) ((rd_T121 l1 x20_1).f4) t585 t588 _ ?side1 ?side2 ?side3 ?side4 A11.out).mono ?_); (case side1 => refine (Kd.V_reads' (e := 62) (base := w.heap.size) (ok := fun k_ => (((P0_ k_ ∨ w.heap.size ≤ k_) ∧ some k_ ≠ (u6 : Value).ownBlock) ∧ k_ ≠ gb584)) (n := x7_1.length) (c := co25) ?_).2.2; exact z40_); (case side2 => exact (Kd.V_reads' HO_7.out).2.1); (case side3 => exact z155_); (case side4 => exact HC583_1.out); rintro e w26 ⟨v586, rfl, ho0, hb⟩; refine ⟨_, rfl, ?_⟩; replace HO_6 := Aside0.mk (Kd.S_below z72_ hb); replace HO_7 := Aside0.mk (Kd.V_elder' z40_ (Kd.R_base ho0) hb); have HO587 := Aside0.mk (Kd.R_lower (Kd.R_newM (M := fun k_ => (w.heap.size ≤ k_)) ho0 (below_size z35_) (fun k_ h_ => h_)) (below_size z35_)); replace BK584 := Aside0.mk (blk_below (g := gb584) (o := .cells #[.int .i64 ((rd_T121 l1 x20_1).f0), .slice A583_1 ((rd_T121 l1 x20_1).f1).length c583_1, .int .i64 ((rd_T121 l1 x20_1).f2), .int .i64 ((rd_T121 l1 x20_1).f3), .int .i64 ((rd_T121 l1 x20_1).f4)] 121 (0, 0)) z36_ hb); replace HB := Aside0.mk (below_step z35_ hb); (try clear hb ho0)) | ((with_reducible refine gate_dst (N := 32) rfl ?_); refine Kd.S_lit k121 _ 121 ?hg (N := 32) ?hd (xs := ([] : List (S121))) (inner := []) (ok := fun _ => True) (okp := fun _ => True) ?hr ?hp (fun _ hk => hk) trivial (Below.refl _ _) (Nat.le_refl _) (by simp) ?_; (case hd => rfl); (case hg => rfl); (case hr => exact z21_); (case hp => exact z144_); intro v600 w27 ho28 hb hg_ hnew_; clear hg_ hnew_; (first | rw [← Ny599.out] at ho28 | (simp only [Int.reduceToNat] at ho28; rw [← Ny599.out] at ho28)); replace HO_7 := Aside0.mk (Kd.V_elder' z152_ (Kd.S_base ho28) hb); replace HO587 := Aside0.mk (Kd.R_below z179_ hb); have HO601 := Aside0.mk (Kd.S_lower (Kd.S_newB (Kd.S_new' (Kd.S_newM (M := fun k_ => (w.heap.size ≤ k_)) ho28 (below_size z35_) (fun k_ h_ => h_)) (Kd.S_lt z98_)) (g := gb584) (o := .cells #[.int .i64 ((rd_T121 l1 x20_1).f0), .slice A583_1 ((rd_T121 l1 x20_1).f1).length c583_1, .int .i64 ((rd_T121 l1 x20_1).f2), .int .i64 ((rd_T121 l1 x20_1).f3), .int .i64 ((rd_T121 l1 x20_1).f4)] 121 (0, 0)) z124_) (below_size z35_)); replace HO_6 := Aside0.mk (Kd.S_elder' z98_ (Kd.S_base ho28) hb); replace BK584 := Aside0.mk (blk_below (g := gb584) (o := .cells #[.int .i64 ((rd_T121 l1 x20_1).f0), .slice A583_1 ((rd_T121 l1 x20_1).f1).length c583_1, .int .i64 ((rd_T121 l1 x20_1).f2), .int .i64 ((rd_T121 l1 x20_1).f3), .int .i64 ((rd_T121 l1 x20_1).f4)] 121 (0, 0)) z124_ hb); replace HB := Aside0.mk (below_step z35_ hb); clear hb ho28))
      go_ret2
      exact ⟨_, z6_, by (with_reducible repeat (first | apply Kd.S_alloc | apply Kd.S_drewN | apply Kd.S_drew)); exact Kd.S_mono HO601.out (fun _ hk => hk.1.1.1), z35_⟩
    ·rw [if_neg c8] at H
     have c8b0 := decide_eq_false c8
     clear c8
     simp only [Option.some.injEq, Prod.mk.injEq] at H
     obtain ⟨rfl, rfl⟩ := H
     obtain ⟨Aq_, cq_, eq_⟩ := Kd.S_slice HO_6.out
     subst eq_
     go_wp2_with (first | ((with_reducible refine gate_callee (f := 99) rfl ?_); refine goesL_ (some 42) rfl rfl Try.func99 (by kernel_rfl) rfl #[.slice Aq_ x6_1.length cq_] rfl (by first | rfl | (go_simp; done)) ?_; (refine (slices_Reverse_Op.calls ?pP_ (.slice Aq_ x6_1.length cq_) x6_1 _ w _ ?sB ?sS rfl).mono ?_); (case sB => exact z61_); (case sS => exact z98_); rintro e wx ⟨rfl, hy0, hb, hkp⟩; refine ⟨_, rfl, ?_⟩; clear HO_6; clear HB; have HO_6 := Aside0.mk hy0; have HB := Aside0.mk hb; clear hy0 hb hkp))
     go_ret2
     exact ⟨_, z6_, z98_, z0_⟩
 ·replace c4 := Bool.eq_false_iff.mpr c4
  subst c4
  replace H := iff_ H
  simp only [Option.some.injEq, Prod.mk.injEq] at H
  obtain ⟨rfl, rfl⟩ := H
  go_enter Try.func45, Try.ntmps45
  go_wp2_with (first | ((with_reducible refine gate_dst (N := 12) rfl ?_); refine Kd.S_lit k121 _ 121 ?hg (N := 12) ?hd (xs := ([] : List (S121))) (inner := []) (ok := fun _ => True) (okp := fun _ => True) ?hr ?hp (fun _ hk => hk) trivial (Below.refl _ _) (Nat.le_refl _) (by simp) ?_; (case hd => rfl); (case hg => rfl); (case hr => exact z21_); (case hp => exact z144_); intro v580 w29 ho30 hb hg_ hnew_; clear hg_ hnew_; (first | rw [← Ny579.out] at ho30 | (simp only [Int.reduceToNat] at ho30; rw [← Ny579.out] at ho30)); replace HO0 := Aside0.mk (Kd.V_elder' z137_ (Kd.S_base ho30) hb); have HO581 := Aside0.mk (Kd.S_lower (Kd.S_newM (M := fun k_ => (w.heap.size ≤ k_)) ho30 (below_size z0_) (fun k_ h_ => h_)) (below_size z0_)); replace HB := Aside0.mk (below_step z0_ hb); clear hb ho30) | ((with_reducible refine gate_callee (f := 52) rfl ?_); refine goesL_ (some 15) rfl rfl Try.func52 (by kernel_rfl) rfl #[.slice A0 l0.length c0] rfl z1_ ?_; (with_reducible refine (impl_TreeOk.calls k _ _ l0 false _ ?side1 ?side2 A3.out).mono ?_); (case side1 => exact z171_); (case side2 => exact (Kd.V_reads' HO0.out).2.1); rintro e w31 ⟨rfl, hb⟩; refine ⟨_, rfl, ?_⟩; replace HO0 := Aside0.mk (Kd.V_below z137_ hb); replace HO581 := Aside0.mk (Kd.S_below z224_ hb); replace HB := Aside0.mk (below_step z0_ hb); (try clear hb)))
  go_ret2
  exact ⟨_, z6_, z201_, z0_⟩

/-! ### spec_ApplyAll: function 46 -/
def spec_ApplyAll.l0 : Nat → List (S121) → List (S62) → Int → Option ((List (S62)) × Int × Int)
 | 0, _, _, _ => none
 | k + 1, x1, x7, x8 => if x8 < (x1.length : Int) then (if 0 ≤ x8 then ((spec_ApplyOp.f k x7 ((rd_T121 x1 x8).f0) ((rd_T121 x1 x8).f1) ((rd_T121 x1 x8).f2) ((rd_T121 x1 x8).f3) ((rd_T121 x1 x8).f4)).bind fun bt610 => (if bt610.2 = 0 then (spec_ApplyAll.l0 k x1 bt610.1 (wrap64 (x8 + 1))) else (some (x7, x8, bt610.2)))) else (none)) else (some (x7, (x1.length : Int), 0))
def spec_ApplyAll.f (k : Nat) (l0 : List (S62)) (l1 : List (S121)) : Option ((List (S62)) × Int × Int) := (spec_TreeOk.f k l0).bind fun t602 => (if t602 = true then ((spec_l3Copy.f l0).bind fun t606 => (spec_ApplyAll.l0 k l1 t606 0)) else (some ((([] : List (S62))), 0, 2)))
set_option maxHeartbeats 8000000 in
set_option maxRecDepth 100000 in
theorem spec_ApplyAll.calls (k : Nat) (A0 : Option Addr) (c0 : Nat) (l0 : List (S62)) (A1 : Option Addr) (c1 : Nat) (l1 : List (S121)) (r1 : List (S62)) (r2 : Int) (r3 : Int) (w : World) (hr0 : Kd.C k62 w A0 l0.length l0) (hc0 : l0.length ≤ c0) (hr1 : Kd.C k121 w A1 l1.length l1) (hc1 : l1.length ≤ c1) (h : spec_ApplyAll.f k l0 l1 = some (r1, r2, r3)) :
  Calls Try.prog 46 #[.slice A0 l0.length c0, .slice A1 l1.length c1] w fun e w' => ∃ v0_ : Value, e = .returned (.tuple #[v0_, .int .i64 r2, .int .i64 r3]) ∧ Kd.R k62 62 w' w.heap.size (fun _ => True) v0_ r1 ∧ Below w.heap.size w w' := by
 have hu121 := Try.underlying121
 have HR0 := Aside0.mk hr0
 have HC0 := Aside0.mk hc0
 clear hr0 hc0
 have HR1 := Aside0.mk hr1
 have HC1 := Aside0.mk hc1
 clear hr1 hc1
 have HB := Aside0.mk (Below.refl w.heap.size w)
 have H : ((spec_TreeOk.f k l0).bind fun t602 => (if t602 = true then ((spec_l3Copy.f l0).bind fun t606 => (spec_ApplyAll.l0 k l1 t606 0)) else (some ((([] : List (S62))), 0, 2)))) = some (r1, r2, r3) := h
 clear h
 obtain ⟨t602, A3, H⟩ := bnd_ H
 by_cases c4 : t602 = true
 ·subst c4
  replace H := ift_ H
  obtain ⟨t606, A5, H⟩ := bnd_ H
  have H' := Aside0.mk H
  clear H
  go_enter Try.func46, Try.ntmps46
  go_wp2_with (first | ((with_reducible refine gate_callee (f := 12) rfl ?_); refine goesL_ (some 12) rfl rfl Try.func12 (by kernel_rfl) rfl #[.slice A0 l0.length c0] rfl z1_ ?_; (with_reducible refine (spec_TreeOk.calls k _ _ l0 true _ ?side1 ?side2 A3.out).mono ?_); (case side1 => exact z17_); (case side2 => exact HC0.out); rintro e w6 ⟨rfl, hb⟩; refine ⟨_, rfl, ?_⟩; replace HB := Aside0.mk (below_step z0_ hb); (try clear hb)) | ((with_reducible refine gate_callee (f := 90) rfl ?_); refine goesL_ (some 16) rfl rfl Try.func90 (by kernel_rfl) rfl #[.slice A0 l0.length c0] rfl z1_ ?_; (with_reducible refine (spec_l3Copy.calls _ _ l0 t606 _ ?side1 ?side2 A5.out).mono ?_); (case side1 => exact z2_); (case side2 => exact HC0.out); rintro e w7 ⟨v607, rfl, ho0, hb⟩; refine ⟨_, rfl, ?_⟩; have HO608 := Aside0.mk (Kd.R_lower ho0 (below_size z0_)); replace HB := Aside0.mk (below_step z0_ hb); (try clear hb ho0)))
  go_loopg [7, 8] k (fun kq v7 v8 w' => ∃ (x7_1 : List (S62)) (x8_1 : Int), v8 = .int .i64 x8_1 ∧ Aside0 (spec_ApplyAll.l0 kq l1 x7_1 x8_1 = some (r1, r2, r3)) ∧ Aside0 (kq ≤ k) ∧ Aside0 (Kd.R k62 62 w' w.heap.size (fun _ => True) v7 x7_1) ∧ Aside0 (Below w.heap.size w w'))
  case atStart => exact ⟨(t606), (0), z15_, H', ⟨Nat.le_refl _⟩, ⟨by (with_reducible repeat (first | apply Kd.R_alloc | apply Kd.R_drewN | apply Kd.R_drew)); exact HO608.out⟩, ⟨z0_⟩⟩
  case round =>
   clear H'
   try clear c1
   try clear p2
   try clear c4
   obtain ⟨x7_1, x8_1, rfl, HA, HK1, HO_7, HB⟩ := hrel
   cases gk with
   | zero => exact absurd HA.out (by simp [spec_ApplyAll.l0])
   | succ k1 =>
    have H := HA.out
    clear HA
    simp only [spec_ApplyAll.l0] at H
    by_cases c8 : x8_1 < (l1.length : Int)
    ·rw [if_pos c8] at H
     have c8b0 := decide_eq_true c8
     clear c8
     obtain ⟨c9b0, H⟩ := ifd_ H
     replace H := Option.bind_eq_some_iff.mp H
     obtain ⟨⟨t610, t613⟩, A100, H⟩ := H
     try dsimp only at H
     have A10 := Aside0.mk A100
     clear A100
     by_cases c11 : t613 = 0
     ·rw [if_pos c11] at H
      have c11b0 : (t613 == 0) = true := beq_iff_eq.mpr c11
      have c11b1 : (t613 != 0) = false := bne_eq_false_iff_eq.mpr c11
      clear c11
      have H' := Aside0.mk H
      clear H
      have p609 : 0 ≤ (x8_1 : Int) := odt_
      have q609 : x8_1 < (l1.length : Int) := odt_
      obtain ⟨ad609, A609_1, c609_1, e609, hx609_0, hx609_1, hx609_2, hx609_3, hx609_4, hl609_1, hi609_1⟩ := at_T121 HR1.out x8_1 p609 q609
      cases e609
      replace hx609_0 := (HB.out.cell (World.block_lt_of_cell? w _ hx609_0)).trans hx609_0
      replace hx609_1 := (HB.out.cell (World.block_lt_of_cell? w _ hx609_1)).trans hx609_1
      replace hx609_2 := (HB.out.cell (World.block_lt_of_cell? w _ hx609_2)).trans hx609_2
      replace hx609_3 := (HB.out.cell (World.block_lt_of_cell? w _ hx609_3)).trans hx609_3
      replace hx609_4 := (HB.out.cell (World.block_lt_of_cell? w _ hx609_4)).trans hx609_4
      have HR609_1 := Aside0.mk hi609_1
      have HC609_1 := Aside0.mk hl609_1
      clear hi609_1 hl609_1
      replace p609 := eq_true p609
      replace q609 := eq_true q609
      obtain ⟨Ao12, co12, eo12⟩ := Kd.R_slice HO_7.out
      subst eo12
      go_wp2_with (first | ((with_reducible refine gate_callee (f := 100) rfl ?_); refine goesL_ (some 29) rfl rfl Try.func100 (by kernel_rfl) rfl #[.slice Ao12 x7_1.length co12, .agg #[.int .i64 ((rd_T121 l1 x8_1).f0), .slice A609_1 ((rd_T121 l1 x8_1).f1).length c609_1, .int .i64 ((rd_T121 l1 x8_1).f2), .int .i64 ((rd_T121 l1 x8_1).f3), .int .i64 ((rd_T121 l1 x8_1).f4)]] rfl z1_ ?_; (with_reducible refine (spec_ApplyOp.calls k1 _ _ x7_1 ((rd_T121 l1 x8_1).f0) _ _ ((rd_T121 l1 x8_1).f1) ((rd_T121 l1 x8_1).f2) ((rd_T121 l1 x8_1).f3) ((rd_T121 l1 x8_1).f4) t610 t613 _ ?side1 ?side2 ?side3 ?side4 A10.out).mono ?_); (case side1 => exact z91_); (case side2 => exact z210_); (case side3 => exact z161_); (case side4 => exact HC609_1.out); rintro e w13 ⟨v611, rfl, ho0, hb⟩; refine ⟨_, rfl, ?_⟩; have HO612 := Aside0.mk (Kd.R_lower (Kd.R_new' ho0 (Kd.R_lt z58_)) (below_size z0_)); replace HO_7 := Aside0.mk (Kd.R_elder' z58_ (Kd.R_base ho0) hb); replace HB := Aside0.mk (below_step z0_ hb); (try clear hb ho0)))
      go_roundg k1
      case measure => have := HK1.out; omega
      case rel => exact ⟨(t610), (wrap64 (x8_1 + 1)), z15_, H', ⟨z122_⟩, ⟨by (with_reducible repeat (first | apply Kd.R_alloc | apply Kd.R_drewN | apply Kd.R_drew)); exact Kd.R_mono HO612.out (fun _ hk => trivial)⟩, ⟨z0_⟩⟩
     ·rw [if_neg c11] at H
      have c11b0 : (t613 == 0) = false := beq_eq_false_iff_ne.mpr c11
      have c11b1 : (t613 != 0) = true := bne_iff_ne.mpr c11
      simp only [Option.some.injEq, Prod.mk.injEq] at H
      obtain ⟨rfl, rfl, rfl⟩ := H
      have p609 : 0 ≤ (x8_1 : Int) := odt_
      have q609 : x8_1 < (l1.length : Int) := odt_
      obtain ⟨ad609, A609_1, c609_1, e609, hx609_0, hx609_1, hx609_2, hx609_3, hx609_4, hl609_1, hi609_1⟩ := at_T121 HR1.out x8_1 p609 q609
      cases e609
      replace hx609_0 := (HB.out.cell (World.block_lt_of_cell? w _ hx609_0)).trans hx609_0
      replace hx609_1 := (HB.out.cell (World.block_lt_of_cell? w _ hx609_1)).trans hx609_1
      replace hx609_2 := (HB.out.cell (World.block_lt_of_cell? w _ hx609_2)).trans hx609_2
      replace hx609_3 := (HB.out.cell (World.block_lt_of_cell? w _ hx609_3)).trans hx609_3
      replace hx609_4 := (HB.out.cell (World.block_lt_of_cell? w _ hx609_4)).trans hx609_4
      have HR609_1 := Aside0.mk hi609_1
      have HC609_1 := Aside0.mk hl609_1
      clear hi609_1 hl609_1
      replace p609 := eq_true p609
      replace q609 := eq_true q609
      obtain ⟨Ao14, co14, eo14⟩ := Kd.R_slice HO_7.out
      subst eo14
      go_wp2_with (first | ((with_reducible refine gate_callee (f := 100) rfl ?_); refine goesL_ (some 29) rfl rfl Try.func100 (by kernel_rfl) rfl #[.slice Ao14 x7_1.length co14, .agg #[.int .i64 ((rd_T121 l1 x8_1).f0), .slice A609_1 ((rd_T121 l1 x8_1).f1).length c609_1, .int .i64 ((rd_T121 l1 x8_1).f2), .int .i64 ((rd_T121 l1 x8_1).f3), .int .i64 ((rd_T121 l1 x8_1).f4)]] rfl z1_ ?_; (with_reducible refine (spec_ApplyOp.calls k1 _ _ x7_1 ((rd_T121 l1 x8_1).f0) _ _ ((rd_T121 l1 x8_1).f1) ((rd_T121 l1 x8_1).f2) ((rd_T121 l1 x8_1).f3) ((rd_T121 l1 x8_1).f4) t610 t613 _ ?side1 ?side2 ?side3 ?side4 A10.out).mono ?_); (case side1 => exact z91_); (case side2 => exact z210_); (case side3 => exact z161_); (case side4 => exact HC609_1.out); rintro e w15 ⟨v611, rfl, ho0, hb⟩; refine ⟨_, rfl, ?_⟩; have HO612 := Aside0.mk (Kd.R_lower (Kd.R_new' ho0 (Kd.R_lt z58_)) (below_size z0_)); replace HO_7 := Aside0.mk (Kd.R_elder' z58_ (Kd.R_base ho0) hb); replace HB := Aside0.mk (below_step z0_ hb); (try clear hb ho0)))
      go_ret3
      exact ⟨_, z6_, z197_, z0_⟩
    ·rw [if_neg c8] at H
     have c8b0 := decide_eq_false c8
     clear c8
     simp only [Option.some.injEq, Prod.mk.injEq] at H
     obtain ⟨rfl, rfl, rfl⟩ := H
     go_wp2
     go_ret3
     exact ⟨_, z6_, z58_, z0_⟩
 ·replace c4 := Bool.eq_false_iff.mpr c4
  subst c4
  replace H := iff_ H
  first | ((with_reducible have hz_ := gy_ H); obtain ⟨y603, Ny603, H⟩ := hz_) | (generalize hy_ : (([] : List (S62))) = y603 at H; have Ny603 := Aside0.mk hy_.symm; clear hy_)
  simp only [Option.some.injEq, Prod.mk.injEq] at H
  obtain ⟨rfl, rfl, rfl⟩ := H
  go_enter Try.func46, Try.ntmps46
  go_wp2_with (first | ((with_reducible refine gate_callee (f := 12) rfl ?_); refine goesL_ (some 12) rfl rfl Try.func12 (by kernel_rfl) rfl #[.slice A0 l0.length c0] rfl z1_ ?_; (with_reducible refine (spec_TreeOk.calls k _ _ l0 false _ ?side1 ?side2 A3.out).mono ?_); (case side1 => exact z17_); (case side2 => exact HC0.out); rintro e w16 ⟨rfl, hb⟩; refine ⟨_, rfl, ?_⟩; replace HB := Aside0.mk (below_step z0_ hb); (try clear hb)) | ((with_reducible refine gate_dst (N := 14) rfl ?_); refine Kd.R_lit k62 _ 62 ?hg (N := 14) ?hd (xs := ([] : List (S62))) (inner := []) (ok := fun _ => True) (okp := fun _ => True) ?hr ?hp (fun _ hk => hk) trivial (Below.refl _ _) (Nat.le_refl _) (by simp) ?_; (case hd => rfl); (case hg => rfl); (case hr => exact z21_); (case hp => exact z144_); intro v604 w17 ho18 hb hg_ hnew_; clear hg_ hnew_; (first | rw [← Ny603.out] at ho18 | (simp only [Int.reduceToNat] at ho18; rw [← Ny603.out] at ho18)); have HO605 := Aside0.mk (Kd.R_lower ho18 (below_size z0_)); replace HB := Aside0.mk (below_step z0_ hb); clear hb ho18))
  go_ret3
  exact ⟨_, z6_, by (with_reducible repeat (first | apply Kd.R_alloc | apply Kd.R_drewN | apply Kd.R_drew)); exact HO605.out, z0_⟩

/-! ### impl_ApplyAll: function 47 -/
def impl_ApplyAll.l0 : Nat → List (S121) → List (S62) → List (S121) → Int → Int → Option ((List (S62)) × Int × Int)
 | 0, _, _, _, _, _ => none
 | k + 1, x1, x7, x18, x19, x20 => if x20 < x19 then (if 0 ≤ x20 then (if x20 < (x18.length : Int) then ((impl_ApplyOp.f k x7 ((rd_T121 x18 x20).f0) ((rd_T121 x18 x20).f1) ((rd_T121 x18 x20).f2) ((rd_T121 x18 x20).f3) ((rd_T121 x18 x20).f4)).bind fun bt623 => (if bt623.2 = 0 then (impl_ApplyAll.l0 k x1 bt623.1 x18 x19 (wrap64 (x20 + 1))) else (some (x7, x20, bt623.2)))) else (none)) else (none)) else (some (x7, (x1.length : Int), 0))
def impl_ApplyAll.f (k : Nat) (l0 : List (S62)) (l1 : List (S121)) : Option ((List (S62)) × Int × Int) := (impl_TreeOk.f k l0).bind fun t614 => (if t614 = true then ((slices_Clone_Node.f l0).bind fun t618 => (impl_ApplyAll.l0 k l1 t618 l1 (l1.length : Int) 0)) else (some ((([] : List (S62))), 0, 2)))
set_option maxHeartbeats 8000000 in
set_option maxRecDepth 100000 in
theorem impl_ApplyAll.calls (k : Nat) (A0 : Option Addr) (c0 : Nat) (l0 : List (S62)) (A1 : Option Addr) (c1 : Nat) (l1 : List (S121)) (r1 : List (S62)) (r2 : Int) (r3 : Int) (w : World) (hr0 : Kd.C k62 w A0 l0.length l0) (hc0 : l0.length ≤ c0) (hr1 : Kd.C k121 w A1 l1.length l1) (hc1 : l1.length ≤ c1) (h : impl_ApplyAll.f k l0 l1 = some (r1, r2, r3)) :
  Calls Try.prog 47 #[.slice A0 l0.length c0, .slice A1 l1.length c1] w fun e w' => ∃ v0_ : Value, e = .returned (.tuple #[v0_, .int .i64 r2, .int .i64 r3]) ∧ Kd.R k62 62 w' w.heap.size (fun _ => True) v0_ r1 ∧ Below w.heap.size w w' := by
 have hu121 := Try.underlying121
 have HR0 := Aside0.mk hr0
 have HC0 := Aside0.mk hc0
 clear hr0 hc0
 have HR1 := Aside0.mk hr1
 have HC1 := Aside0.mk hc1
 clear hr1 hc1
 have HB := Aside0.mk (Below.refl w.heap.size w)
 have H : ((impl_TreeOk.f k l0).bind fun t614 => (if t614 = true then ((slices_Clone_Node.f l0).bind fun t618 => (impl_ApplyAll.l0 k l1 t618 l1 (l1.length : Int) 0)) else (some ((([] : List (S62))), 0, 2)))) = some (r1, r2, r3) := h
 clear h
 obtain ⟨t614, A3, H⟩ := bnd_ H
 by_cases c4 : t614 = true
 ·subst c4
  replace H := ift_ H
  obtain ⟨t618, A5, H⟩ := bnd_ H
  have H' := Aside0.mk H
  clear H
  go_enter Try.func47, Try.ntmps47
  go_wp2_with (first | ((with_reducible refine gate_callee (f := 52) rfl ?_); refine goesL_ (some 13) rfl rfl Try.func52 (by kernel_rfl) rfl #[.slice A0 l0.length c0] rfl z1_ ?_; (with_reducible refine (impl_TreeOk.calls k _ _ l0 true _ ?side1 ?side2 A3.out).mono ?_); (case side1 => exact z17_); (case side2 => exact HC0.out); rintro e w6 ⟨rfl, hb⟩; refine ⟨_, rfl, ?_⟩; replace HB := Aside0.mk (below_step z0_ hb); (try clear hb)) | ((with_reducible refine gate_callee (f := 101) rfl ?_); refine goesL_ (some 17) rfl rfl Try.func101 (by kernel_rfl) rfl #[.slice A0 l0.length c0] rfl z1_ ?_; (with_reducible refine (slices_Clone_Node.calls _ _ l0 t618 _ ?side1 ?side2 A5.out).mono ?_); (case side1 => exact z2_); (case side2 => exact HC0.out); rintro e w7 ⟨v619, rfl, ho0, hb⟩; refine ⟨_, rfl, ?_⟩; have HO620 := Aside0.mk (Kd.R_lower ho0 (below_size z0_)); replace HB := Aside0.mk (below_step z0_ hb); (try clear hb ho0)))
  go_loopg [7, 20] k (fun kq v7 v20 w' => ∃ (x7_1 : List (S62)) (x20_1 : Int), v20 = .int .i64 x20_1 ∧ Aside0 (impl_ApplyAll.l0 kq l1 x7_1 l1 (l1.length : Int) x20_1 = some (r1, r2, r3)) ∧ Aside0 (kq ≤ k) ∧ Aside0 (Kd.R k62 62 w' w.heap.size (fun _ => True) v7 x7_1) ∧ Aside0 (Below w.heap.size w w'))
  case atStart => exact ⟨(t618), (0), z15_, H', ⟨Nat.le_refl _⟩, ⟨by (with_reducible repeat (first | apply Kd.R_alloc | apply Kd.R_drewN | apply Kd.R_drew)); exact HO620.out⟩, ⟨z0_⟩⟩
  case round =>
   clear H'
   try clear c1
   try clear p2
   try clear c4
   try clear c5
   obtain ⟨x7_1, x20_1, rfl, HA, HK1, HO_7, HB⟩ := hrel
   cases gk with
   | zero => exact absurd HA.out (by simp [impl_ApplyAll.l0])
   | succ k1 =>
    have H := HA.out
    clear HA
    simp only [impl_ApplyAll.l0] at H
    by_cases c8 : x20_1 < (l1.length : Int)
    ·rw [if_pos c8] at H
     have c8b0 := decide_eq_true c8
     clear c8
     obtain ⟨c9b0, H⟩ := ifd_ H
     obtain ⟨c10b0, H⟩ := ifd_ H
     replace H := Option.bind_eq_some_iff.mp H
     obtain ⟨⟨t623, t626⟩, A110, H⟩ := H
     try dsimp only at H
     have A11 := Aside0.mk A110
     clear A110
     by_cases c12 : t626 = 0
     ·rw [if_pos c12] at H
      have c12b0 : (t626 == 0) = true := beq_iff_eq.mpr c12
      have c12b1 : (t626 != 0) = false := bne_eq_false_iff_eq.mpr c12
      clear c12
      have H' := Aside0.mk H
      clear H
      have p621 : 0 ≤ (x20_1 : Int) := odt_
      have q621 : x20_1 < (l1.length : Int) := odt_
      obtain ⟨ad621, A621_1, c621_1, e621, hx621_0, hx621_1, hx621_2, hx621_3, hx621_4, hl621_1, hi621_1⟩ := at_T121 HR1.out x20_1 p621 q621
      cases e621
      replace hx621_0 := (HB.out.cell (World.block_lt_of_cell? w _ hx621_0)).trans hx621_0
      replace hx621_1 := (HB.out.cell (World.block_lt_of_cell? w _ hx621_1)).trans hx621_1
      replace hx621_2 := (HB.out.cell (World.block_lt_of_cell? w _ hx621_2)).trans hx621_2
      replace hx621_3 := (HB.out.cell (World.block_lt_of_cell? w _ hx621_3)).trans hx621_3
      replace hx621_4 := (HB.out.cell (World.block_lt_of_cell? w _ hx621_4)).trans hx621_4
      have HR621_1 := Aside0.mk hi621_1
      have HC621_1 := Aside0.mk hl621_1
      clear hi621_1 hl621_1
      replace p621 := eq_true p621
      replace q621 := eq_true q621
      go_wp2_with (first | ((with_reducible refine gate_dst (N := 9) rfl ?_); refine box_event ?hg (N := 9) ?hd (cs := #[.int .i64 0, .slice none 0 0, .int .i64 0, .int .i64 0, .int .i64 0]) (t := 121) ?hr ?_; (case hd => rfl); (case hg => rfl); (case hr => exact z21_); intro gb622 hg w13 hbox hb; replace HO_7 := Aside0.mk (Kd.R_below z58_ hb); have BK622 := Aside0.mk (hbox); have GW622 := Aside0.mk ((by rw [hg]; exact (below_size z0_) : w.heap.size ≤ gb622)); have GE622 := Aside0.mk ((by rw [hg]; exact (below_size z0_) : w.heap.size ≤ gb622)); replace HB := Aside0.mk (below_step z0_ hb); clear hb hbox hg; obtain ⟨hcz14_0, hcz14_1, hcz14_2, hcz14_3, hcz14_4, hfz14_0, hfz14_1, hfz14_2, hfz14_3, hfz14_4⟩ := bx5_ BK622.out; obtain ⟨Ao15, co15, eo15⟩ := Kd.R_slice HO_7.out; subst eo15) | ((with_reducible refine gate_callee (f := 97) rfl ?_); refine goesL_ (some 28) rfl rfl Try.func97 (by kernel_rfl) rfl #[.slice Ao15 x7_1.length co15, .agg #[.int .i64 ((rd_T121 l1 x20_1).f0), .slice A621_1 ((rd_T121 l1 x20_1).f1).length c621_1, .int .i64 ((rd_T121 l1 x20_1).f2), .int .i64 ((rd_T121 l1 x20_1).f3), .int .i64 ((rd_T121 l1 x20_1).f4)]] rfl z1_ ?_; (with_reducible refine (impl_ApplyOp.calls k1 _ _ x7_1 ((rd_T121 l1 x20_1).f0) _ _ ((rd_T121 l1 x20_1).f1) ((rd_T121 l1 x20_1).f2) ((rd_T121 l1 x20_1).f3) ((rd_T121 l1 x20_1).f4) t623 t626 _ ?side1 ?side2 ?side3 ?side4 A11.out).mono ?_); (case side1 => refine (Kd.R_reads' (e := 62) (base := w.heap.size) (ok := fun k_ => True) (n := x7_1.length) (c := co15) ?_).2.2; exact z24_); (case side2 => exact z210_); (case side3 => exact z156_); (case side4 => exact HC621_1.out); rintro e w16 ⟨v624, rfl, ho0, hb⟩; refine ⟨_, rfl, ?_⟩; have HO625 := Aside0.mk (Kd.R_lower (Kd.R_new' ho0 (Kd.R_lt z24_)) (below_size z73_)); replace HO_7 := Aside0.mk (Kd.R_elder' z24_ (Kd.R_base ho0) hb); replace BK622 := Aside0.mk (blk_below (g := gb622) (o := .cells #[.int .i64 ((rd_T121 l1 x20_1).f0), .slice A621_1 ((rd_T121 l1 x20_1).f1).length c621_1, .int .i64 ((rd_T121 l1 x20_1).f2), .int .i64 ((rd_T121 l1 x20_1).f3), .int .i64 ((rd_T121 l1 x20_1).f4)] 121 (0, 0)) z37_ hb); replace HB := Aside0.mk (below_step z73_ hb); (try clear hb ho0)))
      go_roundg k1
      case measure => have := HK1.out; omega
      case rel => exact ⟨(t623), (wrap64 (x20_1 + 1)), z15_, H', ⟨z122_⟩, ⟨by (with_reducible repeat (first | apply Kd.R_alloc | apply Kd.R_drewN | apply Kd.R_drew)); exact Kd.R_mono HO625.out (fun _ hk => trivial)⟩, ⟨z73_⟩⟩
     ·rw [if_neg c12] at H
      have c12b0 : (t626 == 0) = false := beq_eq_false_iff_ne.mpr c12
      have c12b1 : (t626 != 0) = true := bne_iff_ne.mpr c12
      simp only [Option.some.injEq, Prod.mk.injEq] at H
      obtain ⟨rfl, rfl, rfl⟩ := H
      have p621 : 0 ≤ (x20_1 : Int) := odt_
      have q621 : x20_1 < (l1.length : Int) := odt_
      obtain ⟨ad621, A621_1, c621_1, e621, hx621_0, hx621_1, hx621_2, hx621_3, hx621_4, hl621_1, hi621_1⟩ := at_T121 HR1.out x20_1 p621 q621
      cases e621
      replace hx621_0 := (HB.out.cell (World.block_lt_of_cell? w _ hx621_0)).trans hx621_0
      replace hx621_1 := (HB.out.cell (World.block_lt_of_cell? w _ hx621_1)).trans hx621_1
      replace hx621_2 := (HB.out.cell (World.block_lt_of_cell? w _ hx621_2)).trans hx621_2
      replace hx621_3 := (HB.out.cell (World.block_lt_of_cell? w _ hx621_3)).trans hx621_3
      replace hx621_4 := (HB.out.cell (World.block_lt_of_cell? w _ hx621_4)).trans hx621_4
      have HR621_1 := Aside0.mk hi621_1
      have HC621_1 := Aside0.mk hl621_1
      clear hi621_1 hl621_1
      replace p621 := eq_true p621
      replace q621 := eq_true q621
      go_wp2_with (first | ((with_reducible refine gate_dst (N := 9) rfl ?_); refine box_event ?hg (N := 9) ?hd (cs := #[.int .i64 0, .slice none 0 0, .int .i64 0, .int .i64 0, .int .i64 0]) (t := 121) ?hr ?_; (case hd => rfl); (case hg => rfl); (case hr => exact z21_); intro gb622 hg w17 hbox hb; replace HO_7 := Aside0.mk (Kd.R_below z58_ hb); have BK622 := Aside0.mk (hbox); have GW622 := Aside0.mk ((by rw [hg]; exact (below_size z0_) : w.heap.size ≤ gb622)); have GE622 := Aside0.mk ((by rw [hg]; exact (below_size z0_) : w.heap.size ≤ gb622)); replace HB := Aside0.mk (below_step z0_ hb); clear hb hbox hg; obtain ⟨hcz18_0, hcz18_1, hcz18_2, hcz18_3, hcz18_4, hfz18_0, hfz18_1, hfz18_2, hfz18_3, hfz18_4⟩ := bx5_ BK622.out; obtain ⟨Ao19, co19, eo19⟩ := Kd.R_slice HO_7.out; subst eo19) | ((with_reducible refine gate_callee (f := 97) rfl ?_); refine goesL_ (some 28) rfl rfl Try.func97 (by kernel_rfl) rfl #[.slice Ao19 x7_1.length co19, .agg #[.int .i64 ((rd_T121 l1 x20_1).f0), .slice A621_1 ((rd_T121 l1 x20_1).f1).length c621_1, .int .i64 ((rd_T121 l1 x20_1).f2), .int .i64 ((rd_T121 l1 x20_1).f3), .int .i64 ((rd_T121 l1 x20_1).f4)]] rfl z1_ ?_; (with_reducible refine (impl_ApplyOp.calls k1 _ _ x7_1 ((rd_T121 l1 x20_1).f0) _ _ ((rd_T121 l1 x20_1).f1) ((rd_T121 l1 x20_1).f2) ((rd_T121 l1 x20_1).f3) ((rd_T121 l1 x20_1).f4) t623 t626 _ ?side1 ?side2 ?side3 ?side4 A11.out).mono ?_); (case side1 => refine (Kd.R_reads' (e := 62) (base := w.heap.size) (ok := fun k_ => True) (n := x7_1.length) (c := co19) ?_).2.2; exact z24_); (case side2 => exact z210_); (case side3 => exact z156_); (case side4 => exact HC621_1.out); rintro e w20 ⟨v624, rfl, ho0, hb⟩; refine ⟨_, rfl, ?_⟩; have HO625 := Aside0.mk (Kd.R_lower (Kd.R_new' ho0 (Kd.R_lt z24_)) (below_size z73_)); replace HO_7 := Aside0.mk (Kd.R_elder' z24_ (Kd.R_base ho0) hb); replace BK622 := Aside0.mk (blk_below (g := gb622) (o := .cells #[.int .i64 ((rd_T121 l1 x20_1).f0), .slice A621_1 ((rd_T121 l1 x20_1).f1).length c621_1, .int .i64 ((rd_T121 l1 x20_1).f2), .int .i64 ((rd_T121 l1 x20_1).f3), .int .i64 ((rd_T121 l1 x20_1).f4)] 121 (0, 0)) z37_ hb); replace HB := Aside0.mk (below_step z73_ hb); (try clear hb ho0)))
      go_ret3
      exact ⟨_, z6_, z197_, z73_⟩
    ·rw [if_neg c8] at H
     have c8b0 := decide_eq_false c8
     clear c8
     simp only [Option.some.injEq, Prod.mk.injEq] at H
     obtain ⟨rfl, rfl, rfl⟩ := H
     go_wp2
     go_ret3
     exact ⟨_, z6_, z58_, z0_⟩
 ·replace c4 := Bool.eq_false_iff.mpr c4
  subst c4
  replace H := iff_ H
  first | ((with_reducible have hz_ := gy_ H); obtain ⟨y615, Ny615, H⟩ := hz_) | (generalize hy_ : (([] : List (S62))) = y615 at H; have Ny615 := Aside0.mk hy_.symm; clear hy_)
  simp only [Option.some.injEq, Prod.mk.injEq] at H
  obtain ⟨rfl, rfl, rfl⟩ := H
  go_enter Try.func47, Try.ntmps47
  go_wp2_with (first | ((with_reducible refine gate_callee (f := 52) rfl ?_); refine goesL_ (some 13) rfl rfl Try.func52 (by kernel_rfl) rfl #[.slice A0 l0.length c0] rfl z1_ ?_; (with_reducible refine (impl_TreeOk.calls k _ _ l0 false _ ?side1 ?side2 A3.out).mono ?_); (case side1 => exact z17_); (case side2 => exact HC0.out); rintro e w21 ⟨rfl, hb⟩; refine ⟨_, rfl, ?_⟩; replace HB := Aside0.mk (below_step z0_ hb); (try clear hb)) | ((with_reducible refine gate_dst (N := 15) rfl ?_); refine Kd.R_lit k62 _ 62 ?hg (N := 15) ?hd (xs := ([] : List (S62))) (inner := []) (ok := fun _ => True) (okp := fun _ => True) ?hr ?hp (fun _ hk => hk) trivial (Below.refl _ _) (Nat.le_refl _) (by simp) ?_; (case hd => rfl); (case hg => rfl); (case hr => exact z21_); (case hp => exact z144_); intro v616 w22 ho23 hb hg_ hnew_; clear hg_ hnew_; (first | rw [← Ny615.out] at ho23 | (simp only [Int.reduceToNat] at ho23; rw [← Ny615.out] at ho23)); have HO617 := Aside0.mk (Kd.R_lower ho23 (below_size z0_)); replace HB := Aside0.mk (below_step z0_ hb); clear hb ho23))
  go_ret3
  exact ⟨_, z6_, by (with_reducible repeat (first | apply Kd.R_alloc | apply Kd.R_drewN | apply Kd.R_drew)); exact HO617.out, z0_⟩

/-! ### spec_UnitCost: function 48 -/
mutual
def spec_UnitCost.l0 : Nat → Int → List Int → List Int → List Int → Option (List Int × List Int × List Int)
 | 0, _, _, _, _ => none
 | k + 1, x2, x629000, x629001, x629002 => if x2 < 6 then (if x629000.length < 17592186044416 then (if x629001.length < 17592186044416 then (spec_UnitCost.l1 k x2 0 (x629000 ++ [1]) (x629001 ++ [1]) x629002) else (none)) else (none)) else (some (x629000, x629001, x629002))
def spec_UnitCost.l1 : Nat → Int → Int → List Int → List Int → List Int → Option (List Int × List Int × List Int)
 | 0, _, _, _, _, _ => none
 | k + 1, x2, x3, x629000, x629001, x629002 => if x3 < 6 then (if x2 = x3 then (if x629002.length < 17592186044416 then (spec_UnitCost.l1 k x2 (wrap64 (x3 + 1)) x629000 x629001 (x629002 ++ [0])) else (none)) else (if x629002.length < 17592186044416 then (spec_UnitCost.l1 k x2 (wrap64 (x3 + 1)) x629000 x629001 (x629002 ++ [1])) else (none))) else (spec_UnitCost.l0 k (wrap64 (x2 + 1)) x629000 x629001 x629002)
end
def spec_UnitCost.f (k : Nat)  : Option (List Int × List Int × List Int) := spec_UnitCost.l0 k 0 ([] : List Int) ([] : List Int) ([] : List Int)
set_option maxHeartbeats 8000000 in
set_option maxRecDepth 100000 in
theorem spec_UnitCost.calls (k : Nat)  (r1 : List Int) (r2 : List Int) (r3 : List Int) (w : World) (h : spec_UnitCost.f k  = some (r1, r2, r3)) :
  Calls Try.prog 48 #[] w fun e w' => ∃ v0_ v1_ v2_ : Value, e = .returned (.agg #[v0_, v1_, v2_]) ∧ Kd.R (Kd.int .i64) 3 w' w.heap.size (fun k_ => some k_ ≠ (v1_ : Value).ownBlock ∧ some k_ ≠ (v2_ : Value).ownBlock) v0_ r1 ∧ Kd.R (Kd.int .i64) 3 w' w.heap.size (fun k_ => some k_ ≠ (v0_ : Value).ownBlock ∧ some k_ ≠ (v2_ : Value).ownBlock) v1_ r2 ∧ Kd.R (Kd.int .i64) 3 w' w.heap.size (fun k_ => some k_ ≠ (v0_ : Value).ownBlock ∧ some k_ ≠ (v1_ : Value).ownBlock) v2_ r3 ∧ Below w.heap.size w w' := by
 have hu51 := Try.underlying51
 have HB := Aside0.mk (Below.refl w.heap.size w)
 have H : (spec_UnitCost.l0 k 0 ([] : List Int) ([] : List Int) ([] : List Int)) = some (r1, r2, r3) := h
 clear h
 have H' := Aside0.mk H
 clear H
 go_enter Try.func48, Try.ntmps48
 go_wp2_with (first | ((with_reducible refine gate_dst (N := 0) rfl ?_); refine box_event ?hg (N := 0) ?hd (cs := #[.slice none 0 0, .slice none 0 0, .slice none 0 0]) (t := 51) ?hr ?_; (case hd => rfl); (case hg => rfl); (case hr => exact z21_); intro gb627 hg w1 hbox hb; have BK627 := Aside0.mk (hbox); have GW627 := Aside0.mk ((by rw [hg]; exact (below_size z0_) : w.heap.size ≤ gb627)); have GE627 := Aside0.mk ((by rw [hg]; exact (below_size z0_) : w.heap.size ≤ gb627)); replace HB := Aside0.mk (below_step z0_ hb); clear hb hbox hg) | ((with_reducible refine gate_dst (N := 1) rfl ?_); refine box_event ?hg (N := 1) ?hd (cs := #[.slice none 0 0, .slice none 0 0, .slice none 0 0]) (t := 51) ?hr ?_; (case hd => rfl); (case hg => rfl); (case hr => exact z21_); intro gb628 hg w2 hbox hb; have BK628 := Aside0.mk (hbox); have GW628 := Aside0.mk ((by rw [hg]; exact (below_size z138_) : w.heap.size ≤ gb628)); have GE628 := Aside0.mk ((by rw [hg]; exact (below_size z138_) : w.heap.size ≤ gb628)); replace HB := Aside0.mk (below_step z138_ hb); have NB627_628 := Aside0.mk ((by rw [hg]; exact Nat.ne_of_lt (blk_lt (g := gb627) (o := .cells #[.slice none 0 0, .slice none 0 0, .slice none 0 0] 51 (0, 0)) z102_) : gb627 ≠ gb628)); have NB628_627 := Aside0.mk ((by rw [hg]; exact Nat.ne_of_gt (blk_lt (g := gb627) (o := .cells #[.slice none 0 0, .slice none 0 0, .slice none 0 0] 51 (0, 0)) z102_) : gb628 ≠ gb627)); replace BK627 := Aside0.mk (blk_below (g := gb627) (o := .cells #[.slice none 0 0, .slice none 0 0, .slice none 0 0] 51 (0, 0)) z102_ hb); clear hb hbox hg; have hnb3 := NB628_627.out; have hnc3 := NB627_628.out; obtain ⟨hcz4_0, hcz4_1, hcz4_2, hfz4_0, hfz4_1, hfz4_2⟩ := bx3_ BK628.out))
 go_loopg [2] k (fun kq v2 w' => ∃ (x2_1 : Int) (x629000_1 : List Int) (x629001_1 : List Int) (x629002_1 : List Int) (u629000 : Value) (u629001 : Value) (u629002 : Value), v2 = .int .i64 x2_1 ∧ Aside0 (spec_UnitCost.l0 kq x2_1 x629000_1 x629001_1 x629002_1 = some (r1, r2, r3)) ∧ Aside0 (kq ≤ k) ∧ Aside0 (Kd.R (Kd.int .i64) 3 w' w.heap.size (fun k_ => some k_ ≠ (u629001 : Value).ownBlock ∧ some k_ ≠ (u629002 : Value).ownBlock) u629000 x629000_1) ∧ Aside0 (Kd.R (Kd.int .i64) 3 w' w.heap.size (fun k_ => some k_ ≠ (u629000 : Value).ownBlock ∧ some k_ ≠ (u629002 : Value).ownBlock) u629001 x629001_1) ∧ Aside0 (Kd.R (Kd.int .i64) 3 w' w.heap.size (fun k_ => some k_ ≠ (u629000 : Value).ownBlock ∧ some k_ ≠ (u629001 : Value).ownBlock) u629002 x629002_1) ∧ Aside0 (w'.heap[gb627]? = some (.cells #[(.slice none 0 0), (.slice none 0 0), (.slice none 0 0)] 51 (0, 0))) ∧ Aside0 (w'.heap[gb628]? = some (.cells #[u629000, u629001, u629002] 51 (0, 0))) ∧ Aside0 (Below w.heap.size w w'))
 case atStart => exact ⟨(0), (([] : List Int)), (([] : List Int)), (([] : List Int)), (.slice none 0 0), (.slice none 0 0), (.slice none 0 0), z15_, H', ⟨Nat.le_refl _⟩, ⟨z147_⟩, ⟨z147_⟩, ⟨z147_⟩, ⟨by (with_reducible repeat (first | refine blk_drewN ?_ _ | refine blk_drew ?_ | refine blk_alloc ?_ _)); refine blk_far ?_ NB627_628.out _; (with_reducible repeat (first | refine blk_drewN ?_ _ | refine blk_drew ?_ | refine blk_alloc ?_ _)); refine blk_far ?_ NB627_628.out _; (with_reducible repeat (first | refine blk_drewN ?_ _ | refine blk_drew ?_ | refine blk_alloc ?_ _)); refine blk_far ?_ NB627_628.out _; (with_reducible repeat (first | refine blk_drewN ?_ _ | refine blk_drew ?_ | refine blk_alloc ?_ _)); exact BK627.out⟩, ⟨by (with_reducible repeat (first | refine blk_drewN ?_ _ | refine blk_drew ?_ | refine blk_alloc ?_ _)); refine blk_put (cs := #[.slice none 0 0, .slice none 0 0, .slice none 0 0]) ?_ 2 _ rfl; (with_reducible repeat (first | refine blk_drewN ?_ _ | refine blk_drew ?_ | refine blk_alloc ?_ _)); refine blk_put (cs := #[.slice none 0 0, .slice none 0 0, .slice none 0 0]) ?_ 1 _ rfl; (with_reducible repeat (first | refine blk_drewN ?_ _ | refine blk_drew ?_ | refine blk_alloc ?_ _)); refine blk_put (cs := #[.slice none 0 0, .slice none 0 0, .slice none 0 0]) ?_ 0 _ rfl; (with_reducible repeat (first | refine blk_drewN ?_ _ | refine blk_drew ?_ | refine blk_alloc ?_ _)); exact BK628.out⟩, ⟨z39_⟩⟩
 case round =>
  clear H'
  try clear p2
  try clear c3
  try clear c4
  try clear hcz4_0
  try clear hcz4_1
  try clear hcz4_2
  try clear hfz4_0
  try clear hfz4_1
  try clear hfz4_2
  obtain ⟨x2_1, x629000_1, x629001_1, x629002_1, u629000, u629001, u629002, rfl, HA, HK1, HO_629000, HO_629001, HO_629002, BK627, BK628, HB⟩ := hrel
  cases gk with
  | zero => exact absurd HA.out (by simp [spec_UnitCost.l0])
  | succ k1 =>
   have H := HA.out
   clear HA
   simp only [spec_UnitCost.l0] at H
   by_cases c5 : x2_1 < 6
   ·rw [if_pos c5] at H
    have c5b0 := decide_eq_true c5
    clear c5
    obtain ⟨c6, H⟩ := ifs_ H
    have LMc6 := Aside0.mk c6
    clear c6
    first | ((with_reducible have hz_ := gy_ H); obtain ⟨y629, Ny629, H⟩ := hz_) | (generalize hy_ : (x629000_1 ++ [1]) = y629 at H; have Ny629 := Aside0.mk hy_.symm; clear hy_)
    obtain ⟨c7, H⟩ := ifs_ H
    have LMc7 := Aside0.mk c7
    clear c7
    first | ((with_reducible have hz_ := gy_ H); obtain ⟨y632, Ny632, H⟩ := hz_) | (generalize hy_ : (x629001_1 ++ [1]) = y632 at H; have Ny632 := Aside0.mk hy_.symm; clear hy_)
    have H' := Aside0.mk H
    clear H
    have hnb8 := NB628_627.out
    have hnc8 := NB627_628.out
    obtain ⟨hcz9_0, hcz9_1, hcz9_2, hfz9_0, hfz9_1, hfz9_2⟩ := bx3_ BK628.out
    go_wp2_with (first | ((with_reducible refine gate_builtin (b := .append) (xs := #[.tmp 11, .tmp 12]) rfl ?_); at_builtin; refine Kd.R_append (Kd.int .i64) (w0 := w) w.heap.size rfl (.tmp 11) (.tmp 12) 49 3 (.int .i64 0) 8 rfl Try.underlying49 info3 rfl (by decide) (by omega) u629000 x629000_1 1 [.int .i64 1] (fun k_ => some k_ ≠ (u629001 : Value).ownBlock ∧ some k_ ≠ (u629002 : Value).ownBlock) (fun _ => False) rfl rfl ?aP (fun _ hk => hk.elim) ?aF ?aO ?aB ?aS ?aL ?_; (case aP => exact rfl); (case aB => exact z94_); (case aF => exact (fun k_ hk => ⟨Kd.fresh' (Kd.R_lt z119_) k_ hk, Kd.fresh' (Kd.R_lt z146_) k_ hk⟩)); (case aO => exact z120_); (case aS => exact z89_); (case aL => have := LMc6.out; omega); intro v630 w10 ho hb hg hat; rw [← Ny629.out] at ho; replace HO_629001 := Aside0.mk (Kd.R_after (ok := (fun k_ => some k_ ≠ (u629002 : Value).ownBlock)) (by (with_reducible repeat (first | apply Kd.R_alloc | apply Kd.R_drewN | apply Kd.R_drew)); exact Kd.R_mono HO_629001.out (fun _ hk => ⟨hk.2, hk.1⟩)) hg hat); replace HO_629002 := Aside0.mk (Kd.R_after (ok := (fun k_ => some k_ ≠ (u629001 : Value).ownBlock)) (by (with_reducible repeat (first | apply Kd.R_alloc | apply Kd.R_drewN | apply Kd.R_drew)); exact Kd.R_mono HO_629002.out (fun _ hk => ⟨hk.2, hk.1⟩)) hg hat); replace BK627 := Aside0.mk (blk_grown (g := gb627) (o := .cells #[.slice none 0 0, .slice none 0 0, .slice none 0 0] 51 (0, 0)) z102_ hg (Kd.R_ne HO_629000.out BK627.out (by decide))); replace BK628 := Aside0.mk (blk_grown (g := gb628) (o := .cells #[u629000, u629001, u629002] 51 (0, 0)) z142_ hg (Kd.R_ne HO_629000.out BK628.out (by decide))); replace HB := Aside0.mk (hb); have HO631 := Aside0.mk (ho); clear HO_629000; clear ho hb hg hat; obtain ⟨Ao11, co11, eo11⟩ := Kd.R_slice HO631.out; subst eo11; obtain ⟨hcz12_0, hcz12_1, hcz12_2, hfz12_0, hfz12_1, hfz12_2⟩ := bx3_ BK628.out) | ((with_reducible refine gate_builtin (b := .append) (xs := #[.tmp 16, .tmp 17]) rfl ?_); at_builtin; refine Kd.R_append (Kd.int .i64) (w0 := w) w.heap.size rfl (.tmp 16) (.tmp 17) 49 3 (.int .i64 0) 8 rfl Try.underlying49 info3 rfl (by decide) (by omega) u629001 x629001_1 1 [.int .i64 1] (fun k_ => some k_ ≠ (u629002 : Value).ownBlock ∧ some k_ ≠ (.slice Ao11 y629.length co11 : Value).ownBlock) (fun _ => False) rfl z21_ ?aP (fun _ hk => hk.elim) ?aF ?aO ?aB ?aS ?aL ?_; (case aP => exact rfl); (case aB => exact z94_); (case aF => exact (fun k_ hk => ⟨Kd.fresh' (Kd.R_lt (by (with_reducible repeat (first | apply Kd.R_alloc | apply Kd.R_drewN | apply Kd.R_drew)); exact (Kd.R_mono (Kd.R_far (p := ⟨gb628, 0, none⟩) (Kd.R_types HO_629002.out BK628.out (by decide)) (fun _ hk => hk.2) (.slice Ao11 y629.length co11)) (fun _ h_ => h_.1)))) k_ hk, Kd.fresh' (Kd.R_lt (by (with_reducible repeat (first | apply Kd.R_alloc | apply Kd.R_drewN | apply Kd.R_drew)); exact (Kd.R_mono (Kd.R_far (p := ⟨gb628, 0, none⟩) (Kd.R_types HO631.out BK628.out (by decide)) (fun _ hk => hk.2) (.slice Ao11 y629.length co11)) (fun _ h_ => h_.1)))) k_ hk⟩)); (case aO => exact (by (with_reducible repeat (first | apply Kd.R_alloc | apply Kd.R_drewN | apply Kd.R_drew)); exact Kd.R_mono (Kd.R_far (p := ⟨gb628, 0, none⟩) (Kd.R_types HO_629001.out BK628.out (by decide)) (fun _ hk => hk.2) (.slice Ao11 y629.length co11)) (fun _ hk => ⟨hk.1.1, hk.1.2⟩))); (case aS => exact z89_); (case aL => have := LMc7.out; omega); intro v633 w13 ho hb hg hat; rw [← Ny632.out] at ho; replace HO_629002 := Aside0.mk (Kd.R_after (ok := (fun k_ => some k_ ≠ (.slice Ao11 y629.length co11 : Value).ownBlock)) (by (with_reducible repeat (first | apply Kd.R_alloc | apply Kd.R_drewN | apply Kd.R_drew)); exact Kd.R_mono (Kd.R_far (p := ⟨gb628, 0, none⟩) (Kd.R_types HO_629002.out BK628.out (by decide)) (fun _ hk => hk.2) (.slice Ao11 y629.length co11)) (fun _ hk => ⟨hk.1.2, hk.1.1⟩)) hg hat); replace BK627 := Aside0.mk (blk_grown (g := gb627) (o := .cells #[.slice none 0 0, .slice none 0 0, .slice none 0 0] 51 (0, 0)) z80_ hg (Kd.R_ne HO_629001.out BK627.out (by decide))); replace HO631 := Aside0.mk (Kd.R_after (ok := (fun k_ => some k_ ≠ (u629002 : Value).ownBlock)) (by (with_reducible repeat (first | apply Kd.R_alloc | apply Kd.R_drewN | apply Kd.R_drew)); exact Kd.R_mono (Kd.R_far (p := ⟨gb628, 0, none⟩) (Kd.R_types HO631.out BK628.out (by decide)) (fun _ hk => hk.2) (.slice Ao11 y629.length co11)) (fun _ hk => ⟨hk.1.2, hk.1.1⟩)) hg hat); replace BK628 := Aside0.mk (blk_grown (g := gb628) (o := .cells #[.slice Ao11 y629.length co11, u629001, u629002] 51 (0, 0)) (by (with_reducible repeat (first | refine blk_drewN ?_ _ | refine blk_drew ?_ | refine blk_alloc ?_ _)); refine blk_put (cs := #[u629000, u629001, u629002]) ?_ 0 _ rfl; (with_reducible repeat (first | refine blk_drewN ?_ _ | refine blk_drew ?_ | refine blk_alloc ?_ _)); exact BK628.out) hg (Kd.R_ne HO_629001.out BK628.out (by decide))); replace HB := Aside0.mk (hb); have HO634 := Aside0.mk (ho); clear HO_629001; clear ho hb hg hat; obtain ⟨Ao14, co14, eo14⟩ := Kd.R_slice HO634.out; subst eo14; obtain ⟨hcz15_0, hcz15_1, hcz15_2, hfz15_0, hfz15_1, hfz15_2⟩ := bx3_ BK628.out))
    go_loopg [3] k1 (fun kq v3 w' => ∃ (x3_2 : Int) (x629002_2 : List Int) (u629002 : Value), v3 = .int .i64 x3_2 ∧ Aside0 (spec_UnitCost.l1 kq x2_1 x3_2 y629 y632 x629002_2 = some (r1, r2, r3)) ∧ Aside0 (kq ≤ k1) ∧ Aside0 (Kd.R (Kd.int .i64) 3 w' w.heap.size (fun k_ => some k_ ≠ ((.slice Ao14 y632.length co14) : Value).ownBlock ∧ some k_ ≠ (u629002 : Value).ownBlock) (.slice Ao11 y629.length co11) y629) ∧ Aside0 (Kd.R (Kd.int .i64) 3 w' w.heap.size (fun k_ => some k_ ≠ ((.slice Ao11 y629.length co11) : Value).ownBlock ∧ some k_ ≠ (u629002 : Value).ownBlock) (.slice Ao14 y632.length co14) y632) ∧ Aside0 (Kd.R (Kd.int .i64) 3 w' w.heap.size (fun k_ => some k_ ≠ ((.slice Ao11 y629.length co11) : Value).ownBlock ∧ some k_ ≠ ((.slice Ao14 y632.length co14) : Value).ownBlock) u629002 x629002_2) ∧ Aside0 (w'.heap[gb627]? = some (.cells #[(.slice none 0 0), (.slice none 0 0), (.slice none 0 0)] 51 (0, 0))) ∧ Aside0 (w'.heap[gb628]? = some (.cells #[(.slice Ao11 y629.length co11), (.slice Ao14 y632.length co14), u629002] 51 (0, 0))) ∧ Aside0 (Below w.heap.size w w'))
    case atStart => exact ⟨(0), (x629002_1), (u629002), z15_, H', ⟨Nat.le_refl _⟩, ⟨by (with_reducible repeat (first | apply Kd.R_alloc | apply Kd.R_drewN | apply Kd.R_drew)); exact Kd.R_mono (Kd.R_far (p := ⟨gb628, 1, none⟩) (Kd.R_types HO631.out BK628.out (by decide)) (fun _ hk => hk.2) (.slice Ao14 y632.length co14)) (fun _ hk => ⟨hk.1.2, hk.1.1⟩)⟩, ⟨by (with_reducible repeat (first | apply Kd.R_alloc | apply Kd.R_drewN | apply Kd.R_drew)); exact Kd.R_mono (Kd.R_far (p := ⟨gb628, 1, none⟩) (Kd.R_types HO634.out BK628.out (by decide)) (fun _ hk => hk.2) (.slice Ao14 y632.length co14)) (fun _ hk => ⟨hk.1.2, hk.1.1⟩)⟩, ⟨by (with_reducible repeat (first | apply Kd.R_alloc | apply Kd.R_drewN | apply Kd.R_drew)); exact Kd.R_mono (Kd.R_far (p := ⟨gb628, 1, none⟩) (Kd.R_types HO_629002.out BK628.out (by decide)) (fun _ hk => hk.2) (.slice Ao14 y632.length co14)) (fun _ hk => ⟨hk.1.1, hk.1.2⟩)⟩, ⟨z80_⟩, ⟨by (with_reducible repeat (first | refine blk_drewN ?_ _ | refine blk_drew ?_ | refine blk_alloc ?_ _)); refine blk_put (cs := #[.slice Ao11 y629.length co11, u629001, u629002]) ?_ 1 _ rfl; (with_reducible repeat (first | refine blk_drewN ?_ _ | refine blk_drew ?_ | refine blk_alloc ?_ _)); exact BK628.out⟩, ⟨z39_⟩⟩
    case round =>
     clear H'
     try clear p2
     try clear c3
     try clear c4
     try clear c5
     try clear c5b0
     try clear c6
     try clear c7
     try clear c8
     try clear hcz12_0
     try clear hcz12_1
     try clear hcz12_2
     try clear hcz15_0
     try clear hcz15_1
     try clear hcz15_2
     try clear hcz4_0
     try clear hcz4_1
     try clear hcz4_2
     try clear hcz9_0
     try clear hcz9_1
     try clear hcz9_2
     try clear hfz12_0
     try clear hfz12_1
     try clear hfz12_2
     try clear hfz15_0
     try clear hfz15_1
     try clear hfz15_2
     try clear hfz4_0
     try clear hfz4_1
     try clear hfz4_2
     try clear hfz9_0
     try clear hfz9_1
     try clear hfz9_2
     try clear p2
     obtain ⟨x3_2, x629002_2, u629002, rfl, HA, HK2, HO_629000, HO_629001, HO_629002, BK627, BK628, HB⟩ := hrel
     cases gk with
     | zero => exact absurd HA.out (by simp [spec_UnitCost.l1])
     | succ k2 =>
      have H := HA.out
      clear HA
      simp only [spec_UnitCost.l1] at H
      by_cases c16 : x3_2 < 6
      ·rw [if_pos c16] at H
       have c16b0 := decide_eq_true c16
       clear c16
       by_cases c17 : x2_1 = x3_2
       ·rw [if_pos c17] at H
        have c17b0 : (x2_1 == x3_2) = true := beq_iff_eq.mpr c17
        have c17b1 : (x2_1 != x3_2) = false := bne_eq_false_iff_eq.mpr c17
        clear c17
        obtain ⟨c18, H⟩ := ifs_ H
        have LMc18 := Aside0.mk c18
        clear c18
        first | ((with_reducible have hz_ := gy_ H); obtain ⟨y635, Ny635, H⟩ := hz_) | (generalize hy_ : (x629002_2 ++ [0]) = y635 at H; have Ny635 := Aside0.mk hy_.symm; clear hy_)
        have H' := Aside0.mk H
        clear H
        have hnb19 := NB628_627.out
        have hnc19 := NB627_628.out
        obtain ⟨hcz20_0, hcz20_1, hcz20_2, hfz20_0, hfz20_1, hfz20_2⟩ := bx3_ BK628.out
        go_wp2_with (first | ((with_reducible refine gate_builtin (b := .append) (xs := #[.tmp 28, .tmp 30]) rfl ?_); at_builtin; refine Kd.R_append (Kd.int .i64) (w0 := w) w.heap.size rfl (.tmp 28) (.tmp 30) 49 3 (.int .i64 0) 8 rfl Try.underlying49 info3 rfl (by decide) (by omega) u629002 x629002_2 0 [.int .i64 0] (fun k_ => some k_ ≠ (.slice Ao11 y629.length co11 : Value).ownBlock ∧ some k_ ≠ (.slice Ao14 y632.length co14 : Value).ownBlock) (fun _ => False) rfl rfl ?aP (fun _ hk => hk.elim) ?aF ?aO ?aB ?aS ?aL ?_; (case aP => exact rfl); (case aB => exact z94_); (case aF => exact z121_); (case aO => exact z207_); (case aS => exact z89_); (case aL => exact z230_); intro v636 w21 ho hb hg hat; rw [← Ny635.out] at ho; replace HO_629000 := Aside0.mk (Kd.R_after (ok := (fun k_ => some k_ ≠ (.slice Ao14 y632.length co14 : Value).ownBlock)) z120_ hg hat); replace HO_629001 := Aside0.mk (Kd.R_after (ok := (fun k_ => some k_ ≠ (.slice Ao11 y629.length co11 : Value).ownBlock)) z119_ hg hat); replace BK627 := Aside0.mk (blk_grown (g := gb627) (o := .cells #[.slice none 0 0, .slice none 0 0, .slice none 0 0] 51 (0, 0)) z102_ hg (Kd.R_ne HO_629002.out BK627.out (by decide))); replace BK628 := Aside0.mk (blk_grown (g := gb628) (o := .cells #[.slice Ao11 y629.length co11, .slice Ao14 y632.length co14, u629002] 51 (0, 0)) z142_ hg (Kd.R_ne HO_629002.out BK628.out (by decide))); replace HB := Aside0.mk (hb); have HO637 := Aside0.mk (ho); clear HO_629002; clear ho hb hg hat; obtain ⟨Ao22, co22, eo22⟩ := Kd.R_slice HO637.out; subst eo22; obtain ⟨hcz23_0, hcz23_1, hcz23_2, hfz23_0, hfz23_1, hfz23_2⟩ := bx3_ BK628.out))
        go_roundg k2
        case measure => have := HK1.out; have := HK2.out; omega
        case rel => exact ⟨(wrap64 (x3_2 + 1)), (y635), (.slice Ao22 y635.length co22), z15_, H', ⟨by have := HK1.out; have := HK2.out; omega⟩, ⟨by (with_reducible repeat (first | apply Kd.R_alloc | apply Kd.R_drewN | apply Kd.R_drew)); exact Kd.R_mono (Kd.R_far (p := ⟨gb628, 2, none⟩) (Kd.R_types HO_629000.out BK628.out (by decide)) (fun _ hk => hk.2) (.slice Ao22 y635.length co22)) (fun _ hk => ⟨hk.1.1, hk.1.2⟩)⟩, ⟨by (with_reducible repeat (first | apply Kd.R_alloc | apply Kd.R_drewN | apply Kd.R_drew)); exact Kd.R_mono (Kd.R_far (p := ⟨gb628, 2, none⟩) (Kd.R_types HO_629001.out BK628.out (by decide)) (fun _ hk => hk.2) (.slice Ao22 y635.length co22)) (fun _ hk => ⟨hk.1.1, hk.1.2⟩)⟩, ⟨by (with_reducible repeat (first | apply Kd.R_alloc | apply Kd.R_drewN | apply Kd.R_drew)); exact Kd.R_mono (Kd.R_far (p := ⟨gb628, 2, none⟩) (Kd.R_types HO637.out BK628.out (by decide)) (fun _ hk => hk.2) (.slice Ao22 y635.length co22)) (fun _ hk => ⟨hk.1.1, hk.1.2⟩)⟩, ⟨z80_⟩, ⟨z118_⟩, ⟨z39_⟩⟩
       ·rw [if_neg c17] at H
        have c17b0 : (x2_1 == x3_2) = false := beq_eq_false_iff_ne.mpr c17
        have c17b1 : (x2_1 != x3_2) = true := bne_iff_ne.mpr c17
        obtain ⟨c24, H⟩ := ifs_ H
        have LMc24 := Aside0.mk c24
        clear c24
        first | ((with_reducible have hz_ := gy_ H); obtain ⟨y638, Ny638, H⟩ := hz_) | (generalize hy_ : (x629002_2 ++ [1]) = y638 at H; have Ny638 := Aside0.mk hy_.symm; clear hy_)
        have H' := Aside0.mk H
        clear H
        have hnb25 := NB628_627.out
        have hnc25 := NB627_628.out
        obtain ⟨hcz26_0, hcz26_1, hcz26_2, hfz26_0, hfz26_1, hfz26_2⟩ := bx3_ BK628.out
        go_wp2_with (first | ((with_reducible refine gate_builtin (b := .append) (xs := #[.tmp 28, .tmp 30]) rfl ?_); at_builtin; refine Kd.R_append (Kd.int .i64) (w0 := w) w.heap.size rfl (.tmp 28) (.tmp 30) 49 3 (.int .i64 0) 8 rfl Try.underlying49 info3 rfl (by decide) (by omega) u629002 x629002_2 1 [.int .i64 1] (fun k_ => some k_ ≠ (.slice Ao11 y629.length co11 : Value).ownBlock ∧ some k_ ≠ (.slice Ao14 y632.length co14 : Value).ownBlock) (fun _ => False) rfl rfl ?aP (fun _ hk => hk.elim) ?aF ?aO ?aB ?aS ?aL ?_; (case aP => exact rfl); (case aB => exact z94_); (case aF => exact z121_); (case aO => exact z207_); (case aS => exact z89_); (case aL => have := LMc24.out; omega); intro v639 w27 ho hb hg hat; rw [← Ny638.out] at ho; replace HO_629000 := Aside0.mk (Kd.R_after (ok := (fun k_ => some k_ ≠ (.slice Ao14 y632.length co14 : Value).ownBlock)) z120_ hg hat); replace HO_629001 := Aside0.mk (Kd.R_after (ok := (fun k_ => some k_ ≠ (.slice Ao11 y629.length co11 : Value).ownBlock)) z119_ hg hat); replace BK627 := Aside0.mk (blk_grown (g := gb627) (o := .cells #[.slice none 0 0, .slice none 0 0, .slice none 0 0] 51 (0, 0)) z102_ hg (Kd.R_ne HO_629002.out BK627.out (by decide))); replace BK628 := Aside0.mk (blk_grown (g := gb628) (o := .cells #[.slice Ao11 y629.length co11, .slice Ao14 y632.length co14, u629002] 51 (0, 0)) z142_ hg (Kd.R_ne HO_629002.out BK628.out (by decide))); replace HB := Aside0.mk (hb); have HO640 := Aside0.mk (ho); clear HO_629002; clear ho hb hg hat; obtain ⟨Ao28, co28, eo28⟩ := Kd.R_slice HO640.out; subst eo28; obtain ⟨hcz29_0, hcz29_1, hcz29_2, hfz29_0, hfz29_1, hfz29_2⟩ := bx3_ BK628.out))
        go_roundg k2
        case measure => have := HK1.out; have := HK2.out; omega
        case rel => exact ⟨(wrap64 (x3_2 + 1)), (y638), (.slice Ao28 y638.length co28), z15_, H', ⟨by have := HK1.out; have := HK2.out; omega⟩, ⟨by (with_reducible repeat (first | apply Kd.R_alloc | apply Kd.R_drewN | apply Kd.R_drew)); exact Kd.R_mono (Kd.R_far (p := ⟨gb628, 2, none⟩) (Kd.R_types HO_629000.out BK628.out (by decide)) (fun _ hk => hk.2) (.slice Ao28 y638.length co28)) (fun _ hk => ⟨hk.1.1, hk.1.2⟩)⟩, ⟨by (with_reducible repeat (first | apply Kd.R_alloc | apply Kd.R_drewN | apply Kd.R_drew)); exact Kd.R_mono (Kd.R_far (p := ⟨gb628, 2, none⟩) (Kd.R_types HO_629001.out BK628.out (by decide)) (fun _ hk => hk.2) (.slice Ao28 y638.length co28)) (fun _ hk => ⟨hk.1.1, hk.1.2⟩)⟩, ⟨by (with_reducible repeat (first | apply Kd.R_alloc | apply Kd.R_drewN | apply Kd.R_drew)); exact Kd.R_mono (Kd.R_far (p := ⟨gb628, 2, none⟩) (Kd.R_types HO640.out BK628.out (by decide)) (fun _ hk => hk.2) (.slice Ao28 y638.length co28)) (fun _ hk => ⟨hk.1.1, hk.1.2⟩)⟩, ⟨z80_⟩, ⟨z118_⟩, ⟨z39_⟩⟩
      ·rw [if_neg c16] at H
       have c16b0 := decide_eq_false c16
       clear c16
       have H' := Aside0.mk H
       clear H
       go_wp2
       go_roundg k2
       case measure => have := HK1.out; have := HK2.out; omega
       case rel => exact ⟨(wrap64 (x2_1 + 1)), (y629), (y632), (x629002_2), (.slice Ao11 y629.length co11), (.slice Ao14 y632.length co14), (u629002), z15_, H', ⟨by have := HK1.out; have := HK2.out; omega⟩, ⟨z120_⟩, ⟨z119_⟩, ⟨z146_⟩, ⟨z102_⟩, ⟨z142_⟩, ⟨z39_⟩⟩
   ·rw [if_neg c5] at H
    have c5b0 := decide_eq_false c5
    clear c5
    simp only [Option.some.injEq, Prod.mk.injEq] at H
    obtain ⟨rfl, rfl, rfl⟩ := H
    have hnb30 := NB628_627.out
    have hnc30 := NB627_628.out
    obtain ⟨hcz31_0, hcz31_1, hcz31_2, hfz31_0, hfz31_1, hfz31_2⟩ := bx3_ BK628.out
    obtain ⟨Ao32, co32, eo32⟩ := Kd.R_slice HO_629000.out
    subst eo32
    obtain ⟨hcz33_0, hcz33_1, hcz33_2, hfz33_0, hfz33_1, hfz33_2⟩ := bx3_ BK627.out
    obtain ⟨Ao34, co34, eo34⟩ := Kd.R_slice HO_629001.out
    subst eo34
    obtain ⟨Ao35, co35, eo35⟩ := Kd.R_slice HO_629002.out
    subst eo35
    go_wp2
    refine bodyPost_ret (results_cell_row rfl _ _ gb627 51 #[.slice Ao32 x629000_1.length co32, .slice Ao34 x629001_1.length co34, .slice Ao35 x629002_1.length co35] (0, 0) _ rfl (by (with_reducible repeat (first | refine blk_drewN ?_ _ | refine blk_drew ?_ | refine blk_alloc ?_ _)); refine blk_put (cs := #[.slice Ao32 x629000_1.length co32, .slice Ao34 x629001_1.length co34, .slice none 0 0]) ?_ 2 _ rfl; (with_reducible repeat (first | refine blk_drewN ?_ _ | refine blk_drew ?_ | refine blk_alloc ?_ _)); refine blk_put (cs := #[.slice Ao32 x629000_1.length co32, .slice none 0 0, .slice none 0 0]) ?_ 1 _ rfl; (with_reducible repeat (first | refine blk_drewN ?_ _ | refine blk_drew ?_ | refine blk_alloc ?_ _)); refine blk_put (cs := #[.slice none 0 0, .slice none 0 0, .slice none 0 0]) ?_ 0 _ rfl; (with_reducible repeat (first | refine blk_drewN ?_ _ | refine blk_drew ?_ | refine blk_alloc ?_ _)); exact BK627.out) Try.underlying51 rfl (by kernel_rfl)) rfl ?_
    exact ⟨_, _, _, z6_, by (with_reducible repeat (first | apply Kd.R_alloc | apply Kd.R_drewN | apply Kd.R_drew)); exact Kd.R_mono (Kd.R_far (p := ⟨gb627, 2, none⟩) (Kd.R_far (p := ⟨gb627, 1, none⟩) (Kd.R_far (p := ⟨gb627, 0, none⟩) (Kd.R_types HO_629000.out BK627.out (by decide)) (fun _ hk => hk.2) (.slice Ao32 x629000_1.length co32)) (fun _ hk => hk.2) (.slice Ao34 x629001_1.length co34)) (fun _ hk => hk.2) (.slice Ao35 x629002_1.length co35)) (fun _ hk => ⟨hk.1.1, hk.1.2⟩), by (with_reducible repeat (first | apply Kd.R_alloc | apply Kd.R_drewN | apply Kd.R_drew)); exact Kd.R_mono (Kd.R_far (p := ⟨gb627, 2, none⟩) (Kd.R_far (p := ⟨gb627, 1, none⟩) (Kd.R_far (p := ⟨gb627, 0, none⟩) (Kd.R_types HO_629001.out BK627.out (by decide)) (fun _ hk => hk.2) (.slice Ao32 x629000_1.length co32)) (fun _ hk => hk.2) (.slice Ao34 x629001_1.length co34)) (fun _ hk => hk.2) (.slice Ao35 x629002_1.length co35)) (fun _ hk => ⟨hk.1.1, hk.1.2⟩), by (with_reducible repeat (first | apply Kd.R_alloc | apply Kd.R_drewN | apply Kd.R_drew)); exact Kd.R_mono (Kd.R_far (p := ⟨gb627, 2, none⟩) (Kd.R_far (p := ⟨gb627, 1, none⟩) (Kd.R_far (p := ⟨gb627, 0, none⟩) (Kd.R_types HO_629002.out BK627.out (by decide)) (fun _ hk => hk.2) (.slice Ao32 x629000_1.length co32)) (fun _ hk => hk.2) (.slice Ao34 x629001_1.length co34)) (fun _ hk => hk.2) (.slice Ao35 x629002_1.length co35)) (fun _ hk => ⟨hk.1.1, hk.1.2⟩), z39_⟩

/-! ### impl_pricesOk_lit1: function 148 -/
def impl_pricesOk_lit1.f (a0 : Int) : Option (Bool) := (impl_within.f a0 0 1000).bind fun t641 => (some (!t641))
set_option maxHeartbeats 8000000 in
set_option maxRecDepth 100000 in
theorem impl_pricesOk_lit1.calls (a0 : Int) (r : Bool) (w : World) (h : impl_pricesOk_lit1.f a0 = some r) :
  Calls Try.prog 148 #[.int .i64 a0] w fun e w' => e = .returned (.bool r) ∧ Drawn0 w w' := by
 have H : ((impl_within.f a0 0 1000).bind fun t641 => (some (!t641))) = some r := h
 clear h
 obtain ⟨t641, A2, H⟩ := bnd_ H
 obtain rfl := Option.some.inj H
 go_enter Try.func148, Try.ntmps148
 go_wp2_with (first | ((with_reducible refine gate_callee (f := 81) rfl ?_); refine goesL_ (some 4) rfl rfl Try.func81 (by kernel_rfl) rfl #[.int .i64 a0, .int .i64 0, .int .i64 1000] rfl z1_ ?_; (with_reducible refine (impl_within.calls a0 0 1000 t641 _ A2.out).mono ?_); rintro e w' ⟨rfl, ⟨nd, rfl⟩⟩; refine ⟨_, rfl, ?_⟩))
 go_ret
 exact ⟨z15_, z68_⟩

end Go.Proofs.Ytdapeboajjidmab.PFnInverted
