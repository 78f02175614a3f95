/- Laid by a program of this session out of the kit's print for the law FnPaths: what it says of the machine is proved here, function by function; each contract under the conditions that it names. -/
import Derived.Test.YtmbhlfcpdbbogabMFnPathsx0
import Derived.Test.YtmbhlfcpdbbogabMFnPathsx2
import Derived.Test.YtmbhlfcpdbbogabMFnPathsx3
namespace Go.Proofs.Ytmbhlfcpdbbogab.PFnPaths
open Go.RowKit Go.Proofs.YtmbhlfcpdbbogabW.PrintWords Go.Proofs.YtmbhlfcpdbbogabW.PrintLast Go.Proofs.YtmbhlfcpdbbogabW.PrintMore
attribute [local go_sem] max2_int min2_int max_two min_two max_three min_three max_four min_four   -- for this text's walks alone
set_option linter.unusedVariables false
set_option linter.unusedSimpArgs false

/-! ### impl_DomFrom: function 19 -/
mutual
def impl_DomFrom.l0 : Nat → List (S55) → List (S55) → Int → Int → List (S90) → Option ((List (S90)))
 | 0, _, _, _, _, _ => none
 | k + 1, x0, x15, x16, x17, x133000 => if x17 < x16 then (if 0 ≤ x17 then (if x17 < (x15.length : Int) then ((impl_unused.f).bind fun bt136 => ((impl_ParentOf.f k x0 x17).bind fun t144 => ((impl_KidsOf.f k x0 x17).bind fun t145 => (if (t145.length : Int) > 0 then (if 0 < (t145.length : Int) then (if 0 ≤ (wrap64 ((t145.length : Int) - 1)) then (if (wrap64 ((t145.length : Int) - 1)) < (t145.length : Int) then (impl_DomFrom.j1 k x0 x17 x15 x16 x17 x133000 true ((rd_T55 x15 x17).f0) t144 (rd t145 0) (rd t145 (wrap64 ((t145.length : Int) - 1))) bt136.2.2.2.2.2.1 bt136.2.2.2.2.2.2) else (none)) else (none)) else (none)) else (impl_DomFrom.j1 k x0 x17 x15 x16 x17 x133000 true ((rd_T55 x15 x17).f0) t144 bt136.2.2.2.1 bt136.2.2.2.2.1 bt136.2.2.2.2.2.1 bt136.2.2.2.2.2.2))))) else (none)) else (none)) else (some x133000)
def impl_DomFrom.j1 : Nat → List (S55) → Int → List (S55) → Int → Int → List (S90) → Bool → Int → Int → Int → Int → Int → Int → Option ((List (S90)))
 | 0, _, _, _, _, _, _, _, _, _, _, _, _, _ => none
 | k + 1, x0, x4, x15, x16, x17, x133000, x144000, x144001, x144002, x144003, x144004, x144005, x144006 => (impl_KidsOf.f k x0 x144002).bind fun t150 => (if (t150.length : Int) > 0 then ((slices_Index_int_int.f k t150 x4).bind fun t153 => (if t153 > 0 then (if 0 ≤ (wrap64 (t153 - 1)) then (if (wrap64 (t153 - 1)) < (t150.length : Int) then (if (wrap64 (t153 + 1)) < (t150.length : Int) then (if 0 ≤ (wrap64 (t153 + 1)) then (if x133000.length < 2513169434916 then (impl_DomFrom.l0 k x0 x15 x16 (wrap64 (x17 + 1)) (x133000 ++ [(⟨x144000, x144001, x144002, x144003, x144004, rd t150 (wrap64 (t153 - 1)), rd t150 (wrap64 (t153 + 1))⟩ : S90)])) else (none)) else (none)) else (if x133000.length < 2513169434916 then (impl_DomFrom.l0 k x0 x15 x16 (wrap64 (x17 + 1)) (x133000 ++ [(⟨x144000, x144001, x144002, x144003, x144004, rd t150 (wrap64 (t153 - 1)), x144006⟩ : S90)])) else (none))) else (none)) else (none)) else (if (wrap64 (t153 + 1)) < (t150.length : Int) then (if 0 ≤ (wrap64 (t153 + 1)) then (if x133000.length < 2513169434916 then (impl_DomFrom.l0 k x0 x15 x16 (wrap64 (x17 + 1)) (x133000 ++ [(⟨x144000, x144001, x144002, x144003, x144004, x144005, rd t150 (wrap64 (t153 + 1))⟩ : S90)])) else (none)) else (none)) else (if x133000.length < 2513169434916 then (impl_DomFrom.l0 k x0 x15 x16 (wrap64 (x17 + 1)) (x133000 ++ [(⟨x144000, x144001, x144002, x144003, x144004, x144005, x144006⟩ : S90)])) else (none))))) else (if x133000.length < 2513169434916 then (impl_DomFrom.l0 k x0 x15 x16 (wrap64 (x17 + 1)) (x133000 ++ [(⟨x144000, x144001, x144002, x144003, x144004, x144005, x144006⟩ : S90)])) else (none)))
end
def impl_DomFrom.f (k : Nat) (l0 : List (S55)) : Option ((List (S90))) := (impl_TreeOk.f k l0).bind fun t133 => (if t133 = true then (impl_DomFrom.l0 k l0 l0 (l0.length : Int) 0 ([] : List (S90))) else (some ([] : List (S90))))
theorem impl_DomFrom.mono_l : ∀ k, (∀ y0 y1 y2 y3 y4, LeO (impl_DomFrom.l0 k y0 y1 y2 y3 y4) (impl_DomFrom.l0 (k + 1) y0 y1 y2 y3 y4)) ∧ (∀ y0 y1 y2 y3 y4 y5 y6 y7 y8 y9 y10 y11 y12, LeO (impl_DomFrom.j1 k y0 y1 y2 y3 y4 y5 y6 y7 y8 y9 y10 y11 y12) (impl_DomFrom.j1 (k + 1) y0 y1 y2 y3 y4 y5 y6 y7 y8 y9 y10 y11 y12))
 | 0 => ⟨fun _ _ _ _ _ r h => by simp [impl_DomFrom.l0] at h, fun _ _ _ _ _ _ _ _ _ _ _ _ _ r h => by simp [impl_DomFrom.j1] at h⟩
 | k + 1 => by
  obtain ⟨ih0, ih1⟩ := impl_DomFrom.mono_l k
  refine ⟨?_, ?_⟩
  ·intro y0 y1 y2 y3 y4
   unfold impl_DomFrom.l0
   repeat' first | (with_reducible first | exact ih0 _ _ _ _ _ | exact ih1 _ _ _ _ _ _ _ _ _ _ _ _ _ | exact impl_KidsOf.mono _ _ _ | exact impl_ParentOf.mono _ _ _ | exact impl_TreeOk.mono _ _ | exact slices_Index_int_int.mono _ _ _ | exact LeO.refl _ | exact LeO.none _ | refine LeO.ite ?_ ?_ | refine LeO.bind ?_ (fun _ => ?_)) | exact ih0 _ _ _ _ _ | exact ih1 _ _ _ _ _ _ _ _ _ _ _ _ _ | exact impl_KidsOf.mono _ _ _ | exact impl_ParentOf.mono _ _ _ | exact impl_TreeOk.mono _ _ | exact slices_Index_int_int.mono _ _ _ | exact LeO.none _ | refine LeO.ite ?_ ?_ | refine LeO.bind ?_ (fun _ => ?_)
  ·intro y0 y1 y2 y3 y4 y5 y6 y7 y8 y9 y10 y11 y12
   unfold impl_DomFrom.j1
   repeat' first | (with_reducible first | exact ih0 _ _ _ _ _ | exact ih1 _ _ _ _ _ _ _ _ _ _ _ _ _ | exact impl_KidsOf.mono _ _ _ | exact impl_ParentOf.mono _ _ _ | exact impl_TreeOk.mono _ _ | exact slices_Index_int_int.mono _ _ _ | exact LeO.refl _ | exact LeO.none _ | refine LeO.ite ?_ ?_ | refine LeO.bind ?_ (fun _ => ?_)) | exact ih0 _ _ _ _ _ | exact ih1 _ _ _ _ _ _ _ _ _ _ _ _ _ | exact impl_KidsOf.mono _ _ _ | exact impl_ParentOf.mono _ _ _ | exact impl_TreeOk.mono _ _ | exact slices_Index_int_int.mono _ _ _ | exact LeO.none _ | refine LeO.ite ?_ ?_ | refine LeO.bind ?_ (fun _ => ?_)
theorem impl_DomFrom.mono : ∀ a0 k, LeO (impl_DomFrom.f k a0) (impl_DomFrom.f (k + 1) a0) := by
 intro a0 k
 obtain ⟨ih0, ih1⟩ := impl_DomFrom.mono_l k
 unfold impl_DomFrom.f
 repeat' first | (with_reducible first | exact ih0 _ _ _ _ _ | exact ih1 _ _ _ _ _ _ _ _ _ _ _ _ _ | exact impl_KidsOf.mono _ _ _ | exact impl_ParentOf.mono _ _ _ | exact impl_TreeOk.mono _ _ | exact slices_Index_int_int.mono _ _ _ | exact LeO.refl _ | exact LeO.none _ | refine LeO.ite ?_ ?_ | refine LeO.bind ?_ (fun _ => ?_)) | exact ih0 _ _ _ _ _ | exact ih1 _ _ _ _ _ _ _ _ _ _ _ _ _ | exact impl_KidsOf.mono _ _ _ | exact impl_ParentOf.mono _ _ _ | exact impl_TreeOk.mono _ _ | exact slices_Index_int_int.mono _ _ _ | exact LeO.none _ | refine LeO.ite ?_ ?_ | refine LeO.bind ?_ (fun _ => ?_)
def impl_DomFrom.T8 : Bool × List (List Nat × List Nat) := (true, [([], []), ([0], [0]), ([], []), ([], []), ([2, 3], [2, 3]), ([], []), ([5, 4], [5]), ([0, 1, 5, 6], []), ([7, 1, 6, 0, 1, 5, 6], [1, 7]), ([0, 1, 2, 3, 4, 5, 6, 7, 8], []), ([9, 4, 8, 0, 1, 2, 3, 4, 5, 6, 7, 8], [4, 9])])
def impl_DomFrom.B8 : List Nat := [0, 1, 0, 0, 12, 0, 60, 127, 255, 511, 1023]
theorem impl_DomFrom.tab8 : rtab .any (opsOf Try.f19 8) = impl_DomFrom.T8 := by kernel_rfl
theorem impl_DomFrom.bits8 : waitsOk impl_DomFrom.T8.2 impl_DomFrom.B8 = true := by kernel_rfl
def impl_DomFrom.T11 : Bool × List (List Nat × List Nat) := (true, [([], []), ([0], [0]), ([1], [1]), ([], []), ([], []), ([4], [4]), ([5], [5]), ([3, 6], [3, 6]), ([7], [7]), ([0, 1, 2], []), ([9, 2, 0, 1, 2], [2, 9]), ([0, 1, 2, 3, 4, 5, 6, 7, 8, 9, 10], []), ([11, 8, 10, 0, 1, 2, 3, 4, 5, 6, 7, 8, 9, 10], [8, 11])])
def impl_DomFrom.B11 : List Nat := [0, 1, 3, 0, 0, 16, 48, 120, 248, 7, 519, 2047, 4095]
theorem impl_DomFrom.tab11 : rtab .any (opsOf Try.f19 11) = impl_DomFrom.T11 := by kernel_rfl
theorem impl_DomFrom.bits11 : waitsOk impl_DomFrom.T11.2 impl_DomFrom.B11 = true := by kernel_rfl
set_option maxHeartbeats 8000000 in
set_option maxRecDepth 100000 in
theorem impl_DomFrom.calls (k : Nat) (A0 : Option Addr) (c0 : Nat) (l0 : List (S55)) (r : List (S90)) (w : World) (hr0 : Kd.C k55 w A0 l0.length l0) (hc0 : l0.length ≤ c0) (h : impl_DomFrom.f k l0 = some r) :
  Calls Try.prog 19 #[.slice A0 l0.length c0] w fun e w' => ∃ v0_ : Value, e = .returned (.agg #[v0_]) ∧ Kd.R k90 90 w' w.heap.size (fun _ => True) v0_ r ∧ Below w.heap.size w w' := by
 have hu28 := Try.underlying28
 have hu55 := Try.underlying55
 have hu90 := Try.underlying90
 have HR0 := Aside0.mk hr0
 have HC0 := Aside0.mk hc0
 clear hr0 hc0
 have HB := Aside0.mk (Below.refl w.heap.size w)
 have H : ((impl_TreeOk.f k l0).bind fun t133 => (if t133 = true then (impl_DomFrom.l0 k l0 l0 (l0.length : Int) 0 ([] : List (S90))) else (some ([] : List (S90))))) = some r := h
 clear h
 obtain ⟨t133, A2, H⟩ := bnd_ H
 by_cases c3 : t133 = true
 ·subst c3
  replace H := ift_ H
  have H' := Aside0.mk H
  clear H
  go_enter Try.func19, Try.ntmps19
  go_wp2_with (first | ((with_reducible refine gate_dst (N := 2) rfl ?_); refine box_event ?hg (N := 2) ?hd (cs := #[.slice none 0 0]) (t := 28) ?hr ?_; (case hd => rfl); (case hg => rfl); (case hr => exact z35_); intro gb131 hg w4 hbox hb; have BK131 := Aside0.mk (hbox); have GW131 := Aside0.mk ((by rw [hg]; exact (below_size z0_) : w.heap.size ≤ gb131)); have GE131 := Aside0.mk ((by rw [hg]; exact (below_size z0_) : w.heap.size ≤ gb131)); replace HB := Aside0.mk (below_step z0_ hb); clear hb hbox hg) | ((with_reducible refine gate_dst (N := 3) rfl ?_); refine box_event ?hg (N := 3) ?hd (cs := #[.slice none 0 0]) (t := 28) ?hr ?_; (case hd => rfl); (case hg => rfl); (case hr => exact z35_); intro gb132 hg w5 hbox hb; have BK132 := Aside0.mk (hbox); have GW132 := Aside0.mk ((by rw [hg]; exact (below_size z66_) : w.heap.size ≤ gb132)); have GE132 := Aside0.mk ((by rw [hg]; exact (below_size z66_) : w.heap.size ≤ gb132)); replace HB := Aside0.mk (below_step z66_ hb); have NB131_132 := Aside0.mk ((by rw [hg]; exact Nat.ne_of_lt (blk_lt (g := gb131) (o := .cells #[.slice none 0 0] 28 (0, 0)) z25_) : gb131 ≠ gb132)); have NB132_131 := Aside0.mk ((by rw [hg]; exact Nat.ne_of_gt (blk_lt (g := gb131) (o := .cells #[.slice none 0 0] 28 (0, 0)) z25_) : gb132 ≠ gb131)); replace BK131 := Aside0.mk (blk_below (g := gb131) (o := .cells #[.slice none 0 0] 28 (0, 0)) z25_ hb); clear hb hbox hg; have hnb6 := NB132_131.out; have hnc6 := NB131_132.out; have hcz7_0 : w5.cell? ⟨gb132, 0, none⟩ = some (.slice none 0 0) := (blk_cell BK132.out 0).trans rfl; have hfz7_0 := blk_frozen BK132.out 0) | ((with_reducible refine gate_callee (f := 68) rfl ?_); refine goesL_ (some 12) rfl rfl Try.func68 (by kernel_rfl) rfl #[.slice A0 l0.length c0] rfl z1_ ?_; (with_reducible refine (impl_TreeOk.calls k _ _ l0 true _ ?side1 ?side2 A2.out).mono ?_); (case side1 => exact z117_); (case side2 => exact HC0.out); rintro e w8 ⟨rfl, hb⟩; refine ⟨_, rfl, ?_⟩; replace BK131 := Aside0.mk (blk_below (g := gb131) (o := .cells #[.slice none 0 0] 28 (0, 0)) z40_ hb); replace BK132 := Aside0.mk (blk_below (g := gb132) (o := .cells #[.slice none 0 0] 28 (0, 0)) z101_ hb); replace HB := Aside0.mk (below_step z36_ hb); (try clear hb)))
  go_loopg [17] k (fun kq v17 w' => ∃ (x17_1 : Int) (x133000_1 : List (S90)) (u133000 : Value), v17 = .int .i64 x17_1 ∧ Aside0 (impl_DomFrom.l0 kq l0 l0 (l0.length : Int) x17_1 x133000_1 = some r) ∧ Aside0 (kq ≤ k) ∧ Aside0 (Kd.R k90 90 w' w.heap.size (fun _ => True) u133000 x133000_1) ∧ Aside0 (w'.heap[gb131]? = some (.cells #[(.slice none 0 0)] 28 (0, 0))) ∧ Aside0 (w'.heap[gb132]? = some (.cells #[u133000] 28 (0, 0))) ∧ Aside0 (Below w.heap.size w w'))
  case atStart => exact ⟨(0), (([] : List (S90))), (.slice none 0 0), z15_, H', ⟨Nat.le_refl _⟩, ⟨z72_⟩, ⟨z25_⟩, ⟨z29_⟩, ⟨z36_⟩⟩
  case round =>
   clear H'
   try clear c1
   try clear p2
   try clear c3
   try clear c6
   try clear hcz7_0
   try clear hfz7_0
   obtain ⟨x17_1, x133000_1, u133000, rfl, HA, HK1, HO_133000, BK131, BK132, HB⟩ := hrel
   cases gk with
   | zero => exact absurd HA.out (by simp [impl_DomFrom.l0])
   | succ k1 =>
    have H := HA.out
    clear HA
    simp only [impl_DomFrom.l0] at H
    by_cases c9 : x17_1 < (l0.length : Int)
    ·rw [if_pos c9] at H
     have c9b0 : decide (x17_1 < (l0.length : Int)) = true := decide_eq_true c9
     clear c9
     obtain ⟨c10b0, H⟩ := ifd_ H
     obtain ⟨c11b0, H⟩ := ifd_ H
     replace H := Option.bind_eq_some_iff.mp H
     obtain ⟨⟨t136, t137, t138, t139, t140, t141, t142⟩, A120, H⟩ := H
     replace H : ((impl_ParentOf.f k1 l0 x17_1).bind fun t144 => ((impl_KidsOf.f k1 l0 x17_1).bind fun t145 => (if (t145.length : Int) > 0 then (if 0 < (t145.length : Int) then (if 0 ≤ (wrap64 ((t145.length : Int) - 1)) then (if (wrap64 ((t145.length : Int) - 1)) < (t145.length : Int) then (impl_DomFrom.j1 k1 l0 x17_1 l0 (l0.length : Int) x17_1 x133000_1 true ((rd_T55 l0 x17_1).f0) t144 (rd t145 0) (rd t145 (wrap64 ((t145.length : Int) - 1))) t141 t142) else (none)) else (none)) else (none)) else (impl_DomFrom.j1 k1 l0 x17_1 l0 (l0.length : Int) x17_1 x133000_1 true ((rd_T55 l0 x17_1).f0) t144 t139 t140 t141 t142)))) = some r := H
     have A12 := Aside0.mk A120
     clear A120
     obtain ⟨t144, A13, H⟩ := bnd_ H
     obtain ⟨t145, A14, H⟩ := bnd_ H
     have HC15 := Aside0.mk H
     clear H
     obtain ⟨p134, q134, ad134, e134, hx134_0, hx134_1⟩ := atb55_ HR0 HB x17_1
     cases e134
     try go_wp2_with (first | ((with_reducible refine gate_dst (N := 5) rfl ?_); refine box_event ?hg (N := 5) ?hd (cs := #[.int .i64 0, .int .i64 0]) (t := 55) ?hr ?_; (case hd => rfl); (case hg => rfl); (case hr => exact z35_); intro gb135 hg w16 hbox hb; replace HO_133000 := Aside0.mk (Kd.R_below z39_ hb); have BK135 := Aside0.mk (hbox); have GW135 := Aside0.mk ((by rw [hg]; exact (below_size z36_) : w.heap.size ≤ gb135)); have GE135 := Aside0.mk ((by rw [hg]; exact (below_size z36_) : w.heap.size ≤ gb135)); replace HB := Aside0.mk (below_step z36_ hb); have NB131_135 := Aside0.mk ((by rw [hg]; exact Nat.ne_of_lt (blk_lt (g := gb131) (o := .cells #[.slice none 0 0] 28 (0, 0)) z25_) : gb131 ≠ gb135)); have NB135_131 := Aside0.mk ((by rw [hg]; exact Nat.ne_of_gt (blk_lt (g := gb131) (o := .cells #[.slice none 0 0] 28 (0, 0)) z25_) : gb135 ≠ gb131)); replace BK131 := Aside0.mk (blk_below (g := gb131) (o := .cells #[.slice none 0 0] 28 (0, 0)) z25_ hb); have NB132_135 := Aside0.mk ((by rw [hg]; exact Nat.ne_of_lt (blk_lt (g := gb132) (o := .cells #[u133000] 28 (0, 0)) z29_) : gb132 ≠ gb135)); have NB135_132 := Aside0.mk ((by rw [hg]; exact Nat.ne_of_gt (blk_lt (g := gb132) (o := .cells #[u133000] 28 (0, 0)) z29_) : gb135 ≠ gb132)); replace BK132 := Aside0.mk (blk_below (g := gb132) (o := .cells #[u133000] 28 (0, 0)) z29_ hb); clear hb hbox hg; have hnb17 := NB135_131.out; have hnc17 := NB131_135.out; have hnb18 := NB135_132.out; have hnc18 := NB132_135.out; have hcz19_0 : w16.cell? ⟨gb135, 0, none⟩ = some (.int .i64 0) := (blk_cell BK135.out 0).trans rfl; have hcz19_1 : w16.cell? ⟨gb135, 1, none⟩ = some (.int .i64 0) := (blk_cell BK135.out 1).trans rfl; have hfz19_0 := blk_frozen BK135.out 0; have hfz19_1 := blk_frozen BK135.out 1) | ((with_reducible refine gate_callee (f := 69) rfl ?_); refine goesL_ (some 22) rfl rfl Try.func69 (by kernel_rfl) rfl #[] rfl z1_ ?_; (with_reducible refine (impl_unused.calls  t136 t137 t138 t139 t140 t141 t142 _ A12.out).mono ?_); rintro e w20 ⟨rfl, hb⟩; refine ⟨_, rfl, ?_⟩; replace HO_133000 := Aside0.mk (Kd.R_below (by (with_reducible repeat (first | apply Kd.R_alloc | apply Kd.R_drewN | apply Kd.R_drew)); exact (Kd.R_mono (Kd.R_far (p := ⟨gb135, 1, none⟩) (Kd.R_far (p := ⟨gb135, 0, none⟩) (Kd.R_types HO_133000.out BK135.out (by decide)) (fun _ hk => hk.2) (.int .i64 ((rd_T55 l0 x17_1).f0))) (fun _ hk => hk.2) (.int .i64 ((rd_T55 l0 x17_1).f1))) (fun _ h_ => h_.1))) hb); replace BK131 := Aside0.mk (blk_below (g := gb131) (o := .cells #[.slice none 0 0] 28 (0, 0)) (by (with_reducible repeat (first | refine blk_drewN ?_ _ | refine blk_drew ?_ | refine blk_alloc ?_ _)); refine blk_far ?_ NB131_135.out _; (with_reducible repeat (first | refine blk_drewN ?_ _ | refine blk_drew ?_ | refine blk_alloc ?_ _)); refine blk_far ?_ NB131_135.out _; (with_reducible repeat (first | refine blk_drewN ?_ _ | refine blk_drew ?_ | refine blk_alloc ?_ _)); exact BK131.out) hb); replace BK132 := Aside0.mk (blk_below (g := gb132) (o := .cells #[u133000] 28 (0, 0)) (by (with_reducible repeat (first | refine blk_drewN ?_ _ | refine blk_drew ?_ | refine blk_alloc ?_ _)); refine blk_far ?_ NB132_135.out _; (with_reducible repeat (first | refine blk_drewN ?_ _ | refine blk_drew ?_ | refine blk_alloc ?_ _)); refine blk_far ?_ NB132_135.out _; (with_reducible repeat (first | refine blk_drewN ?_ _ | refine blk_drew ?_ | refine blk_alloc ?_ _)); exact BK132.out) hb); replace BK135 := Aside0.mk (blk_below (g := gb135) (o := .cells #[.int .i64 ((rd_T55 l0 x17_1).f0), .int .i64 ((rd_T55 l0 x17_1).f1)] 55 (0, 0)) (by (with_reducible repeat (first | refine blk_drewN ?_ _ | refine blk_drew ?_ | refine blk_alloc ?_ _)); refine blk_put (cs := #[.int .i64 ((rd_T55 l0 x17_1).f0), .int .i64 0]) ?_ 1 _ rfl; (with_reducible repeat (first | refine blk_drewN ?_ _ | refine blk_drew ?_ | refine blk_alloc ?_ _)); refine blk_put (cs := #[.int .i64 0, .int .i64 0]) ?_ 0 _ rfl; (with_reducible repeat (first | refine blk_drewN ?_ _ | refine blk_drew ?_ | refine blk_alloc ?_ _)); exact BK135.out) hb); replace HB := Aside0.mk (below_step z68_ hb); (try clear hb)) | ((with_reducible refine gate_dst (N := 6) rfl ?_); refine box_event ?hg (N := 6) ?hd (cs := #[.bool false, .int .i64 0, .int .i64 0, .int .i64 0, .int .i64 0, .int .i64 0, .int .i64 0]) (t := 90) ?hr ?_; (case hd => rfl); (case hg => rfl); (case hr => exact z35_); intro gb143 hg w21 hbox hb; replace HO_133000 := Aside0.mk (Kd.R_below (Kd.R_elderB z39_ gb143 (Nat.le_of_eq hg.symm)) hb); have BK143 := Aside0.mk (hbox); have GW143 := Aside0.mk ((by rw [hg]; exact (below_size z68_) : w.heap.size ≤ gb143)); have GE143 := Aside0.mk ((by rw [hg]; exact (below_size z68_) : w.heap.size ≤ gb143)); replace HB := Aside0.mk (below_step z68_ hb); have NB131_143 := Aside0.mk ((by rw [hg]; exact Nat.ne_of_lt (blk_lt (g := gb131) (o := .cells #[.slice none 0 0] 28 (0, 0)) z25_) : gb131 ≠ gb143)); have NB143_131 := Aside0.mk ((by rw [hg]; exact Nat.ne_of_gt (blk_lt (g := gb131) (o := .cells #[.slice none 0 0] 28 (0, 0)) z25_) : gb143 ≠ gb131)); replace BK131 := Aside0.mk (blk_below (g := gb131) (o := .cells #[.slice none 0 0] 28 (0, 0)) z25_ hb); have NB132_143 := Aside0.mk ((by rw [hg]; exact Nat.ne_of_lt (blk_lt (g := gb132) (o := .cells #[u133000] 28 (0, 0)) z29_) : gb132 ≠ gb143)); have NB143_132 := Aside0.mk ((by rw [hg]; exact Nat.ne_of_gt (blk_lt (g := gb132) (o := .cells #[u133000] 28 (0, 0)) z29_) : gb143 ≠ gb132)); replace BK132 := Aside0.mk (blk_below (g := gb132) (o := .cells #[u133000] 28 (0, 0)) z29_ hb); have NB135_143 := Aside0.mk ((by rw [hg]; exact Nat.ne_of_lt (blk_lt (g := gb135) (o := .cells #[.int .i64 ((rd_T55 l0 x17_1).f0), .int .i64 ((rd_T55 l0 x17_1).f1)] 55 (0, 0)) z38_) : gb135 ≠ gb143)); have NB143_135 := Aside0.mk ((by rw [hg]; exact Nat.ne_of_gt (blk_lt (g := gb135) (o := .cells #[.int .i64 ((rd_T55 l0 x17_1).f0), .int .i64 ((rd_T55 l0 x17_1).f1)] 55 (0, 0)) z38_) : gb143 ≠ gb135)); replace BK135 := Aside0.mk (blk_below (g := gb135) (o := .cells #[.int .i64 ((rd_T55 l0 x17_1).f0), .int .i64 ((rd_T55 l0 x17_1).f1)] 55 (0, 0)) z38_ hb); clear hb hbox hg; have hnb22 := NB143_131.out; have hnc22 := NB131_143.out; have hnb23 := NB143_132.out; have hnc23 := NB132_143.out; have hnb24 := NB143_135.out; have hnc24 := NB135_143.out; have hcz25_0 : w21.cell? ⟨gb143, 0, none⟩ = some (.bool false) := (blk_cell BK143.out 0).trans rfl; have hcz25_1 : w21.cell? ⟨gb143, 1, none⟩ = some (.int .i64 0) := (blk_cell BK143.out 1).trans rfl; have hcz25_2 : w21.cell? ⟨gb143, 2, none⟩ = some (.int .i64 0) := (blk_cell BK143.out 2).trans rfl; have hcz25_3 : w21.cell? ⟨gb143, 3, none⟩ = some (.int .i64 0) := (blk_cell BK143.out 3).trans rfl; have hcz25_4 : w21.cell? ⟨gb143, 4, none⟩ = some (.int .i64 0) := (blk_cell BK143.out 4).trans rfl; have hcz25_5 : w21.cell? ⟨gb143, 5, none⟩ = some (.int .i64 0) := (blk_cell BK143.out 5).trans rfl; have hcz25_6 : w21.cell? ⟨gb143, 6, none⟩ = some (.int .i64 0) := (blk_cell BK143.out 6).trans rfl; have hfz25_0 := blk_frozen BK143.out 0; have hfz25_1 := blk_frozen BK143.out 1; have hfz25_2 := blk_frozen BK143.out 2; have hfz25_3 := blk_frozen BK143.out 3; have hfz25_4 := blk_frozen BK143.out 4; have hfz25_5 := blk_frozen BK143.out 5; have hfz25_6 := blk_frozen BK143.out 6))
     have n0_ : Aside0 (Kd.R k90 90 (((((((w21.setCell ⟨gb143, 0, none⟩ (.bool t136)).setCell ⟨gb143, 1, none⟩ (.int .i64 t137)).setCell ⟨gb143, 2, none⟩ (.int .i64 t138)).setCell ⟨gb143, 3, none⟩ (.int .i64 t139)).setCell ⟨gb143, 4, none⟩ (.int .i64 t140)).setCell ⟨gb143, 5, none⟩ (.int .i64 t141)).setCell ⟨gb143, 6, none⟩ (.int .i64 t142)) w.heap.size (fun k_ => k_ ≠ gb143) u133000 x133000_1) := ⟨by (with_reducible repeat (first | apply Kd.R_alloc | apply Kd.R_drewN | apply Kd.R_drew)); exact Kd.R_mono (Kd.R_far (p := ⟨gb143, 6, none⟩) (Kd.R_far (p := ⟨gb143, 5, none⟩) (Kd.R_far (p := ⟨gb143, 4, none⟩) (Kd.R_far (p := ⟨gb143, 3, none⟩) (Kd.R_far (p := ⟨gb143, 2, none⟩) (Kd.R_far (p := ⟨gb143, 1, none⟩) (Kd.R_far (p := ⟨gb143, 0, none⟩) (Kd.R_mono HO_133000.out (fun k_ hk => (⟨hk, hk.2⟩ : _ ∧ k_ ≠ gb143))) (fun _ hk => hk.2) (.bool t136)) (fun _ hk => hk.2) (.int .i64 t137)) (fun _ hk => hk.2) (.int .i64 t138)) (fun _ hk => hk.2) (.int .i64 t139)) (fun _ hk => hk.2) (.int .i64 t140)) (fun _ hk => hk.2) (.int .i64 t141)) (fun _ hk => hk.2) (.int .i64 t142)) (fun _ hk => hk.1.2)⟩
     have n1_ : Aside0 ((((((((w21.setCell ⟨gb143, 0, none⟩ (.bool t136)).setCell ⟨gb143, 1, none⟩ (.int .i64 t137)).setCell ⟨gb143, 2, none⟩ (.int .i64 t138)).setCell ⟨gb143, 3, none⟩ (.int .i64 t139)).setCell ⟨gb143, 4, none⟩ (.int .i64 t140)).setCell ⟨gb143, 5, none⟩ (.int .i64 t141)).setCell ⟨gb143, 6, none⟩ (.int .i64 t142)).heap[gb131]? = some (.cells #[.slice none 0 0] 28 (0, 0))) := ⟨by (with_reducible repeat (first | refine blk_drewN ?_ _ | refine blk_drew ?_ | refine blk_alloc ?_ _)); refine blk_far ?_ NB131_143.out _; (with_reducible repeat (first | refine blk_drewN ?_ _ | refine blk_drew ?_ | refine blk_alloc ?_ _)); refine blk_far ?_ NB131_143.out _; (with_reducible repeat (first | refine blk_drewN ?_ _ | refine blk_drew ?_ | refine blk_alloc ?_ _)); refine blk_far ?_ NB131_143.out _; (with_reducible repeat (first | refine blk_drewN ?_ _ | refine blk_drew ?_ | refine blk_alloc ?_ _)); refine blk_far ?_ NB131_143.out _; (with_reducible repeat (first | refine blk_drewN ?_ _ | refine blk_drew ?_ | refine blk_alloc ?_ _)); refine blk_far ?_ NB131_143.out _; (with_reducible repeat (first | refine blk_drewN ?_ _ | refine blk_drew ?_ | refine blk_alloc ?_ _)); refine blk_far ?_ NB131_143.out _; (with_reducible repeat (first | refine blk_drewN ?_ _ | refine blk_drew ?_ | refine blk_alloc ?_ _)); refine blk_far ?_ NB131_143.out _; (with_reducible repeat (first | refine blk_drewN ?_ _ | refine blk_drew ?_ | refine blk_alloc ?_ _)); exact BK131.out⟩
     have n2_ : Aside0 ((((((((w21.setCell ⟨gb143, 0, none⟩ (.bool t136)).setCell ⟨gb143, 1, none⟩ (.int .i64 t137)).setCell ⟨gb143, 2, none⟩ (.int .i64 t138)).setCell ⟨gb143, 3, none⟩ (.int .i64 t139)).setCell ⟨gb143, 4, none⟩ (.int .i64 t140)).setCell ⟨gb143, 5, none⟩ (.int .i64 t141)).setCell ⟨gb143, 6, none⟩ (.int .i64 t142)).heap[gb132]? = some (.cells #[u133000] 28 (0, 0))) := ⟨by (with_reducible repeat (first | refine blk_drewN ?_ _ | refine blk_drew ?_ | refine blk_alloc ?_ _)); refine blk_far ?_ NB132_143.out _; (with_reducible repeat (first | refine blk_drewN ?_ _ | refine blk_drew ?_ | refine blk_alloc ?_ _)); refine blk_far ?_ NB132_143.out _; (with_reducible repeat (first | refine blk_drewN ?_ _ | refine blk_drew ?_ | refine blk_alloc ?_ _)); refine blk_far ?_ NB132_143.out _; (with_reducible repeat (first | refine blk_drewN ?_ _ | refine blk_drew ?_ | refine blk_alloc ?_ _)); refine blk_far ?_ NB132_143.out _; (with_reducible repeat (first | refine blk_drewN ?_ _ | refine blk_drew ?_ | refine blk_alloc ?_ _)); refine blk_far ?_ NB132_143.out _; (with_reducible repeat (first | refine blk_drewN ?_ _ | refine blk_drew ?_ | refine blk_alloc ?_ _)); refine blk_far ?_ NB132_143.out _; (with_reducible repeat (first | refine blk_drewN ?_ _ | refine blk_drew ?_ | refine blk_alloc ?_ _)); refine blk_far ?_ NB132_143.out _; (with_reducible repeat (first | refine blk_drewN ?_ _ | refine blk_drew ?_ | refine blk_alloc ?_ _)); exact BK132.out⟩
     have n3_ : Aside0 ((((((((w21.setCell ⟨gb143, 0, none⟩ (.bool t136)).setCell ⟨gb143, 1, none⟩ (.int .i64 t137)).setCell ⟨gb143, 2, none⟩ (.int .i64 t138)).setCell ⟨gb143, 3, none⟩ (.int .i64 t139)).setCell ⟨gb143, 4, none⟩ (.int .i64 t140)).setCell ⟨gb143, 5, none⟩ (.int .i64 t141)).setCell ⟨gb143, 6, none⟩ (.int .i64 t142)).heap[gb135]? = some (.cells #[.int .i64 ((rd_T55 l0 x17_1).f0), .int .i64 ((rd_T55 l0 x17_1).f1)] 55 (0, 0))) := ⟨by (with_reducible repeat (first | refine blk_drewN ?_ _ | refine blk_drew ?_ | refine blk_alloc ?_ _)); refine blk_far ?_ NB135_143.out _; (with_reducible repeat (first | refine blk_drewN ?_ _ | refine blk_drew ?_ | refine blk_alloc ?_ _)); refine blk_far ?_ NB135_143.out _; (with_reducible repeat (first | refine blk_drewN ?_ _ | refine blk_drew ?_ | refine blk_alloc ?_ _)); refine blk_far ?_ NB135_143.out _; (with_reducible repeat (first | refine blk_drewN ?_ _ | refine blk_drew ?_ | refine blk_alloc ?_ _)); refine blk_far ?_ NB135_143.out _; (with_reducible repeat (first | refine blk_drewN ?_ _ | refine blk_drew ?_ | refine blk_alloc ?_ _)); refine blk_far ?_ NB135_143.out _; (with_reducible repeat (first | refine blk_drewN ?_ _ | refine blk_drew ?_ | refine blk_alloc ?_ _)); refine blk_far ?_ NB135_143.out _; (with_reducible repeat (first | refine blk_drewN ?_ _ | refine blk_drew ?_ | refine blk_alloc ?_ _)); refine blk_far ?_ NB135_143.out _; (with_reducible repeat (first | refine blk_drewN ?_ _ | refine blk_drew ?_ | refine blk_alloc ?_ _)); exact BK135.out⟩
     have n4_ : Aside0 ((((((((w21.setCell ⟨gb143, 0, none⟩ (.bool t136)).setCell ⟨gb143, 1, none⟩ (.int .i64 t137)).setCell ⟨gb143, 2, none⟩ (.int .i64 t138)).setCell ⟨gb143, 3, none⟩ (.int .i64 t139)).setCell ⟨gb143, 4, none⟩ (.int .i64 t140)).setCell ⟨gb143, 5, none⟩ (.int .i64 t141)).setCell ⟨gb143, 6, none⟩ (.int .i64 t142)).heap[gb143]? = some (.cells #[.bool t136, .int .i64 t137, .int .i64 t138, .int .i64 t139, .int .i64 t140, .int .i64 t141, .int .i64 t142] 90 (0, 0))) := ⟨by (with_reducible repeat (first | refine blk_drewN ?_ _ | refine blk_drew ?_ | refine blk_alloc ?_ _)); refine blk_put (cs := #[.bool t136, .int .i64 t137, .int .i64 t138, .int .i64 t139, .int .i64 t140, .int .i64 t141, .int .i64 0]) ?_ 6 _ rfl; (with_reducible repeat (first | refine blk_drewN ?_ _ | refine blk_drew ?_ | refine blk_alloc ?_ _)); refine blk_put (cs := #[.bool t136, .int .i64 t137, .int .i64 t138, .int .i64 t139, .int .i64 t140, .int .i64 0, .int .i64 0]) ?_ 5 _ rfl; (with_reducible repeat (first | refine blk_drewN ?_ _ | refine blk_drew ?_ | refine blk_alloc ?_ _)); refine blk_put (cs := #[.bool t136, .int .i64 t137, .int .i64 t138, .int .i64 t139, .int .i64 0, .int .i64 0, .int .i64 0]) ?_ 4 _ rfl; (with_reducible repeat (first | refine blk_drewN ?_ _ | refine blk_drew ?_ | refine blk_alloc ?_ _)); refine blk_put (cs := #[.bool t136, .int .i64 t137, .int .i64 t138, .int .i64 0, .int .i64 0, .int .i64 0, .int .i64 0]) ?_ 3 _ rfl; (with_reducible repeat (first | refine blk_drewN ?_ _ | refine blk_drew ?_ | refine blk_alloc ?_ _)); refine blk_put (cs := #[.bool t136, .int .i64 t137, .int .i64 0, .int .i64 0, .int .i64 0, .int .i64 0, .int .i64 0]) ?_ 2 _ rfl; (with_reducible repeat (first | refine blk_drewN ?_ _ | refine blk_drew ?_ | refine blk_alloc ?_ _)); refine blk_put (cs := #[.bool t136, .int .i64 0, .int .i64 0, .int .i64 0, .int .i64 0, .int .i64 0, .int .i64 0]) ?_ 1 _ rfl; (with_reducible repeat (first | refine blk_drewN ?_ _ | refine blk_drew ?_ | refine blk_alloc ?_ _)); refine blk_put (cs := #[.bool false, .int .i64 0, .int .i64 0, .int .i64 0, .int .i64 0, .int .i64 0, .int .i64 0]) ?_ 0 _ rfl; (with_reducible repeat (first | refine blk_drewN ?_ _ | refine blk_drew ?_ | refine blk_alloc ?_ _)); exact BK143.out⟩
     have n5_ : Aside0 (Below w.heap.size w (((((((w21.setCell ⟨gb143, 0, none⟩ (.bool t136)).setCell ⟨gb143, 1, none⟩ (.int .i64 t137)).setCell ⟨gb143, 2, none⟩ (.int .i64 t138)).setCell ⟨gb143, 3, none⟩ (.int .i64 t139)).setCell ⟨gb143, 4, none⟩ (.int .i64 t140)).setCell ⟨gb143, 5, none⟩ (.int .i64 t141)).setCell ⟨gb143, 6, none⟩ (.int .i64 t142))) := ⟨z5_⟩
     (try clear HO_133000)
     (try clear BK131)
     (try clear BK132)
     (try clear BK135)
     (try clear BK143)
     (try clear HB)
     generalize (((((((w21.setCell ⟨gb143, 0, none⟩ (.bool t136)).setCell ⟨gb143, 1, none⟩ (.int .i64 t137)).setCell ⟨gb143, 2, none⟩ (.int .i64 t138)).setCell ⟨gb143, 3, none⟩ (.int .i64 t139)).setCell ⟨gb143, 4, none⟩ (.int .i64 t140)).setCell ⟨gb143, 5, none⟩ (.int .i64 t141)).setCell ⟨gb143, 6, none⟩ (.int .i64 t142)) = w26 at n0_ n1_ n2_ n3_ n4_ n5_ ⊢
     have HO_133000 := n0_
     have BK131 := n1_
     have BK132 := n2_
     have BK135 := n3_
     have BK143 := n4_
     have HB := n5_
     clear n0_ n1_ n2_ n3_ n4_ n5_
     have n0_ := Aside0.mk (Kd.R_drew HO_133000.out)
     have n1_ := Aside0.mk (blk_drew BK131.out)
     have n2_ := Aside0.mk (blk_drew BK132.out)
     have n3_ := Aside0.mk (blk_drew BK135.out)
     have n4_ := Aside0.mk (blk_drew BK143.out)
     have n5_ := Aside0.mk (below_drew1 HB.out)
     clear HO_133000
     clear BK131
     clear BK132
     clear BK135
     clear BK143
     clear HB
     have HO_133000 := n0_
     have BK131 := n1_
     have BK132 := n2_
     have BK135 := n3_
     have BK143 := n4_
     have HB := n5_
     clear n0_ n1_ n2_ n3_ n4_ n5_
     refine start_ (n := 11) (S := fun w' => w'.cell? ⟨gb135, 0, none⟩ = some (.int .i64 ((rd_T55 l0 x17_1).f0)) ∧ w'.cell? ⟨gb135, 1, none⟩ = some (.int .i64 ((rd_T55 l0 x17_1).f1))) (ds := []) (fl_ 11 0) (by kernel_rfl) rfl (fl_zero _) ⟨(blk_cell BK135.out 0).trans rfl, (blk_cell BK135.out 1).trans rfl⟩ (fun hHeld => ?_); refine with_tabW impl_DomFrom.tab8 impl_DomFrom.bits8 (fun HT_ HW_ => ?_)
     generalize w26.drew = w27 at HO_133000 BK131 BK132 BK135 BK143 HB hHeld ⊢
     refine zp_ HT_ rfl rfl (by kernel_rfl) (fun _ _ _ h => h) (by rfl) ?_
     refine zpg_ (i := 2) (ra_ [1, 1, 1, 8]) HT_ rfl rfl (by kernel_rfl) (fun _ _ _ h => h) (by rfl) ?_
     refine zpg_ (i := 3) (ra_ [1, 1, 2, 7]) HT_ rfl rfl (by kernel_rfl) (fun _ _ _ h => h) (by rfl) ?_
     refine zpg_ (i := 5) (ra_ [1, 1, 2, 1, 1, 5]) HT_ rfl rfl (by kernel_rfl) (fun _ _ _ h => h) (by rfl) ?_
     refine ztg_ (i := 1) (ra_ [4, 1, 1, 5]) HT_ HW_ rfl rfl (by kernel_rfl) (fun _ _ _ h => h) (by rfl) hHeld ?_ z89_
     refine one_ (i := 4) (N := some 27) (fl_ 11 6) rfl rfl (one_of HT_.out (by kernel_rfl)) (by decide) (fun K hK => ?_)
     refine goes_ Try.func70 (by kernel_rfl) rfl #[.slice (some ad134) l0.length c0, .int .i64 x17_1] (by rfl) rfl rfl z1_ ?_
     with_reducible refine (impl_ParentOf.calls k1 _ _ l0 x17_1 t144 _ ?side1 ?side2 A13.out).mono ?_
     (case side1 => exact z7_)
     (case side2 => exact HC0.out)
     rintro e w28 ⟨rfl, hb⟩
     refine ⟨_, rfl, ?_⟩
     have n0_ := Aside0.mk (Kd.R_below z39_ hb)
     have n1_ := Aside0.mk (blk_below (g := gb131) (o := .cells #[.slice none 0 0] 28 (0, 0)) z25_ hb)
     have n2_ := Aside0.mk (blk_below (g := gb132) (o := .cells #[u133000] 28 (0, 0)) z29_ hb)
     have n3_ := Aside0.mk (blk_below (g := gb135) (o := .cells #[.int .i64 ((rd_T55 l0 x17_1).f0), .int .i64 ((rd_T55 l0 x17_1).f1)] 55 (0, 0)) z38_ hb)
     have n4_ := Aside0.mk (blk_below (g := gb143) (o := .cells #[.bool t136, .int .i64 t137, .int .i64 t138, .int .i64 t139, .int .i64 t140, .int .i64 t141, .int .i64 t142] 90 (0, 0)) z41_ hb)
     have n5_ := Aside0.mk (below_step z5_ hb)
     clear HO_133000
     clear BK131
     clear BK132
     clear BK135
     clear BK143
     clear HB
     have HO_133000 := n0_
     have BK131 := n1_
     have BK132 := n2_
     have BK135 := n3_
     have BK143 := n4_
     have HB := n5_
     clear n0_ n1_ n2_ n3_ n4_ n5_
     (try clear hb)
     (try clear hb2)
     (try clear hk)
     (try clear hi)
     refine hK.out _ _ ⟨(blk_cell BK135.out 0).trans rfl, (blk_cell BK135.out 1).trans rfl⟩ (fun hHeld => ?_)
     clear hK K
     refine zn_ rfl ?_
     refine one_ (i := 6) (N := none) (fl_ 11 7) rfl rfl (one_of HT_.out (by kernel_rfl)) (by decide) (fun K hK => ?_)
     have hs29 : w28.cell? ⟨gb143, 0, none⟩ = some (.bool t136) := (blk_cell BK143.out 0).trans rfl
     have hfs29 := blk_frozen BK143.out 0
     have hns29_0 := NB131_143.out
     have hns29_1 := NB132_143.out
     have hns29_2 := NB135_143.out
     have hms29_0 := NB143_131.out
     have hms29_1 := NB143_132.out
     have hms29_2 := NB143_135.out
     refine skip_ (w1 := ?_) (by rfl) rfl ?_ ?_
     rotate_left
     ·go_simp
      rfl
     refine hK.out _ _ ⟨((cell_far (p := ⟨gb143, _, none⟩) NB135_143.out _).trans (hHeld.1)), ((cell_far (p := ⟨gb143, _, none⟩) NB135_143.out _).trans (hHeld.2))⟩ (fun hHeld => ?_)
     clear hK K
     refine zp_ HT_ rfl rfl (by kernel_rfl) (fun _ _ _ h => h) (by rfl) ?_
     refine one_ (i := 8) (N := none) (fl_ 11 9) rfl rfl (one_of HT_.out (by kernel_rfl)) (by decide) (fun K hK => ?_)
     have hs30 : w28.cell? ⟨gb143, 1, none⟩ = some (.int .i64 t137) := (blk_cell BK143.out 1).trans rfl
     have hfs30 := blk_frozen BK143.out 1
     have hns30_0 := NB131_143.out
     have hns30_1 := NB132_143.out
     have hns30_2 := NB135_143.out
     have hms30_0 := NB143_131.out
     have hms30_1 := NB143_132.out
     have hms30_2 := NB143_135.out
     refine skip_ (w1 := ?_) (by rfl) rfl ?_ ?_
     rotate_left
     ·go_simp
      rfl
     refine hK.out _ _ ⟨((cell_far (p := ⟨gb143, _, none⟩) NB135_143.out _).trans (hHeld.1)), ((cell_far (p := ⟨gb143, _, none⟩) NB135_143.out _).trans (hHeld.2))⟩ (fun hHeld => ?_)
     clear hK K
     refine zp_ HT_ rfl rfl (by kernel_rfl) (fun _ _ _ h => h) (by rfl) ?_
     refine one_ (i := 10) (N := none) (fl_ 11 11) rfl rfl (one_of HT_.out (by kernel_rfl)) (by decide) (fun K hK => ?_)
     have hs31 : w28.cell? ⟨gb143, 2, none⟩ = some (.int .i64 t138) := (blk_cell BK143.out 2).trans rfl
     have hfs31 := blk_frozen BK143.out 2
     have hns31_0 := NB131_143.out
     have hns31_1 := NB132_143.out
     have hns31_2 := NB135_143.out
     have hms31_0 := NB143_131.out
     have hms31_1 := NB143_132.out
     have hms31_2 := NB143_135.out
     refine skip_ (w1 := ?_) (by rfl) rfl ?_ ?_
     rotate_left
     ·go_simp
      rfl
     refine hK.out _ _ ⟨((cell_far (p := ⟨gb143, _, none⟩) NB135_143.out _).trans (hHeld.1)), ((cell_far (p := ⟨gb143, _, none⟩) NB135_143.out _).trans (hHeld.2))⟩ (fun hHeld => ?_)
     clear hK K
     refine done_ (done_of HT_.out (by kernel_rfl)) ?_
     go_upto_if 36 with (first | ((with_reducible refine gate_callee (f := 71) rfl ?_); refine goesL_ (some 33) rfl rfl Try.func71 (by kernel_rfl) rfl #[.slice (some ad134) l0.length c0, .int .i64 x17_1] rfl z1_ ?_; (with_reducible refine (impl_KidsOf.calls k1 _ _ l0 x17_1 t145 _ ?side1 ?side2 A14.out).mono ?_); (case side1 => exact Kd.C_below HR0.out z5_); (case side2 => exact HC0.out); rintro e w32 ⟨v146, rfl, ho0, hb⟩; refine ⟨_, rfl, ?_⟩; replace HO_133000 := Aside0.mk (Kd.R_below (by (with_reducible repeat (first | apply Kd.R_alloc | apply Kd.R_drewN | apply Kd.R_drew)); exact (Kd.R_mono (Kd.R_far (p := ⟨gb143, 2, none⟩) (Kd.R_far (p := ⟨gb143, 1, none⟩) (Kd.R_far (p := ⟨gb143, 0, none⟩) (Kd.R_mono HO_133000.out (fun k_ hk => (⟨hk, hk⟩ : _ ∧ k_ ≠ gb143))) (fun _ hk => hk.2) (.bool true)) (fun _ hk => hk.2) (.int .i64 ((rd_T55 l0 x17_1).f0))) (fun _ hk => hk.2) (.int .i64 t144)) (fun _ h_ => h_.1))) hb); have HO147 := Aside0.mk (Kd.R_lower ho0 (below_size z5_)); replace BK131 := Aside0.mk (blk_below (g := gb131) (o := .cells #[.slice none 0 0] 28 (0, 0)) (by (with_reducible repeat (first | refine blk_drewN ?_ _ | refine blk_drew ?_ | refine blk_alloc ?_ _)); refine blk_far ?_ NB131_143.out _; (with_reducible repeat (first | refine blk_drewN ?_ _ | refine blk_drew ?_ | refine blk_alloc ?_ _)); refine blk_far ?_ NB131_143.out _; (with_reducible repeat (first | refine blk_drewN ?_ _ | refine blk_drew ?_ | refine blk_alloc ?_ _)); refine blk_far ?_ NB131_143.out _; (with_reducible repeat (first | refine blk_drewN ?_ _ | refine blk_drew ?_ | refine blk_alloc ?_ _)); exact BK131.out) hb); replace BK132 := Aside0.mk (blk_below (g := gb132) (o := .cells #[u133000] 28 (0, 0)) (by (with_reducible repeat (first | refine blk_drewN ?_ _ | refine blk_drew ?_ | refine blk_alloc ?_ _)); refine blk_far ?_ NB132_143.out _; (with_reducible repeat (first | refine blk_drewN ?_ _ | refine blk_drew ?_ | refine blk_alloc ?_ _)); refine blk_far ?_ NB132_143.out _; (with_reducible repeat (first | refine blk_drewN ?_ _ | refine blk_drew ?_ | refine blk_alloc ?_ _)); refine blk_far ?_ NB132_143.out _; (with_reducible repeat (first | refine blk_drewN ?_ _ | refine blk_drew ?_ | refine blk_alloc ?_ _)); exact BK132.out) hb); replace BK135 := Aside0.mk (blk_below (g := gb135) (o := .cells #[.int .i64 ((rd_T55 l0 x17_1).f0), .int .i64 ((rd_T55 l0 x17_1).f1)] 55 (0, 0)) (by (with_reducible repeat (first | refine blk_drewN ?_ _ | refine blk_drew ?_ | refine blk_alloc ?_ _)); refine blk_far ?_ NB135_143.out _; (with_reducible repeat (first | refine blk_drewN ?_ _ | refine blk_drew ?_ | refine blk_alloc ?_ _)); refine blk_far ?_ NB135_143.out _; (with_reducible repeat (first | refine blk_drewN ?_ _ | refine blk_drew ?_ | refine blk_alloc ?_ _)); refine blk_far ?_ NB135_143.out _; (with_reducible repeat (first | refine blk_drewN ?_ _ | refine blk_drew ?_ | refine blk_alloc ?_ _)); exact BK135.out) hb); replace BK143 := Aside0.mk (blk_below (g := gb143) (o := .cells #[.bool true, .int .i64 ((rd_T55 l0 x17_1).f0), .int .i64 t144, .int .i64 t139, .int .i64 t140, .int .i64 t141, .int .i64 t142] 90 (0, 0)) (by (with_reducible repeat (first | refine blk_drewN ?_ _ | refine blk_drew ?_ | refine blk_alloc ?_ _)); refine blk_put (cs := #[.bool true, .int .i64 ((rd_T55 l0 x17_1).f0), .int .i64 t138, .int .i64 t139, .int .i64 t140, .int .i64 t141, .int .i64 t142]) ?_ 2 _ rfl; (with_reducible repeat (first | refine blk_drewN ?_ _ | refine blk_drew ?_ | refine blk_alloc ?_ _)); refine blk_put (cs := #[.bool true, .int .i64 t137, .int .i64 t138, .int .i64 t139, .int .i64 t140, .int .i64 t141, .int .i64 t142]) ?_ 1 _ rfl; (with_reducible repeat (first | refine blk_drewN ?_ _ | refine blk_drew ?_ | refine blk_alloc ?_ _)); refine blk_put (cs := #[.bool t136, .int .i64 t137, .int .i64 t138, .int .i64 t139, .int .i64 t140, .int .i64 t141, .int .i64 t142]) ?_ 0 _ rfl; (with_reducible repeat (first | refine blk_drewN ?_ _ | refine blk_drew ?_ | refine blk_alloc ?_ _)); exact BK143.out) hb); replace HB := Aside0.mk (below_step z5_ hb); (try clear hb ho0); obtain ⟨Ao33, co33, eo33⟩ := Kd.R_slice HO147.out; subst eo33))
     (try simp only [Act.put, List.setIfInBounds_toArray, List.set_cons_zero, List.set_cons_succ])
     go_cut [] (fun wc => ∃ (kq : Nat) (x144003_14 : Int) (x144004_14 : Int), Aside0 (impl_DomFrom.j1 kq l0 x17_1 l0 (l0.length : Int) x17_1 x133000_1 true ((rd_T55 l0 x17_1).f0) t144 x144003_14 x144004_14 t141 t142 = some r) ∧ Aside0 (kq ≤ k1) ∧ Aside0 (Kd.R k90 90 wc w.heap.size (fun k_ => k_ ≠ gb143) u133000 x133000_1) ∧ Aside0 (wc.heap[gb131]? = some (.cells #[(.slice none 0 0)] 28 (0, 0))) ∧ Aside0 (wc.heap[gb132]? = some (.cells #[u133000] 28 (0, 0))) ∧ Aside0 (wc.heap[gb135]? = some (.cells #[.int .i64 ((rd_T55 l0 x17_1).f0), .int .i64 ((rd_T55 l0 x17_1).f1)] 55 (0, 0))) ∧ Aside0 (wc.heap[gb143]? = some (.cells #[.bool true, .int .i64 ((rd_T55 l0 x17_1).f0), .int .i64 t144, .int .i64 x144003_14, .int .i64 x144004_14, .int .i64 t141, .int .i64 t142] 90 (0, 0))) ∧ Aside0 (Below w.heap.size w wc))
     case first =>
      have H := HC15.out
      clear HC15
      by_cases c34 : (t145.length : Int) > 0
      ·rw [if_pos c34] at H
       have c34b0 : decide (0 < (t145.length : Int)) = true := decide_eq_true c34
       have c34b1 : decide (0 < t145.length) = true := decide_eq_true (by omega)
       clear c34
       (first | rw [c34b0] | rw [c34b1] | (simp only [i64_w, i32_w]; rw [c34b0]) | skip)
       obtain ⟨c35, H⟩ := ifs_ H
       have c35b0 : decide (0 < (t145.length : Int)) = true := decide_eq_true c35
       have c35b1 : decide (0 < t145.length) = true := decide_eq_true (by omega)
       clear c35
       obtain ⟨ji36, hji36⟩ : ∃ j_ : Int, (wrap64 ((t145.length : Int) - 1)) = j_ := ⟨_, rfl⟩
       replace H : (if 0 ≤ (ji36) then (if (ji36) < (t145.length : Int) then (impl_DomFrom.j1 k1 l0 x17_1 l0 (l0.length : Int) x17_1 x133000_1 true ((rd_T55 l0 x17_1).f0) t144 (rd t145 0) (rd t145 (ji36)) t141 t142) else (none)) else (none)) = some r := by first | (rw [hji36] at H; exact H) | (simp only [hji36] at H ⊢; exact H)
       have hji36w : (IntKind.i64.wrap ((t145.length : Int) - 1)) = ji36 := (i64_w _).trans hji36
       obtain ⟨c37b0, H⟩ := ifd_ H
       obtain ⟨c38b0, H⟩ := ifd_ H
       have H' := Aside0.mk H
       clear H
       try go_wp2
       have n0_ := Aside0.mk (Kd.R_drew HO_133000.out)
       have n1_ := Aside0.mk (Kd.R_drew HO147.out)
       have n2_ := Aside0.mk (blk_drew BK131.out)
       have n3_ := Aside0.mk (blk_drew BK132.out)
       have n4_ := Aside0.mk (blk_drew BK135.out)
       have n5_ := Aside0.mk (blk_drew BK143.out)
       have n6_ := Aside0.mk (below_drew1 HB.out)
       clear HO_133000
       clear HO147
       clear BK131
       clear BK132
       clear BK135
       clear BK143
       clear HB
       have HO_133000 := n0_
       have HO147 := n1_
       have BK131 := n2_
       have BK132 := n3_
       have BK135 := n4_
       have BK143 := n5_
       have HB := n6_
       clear n0_ n1_ n2_ n3_ n4_ n5_ n6_
       have p148 : 0 ≤ (0 : Int) := (by omega)
       have q148 : 0 < (t145.length : Int) := odt_
       obtain ⟨ad148, e148, hx148_0⟩ := Kd.at_int (Kd.R_reads' HO147.out).2.2 0 p148 q148
       cases e148
       have qi148 : (0 < t145.length) = True := eq_true (by omega)
       (try rw [show ((0 : Int)).toNat = 0 from rfl] at hx148_0)
       (try rw [Addr.add_zero'] at hx148_0)
       replace p148 := eq_true p148
       replace q148 := eq_true q148
       have p149 : 0 ≤ ((ji36) : Int) := odt_
       have q149 : (ji36) < (t145.length : Int) := odt_
       obtain ⟨ad149, e149, hx149_0⟩ := Kd.at_int (Kd.R_reads' HO147.out).2.2 (ji36) p149 q149
       obtain rfl : ad148 = ad149 := (by injection e149)
       replace p149 := eq_true p149
       replace q149 := eq_true q149
       refine start_ (n := 13) (S := fun w' => w'.cell? ad148 = some (.int .i64 (rd t145 0)) ∧ w'.cell? (ad148.add ((ji36)).toNat) = some (.int .i64 (rd t145 (ji36)))) (ds := []) (fl_ 13 0) (by kernel_rfl) rfl (fl_zero _) ⟨hx148_0, hx149_0⟩ (fun hHeld => ?_); refine with_tabW impl_DomFrom.tab11 impl_DomFrom.bits11 (fun HT_ HW_ => ?_)
       generalize w32.drew = w39 at HO_133000 HO147 BK131 BK132 BK135 BK143 HB hx148_0 hx149_0 hHeld ⊢
       iterate 2 refine zp_ HT_ rfl rfl (by kernel_rfl) (fun _ _ _ h => h) (by rfl) ?_
       refine zpg_ (i := 3) (ra_ [2, 1, 1, 9]) HT_ rfl rfl (by kernel_rfl) (fun _ _ _ h => h) (by rfl) ?_
       refine zpg_ (i := 4) (ra_ [2, 1, 2, 8]) HT_ rfl rfl (by kernel_rfl) (fun _ _ _ h => h) (by rfl) ?_
       refine zpg_ (i := 5) (ra_ [2, 1, 3, 7]) HT_ rfl rfl (by kernel_rfl) (fun _ _ _ h => h) (by rfl) ?_
       refine zpg_ (i := 6) (ra_ [2, 1, 4, 6]) HT_ rfl rfl (by kernel_rfl) (fun _ _ _ h => h) (by rfl) ?_
       refine zpg_ (i := 7) (ra_ [2, 1, 5, 5]) HT_ rfl rfl (by kernel_rfl) (fun _ _ _ h => h) (by rfl) ?_
       refine ztg_ (i := 2) (fl_ 13 8) HT_ HW_ rfl rfl (by kernel_rfl) (fun _ _ _ h => h) (by rfl) hHeld ?_ z89_
       refine zpg_ (i := 9) (ra_ [8, 1, 1, 3]) HT_ rfl rfl (by kernel_rfl) (fun _ _ _ h => h) (by rfl) ?_
       refine ztg_ (i := 8) (fl_ 13 10) HT_ HW_ rfl rfl (by kernel_rfl) (fun _ _ _ h => h) (by rfl) hHeld ?_ z89_
       refine one_ (i := 10) (N := none) (fl_ 13 11) rfl rfl (one_of HT_.out (by kernel_rfl)) (by decide) (fun K hK => ?_)
       have hs40 : w39.cell? ⟨gb143, 3, none⟩ = some (.int .i64 t139) := (blk_cell BK143.out 3).trans rfl
       have hfs40 := blk_frozen BK143.out 3
       have hns40_0 := NB131_143.out
       have hns40_1 := NB132_143.out
       have hns40_2 := NB135_143.out
       have hms40_0 := NB143_131.out
       have hms40_1 := NB143_132.out
       have hms40_2 := NB143_135.out
       refine skip_ (w1 := ?_) (by rfl) rfl ?_ ?_
       rotate_left
       ·go_simp
        rfl
       refine hK.out _ _ ⟨((cell_far (p := ⟨gb143, _, none⟩) z54_ _).trans (hHeld.1)), ((cell_far (p := ⟨gb143, _, none⟩) z54_ _).trans (hHeld.2))⟩ (fun hHeld => ?_)
       clear hK K
       refine zp_ HT_ rfl rfl (by kernel_rfl) (fun _ _ _ h => h) (by rfl) ?_
       refine one_ (i := 12) (N := none) (fl_ 13 13) rfl rfl (one_of HT_.out (by kernel_rfl)) (by decide) (fun K hK => ?_)
       have hs41 : w39.cell? ⟨gb143, 4, none⟩ = some (.int .i64 t140) := (blk_cell BK143.out 4).trans rfl
       have hfs41 := blk_frozen BK143.out 4
       have hns41_0 := NB131_143.out
       have hns41_1 := NB132_143.out
       have hns41_2 := NB135_143.out
       have hms41_0 := NB143_131.out
       have hms41_1 := NB143_132.out
       have hms41_2 := NB143_135.out
       refine skip_ (w1 := ?_) (by rfl) rfl ?_ ?_
       rotate_left
       ·go_simp
        rfl
       refine hK.out _ _ ⟨((cell_far (p := ⟨gb143, _, none⟩) z54_ _).trans (hHeld.1)), ((cell_far (p := ⟨gb143, _, none⟩) z54_ _).trans (hHeld.2))⟩ (fun hHeld => ?_)
       clear hK K
       refine done_ (done_of HT_.out (by kernel_rfl)) ?_
       try go_wp2
       go_meet
       case rel => exact ⟨_, (rd t145 0), (rd t145 (ji36)), H', ⟨z128_⟩, ⟨by (with_reducible repeat (first | apply Kd.R_alloc | apply Kd.R_drewN | apply Kd.R_drew)); exact Kd.R_mono (Kd.R_far (p := ⟨gb143, 4, none⟩) (Kd.R_far (p := ⟨gb143, 3, none⟩) (Kd.R_mono HO_133000.out (fun k_ hk => (⟨hk, hk⟩ : _ ∧ k_ ≠ gb143))) (fun _ hk => hk.2) (.int .i64 (rd t145 0))) (fun _ hk => hk.2) (.int .i64 (rd t145 (ji36)))) (fun _ hk => hk.1)⟩, ⟨z80_⟩, ⟨z81_⟩, ⟨z82_⟩, ⟨by (with_reducible repeat (first | refine blk_drewN ?_ _ | refine blk_drew ?_ | refine blk_alloc ?_ _)); refine blk_put (cs := #[.bool true, .int .i64 ((rd_T55 l0 x17_1).f0), .int .i64 t144, .int .i64 (rd t145 0), .int .i64 t140, .int .i64 t141, .int .i64 t142]) ?_ 4 _ rfl; (with_reducible repeat (first | refine blk_drewN ?_ _ | refine blk_drew ?_ | refine blk_alloc ?_ _)); refine blk_put (cs := #[.bool true, .int .i64 ((rd_T55 l0 x17_1).f0), .int .i64 t144, .int .i64 t139, .int .i64 t140, .int .i64 t141, .int .i64 t142]) ?_ 3 _ rfl; (with_reducible repeat (first | refine blk_drewN ?_ _ | refine blk_drew ?_ | refine blk_alloc ?_ _)); exact BK143.out⟩, ⟨z5_⟩⟩
      ·rw [if_neg c34] at H
       have c34b0 : decide (0 < (t145.length : Int)) = false := decide_eq_false c34
       have c34b1 : decide (0 < t145.length) = false := decide_eq_false (by omega)
       clear c34
       (first | rw [c34b0] | rw [c34b1] | (simp only [i64_w, i32_w]; rw [c34b0]) | skip)
       have H' := Aside0.mk H
       clear H
       go_wp2
       go_meet
       case rel => exact ⟨_, (t139), (t140), H', ⟨z128_⟩, ⟨z39_⟩, ⟨z25_⟩, ⟨z29_⟩, ⟨z38_⟩, ⟨z41_⟩, ⟨z5_⟩⟩
     case rest =>
      clear HC15
      try clear c1
      try clear p1
      try clear q1
      try clear hx1
      try clear qi1
      try clear c2
      try clear p2
      try clear c3
      try clear c6
      try clear p6
      try clear c7
      try clear c9
      try clear c9b0
      try clear c10
      try clear c10b0
      try clear c11
      try clear c11b0
      try clear p13
      try clear q13
      try clear hx13
      try clear p14
      try clear q14
      try clear hx14
      try clear qi14
      try clear c17
      try clear c18
      try clear c19
      try clear c22
      try clear c23
      try clear c24
      try clear c34
      try clear c34b0
      try clear c34b1
      try clear c35
      try clear c35b0
      try clear c35b1
      try clear c37
      try clear c37b0
      try clear c38
      try clear c38b0
      try clear hcz19_0
      try clear hcz19_1
      try clear hcz25_0
      try clear hcz25_1
      try clear hcz25_2
      try clear hcz25_3
      try clear hcz25_4
      try clear hcz25_5
      try clear hcz25_6
      try clear hcz7_0
      try clear hfz19_0
      try clear hfz19_1
      try clear hfz25_0
      try clear hfz25_1
      try clear hfz25_2
      try clear hfz25_3
      try clear hfz25_4
      try clear hfz25_5
      try clear hfz25_6
      try clear hfz7_0
      try clear hx134_0
      try clear hx134_1
      try clear hx148_0
      try clear hx149_0
      try clear p134
      try clear p148
      try clear p149
      try clear p2
      try clear q134
      try clear q148
      try clear q149
      obtain ⟨kq, x144003_14, x144004_14, HA, HJ14, HO_133000, BK131, BK132, BK135, BK143, HB⟩ := hcut
      cases kq with
      | zero => exact absurd HA.out (by simp [impl_DomFrom.j1])
      | succ kj14 =>
       have H := HA.out
       clear HA
       simp only [impl_DomFrom.j1] at H
       obtain ⟨t150, A42, H⟩ := bnd_ H
       by_cases c43 : (t150.length : Int) > 0
       ·rw [if_pos c43] at H
        have c43b0 : decide (0 < (t150.length : Int)) = true := decide_eq_true c43
        have c43b1 : decide (0 < t150.length) = true := decide_eq_true (by omega)
        clear c43
        obtain ⟨t153, A44, H⟩ := bnd_ H
        by_cases c45 : t153 > 0
        ·rw [if_pos c45] at H
         have c45b0 : decide (0 < t153) = true := decide_eq_true c45
         clear c45
         obtain ⟨ji46, hji46⟩ : ∃ j_ : Int, (wrap64 (t153 - 1)) = j_ := ⟨_, rfl⟩
         replace H : (if 0 ≤ (ji46) then (if (ji46) < (t150.length : Int) then (if (wrap64 (t153 + 1)) < (t150.length : Int) then (if 0 ≤ (wrap64 (t153 + 1)) then (if x133000_1.length < 2513169434916 then (impl_DomFrom.l0 kj14 l0 l0 (l0.length : Int) (wrap64 (x17_1 + 1)) (x133000_1 ++ [(⟨true, ((rd_T55 l0 x17_1).f0), t144, x144003_14, x144004_14, rd t150 (ji46), rd t150 (wrap64 (t153 + 1))⟩ : S90)])) else (none)) else (none)) else (if x133000_1.length < 2513169434916 then (impl_DomFrom.l0 kj14 l0 l0 (l0.length : Int) (wrap64 (x17_1 + 1)) (x133000_1 ++ [(⟨true, ((rd_T55 l0 x17_1).f0), t144, x144003_14, x144004_14, rd t150 (ji46), t142⟩ : S90)])) else (none))) else (none)) else (none)) = some r := by first | (rw [hji46] at H; exact H) | (simp only [hji46] at H ⊢; exact H)
         (try rw [hji46] at A42)
         (try rw [hji46] at A44)
         have hji46w : (IntKind.i64.wrap (t153 - 1)) = ji46 := (i64_w _).trans hji46
         obtain ⟨c47b0, H⟩ := ifd_ H
         obtain ⟨c48b0, H⟩ := ifd_ H
         by_cases c49 : (wrap64 (t153 + 1)) < (t150.length : Int)
         ·rw [if_pos c49] at H
          have c49b0 : decide ((wrap64 (t153 + 1)) < (t150.length : Int)) = true := decide_eq_true c49
          clear c49
          obtain ⟨ji50, hji50⟩ : ∃ j_ : Int, (wrap64 (t153 + 1)) = j_ := ⟨_, rfl⟩
          replace H : (if 0 ≤ (ji50) then (if x133000_1.length < 2513169434916 then (impl_DomFrom.l0 kj14 l0 l0 (l0.length : Int) (wrap64 (x17_1 + 1)) (x133000_1 ++ [(⟨true, ((rd_T55 l0 x17_1).f0), t144, x144003_14, x144004_14, rd t150 (ji46), rd t150 (ji50)⟩ : S90)])) else (none)) else (none)) = some r := by first | (rw [hji50] at H; exact H) | (simp only [hji50] at H ⊢; exact H)
          (try rw [hji50] at c49b0)
          (try rw [hji50] at A42)
          (try rw [hji50] at A44)
          have hji50w : (IntKind.i64.wrap (t153 + 1)) = ji50 := (i64_w _).trans hji50
          obtain ⟨c51b0, H⟩ := ifd_ H
          obtain ⟨c52, H⟩ := ifs_ H
          have LMc52 := Aside0.mk c52
          clear c52
          obtain ⟨y156, hy156⟩ : ∃ y_ : List (S90), y_ = (x133000_1 ++ [(⟨true, ((rd_T55 l0 x17_1).f0), t144, x144003_14, x144004_14, rd t150 (ji46), rd t150 (ji50)⟩ : S90)]) := ⟨_, rfl⟩
          replace H : (impl_DomFrom.l0 kj14 l0 l0 (l0.length : Int) (wrap64 (x17_1 + 1)) y156) = some r := by first | (rw [hy156]; with_reducible exact H) | (have H2_ := (Option.bind_some _ _).symm.trans H; rw [hy156]; with_reducible exact H2_) | (have H2_ := (Option.bind_some _ _).symm.trans H; with_reducible exact H2_) | with_reducible exact H | (rw [hy156]; exact H) | exact H
          have Ny156 := Aside0.mk hy156
          clear hy156
          have H' := Aside0.mk H
          clear H
          have hnb53 := NB143_131.out
          have hnc53 := NB131_143.out
          have hnb54 := NB143_132.out
          have hnc54 := NB132_143.out
          have hnb55 := NB143_135.out
          have hnc55 := NB135_143.out
          have hcz56_0 : wc.cell? ⟨gb143, 0, none⟩ = some (.bool true) := (blk_cell BK143.out 0).trans rfl
          have hcz56_1 : wc.cell? ⟨gb143, 1, none⟩ = some (.int .i64 ((rd_T55 l0 x17_1).f0)) := (blk_cell BK143.out 1).trans rfl
          have hcz56_2 : wc.cell? ⟨gb143, 2, none⟩ = some (.int .i64 t144) := (blk_cell BK143.out 2).trans rfl
          have hcz56_3 : wc.cell? ⟨gb143, 3, none⟩ = some (.int .i64 x144003_14) := (blk_cell BK143.out 3).trans rfl
          have hcz56_4 : wc.cell? ⟨gb143, 4, none⟩ = some (.int .i64 x144004_14) := (blk_cell BK143.out 4).trans rfl
          have hcz56_5 : wc.cell? ⟨gb143, 5, none⟩ = some (.int .i64 t141) := (blk_cell BK143.out 5).trans rfl
          have hcz56_6 : wc.cell? ⟨gb143, 6, none⟩ = some (.int .i64 t142) := (blk_cell BK143.out 6).trans rfl
          have hfz56_0 := blk_frozen BK143.out 0
          have hfz56_1 := blk_frozen BK143.out 1
          have hfz56_2 := blk_frozen BK143.out 2
          have hfz56_3 := blk_frozen BK143.out 3
          have hfz56_4 := blk_frozen BK143.out 4
          have hfz56_5 := blk_frozen BK143.out 5
          have hfz56_6 := blk_frozen BK143.out 6
          go_wp2_with (first | ((with_reducible refine gate_callee (f := 71) rfl ?_); refine goesL_ (some 51) rfl rfl Try.func71 (by kernel_rfl) rfl #[.slice (some ad134) l0.length c0, .int .i64 t144] rfl z1_ ?_; (with_reducible refine (impl_KidsOf.calls kj14 _ _ l0 t144 t150 _ ?side1 ?side2 A42.out).mono ?_); (case side1 => exact z7_); (case side2 => exact HC0.out); rintro e w57 ⟨v151, rfl, ho0, hb⟩; refine ⟨_, rfl, ?_⟩; replace HO_133000 := Aside0.mk (Kd.R_below z39_ hb); have HO152 := Aside0.mk (Kd.R_lower ho0 (below_size z5_)); replace BK131 := Aside0.mk (blk_below (g := gb131) (o := .cells #[.slice none 0 0] 28 (0, 0)) z25_ hb); replace BK132 := Aside0.mk (blk_below (g := gb132) (o := .cells #[u133000] 28 (0, 0)) z29_ hb); replace BK135 := Aside0.mk (blk_below (g := gb135) (o := .cells #[.int .i64 ((rd_T55 l0 x17_1).f0), .int .i64 ((rd_T55 l0 x17_1).f1)] 55 (0, 0)) z38_ hb); replace BK143 := Aside0.mk (blk_below (g := gb143) (o := .cells #[.bool true, .int .i64 ((rd_T55 l0 x17_1).f0), .int .i64 t144, .int .i64 x144003_14, .int .i64 x144004_14, .int .i64 t141, .int .i64 t142] 90 (0, 0)) z41_ hb); replace HB := Aside0.mk (below_step z5_ hb); (try clear hb ho0); obtain ⟨Ao58, co58, eo58⟩ := Kd.R_slice HO152.out; subst eo58) | ((with_reducible refine gate_callee (f := 72) rfl ?_); refine goesL_ (some 57) rfl rfl Try.func72 (by kernel_rfl) rfl #[.slice Ao58 t150.length co58, .int .i64 x17_1] rfl z1_ ?_; (with_reducible refine (slices_Index_int_int.calls kj14 _ _ t150 x17_1 t153 _ ?side1 ?side2 A44.out).mono ?_); (case side1 => exact z86_); (case side2 => exact z154_); rintro e w' ⟨rfl, ⟨nd, rfl⟩⟩; refine ⟨_, rfl, ?_⟩; (try (rw [drewN_self w57]; generalize hq_ : World.drewN w57 _ = w57; have n0_ : Aside0 (Kd.R (Kd.int .i64) 3 w57 w.heap.size (fun _ => True) (.slice Ao58 t150.length co58) t150) := ⟨z114_⟩; have n1_ : Aside0 (Kd.R k90 90 w57 w.heap.size (fun k_ => k_ ≠ gb143) u133000 x133000_1) := ⟨z105_⟩; have n2_ : Aside0 (w57.heap[gb131]? = some (.cells #[.slice none 0 0] 28 (0, 0))) := ⟨z96_⟩; have n3_ : Aside0 (w57.heap[gb132]? = some (.cells #[u133000] 28 (0, 0))) := ⟨z97_⟩; have n4_ : Aside0 (w57.heap[gb135]? = some (.cells #[.int .i64 ((rd_T55 l0 x17_1).f0), .int .i64 ((rd_T55 l0 x17_1).f1)] 55 (0, 0))) := ⟨z98_⟩; have n5_ : Aside0 (w57.heap[gb143]? = some (.cells #[.bool true, .int .i64 ((rd_T55 l0 x17_1).f0), .int .i64 t144, .int .i64 x144003_14, .int .i64 x144004_14, .int .i64 t141, .int .i64 t142] 90 (0, 0))) := ⟨z99_⟩; have n6_ : Aside0 (Below w.heap.size w w57) := ⟨z64_⟩; clear HO152 HO_133000 BK131 BK132 BK135 BK143 HB hq_; have HO152 := n0_; have HO_133000 := n1_; have BK131 := n2_; have BK132 := n3_; have BK135 := n4_; have BK143 := n5_; have HB := n6_; clear n0_ n1_ n2_ n3_ n4_ n5_ n6_)); have p154 : 0 ≤ ((ji46) : Int) := odt_; have q154 : (ji46) < (t150.length : Int) := odt_; obtain ⟨ad154, e154, hx154_0⟩ := Kd.at_int (Kd.R_reads' HO152.out).2.2 (ji46) p154 q154; cases e154; replace p154 := eq_true p154; replace q154 := eq_true q154; have hcz59_0 : w57.cell? ⟨gb143, 0, none⟩ = some (.bool true) := (blk_cell BK143.out 0).trans rfl; have hcz59_1 : w57.cell? ⟨gb143, 1, none⟩ = some (.int .i64 ((rd_T55 l0 x17_1).f0)) := (blk_cell BK143.out 1).trans rfl; have hcz59_2 : w57.cell? ⟨gb143, 2, none⟩ = some (.int .i64 t144) := (blk_cell BK143.out 2).trans rfl; have hcz59_3 : w57.cell? ⟨gb143, 3, none⟩ = some (.int .i64 x144003_14) := (blk_cell BK143.out 3).trans rfl; have hcz59_4 : w57.cell? ⟨gb143, 4, none⟩ = some (.int .i64 x144004_14) := (blk_cell BK143.out 4).trans rfl; have hcz59_5 : w57.cell? ⟨gb143, 5, none⟩ = some (.int .i64 t141) := (blk_cell BK143.out 5).trans rfl; have hcz59_6 : w57.cell? ⟨gb143, 6, none⟩ = some (.int .i64 t142) := (blk_cell BK143.out 6).trans rfl; have hfz59_0 := blk_frozen BK143.out 0; have hfz59_1 := blk_frozen BK143.out 1; have hfz59_2 := blk_frozen BK143.out 2; have hfz59_3 := blk_frozen BK143.out 3; have hfz59_4 := blk_frozen BK143.out 4; have hfz59_5 := blk_frozen BK143.out 5; have hfz59_6 := blk_frozen BK143.out 6; have p155 : 0 ≤ ((ji50) : Int) := odt_; have q155 : (ji50) < (t150.length : Int) := odt_; obtain ⟨ad155, e155, hx155_0⟩ := Kd.at_int (Kd.R_reads' HO152.out).2.2 (ji50) p155 q155; obtain rfl : ad154 = ad155 := (by injection e155); have hn155_0 : ad154.block ≠ gb143 := Kd.own_blk (Kd.R_ne HO152.out BK143.out (by decide)); replace hx155_0 := (cell_far (p := ⟨gb143, 5, none⟩) (by first | (rw [add_block]; exact hn155_0) | (show (Addr.add _ _).block ≠ _; rw [add_block]; exact hn155_0) | exact hn155_0) (.int .i64 (rd t150 (ji46)))).trans hx155_0; clear hn155_0; replace p155 := eq_true p155; replace q155 := eq_true q155; have hnb60 := NB132_131.out; have hnc60 := NB131_132.out; have hnb61 := NB132_135.out; have hnc61 := NB135_132.out; have hcz62_0 : w57.cell? ⟨gb132, 0, none⟩ = some (u133000) := (blk_cell BK132.out 0).trans rfl; have hfz62_0 := blk_frozen BK132.out 0) | ((with_reducible refine gate_builtin (b := .append) (xs := #[.tmp 78, .tmp 80]) rfl ?_); at_builtin; refine Kd.R_append k90 (w0 := w) w.heap.size rfl (.tmp 78) (.tmp 80) 26 90 (.agg #[(.bool false), (.int .i64 0), (.int .i64 0), (.int .i64 0), (.int .i64 0), (.int .i64 0), (.int .i64 0)]) 56 rfl Try.underlying26 info90 rfl (by decide) (by omega) u133000 x133000_1 (⟨true, ((rd_T55 l0 x17_1).f0), t144, x144003_14, x144004_14, rd t150 (ji46), rd t150 (ji50)⟩ : S90) [.bool true, .int .i64 ((rd_T55 l0 x17_1).f0), .int .i64 t144, .int .i64 x144003_14, .int .i64 x144004_14, .int .i64 (rd t150 (ji46)), .int .i64 (rd t150 (ji50))] (fun k_ => k_ ≠ gb143) (fun _ => False) rfl z35_ ?aP (fun _ hk => hk.elim) ?aF ?aO ?aB ?aS ?aL ?_; (case aP => exact k90_mkM _ _ _ (⟨true, ((rd_T55 l0 x17_1).f0), t144, x144003_14, x144004_14, rd t150 (ji46), rd t150 (ji50)⟩ : S90)); (case aB => exact z51_); (case aF => exact (fun k_ hk => Kd.freshB (g := gb143) (o := .cells #[.bool true, .int .i64 ((rd_T55 l0 x17_1).f0), .int .i64 t144, .int .i64 x144003_14, .int .i64 x144004_14, .int .i64 (rd t150 (ji46)), .int .i64 (rd t150 (ji50))] 90 (0, 0)) z50_ k_ hk)); (case aO => exact (by (with_reducible repeat (first | apply Kd.R_alloc | apply Kd.R_drewN | apply Kd.R_drew)); exact Kd.R_mono (Kd.R_far (p := ⟨gb143, 6, none⟩) (Kd.R_far (p := ⟨gb143, 5, none⟩) (Kd.R_mono HO_133000.out (fun k_ hk => (⟨hk, hk⟩ : _ ∧ k_ ≠ gb143))) (fun _ hk => hk.2) (.int .i64 (rd t150 (ji46)))) (fun _ hk => hk.2) (.int .i64 (rd t150 (ji50)))) (fun _ hk => hk.1))); (case aS => exact z49_); (case aL => have := LMc52.out; omega); intro v157 w63 ho hb hg hat; rw [← Ny156.out] at ho; replace BK131 := Aside0.mk (blk_grown (g := gb131) (o := .cells #[.slice none 0 0] 28 (0, 0)) z80_ hg (Kd.R_ne HO_133000.out BK131.out (by decide))); replace BK132 := Aside0.mk (blk_grown (g := gb132) (o := .cells #[u133000] 28 (0, 0)) z81_ hg (Kd.R_ne HO_133000.out BK132.out (by decide))); replace BK135 := Aside0.mk (blk_grown (g := gb135) (o := .cells #[.int .i64 ((rd_T55 l0 x17_1).f0), .int .i64 ((rd_T55 l0 x17_1).f1)] 55 (0, 0)) z82_ hg (Kd.R_ne HO_133000.out BK135.out (by decide))); replace HO152 := Aside0.mk (Kd.R_over' (by (with_reducible repeat (first | apply Kd.R_alloc | apply Kd.R_drewN | apply Kd.R_drew)); exact (Kd.R_mono (Kd.R_far (p := ⟨gb143, 6, none⟩) (Kd.R_far (p := ⟨gb143, 5, none⟩) (Kd.R_types HO152.out BK143.out (by decide)) (fun _ hk => hk.2) (.int .i64 (rd t150 (ji46)))) (fun _ hk => hk.2) (.int .i64 (rd t150 (ji50)))) (fun _ h_ => h_.1))) (Kd.R_typed (by (with_reducible repeat (first | apply Kd.R_alloc | apply Kd.R_drewN | apply Kd.R_drew)); exact (Kd.R_mono (Kd.R_far (p := ⟨gb143, 6, none⟩) (Kd.R_far (p := ⟨gb143, 5, none⟩) (Kd.R_mono HO_133000.out (fun k_ hk => (⟨hk, hk⟩ : _ ∧ k_ ≠ gb143))) (fun _ hk => hk.2) (.int .i64 (rd t150 (ji46)))) (fun _ hk => hk.2) (.int .i64 (rd t150 (ji50)))) (fun _ h_ => h_.1)))) (by decide) hg); replace BK143 := Aside0.mk (blk_grown (g := gb143) (o := .cells #[.bool true, .int .i64 ((rd_T55 l0 x17_1).f0), .int .i64 t144, .int .i64 x144003_14, .int .i64 x144004_14, .int .i64 (rd t150 (ji46)), .int .i64 (rd t150 (ji50))] 90 (0, 0)) z50_ hg (Kd.R_away HO_133000.out (fun _ hk => hk))); replace HB := Aside0.mk (hb); have HO158 := Aside0.mk (ho); clear HO_133000; clear ho hb hg hat; obtain ⟨Ao64, co64, eo64⟩ := Kd.R_slice HO158.out; subst eo64; have hcz65_0 : w63.cell? ⟨gb132, 0, none⟩ = some (u133000) := (blk_cell BK132.out 0).trans rfl; have hfz65_0 := blk_frozen BK132.out 0))
          go_roundg kj14
          case measure => have := HK1.out; have := HJ14.out; omega
          case rel => exact ⟨(wrap64 (x17_1 + 1)), (y156), (.slice Ao64 y156.length co64), z15_, H', ⟨z145_⟩, ⟨by (with_reducible repeat (first | apply Kd.R_alloc | apply Kd.R_drewN | apply Kd.R_drew)); exact Kd.R_mono (Kd.R_far (p := ⟨gb132, 0, none⟩) (Kd.R_types HO158.out BK132.out (by decide)) (fun _ hk => hk.2) (.slice Ao64 y156.length co64)) (fun _ hk => trivial)⟩, ⟨z40_⟩, ⟨z53_⟩, ⟨z5_⟩⟩
         ·rw [if_neg c49] at H
          have c49b0 : decide ((wrap64 (t153 + 1)) < (t150.length : Int)) = false := decide_eq_false c49
          clear c49
          obtain ⟨c66, H⟩ := ifs_ H
          have LMc66 := Aside0.mk c66
          clear c66
          obtain ⟨y159, hy159⟩ : ∃ y_ : List (S90), y_ = (x133000_1 ++ [(⟨true, ((rd_T55 l0 x17_1).f0), t144, x144003_14, x144004_14, rd t150 (ji46), t142⟩ : S90)]) := ⟨_, rfl⟩
          replace H : (impl_DomFrom.l0 kj14 l0 l0 (l0.length : Int) (wrap64 (x17_1 + 1)) y159) = some r := by first | (rw [hy159]; with_reducible exact H) | (have H2_ := (Option.bind_some _ _).symm.trans H; rw [hy159]; with_reducible exact H2_) | (have H2_ := (Option.bind_some _ _).symm.trans H; with_reducible exact H2_) | with_reducible exact H | (rw [hy159]; exact H) | exact H
          have Ny159 := Aside0.mk hy159
          clear hy159
          have H' := Aside0.mk H
          clear H
          have hnb67 := NB143_131.out
          have hnc67 := NB131_143.out
          have hnb68 := NB143_132.out
          have hnc68 := NB132_143.out
          have hnb69 := NB143_135.out
          have hnc69 := NB135_143.out
          have hcz70_0 : wc.cell? ⟨gb143, 0, none⟩ = some (.bool true) := (blk_cell BK143.out 0).trans rfl
          have hcz70_1 : wc.cell? ⟨gb143, 1, none⟩ = some (.int .i64 ((rd_T55 l0 x17_1).f0)) := (blk_cell BK143.out 1).trans rfl
          have hcz70_2 : wc.cell? ⟨gb143, 2, none⟩ = some (.int .i64 t144) := (blk_cell BK143.out 2).trans rfl
          have hcz70_3 : wc.cell? ⟨gb143, 3, none⟩ = some (.int .i64 x144003_14) := (blk_cell BK143.out 3).trans rfl
          have hcz70_4 : wc.cell? ⟨gb143, 4, none⟩ = some (.int .i64 x144004_14) := (blk_cell BK143.out 4).trans rfl
          have hcz70_5 : wc.cell? ⟨gb143, 5, none⟩ = some (.int .i64 t141) := (blk_cell BK143.out 5).trans rfl
          have hcz70_6 : wc.cell? ⟨gb143, 6, none⟩ = some (.int .i64 t142) := (blk_cell BK143.out 6).trans rfl
          have hfz70_0 := blk_frozen BK143.out 0
          have hfz70_1 := blk_frozen BK143.out 1
          have hfz70_2 := blk_frozen BK143.out 2
          have hfz70_3 := blk_frozen BK143.out 3
          have hfz70_4 := blk_frozen BK143.out 4
          have hfz70_5 := blk_frozen BK143.out 5
          have hfz70_6 := blk_frozen BK143.out 6
          go_wp2_with (first | ((with_reducible refine gate_callee (f := 71) rfl ?_); refine goesL_ (some 51) rfl rfl Try.func71 (by kernel_rfl) rfl #[.slice (some ad134) l0.length c0, .int .i64 t144] rfl z1_ ?_; (with_reducible refine (impl_KidsOf.calls kj14 _ _ l0 t144 t150 _ ?side1 ?side2 A42.out).mono ?_); (case side1 => exact z7_); (case side2 => exact HC0.out); rintro e w71 ⟨v151, rfl, ho0, hb⟩; refine ⟨_, rfl, ?_⟩; replace HO_133000 := Aside0.mk (Kd.R_below z39_ hb); have HO152 := Aside0.mk (Kd.R_lower ho0 (below_size z5_)); replace BK131 := Aside0.mk (blk_below (g := gb131) (o := .cells #[.slice none 0 0] 28 (0, 0)) z25_ hb); replace BK132 := Aside0.mk (blk_below (g := gb132) (o := .cells #[u133000] 28 (0, 0)) z29_ hb); replace BK135 := Aside0.mk (blk_below (g := gb135) (o := .cells #[.int .i64 ((rd_T55 l0 x17_1).f0), .int .i64 ((rd_T55 l0 x17_1).f1)] 55 (0, 0)) z38_ hb); replace BK143 := Aside0.mk (blk_below (g := gb143) (o := .cells #[.bool true, .int .i64 ((rd_T55 l0 x17_1).f0), .int .i64 t144, .int .i64 x144003_14, .int .i64 x144004_14, .int .i64 t141, .int .i64 t142] 90 (0, 0)) z41_ hb); replace HB := Aside0.mk (below_step z5_ hb); (try clear hb ho0); obtain ⟨Ao72, co72, eo72⟩ := Kd.R_slice HO152.out; subst eo72) | ((with_reducible refine gate_callee (f := 72) rfl ?_); refine goesL_ (some 57) rfl rfl Try.func72 (by kernel_rfl) rfl #[.slice Ao72 t150.length co72, .int .i64 x17_1] rfl z1_ ?_; (with_reducible refine (slices_Index_int_int.calls kj14 _ _ t150 x17_1 t153 _ ?side1 ?side2 A44.out).mono ?_); (case side1 => exact z86_); (case side2 => exact z154_); rintro e w' ⟨rfl, ⟨nd, rfl⟩⟩; refine ⟨_, rfl, ?_⟩; (try (rw [drewN_self w71]; generalize hq_ : World.drewN w71 _ = w71; have n0_ : Aside0 (Kd.R (Kd.int .i64) 3 w71 w.heap.size (fun _ => True) (.slice Ao72 t150.length co72) t150) := ⟨z114_⟩; have n1_ : Aside0 (Kd.R k90 90 w71 w.heap.size (fun k_ => k_ ≠ gb143) u133000 x133000_1) := ⟨z105_⟩; have n2_ : Aside0 (w71.heap[gb131]? = some (.cells #[.slice none 0 0] 28 (0, 0))) := ⟨z96_⟩; have n3_ : Aside0 (w71.heap[gb132]? = some (.cells #[u133000] 28 (0, 0))) := ⟨z97_⟩; have n4_ : Aside0 (w71.heap[gb135]? = some (.cells #[.int .i64 ((rd_T55 l0 x17_1).f0), .int .i64 ((rd_T55 l0 x17_1).f1)] 55 (0, 0))) := ⟨z98_⟩; have n5_ : Aside0 (w71.heap[gb143]? = some (.cells #[.bool true, .int .i64 ((rd_T55 l0 x17_1).f0), .int .i64 t144, .int .i64 x144003_14, .int .i64 x144004_14, .int .i64 t141, .int .i64 t142] 90 (0, 0))) := ⟨z99_⟩; have n6_ : Aside0 (Below w.heap.size w w71) := ⟨z64_⟩; clear HO152 HO_133000 BK131 BK132 BK135 BK143 HB hq_; have HO152 := n0_; have HO_133000 := n1_; have BK131 := n2_; have BK132 := n3_; have BK135 := n4_; have BK143 := n5_; have HB := n6_; clear n0_ n1_ n2_ n3_ n4_ n5_ n6_)); have p154 : 0 ≤ ((ji46) : Int) := odt_; have q154 : (ji46) < (t150.length : Int) := odt_; obtain ⟨ad154, e154, hx154_0⟩ := Kd.at_int (Kd.R_reads' HO152.out).2.2 (ji46) p154 q154; cases e154; replace p154 := eq_true p154; replace q154 := eq_true q154; have hcz73_0 : w71.cell? ⟨gb143, 0, none⟩ = some (.bool true) := (blk_cell BK143.out 0).trans rfl; have hcz73_1 : w71.cell? ⟨gb143, 1, none⟩ = some (.int .i64 ((rd_T55 l0 x17_1).f0)) := (blk_cell BK143.out 1).trans rfl; have hcz73_2 : w71.cell? ⟨gb143, 2, none⟩ = some (.int .i64 t144) := (blk_cell BK143.out 2).trans rfl; have hcz73_3 : w71.cell? ⟨gb143, 3, none⟩ = some (.int .i64 x144003_14) := (blk_cell BK143.out 3).trans rfl; have hcz73_4 : w71.cell? ⟨gb143, 4, none⟩ = some (.int .i64 x144004_14) := (blk_cell BK143.out 4).trans rfl; have hcz73_5 : w71.cell? ⟨gb143, 5, none⟩ = some (.int .i64 t141) := (blk_cell BK143.out 5).trans rfl; have hcz73_6 : w71.cell? ⟨gb143, 6, none⟩ = some (.int .i64 t142) := (blk_cell BK143.out 6).trans rfl; have hfz73_0 := blk_frozen BK143.out 0; have hfz73_1 := blk_frozen BK143.out 1; have hfz73_2 := blk_frozen BK143.out 2; have hfz73_3 := blk_frozen BK143.out 3; have hfz73_4 := blk_frozen BK143.out 4; have hfz73_5 := blk_frozen BK143.out 5; have hfz73_6 := blk_frozen BK143.out 6; have hnb74 := NB132_131.out; have hnc74 := NB131_132.out; have hnb75 := NB132_135.out; have hnc75 := NB135_132.out; have hcz76_0 : w71.cell? ⟨gb132, 0, none⟩ = some (u133000) := (blk_cell BK132.out 0).trans rfl; have hfz76_0 := blk_frozen BK132.out 0) | ((with_reducible refine gate_builtin (b := .append) (xs := #[.tmp 78, .tmp 80]) rfl ?_); at_builtin; refine Kd.R_append k90 (w0 := w) w.heap.size rfl (.tmp 78) (.tmp 80) 26 90 (.agg #[(.bool false), (.int .i64 0), (.int .i64 0), (.int .i64 0), (.int .i64 0), (.int .i64 0), (.int .i64 0)]) 56 rfl Try.underlying26 info90 rfl (by decide) (by omega) u133000 x133000_1 (⟨true, ((rd_T55 l0 x17_1).f0), t144, x144003_14, x144004_14, rd t150 (ji46), t142⟩ : S90) [.bool true, .int .i64 ((rd_T55 l0 x17_1).f0), .int .i64 t144, .int .i64 x144003_14, .int .i64 x144004_14, .int .i64 (rd t150 (ji46)), .int .i64 t142] (fun k_ => k_ ≠ gb143) (fun _ => False) rfl z35_ ?aP (fun _ hk => hk.elim) ?aF ?aO ?aB ?aS ?aL ?_; (case aP => exact k90_mkM _ _ _ (⟨true, ((rd_T55 l0 x17_1).f0), t144, x144003_14, x144004_14, rd t150 (ji46), t142⟩ : S90)); (case aB => exact z51_); (case aF => exact (fun k_ hk => Kd.freshB (g := gb143) (o := .cells #[.bool true, .int .i64 ((rd_T55 l0 x17_1).f0), .int .i64 t144, .int .i64 x144003_14, .int .i64 x144004_14, .int .i64 (rd t150 (ji46)), .int .i64 t142] 90 (0, 0)) z78_ k_ hk)); (case aO => exact (by (with_reducible repeat (first | apply Kd.R_alloc | apply Kd.R_drewN | apply Kd.R_drew)); exact Kd.R_mono (Kd.R_far (p := ⟨gb143, 5, none⟩) (Kd.R_mono HO_133000.out (fun k_ hk => (⟨hk, hk⟩ : _ ∧ k_ ≠ gb143))) (fun _ hk => hk.2) (.int .i64 (rd t150 (ji46)))) (fun _ hk => hk.1))); (case aS => exact z49_); (case aL => have := LMc66.out; omega); intro v160 w77 ho hb hg hat; rw [← Ny159.out] at ho; replace BK131 := Aside0.mk (blk_grown (g := gb131) (o := .cells #[.slice none 0 0] 28 (0, 0)) z111_ hg (Kd.R_ne HO_133000.out BK131.out (by decide))); replace BK132 := Aside0.mk (blk_grown (g := gb132) (o := .cells #[u133000] 28 (0, 0)) z112_ hg (Kd.R_ne HO_133000.out BK132.out (by decide))); replace BK135 := Aside0.mk (blk_grown (g := gb135) (o := .cells #[.int .i64 ((rd_T55 l0 x17_1).f0), .int .i64 ((rd_T55 l0 x17_1).f1)] 55 (0, 0)) z113_ hg (Kd.R_ne HO_133000.out BK135.out (by decide))); replace HO152 := Aside0.mk (Kd.R_over' (by (with_reducible repeat (first | apply Kd.R_alloc | apply Kd.R_drewN | apply Kd.R_drew)); exact (Kd.R_mono (Kd.R_far (p := ⟨gb143, 5, none⟩) (Kd.R_types HO152.out BK143.out (by decide)) (fun _ hk => hk.2) (.int .i64 (rd t150 (ji46)))) (fun _ h_ => h_.1))) (Kd.R_typed (by (with_reducible repeat (first | apply Kd.R_alloc | apply Kd.R_drewN | apply Kd.R_drew)); exact (Kd.R_mono (Kd.R_far (p := ⟨gb143, 5, none⟩) (Kd.R_mono HO_133000.out (fun k_ hk => (⟨hk, hk⟩ : _ ∧ k_ ≠ gb143))) (fun _ hk => hk.2) (.int .i64 (rd t150 (ji46)))) (fun _ h_ => h_.1)))) (by decide) hg); replace BK143 := Aside0.mk (blk_grown (g := gb143) (o := .cells #[.bool true, .int .i64 ((rd_T55 l0 x17_1).f0), .int .i64 t144, .int .i64 x144003_14, .int .i64 x144004_14, .int .i64 (rd t150 (ji46)), .int .i64 t142] 90 (0, 0)) z78_ hg (Kd.R_away HO_133000.out (fun _ hk => hk))); replace HB := Aside0.mk (hb); have HO161 := Aside0.mk (ho); clear HO_133000; clear ho hb hg hat; obtain ⟨Ao78, co78, eo78⟩ := Kd.R_slice HO161.out; subst eo78; have hcz79_0 : w77.cell? ⟨gb132, 0, none⟩ = some (u133000) := (blk_cell BK132.out 0).trans rfl; have hfz79_0 := blk_frozen BK132.out 0))
          go_roundg kj14
          case measure => have := HK1.out; have := HJ14.out; omega
          case rel => exact ⟨(wrap64 (x17_1 + 1)), (y159), (.slice Ao78 y159.length co78), z15_, H', ⟨z145_⟩, ⟨by (with_reducible repeat (first | apply Kd.R_alloc | apply Kd.R_drewN | apply Kd.R_drew)); exact Kd.R_mono (Kd.R_far (p := ⟨gb132, 0, none⟩) (Kd.R_types HO161.out BK132.out (by decide)) (fun _ hk => hk.2) (.slice Ao78 y159.length co78)) (fun _ hk => trivial)⟩, ⟨z40_⟩, ⟨z53_⟩, ⟨z5_⟩⟩
        ·rw [if_neg c45] at H
         have c45b0 : decide (0 < t153) = false := decide_eq_false c45
         clear c45
         by_cases c80 : (wrap64 (t153 + 1)) < (t150.length : Int)
         ·rw [if_pos c80] at H
          have c80b0 : decide ((wrap64 (t153 + 1)) < (t150.length : Int)) = true := decide_eq_true c80
          clear c80
          obtain ⟨ji81, hji81⟩ : ∃ j_ : Int, (wrap64 (t153 + 1)) = j_ := ⟨_, rfl⟩
          replace H : (if 0 ≤ (ji81) then (if x133000_1.length < 2513169434916 then (impl_DomFrom.l0 kj14 l0 l0 (l0.length : Int) (wrap64 (x17_1 + 1)) (x133000_1 ++ [(⟨true, ((rd_T55 l0 x17_1).f0), t144, x144003_14, x144004_14, t141, rd t150 (ji81)⟩ : S90)])) else (none)) else (none)) = some r := by first | (rw [hji81] at H; exact H) | (simp only [hji81] at H ⊢; exact H)
          (try rw [hji81] at c80b0)
          (try rw [hji81] at A42)
          (try rw [hji81] at A44)
          have hji81w : (IntKind.i64.wrap (t153 + 1)) = ji81 := (i64_w _).trans hji81
          obtain ⟨c82b0, H⟩ := ifd_ H
          obtain ⟨c83, H⟩ := ifs_ H
          have LMc83 := Aside0.mk c83
          clear c83
          obtain ⟨y163, hy163⟩ : ∃ y_ : List (S90), y_ = (x133000_1 ++ [(⟨true, ((rd_T55 l0 x17_1).f0), t144, x144003_14, x144004_14, t141, rd t150 (ji81)⟩ : S90)]) := ⟨_, rfl⟩
          replace H : (impl_DomFrom.l0 kj14 l0 l0 (l0.length : Int) (wrap64 (x17_1 + 1)) y163) = some r := by first | (rw [hy163]; with_reducible exact H) | (have H2_ := (Option.bind_some _ _).symm.trans H; rw [hy163]; with_reducible exact H2_) | (have H2_ := (Option.bind_some _ _).symm.trans H; with_reducible exact H2_) | with_reducible exact H | (rw [hy163]; exact H) | exact H
          have Ny163 := Aside0.mk hy163
          clear hy163
          have H' := Aside0.mk H
          clear H
          have hnb84 := NB143_131.out
          have hnc84 := NB131_143.out
          have hnb85 := NB143_132.out
          have hnc85 := NB132_143.out
          have hnb86 := NB143_135.out
          have hnc86 := NB135_143.out
          have hcz87_0 : wc.cell? ⟨gb143, 0, none⟩ = some (.bool true) := (blk_cell BK143.out 0).trans rfl
          have hcz87_1 : wc.cell? ⟨gb143, 1, none⟩ = some (.int .i64 ((rd_T55 l0 x17_1).f0)) := (blk_cell BK143.out 1).trans rfl
          have hcz87_2 : wc.cell? ⟨gb143, 2, none⟩ = some (.int .i64 t144) := (blk_cell BK143.out 2).trans rfl
          have hcz87_3 : wc.cell? ⟨gb143, 3, none⟩ = some (.int .i64 x144003_14) := (blk_cell BK143.out 3).trans rfl
          have hcz87_4 : wc.cell? ⟨gb143, 4, none⟩ = some (.int .i64 x144004_14) := (blk_cell BK143.out 4).trans rfl
          have hcz87_5 : wc.cell? ⟨gb143, 5, none⟩ = some (.int .i64 t141) := (blk_cell BK143.out 5).trans rfl
          have hcz87_6 : wc.cell? ⟨gb143, 6, none⟩ = some (.int .i64 t142) := (blk_cell BK143.out 6).trans rfl
          have hfz87_0 := blk_frozen BK143.out 0
          have hfz87_1 := blk_frozen BK143.out 1
          have hfz87_2 := blk_frozen BK143.out 2
          have hfz87_3 := blk_frozen BK143.out 3
          have hfz87_4 := blk_frozen BK143.out 4
          have hfz87_5 := blk_frozen BK143.out 5
          have hfz87_6 := blk_frozen BK143.out 6
          go_wp2_with (first | ((with_reducible refine gate_callee (f := 71) rfl ?_); refine goesL_ (some 51) rfl rfl Try.func71 (by kernel_rfl) rfl #[.slice (some ad134) l0.length c0, .int .i64 t144] rfl z1_ ?_; (with_reducible refine (impl_KidsOf.calls kj14 _ _ l0 t144 t150 _ ?side1 ?side2 A42.out).mono ?_); (case side1 => exact z7_); (case side2 => exact HC0.out); rintro e w88 ⟨v151, rfl, ho0, hb⟩; refine ⟨_, rfl, ?_⟩; replace HO_133000 := Aside0.mk (Kd.R_below z39_ hb); have HO152 := Aside0.mk (Kd.R_lower ho0 (below_size z5_)); replace BK131 := Aside0.mk (blk_below (g := gb131) (o := .cells #[.slice none 0 0] 28 (0, 0)) z25_ hb); replace BK132 := Aside0.mk (blk_below (g := gb132) (o := .cells #[u133000] 28 (0, 0)) z29_ hb); replace BK135 := Aside0.mk (blk_below (g := gb135) (o := .cells #[.int .i64 ((rd_T55 l0 x17_1).f0), .int .i64 ((rd_T55 l0 x17_1).f1)] 55 (0, 0)) z38_ hb); replace BK143 := Aside0.mk (blk_below (g := gb143) (o := .cells #[.bool true, .int .i64 ((rd_T55 l0 x17_1).f0), .int .i64 t144, .int .i64 x144003_14, .int .i64 x144004_14, .int .i64 t141, .int .i64 t142] 90 (0, 0)) z41_ hb); replace HB := Aside0.mk (below_step z5_ hb); (try clear hb ho0); obtain ⟨Ao89, co89, eo89⟩ := Kd.R_slice HO152.out; subst eo89) | ((with_reducible refine gate_callee (f := 72) rfl ?_); refine goesL_ (some 57) rfl rfl Try.func72 (by kernel_rfl) rfl #[.slice Ao89 t150.length co89, .int .i64 x17_1] rfl z1_ ?_; (with_reducible refine (slices_Index_int_int.calls kj14 _ _ t150 x17_1 t153 _ ?side1 ?side2 A44.out).mono ?_); (case side1 => exact z86_); (case side2 => exact z154_); rintro e w' ⟨rfl, ⟨nd, rfl⟩⟩; refine ⟨_, rfl, ?_⟩; (try (rw [drewN_self w88]; generalize hq_ : World.drewN w88 _ = w88; have n0_ : Aside0 (Kd.R (Kd.int .i64) 3 w88 w.heap.size (fun _ => True) (.slice Ao89 t150.length co89) t150) := ⟨z114_⟩; have n1_ : Aside0 (Kd.R k90 90 w88 w.heap.size (fun k_ => k_ ≠ gb143) u133000 x133000_1) := ⟨z105_⟩; have n2_ : Aside0 (w88.heap[gb131]? = some (.cells #[.slice none 0 0] 28 (0, 0))) := ⟨z96_⟩; have n3_ : Aside0 (w88.heap[gb132]? = some (.cells #[u133000] 28 (0, 0))) := ⟨z97_⟩; have n4_ : Aside0 (w88.heap[gb135]? = some (.cells #[.int .i64 ((rd_T55 l0 x17_1).f0), .int .i64 ((rd_T55 l0 x17_1).f1)] 55 (0, 0))) := ⟨z98_⟩; have n5_ : Aside0 (w88.heap[gb143]? = some (.cells #[.bool true, .int .i64 ((rd_T55 l0 x17_1).f0), .int .i64 t144, .int .i64 x144003_14, .int .i64 x144004_14, .int .i64 t141, .int .i64 t142] 90 (0, 0))) := ⟨z99_⟩; have n6_ : Aside0 (Below w.heap.size w w88) := ⟨z64_⟩; clear HO152 HO_133000 BK131 BK132 BK135 BK143 HB hq_; have HO152 := n0_; have HO_133000 := n1_; have BK131 := n2_; have BK132 := n3_; have BK135 := n4_; have BK143 := n5_; have HB := n6_; clear n0_ n1_ n2_ n3_ n4_ n5_ n6_)); have p162 : 0 ≤ ((ji81) : Int) := odt_; have q162 : (ji81) < (t150.length : Int) := odt_; obtain ⟨ad162, e162, hx162_0⟩ := Kd.at_int (Kd.R_reads' HO152.out).2.2 (ji81) p162 q162; cases e162; replace p162 := eq_true p162; replace q162 := eq_true q162; have hcz90_0 : w88.cell? ⟨gb143, 0, none⟩ = some (.bool true) := (blk_cell BK143.out 0).trans rfl; have hcz90_1 : w88.cell? ⟨gb143, 1, none⟩ = some (.int .i64 ((rd_T55 l0 x17_1).f0)) := (blk_cell BK143.out 1).trans rfl; have hcz90_2 : w88.cell? ⟨gb143, 2, none⟩ = some (.int .i64 t144) := (blk_cell BK143.out 2).trans rfl; have hcz90_3 : w88.cell? ⟨gb143, 3, none⟩ = some (.int .i64 x144003_14) := (blk_cell BK143.out 3).trans rfl; have hcz90_4 : w88.cell? ⟨gb143, 4, none⟩ = some (.int .i64 x144004_14) := (blk_cell BK143.out 4).trans rfl; have hcz90_5 : w88.cell? ⟨gb143, 5, none⟩ = some (.int .i64 t141) := (blk_cell BK143.out 5).trans rfl; have hcz90_6 : w88.cell? ⟨gb143, 6, none⟩ = some (.int .i64 t142) := (blk_cell BK143.out 6).trans rfl; have hfz90_0 := blk_frozen BK143.out 0; have hfz90_1 := blk_frozen BK143.out 1; have hfz90_2 := blk_frozen BK143.out 2; have hfz90_3 := blk_frozen BK143.out 3; have hfz90_4 := blk_frozen BK143.out 4; have hfz90_5 := blk_frozen BK143.out 5; have hfz90_6 := blk_frozen BK143.out 6; have hnb91 := NB132_131.out; have hnc91 := NB131_132.out; have hnb92 := NB132_135.out; have hnc92 := NB135_132.out; have hcz93_0 : w88.cell? ⟨gb132, 0, none⟩ = some (u133000) := (blk_cell BK132.out 0).trans rfl; have hfz93_0 := blk_frozen BK132.out 0) | ((with_reducible refine gate_builtin (b := .append) (xs := #[.tmp 78, .tmp 80]) rfl ?_); at_builtin; refine Kd.R_append k90 (w0 := w) w.heap.size rfl (.tmp 78) (.tmp 80) 26 90 (.agg #[(.bool false), (.int .i64 0), (.int .i64 0), (.int .i64 0), (.int .i64 0), (.int .i64 0), (.int .i64 0)]) 56 rfl Try.underlying26 info90 rfl (by decide) (by omega) u133000 x133000_1 (⟨true, ((rd_T55 l0 x17_1).f0), t144, x144003_14, x144004_14, t141, rd t150 (ji81)⟩ : S90) [.bool true, .int .i64 ((rd_T55 l0 x17_1).f0), .int .i64 t144, .int .i64 x144003_14, .int .i64 x144004_14, .int .i64 t141, .int .i64 (rd t150 (ji81))] (fun k_ => k_ ≠ gb143) (fun _ => False) rfl z35_ ?aP (fun _ hk => hk.elim) ?aF ?aO ?aB ?aS ?aL ?_; (case aP => exact k90_mkM _ _ _ (⟨true, ((rd_T55 l0 x17_1).f0), t144, x144003_14, x144004_14, t141, rd t150 (ji81)⟩ : S90)); (case aB => exact z51_); (case aF => exact (fun k_ hk => Kd.freshB (g := gb143) (o := .cells #[.bool true, .int .i64 ((rd_T55 l0 x17_1).f0), .int .i64 t144, .int .i64 x144003_14, .int .i64 x144004_14, .int .i64 t141, .int .i64 (rd t150 (ji81))] 90 (0, 0)) z79_ k_ hk)); (case aO => exact (by (with_reducible repeat (first | apply Kd.R_alloc | apply Kd.R_drewN | apply Kd.R_drew)); exact Kd.R_mono (Kd.R_far (p := ⟨gb143, 6, none⟩) (Kd.R_mono HO_133000.out (fun k_ hk => (⟨hk, hk⟩ : _ ∧ k_ ≠ gb143))) (fun _ hk => hk.2) (.int .i64 (rd t150 (ji81)))) (fun _ hk => hk.1))); (case aS => exact z49_); (case aL => have := LMc83.out; omega); intro v164 w94 ho hb hg hat; rw [← Ny163.out] at ho; replace BK131 := Aside0.mk (blk_grown (g := gb131) (o := .cells #[.slice none 0 0] 28 (0, 0)) z111_ hg (Kd.R_ne HO_133000.out BK131.out (by decide))); replace BK132 := Aside0.mk (blk_grown (g := gb132) (o := .cells #[u133000] 28 (0, 0)) z112_ hg (Kd.R_ne HO_133000.out BK132.out (by decide))); replace BK135 := Aside0.mk (blk_grown (g := gb135) (o := .cells #[.int .i64 ((rd_T55 l0 x17_1).f0), .int .i64 ((rd_T55 l0 x17_1).f1)] 55 (0, 0)) z113_ hg (Kd.R_ne HO_133000.out BK135.out (by decide))); replace HO152 := Aside0.mk (Kd.R_over' (by (with_reducible repeat (first | apply Kd.R_alloc | apply Kd.R_drewN | apply Kd.R_drew)); exact (Kd.R_mono (Kd.R_far (p := ⟨gb143, 6, none⟩) (Kd.R_types HO152.out BK143.out (by decide)) (fun _ hk => hk.2) (.int .i64 (rd t150 (ji81)))) (fun _ h_ => h_.1))) (Kd.R_typed (by (with_reducible repeat (first | apply Kd.R_alloc | apply Kd.R_drewN | apply Kd.R_drew)); exact (Kd.R_mono (Kd.R_far (p := ⟨gb143, 6, none⟩) (Kd.R_mono HO_133000.out (fun k_ hk => (⟨hk, hk⟩ : _ ∧ k_ ≠ gb143))) (fun _ hk => hk.2) (.int .i64 (rd t150 (ji81)))) (fun _ h_ => h_.1)))) (by decide) hg); replace BK143 := Aside0.mk (blk_grown (g := gb143) (o := .cells #[.bool true, .int .i64 ((rd_T55 l0 x17_1).f0), .int .i64 t144, .int .i64 x144003_14, .int .i64 x144004_14, .int .i64 t141, .int .i64 (rd t150 (ji81))] 90 (0, 0)) z79_ hg (Kd.R_away HO_133000.out (fun _ hk => hk))); replace HB := Aside0.mk (hb); have HO165 := Aside0.mk (ho); clear HO_133000; clear ho hb hg hat; obtain ⟨Ao95, co95, eo95⟩ := Kd.R_slice HO165.out; subst eo95; have hcz96_0 : w94.cell? ⟨gb132, 0, none⟩ = some (u133000) := (blk_cell BK132.out 0).trans rfl; have hfz96_0 := blk_frozen BK132.out 0))
          go_roundg kj14
          case measure => have := HK1.out; have := HJ14.out; omega
          case rel => exact ⟨(wrap64 (x17_1 + 1)), (y163), (.slice Ao95 y163.length co95), z15_, H', ⟨z145_⟩, ⟨by (with_reducible repeat (first | apply Kd.R_alloc | apply Kd.R_drewN | apply Kd.R_drew)); exact Kd.R_mono (Kd.R_far (p := ⟨gb132, 0, none⟩) (Kd.R_types HO165.out BK132.out (by decide)) (fun _ hk => hk.2) (.slice Ao95 y163.length co95)) (fun _ hk => trivial)⟩, ⟨z40_⟩, ⟨z53_⟩, ⟨z5_⟩⟩
         ·rw [if_neg c80] at H
          have c80b0 : decide ((wrap64 (t153 + 1)) < (t150.length : Int)) = false := decide_eq_false c80
          clear c80
          obtain ⟨c97, H⟩ := ifs_ H
          have LMc97 := Aside0.mk c97
          clear c97
          obtain ⟨y166, hy166⟩ : ∃ y_ : List (S90), y_ = (x133000_1 ++ [(⟨true, ((rd_T55 l0 x17_1).f0), t144, x144003_14, x144004_14, t141, t142⟩ : S90)]) := ⟨_, rfl⟩
          replace H : (impl_DomFrom.l0 kj14 l0 l0 (l0.length : Int) (wrap64 (x17_1 + 1)) y166) = some r := by first | (rw [hy166]; with_reducible exact H) | (have H2_ := (Option.bind_some _ _).symm.trans H; rw [hy166]; with_reducible exact H2_) | (have H2_ := (Option.bind_some _ _).symm.trans H; with_reducible exact H2_) | with_reducible exact H | (rw [hy166]; exact H) | exact H
          have Ny166 := Aside0.mk hy166
          clear hy166
          have H' := Aside0.mk H
          clear H
          have hnb98 := NB143_131.out
          have hnc98 := NB131_143.out
          have hnb99 := NB143_132.out
          have hnc99 := NB132_143.out
          have hnb100 := NB143_135.out
          have hnc100 := NB135_143.out
          have hcz101_0 : wc.cell? ⟨gb143, 0, none⟩ = some (.bool true) := (blk_cell BK143.out 0).trans rfl
          have hcz101_1 : wc.cell? ⟨gb143, 1, none⟩ = some (.int .i64 ((rd_T55 l0 x17_1).f0)) := (blk_cell BK143.out 1).trans rfl
          have hcz101_2 : wc.cell? ⟨gb143, 2, none⟩ = some (.int .i64 t144) := (blk_cell BK143.out 2).trans rfl
          have hcz101_3 : wc.cell? ⟨gb143, 3, none⟩ = some (.int .i64 x144003_14) := (blk_cell BK143.out 3).trans rfl
          have hcz101_4 : wc.cell? ⟨gb143, 4, none⟩ = some (.int .i64 x144004_14) := (blk_cell BK143.out 4).trans rfl
          have hcz101_5 : wc.cell? ⟨gb143, 5, none⟩ = some (.int .i64 t141) := (blk_cell BK143.out 5).trans rfl
          have hcz101_6 : wc.cell? ⟨gb143, 6, none⟩ = some (.int .i64 t142) := (blk_cell BK143.out 6).trans rfl
          have hfz101_0 := blk_frozen BK143.out 0
          have hfz101_1 := blk_frozen BK143.out 1
          have hfz101_2 := blk_frozen BK143.out 2
          have hfz101_3 := blk_frozen BK143.out 3
          have hfz101_4 := blk_frozen BK143.out 4
          have hfz101_5 := blk_frozen BK143.out 5
          have hfz101_6 := blk_frozen BK143.out 6
          go_wp2_with (first | ((with_reducible refine gate_callee (f := 71) rfl ?_); refine goesL_ (some 51) rfl rfl Try.func71 (by kernel_rfl) rfl #[.slice (some ad134) l0.length c0, .int .i64 t144] rfl z1_ ?_; (with_reducible refine (impl_KidsOf.calls kj14 _ _ l0 t144 t150 _ ?side1 ?side2 A42.out).mono ?_); (case side1 => exact z7_); (case side2 => exact HC0.out); rintro e w102 ⟨v151, rfl, ho0, hb⟩; refine ⟨_, rfl, ?_⟩; replace HO_133000 := Aside0.mk (Kd.R_below z39_ hb); have HO152 := Aside0.mk (Kd.R_lower ho0 (below_size z5_)); replace BK131 := Aside0.mk (blk_below (g := gb131) (o := .cells #[.slice none 0 0] 28 (0, 0)) z25_ hb); replace BK132 := Aside0.mk (blk_below (g := gb132) (o := .cells #[u133000] 28 (0, 0)) z29_ hb); replace BK135 := Aside0.mk (blk_below (g := gb135) (o := .cells #[.int .i64 ((rd_T55 l0 x17_1).f0), .int .i64 ((rd_T55 l0 x17_1).f1)] 55 (0, 0)) z38_ hb); replace BK143 := Aside0.mk (blk_below (g := gb143) (o := .cells #[.bool true, .int .i64 ((rd_T55 l0 x17_1).f0), .int .i64 t144, .int .i64 x144003_14, .int .i64 x144004_14, .int .i64 t141, .int .i64 t142] 90 (0, 0)) z41_ hb); replace HB := Aside0.mk (below_step z5_ hb); (try clear hb ho0); obtain ⟨Ao103, co103, eo103⟩ := Kd.R_slice HO152.out; subst eo103) | ((with_reducible refine gate_callee (f := 72) rfl ?_); refine goesL_ (some 57) rfl rfl Try.func72 (by kernel_rfl) rfl #[.slice Ao103 t150.length co103, .int .i64 x17_1] rfl z1_ ?_; (with_reducible refine (slices_Index_int_int.calls kj14 _ _ t150 x17_1 t153 _ ?side1 ?side2 A44.out).mono ?_); (case side1 => exact z86_); (case side2 => exact z154_); rintro e w' ⟨rfl, ⟨nd, rfl⟩⟩; refine ⟨_, rfl, ?_⟩; (try (rw [drewN_self w102]; generalize hq_ : World.drewN w102 _ = w102; have n0_ : Aside0 (Kd.R (Kd.int .i64) 3 w102 w.heap.size (fun _ => True) (.slice Ao103 t150.length co103) t150) := ⟨z114_⟩; have n1_ : Aside0 (Kd.R k90 90 w102 w.heap.size (fun k_ => k_ ≠ gb143) u133000 x133000_1) := ⟨z105_⟩; have n2_ : Aside0 (w102.heap[gb131]? = some (.cells #[.slice none 0 0] 28 (0, 0))) := ⟨z96_⟩; have n3_ : Aside0 (w102.heap[gb132]? = some (.cells #[u133000] 28 (0, 0))) := ⟨z97_⟩; have n4_ : Aside0 (w102.heap[gb135]? = some (.cells #[.int .i64 ((rd_T55 l0 x17_1).f0), .int .i64 ((rd_T55 l0 x17_1).f1)] 55 (0, 0))) := ⟨z98_⟩; have n5_ : Aside0 (w102.heap[gb143]? = some (.cells #[.bool true, .int .i64 ((rd_T55 l0 x17_1).f0), .int .i64 t144, .int .i64 x144003_14, .int .i64 x144004_14, .int .i64 t141, .int .i64 t142] 90 (0, 0))) := ⟨z99_⟩; have n6_ : Aside0 (Below w.heap.size w w102) := ⟨z64_⟩; clear HO152 HO_133000 BK131 BK132 BK135 BK143 HB hq_; have HO152 := n0_; have HO_133000 := n1_; have BK131 := n2_; have BK132 := n3_; have BK135 := n4_; have BK143 := n5_; have HB := n6_; clear n0_ n1_ n2_ n3_ n4_ n5_ n6_)); have hnb104 := NB132_131.out; have hnc104 := NB131_132.out; have hnb105 := NB132_135.out; have hnc105 := NB135_132.out; have hcz106_0 : w102.cell? ⟨gb132, 0, none⟩ = some (u133000) := (blk_cell BK132.out 0).trans rfl; have hfz106_0 := blk_frozen BK132.out 0; have hcz107_0 : w102.cell? ⟨gb143, 0, none⟩ = some (.bool true) := (blk_cell BK143.out 0).trans rfl; have hcz107_1 : w102.cell? ⟨gb143, 1, none⟩ = some (.int .i64 ((rd_T55 l0 x17_1).f0)) := (blk_cell BK143.out 1).trans rfl; have hcz107_2 : w102.cell? ⟨gb143, 2, none⟩ = some (.int .i64 t144) := (blk_cell BK143.out 2).trans rfl; have hcz107_3 : w102.cell? ⟨gb143, 3, none⟩ = some (.int .i64 x144003_14) := (blk_cell BK143.out 3).trans rfl; have hcz107_4 : w102.cell? ⟨gb143, 4, none⟩ = some (.int .i64 x144004_14) := (blk_cell BK143.out 4).trans rfl; have hcz107_5 : w102.cell? ⟨gb143, 5, none⟩ = some (.int .i64 t141) := (blk_cell BK143.out 5).trans rfl; have hcz107_6 : w102.cell? ⟨gb143, 6, none⟩ = some (.int .i64 t142) := (blk_cell BK143.out 6).trans rfl; have hfz107_0 := blk_frozen BK143.out 0; have hfz107_1 := blk_frozen BK143.out 1; have hfz107_2 := blk_frozen BK143.out 2; have hfz107_3 := blk_frozen BK143.out 3; have hfz107_4 := blk_frozen BK143.out 4; have hfz107_5 := blk_frozen BK143.out 5; have hfz107_6 := blk_frozen BK143.out 6) | ((with_reducible refine gate_builtin (b := .append) (xs := #[.tmp 78, .tmp 80]) rfl ?_); at_builtin; refine Kd.R_append k90 (w0 := w) w.heap.size rfl (.tmp 78) (.tmp 80) 26 90 (.agg #[(.bool false), (.int .i64 0), (.int .i64 0), (.int .i64 0), (.int .i64 0), (.int .i64 0), (.int .i64 0)]) 56 rfl Try.underlying26 info90 rfl (by decide) (by omega) u133000 x133000_1 (⟨true, ((rd_T55 l0 x17_1).f0), t144, x144003_14, x144004_14, t141, t142⟩ : S90) [.bool true, .int .i64 ((rd_T55 l0 x17_1).f0), .int .i64 t144, .int .i64 x144003_14, .int .i64 x144004_14, .int .i64 t141, .int .i64 t142] (fun k_ => k_ ≠ gb143) (fun _ => False) rfl rfl ?aP (fun _ hk => hk.elim) ?aF ?aO ?aB ?aS ?aL ?_; (case aP => exact z144_); (case aB => exact z51_); (case aF => exact z87_); (case aO => exact z134_); (case aS => exact z49_); (case aL => have := LMc97.out; omega); intro v167 w108 ho hb hg hat; rw [← Ny166.out] at ho; replace BK131 := Aside0.mk (blk_grown (g := gb131) (o := .cells #[.slice none 0 0] 28 (0, 0)) z25_ hg (Kd.R_ne HO_133000.out BK131.out (by decide))); replace BK132 := Aside0.mk (blk_grown (g := gb132) (o := .cells #[u133000] 28 (0, 0)) z29_ hg (Kd.R_ne HO_133000.out BK132.out (by decide))); replace BK135 := Aside0.mk (blk_grown (g := gb135) (o := .cells #[.int .i64 ((rd_T55 l0 x17_1).f0), .int .i64 ((rd_T55 l0 x17_1).f1)] 55 (0, 0)) z38_ hg (Kd.R_ne HO_133000.out BK135.out (by decide))); replace BK143 := Aside0.mk (blk_grown (g := gb143) (o := .cells #[.bool true, .int .i64 ((rd_T55 l0 x17_1).f0), .int .i64 t144, .int .i64 x144003_14, .int .i64 x144004_14, .int .i64 t141, .int .i64 t142] 90 (0, 0)) z41_ hg (Kd.R_away HO_133000.out (fun _ hk => hk))); replace HO152 := Aside0.mk (Kd.R_over' z92_ (Kd.R_typed z39_) (by decide) hg); replace HB := Aside0.mk (hb); have HO168 := Aside0.mk (ho); clear HO_133000; clear ho hb hg hat; obtain ⟨Ao109, co109, eo109⟩ := Kd.R_slice HO168.out; subst eo109; have hcz110_0 : w108.cell? ⟨gb132, 0, none⟩ = some (u133000) := (blk_cell BK132.out 0).trans rfl; have hfz110_0 := blk_frozen BK132.out 0))
          go_roundg kj14
          case measure => have := HK1.out; have := HJ14.out; omega
          case rel => exact ⟨(wrap64 (x17_1 + 1)), (y166), (.slice Ao109 y166.length co109), z15_, H', ⟨z145_⟩, ⟨by (with_reducible repeat (first | apply Kd.R_alloc | apply Kd.R_drewN | apply Kd.R_drew)); exact Kd.R_mono (Kd.R_far (p := ⟨gb132, 0, none⟩) (Kd.R_types HO168.out BK132.out (by decide)) (fun _ hk => hk.2) (.slice Ao109 y166.length co109)) (fun _ hk => trivial)⟩, ⟨z40_⟩, ⟨z53_⟩, ⟨z5_⟩⟩
       ·rw [if_neg c43] at H
        have c43b0 : decide (0 < (t150.length : Int)) = false := decide_eq_false c43
        have c43b1 : decide (0 < t150.length) = false := decide_eq_false (by omega)
        clear c43
        obtain ⟨c111, H⟩ := ifs_ H
        have LMc111 := Aside0.mk c111
        clear c111
        obtain ⟨y169, hy169⟩ : ∃ y_ : List (S90), y_ = (x133000_1 ++ [(⟨true, ((rd_T55 l0 x17_1).f0), t144, x144003_14, x144004_14, t141, t142⟩ : S90)]) := ⟨_, rfl⟩
        replace H : (impl_DomFrom.l0 kj14 l0 l0 (l0.length : Int) (wrap64 (x17_1 + 1)) y169) = some r := by first | (rw [hy169]; with_reducible exact H) | (have H2_ := (Option.bind_some _ _).symm.trans H; rw [hy169]; with_reducible exact H2_) | (have H2_ := (Option.bind_some _ _).symm.trans H; with_reducible exact H2_) | with_reducible exact H | (rw [hy169]; exact H) | exact H
        have Ny169 := Aside0.mk hy169
        clear hy169
        have H' := Aside0.mk H
        clear H
        have hnb112 := NB143_131.out
        have hnc112 := NB131_143.out
        have hnb113 := NB143_132.out
        have hnc113 := NB132_143.out
        have hnb114 := NB143_135.out
        have hnc114 := NB135_143.out
        have hcz115_0 : wc.cell? ⟨gb143, 0, none⟩ = some (.bool true) := (blk_cell BK143.out 0).trans rfl
        have hcz115_1 : wc.cell? ⟨gb143, 1, none⟩ = some (.int .i64 ((rd_T55 l0 x17_1).f0)) := (blk_cell BK143.out 1).trans rfl
        have hcz115_2 : wc.cell? ⟨gb143, 2, none⟩ = some (.int .i64 t144) := (blk_cell BK143.out 2).trans rfl
        have hcz115_3 : wc.cell? ⟨gb143, 3, none⟩ = some (.int .i64 x144003_14) := (blk_cell BK143.out 3).trans rfl
        have hcz115_4 : wc.cell? ⟨gb143, 4, none⟩ = some (.int .i64 x144004_14) := (blk_cell BK143.out 4).trans rfl
        have hcz115_5 : wc.cell? ⟨gb143, 5, none⟩ = some (.int .i64 t141) := (blk_cell BK143.out 5).trans rfl
        have hcz115_6 : wc.cell? ⟨gb143, 6, none⟩ = some (.int .i64 t142) := (blk_cell BK143.out 6).trans rfl
        have hfz115_0 := blk_frozen BK143.out 0
        have hfz115_1 := blk_frozen BK143.out 1
        have hfz115_2 := blk_frozen BK143.out 2
        have hfz115_3 := blk_frozen BK143.out 3
        have hfz115_4 := blk_frozen BK143.out 4
        have hfz115_5 := blk_frozen BK143.out 5
        have hfz115_6 := blk_frozen BK143.out 6
        go_wp2_with (first | ((with_reducible refine gate_callee (f := 71) rfl ?_); refine goesL_ (some 51) rfl rfl Try.func71 (by kernel_rfl) rfl #[.slice (some ad134) l0.length c0, .int .i64 t144] rfl z1_ ?_; (with_reducible refine (impl_KidsOf.calls kj14 _ _ l0 t144 t150 _ ?side1 ?side2 A42.out).mono ?_); (case side1 => exact z7_); (case side2 => exact HC0.out); rintro e w116 ⟨v151, rfl, ho0, hb⟩; refine ⟨_, rfl, ?_⟩; replace HO_133000 := Aside0.mk (Kd.R_below z39_ hb); have HO152 := Aside0.mk (Kd.R_lower ho0 (below_size z5_)); replace BK131 := Aside0.mk (blk_below (g := gb131) (o := .cells #[.slice none 0 0] 28 (0, 0)) z25_ hb); replace BK132 := Aside0.mk (blk_below (g := gb132) (o := .cells #[u133000] 28 (0, 0)) z29_ hb); replace BK135 := Aside0.mk (blk_below (g := gb135) (o := .cells #[.int .i64 ((rd_T55 l0 x17_1).f0), .int .i64 ((rd_T55 l0 x17_1).f1)] 55 (0, 0)) z38_ hb); replace BK143 := Aside0.mk (blk_below (g := gb143) (o := .cells #[.bool true, .int .i64 ((rd_T55 l0 x17_1).f0), .int .i64 t144, .int .i64 x144003_14, .int .i64 x144004_14, .int .i64 t141, .int .i64 t142] 90 (0, 0)) z41_ hb); replace HB := Aside0.mk (below_step z5_ hb); (try clear hb ho0); obtain ⟨Ao117, co117, eo117⟩ := Kd.R_slice HO152.out; subst eo117; have hnb118 := NB132_131.out; have hnc118 := NB131_132.out; have hnb119 := NB132_135.out; have hnc119 := NB135_132.out; have hcz120_0 : w116.cell? ⟨gb132, 0, none⟩ = some (u133000) := (blk_cell BK132.out 0).trans rfl; have hfz120_0 := blk_frozen BK132.out 0; have hcz121_0 : w116.cell? ⟨gb143, 0, none⟩ = some (.bool true) := (blk_cell BK143.out 0).trans rfl; have hcz121_1 : w116.cell? ⟨gb143, 1, none⟩ = some (.int .i64 ((rd_T55 l0 x17_1).f0)) := (blk_cell BK143.out 1).trans rfl; have hcz121_2 : w116.cell? ⟨gb143, 2, none⟩ = some (.int .i64 t144) := (blk_cell BK143.out 2).trans rfl; have hcz121_3 : w116.cell? ⟨gb143, 3, none⟩ = some (.int .i64 x144003_14) := (blk_cell BK143.out 3).trans rfl; have hcz121_4 : w116.cell? ⟨gb143, 4, none⟩ = some (.int .i64 x144004_14) := (blk_cell BK143.out 4).trans rfl; have hcz121_5 : w116.cell? ⟨gb143, 5, none⟩ = some (.int .i64 t141) := (blk_cell BK143.out 5).trans rfl; have hcz121_6 : w116.cell? ⟨gb143, 6, none⟩ = some (.int .i64 t142) := (blk_cell BK143.out 6).trans rfl; have hfz121_0 := blk_frozen BK143.out 0; have hfz121_1 := blk_frozen BK143.out 1; have hfz121_2 := blk_frozen BK143.out 2; have hfz121_3 := blk_frozen BK143.out 3; have hfz121_4 := blk_frozen BK143.out 4; have hfz121_5 := blk_frozen BK143.out 5; have hfz121_6 := blk_frozen BK143.out 6) | ((with_reducible refine gate_builtin (b := .append) (xs := #[.tmp 78, .tmp 80]) rfl ?_); at_builtin; refine Kd.R_append k90 (w0 := w) w.heap.size rfl (.tmp 78) (.tmp 80) 26 90 (.agg #[(.bool false), (.int .i64 0), (.int .i64 0), (.int .i64 0), (.int .i64 0), (.int .i64 0), (.int .i64 0)]) 56 rfl Try.underlying26 info90 rfl (by decide) (by omega) u133000 x133000_1 (⟨true, ((rd_T55 l0 x17_1).f0), t144, x144003_14, x144004_14, t141, t142⟩ : S90) [.bool true, .int .i64 ((rd_T55 l0 x17_1).f0), .int .i64 t144, .int .i64 x144003_14, .int .i64 x144004_14, .int .i64 t141, .int .i64 t142] (fun k_ => k_ ≠ gb143) (fun _ => False) rfl rfl ?aP (fun _ hk => hk.elim) ?aF ?aO ?aB ?aS ?aL ?_; (case aP => exact z144_); (case aB => exact z51_); (case aF => exact z87_); (case aO => exact z134_); (case aS => exact z49_); (case aL => have := LMc111.out; omega); intro v170 w122 ho hb hg hat; rw [← Ny169.out] at ho; replace BK131 := Aside0.mk (blk_grown (g := gb131) (o := .cells #[.slice none 0 0] 28 (0, 0)) z25_ hg (Kd.R_ne HO_133000.out BK131.out (by decide))); replace BK132 := Aside0.mk (blk_grown (g := gb132) (o := .cells #[u133000] 28 (0, 0)) z29_ hg (Kd.R_ne HO_133000.out BK132.out (by decide))); replace BK135 := Aside0.mk (blk_grown (g := gb135) (o := .cells #[.int .i64 ((rd_T55 l0 x17_1).f0), .int .i64 ((rd_T55 l0 x17_1).f1)] 55 (0, 0)) z38_ hg (Kd.R_ne HO_133000.out BK135.out (by decide))); replace BK143 := Aside0.mk (blk_grown (g := gb143) (o := .cells #[.bool true, .int .i64 ((rd_T55 l0 x17_1).f0), .int .i64 t144, .int .i64 x144003_14, .int .i64 x144004_14, .int .i64 t141, .int .i64 t142] 90 (0, 0)) z41_ hg (Kd.R_away HO_133000.out (fun _ hk => hk))); replace HO152 := Aside0.mk (Kd.R_over' z92_ (Kd.R_typed z39_) (by decide) hg); replace HB := Aside0.mk (hb); have HO171 := Aside0.mk (ho); clear HO_133000; clear ho hb hg hat; obtain ⟨Ao123, co123, eo123⟩ := Kd.R_slice HO171.out; subst eo123; have hcz124_0 : w122.cell? ⟨gb132, 0, none⟩ = some (u133000) := (blk_cell BK132.out 0).trans rfl; have hfz124_0 := blk_frozen BK132.out 0))
        go_roundg kj14
        case measure => have := HK1.out; have := HJ14.out; omega
        case rel => exact ⟨(wrap64 (x17_1 + 1)), (y169), (.slice Ao123 y169.length co123), z15_, H', ⟨z145_⟩, ⟨by (with_reducible repeat (first | apply Kd.R_alloc | apply Kd.R_drewN | apply Kd.R_drew)); exact Kd.R_mono (Kd.R_far (p := ⟨gb132, 0, none⟩) (Kd.R_types HO171.out BK132.out (by decide)) (fun _ hk => hk.2) (.slice Ao123 y169.length co123)) (fun _ hk => trivial)⟩, ⟨z40_⟩, ⟨z53_⟩, ⟨z5_⟩⟩
    ·rw [if_neg c9] at H
     have c9b0 : decide (x17_1 < (l0.length : Int)) = false := decide_eq_false c9
     clear c9
     obtain rfl := Option.some.inj H
     have hnb125 := NB132_131.out
     have hnc125 := NB131_132.out
     have hcz126_0 : wr.cell? ⟨gb132, 0, none⟩ = some (u133000) := (blk_cell BK132.out 0).trans rfl
     have hfz126_0 := blk_frozen BK132.out 0
     obtain ⟨Ao127, co127, eo127⟩ := Kd.R_slice HO_133000.out
     subst eo127
     have hcz128_0 : wr.cell? ⟨gb131, 0, none⟩ = some (.slice none 0 0) := (blk_cell BK131.out 0).trans rfl
     have hfz128_0 := blk_frozen BK131.out 0
     go_wp2
     refine bodyPost_ret (results_cell_row rfl _ _ gb131 28 #[.slice Ao127 x133000_1.length co127] (0, 0) _ rfl z102_ Try.underlying28 rfl (by kernel_rfl)) rfl ?_
     exact ⟨_, z9_, by (with_reducible repeat (first | apply Kd.R_alloc | apply Kd.R_drewN | apply Kd.R_drew)); exact Kd.R_mono (Kd.R_far (p := ⟨gb131, 0, none⟩) (Kd.R_types HO_133000.out BK131.out (by decide)) (fun _ hk => hk.2) (.slice Ao127 x133000_1.length co127)) (fun _ hk => trivial), z36_⟩
 ·replace c3 := Bool.eq_false_iff.mpr c3
  subst c3
  replace H := iff_ H
  obtain rfl := Option.some.inj H
  go_enter Try.func19, Try.ntmps19
  go_wp2_with (first | ((with_reducible refine gate_dst (N := 2) rfl ?_); refine box_event ?hg (N := 2) ?hd (cs := #[.slice none 0 0]) (t := 28) ?hr ?_; (case hd => rfl); (case hg => rfl); (case hr => exact z35_); intro gb131 hg w129 hbox hb; have BK131 := Aside0.mk (hbox); have GW131 := Aside0.mk ((by rw [hg]; exact (below_size z0_) : w.heap.size ≤ gb131)); have GE131 := Aside0.mk ((by rw [hg]; exact (below_size z0_) : w.heap.size ≤ gb131)); replace HB := Aside0.mk (below_step z0_ hb); clear hb hbox hg) | ((with_reducible refine gate_dst (N := 3) rfl ?_); refine box_event ?hg (N := 3) ?hd (cs := #[.slice none 0 0]) (t := 28) ?hr ?_; (case hd => rfl); (case hg => rfl); (case hr => exact z35_); intro gb132 hg w130 hbox hb; have BK132 := Aside0.mk (hbox); have GW132 := Aside0.mk ((by rw [hg]; exact (below_size z66_) : w.heap.size ≤ gb132)); have GE132 := Aside0.mk ((by rw [hg]; exact (below_size z66_) : w.heap.size ≤ gb132)); replace HB := Aside0.mk (below_step z66_ hb); have NB131_132 := Aside0.mk ((by rw [hg]; exact Nat.ne_of_lt (blk_lt (g := gb131) (o := .cells #[.slice none 0 0] 28 (0, 0)) z25_) : gb131 ≠ gb132)); have NB132_131 := Aside0.mk ((by rw [hg]; exact Nat.ne_of_gt (blk_lt (g := gb131) (o := .cells #[.slice none 0 0] 28 (0, 0)) z25_) : gb132 ≠ gb131)); replace BK131 := Aside0.mk (blk_below (g := gb131) (o := .cells #[.slice none 0 0] 28 (0, 0)) z25_ hb); clear hb hbox hg; have hnb131 := NB132_131.out; have hnc131 := NB131_132.out; have hcz132_0 : w130.cell? ⟨gb132, 0, none⟩ = some (.slice none 0 0) := (blk_cell BK132.out 0).trans rfl; have hfz132_0 := blk_frozen BK132.out 0) | ((with_reducible refine gate_callee (f := 68) rfl ?_); refine goesL_ (some 12) rfl rfl Try.func68 (by kernel_rfl) rfl #[.slice A0 l0.length c0] rfl z1_ ?_; (with_reducible refine (impl_TreeOk.calls k _ _ l0 false _ ?side1 ?side2 A2.out).mono ?_); (case side1 => exact z117_); (case side2 => exact HC0.out); rintro e w133 ⟨rfl, hb⟩; refine ⟨_, rfl, ?_⟩; replace BK131 := Aside0.mk (blk_below (g := gb131) (o := .cells #[.slice none 0 0] 28 (0, 0)) z40_ hb); replace BK132 := Aside0.mk (blk_below (g := gb132) (o := .cells #[.slice none 0 0] 28 (0, 0)) z101_ hb); replace HB := Aside0.mk (below_step z36_ hb); (try clear hb); have hcz134_0 : w133.cell? ⟨gb132, 0, none⟩ = some (.slice none 0 0) := (blk_cell BK132.out 0).trans rfl; have hfz134_0 := blk_frozen BK132.out 0; have hcz135_0 : w133.cell? ⟨gb131, 0, none⟩ = some (.slice none 0 0) := (blk_cell BK131.out 0).trans rfl; have hfz135_0 := blk_frozen BK131.out 0))
  refine bodyPost_ret (results_cell_row rfl _ _ gb131 28 #[.slice none 0 0] (0, 0) _ rfl z102_ Try.underlying28 rfl (by kernel_rfl)) rfl ?_
  exact ⟨_, z9_, z72_, z36_⟩

end Go.Proofs.Ytmbhlfcpdbbogab.PFnPaths
