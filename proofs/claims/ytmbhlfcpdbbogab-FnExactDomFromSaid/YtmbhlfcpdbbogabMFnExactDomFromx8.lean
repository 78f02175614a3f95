/- Laid by a program of this session out of the kit's print for the law FnExactDomFrom: what it says of the machine is proved here, function by function; each contract under the conditions that it names. -/
import Derived.Test.YtmbhlfcpdbbogabMFnExactDomFromx0
import Derived.Test.YtmbhlfcpdbbogabMFnExactDomFromx6
import Derived.Test.YtmbhlfcpdbbogabMFnExactDomFromx7
namespace Go.Proofs.Ytmbhlfcpdbbogab.PFnExactDomFrom
open Go.RowKit Go.Proofs.YtmbhlfcpdbbogabW.PrintWords Go.Proofs.YtmbhlfcpdbbogabW.PrintLast Go.Proofs.YtmbhlfcpdbbogabW.PrintMore
attribute [local go_sem] max2_int min2_int max_two min_two max_three min_three max_four min_four   -- for this text's walks alone
set_option linter.unusedVariables false
set_option linter.unusedSimpArgs false

/-! ### impl_DomFrom: function 19 -/
mutual
def impl_DomFrom.l0 : Nat → List (S55) → List (S55) → Int → Int → List (S90) → Option ((List (S90)))
 | 0, _, _, _, _, _ => none
 | k + 1, x0, x15, x16, x17, x243000 => if x17 < x16 then (if 0 ≤ x17 then (if x17 < (x15.length : Int) then ((impl_unused.f).bind fun bt246 => ((impl_ParentOf.f k x0 x17).bind fun t254 => ((impl_KidsOf.f k x0 x17).bind fun t255 => (if (t255.length : Int) > 0 then (if 0 < (t255.length : Int) then (if 0 ≤ (wrap64 ((t255.length : Int) - 1)) then (if (wrap64 ((t255.length : Int) - 1)) < (t255.length : Int) then (impl_DomFrom.j1 k x0 x17 x15 x16 x17 x243000 true ((rd_T55 x15 x17).f0) t254 (rd t255 0) (rd t255 (wrap64 ((t255.length : Int) - 1))) bt246.2.2.2.2.2.1 bt246.2.2.2.2.2.2) else (none)) else (none)) else (none)) else (impl_DomFrom.j1 k x0 x17 x15 x16 x17 x243000 true ((rd_T55 x15 x17).f0) t254 bt246.2.2.2.1 bt246.2.2.2.2.1 bt246.2.2.2.2.2.1 bt246.2.2.2.2.2.2))))) else (none)) else (none)) else (some x243000)
def impl_DomFrom.j1 : Nat → List (S55) → Int → List (S55) → Int → Int → List (S90) → Bool → Int → Int → Int → Int → Int → Int → Option ((List (S90)))
 | 0, _, _, _, _, _, _, _, _, _, _, _, _, _ => none
 | k + 1, x0, x4, x15, x16, x17, x243000, x254000, x254001, x254002, x254003, x254004, x254005, x254006 => (impl_KidsOf.f k x0 x254002).bind fun t260 => (if (t260.length : Int) > 0 then ((slices_Index_int_int.f k t260 x4).bind fun t263 => (if t263 > 0 then (if 0 ≤ (wrap64 (t263 - 1)) then (if (wrap64 (t263 - 1)) < (t260.length : Int) then (if (wrap64 (t263 + 1)) < (t260.length : Int) then (if 0 ≤ (wrap64 (t263 + 1)) then (if x243000.length < 2513169434916 then (impl_DomFrom.l0 k x0 x15 x16 (wrap64 (x17 + 1)) (x243000 ++ [(⟨x254000, x254001, x254002, x254003, x254004, rd t260 (wrap64 (t263 - 1)), rd t260 (wrap64 (t263 + 1))⟩ : S90)])) else (none)) else (none)) else (if x243000.length < 2513169434916 then (impl_DomFrom.l0 k x0 x15 x16 (wrap64 (x17 + 1)) (x243000 ++ [(⟨x254000, x254001, x254002, x254003, x254004, rd t260 (wrap64 (t263 - 1)), x254006⟩ : S90)])) else (none))) else (none)) else (none)) else (if (wrap64 (t263 + 1)) < (t260.length : Int) then (if 0 ≤ (wrap64 (t263 + 1)) then (if x243000.length < 2513169434916 then (impl_DomFrom.l0 k x0 x15 x16 (wrap64 (x17 + 1)) (x243000 ++ [(⟨x254000, x254001, x254002, x254003, x254004, x254005, rd t260 (wrap64 (t263 + 1))⟩ : S90)])) else (none)) else (none)) else (if x243000.length < 2513169434916 then (impl_DomFrom.l0 k x0 x15 x16 (wrap64 (x17 + 1)) (x243000 ++ [(⟨x254000, x254001, x254002, x254003, x254004, x254005, x254006⟩ : S90)])) else (none))))) else (if x243000.length < 2513169434916 then (impl_DomFrom.l0 k x0 x15 x16 (wrap64 (x17 + 1)) (x243000 ++ [(⟨x254000, x254001, x254002, x254003, x254004, x254005, x254006⟩ : S90)])) else (none)))
end
def impl_DomFrom.f (k : Nat) (l0 : List (S55)) : Option ((List (S90))) := (impl_TreeOk.f k l0).bind fun t243 => (if t243 = true then (impl_DomFrom.l0 k l0 l0 (l0.length : Int) 0 ([] : List (S90))) else (some ([] : List (S90))))
theorem impl_DomFrom.mono_l : ∀ k, (∀ y0 y1 y2 y3 y4, LeO (impl_DomFrom.l0 k y0 y1 y2 y3 y4) (impl_DomFrom.l0 (k + 1) y0 y1 y2 y3 y4)) ∧ (∀ y0 y1 y2 y3 y4 y5 y6 y7 y8 y9 y10 y11 y12, LeO (impl_DomFrom.j1 k y0 y1 y2 y3 y4 y5 y6 y7 y8 y9 y10 y11 y12) (impl_DomFrom.j1 (k + 1) y0 y1 y2 y3 y4 y5 y6 y7 y8 y9 y10 y11 y12))
 | 0 => ⟨fun _ _ _ _ _ r h => by simp [impl_DomFrom.l0] at h, fun _ _ _ _ _ _ _ _ _ _ _ _ _ r h => by simp [impl_DomFrom.j1] at h⟩
 | k + 1 => by
  obtain ⟨ih0, ih1⟩ := impl_DomFrom.mono_l k
  refine ⟨?_, ?_⟩
  ·intro y0 y1 y2 y3 y4
   unfold impl_DomFrom.l0
   repeat' first | (with_reducible first | exact ih0 _ _ _ _ _ | exact ih1 _ _ _ _ _ _ _ _ _ _ _ _ _ | exact impl_KidsOf.mono _ _ _ | exact impl_ParentOf.mono _ _ _ | exact impl_TreeOk.mono _ _ | exact slices_Index_int_int.mono _ _ _ | exact LeO.refl _ | exact LeO.none _ | refine LeO.ite ?_ ?_ | refine LeO.bind ?_ (fun _ => ?_)) | exact ih0 _ _ _ _ _ | exact ih1 _ _ _ _ _ _ _ _ _ _ _ _ _ | exact impl_KidsOf.mono _ _ _ | exact impl_ParentOf.mono _ _ _ | exact impl_TreeOk.mono _ _ | exact slices_Index_int_int.mono _ _ _ | exact LeO.none _ | refine LeO.ite ?_ ?_ | refine LeO.bind ?_ (fun _ => ?_)
  ·intro y0 y1 y2 y3 y4 y5 y6 y7 y8 y9 y10 y11 y12
   unfold impl_DomFrom.j1
   repeat' first | (with_reducible first | exact ih0 _ _ _ _ _ | exact ih1 _ _ _ _ _ _ _ _ _ _ _ _ _ | exact impl_KidsOf.mono _ _ _ | exact impl_ParentOf.mono _ _ _ | exact impl_TreeOk.mono _ _ | exact slices_Index_int_int.mono _ _ _ | exact LeO.refl _ | exact LeO.none _ | refine LeO.ite ?_ ?_ | refine LeO.bind ?_ (fun _ => ?_)) | exact ih0 _ _ _ _ _ | exact ih1 _ _ _ _ _ _ _ _ _ _ _ _ _ | exact impl_KidsOf.mono _ _ _ | exact impl_ParentOf.mono _ _ _ | exact impl_TreeOk.mono _ _ | exact slices_Index_int_int.mono _ _ _ | exact LeO.none _ | refine LeO.ite ?_ ?_ | refine LeO.bind ?_ (fun _ => ?_)
theorem impl_DomFrom.mono : ∀ a0 k, LeO (impl_DomFrom.f k a0) (impl_DomFrom.f (k + 1) a0) := by
 intro a0 k
 obtain ⟨ih0, ih1⟩ := impl_DomFrom.mono_l k
 unfold impl_DomFrom.f
 repeat' first | (with_reducible first | exact ih0 _ _ _ _ _ | exact ih1 _ _ _ _ _ _ _ _ _ _ _ _ _ | exact impl_KidsOf.mono _ _ _ | exact impl_ParentOf.mono _ _ _ | exact impl_TreeOk.mono _ _ | exact slices_Index_int_int.mono _ _ _ | exact LeO.refl _ | exact LeO.none _ | refine LeO.ite ?_ ?_ | refine LeO.bind ?_ (fun _ => ?_)) | exact ih0 _ _ _ _ _ | exact ih1 _ _ _ _ _ _ _ _ _ _ _ _ _ | exact impl_KidsOf.mono _ _ _ | exact impl_ParentOf.mono _ _ _ | exact impl_TreeOk.mono _ _ | exact slices_Index_int_int.mono _ _ _ | exact LeO.none _ | refine LeO.ite ?_ ?_ | refine LeO.bind ?_ (fun _ => ?_)
def impl_DomFrom.T8 : Bool × List (List Nat × List Nat) := (true, [([], []), ([0], [0]), ([], []), ([], []), ([2, 3], [2, 3]), ([], []), ([5, 4], [5]), ([0, 1, 5, 6], []), ([7, 1, 6, 0, 1, 5, 6], [1, 7]), ([0, 1, 2, 3, 4, 5, 6, 7, 8], []), ([9, 4, 8, 0, 1, 2, 3, 4, 5, 6, 7, 8], [4, 9])])
def impl_DomFrom.B8 : List Nat := [0, 1, 0, 0, 12, 0, 60, 127, 255, 511, 1023]
theorem impl_DomFrom.tab8 : rtab .any (opsOf Try.f19 8) = impl_DomFrom.T8 := by kernel_rfl
theorem impl_DomFrom.bits8 : waitsOk impl_DomFrom.T8.2 impl_DomFrom.B8 = true := by kernel_rfl
def impl_DomFrom.T11 : Bool × List (List Nat × List Nat) := (true, [([], []), ([0], [0]), ([1], [1]), ([], []), ([], []), ([4], [4]), ([5], [5]), ([3, 6], [3, 6]), ([7], [7]), ([0, 1, 2], []), ([9, 2, 0, 1, 2], [2, 9]), ([0, 1, 2, 3, 4, 5, 6, 7, 8, 9, 10], []), ([11, 8, 10, 0, 1, 2, 3, 4, 5, 6, 7, 8, 9, 10], [8, 11])])
def impl_DomFrom.B11 : List Nat := [0, 1, 3, 0, 0, 16, 48, 120, 248, 7, 519, 2047, 4095]
theorem impl_DomFrom.tab11 : rtab .any (opsOf Try.f19 11) = impl_DomFrom.T11 := by kernel_rfl
theorem impl_DomFrom.bits11 : waitsOk impl_DomFrom.T11.2 impl_DomFrom.B11 = true := by kernel_rfl
set_option maxHeartbeats 8000000 in
set_option maxRecDepth 100000 in
theorem impl_DomFrom.calls (k : Nat) (A0 : Option Addr) (c0 : Nat) (l0 : List (S55)) (r : List (S90)) (w : World) (hr0 : Kd.C k55 w A0 l0.length l0) (hc0 : l0.length ≤ c0) (h : impl_DomFrom.f k l0 = some r) :
  Calls Try.prog 19 #[.slice A0 l0.length c0] w fun e w' => ∃ v0_ : Value, e = .returned (.agg #[v0_]) ∧ Kd.R k90 90 w' w.heap.size (fun _ => True) v0_ r ∧ Below w.heap.size w w' := by
 have hu28 := Try.underlying28
 have hu55 := Try.underlying55
 have hu90 := Try.underlying90
 have HR0 := Aside0.mk hr0
 have HC0 := Aside0.mk hc0
 clear hr0 hc0
 have HB := Aside0.mk (Below.refl w.heap.size w)
 have H : ((impl_TreeOk.f k l0).bind fun t243 => (if t243 = true then (impl_DomFrom.l0 k l0 l0 (l0.length : Int) 0 ([] : List (S90))) else (some ([] : List (S90))))) = some r := h
 clear h
 obtain ⟨t243, A2, H⟩ := bnd_ H
 by_cases c3 : t243 = true
 ·subst c3
  replace H := ift_ H
  have H' := Aside0.mk H
  clear H
  go_enter Try.func19, Try.ntmps19
  go_wp2_with (first | ((with_reducible refine gate_dst (N := 2) rfl ?_); refine box_event ?hg (N := 2) ?hd (cs := #[.slice none 0 0]) (t := 28) ?hr ?_; (case hd => rfl); (case hg => rfl); (case hr => exact z13_); intro gb241 hg w4 hbox hb; have BK241 := Aside0.mk (hbox); have GW241 := Aside0.mk ((by rw [hg]; exact (below_size z0_) : w.heap.size ≤ gb241)); have GE241 := Aside0.mk ((by rw [hg]; exact (below_size z0_) : w.heap.size ≤ gb241)); replace HB := Aside0.mk (below_step z0_ hb); clear hb hbox hg) | ((with_reducible refine gate_dst (N := 3) rfl ?_); refine box_event ?hg (N := 3) ?hd (cs := #[.slice none 0 0]) (t := 28) ?hr ?_; (case hd => rfl); (case hg => rfl); (case hr => exact z13_); intro gb242 hg w5 hbox hb; have BK242 := Aside0.mk (hbox); have GW242 := Aside0.mk ((by rw [hg]; exact (below_size z61_) : w.heap.size ≤ gb242)); have GE242 := Aside0.mk ((by rw [hg]; exact (below_size z61_) : w.heap.size ≤ gb242)); replace HB := Aside0.mk (below_step z61_ hb); have NB241_242 := Aside0.mk ((by rw [hg]; exact Nat.ne_of_lt (blk_lt (g := gb241) (o := .cells #[.slice none 0 0] 28 (0, 0)) z14_) : gb241 ≠ gb242)); have NB242_241 := Aside0.mk ((by rw [hg]; exact Nat.ne_of_gt (blk_lt (g := gb241) (o := .cells #[.slice none 0 0] 28 (0, 0)) z14_) : gb242 ≠ gb241)); replace BK241 := Aside0.mk (blk_below (g := gb241) (o := .cells #[.slice none 0 0] 28 (0, 0)) z14_ hb); clear hb hbox hg; have hnb6 := NB242_241.out; have hnc6 := NB241_242.out; have hcz7_0 : w5.cell? ⟨gb242, 0, none⟩ = some (.slice none 0 0) := (blk_cell BK242.out 0).trans rfl; have hfz7_0 := blk_frozen BK242.out 0) | ((with_reducible refine gate_callee (f := 68) rfl ?_); refine goesL_ (some 12) rfl rfl Try.func68 (by kernel_rfl) rfl #[.slice A0 l0.length c0] rfl z1_ ?_; (with_reducible refine (impl_TreeOk.calls k _ _ l0 true _ ?side1 ?side2 A2.out).mono ?_); (case side1 => exact z131_); (case side2 => exact HC0.out); rintro e w8 ⟨rfl, hb⟩; refine ⟨_, rfl, ?_⟩; replace BK241 := Aside0.mk (blk_below (g := gb241) (o := .cells #[.slice none 0 0] 28 (0, 0)) z30_ hb); replace BK242 := Aside0.mk (blk_below (g := gb242) (o := .cells #[.slice none 0 0] 28 (0, 0)) z102_ hb); replace HB := Aside0.mk (below_step z27_ hb); (try clear hb)))
  go_loopg [17] k (fun kq v17 w' => ∃ (x17_1 : Int) (x243000_1 : List (S90)) (u243000 : Value), v17 = .int .i64 x17_1 ∧ Aside0 (impl_DomFrom.l0 kq l0 l0 (l0.length : Int) x17_1 x243000_1 = some r) ∧ Aside0 (kq ≤ k) ∧ Aside0 (Kd.R k90 90 w' w.heap.size (fun _ => True) u243000 x243000_1) ∧ Aside0 (w'.heap[gb241]? = some (.cells #[(.slice none 0 0)] 28 (0, 0))) ∧ Aside0 (w'.heap[gb242]? = some (.cells #[u243000] 28 (0, 0))) ∧ Aside0 (Below w.heap.size w w'))
  case atStart => exact ⟨(0), (([] : List (S90))), (.slice none 0 0), z12_, H', ⟨Nat.le_refl _⟩, ⟨z132_⟩, ⟨z14_⟩, ⟨z20_⟩, ⟨z27_⟩⟩
  case round =>
   clear H'
   try clear c1
   try clear p2
   try clear c3
   try clear c6
   try clear hcz7_0
   try clear hfz7_0
   obtain ⟨x17_1, x243000_1, u243000, rfl, HA, HK1, HO_243000, BK241, BK242, HB⟩ := hrel
   cases gk with
   | zero => exact absurd HA.out (by simp [impl_DomFrom.l0])
   | succ k1 =>
    have H := HA.out
    clear HA
    simp only [impl_DomFrom.l0] at H
    by_cases c9 : x17_1 < (l0.length : Int)
    ·rw [if_pos c9] at H
     have c9b0 : decide (x17_1 < (l0.length : Int)) = true := decide_eq_true c9
     clear c9
     obtain ⟨c10b0, H⟩ := ifd_ H
     obtain ⟨c11b0, H⟩ := ifd_ H
     replace H := Option.bind_eq_some_iff.mp H
     obtain ⟨⟨t246, t247, t248, t249, t250, t251, t252⟩, A120, H⟩ := H
     replace H : ((impl_ParentOf.f k1 l0 x17_1).bind fun t254 => ((impl_KidsOf.f k1 l0 x17_1).bind fun t255 => (if (t255.length : Int) > 0 then (if 0 < (t255.length : Int) then (if 0 ≤ (wrap64 ((t255.length : Int) - 1)) then (if (wrap64 ((t255.length : Int) - 1)) < (t255.length : Int) then (impl_DomFrom.j1 k1 l0 x17_1 l0 (l0.length : Int) x17_1 x243000_1 true ((rd_T55 l0 x17_1).f0) t254 (rd t255 0) (rd t255 (wrap64 ((t255.length : Int) - 1))) t251 t252) else (none)) else (none)) else (none)) else (impl_DomFrom.j1 k1 l0 x17_1 l0 (l0.length : Int) x17_1 x243000_1 true ((rd_T55 l0 x17_1).f0) t254 t249 t250 t251 t252)))) = some r := H
     have A12 := Aside0.mk A120
     clear A120
     obtain ⟨t254, A13, H⟩ := bnd_ H
     obtain ⟨t255, A14, H⟩ := bnd_ H
     have HC15 := Aside0.mk H
     clear H
     obtain ⟨p244, q244, ad244, e244, hx244_0, hx244_1⟩ := atb55_ HR0 HB x17_1
     cases e244
     try go_wp2_with (first | ((with_reducible refine gate_dst (N := 5) rfl ?_); refine box_event ?hg (N := 5) ?hd (cs := #[.int .i64 0, .int .i64 0]) (t := 55) ?hr ?_; (case hd => rfl); (case hg => rfl); (case hr => exact z13_); intro gb245 hg w16 hbox hb; replace HO_243000 := Aside0.mk (Kd.R_below z29_ hb); have BK245 := Aside0.mk (hbox); have GW245 := Aside0.mk ((by rw [hg]; exact (below_size z27_) : w.heap.size ≤ gb245)); have GE245 := Aside0.mk ((by rw [hg]; exact (below_size z27_) : w.heap.size ≤ gb245)); replace HB := Aside0.mk (below_step z27_ hb); have NB241_245 := Aside0.mk ((by rw [hg]; exact Nat.ne_of_lt (blk_lt (g := gb241) (o := .cells #[.slice none 0 0] 28 (0, 0)) z14_) : gb241 ≠ gb245)); have NB245_241 := Aside0.mk ((by rw [hg]; exact Nat.ne_of_gt (blk_lt (g := gb241) (o := .cells #[.slice none 0 0] 28 (0, 0)) z14_) : gb245 ≠ gb241)); replace BK241 := Aside0.mk (blk_below (g := gb241) (o := .cells #[.slice none 0 0] 28 (0, 0)) z14_ hb); have NB242_245 := Aside0.mk ((by rw [hg]; exact Nat.ne_of_lt (blk_lt (g := gb242) (o := .cells #[u243000] 28 (0, 0)) z20_) : gb242 ≠ gb245)); have NB245_242 := Aside0.mk ((by rw [hg]; exact Nat.ne_of_gt (blk_lt (g := gb242) (o := .cells #[u243000] 28 (0, 0)) z20_) : gb245 ≠ gb242)); replace BK242 := Aside0.mk (blk_below (g := gb242) (o := .cells #[u243000] 28 (0, 0)) z20_ hb); clear hb hbox hg; have hnb17 := NB245_241.out; have hnc17 := NB241_245.out; have hnb18 := NB245_242.out; have hnc18 := NB242_245.out; have hcz19_0 : w16.cell? ⟨gb245, 0, none⟩ = some (.int .i64 0) := (blk_cell BK245.out 0).trans rfl; have hcz19_1 : w16.cell? ⟨gb245, 1, none⟩ = some (.int .i64 0) := (blk_cell BK245.out 1).trans rfl; have hfz19_0 := blk_frozen BK245.out 0; have hfz19_1 := blk_frozen BK245.out 1) | ((with_reducible refine gate_callee (f := 69) rfl ?_); refine goesL_ (some 22) rfl rfl Try.func69 (by kernel_rfl) rfl #[] rfl z1_ ?_; (with_reducible refine (impl_unused.calls  t246 t247 t248 t249 t250 t251 t252 _ A12.out).mono ?_); rintro e w20 ⟨rfl, hb⟩; refine ⟨_, rfl, ?_⟩; replace HO_243000 := Aside0.mk (Kd.R_below (by (with_reducible repeat (first | apply Kd.R_alloc | apply Kd.R_drewN | apply Kd.R_drew)); exact (Kd.R_mono (Kd.R_far (p := ⟨gb245, 1, none⟩) (Kd.R_far (p := ⟨gb245, 0, none⟩) (Kd.R_types HO_243000.out BK245.out (by decide)) (fun _ hk => hk.2) (.int .i64 ((rd_T55 l0 x17_1).f0))) (fun _ hk => hk.2) (.int .i64 ((rd_T55 l0 x17_1).f1))) (fun _ h_ => h_.1))) hb); replace BK241 := Aside0.mk (blk_below (g := gb241) (o := .cells #[.slice none 0 0] 28 (0, 0)) (by (with_reducible repeat (first | refine blk_drewN ?_ _ | refine blk_drew ?_ | refine blk_alloc ?_ _)); refine blk_far ?_ NB241_245.out _; (with_reducible repeat (first | refine blk_drewN ?_ _ | refine blk_drew ?_ | refine blk_alloc ?_ _)); refine blk_far ?_ NB241_245.out _; (with_reducible repeat (first | refine blk_drewN ?_ _ | refine blk_drew ?_ | refine blk_alloc ?_ _)); exact BK241.out) hb); replace BK242 := Aside0.mk (blk_below (g := gb242) (o := .cells #[u243000] 28 (0, 0)) (by (with_reducible repeat (first | refine blk_drewN ?_ _ | refine blk_drew ?_ | refine blk_alloc ?_ _)); refine blk_far ?_ NB242_245.out _; (with_reducible repeat (first | refine blk_drewN ?_ _ | refine blk_drew ?_ | refine blk_alloc ?_ _)); refine blk_far ?_ NB242_245.out _; (with_reducible repeat (first | refine blk_drewN ?_ _ | refine blk_drew ?_ | refine blk_alloc ?_ _)); exact BK242.out) hb); replace BK245 := Aside0.mk (blk_below (g := gb245) (o := .cells #[.int .i64 ((rd_T55 l0 x17_1).f0), .int .i64 ((rd_T55 l0 x17_1).f1)] 55 (0, 0)) (by (with_reducible repeat (first | refine blk_drewN ?_ _ | refine blk_drew ?_ | refine blk_alloc ?_ _)); refine blk_put (cs := #[.int .i64 ((rd_T55 l0 x17_1).f0), .int .i64 0]) ?_ 1 _ rfl; (with_reducible repeat (first | refine blk_drewN ?_ _ | refine blk_drew ?_ | refine blk_alloc ?_ _)); refine blk_put (cs := #[.int .i64 0, .int .i64 0]) ?_ 0 _ rfl; (with_reducible repeat (first | refine blk_drewN ?_ _ | refine blk_drew ?_ | refine blk_alloc ?_ _)); exact BK245.out) hb); replace HB := Aside0.mk (below_step z64_ hb); (try clear hb)) | ((with_reducible refine gate_dst (N := 6) rfl ?_); refine box_event ?hg (N := 6) ?hd (cs := #[.bool false, .int .i64 0, .int .i64 0, .int .i64 0, .int .i64 0, .int .i64 0, .int .i64 0]) (t := 90) ?hr ?_; (case hd => rfl); (case hg => rfl); (case hr => exact z13_); intro gb253 hg w21 hbox hb; replace HO_243000 := Aside0.mk (Kd.R_below (Kd.R_elderB z29_ gb253 (Nat.le_of_eq hg.symm)) hb); have BK253 := Aside0.mk (hbox); have GW253 := Aside0.mk ((by rw [hg]; exact (below_size z64_) : w.heap.size ≤ gb253)); have GE253 := Aside0.mk ((by rw [hg]; exact (below_size z64_) : w.heap.size ≤ gb253)); replace HB := Aside0.mk (below_step z64_ hb); have NB241_253 := Aside0.mk ((by rw [hg]; exact Nat.ne_of_lt (blk_lt (g := gb241) (o := .cells #[.slice none 0 0] 28 (0, 0)) z14_) : gb241 ≠ gb253)); have NB253_241 := Aside0.mk ((by rw [hg]; exact Nat.ne_of_gt (blk_lt (g := gb241) (o := .cells #[.slice none 0 0] 28 (0, 0)) z14_) : gb253 ≠ gb241)); replace BK241 := Aside0.mk (blk_below (g := gb241) (o := .cells #[.slice none 0 0] 28 (0, 0)) z14_ hb); have NB242_253 := Aside0.mk ((by rw [hg]; exact Nat.ne_of_lt (blk_lt (g := gb242) (o := .cells #[u243000] 28 (0, 0)) z20_) : gb242 ≠ gb253)); have NB253_242 := Aside0.mk ((by rw [hg]; exact Nat.ne_of_gt (blk_lt (g := gb242) (o := .cells #[u243000] 28 (0, 0)) z20_) : gb253 ≠ gb242)); replace BK242 := Aside0.mk (blk_below (g := gb242) (o := .cells #[u243000] 28 (0, 0)) z20_ hb); have NB245_253 := Aside0.mk ((by rw [hg]; exact Nat.ne_of_lt (blk_lt (g := gb245) (o := .cells #[.int .i64 ((rd_T55 l0 x17_1).f0), .int .i64 ((rd_T55 l0 x17_1).f1)] 55 (0, 0)) z28_) : gb245 ≠ gb253)); have NB253_245 := Aside0.mk ((by rw [hg]; exact Nat.ne_of_gt (blk_lt (g := gb245) (o := .cells #[.int .i64 ((rd_T55 l0 x17_1).f0), .int .i64 ((rd_T55 l0 x17_1).f1)] 55 (0, 0)) z28_) : gb253 ≠ gb245)); replace BK245 := Aside0.mk (blk_below (g := gb245) (o := .cells #[.int .i64 ((rd_T55 l0 x17_1).f0), .int .i64 ((rd_T55 l0 x17_1).f1)] 55 (0, 0)) z28_ hb); clear hb hbox hg; have hnb22 := NB253_241.out; have hnc22 := NB241_253.out; have hnb23 := NB253_242.out; have hnc23 := NB242_253.out; have hnb24 := NB253_245.out; have hnc24 := NB245_253.out; have hcz25_0 : w21.cell? ⟨gb253, 0, none⟩ = some (.bool false) := (blk_cell BK253.out 0).trans rfl; have hcz25_1 : w21.cell? ⟨gb253, 1, none⟩ = some (.int .i64 0) := (blk_cell BK253.out 1).trans rfl; have hcz25_2 : w21.cell? ⟨gb253, 2, none⟩ = some (.int .i64 0) := (blk_cell BK253.out 2).trans rfl; have hcz25_3 : w21.cell? ⟨gb253, 3, none⟩ = some (.int .i64 0) := (blk_cell BK253.out 3).trans rfl; have hcz25_4 : w21.cell? ⟨gb253, 4, none⟩ = some (.int .i64 0) := (blk_cell BK253.out 4).trans rfl; have hcz25_5 : w21.cell? ⟨gb253, 5, none⟩ = some (.int .i64 0) := (blk_cell BK253.out 5).trans rfl; have hcz25_6 : w21.cell? ⟨gb253, 6, none⟩ = some (.int .i64 0) := (blk_cell BK253.out 6).trans rfl; have hfz25_0 := blk_frozen BK253.out 0; have hfz25_1 := blk_frozen BK253.out 1; have hfz25_2 := blk_frozen BK253.out 2; have hfz25_3 := blk_frozen BK253.out 3; have hfz25_4 := blk_frozen BK253.out 4; have hfz25_5 := blk_frozen BK253.out 5; have hfz25_6 := blk_frozen BK253.out 6))
     have n0_ : Aside0 (Kd.R k90 90 (((((((w21.setCell ⟨gb253, 0, none⟩ (.bool t246)).setCell ⟨gb253, 1, none⟩ (.int .i64 t247)).setCell ⟨gb253, 2, none⟩ (.int .i64 t248)).setCell ⟨gb253, 3, none⟩ (.int .i64 t249)).setCell ⟨gb253, 4, none⟩ (.int .i64 t250)).setCell ⟨gb253, 5, none⟩ (.int .i64 t251)).setCell ⟨gb253, 6, none⟩ (.int .i64 t252)) w.heap.size (fun k_ => k_ ≠ gb253) u243000 x243000_1) := ⟨by (with_reducible repeat (first | apply Kd.R_alloc | apply Kd.R_drewN | apply Kd.R_drew)); exact Kd.R_mono (Kd.R_far (p := ⟨gb253, 6, none⟩) (Kd.R_far (p := ⟨gb253, 5, none⟩) (Kd.R_far (p := ⟨gb253, 4, none⟩) (Kd.R_far (p := ⟨gb253, 3, none⟩) (Kd.R_far (p := ⟨gb253, 2, none⟩) (Kd.R_far (p := ⟨gb253, 1, none⟩) (Kd.R_far (p := ⟨gb253, 0, none⟩) (Kd.R_mono HO_243000.out (fun k_ hk => (⟨hk, hk.2⟩ : _ ∧ k_ ≠ gb253))) (fun _ hk => hk.2) (.bool t246)) (fun _ hk => hk.2) (.int .i64 t247)) (fun _ hk => hk.2) (.int .i64 t248)) (fun _ hk => hk.2) (.int .i64 t249)) (fun _ hk => hk.2) (.int .i64 t250)) (fun _ hk => hk.2) (.int .i64 t251)) (fun _ hk => hk.2) (.int .i64 t252)) (fun _ hk => hk.1.2)⟩
     have n1_ : Aside0 ((((((((w21.setCell ⟨gb253, 0, none⟩ (.bool t246)).setCell ⟨gb253, 1, none⟩ (.int .i64 t247)).setCell ⟨gb253, 2, none⟩ (.int .i64 t248)).setCell ⟨gb253, 3, none⟩ (.int .i64 t249)).setCell ⟨gb253, 4, none⟩ (.int .i64 t250)).setCell ⟨gb253, 5, none⟩ (.int .i64 t251)).setCell ⟨gb253, 6, none⟩ (.int .i64 t252)).heap[gb241]? = some (.cells #[.slice none 0 0] 28 (0, 0))) := ⟨by (with_reducible repeat (first | refine blk_drewN ?_ _ | refine blk_drew ?_ | refine blk_alloc ?_ _)); refine blk_far ?_ NB241_253.out _; (with_reducible repeat (first | refine blk_drewN ?_ _ | refine blk_drew ?_ | refine blk_alloc ?_ _)); refine blk_far ?_ NB241_253.out _; (with_reducible repeat (first | refine blk_drewN ?_ _ | refine blk_drew ?_ | refine blk_alloc ?_ _)); refine blk_far ?_ NB241_253.out _; (with_reducible repeat (first | refine blk_drewN ?_ _ | refine blk_drew ?_ | refine blk_alloc ?_ _)); refine blk_far ?_ NB241_253.out _; (with_reducible repeat (first | refine blk_drewN ?_ _ | refine blk_drew ?_ | refine blk_alloc ?_ _)); refine blk_far ?_ NB241_253.out _; (with_reducible repeat (first | refine blk_drewN ?_ _ | refine blk_drew ?_ | refine blk_alloc ?_ _)); refine blk_far ?_ NB241_253.out _; (with_reducible repeat (first | refine blk_drewN ?_ _ | refine blk_drew ?_ | refine blk_alloc ?_ _)); refine blk_far ?_ NB241_253.out _; (with_reducible repeat (first | refine blk_drewN ?_ _ | refine blk_drew ?_ | refine blk_alloc ?_ _)); exact BK241.out⟩
     have n2_ : Aside0 ((((((((w21.setCell ⟨gb253, 0, none⟩ (.bool t246)).setCell ⟨gb253, 1, none⟩ (.int .i64 t247)).setCell ⟨gb253, 2, none⟩ (.int .i64 t248)).setCell ⟨gb253, 3, none⟩ (.int .i64 t249)).setCell ⟨gb253, 4, none⟩ (.int .i64 t250)).setCell ⟨gb253, 5, none⟩ (.int .i64 t251)).setCell ⟨gb253, 6, none⟩ (.int .i64 t252)).heap[gb242]? = some (.cells #[u243000] 28 (0, 0))) := ⟨by (with_reducible repeat (first | refine blk_drewN ?_ _ | refine blk_drew ?_ | refine blk_alloc ?_ _)); refine blk_far ?_ NB242_253.out _; (with_reducible repeat (first | refine blk_drewN ?_ _ | refine blk_drew ?_ | refine blk_alloc ?_ _)); refine blk_far ?_ NB242_253.out _; (with_reducible repeat (first | refine blk_drewN ?_ _ | refine blk_drew ?_ | refine blk_alloc ?_ _)); refine blk_far ?_ NB242_253.out _; (with_reducible repeat (first | refine blk_drewN ?_ _ | refine blk_drew ?_ | refine blk_alloc ?_ _)); refine blk_far ?_ NB242_253.out _; (with_reducible repeat (first | refine blk_drewN ?_ _ | refine blk_drew ?_ | refine blk_alloc ?_ _)); refine blk_far ?_ NB242_253.out _; (with_reducible repeat (first | refine blk_drewN ?_ _ | refine blk_drew ?_ | refine blk_alloc ?_ _)); refine blk_far ?_ NB242_253.out _; (with_reducible repeat (first | refine blk_drewN ?_ _ | refine blk_drew ?_ | refine blk_alloc ?_ _)); refine blk_far ?_ NB242_253.out _; (with_reducible repeat (first | refine blk_drewN ?_ _ | refine blk_drew ?_ | refine blk_alloc ?_ _)); exact BK242.out⟩
     have n3_ : Aside0 ((((((((w21.setCell ⟨gb253, 0, none⟩ (.bool t246)).setCell ⟨gb253, 1, none⟩ (.int .i64 t247)).setCell ⟨gb253, 2, none⟩ (.int .i64 t248)).setCell ⟨gb253, 3, none⟩ (.int .i64 t249)).setCell ⟨gb253, 4, none⟩ (.int .i64 t250)).setCell ⟨gb253, 5, none⟩ (.int .i64 t251)).setCell ⟨gb253, 6, none⟩ (.int .i64 t252)).heap[gb245]? = some (.cells #[.int .i64 ((rd_T55 l0 x17_1).f0), .int .i64 ((rd_T55 l0 x17_1).f1)] 55 (0, 0))) := ⟨by (with_reducible repeat (first | refine blk_drewN ?_ _ | refine blk_drew ?_ | refine blk_alloc ?_ _)); refine blk_far ?_ NB245_253.out _; (with_reducible repeat (first | refine blk_drewN ?_ _ | refine blk_drew ?_ | refine blk_alloc ?_ _)); refine blk_far ?_ NB245_253.out _; (with_reducible repeat (first | refine blk_drewN ?_ _ | refine blk_drew ?_ | refine blk_alloc ?_ _)); refine blk_far ?_ NB245_253.out _; (with_reducible repeat (first | refine blk_drewN ?_ _ | refine blk_drew ?_ | refine blk_alloc ?_ _)); refine blk_far ?_ NB245_253.out _; (with_reducible repeat (first | refine blk_drewN ?_ _ | refine blk_drew ?_ | refine blk_alloc ?_ _)); refine blk_far ?_ NB245_253.out _; (with_reducible repeat (first | refine blk_drewN ?_ _ | refine blk_drew ?_ | refine blk_alloc ?_ _)); refine blk_far ?_ NB245_253.out _; (with_reducible repeat (first | refine blk_drewN ?_ _ | refine blk_drew ?_ | refine blk_alloc ?_ _)); refine blk_far ?_ NB245_253.out _; (with_reducible repeat (first | refine blk_drewN ?_ _ | refine blk_drew ?_ | refine blk_alloc ?_ _)); exact BK245.out⟩
     have n4_ : Aside0 ((((((((w21.setCell ⟨gb253, 0, none⟩ (.bool t246)).setCell ⟨gb253, 1, none⟩ (.int .i64 t247)).setCell ⟨gb253, 2, none⟩ (.int .i64 t248)).setCell ⟨gb253, 3, none⟩ (.int .i64 t249)).setCell ⟨gb253, 4, none⟩ (.int .i64 t250)).setCell ⟨gb253, 5, none⟩ (.int .i64 t251)).setCell ⟨gb253, 6, none⟩ (.int .i64 t252)).heap[gb253]? = some (.cells #[.bool t246, .int .i64 t247, .int .i64 t248, .int .i64 t249, .int .i64 t250, .int .i64 t251, .int .i64 t252] 90 (0, 0))) := ⟨by (with_reducible repeat (first | refine blk_drewN ?_ _ | refine blk_drew ?_ | refine blk_alloc ?_ _)); refine blk_put (cs := #[.bool t246, .int .i64 t247, .int .i64 t248, .int .i64 t249, .int .i64 t250, .int .i64 t251, .int .i64 0]) ?_ 6 _ rfl; (with_reducible repeat (first | refine blk_drewN ?_ _ | refine blk_drew ?_ | refine blk_alloc ?_ _)); refine blk_put (cs := #[.bool t246, .int .i64 t247, .int .i64 t248, .int .i64 t249, .int .i64 t250, .int .i64 0, .int .i64 0]) ?_ 5 _ rfl; (with_reducible repeat (first | refine blk_drewN ?_ _ | refine blk_drew ?_ | refine blk_alloc ?_ _)); refine blk_put (cs := #[.bool t246, .int .i64 t247, .int .i64 t248, .int .i64 t249, .int .i64 0, .int .i64 0, .int .i64 0]) ?_ 4 _ rfl; (with_reducible repeat (first | refine blk_drewN ?_ _ | refine blk_drew ?_ | refine blk_alloc ?_ _)); refine blk_put (cs := #[.bool t246, .int .i64 t247, .int .i64 t248, .int .i64 0, .int .i64 0, .int .i64 0, .int .i64 0]) ?_ 3 _ rfl; (with_reducible repeat (first | refine blk_drewN ?_ _ | refine blk_drew ?_ | refine blk_alloc ?_ _)); refine blk_put (cs := #[.bool t246, .int .i64 t247, .int .i64 0, .int .i64 0, .int .i64 0, .int .i64 0, .int .i64 0]) ?_ 2 _ rfl; (with_reducible repeat (first | refine blk_drewN ?_ _ | refine blk_drew ?_ | refine blk_alloc ?_ _)); refine blk_put (cs := #[.bool t246, .int .i64 0, .int .i64 0, .int .i64 0, .int .i64 0, .int .i64 0, .int .i64 0]) ?_ 1 _ rfl; (with_reducible repeat (first | refine blk_drewN ?_ _ | refine blk_drew ?_ | refine blk_alloc ?_ _)); refine blk_put (cs := #[.bool false, .int .i64 0, .int .i64 0, .int .i64 0, .int .i64 0, .int .i64 0, .int .i64 0]) ?_ 0 _ rfl; (with_reducible repeat (first | refine blk_drewN ?_ _ | refine blk_drew ?_ | refine blk_alloc ?_ _)); exact BK253.out⟩
     have n5_ : Aside0 (Below w.heap.size w (((((((w21.setCell ⟨gb253, 0, none⟩ (.bool t246)).setCell ⟨gb253, 1, none⟩ (.int .i64 t247)).setCell ⟨gb253, 2, none⟩ (.int .i64 t248)).setCell ⟨gb253, 3, none⟩ (.int .i64 t249)).setCell ⟨gb253, 4, none⟩ (.int .i64 t250)).setCell ⟨gb253, 5, none⟩ (.int .i64 t251)).setCell ⟨gb253, 6, none⟩ (.int .i64 t252))) := ⟨z3_⟩
     (try clear HO_243000)
     (try clear BK241)
     (try clear BK242)
     (try clear BK245)
     (try clear BK253)
     (try clear HB)
     generalize (((((((w21.setCell ⟨gb253, 0, none⟩ (.bool t246)).setCell ⟨gb253, 1, none⟩ (.int .i64 t247)).setCell ⟨gb253, 2, none⟩ (.int .i64 t248)).setCell ⟨gb253, 3, none⟩ (.int .i64 t249)).setCell ⟨gb253, 4, none⟩ (.int .i64 t250)).setCell ⟨gb253, 5, none⟩ (.int .i64 t251)).setCell ⟨gb253, 6, none⟩ (.int .i64 t252)) = w26 at n0_ n1_ n2_ n3_ n4_ n5_ ⊢
     have HO_243000 := n0_
     have BK241 := n1_
     have BK242 := n2_
     have BK245 := n3_
     have BK253 := n4_
     have HB := n5_
     clear n0_ n1_ n2_ n3_ n4_ n5_
     have n0_ := Aside0.mk (Kd.R_drew HO_243000.out)
     have n1_ := Aside0.mk (blk_drew BK241.out)
     have n2_ := Aside0.mk (blk_drew BK242.out)
     have n3_ := Aside0.mk (blk_drew BK245.out)
     have n4_ := Aside0.mk (blk_drew BK253.out)
     have n5_ := Aside0.mk (below_drew1 HB.out)
     clear HO_243000
     clear BK241
     clear BK242
     clear BK245
     clear BK253
     clear HB
     have HO_243000 := n0_
     have BK241 := n1_
     have BK242 := n2_
     have BK245 := n3_
     have BK253 := n4_
     have HB := n5_
     clear n0_ n1_ n2_ n3_ n4_ n5_
     refine start_ (n := 11) (S := fun w' => w'.cell? ⟨gb245, 0, none⟩ = some (.int .i64 ((rd_T55 l0 x17_1).f0)) ∧ w'.cell? ⟨gb245, 1, none⟩ = some (.int .i64 ((rd_T55 l0 x17_1).f1))) (ds := []) (fl_ 11 0) (by kernel_rfl) rfl (fl_zero _) ⟨(blk_cell BK245.out 0).trans rfl, (blk_cell BK245.out 1).trans rfl⟩ (fun hHeld => ?_); refine with_tabW impl_DomFrom.tab8 impl_DomFrom.bits8 (fun HT_ HW_ => ?_)
     generalize w26.drew = w27 at HO_243000 BK241 BK242 BK245 BK253 HB hHeld ⊢
     refine zp_ HT_ rfl rfl (by kernel_rfl) (fun _ _ _ h => h) (by rfl) ?_
     refine zpg_ (i := 2) (ra_ [1, 1, 1, 8]) HT_ rfl rfl (by kernel_rfl) (fun _ _ _ h => h) (by rfl) ?_
     refine zpg_ (i := 3) (ra_ [1, 1, 2, 7]) HT_ rfl rfl (by kernel_rfl) (fun _ _ _ h => h) (by rfl) ?_
     refine zpg_ (i := 5) (ra_ [1, 1, 2, 1, 1, 5]) HT_ rfl rfl (by kernel_rfl) (fun _ _ _ h => h) (by rfl) ?_
     refine ztg_ (i := 1) (ra_ [4, 1, 1, 5]) HT_ HW_ rfl rfl (by kernel_rfl) (fun _ _ _ h => h) (by rfl) hHeld ?_ z96_
     refine one_ (i := 4) (N := some 27) (fl_ 11 6) rfl rfl (one_of HT_.out (by kernel_rfl)) (by decide) (fun K hK => ?_)
     refine goes_ Try.func70 (by kernel_rfl) rfl #[.slice (some ad244) l0.length c0, .int .i64 x17_1] (by rfl) rfl rfl z1_ ?_
     with_reducible refine (impl_ParentOf.calls k1 _ _ l0 x17_1 t254 _ ?side1 ?side2 A13.out).mono ?_
     (case side1 => exact z4_)
     (case side2 => exact HC0.out)
     rintro e w28 ⟨rfl, hb⟩
     refine ⟨_, rfl, ?_⟩
     have n0_ := Aside0.mk (Kd.R_below z29_ hb)
     have n1_ := Aside0.mk (blk_below (g := gb241) (o := .cells #[.slice none 0 0] 28 (0, 0)) z14_ hb)
     have n2_ := Aside0.mk (blk_below (g := gb242) (o := .cells #[u243000] 28 (0, 0)) z20_ hb)
     have n3_ := Aside0.mk (blk_below (g := gb245) (o := .cells #[.int .i64 ((rd_T55 l0 x17_1).f0), .int .i64 ((rd_T55 l0 x17_1).f1)] 55 (0, 0)) z28_ hb)
     have n4_ := Aside0.mk (blk_below (g := gb253) (o := .cells #[.bool t246, .int .i64 t247, .int .i64 t248, .int .i64 t249, .int .i64 t250, .int .i64 t251, .int .i64 t252] 90 (0, 0)) z32_ hb)
     have n5_ := Aside0.mk (below_step z3_ hb)
     clear HO_243000
     clear BK241
     clear BK242
     clear BK245
     clear BK253
     clear HB
     have HO_243000 := n0_
     have BK241 := n1_
     have BK242 := n2_
     have BK245 := n3_
     have BK253 := n4_
     have HB := n5_
     clear n0_ n1_ n2_ n3_ n4_ n5_
     (try clear hb)
     (try clear hb2)
     (try clear hk)
     (try clear hi)
     refine hK.out _ _ ⟨(blk_cell BK245.out 0).trans rfl, (blk_cell BK245.out 1).trans rfl⟩ (fun hHeld => ?_)
     clear hK K
     refine zn_ rfl ?_
     refine one_ (i := 6) (N := none) (fl_ 11 7) rfl rfl (one_of HT_.out (by kernel_rfl)) (by decide) (fun K hK => ?_)
     have hs29 : w28.cell? ⟨gb253, 0, none⟩ = some (.bool t246) := (blk_cell BK253.out 0).trans rfl
     have hfs29 := blk_frozen BK253.out 0
     have hns29_0 := NB241_253.out
     have hns29_1 := NB242_253.out
     have hns29_2 := NB245_253.out
     have hms29_0 := NB253_241.out
     have hms29_1 := NB253_242.out
     have hms29_2 := NB253_245.out
     refine skip_ (w1 := ?_) (by rfl) rfl ?_ ?_
     rotate_left
     ·go_simp
      rfl
     refine hK.out _ _ ⟨((cell_far (p := ⟨gb253, _, none⟩) NB245_253.out _).trans (hHeld.1)), ((cell_far (p := ⟨gb253, _, none⟩) NB245_253.out _).trans (hHeld.2))⟩ (fun hHeld => ?_)
     clear hK K
     refine zp_ HT_ rfl rfl (by kernel_rfl) (fun _ _ _ h => h) (by rfl) ?_
     refine one_ (i := 8) (N := none) (fl_ 11 9) rfl rfl (one_of HT_.out (by kernel_rfl)) (by decide) (fun K hK => ?_)
     have hs30 : w28.cell? ⟨gb253, 1, none⟩ = some (.int .i64 t247) := (blk_cell BK253.out 1).trans rfl
     have hfs30 := blk_frozen BK253.out 1
     have hns30_0 := NB241_253.out
     have hns30_1 := NB242_253.out
     have hns30_2 := NB245_253.out
     have hms30_0 := NB253_241.out
     have hms30_1 := NB253_242.out
     have hms30_2 := NB253_245.out
     refine skip_ (w1 := ?_) (by rfl) rfl ?_ ?_
     rotate_left
     ·go_simp
      rfl
     refine hK.out _ _ ⟨((cell_far (p := ⟨gb253, _, none⟩) NB245_253.out _).trans (hHeld.1)), ((cell_far (p := ⟨gb253, _, none⟩) NB245_253.out _).trans (hHeld.2))⟩ (fun hHeld => ?_)
     clear hK K
     refine zp_ HT_ rfl rfl (by kernel_rfl) (fun _ _ _ h => h) (by rfl) ?_
     refine one_ (i := 10) (N := none) (fl_ 11 11) rfl rfl (one_of HT_.out (by kernel_rfl)) (by decide) (fun K hK => ?_)
     have hs31 : w28.cell? ⟨gb253, 2, none⟩ = some (.int .i64 t248) := (blk_cell BK253.out 2).trans rfl
     have hfs31 := blk_frozen BK253.out 2
     have hns31_0 := NB241_253.out
     have hns31_1 := NB242_253.out
     have hns31_2 := NB245_253.out
     have hms31_0 := NB253_241.out
     have hms31_1 := NB253_242.out
     have hms31_2 := NB253_245.out
     refine skip_ (w1 := ?_) (by rfl) rfl ?_ ?_
     rotate_left
     ·go_simp
      rfl
     refine hK.out _ _ ⟨((cell_far (p := ⟨gb253, _, none⟩) NB245_253.out _).trans (hHeld.1)), ((cell_far (p := ⟨gb253, _, none⟩) NB245_253.out _).trans (hHeld.2))⟩ (fun hHeld => ?_)
     clear hK K
     refine done_ (done_of HT_.out (by kernel_rfl)) ?_
     go_upto_if 36 with (first | ((with_reducible refine gate_callee (f := 71) rfl ?_); refine goesL_ (some 33) rfl rfl Try.func71 (by kernel_rfl) rfl #[.slice (some ad244) l0.length c0, .int .i64 x17_1] rfl z1_ ?_; (with_reducible refine (impl_KidsOf.calls k1 _ _ l0 x17_1 t255 _ ?side1 ?side2 A14.out).mono ?_); (case side1 => exact Kd.C_below HR0.out z3_); (case side2 => exact HC0.out); rintro e w32 ⟨v256, rfl, ho0, hb⟩; refine ⟨_, rfl, ?_⟩; replace HO_243000 := Aside0.mk (Kd.R_below (by (with_reducible repeat (first | apply Kd.R_alloc | apply Kd.R_drewN | apply Kd.R_drew)); exact (Kd.R_mono (Kd.R_far (p := ⟨gb253, 2, none⟩) (Kd.R_far (p := ⟨gb253, 1, none⟩) (Kd.R_far (p := ⟨gb253, 0, none⟩) (Kd.R_mono HO_243000.out (fun k_ hk => (⟨hk, hk⟩ : _ ∧ k_ ≠ gb253))) (fun _ hk => hk.2) (.bool true)) (fun _ hk => hk.2) (.int .i64 ((rd_T55 l0 x17_1).f0))) (fun _ hk => hk.2) (.int .i64 t254)) (fun _ h_ => h_.1))) hb); have HO257 := Aside0.mk (Kd.R_lower ho0 (below_size z3_)); replace BK241 := Aside0.mk (blk_below (g := gb241) (o := .cells #[.slice none 0 0] 28 (0, 0)) (by (with_reducible repeat (first | refine blk_drewN ?_ _ | refine blk_drew ?_ | refine blk_alloc ?_ _)); refine blk_far ?_ NB241_253.out _; (with_reducible repeat (first | refine blk_drewN ?_ _ | refine blk_drew ?_ | refine blk_alloc ?_ _)); refine blk_far ?_ NB241_253.out _; (with_reducible repeat (first | refine blk_drewN ?_ _ | refine blk_drew ?_ | refine blk_alloc ?_ _)); refine blk_far ?_ NB241_253.out _; (with_reducible repeat (first | refine blk_drewN ?_ _ | refine blk_drew ?_ | refine blk_alloc ?_ _)); exact BK241.out) hb); replace BK242 := Aside0.mk (blk_below (g := gb242) (o := .cells #[u243000] 28 (0, 0)) (by (with_reducible repeat (first | refine blk_drewN ?_ _ | refine blk_drew ?_ | refine blk_alloc ?_ _)); refine blk_far ?_ NB242_253.out _; (with_reducible repeat (first | refine blk_drewN ?_ _ | refine blk_drew ?_ | refine blk_alloc ?_ _)); refine blk_far ?_ NB242_253.out _; (with_reducible repeat (first | refine blk_drewN ?_ _ | refine blk_drew ?_ | refine blk_alloc ?_ _)); refine blk_far ?_ NB242_253.out _; (with_reducible repeat (first | refine blk_drewN ?_ _ | refine blk_drew ?_ | refine blk_alloc ?_ _)); exact BK242.out) hb); replace BK245 := Aside0.mk (blk_below (g := gb245) (o := .cells #[.int .i64 ((rd_T55 l0 x17_1).f0), .int .i64 ((rd_T55 l0 x17_1).f1)] 55 (0, 0)) (by (with_reducible repeat (first | refine blk_drewN ?_ _ | refine blk_drew ?_ | refine blk_alloc ?_ _)); refine blk_far ?_ NB245_253.out _; (with_reducible repeat (first | refine blk_drewN ?_ _ | refine blk_drew ?_ | refine blk_alloc ?_ _)); refine blk_far ?_ NB245_253.out _; (with_reducible repeat (first | refine blk_drewN ?_ _ | refine blk_drew ?_ | refine blk_alloc ?_ _)); refine blk_far ?_ NB245_253.out _; (with_reducible repeat (first | refine blk_drewN ?_ _ | refine blk_drew ?_ | refine blk_alloc ?_ _)); exact BK245.out) hb); replace BK253 := Aside0.mk (blk_below (g := gb253) (o := .cells #[.bool true, .int .i64 ((rd_T55 l0 x17_1).f0), .int .i64 t254, .int .i64 t249, .int .i64 t250, .int .i64 t251, .int .i64 t252] 90 (0, 0)) (by (with_reducible repeat (first | refine blk_drewN ?_ _ | refine blk_drew ?_ | refine blk_alloc ?_ _)); refine blk_put (cs := #[.bool true, .int .i64 ((rd_T55 l0 x17_1).f0), .int .i64 t248, .int .i64 t249, .int .i64 t250, .int .i64 t251, .int .i64 t252]) ?_ 2 _ rfl; (with_reducible repeat (first | refine blk_drewN ?_ _ | refine blk_drew ?_ | refine blk_alloc ?_ _)); refine blk_put (cs := #[.bool true, .int .i64 t247, .int .i64 t248, .int .i64 t249, .int .i64 t250, .int .i64 t251, .int .i64 t252]) ?_ 1 _ rfl; (with_reducible repeat (first | refine blk_drewN ?_ _ | refine blk_drew ?_ | refine blk_alloc ?_ _)); refine blk_put (cs := #[.bool t246, .int .i64 t247, .int .i64 t248, .int .i64 t249, .int .i64 t250, .int .i64 t251, .int .i64 t252]) ?_ 0 _ rfl; (with_reducible repeat (first | refine blk_drewN ?_ _ | refine blk_drew ?_ | refine blk_alloc ?_ _)); exact BK253.out) hb); replace HB := Aside0.mk (below_step z3_ hb); (try clear hb ho0); obtain ⟨Ao33, co33, eo33⟩ := Kd.R_slice HO257.out; subst eo33))
     (try simp only [Act.put, List.setIfInBounds_toArray, List.set_cons_zero, List.set_cons_succ])
     go_cut [] (fun wc => ∃ (kq : Nat) (x254003_14 : Int) (x254004_14 : Int), Aside0 (impl_DomFrom.j1 kq l0 x17_1 l0 (l0.length : Int) x17_1 x243000_1 true ((rd_T55 l0 x17_1).f0) t254 x254003_14 x254004_14 t251 t252 = some r) ∧ Aside0 (kq ≤ k1) ∧ Aside0 (Kd.R k90 90 wc w.heap.size (fun k_ => k_ ≠ gb253) u243000 x243000_1) ∧ Aside0 (wc.heap[gb241]? = some (.cells #[(.slice none 0 0)] 28 (0, 0))) ∧ Aside0 (wc.heap[gb242]? = some (.cells #[u243000] 28 (0, 0))) ∧ Aside0 (wc.heap[gb245]? = some (.cells #[.int .i64 ((rd_T55 l0 x17_1).f0), .int .i64 ((rd_T55 l0 x17_1).f1)] 55 (0, 0))) ∧ Aside0 (wc.heap[gb253]? = some (.cells #[.bool true, .int .i64 ((rd_T55 l0 x17_1).f0), .int .i64 t254, .int .i64 x254003_14, .int .i64 x254004_14, .int .i64 t251, .int .i64 t252] 90 (0, 0))) ∧ Aside0 (Below w.heap.size w wc))
     case first =>
      have H := HC15.out
      clear HC15
      by_cases c34 : (t255.length : Int) > 0
      ·rw [if_pos c34] at H
       have c34b0 : decide (0 < (t255.length : Int)) = true := decide_eq_true c34
       have c34b1 : decide (0 < t255.length) = true := decide_eq_true (by omega)
       clear c34
       (first | rw [c34b0] | rw [c34b1] | (simp only [i64_w, i32_w]; rw [c34b0]) | skip)
       obtain ⟨c35, H⟩ := ifs_ H
       have c35b0 : decide (0 < (t255.length : Int)) = true := decide_eq_true c35
       have c35b1 : decide (0 < t255.length) = true := decide_eq_true (by omega)
       clear c35
       obtain ⟨ji36, hji36⟩ : ∃ j_ : Int, (wrap64 ((t255.length : Int) - 1)) = j_ := ⟨_, rfl⟩
       replace H : (if 0 ≤ (ji36) then (if (ji36) < (t255.length : Int) then (impl_DomFrom.j1 k1 l0 x17_1 l0 (l0.length : Int) x17_1 x243000_1 true ((rd_T55 l0 x17_1).f0) t254 (rd t255 0) (rd t255 (ji36)) t251 t252) else (none)) else (none)) = some r := by first | (rw [hji36] at H; exact H) | (simp only [hji36] at H ⊢; exact H)
       have hji36w : (IntKind.i64.wrap ((t255.length : Int) - 1)) = ji36 := (i64_w _).trans hji36
       obtain ⟨c37b0, H⟩ := ifd_ H
       obtain ⟨c38b0, H⟩ := ifd_ H
       have H' := Aside0.mk H
       clear H
       try go_wp2
       have n0_ := Aside0.mk (Kd.R_drew HO_243000.out)
       have n1_ := Aside0.mk (Kd.R_drew HO257.out)
       have n2_ := Aside0.mk (blk_drew BK241.out)
       have n3_ := Aside0.mk (blk_drew BK242.out)
       have n4_ := Aside0.mk (blk_drew BK245.out)
       have n5_ := Aside0.mk (blk_drew BK253.out)
       have n6_ := Aside0.mk (below_drew1 HB.out)
       clear HO_243000
       clear HO257
       clear BK241
       clear BK242
       clear BK245
       clear BK253
       clear HB
       have HO_243000 := n0_
       have HO257 := n1_
       have BK241 := n2_
       have BK242 := n3_
       have BK245 := n4_
       have BK253 := n5_
       have HB := n6_
       clear n0_ n1_ n2_ n3_ n4_ n5_ n6_
       have p258 : 0 ≤ (0 : Int) := (by omega)
       have q258 : 0 < (t255.length : Int) := odt_
       obtain ⟨ad258, e258, hx258_0⟩ := Kd.at_int (Kd.R_reads' HO257.out).2.2 0 p258 q258
       cases e258
       have qi258 : (0 < t255.length) = True := eq_true (by omega)
       (try rw [show ((0 : Int)).toNat = 0 from rfl] at hx258_0)
       (try rw [Addr.add_zero'] at hx258_0)
       replace p258 := eq_true p258
       replace q258 := eq_true q258
       have p259 : 0 ≤ ((ji36) : Int) := odt_
       have q259 : (ji36) < (t255.length : Int) := odt_
       obtain ⟨ad259, e259, hx259_0⟩ := Kd.at_int (Kd.R_reads' HO257.out).2.2 (ji36) p259 q259
       obtain rfl : ad258 = ad259 := (by injection e259)
       replace p259 := eq_true p259
       replace q259 := eq_true q259
       refine start_ (n := 13) (S := fun w' => w'.cell? ad258 = some (.int .i64 (rd t255 0)) ∧ w'.cell? (ad258.add ((ji36)).toNat) = some (.int .i64 (rd t255 (ji36)))) (ds := []) (fl_ 13 0) (by kernel_rfl) rfl (fl_zero _) ⟨hx258_0, hx259_0⟩ (fun hHeld => ?_); refine with_tabW impl_DomFrom.tab11 impl_DomFrom.bits11 (fun HT_ HW_ => ?_)
       generalize w32.drew = w39 at HO_243000 HO257 BK241 BK242 BK245 BK253 HB hx258_0 hx259_0 hHeld ⊢
       iterate 2 refine zp_ HT_ rfl rfl (by kernel_rfl) (fun _ _ _ h => h) (by rfl) ?_
       refine zpg_ (i := 3) (ra_ [2, 1, 1, 9]) HT_ rfl rfl (by kernel_rfl) (fun _ _ _ h => h) (by rfl) ?_
       refine zpg_ (i := 4) (ra_ [2, 1, 2, 8]) HT_ rfl rfl (by kernel_rfl) (fun _ _ _ h => h) (by rfl) ?_
       refine zpg_ (i := 5) (ra_ [2, 1, 3, 7]) HT_ rfl rfl (by kernel_rfl) (fun _ _ _ h => h) (by rfl) ?_
       refine zpg_ (i := 6) (ra_ [2, 1, 4, 6]) HT_ rfl rfl (by kernel_rfl) (fun _ _ _ h => h) (by rfl) ?_
       refine zpg_ (i := 7) (ra_ [2, 1, 5, 5]) HT_ rfl rfl (by kernel_rfl) (fun _ _ _ h => h) (by rfl) ?_
       refine ztg_ (i := 2) (fl_ 13 8) HT_ HW_ rfl rfl (by kernel_rfl) (fun _ _ _ h => h) (by rfl) hHeld ?_ z96_
       refine zpg_ (i := 9) (ra_ [8, 1, 1, 3]) HT_ rfl rfl (by kernel_rfl) (fun _ _ _ h => h) (by rfl) ?_
       refine ztg_ (i := 8) (fl_ 13 10) HT_ HW_ rfl rfl (by kernel_rfl) (fun _ _ _ h => h) (by rfl) hHeld ?_ z96_
       refine one_ (i := 10) (N := none) (fl_ 13 11) rfl rfl (one_of HT_.out (by kernel_rfl)) (by decide) (fun K hK => ?_)
       have hs40 : w39.cell? ⟨gb253, 3, none⟩ = some (.int .i64 t249) := (blk_cell BK253.out 3).trans rfl
       have hfs40 := blk_frozen BK253.out 3
       have hns40_0 := NB241_253.out
       have hns40_1 := NB242_253.out
       have hns40_2 := NB245_253.out
       have hms40_0 := NB253_241.out
       have hms40_1 := NB253_242.out
       have hms40_2 := NB253_245.out
       refine skip_ (w1 := ?_) (by rfl) rfl ?_ ?_
       rotate_left
       ·go_simp
        rfl
       refine hK.out _ _ ⟨((cell_far (p := ⟨gb253, _, none⟩) z48_ _).trans (hHeld.1)), ((cell_far (p := ⟨gb253, _, none⟩) z48_ _).trans (hHeld.2))⟩ (fun hHeld => ?_)
       clear hK K
       refine zp_ HT_ rfl rfl (by kernel_rfl) (fun _ _ _ h => h) (by rfl) ?_
       refine one_ (i := 12) (N := none) (fl_ 13 13) rfl rfl (one_of HT_.out (by kernel_rfl)) (by decide) (fun K hK => ?_)
       have hs41 : w39.cell? ⟨gb253, 4, none⟩ = some (.int .i64 t250) := (blk_cell BK253.out 4).trans rfl
       have hfs41 := blk_frozen BK253.out 4
       have hns41_0 := NB241_253.out
       have hns41_1 := NB242_253.out
       have hns41_2 := NB245_253.out
       have hms41_0 := NB253_241.out
       have hms41_1 := NB253_242.out
       have hms41_2 := NB253_245.out
       refine skip_ (w1 := ?_) (by rfl) rfl ?_ ?_
       rotate_left
       ·go_simp
        rfl
       refine hK.out _ _ ⟨((cell_far (p := ⟨gb253, _, none⟩) z48_ _).trans (hHeld.1)), ((cell_far (p := ⟨gb253, _, none⟩) z48_ _).trans (hHeld.2))⟩ (fun hHeld => ?_)
       clear hK K
       refine done_ (done_of HT_.out (by kernel_rfl)) ?_
       try go_wp2
       go_meet
       case rel => exact ⟨_, (rd t255 0), (rd t255 (ji36)), H', ⟨z144_⟩, ⟨by (with_reducible repeat (first | apply Kd.R_alloc | apply Kd.R_drewN | apply Kd.R_drew)); exact Kd.R_mono (Kd.R_far (p := ⟨gb253, 4, none⟩) (Kd.R_far (p := ⟨gb253, 3, none⟩) (Kd.R_mono HO_243000.out (fun k_ hk => (⟨hk, hk⟩ : _ ∧ k_ ≠ gb253))) (fun _ hk => hk.2) (.int .i64 (rd t255 0))) (fun _ hk => hk.2) (.int .i64 (rd t255 (ji36)))) (fun _ hk => hk.1)⟩, ⟨z77_⟩, ⟨z78_⟩, ⟨z79_⟩, ⟨by (with_reducible repeat (first | refine blk_drewN ?_ _ | refine blk_drew ?_ | refine blk_alloc ?_ _)); refine blk_put (cs := #[.bool true, .int .i64 ((rd_T55 l0 x17_1).f0), .int .i64 t254, .int .i64 (rd t255 0), .int .i64 t250, .int .i64 t251, .int .i64 t252]) ?_ 4 _ rfl; (with_reducible repeat (first | refine blk_drewN ?_ _ | refine blk_drew ?_ | refine blk_alloc ?_ _)); refine blk_put (cs := #[.bool true, .int .i64 ((rd_T55 l0 x17_1).f0), .int .i64 t254, .int .i64 t249, .int .i64 t250, .int .i64 t251, .int .i64 t252]) ?_ 3 _ rfl; (with_reducible repeat (first | refine blk_drewN ?_ _ | refine blk_drew ?_ | refine blk_alloc ?_ _)); exact BK253.out⟩, ⟨z3_⟩⟩
      ·rw [if_neg c34] at H
       have c34b0 : decide (0 < (t255.length : Int)) = false := decide_eq_false c34
       have c34b1 : decide (0 < t255.length) = false := decide_eq_false (by omega)
       clear c34
       (first | rw [c34b0] | rw [c34b1] | (simp only [i64_w, i32_w]; rw [c34b0]) | skip)
       have H' := Aside0.mk H
       clear H
       go_wp2
       go_meet
       case rel => exact ⟨_, (t249), (t250), H', ⟨z144_⟩, ⟨z29_⟩, ⟨z14_⟩, ⟨z20_⟩, ⟨z28_⟩, ⟨z32_⟩, ⟨z3_⟩⟩
     case rest =>
      clear HC15
      try clear c1
      try clear c2
      try clear p2
      try clear q2
      try clear hx2
      try clear qi2
      try clear c3
      try clear c6
      try clear p6
      try clear c7
      try clear c9
      try clear c9b0
      try clear c10
      try clear c10b0
      try clear c11
      try clear c11b0
      try clear c17
      try clear c18
      try clear c19
      try clear c22
      try clear c23
      try clear c24
      try clear p24
      try clear q24
      try clear hx24
      try clear p25
      try clear q25
      try clear hx25
      try clear qi25
      try clear c34
      try clear c34b0
      try clear c34b1
      try clear c35
      try clear c35b0
      try clear c35b1
      try clear c37
      try clear c37b0
      try clear c38
      try clear c38b0
      try clear hcz19_0
      try clear hcz19_1
      try clear hcz25_0
      try clear hcz25_1
      try clear hcz25_2
      try clear hcz25_3
      try clear hcz25_4
      try clear hcz25_5
      try clear hcz25_6
      try clear hcz7_0
      try clear hfz19_0
      try clear hfz19_1
      try clear hfz25_0
      try clear hfz25_1
      try clear hfz25_2
      try clear hfz25_3
      try clear hfz25_4
      try clear hfz25_5
      try clear hfz25_6
      try clear hfz7_0
      try clear hx244_0
      try clear hx244_1
      try clear hx258_0
      try clear hx259_0
      try clear p2
      try clear p244
      try clear p258
      try clear p259
      try clear q244
      try clear q258
      try clear q259
      obtain ⟨kq, x254003_14, x254004_14, HA, HJ14, HO_243000, BK241, BK242, BK245, BK253, HB⟩ := hcut
      cases kq with
      | zero => exact absurd HA.out (by simp [impl_DomFrom.j1])
      | succ kj14 =>
       have H := HA.out
       clear HA
       simp only [impl_DomFrom.j1] at H
       obtain ⟨t260, A42, H⟩ := bnd_ H
       by_cases c43 : (t260.length : Int) > 0
       ·rw [if_pos c43] at H
        have c43b0 : decide (0 < (t260.length : Int)) = true := decide_eq_true c43
        have c43b1 : decide (0 < t260.length) = true := decide_eq_true (by omega)
        clear c43
        obtain ⟨t263, A44, H⟩ := bnd_ H
        by_cases c45 : t263 > 0
        ·rw [if_pos c45] at H
         have c45b0 : decide (0 < t263) = true := decide_eq_true c45
         clear c45
         obtain ⟨ji46, hji46⟩ : ∃ j_ : Int, (wrap64 (t263 - 1)) = j_ := ⟨_, rfl⟩
         replace H : (if 0 ≤ (ji46) then (if (ji46) < (t260.length : Int) then (if (wrap64 (t263 + 1)) < (t260.length : Int) then (if 0 ≤ (wrap64 (t263 + 1)) then (if x243000_1.length < 2513169434916 then (impl_DomFrom.l0 kj14 l0 l0 (l0.length : Int) (wrap64 (x17_1 + 1)) (x243000_1 ++ [(⟨true, ((rd_T55 l0 x17_1).f0), t254, x254003_14, x254004_14, rd t260 (ji46), rd t260 (wrap64 (t263 + 1))⟩ : S90)])) else (none)) else (none)) else (if x243000_1.length < 2513169434916 then (impl_DomFrom.l0 kj14 l0 l0 (l0.length : Int) (wrap64 (x17_1 + 1)) (x243000_1 ++ [(⟨true, ((rd_T55 l0 x17_1).f0), t254, x254003_14, x254004_14, rd t260 (ji46), t252⟩ : S90)])) else (none))) else (none)) else (none)) = some r := by first | (rw [hji46] at H; exact H) | (simp only [hji46] at H ⊢; exact H)
         (try rw [hji46] at A42)
         (try rw [hji46] at A44)
         have hji46w : (IntKind.i64.wrap (t263 - 1)) = ji46 := (i64_w _).trans hji46
         obtain ⟨c47b0, H⟩ := ifd_ H
         obtain ⟨c48b0, H⟩ := ifd_ H
         by_cases c49 : (wrap64 (t263 + 1)) < (t260.length : Int)
         ·rw [if_pos c49] at H
          have c49b0 : decide ((wrap64 (t263 + 1)) < (t260.length : Int)) = true := decide_eq_true c49
          clear c49
          obtain ⟨ji50, hji50⟩ : ∃ j_ : Int, (wrap64 (t263 + 1)) = j_ := ⟨_, rfl⟩
          replace H : (if 0 ≤ (ji50) then (if x243000_1.length < 2513169434916 then (impl_DomFrom.l0 kj14 l0 l0 (l0.length : Int) (wrap64 (x17_1 + 1)) (x243000_1 ++ [(⟨true, ((rd_T55 l0 x17_1).f0), t254, x254003_14, x254004_14, rd t260 (ji46), rd t260 (ji50)⟩ : S90)])) else (none)) else (none)) = some r := by first | (rw [hji50] at H; exact H) | (simp only [hji50] at H ⊢; exact H)
          (try rw [hji50] at c49b0)
          (try rw [hji50] at A42)
          (try rw [hji50] at A44)
          have hji50w : (IntKind.i64.wrap (t263 + 1)) = ji50 := (i64_w _).trans hji50
          obtain ⟨c51b0, H⟩ := ifd_ H
          obtain ⟨c52, H⟩ := ifs_ H
          have LMc52 := Aside0.mk c52
          clear c52
          obtain ⟨y266, hy266⟩ : ∃ y_ : List (S90), y_ = (x243000_1 ++ [(⟨true, ((rd_T55 l0 x17_1).f0), t254, x254003_14, x254004_14, rd t260 (ji46), rd t260 (ji50)⟩ : S90)]) := ⟨_, rfl⟩
          replace H : (impl_DomFrom.l0 kj14 l0 l0 (l0.length : Int) (wrap64 (x17_1 + 1)) y266) = some r := by first | (rw [hy266]; with_reducible exact H) | (have H2_ := (Option.bind_some _ _).symm.trans H; rw [hy266]; with_reducible exact H2_) | (have H2_ := (Option.bind_some _ _).symm.trans H; with_reducible exact H2_) | with_reducible exact H | (rw [hy266]; exact H) | exact H
          have Ny266 := Aside0.mk hy266
          clear hy266
          have H' := Aside0.mk H
          clear H
          have hnb53 := NB253_241.out
          have hnc53 := NB241_253.out
          have hnb54 := NB253_242.out
          have hnc54 := NB242_253.out
          have hnb55 := NB253_245.out
          have hnc55 := NB245_253.out
          have hcz56_0 : wc.cell? ⟨gb253, 0, none⟩ = some (.bool true) := (blk_cell BK253.out 0).trans rfl
          have hcz56_1 : wc.cell? ⟨gb253, 1, none⟩ = some (.int .i64 ((rd_T55 l0 x17_1).f0)) := (blk_cell BK253.out 1).trans rfl
          have hcz56_2 : wc.cell? ⟨gb253, 2, none⟩ = some (.int .i64 t254) := (blk_cell BK253.out 2).trans rfl
          have hcz56_3 : wc.cell? ⟨gb253, 3, none⟩ = some (.int .i64 x254003_14) := (blk_cell BK253.out 3).trans rfl
          have hcz56_4 : wc.cell? ⟨gb253, 4, none⟩ = some (.int .i64 x254004_14) := (blk_cell BK253.out 4).trans rfl
          have hcz56_5 : wc.cell? ⟨gb253, 5, none⟩ = some (.int .i64 t251) := (blk_cell BK253.out 5).trans rfl
          have hcz56_6 : wc.cell? ⟨gb253, 6, none⟩ = some (.int .i64 t252) := (blk_cell BK253.out 6).trans rfl
          have hfz56_0 := blk_frozen BK253.out 0
          have hfz56_1 := blk_frozen BK253.out 1
          have hfz56_2 := blk_frozen BK253.out 2
          have hfz56_3 := blk_frozen BK253.out 3
          have hfz56_4 := blk_frozen BK253.out 4
          have hfz56_5 := blk_frozen BK253.out 5
          have hfz56_6 := blk_frozen BK253.out 6
          go_wp2_with (first | ((with_reducible refine gate_callee (f := 71) rfl ?_); refine goesL_ (some 51) rfl rfl Try.func71 (by kernel_rfl) rfl #[.slice (some ad244) l0.length c0, .int .i64 t254] rfl z1_ ?_; (with_reducible refine (impl_KidsOf.calls kj14 _ _ l0 t254 t260 _ ?side1 ?side2 A42.out).mono ?_); (case side1 => exact z4_); (case side2 => exact HC0.out); rintro e w57 ⟨v261, rfl, ho0, hb⟩; refine ⟨_, rfl, ?_⟩; replace HO_243000 := Aside0.mk (Kd.R_below z29_ hb); have HO262 := Aside0.mk (Kd.R_lower ho0 (below_size z3_)); replace BK241 := Aside0.mk (blk_below (g := gb241) (o := .cells #[.slice none 0 0] 28 (0, 0)) z14_ hb); replace BK242 := Aside0.mk (blk_below (g := gb242) (o := .cells #[u243000] 28 (0, 0)) z20_ hb); replace BK245 := Aside0.mk (blk_below (g := gb245) (o := .cells #[.int .i64 ((rd_T55 l0 x17_1).f0), .int .i64 ((rd_T55 l0 x17_1).f1)] 55 (0, 0)) z28_ hb); replace BK253 := Aside0.mk (blk_below (g := gb253) (o := .cells #[.bool true, .int .i64 ((rd_T55 l0 x17_1).f0), .int .i64 t254, .int .i64 x254003_14, .int .i64 x254004_14, .int .i64 t251, .int .i64 t252] 90 (0, 0)) z32_ hb); replace HB := Aside0.mk (below_step z3_ hb); (try clear hb ho0); obtain ⟨Ao58, co58, eo58⟩ := Kd.R_slice HO262.out; subst eo58) | ((with_reducible refine gate_callee (f := 72) rfl ?_); refine goesL_ (some 57) rfl rfl Try.func72 (by kernel_rfl) rfl #[.slice Ao58 t260.length co58, .int .i64 x17_1] rfl z1_ ?_; (with_reducible refine (slices_Index_int_int.calls kj14 _ _ t260 x17_1 t263 _ ?side1 ?side2 A44.out).mono ?_); (case side1 => exact z87_); (case side2 => exact z170_); rintro e w' ⟨rfl, ⟨nd, rfl⟩⟩; refine ⟨_, rfl, ?_⟩; (try (rw [drewN_self w57]; generalize hq_ : World.drewN w57 _ = w57; have n0_ : Aside0 (Kd.R (Kd.int .i64) 3 w57 w.heap.size (fun _ => True) (.slice Ao58 t260.length co58) t260) := ⟨z128_⟩; have n1_ : Aside0 (Kd.R k90 90 w57 w.heap.size (fun k_ => k_ ≠ gb253) u243000 x243000_1) := ⟨z104_⟩; have n2_ : Aside0 (w57.heap[gb241]? = some (.cells #[.slice none 0 0] 28 (0, 0))) := ⟨z97_⟩; have n3_ : Aside0 (w57.heap[gb242]? = some (.cells #[u243000] 28 (0, 0))) := ⟨z98_⟩; have n4_ : Aside0 (w57.heap[gb245]? = some (.cells #[.int .i64 ((rd_T55 l0 x17_1).f0), .int .i64 ((rd_T55 l0 x17_1).f1)] 55 (0, 0))) := ⟨z99_⟩; have n5_ : Aside0 (w57.heap[gb253]? = some (.cells #[.bool true, .int .i64 ((rd_T55 l0 x17_1).f0), .int .i64 t254, .int .i64 x254003_14, .int .i64 x254004_14, .int .i64 t251, .int .i64 t252] 90 (0, 0))) := ⟨z100_⟩; have n6_ : Aside0 (Below w.heap.size w w57) := ⟨z52_⟩; clear HO262 HO_243000 BK241 BK242 BK245 BK253 HB hq_; have HO262 := n0_; have HO_243000 := n1_; have BK241 := n2_; have BK242 := n3_; have BK245 := n4_; have BK253 := n5_; have HB := n6_; clear n0_ n1_ n2_ n3_ n4_ n5_ n6_)); have p264 : 0 ≤ ((ji46) : Int) := odt_; have q264 : (ji46) < (t260.length : Int) := odt_; obtain ⟨ad264, e264, hx264_0⟩ := Kd.at_int (Kd.R_reads' HO262.out).2.2 (ji46) p264 q264; cases e264; replace p264 := eq_true p264; replace q264 := eq_true q264; have hcz59_0 : w57.cell? ⟨gb253, 0, none⟩ = some (.bool true) := (blk_cell BK253.out 0).trans rfl; have hcz59_1 : w57.cell? ⟨gb253, 1, none⟩ = some (.int .i64 ((rd_T55 l0 x17_1).f0)) := (blk_cell BK253.out 1).trans rfl; have hcz59_2 : w57.cell? ⟨gb253, 2, none⟩ = some (.int .i64 t254) := (blk_cell BK253.out 2).trans rfl; have hcz59_3 : w57.cell? ⟨gb253, 3, none⟩ = some (.int .i64 x254003_14) := (blk_cell BK253.out 3).trans rfl; have hcz59_4 : w57.cell? ⟨gb253, 4, none⟩ = some (.int .i64 x254004_14) := (blk_cell BK253.out 4).trans rfl; have hcz59_5 : w57.cell? ⟨gb253, 5, none⟩ = some (.int .i64 t251) := (blk_cell BK253.out 5).trans rfl; have hcz59_6 : w57.cell? ⟨gb253, 6, none⟩ = some (.int .i64 t252) := (blk_cell BK253.out 6).trans rfl; have hfz59_0 := blk_frozen BK253.out 0; have hfz59_1 := blk_frozen BK253.out 1; have hfz59_2 := blk_frozen BK253.out 2; have hfz59_3 := blk_frozen BK253.out 3; have hfz59_4 := blk_frozen BK253.out 4; have hfz59_5 := blk_frozen BK253.out 5; have hfz59_6 := blk_frozen BK253.out 6; have p265 : 0 ≤ ((ji50) : Int) := odt_; have q265 : (ji50) < (t260.length : Int) := odt_; obtain ⟨ad265, e265, hx265_0⟩ := Kd.at_int (Kd.R_reads' HO262.out).2.2 (ji50) p265 q265; obtain rfl : ad264 = ad265 := (by injection e265); have hn265_0 : ad264.block ≠ gb253 := Kd.own_blk (Kd.R_ne HO262.out BK253.out (by decide)); replace hx265_0 := (cell_far (p := ⟨gb253, 5, none⟩) (by first | (rw [add_block]; exact hn265_0) | (show (Addr.add _ _).block ≠ _; rw [add_block]; exact hn265_0) | exact hn265_0) (.int .i64 (rd t260 (ji46)))).trans hx265_0; clear hn265_0; replace p265 := eq_true p265; replace q265 := eq_true q265; have hnb60 := NB242_241.out; have hnc60 := NB241_242.out; have hnb61 := NB242_245.out; have hnc61 := NB245_242.out; have hcz62_0 : w57.cell? ⟨gb242, 0, none⟩ = some (u243000) := (blk_cell BK242.out 0).trans rfl; have hfz62_0 := blk_frozen BK242.out 0) | ((with_reducible refine gate_builtin (b := .append) (xs := #[.tmp 78, .tmp 80]) rfl ?_); at_builtin; refine Kd.R_append k90 (w0 := w) w.heap.size rfl (.tmp 78) (.tmp 80) 26 90 (.agg #[(.bool false), (.int .i64 0), (.int .i64 0), (.int .i64 0), (.int .i64 0), (.int .i64 0), (.int .i64 0)]) 56 rfl Try.underlying26 info90 rfl (by decide) (by omega) u243000 x243000_1 (⟨true, ((rd_T55 l0 x17_1).f0), t254, x254003_14, x254004_14, rd t260 (ji46), rd t260 (ji50)⟩ : S90) [.bool true, .int .i64 ((rd_T55 l0 x17_1).f0), .int .i64 t254, .int .i64 x254003_14, .int .i64 x254004_14, .int .i64 (rd t260 (ji46)), .int .i64 (rd t260 (ji50))] (fun k_ => k_ ≠ gb253) (fun _ => False) rfl z13_ ?aP (fun _ hk => hk.elim) ?aF ?aO ?aB ?aS ?aL ?_; (case aP => exact k90_mkM _ _ _ (⟨true, ((rd_T55 l0 x17_1).f0), t254, x254003_14, x254004_14, rd t260 (ji46), rd t260 (ji50)⟩ : S90)); (case aB => exact z43_); (case aF => exact (fun k_ hk => Kd.freshB (g := gb253) (o := .cells #[.bool true, .int .i64 ((rd_T55 l0 x17_1).f0), .int .i64 t254, .int .i64 x254003_14, .int .i64 x254004_14, .int .i64 (rd t260 (ji46)), .int .i64 (rd t260 (ji50))] 90 (0, 0)) z41_ k_ hk)); (case aO => exact (by (with_reducible repeat (first | apply Kd.R_alloc | apply Kd.R_drewN | apply Kd.R_drew)); exact Kd.R_mono (Kd.R_far (p := ⟨gb253, 6, none⟩) (Kd.R_far (p := ⟨gb253, 5, none⟩) (Kd.R_mono HO_243000.out (fun k_ hk => (⟨hk, hk⟩ : _ ∧ k_ ≠ gb253))) (fun _ hk => hk.2) (.int .i64 (rd t260 (ji46)))) (fun _ hk => hk.2) (.int .i64 (rd t260 (ji50)))) (fun _ hk => hk.1))); (case aS => exact z40_); (case aL => have := LMc52.out; omega); intro v267 w63 ho hb hg hat; rw [← Ny266.out] at ho; replace BK241 := Aside0.mk (blk_grown (g := gb241) (o := .cells #[.slice none 0 0] 28 (0, 0)) z77_ hg (Kd.R_ne HO_243000.out BK241.out (by decide))); replace BK242 := Aside0.mk (blk_grown (g := gb242) (o := .cells #[u243000] 28 (0, 0)) z78_ hg (Kd.R_ne HO_243000.out BK242.out (by decide))); replace BK245 := Aside0.mk (blk_grown (g := gb245) (o := .cells #[.int .i64 ((rd_T55 l0 x17_1).f0), .int .i64 ((rd_T55 l0 x17_1).f1)] 55 (0, 0)) z79_ hg (Kd.R_ne HO_243000.out BK245.out (by decide))); replace HO262 := Aside0.mk (Kd.R_over' (by (with_reducible repeat (first | apply Kd.R_alloc | apply Kd.R_drewN | apply Kd.R_drew)); exact (Kd.R_mono (Kd.R_far (p := ⟨gb253, 6, none⟩) (Kd.R_far (p := ⟨gb253, 5, none⟩) (Kd.R_types HO262.out BK253.out (by decide)) (fun _ hk => hk.2) (.int .i64 (rd t260 (ji46)))) (fun _ hk => hk.2) (.int .i64 (rd t260 (ji50)))) (fun _ h_ => h_.1))) (Kd.R_typed (by (with_reducible repeat (first | apply Kd.R_alloc | apply Kd.R_drewN | apply Kd.R_drew)); exact (Kd.R_mono (Kd.R_far (p := ⟨gb253, 6, none⟩) (Kd.R_far (p := ⟨gb253, 5, none⟩) (Kd.R_mono HO_243000.out (fun k_ hk => (⟨hk, hk⟩ : _ ∧ k_ ≠ gb253))) (fun _ hk => hk.2) (.int .i64 (rd t260 (ji46)))) (fun _ hk => hk.2) (.int .i64 (rd t260 (ji50)))) (fun _ h_ => h_.1)))) (by decide) hg); replace BK253 := Aside0.mk (blk_grown (g := gb253) (o := .cells #[.bool true, .int .i64 ((rd_T55 l0 x17_1).f0), .int .i64 t254, .int .i64 x254003_14, .int .i64 x254004_14, .int .i64 (rd t260 (ji46)), .int .i64 (rd t260 (ji50))] 90 (0, 0)) z41_ hg (Kd.R_away HO_243000.out (fun _ hk => hk))); replace HB := Aside0.mk (hb); have HO268 := Aside0.mk (ho); clear HO_243000; clear ho hb hg hat; obtain ⟨Ao64, co64, eo64⟩ := Kd.R_slice HO268.out; subst eo64; have hcz65_0 : w63.cell? ⟨gb242, 0, none⟩ = some (u243000) := (blk_cell BK242.out 0).trans rfl; have hfz65_0 := blk_frozen BK242.out 0))
          go_roundg kj14
          case measure => have := HK1.out; have := HJ14.out; omega
          case rel => exact ⟨(wrap64 (x17_1 + 1)), (y266), (.slice Ao64 y266.length co64), z12_, H', ⟨z163_⟩, ⟨by (with_reducible repeat (first | apply Kd.R_alloc | apply Kd.R_drewN | apply Kd.R_drew)); exact Kd.R_mono (Kd.R_far (p := ⟨gb242, 0, none⟩) (Kd.R_types HO268.out BK242.out (by decide)) (fun _ hk => hk.2) (.slice Ao64 y266.length co64)) (fun _ hk => trivial)⟩, ⟨z30_⟩, ⟨z47_⟩, ⟨z3_⟩⟩
         ·rw [if_neg c49] at H
          have c49b0 : decide ((wrap64 (t263 + 1)) < (t260.length : Int)) = false := decide_eq_false c49
          clear c49
          obtain ⟨c66, H⟩ := ifs_ H
          have LMc66 := Aside0.mk c66
          clear c66
          obtain ⟨y269, hy269⟩ : ∃ y_ : List (S90), y_ = (x243000_1 ++ [(⟨true, ((rd_T55 l0 x17_1).f0), t254, x254003_14, x254004_14, rd t260 (ji46), t252⟩ : S90)]) := ⟨_, rfl⟩
          replace H : (impl_DomFrom.l0 kj14 l0 l0 (l0.length : Int) (wrap64 (x17_1 + 1)) y269) = some r := by first | (rw [hy269]; with_reducible exact H) | (have H2_ := (Option.bind_some _ _).symm.trans H; rw [hy269]; with_reducible exact H2_) | (have H2_ := (Option.bind_some _ _).symm.trans H; with_reducible exact H2_) | with_reducible exact H | (rw [hy269]; exact H) | exact H
          have Ny269 := Aside0.mk hy269
          clear hy269
          have H' := Aside0.mk H
          clear H
          have hnb67 := NB253_241.out
          have hnc67 := NB241_253.out
          have hnb68 := NB253_242.out
          have hnc68 := NB242_253.out
          have hnb69 := NB253_245.out
          have hnc69 := NB245_253.out
          have hcz70_0 : wc.cell? ⟨gb253, 0, none⟩ = some (.bool true) := (blk_cell BK253.out 0).trans rfl
          have hcz70_1 : wc.cell? ⟨gb253, 1, none⟩ = some (.int .i64 ((rd_T55 l0 x17_1).f0)) := (blk_cell BK253.out 1).trans rfl
          have hcz70_2 : wc.cell? ⟨gb253, 2, none⟩ = some (.int .i64 t254) := (blk_cell BK253.out 2).trans rfl
          have hcz70_3 : wc.cell? ⟨gb253, 3, none⟩ = some (.int .i64 x254003_14) := (blk_cell BK253.out 3).trans rfl
          have hcz70_4 : wc.cell? ⟨gb253, 4, none⟩ = some (.int .i64 x254004_14) := (blk_cell BK253.out 4).trans rfl
          have hcz70_5 : wc.cell? ⟨gb253, 5, none⟩ = some (.int .i64 t251) := (blk_cell BK253.out 5).trans rfl
          have hcz70_6 : wc.cell? ⟨gb253, 6, none⟩ = some (.int .i64 t252) := (blk_cell BK253.out 6).trans rfl
          have hfz70_0 := blk_frozen BK253.out 0
          have hfz70_1 := blk_frozen BK253.out 1
          have hfz70_2 := blk_frozen BK253.out 2
          have hfz70_3 := blk_frozen BK253.out 3
          have hfz70_4 := blk_frozen BK253.out 4
          have hfz70_5 := blk_frozen BK253.out 5
          have hfz70_6 := blk_frozen BK253.out 6
          go_wp2_with (first | ((with_reducible refine gate_callee (f := 71) rfl ?_); refine goesL_ (some 51) rfl rfl Try.func71 (by kernel_rfl) rfl #[.slice (some ad244) l0.length c0, .int .i64 t254] rfl z1_ ?_; (with_reducible refine (impl_KidsOf.calls kj14 _ _ l0 t254 t260 _ ?side1 ?side2 A42.out).mono ?_); (case side1 => exact z4_); (case side2 => exact HC0.out); rintro e w71 ⟨v261, rfl, ho0, hb⟩; refine ⟨_, rfl, ?_⟩; replace HO_243000 := Aside0.mk (Kd.R_below z29_ hb); have HO262 := Aside0.mk (Kd.R_lower ho0 (below_size z3_)); replace BK241 := Aside0.mk (blk_below (g := gb241) (o := .cells #[.slice none 0 0] 28 (0, 0)) z14_ hb); replace BK242 := Aside0.mk (blk_below (g := gb242) (o := .cells #[u243000] 28 (0, 0)) z20_ hb); replace BK245 := Aside0.mk (blk_below (g := gb245) (o := .cells #[.int .i64 ((rd_T55 l0 x17_1).f0), .int .i64 ((rd_T55 l0 x17_1).f1)] 55 (0, 0)) z28_ hb); replace BK253 := Aside0.mk (blk_below (g := gb253) (o := .cells #[.bool true, .int .i64 ((rd_T55 l0 x17_1).f0), .int .i64 t254, .int .i64 x254003_14, .int .i64 x254004_14, .int .i64 t251, .int .i64 t252] 90 (0, 0)) z32_ hb); replace HB := Aside0.mk (below_step z3_ hb); (try clear hb ho0); obtain ⟨Ao72, co72, eo72⟩ := Kd.R_slice HO262.out; subst eo72) | ((with_reducible refine gate_callee (f := 72) rfl ?_); refine goesL_ (some 57) rfl rfl Try.func72 (by kernel_rfl) rfl #[.slice Ao72 t260.length co72, .int .i64 x17_1] rfl z1_ ?_; (with_reducible refine (slices_Index_int_int.calls kj14 _ _ t260 x17_1 t263 _ ?side1 ?side2 A44.out).mono ?_); (case side1 => exact z87_); (case side2 => exact z170_); rintro e w' ⟨rfl, ⟨nd, rfl⟩⟩; refine ⟨_, rfl, ?_⟩; (try (rw [drewN_self w71]; generalize hq_ : World.drewN w71 _ = w71; have n0_ : Aside0 (Kd.R (Kd.int .i64) 3 w71 w.heap.size (fun _ => True) (.slice Ao72 t260.length co72) t260) := ⟨z128_⟩; have n1_ : Aside0 (Kd.R k90 90 w71 w.heap.size (fun k_ => k_ ≠ gb253) u243000 x243000_1) := ⟨z104_⟩; have n2_ : Aside0 (w71.heap[gb241]? = some (.cells #[.slice none 0 0] 28 (0, 0))) := ⟨z97_⟩; have n3_ : Aside0 (w71.heap[gb242]? = some (.cells #[u243000] 28 (0, 0))) := ⟨z98_⟩; have n4_ : Aside0 (w71.heap[gb245]? = some (.cells #[.int .i64 ((rd_T55 l0 x17_1).f0), .int .i64 ((rd_T55 l0 x17_1).f1)] 55 (0, 0))) := ⟨z99_⟩; have n5_ : Aside0 (w71.heap[gb253]? = some (.cells #[.bool true, .int .i64 ((rd_T55 l0 x17_1).f0), .int .i64 t254, .int .i64 x254003_14, .int .i64 x254004_14, .int .i64 t251, .int .i64 t252] 90 (0, 0))) := ⟨z100_⟩; have n6_ : Aside0 (Below w.heap.size w w71) := ⟨z52_⟩; clear HO262 HO_243000 BK241 BK242 BK245 BK253 HB hq_; have HO262 := n0_; have HO_243000 := n1_; have BK241 := n2_; have BK242 := n3_; have BK245 := n4_; have BK253 := n5_; have HB := n6_; clear n0_ n1_ n2_ n3_ n4_ n5_ n6_)); have p264 : 0 ≤ ((ji46) : Int) := odt_; have q264 : (ji46) < (t260.length : Int) := odt_; obtain ⟨ad264, e264, hx264_0⟩ := Kd.at_int (Kd.R_reads' HO262.out).2.2 (ji46) p264 q264; cases e264; replace p264 := eq_true p264; replace q264 := eq_true q264; have hcz73_0 : w71.cell? ⟨gb253, 0, none⟩ = some (.bool true) := (blk_cell BK253.out 0).trans rfl; have hcz73_1 : w71.cell? ⟨gb253, 1, none⟩ = some (.int .i64 ((rd_T55 l0 x17_1).f0)) := (blk_cell BK253.out 1).trans rfl; have hcz73_2 : w71.cell? ⟨gb253, 2, none⟩ = some (.int .i64 t254) := (blk_cell BK253.out 2).trans rfl; have hcz73_3 : w71.cell? ⟨gb253, 3, none⟩ = some (.int .i64 x254003_14) := (blk_cell BK253.out 3).trans rfl; have hcz73_4 : w71.cell? ⟨gb253, 4, none⟩ = some (.int .i64 x254004_14) := (blk_cell BK253.out 4).trans rfl; have hcz73_5 : w71.cell? ⟨gb253, 5, none⟩ = some (.int .i64 t251) := (blk_cell BK253.out 5).trans rfl; have hcz73_6 : w71.cell? ⟨gb253, 6, none⟩ = some (.int .i64 t252) := (blk_cell BK253.out 6).trans rfl; have hfz73_0 := blk_frozen BK253.out 0; have hfz73_1 := blk_frozen BK253.out 1; have hfz73_2 := blk_frozen BK253.out 2; have hfz73_3 := blk_frozen BK253.out 3; have hfz73_4 := blk_frozen BK253.out 4; have hfz73_5 := blk_frozen BK253.out 5; have hfz73_6 := blk_frozen BK253.out 6; have hnb74 := NB242_241.out; have hnc74 := NB241_242.out; have hnb75 := NB242_245.out; have hnc75 := NB245_242.out; have hcz76_0 : w71.cell? ⟨gb242, 0, none⟩ = some (u243000) := (blk_cell BK242.out 0).trans rfl; have hfz76_0 := blk_frozen BK242.out 0) | ((with_reducible refine gate_builtin (b := .append) (xs := #[.tmp 78, .tmp 80]) rfl ?_); at_builtin; refine Kd.R_append k90 (w0 := w) w.heap.size rfl (.tmp 78) (.tmp 80) 26 90 (.agg #[(.bool false), (.int .i64 0), (.int .i64 0), (.int .i64 0), (.int .i64 0), (.int .i64 0), (.int .i64 0)]) 56 rfl Try.underlying26 info90 rfl (by decide) (by omega) u243000 x243000_1 (⟨true, ((rd_T55 l0 x17_1).f0), t254, x254003_14, x254004_14, rd t260 (ji46), t252⟩ : S90) [.bool true, .int .i64 ((rd_T55 l0 x17_1).f0), .int .i64 t254, .int .i64 x254003_14, .int .i64 x254004_14, .int .i64 (rd t260 (ji46)), .int .i64 t252] (fun k_ => k_ ≠ gb253) (fun _ => False) rfl z13_ ?aP (fun _ hk => hk.elim) ?aF ?aO ?aB ?aS ?aL ?_; (case aP => exact k90_mkM _ _ _ (⟨true, ((rd_T55 l0 x17_1).f0), t254, x254003_14, x254004_14, rd t260 (ji46), t252⟩ : S90)); (case aB => exact z43_); (case aF => exact (fun k_ hk => Kd.freshB (g := gb253) (o := .cells #[.bool true, .int .i64 ((rd_T55 l0 x17_1).f0), .int .i64 t254, .int .i64 x254003_14, .int .i64 x254004_14, .int .i64 (rd t260 (ji46)), .int .i64 t252] 90 (0, 0)) z70_ k_ hk)); (case aO => exact (by (with_reducible repeat (first | apply Kd.R_alloc | apply Kd.R_drewN | apply Kd.R_drew)); exact Kd.R_mono (Kd.R_far (p := ⟨gb253, 5, none⟩) (Kd.R_mono HO_243000.out (fun k_ hk => (⟨hk, hk⟩ : _ ∧ k_ ≠ gb253))) (fun _ hk => hk.2) (.int .i64 (rd t260 (ji46)))) (fun _ hk => hk.1))); (case aS => exact z40_); (case aL => have := LMc66.out; omega); intro v270 w77 ho hb hg hat; rw [← Ny269.out] at ho; replace BK241 := Aside0.mk (blk_grown (g := gb241) (o := .cells #[.slice none 0 0] 28 (0, 0)) z125_ hg (Kd.R_ne HO_243000.out BK241.out (by decide))); replace BK242 := Aside0.mk (blk_grown (g := gb242) (o := .cells #[u243000] 28 (0, 0)) z126_ hg (Kd.R_ne HO_243000.out BK242.out (by decide))); replace BK245 := Aside0.mk (blk_grown (g := gb245) (o := .cells #[.int .i64 ((rd_T55 l0 x17_1).f0), .int .i64 ((rd_T55 l0 x17_1).f1)] 55 (0, 0)) z127_ hg (Kd.R_ne HO_243000.out BK245.out (by decide))); replace HO262 := Aside0.mk (Kd.R_over' (by (with_reducible repeat (first | apply Kd.R_alloc | apply Kd.R_drewN | apply Kd.R_drew)); exact (Kd.R_mono (Kd.R_far (p := ⟨gb253, 5, none⟩) (Kd.R_types HO262.out BK253.out (by decide)) (fun _ hk => hk.2) (.int .i64 (rd t260 (ji46)))) (fun _ h_ => h_.1))) (Kd.R_typed (by (with_reducible repeat (first | apply Kd.R_alloc | apply Kd.R_drewN | apply Kd.R_drew)); exact (Kd.R_mono (Kd.R_far (p := ⟨gb253, 5, none⟩) (Kd.R_mono HO_243000.out (fun k_ hk => (⟨hk, hk⟩ : _ ∧ k_ ≠ gb253))) (fun _ hk => hk.2) (.int .i64 (rd t260 (ji46)))) (fun _ h_ => h_.1)))) (by decide) hg); replace BK253 := Aside0.mk (blk_grown (g := gb253) (o := .cells #[.bool true, .int .i64 ((rd_T55 l0 x17_1).f0), .int .i64 t254, .int .i64 x254003_14, .int .i64 x254004_14, .int .i64 (rd t260 (ji46)), .int .i64 t252] 90 (0, 0)) z70_ hg (Kd.R_away HO_243000.out (fun _ hk => hk))); replace HB := Aside0.mk (hb); have HO271 := Aside0.mk (ho); clear HO_243000; clear ho hb hg hat; obtain ⟨Ao78, co78, eo78⟩ := Kd.R_slice HO271.out; subst eo78; have hcz79_0 : w77.cell? ⟨gb242, 0, none⟩ = some (u243000) := (blk_cell BK242.out 0).trans rfl; have hfz79_0 := blk_frozen BK242.out 0))
          go_roundg kj14
          case measure => have := HK1.out; have := HJ14.out; omega
          case rel => exact ⟨(wrap64 (x17_1 + 1)), (y269), (.slice Ao78 y269.length co78), z12_, H', ⟨z163_⟩, ⟨by (with_reducible repeat (first | apply Kd.R_alloc | apply Kd.R_drewN | apply Kd.R_drew)); exact Kd.R_mono (Kd.R_far (p := ⟨gb242, 0, none⟩) (Kd.R_types HO271.out BK242.out (by decide)) (fun _ hk => hk.2) (.slice Ao78 y269.length co78)) (fun _ hk => trivial)⟩, ⟨z30_⟩, ⟨z47_⟩, ⟨z3_⟩⟩
        ·rw [if_neg c45] at H
         have c45b0 : decide (0 < t263) = false := decide_eq_false c45
         clear c45
         by_cases c80 : (wrap64 (t263 + 1)) < (t260.length : Int)
         ·rw [if_pos c80] at H
          have c80b0 : decide ((wrap64 (t263 + 1)) < (t260.length : Int)) = true := decide_eq_true c80
          clear c80
          obtain ⟨ji81, hji81⟩ : ∃ j_ : Int, (wrap64 (t263 + 1)) = j_ := ⟨_, rfl⟩
          replace H : (if 0 ≤ (ji81) then (if x243000_1.length < 2513169434916 then (impl_DomFrom.l0 kj14 l0 l0 (l0.length : Int) (wrap64 (x17_1 + 1)) (x243000_1 ++ [(⟨true, ((rd_T55 l0 x17_1).f0), t254, x254003_14, x254004_14, t251, rd t260 (ji81)⟩ : S90)])) else (none)) else (none)) = some r := by first | (rw [hji81] at H; exact H) | (simp only [hji81] at H ⊢; exact H)
          (try rw [hji81] at c80b0)
          (try rw [hji81] at A42)
          (try rw [hji81] at A44)
          have hji81w : (IntKind.i64.wrap (t263 + 1)) = ji81 := (i64_w _).trans hji81
          obtain ⟨c82b0, H⟩ := ifd_ H
          obtain ⟨c83, H⟩ := ifs_ H
          have LMc83 := Aside0.mk c83
          clear c83
          obtain ⟨y273, hy273⟩ : ∃ y_ : List (S90), y_ = (x243000_1 ++ [(⟨true, ((rd_T55 l0 x17_1).f0), t254, x254003_14, x254004_14, t251, rd t260 (ji81)⟩ : S90)]) := ⟨_, rfl⟩
          replace H : (impl_DomFrom.l0 kj14 l0 l0 (l0.length : Int) (wrap64 (x17_1 + 1)) y273) = some r := by first | (rw [hy273]; with_reducible exact H) | (have H2_ := (Option.bind_some _ _).symm.trans H; rw [hy273]; with_reducible exact H2_) | (have H2_ := (Option.bind_some _ _).symm.trans H; with_reducible exact H2_) | with_reducible exact H | (rw [hy273]; exact H) | exact H
          have Ny273 := Aside0.mk hy273
          clear hy273
          have H' := Aside0.mk H
          clear H
          have hnb84 := NB253_241.out
          have hnc84 := NB241_253.out
          have hnb85 := NB253_242.out
          have hnc85 := NB242_253.out
          have hnb86 := NB253_245.out
          have hnc86 := NB245_253.out
          have hcz87_0 : wc.cell? ⟨gb253, 0, none⟩ = some (.bool true) := (blk_cell BK253.out 0).trans rfl
          have hcz87_1 : wc.cell? ⟨gb253, 1, none⟩ = some (.int .i64 ((rd_T55 l0 x17_1).f0)) := (blk_cell BK253.out 1).trans rfl
          have hcz87_2 : wc.cell? ⟨gb253, 2, none⟩ = some (.int .i64 t254) := (blk_cell BK253.out 2).trans rfl
          have hcz87_3 : wc.cell? ⟨gb253, 3, none⟩ = some (.int .i64 x254003_14) := (blk_cell BK253.out 3).trans rfl
          have hcz87_4 : wc.cell? ⟨gb253, 4, none⟩ = some (.int .i64 x254004_14) := (blk_cell BK253.out 4).trans rfl
          have hcz87_5 : wc.cell? ⟨gb253, 5, none⟩ = some (.int .i64 t251) := (blk_cell BK253.out 5).trans rfl
          have hcz87_6 : wc.cell? ⟨gb253, 6, none⟩ = some (.int .i64 t252) := (blk_cell BK253.out 6).trans rfl
          have hfz87_0 := blk_frozen BK253.out 0
          have hfz87_1 := blk_frozen BK253.out 1
          have hfz87_2 := blk_frozen BK253.out 2
          have hfz87_3 := blk_frozen BK253.out 3
          have hfz87_4 := blk_frozen BK253.out 4
          have hfz87_5 := blk_frozen BK253.out 5
          have hfz87_6 := blk_frozen BK253.out 6
          go_wp2_with (first | ((with_reducible refine gate_callee (f := 71) rfl ?_); refine goesL_ (some 51) rfl rfl Try.func71 (by kernel_rfl) rfl #[.slice (some ad244) l0.length c0, .int .i64 t254] rfl z1_ ?_; (with_reducible refine (impl_KidsOf.calls kj14 _ _ l0 t254 t260 _ ?side1 ?side2 A42.out).mono ?_); (case side1 => exact z4_); (case side2 => exact HC0.out); rintro e w88 ⟨v261, rfl, ho0, hb⟩; refine ⟨_, rfl, ?_⟩; replace HO_243000 := Aside0.mk (Kd.R_below z29_ hb); have HO262 := Aside0.mk (Kd.R_lower ho0 (below_size z3_)); replace BK241 := Aside0.mk (blk_below (g := gb241) (o := .cells #[.slice none 0 0] 28 (0, 0)) z14_ hb); replace BK242 := Aside0.mk (blk_below (g := gb242) (o := .cells #[u243000] 28 (0, 0)) z20_ hb); replace BK245 := Aside0.mk (blk_below (g := gb245) (o := .cells #[.int .i64 ((rd_T55 l0 x17_1).f0), .int .i64 ((rd_T55 l0 x17_1).f1)] 55 (0, 0)) z28_ hb); replace BK253 := Aside0.mk (blk_below (g := gb253) (o := .cells #[.bool true, .int .i64 ((rd_T55 l0 x17_1).f0), .int .i64 t254, .int .i64 x254003_14, .int .i64 x254004_14, .int .i64 t251, .int .i64 t252] 90 (0, 0)) z32_ hb); replace HB := Aside0.mk (below_step z3_ hb); (try clear hb ho0); obtain ⟨Ao89, co89, eo89⟩ := Kd.R_slice HO262.out; subst eo89) | ((with_reducible refine gate_callee (f := 72) rfl ?_); refine goesL_ (some 57) rfl rfl Try.func72 (by kernel_rfl) rfl #[.slice Ao89 t260.length co89, .int .i64 x17_1] rfl z1_ ?_; (with_reducible refine (slices_Index_int_int.calls kj14 _ _ t260 x17_1 t263 _ ?side1 ?side2 A44.out).mono ?_); (case side1 => exact z87_); (case side2 => exact z170_); rintro e w' ⟨rfl, ⟨nd, rfl⟩⟩; refine ⟨_, rfl, ?_⟩; (try (rw [drewN_self w88]; generalize hq_ : World.drewN w88 _ = w88; have n0_ : Aside0 (Kd.R (Kd.int .i64) 3 w88 w.heap.size (fun _ => True) (.slice Ao89 t260.length co89) t260) := ⟨z128_⟩; have n1_ : Aside0 (Kd.R k90 90 w88 w.heap.size (fun k_ => k_ ≠ gb253) u243000 x243000_1) := ⟨z104_⟩; have n2_ : Aside0 (w88.heap[gb241]? = some (.cells #[.slice none 0 0] 28 (0, 0))) := ⟨z97_⟩; have n3_ : Aside0 (w88.heap[gb242]? = some (.cells #[u243000] 28 (0, 0))) := ⟨z98_⟩; have n4_ : Aside0 (w88.heap[gb245]? = some (.cells #[.int .i64 ((rd_T55 l0 x17_1).f0), .int .i64 ((rd_T55 l0 x17_1).f1)] 55 (0, 0))) := ⟨z99_⟩; have n5_ : Aside0 (w88.heap[gb253]? = some (.cells #[.bool true, .int .i64 ((rd_T55 l0 x17_1).f0), .int .i64 t254, .int .i64 x254003_14, .int .i64 x254004_14, .int .i64 t251, .int .i64 t252] 90 (0, 0))) := ⟨z100_⟩; have n6_ : Aside0 (Below w.heap.size w w88) := ⟨z52_⟩; clear HO262 HO_243000 BK241 BK242 BK245 BK253 HB hq_; have HO262 := n0_; have HO_243000 := n1_; have BK241 := n2_; have BK242 := n3_; have BK245 := n4_; have BK253 := n5_; have HB := n6_; clear n0_ n1_ n2_ n3_ n4_ n5_ n6_)); have p272 : 0 ≤ ((ji81) : Int) := odt_; have q272 : (ji81) < (t260.length : Int) := odt_; obtain ⟨ad272, e272, hx272_0⟩ := Kd.at_int (Kd.R_reads' HO262.out).2.2 (ji81) p272 q272; cases e272; replace p272 := eq_true p272; replace q272 := eq_true q272; have hcz90_0 : w88.cell? ⟨gb253, 0, none⟩ = some (.bool true) := (blk_cell BK253.out 0).trans rfl; have hcz90_1 : w88.cell? ⟨gb253, 1, none⟩ = some (.int .i64 ((rd_T55 l0 x17_1).f0)) := (blk_cell BK253.out 1).trans rfl; have hcz90_2 : w88.cell? ⟨gb253, 2, none⟩ = some (.int .i64 t254) := (blk_cell BK253.out 2).trans rfl; have hcz90_3 : w88.cell? ⟨gb253, 3, none⟩ = some (.int .i64 x254003_14) := (blk_cell BK253.out 3).trans rfl; have hcz90_4 : w88.cell? ⟨gb253, 4, none⟩ = some (.int .i64 x254004_14) := (blk_cell BK253.out 4).trans rfl; have hcz90_5 : w88.cell? ⟨gb253, 5, none⟩ = some (.int .i64 t251) := (blk_cell BK253.out 5).trans rfl; have hcz90_6 : w88.cell? ⟨gb253, 6, none⟩ = some (.int .i64 t252) := (blk_cell BK253.out 6).trans rfl; have hfz90_0 := blk_frozen BK253.out 0; have hfz90_1 := blk_frozen BK253.out 1; have hfz90_2 := blk_frozen BK253.out 2; have hfz90_3 := blk_frozen BK253.out 3; have hfz90_4 := blk_frozen BK253.out 4; have hfz90_5 := blk_frozen BK253.out 5; have hfz90_6 := blk_frozen BK253.out 6; have hnb91 := NB242_241.out; have hnc91 := NB241_242.out; have hnb92 := NB242_245.out; have hnc92 := NB245_242.out; have hcz93_0 : w88.cell? ⟨gb242, 0, none⟩ = some (u243000) := (blk_cell BK242.out 0).trans rfl; have hfz93_0 := blk_frozen BK242.out 0) | ((with_reducible refine gate_builtin (b := .append) (xs := #[.tmp 78, .tmp 80]) rfl ?_); at_builtin; refine Kd.R_append k90 (w0 := w) w.heap.size rfl (.tmp 78) (.tmp 80) 26 90 (.agg #[(.bool false), (.int .i64 0), (.int .i64 0), (.int .i64 0), (.int .i64 0), (.int .i64 0), (.int .i64 0)]) 56 rfl Try.underlying26 info90 rfl (by decide) (by omega) u243000 x243000_1 (⟨true, ((rd_T55 l0 x17_1).f0), t254, x254003_14, x254004_14, t251, rd t260 (ji81)⟩ : S90) [.bool true, .int .i64 ((rd_T55 l0 x17_1).f0), .int .i64 t254, .int .i64 x254003_14, .int .i64 x254004_14, .int .i64 t251, .int .i64 (rd t260 (ji81))] (fun k_ => k_ ≠ gb253) (fun _ => False) rfl z13_ ?aP (fun _ hk => hk.elim) ?aF ?aO ?aB ?aS ?aL ?_; (case aP => exact k90_mkM _ _ _ (⟨true, ((rd_T55 l0 x17_1).f0), t254, x254003_14, x254004_14, t251, rd t260 (ji81)⟩ : S90)); (case aB => exact z43_); (case aF => exact (fun k_ hk => Kd.freshB (g := gb253) (o := .cells #[.bool true, .int .i64 ((rd_T55 l0 x17_1).f0), .int .i64 t254, .int .i64 x254003_14, .int .i64 x254004_14, .int .i64 t251, .int .i64 (rd t260 (ji81))] 90 (0, 0)) z71_ k_ hk)); (case aO => exact (by (with_reducible repeat (first | apply Kd.R_alloc | apply Kd.R_drewN | apply Kd.R_drew)); exact Kd.R_mono (Kd.R_far (p := ⟨gb253, 6, none⟩) (Kd.R_mono HO_243000.out (fun k_ hk => (⟨hk, hk⟩ : _ ∧ k_ ≠ gb253))) (fun _ hk => hk.2) (.int .i64 (rd t260 (ji81)))) (fun _ hk => hk.1))); (case aS => exact z40_); (case aL => have := LMc83.out; omega); intro v274 w94 ho hb hg hat; rw [← Ny273.out] at ho; replace BK241 := Aside0.mk (blk_grown (g := gb241) (o := .cells #[.slice none 0 0] 28 (0, 0)) z125_ hg (Kd.R_ne HO_243000.out BK241.out (by decide))); replace BK242 := Aside0.mk (blk_grown (g := gb242) (o := .cells #[u243000] 28 (0, 0)) z126_ hg (Kd.R_ne HO_243000.out BK242.out (by decide))); replace BK245 := Aside0.mk (blk_grown (g := gb245) (o := .cells #[.int .i64 ((rd_T55 l0 x17_1).f0), .int .i64 ((rd_T55 l0 x17_1).f1)] 55 (0, 0)) z127_ hg (Kd.R_ne HO_243000.out BK245.out (by decide))); replace HO262 := Aside0.mk (Kd.R_over' (by (with_reducible repeat (first | apply Kd.R_alloc | apply Kd.R_drewN | apply Kd.R_drew)); exact (Kd.R_mono (Kd.R_far (p := ⟨gb253, 6, none⟩) (Kd.R_types HO262.out BK253.out (by decide)) (fun _ hk => hk.2) (.int .i64 (rd t260 (ji81)))) (fun _ h_ => h_.1))) (Kd.R_typed (by (with_reducible repeat (first | apply Kd.R_alloc | apply Kd.R_drewN | apply Kd.R_drew)); exact (Kd.R_mono (Kd.R_far (p := ⟨gb253, 6, none⟩) (Kd.R_mono HO_243000.out (fun k_ hk => (⟨hk, hk⟩ : _ ∧ k_ ≠ gb253))) (fun _ hk => hk.2) (.int .i64 (rd t260 (ji81)))) (fun _ h_ => h_.1)))) (by decide) hg); replace BK253 := Aside0.mk (blk_grown (g := gb253) (o := .cells #[.bool true, .int .i64 ((rd_T55 l0 x17_1).f0), .int .i64 t254, .int .i64 x254003_14, .int .i64 x254004_14, .int .i64 t251, .int .i64 (rd t260 (ji81))] 90 (0, 0)) z71_ hg (Kd.R_away HO_243000.out (fun _ hk => hk))); replace HB := Aside0.mk (hb); have HO275 := Aside0.mk (ho); clear HO_243000; clear ho hb hg hat; obtain ⟨Ao95, co95, eo95⟩ := Kd.R_slice HO275.out; subst eo95; have hcz96_0 : w94.cell? ⟨gb242, 0, none⟩ = some (u243000) := (blk_cell BK242.out 0).trans rfl; have hfz96_0 := blk_frozen BK242.out 0))
          go_roundg kj14
          case measure => have := HK1.out; have := HJ14.out; omega
          case rel => exact ⟨(wrap64 (x17_1 + 1)), (y273), (.slice Ao95 y273.length co95), z12_, H', ⟨z163_⟩, ⟨by (with_reducible repeat (first | apply Kd.R_alloc | apply Kd.R_drewN | apply Kd.R_drew)); exact Kd.R_mono (Kd.R_far (p := ⟨gb242, 0, none⟩) (Kd.R_types HO275.out BK242.out (by decide)) (fun _ hk => hk.2) (.slice Ao95 y273.length co95)) (fun _ hk => trivial)⟩, ⟨z30_⟩, ⟨z47_⟩, ⟨z3_⟩⟩
         ·rw [if_neg c80] at H
          have c80b0 : decide ((wrap64 (t263 + 1)) < (t260.length : Int)) = false := decide_eq_false c80
          clear c80
          obtain ⟨c97, H⟩ := ifs_ H
          have LMc97 := Aside0.mk c97
          clear c97
          obtain ⟨y276, hy276⟩ : ∃ y_ : List (S90), y_ = (x243000_1 ++ [(⟨true, ((rd_T55 l0 x17_1).f0), t254, x254003_14, x254004_14, t251, t252⟩ : S90)]) := ⟨_, rfl⟩
          replace H : (impl_DomFrom.l0 kj14 l0 l0 (l0.length : Int) (wrap64 (x17_1 + 1)) y276) = some r := by first | (rw [hy276]; with_reducible exact H) | (have H2_ := (Option.bind_some _ _).symm.trans H; rw [hy276]; with_reducible exact H2_) | (have H2_ := (Option.bind_some _ _).symm.trans H; with_reducible exact H2_) | with_reducible exact H | (rw [hy276]; exact H) | exact H
          have Ny276 := Aside0.mk hy276
          clear hy276
          have H' := Aside0.mk H
          clear H
          have hnb98 := NB253_241.out
          have hnc98 := NB241_253.out
          have hnb99 := NB253_242.out
          have hnc99 := NB242_253.out
          have hnb100 := NB253_245.out
          have hnc100 := NB245_253.out
          have hcz101_0 : wc.cell? ⟨gb253, 0, none⟩ = some (.bool true) := (blk_cell BK253.out 0).trans rfl
          have hcz101_1 : wc.cell? ⟨gb253, 1, none⟩ = some (.int .i64 ((rd_T55 l0 x17_1).f0)) := (blk_cell BK253.out 1).trans rfl
          have hcz101_2 : wc.cell? ⟨gb253, 2, none⟩ = some (.int .i64 t254) := (blk_cell BK253.out 2).trans rfl
          have hcz101_3 : wc.cell? ⟨gb253, 3, none⟩ = some (.int .i64 x254003_14) := (blk_cell BK253.out 3).trans rfl
          have hcz101_4 : wc.cell? ⟨gb253, 4, none⟩ = some (.int .i64 x254004_14) := (blk_cell BK253.out 4).trans rfl
          have hcz101_5 : wc.cell? ⟨gb253, 5, none⟩ = some (.int .i64 t251) := (blk_cell BK253.out 5).trans rfl
          have hcz101_6 : wc.cell? ⟨gb253, 6, none⟩ = some (.int .i64 t252) := (blk_cell BK253.out 6).trans rfl
          have hfz101_0 := blk_frozen BK253.out 0
          have hfz101_1 := blk_frozen BK253.out 1
          have hfz101_2 := blk_frozen BK253.out 2
          have hfz101_3 := blk_frozen BK253.out 3
          have hfz101_4 := blk_frozen BK253.out 4
          have hfz101_5 := blk_frozen BK253.out 5
          have hfz101_6 := blk_frozen BK253.out 6
          go_wp2_with (first | ((with_reducible refine gate_callee (f := 71) rfl ?_); refine goesL_ (some 51) rfl rfl Try.func71 (by kernel_rfl) rfl #[.slice (some ad244) l0.length c0, .int .i64 t254] rfl z1_ ?_; (with_reducible refine (impl_KidsOf.calls kj14 _ _ l0 t254 t260 _ ?side1 ?side2 A42.out).mono ?_); (case side1 => exact z4_); (case side2 => exact HC0.out); rintro e w102 ⟨v261, rfl, ho0, hb⟩; refine ⟨_, rfl, ?_⟩; replace HO_243000 := Aside0.mk (Kd.R_below z29_ hb); have HO262 := Aside0.mk (Kd.R_lower ho0 (below_size z3_)); replace BK241 := Aside0.mk (blk_below (g := gb241) (o := .cells #[.slice none 0 0] 28 (0, 0)) z14_ hb); replace BK242 := Aside0.mk (blk_below (g := gb242) (o := .cells #[u243000] 28 (0, 0)) z20_ hb); replace BK245 := Aside0.mk (blk_below (g := gb245) (o := .cells #[.int .i64 ((rd_T55 l0 x17_1).f0), .int .i64 ((rd_T55 l0 x17_1).f1)] 55 (0, 0)) z28_ hb); replace BK253 := Aside0.mk (blk_below (g := gb253) (o := .cells #[.bool true, .int .i64 ((rd_T55 l0 x17_1).f0), .int .i64 t254, .int .i64 x254003_14, .int .i64 x254004_14, .int .i64 t251, .int .i64 t252] 90 (0, 0)) z32_ hb); replace HB := Aside0.mk (below_step z3_ hb); (try clear hb ho0); obtain ⟨Ao103, co103, eo103⟩ := Kd.R_slice HO262.out; subst eo103) | ((with_reducible refine gate_callee (f := 72) rfl ?_); refine goesL_ (some 57) rfl rfl Try.func72 (by kernel_rfl) rfl #[.slice Ao103 t260.length co103, .int .i64 x17_1] rfl z1_ ?_; (with_reducible refine (slices_Index_int_int.calls kj14 _ _ t260 x17_1 t263 _ ?side1 ?side2 A44.out).mono ?_); (case side1 => exact z87_); (case side2 => exact z170_); rintro e w' ⟨rfl, ⟨nd, rfl⟩⟩; refine ⟨_, rfl, ?_⟩; (try (rw [drewN_self w102]; generalize hq_ : World.drewN w102 _ = w102; have n0_ : Aside0 (Kd.R (Kd.int .i64) 3 w102 w.heap.size (fun _ => True) (.slice Ao103 t260.length co103) t260) := ⟨z128_⟩; have n1_ : Aside0 (Kd.R k90 90 w102 w.heap.size (fun k_ => k_ ≠ gb253) u243000 x243000_1) := ⟨z104_⟩; have n2_ : Aside0 (w102.heap[gb241]? = some (.cells #[.slice none 0 0] 28 (0, 0))) := ⟨z97_⟩; have n3_ : Aside0 (w102.heap[gb242]? = some (.cells #[u243000] 28 (0, 0))) := ⟨z98_⟩; have n4_ : Aside0 (w102.heap[gb245]? = some (.cells #[.int .i64 ((rd_T55 l0 x17_1).f0), .int .i64 ((rd_T55 l0 x17_1).f1)] 55 (0, 0))) := ⟨z99_⟩; have n5_ : Aside0 (w102.heap[gb253]? = some (.cells #[.bool true, .int .i64 ((rd_T55 l0 x17_1).f0), .int .i64 t254, .int .i64 x254003_14, .int .i64 x254004_14, .int .i64 t251, .int .i64 t252] 90 (0, 0))) := ⟨z100_⟩; have n6_ : Aside0 (Below w.heap.size w w102) := ⟨z52_⟩; clear HO262 HO_243000 BK241 BK242 BK245 BK253 HB hq_; have HO262 := n0_; have HO_243000 := n1_; have BK241 := n2_; have BK242 := n3_; have BK245 := n4_; have BK253 := n5_; have HB := n6_; clear n0_ n1_ n2_ n3_ n4_ n5_ n6_)); have hnb104 := NB242_241.out; have hnc104 := NB241_242.out; have hnb105 := NB242_245.out; have hnc105 := NB245_242.out; have hcz106_0 : w102.cell? ⟨gb242, 0, none⟩ = some (u243000) := (blk_cell BK242.out 0).trans rfl; have hfz106_0 := blk_frozen BK242.out 0; have hcz107_0 : w102.cell? ⟨gb253, 0, none⟩ = some (.bool true) := (blk_cell BK253.out 0).trans rfl; have hcz107_1 : w102.cell? ⟨gb253, 1, none⟩ = some (.int .i64 ((rd_T55 l0 x17_1).f0)) := (blk_cell BK253.out 1).trans rfl; have hcz107_2 : w102.cell? ⟨gb253, 2, none⟩ = some (.int .i64 t254) := (blk_cell BK253.out 2).trans rfl; have hcz107_3 : w102.cell? ⟨gb253, 3, none⟩ = some (.int .i64 x254003_14) := (blk_cell BK253.out 3).trans rfl; have hcz107_4 : w102.cell? ⟨gb253, 4, none⟩ = some (.int .i64 x254004_14) := (blk_cell BK253.out 4).trans rfl; have hcz107_5 : w102.cell? ⟨gb253, 5, none⟩ = some (.int .i64 t251) := (blk_cell BK253.out 5).trans rfl; have hcz107_6 : w102.cell? ⟨gb253, 6, none⟩ = some (.int .i64 t252) := (blk_cell BK253.out 6).trans rfl; have hfz107_0 := blk_frozen BK253.out 0; have hfz107_1 := blk_frozen BK253.out 1; have hfz107_2 := blk_frozen BK253.out 2; have hfz107_3 := blk_frozen BK253.out 3; have hfz107_4 := blk_frozen BK253.out 4; have hfz107_5 := blk_frozen BK253.out 5; have hfz107_6 := blk_frozen BK253.out 6) | ((with_reducible refine gate_builtin (b := .append) (xs := #[.tmp 78, .tmp 80]) rfl ?_); at_builtin; refine Kd.R_append k90 (w0 := w) w.heap.size rfl (.tmp 78) (.tmp 80) 26 90 (.agg #[(.bool false), (.int .i64 0), (.int .i64 0), (.int .i64 0), (.int .i64 0), (.int .i64 0), (.int .i64 0)]) 56 rfl Try.underlying26 info90 rfl (by decide) (by omega) u243000 x243000_1 (⟨true, ((rd_T55 l0 x17_1).f0), t254, x254003_14, x254004_14, t251, t252⟩ : S90) [.bool true, .int .i64 ((rd_T55 l0 x17_1).f0), .int .i64 t254, .int .i64 x254003_14, .int .i64 x254004_14, .int .i64 t251, .int .i64 t252] (fun k_ => k_ ≠ gb253) (fun _ => False) rfl rfl ?aP (fun _ hk => hk.elim) ?aF ?aO ?aB ?aS ?aL ?_; (case aP => exact z162_); (case aB => exact z43_); (case aF => exact z90_); (case aO => exact z156_); (case aS => exact z40_); (case aL => have := LMc97.out; omega); intro v277 w108 ho hb hg hat; rw [← Ny276.out] at ho; replace BK241 := Aside0.mk (blk_grown (g := gb241) (o := .cells #[.slice none 0 0] 28 (0, 0)) z14_ hg (Kd.R_ne HO_243000.out BK241.out (by decide))); replace BK242 := Aside0.mk (blk_grown (g := gb242) (o := .cells #[u243000] 28 (0, 0)) z20_ hg (Kd.R_ne HO_243000.out BK242.out (by decide))); replace BK245 := Aside0.mk (blk_grown (g := gb245) (o := .cells #[.int .i64 ((rd_T55 l0 x17_1).f0), .int .i64 ((rd_T55 l0 x17_1).f1)] 55 (0, 0)) z28_ hg (Kd.R_ne HO_243000.out BK245.out (by decide))); replace BK253 := Aside0.mk (blk_grown (g := gb253) (o := .cells #[.bool true, .int .i64 ((rd_T55 l0 x17_1).f0), .int .i64 t254, .int .i64 x254003_14, .int .i64 x254004_14, .int .i64 t251, .int .i64 t252] 90 (0, 0)) z32_ hg (Kd.R_away HO_243000.out (fun _ hk => hk))); replace HO262 := Aside0.mk (Kd.R_over' z92_ (Kd.R_typed z29_) (by decide) hg); replace HB := Aside0.mk (hb); have HO278 := Aside0.mk (ho); clear HO_243000; clear ho hb hg hat; obtain ⟨Ao109, co109, eo109⟩ := Kd.R_slice HO278.out; subst eo109; have hcz110_0 : w108.cell? ⟨gb242, 0, none⟩ = some (u243000) := (blk_cell BK242.out 0).trans rfl; have hfz110_0 := blk_frozen BK242.out 0))
          go_roundg kj14
          case measure => have := HK1.out; have := HJ14.out; omega
          case rel => exact ⟨(wrap64 (x17_1 + 1)), (y276), (.slice Ao109 y276.length co109), z12_, H', ⟨z163_⟩, ⟨by (with_reducible repeat (first | apply Kd.R_alloc | apply Kd.R_drewN | apply Kd.R_drew)); exact Kd.R_mono (Kd.R_far (p := ⟨gb242, 0, none⟩) (Kd.R_types HO278.out BK242.out (by decide)) (fun _ hk => hk.2) (.slice Ao109 y276.length co109)) (fun _ hk => trivial)⟩, ⟨z30_⟩, ⟨z47_⟩, ⟨z3_⟩⟩
       ·rw [if_neg c43] at H
        have c43b0 : decide (0 < (t260.length : Int)) = false := decide_eq_false c43
        have c43b1 : decide (0 < t260.length) = false := decide_eq_false (by omega)
        clear c43
        obtain ⟨c111, H⟩ := ifs_ H
        have LMc111 := Aside0.mk c111
        clear c111
        obtain ⟨y279, hy279⟩ : ∃ y_ : List (S90), y_ = (x243000_1 ++ [(⟨true, ((rd_T55 l0 x17_1).f0), t254, x254003_14, x254004_14, t251, t252⟩ : S90)]) := ⟨_, rfl⟩
        replace H : (impl_DomFrom.l0 kj14 l0 l0 (l0.length : Int) (wrap64 (x17_1 + 1)) y279) = some r := by first | (rw [hy279]; with_reducible exact H) | (have H2_ := (Option.bind_some _ _).symm.trans H; rw [hy279]; with_reducible exact H2_) | (have H2_ := (Option.bind_some _ _).symm.trans H; with_reducible exact H2_) | with_reducible exact H | (rw [hy279]; exact H) | exact H
        have Ny279 := Aside0.mk hy279
        clear hy279
        have H' := Aside0.mk H
        clear H
        have hnb112 := NB253_241.out
        have hnc112 := NB241_253.out
        have hnb113 := NB253_242.out
        have hnc113 := NB242_253.out
        have hnb114 := NB253_245.out
        have hnc114 := NB245_253.out
        have hcz115_0 : wc.cell? ⟨gb253, 0, none⟩ = some (.bool true) := (blk_cell BK253.out 0).trans rfl
        have hcz115_1 : wc.cell? ⟨gb253, 1, none⟩ = some (.int .i64 ((rd_T55 l0 x17_1).f0)) := (blk_cell BK253.out 1).trans rfl
        have hcz115_2 : wc.cell? ⟨gb253, 2, none⟩ = some (.int .i64 t254) := (blk_cell BK253.out 2).trans rfl
        have hcz115_3 : wc.cell? ⟨gb253, 3, none⟩ = some (.int .i64 x254003_14) := (blk_cell BK253.out 3).trans rfl
        have hcz115_4 : wc.cell? ⟨gb253, 4, none⟩ = some (.int .i64 x254004_14) := (blk_cell BK253.out 4).trans rfl
        have hcz115_5 : wc.cell? ⟨gb253, 5, none⟩ = some (.int .i64 t251) := (blk_cell BK253.out 5).trans rfl
        have hcz115_6 : wc.cell? ⟨gb253, 6, none⟩ = some (.int .i64 t252) := (blk_cell BK253.out 6).trans rfl
        have hfz115_0 := blk_frozen BK253.out 0
        have hfz115_1 := blk_frozen BK253.out 1
        have hfz115_2 := blk_frozen BK253.out 2
        have hfz115_3 := blk_frozen BK253.out 3
        have hfz115_4 := blk_frozen BK253.out 4
        have hfz115_5 := blk_frozen BK253.out 5
        have hfz115_6 := blk_frozen BK253.out 6
        go_wp2_with (first | ((with_reducible refine gate_callee (f := 71) rfl ?_); refine goesL_ (some 51) rfl rfl Try.func71 (by kernel_rfl) rfl #[.slice (some ad244) l0.length c0, .int .i64 t254] rfl z1_ ?_; (with_reducible refine (impl_KidsOf.calls kj14 _ _ l0 t254 t260 _ ?side1 ?side2 A42.out).mono ?_); (case side1 => exact z4_); (case side2 => exact HC0.out); rintro e w116 ⟨v261, rfl, ho0, hb⟩; refine ⟨_, rfl, ?_⟩; replace HO_243000 := Aside0.mk (Kd.R_below z29_ hb); have HO262 := Aside0.mk (Kd.R_lower ho0 (below_size z3_)); replace BK241 := Aside0.mk (blk_below (g := gb241) (o := .cells #[.slice none 0 0] 28 (0, 0)) z14_ hb); replace BK242 := Aside0.mk (blk_below (g := gb242) (o := .cells #[u243000] 28 (0, 0)) z20_ hb); replace BK245 := Aside0.mk (blk_below (g := gb245) (o := .cells #[.int .i64 ((rd_T55 l0 x17_1).f0), .int .i64 ((rd_T55 l0 x17_1).f1)] 55 (0, 0)) z28_ hb); replace BK253 := Aside0.mk (blk_below (g := gb253) (o := .cells #[.bool true, .int .i64 ((rd_T55 l0 x17_1).f0), .int .i64 t254, .int .i64 x254003_14, .int .i64 x254004_14, .int .i64 t251, .int .i64 t252] 90 (0, 0)) z32_ hb); replace HB := Aside0.mk (below_step z3_ hb); (try clear hb ho0); obtain ⟨Ao117, co117, eo117⟩ := Kd.R_slice HO262.out; subst eo117; have hnb118 := NB242_241.out; have hnc118 := NB241_242.out; have hnb119 := NB242_245.out; have hnc119 := NB245_242.out; have hcz120_0 : w116.cell? ⟨gb242, 0, none⟩ = some (u243000) := (blk_cell BK242.out 0).trans rfl; have hfz120_0 := blk_frozen BK242.out 0; have hcz121_0 : w116.cell? ⟨gb253, 0, none⟩ = some (.bool true) := (blk_cell BK253.out 0).trans rfl; have hcz121_1 : w116.cell? ⟨gb253, 1, none⟩ = some (.int .i64 ((rd_T55 l0 x17_1).f0)) := (blk_cell BK253.out 1).trans rfl; have hcz121_2 : w116.cell? ⟨gb253, 2, none⟩ = some (.int .i64 t254) := (blk_cell BK253.out 2).trans rfl; have hcz121_3 : w116.cell? ⟨gb253, 3, none⟩ = some (.int .i64 x254003_14) := (blk_cell BK253.out 3).trans rfl; have hcz121_4 : w116.cell? ⟨gb253, 4, none⟩ = some (.int .i64 x254004_14) := (blk_cell BK253.out 4).trans rfl; have hcz121_5 : w116.cell? ⟨gb253, 5, none⟩ = some (.int .i64 t251) := (blk_cell BK253.out 5).trans rfl; have hcz121_6 : w116.cell? ⟨gb253, 6, none⟩ = some (.int .i64 t252) := (blk_cell BK253.out 6).trans rfl; have hfz121_0 := blk_frozen BK253.out 0; have hfz121_1 := blk_frozen BK253.out 1; have hfz121_2 := blk_frozen BK253.out 2; have hfz121_3 := blk_frozen BK253.out 3; have hfz121_4 := blk_frozen BK253.out 4; have hfz121_5 := blk_frozen BK253.out 5; have hfz121_6 := blk_frozen BK253.out 6) | ((with_reducible refine gate_builtin (b := .append) (xs := #[.tmp 78, .tmp 80]) rfl ?_); at_builtin; refine Kd.R_append k90 (w0 := w) w.heap.size rfl (.tmp 78) (.tmp 80) 26 90 (.agg #[(.bool false), (.int .i64 0), (.int .i64 0), (.int .i64 0), (.int .i64 0), (.int .i64 0), (.int .i64 0)]) 56 rfl Try.underlying26 info90 rfl (by decide) (by omega) u243000 x243000_1 (⟨true, ((rd_T55 l0 x17_1).f0), t254, x254003_14, x254004_14, t251, t252⟩ : S90) [.bool true, .int .i64 ((rd_T55 l0 x17_1).f0), .int .i64 t254, .int .i64 x254003_14, .int .i64 x254004_14, .int .i64 t251, .int .i64 t252] (fun k_ => k_ ≠ gb253) (fun _ => False) rfl rfl ?aP (fun _ hk => hk.elim) ?aF ?aO ?aB ?aS ?aL ?_; (case aP => exact z162_); (case aB => exact z43_); (case aF => exact z90_); (case aO => exact z156_); (case aS => exact z40_); (case aL => have := LMc111.out; omega); intro v280 w122 ho hb hg hat; rw [← Ny279.out] at ho; replace BK241 := Aside0.mk (blk_grown (g := gb241) (o := .cells #[.slice none 0 0] 28 (0, 0)) z14_ hg (Kd.R_ne HO_243000.out BK241.out (by decide))); replace BK242 := Aside0.mk (blk_grown (g := gb242) (o := .cells #[u243000] 28 (0, 0)) z20_ hg (Kd.R_ne HO_243000.out BK242.out (by decide))); replace BK245 := Aside0.mk (blk_grown (g := gb245) (o := .cells #[.int .i64 ((rd_T55 l0 x17_1).f0), .int .i64 ((rd_T55 l0 x17_1).f1)] 55 (0, 0)) z28_ hg (Kd.R_ne HO_243000.out BK245.out (by decide))); replace BK253 := Aside0.mk (blk_grown (g := gb253) (o := .cells #[.bool true, .int .i64 ((rd_T55 l0 x17_1).f0), .int .i64 t254, .int .i64 x254003_14, .int .i64 x254004_14, .int .i64 t251, .int .i64 t252] 90 (0, 0)) z32_ hg (Kd.R_away HO_243000.out (fun _ hk => hk))); replace HO262 := Aside0.mk (Kd.R_over' z92_ (Kd.R_typed z29_) (by decide) hg); replace HB := Aside0.mk (hb); have HO281 := Aside0.mk (ho); clear HO_243000; clear ho hb hg hat; obtain ⟨Ao123, co123, eo123⟩ := Kd.R_slice HO281.out; subst eo123; have hcz124_0 : w122.cell? ⟨gb242, 0, none⟩ = some (u243000) := (blk_cell BK242.out 0).trans rfl; have hfz124_0 := blk_frozen BK242.out 0))
        go_roundg kj14
        case measure => have := HK1.out; have := HJ14.out; omega
        case rel => exact ⟨(wrap64 (x17_1 + 1)), (y279), (.slice Ao123 y279.length co123), z12_, H', ⟨z163_⟩, ⟨by (with_reducible repeat (first | apply Kd.R_alloc | apply Kd.R_drewN | apply Kd.R_drew)); exact Kd.R_mono (Kd.R_far (p := ⟨gb242, 0, none⟩) (Kd.R_types HO281.out BK242.out (by decide)) (fun _ hk => hk.2) (.slice Ao123 y279.length co123)) (fun _ hk => trivial)⟩, ⟨z30_⟩, ⟨z47_⟩, ⟨z3_⟩⟩
    ·rw [if_neg c9] at H
     have c9b0 : decide (x17_1 < (l0.length : Int)) = false := decide_eq_false c9
     clear c9
     obtain rfl := Option.some.inj H
     have hnb125 := NB242_241.out
     have hnc125 := NB241_242.out
     have hcz126_0 : wr.cell? ⟨gb242, 0, none⟩ = some (u243000) := (blk_cell BK242.out 0).trans rfl
     have hfz126_0 := blk_frozen BK242.out 0
     obtain ⟨Ao127, co127, eo127⟩ := Kd.R_slice HO_243000.out
     subst eo127
     have hcz128_0 : wr.cell? ⟨gb241, 0, none⟩ = some (.slice none 0 0) := (blk_cell BK241.out 0).trans rfl
     have hfz128_0 := blk_frozen BK241.out 0
     go_wp2
     refine bodyPost_ret (results_cell_row rfl _ _ gb241 28 #[.slice Ao127 x243000_1.length co127] (0, 0) _ rfl z103_ Try.underlying28 rfl (by kernel_rfl)) rfl ?_
     exact ⟨_, z6_, by (with_reducible repeat (first | apply Kd.R_alloc | apply Kd.R_drewN | apply Kd.R_drew)); exact Kd.R_mono (Kd.R_far (p := ⟨gb241, 0, none⟩) (Kd.R_types HO_243000.out BK241.out (by decide)) (fun _ hk => hk.2) (.slice Ao127 x243000_1.length co127)) (fun _ hk => trivial), z27_⟩
 ·replace c3 := Bool.eq_false_iff.mpr c3
  subst c3
  replace H := iff_ H
  obtain rfl := Option.some.inj H
  go_enter Try.func19, Try.ntmps19
  go_wp2_with (first | ((with_reducible refine gate_dst (N := 2) rfl ?_); refine box_event ?hg (N := 2) ?hd (cs := #[.slice none 0 0]) (t := 28) ?hr ?_; (case hd => rfl); (case hg => rfl); (case hr => exact z13_); intro gb241 hg w129 hbox hb; have BK241 := Aside0.mk (hbox); have GW241 := Aside0.mk ((by rw [hg]; exact (below_size z0_) : w.heap.size ≤ gb241)); have GE241 := Aside0.mk ((by rw [hg]; exact (below_size z0_) : w.heap.size ≤ gb241)); replace HB := Aside0.mk (below_step z0_ hb); clear hb hbox hg) | ((with_reducible refine gate_dst (N := 3) rfl ?_); refine box_event ?hg (N := 3) ?hd (cs := #[.slice none 0 0]) (t := 28) ?hr ?_; (case hd => rfl); (case hg => rfl); (case hr => exact z13_); intro gb242 hg w130 hbox hb; have BK242 := Aside0.mk (hbox); have GW242 := Aside0.mk ((by rw [hg]; exact (below_size z61_) : w.heap.size ≤ gb242)); have GE242 := Aside0.mk ((by rw [hg]; exact (below_size z61_) : w.heap.size ≤ gb242)); replace HB := Aside0.mk (below_step z61_ hb); have NB241_242 := Aside0.mk ((by rw [hg]; exact Nat.ne_of_lt (blk_lt (g := gb241) (o := .cells #[.slice none 0 0] 28 (0, 0)) z14_) : gb241 ≠ gb242)); have NB242_241 := Aside0.mk ((by rw [hg]; exact Nat.ne_of_gt (blk_lt (g := gb241) (o := .cells #[.slice none 0 0] 28 (0, 0)) z14_) : gb242 ≠ gb241)); replace BK241 := Aside0.mk (blk_below (g := gb241) (o := .cells #[.slice none 0 0] 28 (0, 0)) z14_ hb); clear hb hbox hg; have hnb131 := NB242_241.out; have hnc131 := NB241_242.out; have hcz132_0 : w130.cell? ⟨gb242, 0, none⟩ = some (.slice none 0 0) := (blk_cell BK242.out 0).trans rfl; have hfz132_0 := blk_frozen BK242.out 0) | ((with_reducible refine gate_callee (f := 68) rfl ?_); refine goesL_ (some 12) rfl rfl Try.func68 (by kernel_rfl) rfl #[.slice A0 l0.length c0] rfl z1_ ?_; (with_reducible refine (impl_TreeOk.calls k _ _ l0 false _ ?side1 ?side2 A2.out).mono ?_); (case side1 => exact z131_); (case side2 => exact HC0.out); rintro e w133 ⟨rfl, hb⟩; refine ⟨_, rfl, ?_⟩; replace BK241 := Aside0.mk (blk_below (g := gb241) (o := .cells #[.slice none 0 0] 28 (0, 0)) z30_ hb); replace BK242 := Aside0.mk (blk_below (g := gb242) (o := .cells #[.slice none 0 0] 28 (0, 0)) z102_ hb); replace HB := Aside0.mk (below_step z27_ hb); (try clear hb); have hcz134_0 : w133.cell? ⟨gb242, 0, none⟩ = some (.slice none 0 0) := (blk_cell BK242.out 0).trans rfl; have hfz134_0 := blk_frozen BK242.out 0; have hcz135_0 : w133.cell? ⟨gb241, 0, none⟩ = some (.slice none 0 0) := (blk_cell BK241.out 0).trans rfl; have hfz135_0 := blk_frozen BK241.out 0))
  refine bodyPost_ret (results_cell_row rfl _ _ gb241 28 #[.slice none 0 0] (0, 0) _ rfl z103_ Try.underlying28 rfl (by kernel_rfl)) rfl ?_
  exact ⟨_, z6_, z132_, z27_⟩

end Go.Proofs.Ytmbhlfcpdbbogab.PFnExactDomFrom
