/- Laid by a program of this session out of the kit's print for the law FnExactDomFrom: what it says of the machine is proved here, function by function; each contract under the conditions that it names. -/
import Derived.Test.YtmbhlfcpdbbogabMFnExactDomFromx0
import Derived.Test.YtmbhlfcpdbbogabMFnExactDomFromx3
import Derived.Test.YtmbhlfcpdbbogabMFnExactDomFromx4
namespace Go.Proofs.Ytmbhlfcpdbbogab.PFnExactDomFrom
open Go.RowKit Go.Proofs.YtmbhlfcpdbbogabW.PrintWords Go.Proofs.YtmbhlfcpdbbogabW.PrintLast Go.Proofs.YtmbhlfcpdbbogabW.PrintMore
attribute [local go_sem] max2_int min2_int max_two min_two max_three min_three max_four min_four   -- for this text's walks alone
set_option linter.unusedVariables false
set_option linter.unusedSimpArgs false

/-! ### spec_DomFrom: function 17 -/
mutual
def spec_DomFrom.l0 : Nat → List (S55) → Int → List (S90) → Option ((List (S90)))
 | 0, _, _, _ => none
 | k + 1, x0, x4, x163000 => if x4 < (x0.length : Int) then ((spec_TreeOk.f k x0).bind fun t163 => (spec_DomFrom.j1 k x0 x4 t163 x163000)) else (spec_DomFrom.j1 k x0 x4 false x163000)
def spec_DomFrom.j1 : Nat → List (S55) → Int → Bool → List (S90) → Option ((List (S90)))
 | 0, _, _, _, _ => none
 | k + 1, x0, x4, x17, x163000 => if x17 = true then ((spec_l16Empty.f).bind fun bt164 => (if 0 ≤ x4 then (if x4 < (x0.length : Int) then ((spec_ParentOf.f k x0 x4).bind fun t173 => ((spec_KidsOf.f k x0 x4).bind fun t174 => (if (t174.length : Int) > 0 then (if 0 < (t174.length : Int) then (if 0 ≤ (wrap64 ((t174.length : Int) - 1)) then (if (wrap64 ((t174.length : Int) - 1)) < (t174.length : Int) then (spec_DomFrom.j2 k x0 x4 x163000 true ((rd_T55 x0 x4).f0) t173 (rd t174 0) (rd t174 (wrap64 ((t174.length : Int) - 1))) bt164.2.2.2.2.2.1 bt164.2.2.2.2.2.2) else (none)) else (none)) else (none)) else (spec_DomFrom.j2 k x0 x4 x163000 true ((rd_T55 x0 x4).f0) t173 bt164.2.2.2.1 bt164.2.2.2.2.1 bt164.2.2.2.2.2.1 bt164.2.2.2.2.2.2)))) else (none)) else (none))) else (some x163000)
def spec_DomFrom.j2 : Nat → List (S55) → Int → List (S90) → Bool → Int → Int → Int → Int → Int → Int → Option ((List (S90)))
 | 0, _, _, _, _, _, _, _, _, _, _ => none
 | k + 1, x0, x4, x163000, x172000, x172001, x172002, x172003, x172004, x172005, x172006 => if x172002 ≥ 0 then ((spec_KidsOf.f k x0 x172002).bind fun t179 => ((spec_KidRank.f k x0 x4).bind fun t182 => (if t182 > 0 then (if 0 ≤ (wrap64 (t182 - 1)) then (if (wrap64 (t182 - 1)) < (t179.length : Int) then (if (wrap64 (t182 + 1)) < (t179.length : Int) then (if 0 ≤ (wrap64 (t182 + 1)) then (if x163000.length < 2513169434916 then (spec_DomFrom.l0 k x0 (wrap64 (x4 + 1)) (x163000 ++ [(⟨x172000, x172001, x172002, x172003, x172004, rd t179 (wrap64 (t182 - 1)), rd t179 (wrap64 (t182 + 1))⟩ : S90)])) else (none)) else (none)) else (if x163000.length < 2513169434916 then (spec_DomFrom.l0 k x0 (wrap64 (x4 + 1)) (x163000 ++ [(⟨x172000, x172001, x172002, x172003, x172004, rd t179 (wrap64 (t182 - 1)), x172006⟩ : S90)])) else (none))) else (none)) else (none)) else (if (wrap64 (t182 + 1)) < (t179.length : Int) then (if 0 ≤ (wrap64 (t182 + 1)) then (if x163000.length < 2513169434916 then (spec_DomFrom.l0 k x0 (wrap64 (x4 + 1)) (x163000 ++ [(⟨x172000, x172001, x172002, x172003, x172004, x172005, rd t179 (wrap64 (t182 + 1))⟩ : S90)])) else (none)) else (none)) else (if x163000.length < 2513169434916 then (spec_DomFrom.l0 k x0 (wrap64 (x4 + 1)) (x163000 ++ [(⟨x172000, x172001, x172002, x172003, x172004, x172005, x172006⟩ : S90)])) else (none)))))) else (if x163000.length < 2513169434916 then (spec_DomFrom.l0 k x0 (wrap64 (x4 + 1)) (x163000 ++ [(⟨x172000, x172001, x172002, x172003, x172004, x172005, x172006⟩ : S90)])) else (none))
end
def spec_DomFrom.f (k : Nat) (l0 : List (S55)) : Option ((List (S90))) := spec_DomFrom.l0 k l0 0 ([] : List (S90))
theorem spec_DomFrom.mono_l : ∀ k, (∀ y0 y1 y2, LeO (spec_DomFrom.l0 k y0 y1 y2) (spec_DomFrom.l0 (k + 1) y0 y1 y2)) ∧ (∀ y0 y1 y2 y3, LeO (spec_DomFrom.j1 k y0 y1 y2 y3) (spec_DomFrom.j1 (k + 1) y0 y1 y2 y3)) ∧ (∀ y0 y1 y2 y3 y4 y5 y6 y7 y8 y9, LeO (spec_DomFrom.j2 k y0 y1 y2 y3 y4 y5 y6 y7 y8 y9) (spec_DomFrom.j2 (k + 1) y0 y1 y2 y3 y4 y5 y6 y7 y8 y9))
 | 0 => ⟨fun _ _ _ r h => by simp [spec_DomFrom.l0] at h, fun _ _ _ _ r h => by simp [spec_DomFrom.j1] at h, fun _ _ _ _ _ _ _ _ _ _ r h => by simp [spec_DomFrom.j2] at h⟩
 | k + 1 => by
  obtain ⟨ih0, ih1, ih2⟩ := spec_DomFrom.mono_l k
  refine ⟨?_, ?_, ?_⟩
  ·intro y0 y1 y2
   unfold spec_DomFrom.l0
   repeat' first | (with_reducible first | exact ih0 _ _ _ | exact ih1 _ _ _ _ | exact ih2 _ _ _ _ _ _ _ _ _ _ | exact spec_KidRank.mono _ _ _ | exact spec_KidsOf.mono _ _ _ | exact spec_ParentOf.mono _ _ _ | exact spec_TreeOk.mono _ _ | exact LeO.refl _ | exact LeO.none _ | refine LeO.ite ?_ ?_ | refine LeO.bind ?_ (fun _ => ?_)) | exact ih0 _ _ _ | exact ih1 _ _ _ _ | exact ih2 _ _ _ _ _ _ _ _ _ _ | exact spec_KidRank.mono _ _ _ | exact spec_KidsOf.mono _ _ _ | exact spec_ParentOf.mono _ _ _ | exact spec_TreeOk.mono _ _ | exact LeO.none _ | refine LeO.ite ?_ ?_ | refine LeO.bind ?_ (fun _ => ?_)
  ·intro y0 y1 y2 y3
   unfold spec_DomFrom.j1
   repeat' first | (with_reducible first | exact ih0 _ _ _ | exact ih1 _ _ _ _ | exact ih2 _ _ _ _ _ _ _ _ _ _ | exact spec_KidRank.mono _ _ _ | exact spec_KidsOf.mono _ _ _ | exact spec_ParentOf.mono _ _ _ | exact spec_TreeOk.mono _ _ | exact LeO.refl _ | exact LeO.none _ | refine LeO.ite ?_ ?_ | refine LeO.bind ?_ (fun _ => ?_)) | exact ih0 _ _ _ | exact ih1 _ _ _ _ | exact ih2 _ _ _ _ _ _ _ _ _ _ | exact spec_KidRank.mono _ _ _ | exact spec_KidsOf.mono _ _ _ | exact spec_ParentOf.mono _ _ _ | exact spec_TreeOk.mono _ _ | exact LeO.none _ | refine LeO.ite ?_ ?_ | refine LeO.bind ?_ (fun _ => ?_)
  ·intro y0 y1 y2 y3 y4 y5 y6 y7 y8 y9
   unfold spec_DomFrom.j2
   repeat' first | (with_reducible first | exact ih0 _ _ _ | exact ih1 _ _ _ _ | exact ih2 _ _ _ _ _ _ _ _ _ _ | exact spec_KidRank.mono _ _ _ | exact spec_KidsOf.mono _ _ _ | exact spec_ParentOf.mono _ _ _ | exact spec_TreeOk.mono _ _ | exact LeO.refl _ | exact LeO.none _ | refine LeO.ite ?_ ?_ | refine LeO.bind ?_ (fun _ => ?_)) | exact ih0 _ _ _ | exact ih1 _ _ _ _ | exact ih2 _ _ _ _ _ _ _ _ _ _ | exact spec_KidRank.mono _ _ _ | exact spec_KidsOf.mono _ _ _ | exact spec_ParentOf.mono _ _ _ | exact spec_TreeOk.mono _ _ | exact LeO.none _ | refine LeO.ite ?_ ?_ | refine LeO.bind ?_ (fun _ => ?_)
theorem spec_DomFrom.mono : ∀ a0 k, LeO (spec_DomFrom.f k a0) (spec_DomFrom.f (k + 1) a0) := by
 intro a0 k
 obtain ⟨ih0, ih1, ih2⟩ := spec_DomFrom.mono_l k
 unfold spec_DomFrom.f
 repeat' first | (with_reducible first | exact ih0 _ _ _ | exact ih1 _ _ _ _ | exact ih2 _ _ _ _ _ _ _ _ _ _ | exact spec_KidRank.mono _ _ _ | exact spec_KidsOf.mono _ _ _ | exact spec_ParentOf.mono _ _ _ | exact spec_TreeOk.mono _ _ | exact LeO.refl _ | exact LeO.none _ | refine LeO.ite ?_ ?_ | refine LeO.bind ?_ (fun _ => ?_)) | exact ih0 _ _ _ | exact ih1 _ _ _ _ | exact ih2 _ _ _ _ _ _ _ _ _ _ | exact spec_KidRank.mono _ _ _ | exact spec_KidsOf.mono _ _ _ | exact spec_ParentOf.mono _ _ _ | exact spec_TreeOk.mono _ _ | exact LeO.none _ | refine LeO.ite ?_ ?_ | refine LeO.bind ?_ (fun _ => ?_)
set_option maxHeartbeats 60000000 in
set_option maxRecDepth 100000 in
theorem spec_DomFrom.calls (k : Nat) (A0 : Option Addr) (c0 : Nat) (l0 : List (S55)) (r : List (S90)) (w : World) (hr0 : Kd.C k55 w A0 l0.length l0) (hc0 : l0.length ≤ c0) (h : spec_DomFrom.f k l0 = some r) :
  Calls Try.prog 17 #[.slice A0 l0.length c0] w fun e w' => ∃ v0_ : Value, e = .returned (.agg #[v0_]) ∧ Kd.R k90 90 w' w.heap.size (fun _ => True) v0_ r ∧ Below w.heap.size w w' := by
 have hu28 := Try.underlying28
 have hu90 := Try.underlying90
 have HR0 := Aside0.mk hr0
 have HC0 := Aside0.mk hc0
 clear hr0 hc0
 have HB := Aside0.mk (Below.refl w.heap.size w)
 have H : (spec_DomFrom.l0 k l0 0 ([] : List (S90))) = some r := h
 clear h
 have H' := Aside0.mk H
 clear H
 go_enter Try.func17, Try.ntmps17
 go_wp2_with (first | ((with_reducible refine gate_dst (N := 2) rfl ?_); refine box_event ?hg (N := 2) ?hd (cs := #[.slice none 0 0]) (t := 28) ?hr ?_; (case hd => rfl); (case hg => rfl); (case hr => exact z13_); intro gb161 hg w2 hbox hb; have BK161 := Aside0.mk (hbox); have GW161 := Aside0.mk ((by rw [hg]; exact (below_size z0_) : w.heap.size ≤ gb161)); have GE161 := Aside0.mk ((by rw [hg]; exact (below_size z0_) : w.heap.size ≤ gb161)); replace HB := Aside0.mk (below_step z0_ hb); clear hb hbox hg) | ((with_reducible refine gate_dst (N := 3) rfl ?_); refine box_event ?hg (N := 3) ?hd (cs := #[.slice none 0 0]) (t := 28) ?hr ?_; (case hd => rfl); (case hg => rfl); (case hr => exact z13_); intro gb162 hg w3 hbox hb; have BK162 := Aside0.mk (hbox); have GW162 := Aside0.mk ((by rw [hg]; exact (below_size z129_) : w.heap.size ≤ gb162)); have GE162 := Aside0.mk ((by rw [hg]; exact (below_size z129_) : w.heap.size ≤ gb162)); replace HB := Aside0.mk (below_step z129_ hb); have NB161_162 := Aside0.mk ((by rw [hg]; exact Nat.ne_of_lt (blk_lt (g := gb161) (o := .cells #[.slice none 0 0] 28 (0, 0)) z19_) : gb161 ≠ gb162)); have NB162_161 := Aside0.mk ((by rw [hg]; exact Nat.ne_of_gt (blk_lt (g := gb161) (o := .cells #[.slice none 0 0] 28 (0, 0)) z19_) : gb162 ≠ gb161)); replace BK161 := Aside0.mk (blk_below (g := gb161) (o := .cells #[.slice none 0 0] 28 (0, 0)) z19_ hb); clear hb hbox hg; have hnb4 := NB162_161.out; have hnc4 := NB161_162.out; have hcz5_0 : w3.cell? ⟨gb162, 0, none⟩ = some (.slice none 0 0) := (blk_cell BK162.out 0).trans rfl; have hfz5_0 := blk_frozen BK162.out 0))
 go_loopg [4] k (fun kq v4 w' => ∃ (x4_1 : Int) (x163000_1 : List (S90)) (u163000 : Value), v4 = .int .i64 x4_1 ∧ Aside0 (spec_DomFrom.l0 kq l0 x4_1 x163000_1 = some r) ∧ Aside0 (kq ≤ k) ∧ Aside0 (Kd.R k90 90 w' w.heap.size (fun _ => True) u163000 x163000_1) ∧ Aside0 (w'.heap[gb161]? = some (.cells #[(.slice none 0 0)] 28 (0, 0))) ∧ Aside0 (w'.heap[gb162]? = some (.cells #[u163000] 28 (0, 0))) ∧ Aside0 (Below w.heap.size w w'))
 case atStart => exact ⟨(0), (([] : List (S90))), (.slice none 0 0), z12_, H', ⟨Nat.le_refl _⟩, ⟨z132_⟩, ⟨z37_⟩, ⟨by (with_reducible repeat (first | refine blk_drewN ?_ _ | refine blk_drew ?_ | refine blk_alloc ?_ _)); refine blk_put (cs := #[.slice none 0 0]) ?_ 0 _ rfl; (with_reducible repeat (first | refine blk_drewN ?_ _ | refine blk_drew ?_ | refine blk_alloc ?_ _)); exact BK162.out⟩, ⟨z31_⟩⟩
 case round =>
  clear H'
  try clear c1
  try clear p2
  try clear c4
  try clear hcz5_0
  try clear hfz5_0
  obtain ⟨x4_1, x163000_1, u163000, rfl, HA, HK1, HO_163000, BK161, BK162, HB⟩ := hrel
  cases gk with
  | zero => exact absurd HA.out (by simp [spec_DomFrom.l0])
  | succ k1 =>
   have H := HA.out
   clear HA
   simp only [spec_DomFrom.l0] at H
   have HC6 := Aside0.mk H
   clear H
   go_upto_region 3 with (fail)
   go_cut [17] (fun v17 wc => ∃ (kq : Nat) (x17_5 : Bool), v17 = .bool x17_5 ∧ Aside0 (spec_DomFrom.j1 kq l0 x4_1 x17_5 x163000_1 = some r) ∧ Aside0 (kq ≤ k1) ∧ Aside0 (Kd.R k90 90 wc w.heap.size (fun _ => True) u163000 x163000_1) ∧ Aside0 (wc.heap[gb161]? = some (.cells #[(.slice none 0 0)] 28 (0, 0))) ∧ Aside0 (wc.heap[gb162]? = some (.cells #[u163000] 28 (0, 0))) ∧ Aside0 (Below w.heap.size w wc))
   case first =>
    have H := HC6.out
    clear HC6
    by_cases c7 : x4_1 < (l0.length : Int)
    ·rw [if_pos c7] at H
     have c7b0 : decide (x4_1 < (l0.length : Int)) = true := decide_eq_true c7
     clear c7
     (first | rw [c7b0] | rw [c7b1] | (simp only [i64_w, i32_w]; rw [c7b0]) | skip)
     obtain ⟨t163, A8, H⟩ := bnd_ H
     have H' := Aside0.mk H
     clear H
     go_wp2_with (first | (go_at_call 29; (with_reducible refine (spec_TreeOk.calls k1 _ _ l0 t163 _ ?side1 ?side2 A8.out).mono ?_); (case side1 => exact z4_); (case side2 => exact HC0.out); rintro e w9 ⟨rfl, hb⟩; replace HO_163000 := Aside0.mk (Kd.R_below z33_ hb); replace BK161 := Aside0.mk (blk_below (g := gb161) (o := .cells #[.slice none 0 0] 28 (0, 0)) z19_ hb); replace BK162 := Aside0.mk (blk_below (g := gb162) (o := .cells #[u163000] 28 (0, 0)) z22_ hb); replace HB := Aside0.mk (below_step z31_ hb); (try clear hb)))
     go_meet
     case rel => exact ⟨_, (t163), z12_, H', ⟨z144_⟩, ⟨z33_⟩, ⟨z19_⟩, ⟨z22_⟩, ⟨z31_⟩⟩
    ·rw [if_neg c7] at H
     have c7b0 : decide (x4_1 < (l0.length : Int)) = false := decide_eq_false c7
     clear c7
     (first | rw [c7b0] | rw [c7b1] | (simp only [i64_w, i32_w]; rw [c7b0]) | skip)
     have H' := Aside0.mk H
     clear H
     go_wp2
     go_meet
     case rel => exact ⟨_, (false), z12_, H', ⟨z144_⟩, ⟨z33_⟩, ⟨z19_⟩, ⟨z22_⟩, ⟨z31_⟩⟩
   case rest =>
    clear HC6
    try clear c1
    try clear p2
    try clear c4
    try clear c7
    try clear c7b0
    try clear hcz5_0
    try clear hfz5_0
    try clear p2
    obtain ⟨kq, x17_5, rfl, HA, HJ5, HO_163000, BK161, BK162, HB⟩ := hcut
    cases kq with
    | zero => exact absurd HA.out (by simp [spec_DomFrom.j1])
    | succ kj5 =>
     have H := HA.out
     clear HA
     simp only [spec_DomFrom.j1] at H
     by_cases c10 : x17_5 = true
     ·subst c10
      replace H := ift_ H
      replace H := Option.bind_eq_some_iff.mp H
      obtain ⟨⟨t164, t165, t166, t167, t168, t169, t170⟩, A110, H⟩ := H
      replace H : (if 0 ≤ x4_1 then (if x4_1 < (l0.length : Int) then ((spec_ParentOf.f kj5 l0 x4_1).bind fun t173 => ((spec_KidsOf.f kj5 l0 x4_1).bind fun t174 => (if (t174.length : Int) > 0 then (if 0 < (t174.length : Int) then (if 0 ≤ (wrap64 ((t174.length : Int) - 1)) then (if (wrap64 ((t174.length : Int) - 1)) < (t174.length : Int) then (spec_DomFrom.j2 kj5 l0 x4_1 x163000_1 true ((rd_T55 l0 x4_1).f0) t173 (rd t174 0) (rd t174 (wrap64 ((t174.length : Int) - 1))) t169 t170) else (none)) else (none)) else (none)) else (spec_DomFrom.j2 kj5 l0 x4_1 x163000_1 true ((rd_T55 l0 x4_1).f0) t173 t167 t168 t169 t170)))) else (none)) else (none)) = some r := H
      have A11 := Aside0.mk A110
      clear A110
      obtain ⟨c12b0, H⟩ := ifd_ H
      obtain ⟨c13b0, H⟩ := ifd_ H
      obtain ⟨t173, A14, H⟩ := bnd_ H
      obtain ⟨t174, A15, H⟩ := bnd_ H
      have HC16 := Aside0.mk H
      clear H
      go_upto_if 37 with (first | ((with_reducible refine gate_callee (f := 63) rfl ?_); refine goesL_ (some 20) rfl rfl Try.func63 (by kernel_rfl) rfl #[] rfl z1_ ?_; (with_reducible refine (spec_l16Empty.calls  t164 t165 t166 t167 t168 t169 t170 _ A11.out).mono ?_); rintro e w17 ⟨rfl, hb⟩; refine ⟨_, rfl, ?_⟩; replace HO_163000 := Aside0.mk (Kd.R_below z33_ hb); replace BK161 := Aside0.mk (blk_below (g := gb161) (o := .cells #[.slice none 0 0] 28 (0, 0)) z19_ hb); replace BK162 := Aside0.mk (blk_below (g := gb162) (o := .cells #[u163000] 28 (0, 0)) z22_ hb); replace HB := Aside0.mk (below_step z31_ hb); (try clear hb)) | ((with_reducible refine gate_dst (N := 5) rfl ?_); refine box_event ?hg (N := 5) ?hd (cs := #[.bool false, .int .i64 0, .int .i64 0, .int .i64 0, .int .i64 0, .int .i64 0, .int .i64 0]) (t := 90) ?hr ?_; (case hd => rfl); (case hg => rfl); (case hr => exact z13_); intro gb171 hg w18 hbox hb; replace HO_163000 := Aside0.mk (Kd.R_below (Kd.R_elderB z33_ gb171 (Nat.le_of_eq hg.symm)) hb); have BK171 := Aside0.mk (hbox); have GW171 := Aside0.mk ((by rw [hg]; exact (below_size z31_) : w.heap.size ≤ gb171)); have GE171 := Aside0.mk ((by rw [hg]; exact (below_size z31_) : w.heap.size ≤ gb171)); replace HB := Aside0.mk (below_step z31_ hb); have NB161_171 := Aside0.mk ((by rw [hg]; exact Nat.ne_of_lt (blk_lt (g := gb161) (o := .cells #[.slice none 0 0] 28 (0, 0)) z19_) : gb161 ≠ gb171)); have NB171_161 := Aside0.mk ((by rw [hg]; exact Nat.ne_of_gt (blk_lt (g := gb161) (o := .cells #[.slice none 0 0] 28 (0, 0)) z19_) : gb171 ≠ gb161)); replace BK161 := Aside0.mk (blk_below (g := gb161) (o := .cells #[.slice none 0 0] 28 (0, 0)) z19_ hb); have NB162_171 := Aside0.mk ((by rw [hg]; exact Nat.ne_of_lt (blk_lt (g := gb162) (o := .cells #[u163000] 28 (0, 0)) z22_) : gb162 ≠ gb171)); have NB171_162 := Aside0.mk ((by rw [hg]; exact Nat.ne_of_gt (blk_lt (g := gb162) (o := .cells #[u163000] 28 (0, 0)) z22_) : gb171 ≠ gb162)); replace BK162 := Aside0.mk (blk_below (g := gb162) (o := .cells #[u163000] 28 (0, 0)) z22_ hb); clear hb hbox hg; have hnb19 := NB171_161.out; have hnc19 := NB161_171.out; have hnb20 := NB171_162.out; have hnc20 := NB162_171.out; have hcz21_0 : w18.cell? ⟨gb171, 0, none⟩ = some (.bool false) := (blk_cell BK171.out 0).trans rfl; have hcz21_1 : w18.cell? ⟨gb171, 1, none⟩ = some (.int .i64 0) := (blk_cell BK171.out 1).trans rfl; have hcz21_2 : w18.cell? ⟨gb171, 2, none⟩ = some (.int .i64 0) := (blk_cell BK171.out 2).trans rfl; have hcz21_3 : w18.cell? ⟨gb171, 3, none⟩ = some (.int .i64 0) := (blk_cell BK171.out 3).trans rfl; have hcz21_4 : w18.cell? ⟨gb171, 4, none⟩ = some (.int .i64 0) := (blk_cell BK171.out 4).trans rfl; have hcz21_5 : w18.cell? ⟨gb171, 5, none⟩ = some (.int .i64 0) := (blk_cell BK171.out 5).trans rfl; have hcz21_6 : w18.cell? ⟨gb171, 6, none⟩ = some (.int .i64 0) := (blk_cell BK171.out 6).trans rfl; have hfz21_0 := blk_frozen BK171.out 0; have hfz21_1 := blk_frozen BK171.out 1; have hfz21_2 := blk_frozen BK171.out 2; have hfz21_3 := blk_frozen BK171.out 3; have hfz21_4 := blk_frozen BK171.out 4; have hfz21_5 := blk_frozen BK171.out 5; have hfz21_6 := blk_frozen BK171.out 6; have p172 : 0 ≤ (x4_1 : Int) := odt_; have q172 : x4_1 < (l0.length : Int) := odt_; obtain ⟨ad172, e172, hx172_0, hx172_1⟩ := at_T55 HR0.out x4_1 p172 q172; cases e172; have hn172_0 : ad172.block ≠ gb171 := Nat.ne_of_lt (Nat.lt_of_lt_of_le z84_ GW171.out); have hn172_1 : ad172.block ≠ gb171 := Nat.ne_of_lt (Nat.lt_of_lt_of_le z84_ GW171.out); have hn172_2 : ad172.block ≠ gb171 := Nat.ne_of_lt (Nat.lt_of_lt_of_le z84_ GW171.out); have hn172_3 : ad172.block ≠ gb171 := Nat.ne_of_lt (Nat.lt_of_lt_of_le z84_ GW171.out); have hn172_4 : ad172.block ≠ gb171 := Nat.ne_of_lt (Nat.lt_of_lt_of_le z84_ GW171.out); have hn172_5 : ad172.block ≠ gb171 := Nat.ne_of_lt (Nat.lt_of_lt_of_le z84_ GW171.out); have hn172_6 : ad172.block ≠ gb171 := Nat.ne_of_lt (Nat.lt_of_lt_of_le z84_ GW171.out); have hn172_7 : ad172.block ≠ gb171 := Nat.ne_of_lt (Nat.lt_of_lt_of_le z84_ GW171.out); replace hx172_0 := (HB.out.cell (World.block_lt_of_cell? w _ hx172_0)).trans hx172_0; replace hx172_1 := (HB.out.cell (World.block_lt_of_cell? w _ hx172_1)).trans hx172_1; replace hx172_0 := (cell_far (p := ⟨gb171, 0, none⟩) z147_ (.bool t164)).trans hx172_0; replace hx172_1 := (cell_far (p := ⟨gb171, 0, none⟩) z147_ (.bool t164)).trans hx172_1; replace hx172_0 := (cell_far (p := ⟨gb171, 1, none⟩) z148_ (.int .i64 t165)).trans hx172_0; replace hx172_1 := (cell_far (p := ⟨gb171, 1, none⟩) z148_ (.int .i64 t165)).trans hx172_1; replace hx172_0 := (cell_far (p := ⟨gb171, 2, none⟩) z149_ (.int .i64 t166)).trans hx172_0; replace hx172_1 := (cell_far (p := ⟨gb171, 2, none⟩) z149_ (.int .i64 t166)).trans hx172_1; replace hx172_0 := (cell_far (p := ⟨gb171, 3, none⟩) z150_ (.int .i64 t167)).trans hx172_0; replace hx172_1 := (cell_far (p := ⟨gb171, 3, none⟩) z150_ (.int .i64 t167)).trans hx172_1; replace hx172_0 := (cell_far (p := ⟨gb171, 4, none⟩) z151_ (.int .i64 t168)).trans hx172_0; replace hx172_1 := (cell_far (p := ⟨gb171, 4, none⟩) z151_ (.int .i64 t168)).trans hx172_1; replace hx172_0 := (cell_far (p := ⟨gb171, 5, none⟩) z152_ (.int .i64 t169)).trans hx172_0; replace hx172_1 := (cell_far (p := ⟨gb171, 5, none⟩) z152_ (.int .i64 t169)).trans hx172_1; replace hx172_0 := (cell_far (p := ⟨gb171, 6, none⟩) z153_ (.int .i64 t170)).trans hx172_0; replace hx172_1 := (cell_far (p := ⟨gb171, 6, none⟩) z153_ (.int .i64 t170)).trans hx172_1; replace hx172_0 := (cell_far (p := ⟨gb171, 0, none⟩) z154_ (.bool true)).trans hx172_0; replace hx172_1 := (cell_far (p := ⟨gb171, 0, none⟩) z154_ (.bool true)).trans hx172_1; clear hn172_0; clear hn172_1; clear hn172_2; clear hn172_3; clear hn172_4; clear hn172_5; clear hn172_6; clear hn172_7; replace p172 := eq_true p172; replace q172 := eq_true q172) | ((with_reducible refine gate_callee (f := 64) rfl ?_); refine goesL_ (some 30) rfl rfl Try.func64 (by kernel_rfl) rfl #[.slice (some ad172) l0.length c0, .int .i64 x4_1] rfl z1_ ?_; (with_reducible refine (spec_ParentOf.calls kj5 _ _ l0 x4_1 t173 _ ?side1 ?side2 A14.out).mono ?_); (case side1 => exact z111_); (case side2 => exact HC0.out); rintro e w22 ⟨rfl, hb⟩; refine ⟨_, rfl, ?_⟩; replace HO_163000 := Aside0.mk (Kd.R_below (by (with_reducible repeat (first | apply Kd.R_alloc | apply Kd.R_drewN | apply Kd.R_drew)); exact (Kd.R_mono (Kd.R_far (p := ⟨gb171, 1, none⟩) (Kd.R_far (p := ⟨gb171, 0, none⟩) (Kd.R_far (p := ⟨gb171, 6, none⟩) (Kd.R_far (p := ⟨gb171, 5, none⟩) (Kd.R_far (p := ⟨gb171, 4, none⟩) (Kd.R_far (p := ⟨gb171, 3, none⟩) (Kd.R_far (p := ⟨gb171, 2, none⟩) (Kd.R_far (p := ⟨gb171, 1, none⟩) (Kd.R_far (p := ⟨gb171, 0, none⟩) (Kd.R_mono HO_163000.out (fun k_ hk => (⟨hk, hk.2⟩ : _ ∧ k_ ≠ gb171))) (fun _ hk => hk.2) (.bool t164)) (fun _ hk => hk.2) (.int .i64 t165)) (fun _ hk => hk.2) (.int .i64 t166)) (fun _ hk => hk.2) (.int .i64 t167)) (fun _ hk => hk.2) (.int .i64 t168)) (fun _ hk => hk.2) (.int .i64 t169)) (fun _ hk => hk.2) (.int .i64 t170)) (fun _ hk => hk.2) (.bool true)) (fun _ hk => hk.2) (.int .i64 ((rd_T55 l0 x4_1).f0))) (fun _ h_ => h_.1))) hb); replace BK161 := Aside0.mk (blk_below (g := gb161) (o := .cells #[.slice none 0 0] 28 (0, 0)) (by (with_reducible repeat (first | refine blk_drewN ?_ _ | refine blk_drew ?_ | refine blk_alloc ?_ _)); refine blk_far ?_ NB161_171.out _; (with_reducible repeat (first | refine blk_drewN ?_ _ | refine blk_drew ?_ | refine blk_alloc ?_ _)); refine blk_far ?_ NB161_171.out _; (with_reducible repeat (first | refine blk_drewN ?_ _ | refine blk_drew ?_ | refine blk_alloc ?_ _)); refine blk_far ?_ NB161_171.out _; (with_reducible repeat (first | refine blk_drewN ?_ _ | refine blk_drew ?_ | refine blk_alloc ?_ _)); refine blk_far ?_ NB161_171.out _; (with_reducible repeat (first | refine blk_drewN ?_ _ | refine blk_drew ?_ | refine blk_alloc ?_ _)); refine blk_far ?_ NB161_171.out _; (with_reducible repeat (first | refine blk_drewN ?_ _ | refine blk_drew ?_ | refine blk_alloc ?_ _)); refine blk_far ?_ NB161_171.out _; (with_reducible repeat (first | refine blk_drewN ?_ _ | refine blk_drew ?_ | refine blk_alloc ?_ _)); refine blk_far ?_ NB161_171.out _; (with_reducible repeat (first | refine blk_drewN ?_ _ | refine blk_drew ?_ | refine blk_alloc ?_ _)); refine blk_far ?_ NB161_171.out _; (with_reducible repeat (first | refine blk_drewN ?_ _ | refine blk_drew ?_ | refine blk_alloc ?_ _)); refine blk_far ?_ NB161_171.out _; (with_reducible repeat (first | refine blk_drewN ?_ _ | refine blk_drew ?_ | refine blk_alloc ?_ _)); exact BK161.out) hb); replace BK162 := Aside0.mk (blk_below (g := gb162) (o := .cells #[u163000] 28 (0, 0)) (by (with_reducible repeat (first | refine blk_drewN ?_ _ | refine blk_drew ?_ | refine blk_alloc ?_ _)); refine blk_far ?_ NB162_171.out _; (with_reducible repeat (first | refine blk_drewN ?_ _ | refine blk_drew ?_ | refine blk_alloc ?_ _)); refine blk_far ?_ NB162_171.out _; (with_reducible repeat (first | refine blk_drewN ?_ _ | refine blk_drew ?_ | refine blk_alloc ?_ _)); refine blk_far ?_ NB162_171.out _; (with_reducible repeat (first | refine blk_drewN ?_ _ | refine blk_drew ?_ | refine blk_alloc ?_ _)); refine blk_far ?_ NB162_171.out _; (with_reducible repeat (first | refine blk_drewN ?_ _ | refine blk_drew ?_ | refine blk_alloc ?_ _)); refine blk_far ?_ NB162_171.out _; (with_reducible repeat (first | refine blk_drewN ?_ _ | refine blk_drew ?_ | refine blk_alloc ?_ _)); refine blk_far ?_ NB162_171.out _; (with_reducible repeat (first | refine blk_drewN ?_ _ | refine blk_drew ?_ | refine blk_alloc ?_ _)); refine blk_far ?_ NB162_171.out _; (with_reducible repeat (first | refine blk_drewN ?_ _ | refine blk_drew ?_ | refine blk_alloc ?_ _)); refine blk_far ?_ NB162_171.out _; (with_reducible repeat (first | refine blk_drewN ?_ _ | refine blk_drew ?_ | refine blk_alloc ?_ _)); refine blk_far ?_ NB162_171.out _; (with_reducible repeat (first | refine blk_drewN ?_ _ | refine blk_drew ?_ | refine blk_alloc ?_ _)); exact BK162.out) hb); replace BK171 := Aside0.mk (blk_below (g := gb171) (o := .cells #[.bool true, .int .i64 ((rd_T55 l0 x4_1).f0), .int .i64 t166, .int .i64 t167, .int .i64 t168, .int .i64 t169, .int .i64 t170] 90 (0, 0)) (by (with_reducible repeat (first | refine blk_drewN ?_ _ | refine blk_drew ?_ | refine blk_alloc ?_ _)); refine blk_put (cs := #[.bool true, .int .i64 t165, .int .i64 t166, .int .i64 t167, .int .i64 t168, .int .i64 t169, .int .i64 t170]) ?_ 1 _ rfl; (with_reducible repeat (first | refine blk_drewN ?_ _ | refine blk_drew ?_ | refine blk_alloc ?_ _)); refine blk_put (cs := #[.bool t164, .int .i64 t165, .int .i64 t166, .int .i64 t167, .int .i64 t168, .int .i64 t169, .int .i64 t170]) ?_ 0 _ rfl; (with_reducible repeat (first | refine blk_drewN ?_ _ | refine blk_drew ?_ | refine blk_alloc ?_ _)); refine blk_put (cs := #[.bool t164, .int .i64 t165, .int .i64 t166, .int .i64 t167, .int .i64 t168, .int .i64 t169, .int .i64 0]) ?_ 6 _ rfl; (with_reducible repeat (first | refine blk_drewN ?_ _ | refine blk_drew ?_ | refine blk_alloc ?_ _)); refine blk_put (cs := #[.bool t164, .int .i64 t165, .int .i64 t166, .int .i64 t167, .int .i64 t168, .int .i64 0, .int .i64 0]) ?_ 5 _ rfl; (with_reducible repeat (first | refine blk_drewN ?_ _ | refine blk_drew ?_ | refine blk_alloc ?_ _)); refine blk_put (cs := #[.bool t164, .int .i64 t165, .int .i64 t166, .int .i64 t167, .int .i64 0, .int .i64 0, .int .i64 0]) ?_ 4 _ rfl; (with_reducible repeat (first | refine blk_drewN ?_ _ | refine blk_drew ?_ | refine blk_alloc ?_ _)); refine blk_put (cs := #[.bool t164, .int .i64 t165, .int .i64 t166, .int .i64 0, .int .i64 0, .int .i64 0, .int .i64 0]) ?_ 3 _ rfl; (with_reducible repeat (first | refine blk_drewN ?_ _ | refine blk_drew ?_ | refine blk_alloc ?_ _)); refine blk_put (cs := #[.bool t164, .int .i64 t165, .int .i64 0, .int .i64 0, .int .i64 0, .int .i64 0, .int .i64 0]) ?_ 2 _ rfl; (with_reducible repeat (first | refine blk_drewN ?_ _ | refine blk_drew ?_ | refine blk_alloc ?_ _)); refine blk_put (cs := #[.bool t164, .int .i64 0, .int .i64 0, .int .i64 0, .int .i64 0, .int .i64 0, .int .i64 0]) ?_ 1 _ rfl; (with_reducible repeat (first | refine blk_drewN ?_ _ | refine blk_drew ?_ | refine blk_alloc ?_ _)); refine blk_put (cs := #[.bool false, .int .i64 0, .int .i64 0, .int .i64 0, .int .i64 0, .int .i64 0, .int .i64 0]) ?_ 0 _ rfl; (with_reducible repeat (first | refine blk_drewN ?_ _ | refine blk_drew ?_ | refine blk_alloc ?_ _)); exact BK171.out) hb); replace HB := Aside0.mk (below_step z5_ hb); (try clear hb); have hcz23_0 : w22.cell? ⟨gb171, 0, none⟩ = some (.bool true) := (blk_cell BK171.out 0).trans rfl; have hcz23_1 : w22.cell? ⟨gb171, 1, none⟩ = some (.int .i64 ((rd_T55 l0 x4_1).f0)) := (blk_cell BK171.out 1).trans rfl; have hcz23_2 : w22.cell? ⟨gb171, 2, none⟩ = some (.int .i64 t166) := (blk_cell BK171.out 2).trans rfl; have hcz23_3 : w22.cell? ⟨gb171, 3, none⟩ = some (.int .i64 t167) := (blk_cell BK171.out 3).trans rfl; have hcz23_4 : w22.cell? ⟨gb171, 4, none⟩ = some (.int .i64 t168) := (blk_cell BK171.out 4).trans rfl; have hcz23_5 : w22.cell? ⟨gb171, 5, none⟩ = some (.int .i64 t169) := (blk_cell BK171.out 5).trans rfl; have hcz23_6 : w22.cell? ⟨gb171, 6, none⟩ = some (.int .i64 t170) := (blk_cell BK171.out 6).trans rfl; have hfz23_0 := blk_frozen BK171.out 0; have hfz23_1 := blk_frozen BK171.out 1; have hfz23_2 := blk_frozen BK171.out 2; have hfz23_3 := blk_frozen BK171.out 3; have hfz23_4 := blk_frozen BK171.out 4; have hfz23_5 := blk_frozen BK171.out 5; have hfz23_6 := blk_frozen BK171.out 6) | ((with_reducible refine gate_callee (f := 65) rfl ?_); refine goesL_ (some 34) rfl rfl Try.func65 (by kernel_rfl) rfl #[.slice (some ad172) l0.length c0, .int .i64 x4_1] rfl z1_ ?_; (with_reducible refine (spec_KidsOf.calls kj5 _ _ l0 x4_1 t174 _ ?side1 ?side2 A15.out).mono ?_); (case side1 => exact z111_); (case side2 => exact HC0.out); rintro e w24 ⟨v175, rfl, ho0, hb⟩; refine ⟨_, rfl, ?_⟩; replace HO_163000 := Aside0.mk (Kd.R_below (by (with_reducible repeat (first | apply Kd.R_alloc | apply Kd.R_drewN | apply Kd.R_drew)); exact (Kd.R_mono (Kd.R_far (p := ⟨gb171, 2, none⟩) (Kd.R_mono HO_163000.out (fun k_ hk => (⟨hk, hk.2⟩ : _ ∧ k_ ≠ gb171))) (fun _ hk => hk.2) (.int .i64 t173)) (fun _ h_ => h_.1))) hb); have HO176 := Aside0.mk (Kd.R_lower ho0 (below_size z5_)); replace BK161 := Aside0.mk (blk_below (g := gb161) (o := .cells #[.slice none 0 0] 28 (0, 0)) z80_ hb); replace BK162 := Aside0.mk (blk_below (g := gb162) (o := .cells #[u163000] 28 (0, 0)) z81_ hb); replace BK171 := Aside0.mk (blk_below (g := gb171) (o := .cells #[.bool true, .int .i64 ((rd_T55 l0 x4_1).f0), .int .i64 t173, .int .i64 t167, .int .i64 t168, .int .i64 t169, .int .i64 t170] 90 (0, 0)) (by (with_reducible repeat (first | refine blk_drewN ?_ _ | refine blk_drew ?_ | refine blk_alloc ?_ _)); refine blk_put (cs := #[.bool true, .int .i64 ((rd_T55 l0 x4_1).f0), .int .i64 t166, .int .i64 t167, .int .i64 t168, .int .i64 t169, .int .i64 t170]) ?_ 2 _ rfl; (with_reducible repeat (first | refine blk_drewN ?_ _ | refine blk_drew ?_ | refine blk_alloc ?_ _)); exact BK171.out) hb); replace HB := Aside0.mk (below_step z5_ hb); (try clear hb ho0); obtain ⟨Ao25, co25, eo25⟩ := Kd.R_slice HO176.out; subst eo25))
      (try simp only [Act.put, List.setIfInBounds_toArray, List.set_cons_zero, List.set_cons_succ])
      go_cut [] (fun wc => ∃ (kq : Nat) (x172003_15 : Int) (x172004_15 : Int), Aside0 (spec_DomFrom.j2 kq l0 x4_1 x163000_1 true ((rd_T55 l0 x4_1).f0) t173 x172003_15 x172004_15 t169 t170 = some r) ∧ Aside0 (kq ≤ kj5) ∧ Aside0 (Kd.R k90 90 wc w.heap.size (fun k_ => k_ ≠ gb171) u163000 x163000_1) ∧ Aside0 (wc.heap[gb161]? = some (.cells #[(.slice none 0 0)] 28 (0, 0))) ∧ Aside0 (wc.heap[gb162]? = some (.cells #[u163000] 28 (0, 0))) ∧ Aside0 (wc.heap[gb171]? = some (.cells #[.bool true, .int .i64 ((rd_T55 l0 x4_1).f0), .int .i64 t173, .int .i64 x172003_15, .int .i64 x172004_15, .int .i64 t169, .int .i64 t170] 90 (0, 0))) ∧ Aside0 (Below w.heap.size w wc))
      case first =>
       have H := HC16.out
       clear HC16
       by_cases c26 : (t174.length : Int) > 0
       ·rw [if_pos c26] at H
        have c26b0 : decide (0 < (t174.length : Int)) = true := decide_eq_true c26
        have c26b1 : decide (0 < t174.length) = true := decide_eq_true (by omega)
        clear c26
        (first | rw [c26b0] | rw [c26b1] | (simp only [i64_w, i32_w]; rw [c26b0]) | skip)
        obtain ⟨c27, H⟩ := ifs_ H
        have c27b0 : decide (0 < (t174.length : Int)) = true := decide_eq_true c27
        have c27b1 : decide (0 < t174.length) = true := decide_eq_true (by omega)
        clear c27
        obtain ⟨ji28, hji28⟩ : ∃ j_ : Int, (wrap64 ((t174.length : Int) - 1)) = j_ := ⟨_, rfl⟩
        replace H : (if 0 ≤ (ji28) then (if (ji28) < (t174.length : Int) then (spec_DomFrom.j2 kj5 l0 x4_1 x163000_1 true ((rd_T55 l0 x4_1).f0) t173 (rd t174 0) (rd t174 (ji28)) t169 t170) else (none)) else (none)) = some r := by first | (rw [hji28] at H; exact H) | (simp only [hji28] at H ⊢; exact H)
        have hji28w : (IntKind.i64.wrap ((t174.length : Int) - 1)) = ji28 := (i64_w _).trans hji28
        obtain ⟨c29b0, H⟩ := ifd_ H
        obtain ⟨c30b0, H⟩ := ifd_ H
        have H' := Aside0.mk H
        clear H
        have p177 : 0 ≤ (0 : Int) := (by omega)
        have q177 : 0 < (t174.length : Int) := odt_
        obtain ⟨ad177, e177, hx177_0⟩ := Kd.at_int (Kd.R_reads' HO176.out).2.2 0 p177 q177
        cases e177
        have qi177 : (0 < t174.length) = True := eq_true (by omega)
        (try rw [show ((0 : Int)).toNat = 0 from rfl] at hx177_0)
        (try rw [Addr.add_zero'] at hx177_0)
        replace p177 := eq_true p177
        replace q177 := eq_true q177
        have hnb31 := NB171_161.out
        have hnc31 := NB161_171.out
        have hnb32 := NB171_162.out
        have hnc32 := NB162_171.out
        have hcz33_0 : w24.cell? ⟨gb171, 0, none⟩ = some (.bool true) := (blk_cell BK171.out 0).trans rfl
        have hcz33_1 : w24.cell? ⟨gb171, 1, none⟩ = some (.int .i64 ((rd_T55 l0 x4_1).f0)) := (blk_cell BK171.out 1).trans rfl
        have hcz33_2 : w24.cell? ⟨gb171, 2, none⟩ = some (.int .i64 t173) := (blk_cell BK171.out 2).trans rfl
        have hcz33_3 : w24.cell? ⟨gb171, 3, none⟩ = some (.int .i64 t167) := (blk_cell BK171.out 3).trans rfl
        have hcz33_4 : w24.cell? ⟨gb171, 4, none⟩ = some (.int .i64 t168) := (blk_cell BK171.out 4).trans rfl
        have hcz33_5 : w24.cell? ⟨gb171, 5, none⟩ = some (.int .i64 t169) := (blk_cell BK171.out 5).trans rfl
        have hcz33_6 : w24.cell? ⟨gb171, 6, none⟩ = some (.int .i64 t170) := (blk_cell BK171.out 6).trans rfl
        have hfz33_0 := blk_frozen BK171.out 0
        have hfz33_1 := blk_frozen BK171.out 1
        have hfz33_2 := blk_frozen BK171.out 2
        have hfz33_3 := blk_frozen BK171.out 3
        have hfz33_4 := blk_frozen BK171.out 4
        have hfz33_5 := blk_frozen BK171.out 5
        have hfz33_6 := blk_frozen BK171.out 6
        have p178 : 0 ≤ ((ji28) : Int) := odt_
        have q178 : (ji28) < (t174.length : Int) := odt_
        obtain ⟨ad178, e178, hx178_0⟩ := Kd.at_int (Kd.R_reads' HO176.out).2.2 (ji28) p178 q178
        obtain rfl : ad177 = ad178 := (by injection e178)
        have hn178_0 : ad177.block ≠ gb171 := Kd.own_blk (Kd.R_ne HO176.out BK171.out (by decide))
        replace hx178_0 := (cell_far (p := ⟨gb171, 3, none⟩) (by first | (rw [add_block]; exact hn178_0) | (show (Addr.add _ _).block ≠ _; rw [add_block]; exact hn178_0) | exact hn178_0) (.int .i64 (rd t174 0))).trans hx178_0
        clear hn178_0
        replace p178 := eq_true p178
        replace q178 := eq_true q178
        go_wp2
        go_meet
        case rel => exact ⟨_, (rd t174 0), (rd t174 (ji28)), H', ⟨by have := HK1.out; have := HJ5.out; first | omega | exact Nat.le_refl _⟩, ⟨by (with_reducible repeat (first | apply Kd.R_alloc | apply Kd.R_drewN | apply Kd.R_drew)); exact Kd.R_mono (Kd.R_far (p := ⟨gb171, 4, none⟩) (Kd.R_far (p := ⟨gb171, 3, none⟩) (Kd.R_mono HO_163000.out (fun k_ hk => (⟨hk, hk.2⟩ : _ ∧ k_ ≠ gb171))) (fun _ hk => hk.2) (.int .i64 (rd t174 0))) (fun _ hk => hk.2) (.int .i64 (rd t174 (ji28)))) (fun _ hk => hk.1.2)⟩, ⟨z75_⟩, ⟨z76_⟩, ⟨by (with_reducible repeat (first | refine blk_drewN ?_ _ | refine blk_drew ?_ | refine blk_alloc ?_ _)); refine blk_put (cs := #[.bool true, .int .i64 ((rd_T55 l0 x4_1).f0), .int .i64 t173, .int .i64 (rd t174 0), .int .i64 t168, .int .i64 t169, .int .i64 t170]) ?_ 4 _ rfl; (with_reducible repeat (first | refine blk_drewN ?_ _ | refine blk_drew ?_ | refine blk_alloc ?_ _)); refine blk_put (cs := #[.bool true, .int .i64 ((rd_T55 l0 x4_1).f0), .int .i64 t173, .int .i64 t167, .int .i64 t168, .int .i64 t169, .int .i64 t170]) ?_ 3 _ rfl; (with_reducible repeat (first | refine blk_drewN ?_ _ | refine blk_drew ?_ | refine blk_alloc ?_ _)); exact BK171.out⟩, ⟨z5_⟩⟩
       ·rw [if_neg c26] at H
        have c26b0 : decide (0 < (t174.length : Int)) = false := decide_eq_false c26
        have c26b1 : decide (0 < t174.length) = false := decide_eq_false (by omega)
        clear c26
        (first | rw [c26b0] | rw [c26b1] | (simp only [i64_w, i32_w]; rw [c26b0]) | skip)
        have H' := Aside0.mk H
        clear H
        go_wp2
        go_meet
        case rel => exact ⟨_, (t167), (t168), H', ⟨by have := HK1.out; have := HJ5.out; first | omega | exact Nat.le_refl _⟩, ⟨by (with_reducible repeat (first | apply Kd.R_alloc | apply Kd.R_drewN | apply Kd.R_drew)); exact Kd.R_mono HO_163000.out (fun _ hk => hk.2)⟩, ⟨z19_⟩, ⟨z22_⟩, ⟨z38_⟩, ⟨z5_⟩⟩
      case rest =>
       clear HC16
       try clear c1
       try clear p1
       try clear q1
       try clear hx1
       try clear qi1
       try clear c2
       try clear p2
       try clear c3
       try clear c4
       try clear c6
       try clear p6
       try clear c7
       try clear c7b0
       try clear c10
       try clear c12
       try clear c12b0
       try clear c13
       try clear c13b0
       try clear c17
       try clear p17
       try clear q17
       try clear hx17
       try clear qi17
       try clear c19
       try clear c20
       try clear c26
       try clear c26b0
       try clear c26b1
       try clear c27
       try clear c27b0
       try clear c27b1
       try clear c29
       try clear c29b0
       try clear c30
       try clear c30b0
       try clear c31
       try clear c32
       try clear hcz21_0
       try clear hcz21_1
       try clear hcz21_2
       try clear hcz21_3
       try clear hcz21_4
       try clear hcz21_5
       try clear hcz21_6
       try clear hcz23_0
       try clear hcz23_1
       try clear hcz23_2
       try clear hcz23_3
       try clear hcz23_4
       try clear hcz23_5
       try clear hcz23_6
       try clear hcz33_0
       try clear hcz33_1
       try clear hcz33_2
       try clear hcz33_3
       try clear hcz33_4
       try clear hcz33_5
       try clear hcz33_6
       try clear hcz5_0
       try clear hfz21_0
       try clear hfz21_1
       try clear hfz21_2
       try clear hfz21_3
       try clear hfz21_4
       try clear hfz21_5
       try clear hfz21_6
       try clear hfz23_0
       try clear hfz23_1
       try clear hfz23_2
       try clear hfz23_3
       try clear hfz23_4
       try clear hfz23_5
       try clear hfz23_6
       try clear hfz33_0
       try clear hfz33_1
       try clear hfz33_2
       try clear hfz33_3
       try clear hfz33_4
       try clear hfz33_5
       try clear hfz33_6
       try clear hfz5_0
       try clear hx172_0
       try clear hx172_1
       try clear hx177_0
       try clear hx178_0
       try clear p172
       try clear p177
       try clear p178
       try clear p2
       try clear q172
       try clear q177
       try clear q178
       obtain ⟨kq, x172003_15, x172004_15, HA, HJ15, HO_163000, BK161, BK162, BK171, HB⟩ := hcut
       cases kq with
       | zero => exact absurd HA.out (by simp [spec_DomFrom.j2])
       | succ kj15 =>
        have H := HA.out
        clear HA
        simp only [spec_DomFrom.j2] at H
        by_cases c34 : t173 ≥ 0
        ·rw [if_pos c34] at H
         have c34b0 : decide (0 ≤ t173) = true := decide_eq_true c34
         clear c34
         obtain ⟨t179, A35, H⟩ := bnd_ H
         obtain ⟨t182, A36, H⟩ := bnd_ H
         by_cases c37 : t182 > 0
         ·rw [if_pos c37] at H
          have c37b0 : decide (0 < t182) = true := decide_eq_true c37
          clear c37
          obtain ⟨ji38, hji38⟩ : ∃ j_ : Int, (wrap64 (t182 - 1)) = j_ := ⟨_, rfl⟩
          replace H : (if 0 ≤ (ji38) then (if (ji38) < (t179.length : Int) then (if (wrap64 (t182 + 1)) < (t179.length : Int) then (if 0 ≤ (wrap64 (t182 + 1)) then (if x163000_1.length < 2513169434916 then (spec_DomFrom.l0 kj15 l0 (wrap64 (x4_1 + 1)) (x163000_1 ++ [(⟨true, ((rd_T55 l0 x4_1).f0), t173, x172003_15, x172004_15, rd t179 (ji38), rd t179 (wrap64 (t182 + 1))⟩ : S90)])) else (none)) else (none)) else (if x163000_1.length < 2513169434916 then (spec_DomFrom.l0 kj15 l0 (wrap64 (x4_1 + 1)) (x163000_1 ++ [(⟨true, ((rd_T55 l0 x4_1).f0), t173, x172003_15, x172004_15, rd t179 (ji38), t170⟩ : S90)])) else (none))) else (none)) else (none)) = some r := by first | (rw [hji38] at H; exact H) | (simp only [hji38] at H ⊢; exact H)
          (try rw [hji38] at A35)
          (try rw [hji38] at A36)
          have hji38w : (IntKind.i64.wrap (t182 - 1)) = ji38 := (i64_w _).trans hji38
          obtain ⟨c39b0, H⟩ := ifd_ H
          obtain ⟨c40b0, H⟩ := ifd_ H
          by_cases c41 : (wrap64 (t182 + 1)) < (t179.length : Int)
          ·rw [if_pos c41] at H
           have c41b0 : decide ((wrap64 (t182 + 1)) < (t179.length : Int)) = true := decide_eq_true c41
           clear c41
           obtain ⟨ji42, hji42⟩ : ∃ j_ : Int, (wrap64 (t182 + 1)) = j_ := ⟨_, rfl⟩
           replace H : (if 0 ≤ (ji42) then (if x163000_1.length < 2513169434916 then (spec_DomFrom.l0 kj15 l0 (wrap64 (x4_1 + 1)) (x163000_1 ++ [(⟨true, ((rd_T55 l0 x4_1).f0), t173, x172003_15, x172004_15, rd t179 (ji38), rd t179 (ji42)⟩ : S90)])) else (none)) else (none)) = some r := by first | (rw [hji42] at H; exact H) | (simp only [hji42] at H ⊢; exact H)
           (try rw [hji42] at c41b0)
           (try rw [hji42] at A35)
           (try rw [hji42] at A36)
           have hji42w : (IntKind.i64.wrap (t182 + 1)) = ji42 := (i64_w _).trans hji42
           obtain ⟨c43b0, H⟩ := ifd_ H
           obtain ⟨c44, H⟩ := ifs_ H
           have LMc44 := Aside0.mk c44
           clear c44
           obtain ⟨y185, hy185⟩ : ∃ y_ : List (S90), y_ = (x163000_1 ++ [(⟨true, ((rd_T55 l0 x4_1).f0), t173, x172003_15, x172004_15, rd t179 (ji38), rd t179 (ji42)⟩ : S90)]) := ⟨_, rfl⟩
           replace H : (spec_DomFrom.l0 kj15 l0 (wrap64 (x4_1 + 1)) y185) = some r := by first | (rw [hy185]; with_reducible exact H) | (have H2_ := (Option.bind_some _ _).symm.trans H; rw [hy185]; with_reducible exact H2_) | (have H2_ := (Option.bind_some _ _).symm.trans H; with_reducible exact H2_) | with_reducible exact H | (rw [hy185]; exact H) | exact H
           have Ny185 := Aside0.mk hy185
           clear hy185
           have H' := Aside0.mk H
           clear H
           have hnb45 := NB171_161.out
           have hnc45 := NB161_171.out
           have hnb46 := NB171_162.out
           have hnc46 := NB162_171.out
           have hcz47_0 : wc.cell? ⟨gb171, 0, none⟩ = some (.bool true) := (blk_cell BK171.out 0).trans rfl
           have hcz47_1 : wc.cell? ⟨gb171, 1, none⟩ = some (.int .i64 ((rd_T55 l0 x4_1).f0)) := (blk_cell BK171.out 1).trans rfl
           have hcz47_2 : wc.cell? ⟨gb171, 2, none⟩ = some (.int .i64 t173) := (blk_cell BK171.out 2).trans rfl
           have hcz47_3 : wc.cell? ⟨gb171, 3, none⟩ = some (.int .i64 x172003_15) := (blk_cell BK171.out 3).trans rfl
           have hcz47_4 : wc.cell? ⟨gb171, 4, none⟩ = some (.int .i64 x172004_15) := (blk_cell BK171.out 4).trans rfl
           have hcz47_5 : wc.cell? ⟨gb171, 5, none⟩ = some (.int .i64 t169) := (blk_cell BK171.out 5).trans rfl
           have hcz47_6 : wc.cell? ⟨gb171, 6, none⟩ = some (.int .i64 t170) := (blk_cell BK171.out 6).trans rfl
           have hfz47_0 := blk_frozen BK171.out 0
           have hfz47_1 := blk_frozen BK171.out 1
           have hfz47_2 := blk_frozen BK171.out 2
           have hfz47_3 := blk_frozen BK171.out 3
           have hfz47_4 := blk_frozen BK171.out 4
           have hfz47_5 := blk_frozen BK171.out 5
           have hfz47_6 := blk_frozen BK171.out 6
           go_wp2_with (first | ((with_reducible refine gate_callee (f := 65) rfl ?_); refine goesL_ (some 55) rfl rfl Try.func65 (by kernel_rfl) rfl #[.slice (some ad172) l0.length c0, .int .i64 t173] rfl z1_ ?_; (with_reducible refine (spec_KidsOf.calls kj15 _ _ l0 t173 t179 _ ?side1 ?side2 A35.out).mono ?_); (case side1 => exact z4_); (case side2 => exact HC0.out); rintro e w48 ⟨v180, rfl, ho0, hb⟩; refine ⟨_, rfl, ?_⟩; replace HO_163000 := Aside0.mk (Kd.R_below z33_ hb); have HO181 := Aside0.mk (Kd.R_lower ho0 (below_size z5_)); replace BK161 := Aside0.mk (blk_below (g := gb161) (o := .cells #[.slice none 0 0] 28 (0, 0)) z19_ hb); replace BK162 := Aside0.mk (blk_below (g := gb162) (o := .cells #[u163000] 28 (0, 0)) z22_ hb); replace BK171 := Aside0.mk (blk_below (g := gb171) (o := .cells #[.bool true, .int .i64 ((rd_T55 l0 x4_1).f0), .int .i64 t173, .int .i64 x172003_15, .int .i64 x172004_15, .int .i64 t169, .int .i64 t170] 90 (0, 0)) z38_ hb); replace HB := Aside0.mk (below_step z5_ hb); (try clear hb ho0)) | ((with_reducible refine gate_callee (f := 66) rfl ?_); refine goesL_ (some 58) rfl rfl Try.func66 (by kernel_rfl) rfl #[.slice (some ad172) l0.length c0, .int .i64 x4_1] rfl z1_ ?_; (with_reducible refine (spec_KidRank.calls kj15 _ _ l0 x4_1 t182 _ ?side1 ?side2 A36.out).mono ?_); (case side1 => exact z4_); (case side2 => exact HC0.out); rintro e w49 ⟨rfl, hb⟩; refine ⟨_, rfl, ?_⟩; replace HO_163000 := Aside0.mk (Kd.R_below z33_ hb); replace HO181 := Aside0.mk (Kd.R_below z107_ hb); replace BK161 := Aside0.mk (blk_below (g := gb161) (o := .cells #[.slice none 0 0] 28 (0, 0)) z19_ hb); replace BK162 := Aside0.mk (blk_below (g := gb162) (o := .cells #[u163000] 28 (0, 0)) z22_ hb); replace BK171 := Aside0.mk (blk_below (g := gb171) (o := .cells #[.bool true, .int .i64 ((rd_T55 l0 x4_1).f0), .int .i64 t173, .int .i64 x172003_15, .int .i64 x172004_15, .int .i64 t169, .int .i64 t170] 90 (0, 0)) z38_ hb); replace HB := Aside0.mk (below_step z5_ hb); (try clear hb); obtain ⟨Ao50, co50, eo50⟩ := Kd.R_slice HO181.out; subst eo50; have p183 : 0 ≤ ((ji38) : Int) := odt_; have q183 : (ji38) < (t179.length : Int) := odt_; obtain ⟨ad183, e183, hx183_0⟩ := Kd.at_int (Kd.R_reads' HO181.out).2.2 (ji38) p183 q183; cases e183; replace p183 := eq_true p183; replace q183 := eq_true q183; have hcz51_0 : w49.cell? ⟨gb171, 0, none⟩ = some (.bool true) := (blk_cell BK171.out 0).trans rfl; have hcz51_1 : w49.cell? ⟨gb171, 1, none⟩ = some (.int .i64 ((rd_T55 l0 x4_1).f0)) := (blk_cell BK171.out 1).trans rfl; have hcz51_2 : w49.cell? ⟨gb171, 2, none⟩ = some (.int .i64 t173) := (blk_cell BK171.out 2).trans rfl; have hcz51_3 : w49.cell? ⟨gb171, 3, none⟩ = some (.int .i64 x172003_15) := (blk_cell BK171.out 3).trans rfl; have hcz51_4 : w49.cell? ⟨gb171, 4, none⟩ = some (.int .i64 x172004_15) := (blk_cell BK171.out 4).trans rfl; have hcz51_5 : w49.cell? ⟨gb171, 5, none⟩ = some (.int .i64 t169) := (blk_cell BK171.out 5).trans rfl; have hcz51_6 : w49.cell? ⟨gb171, 6, none⟩ = some (.int .i64 t170) := (blk_cell BK171.out 6).trans rfl; have hfz51_0 := blk_frozen BK171.out 0; have hfz51_1 := blk_frozen BK171.out 1; have hfz51_2 := blk_frozen BK171.out 2; have hfz51_3 := blk_frozen BK171.out 3; have hfz51_4 := blk_frozen BK171.out 4; have hfz51_5 := blk_frozen BK171.out 5; have hfz51_6 := blk_frozen BK171.out 6; have p184 : 0 ≤ ((ji42) : Int) := odt_; have q184 : (ji42) < (t179.length : Int) := odt_; obtain ⟨ad184, e184, hx184_0⟩ := Kd.at_int (Kd.R_reads' HO181.out).2.2 (ji42) p184 q184; obtain rfl : ad183 = ad184 := (by injection e184); have hn184_0 : ad183.block ≠ gb171 := Kd.own_blk (Kd.R_ne HO181.out BK171.out (by decide)); replace hx184_0 := (cell_far (p := ⟨gb171, 5, none⟩) (by first | (rw [add_block]; exact hn184_0) | (show (Addr.add _ _).block ≠ _; rw [add_block]; exact hn184_0) | exact hn184_0) (.int .i64 (rd t179 (ji38)))).trans hx184_0; clear hn184_0; replace p184 := eq_true p184; replace q184 := eq_true q184; have hnb52 := NB162_161.out; have hnc52 := NB161_162.out; have hcz53_0 : w49.cell? ⟨gb162, 0, none⟩ = some (u163000) := (blk_cell BK162.out 0).trans rfl; have hfz53_0 := blk_frozen BK162.out 0) | ((with_reducible refine gate_builtin (b := .append) (xs := #[.tmp 79, .tmp 81]) rfl ?_); at_builtin; refine Kd.R_append k90 (w0 := w) w.heap.size rfl (.tmp 79) (.tmp 81) 26 90 (.agg #[(.bool false), (.int .i64 0), (.int .i64 0), (.int .i64 0), (.int .i64 0), (.int .i64 0), (.int .i64 0)]) 56 rfl Try.underlying26 info90 rfl (by decide) (by omega) u163000 x163000_1 (⟨true, ((rd_T55 l0 x4_1).f0), t173, x172003_15, x172004_15, rd t179 (ji38), rd t179 (ji42)⟩ : S90) [.bool true, .int .i64 ((rd_T55 l0 x4_1).f0), .int .i64 t173, .int .i64 x172003_15, .int .i64 x172004_15, .int .i64 (rd t179 (ji38)), .int .i64 (rd t179 (ji42))] (fun k_ => k_ ≠ gb171) (fun _ => False) rfl z13_ ?aP (fun _ hk => hk.elim) ?aF ?aO ?aB ?aS ?aL ?_; (case aP => exact k90_mkM _ _ _ (⟨true, ((rd_T55 l0 x4_1).f0), t173, x172003_15, x172004_15, rd t179 (ji38), rd t179 (ji42)⟩ : S90)); (case aB => exact z50_); (case aF => exact (fun k_ hk => Kd.freshB (g := gb171) (o := .cells #[.bool true, .int .i64 ((rd_T55 l0 x4_1).f0), .int .i64 t173, .int .i64 x172003_15, .int .i64 x172004_15, .int .i64 (rd t179 (ji38)), .int .i64 (rd t179 (ji42))] 90 (0, 0)) z42_ k_ hk)); (case aO => exact (by (with_reducible repeat (first | apply Kd.R_alloc | apply Kd.R_drewN | apply Kd.R_drew)); exact Kd.R_mono (Kd.R_far (p := ⟨gb171, 6, none⟩) (Kd.R_far (p := ⟨gb171, 5, none⟩) (Kd.R_mono HO_163000.out (fun k_ hk => (⟨hk, hk⟩ : _ ∧ k_ ≠ gb171))) (fun _ hk => hk.2) (.int .i64 (rd t179 (ji38)))) (fun _ hk => hk.2) (.int .i64 (rd t179 (ji42)))) (fun _ hk => hk.1))); (case aS => exact z49_); (case aL => have := LMc44.out; omega); intro v186 w54 ho hb hg hat; rw [← Ny185.out] at ho; replace BK161 := Aside0.mk (blk_grown (g := gb161) (o := .cells #[.slice none 0 0] 28 (0, 0)) z75_ hg (Kd.R_ne HO_163000.out BK161.out (by decide))); replace BK162 := Aside0.mk (blk_grown (g := gb162) (o := .cells #[u163000] 28 (0, 0)) z76_ hg (Kd.R_ne HO_163000.out BK162.out (by decide))); replace HO181 := Aside0.mk (Kd.R_over' (by (with_reducible repeat (first | apply Kd.R_alloc | apply Kd.R_drewN | apply Kd.R_drew)); exact (Kd.R_mono (Kd.R_far (p := ⟨gb171, 6, none⟩) (Kd.R_far (p := ⟨gb171, 5, none⟩) (Kd.R_types HO181.out BK171.out (by decide)) (fun _ hk => hk.2) (.int .i64 (rd t179 (ji38)))) (fun _ hk => hk.2) (.int .i64 (rd t179 (ji42)))) (fun _ h_ => h_.1))) (Kd.R_typed (by (with_reducible repeat (first | apply Kd.R_alloc | apply Kd.R_drewN | apply Kd.R_drew)); exact (Kd.R_mono (Kd.R_far (p := ⟨gb171, 6, none⟩) (Kd.R_far (p := ⟨gb171, 5, none⟩) (Kd.R_mono HO_163000.out (fun k_ hk => (⟨hk, hk⟩ : _ ∧ k_ ≠ gb171))) (fun _ hk => hk.2) (.int .i64 (rd t179 (ji38)))) (fun _ hk => hk.2) (.int .i64 (rd t179 (ji42)))) (fun _ h_ => h_.1)))) (by decide) hg); replace BK171 := Aside0.mk (blk_grown (g := gb171) (o := .cells #[.bool true, .int .i64 ((rd_T55 l0 x4_1).f0), .int .i64 t173, .int .i64 x172003_15, .int .i64 x172004_15, .int .i64 (rd t179 (ji38)), .int .i64 (rd t179 (ji42))] 90 (0, 0)) z42_ hg (Kd.R_away HO_163000.out (fun _ hk => hk))); replace HB := Aside0.mk (hb); have HO187 := Aside0.mk (ho); clear HO_163000; clear ho hb hg hat; obtain ⟨Ao55, co55, eo55⟩ := Kd.R_slice HO187.out; subst eo55; have hcz56_0 : w54.cell? ⟨gb162, 0, none⟩ = some (u163000) := (blk_cell BK162.out 0).trans rfl; have hfz56_0 := blk_frozen BK162.out 0))
           go_roundg kj15
           case measure => have := HK1.out; have := HJ5.out; have := HJ15.out; omega
           case rel => exact ⟨(wrap64 (x4_1 + 1)), (y185), (.slice Ao55 y185.length co55), z12_, H', ⟨z146_⟩, ⟨by (with_reducible repeat (first | apply Kd.R_alloc | apply Kd.R_drewN | apply Kd.R_drew)); exact Kd.R_mono (Kd.R_far (p := ⟨gb162, 0, none⟩) (Kd.R_types HO187.out BK162.out (by decide)) (fun _ hk => hk.2) (.slice Ao55 y185.length co55)) (fun _ hk => trivial)⟩, ⟨z37_⟩, ⟨z46_⟩, ⟨z5_⟩⟩
          ·rw [if_neg c41] at H
           have c41b0 : decide ((wrap64 (t182 + 1)) < (t179.length : Int)) = false := decide_eq_false c41
           clear c41
           obtain ⟨c57, H⟩ := ifs_ H
           have LMc57 := Aside0.mk c57
           clear c57
           obtain ⟨y188, hy188⟩ : ∃ y_ : List (S90), y_ = (x163000_1 ++ [(⟨true, ((rd_T55 l0 x4_1).f0), t173, x172003_15, x172004_15, rd t179 (ji38), t170⟩ : S90)]) := ⟨_, rfl⟩
           replace H : (spec_DomFrom.l0 kj15 l0 (wrap64 (x4_1 + 1)) y188) = some r := by first | (rw [hy188]; with_reducible exact H) | (have H2_ := (Option.bind_some _ _).symm.trans H; rw [hy188]; with_reducible exact H2_) | (have H2_ := (Option.bind_some _ _).symm.trans H; with_reducible exact H2_) | with_reducible exact H | (rw [hy188]; exact H) | exact H
           have Ny188 := Aside0.mk hy188
           clear hy188
           have H' := Aside0.mk H
           clear H
           have hnb58 := NB171_161.out
           have hnc58 := NB161_171.out
           have hnb59 := NB171_162.out
           have hnc59 := NB162_171.out
           have hcz60_0 : wc.cell? ⟨gb171, 0, none⟩ = some (.bool true) := (blk_cell BK171.out 0).trans rfl
           have hcz60_1 : wc.cell? ⟨gb171, 1, none⟩ = some (.int .i64 ((rd_T55 l0 x4_1).f0)) := (blk_cell BK171.out 1).trans rfl
           have hcz60_2 : wc.cell? ⟨gb171, 2, none⟩ = some (.int .i64 t173) := (blk_cell BK171.out 2).trans rfl
           have hcz60_3 : wc.cell? ⟨gb171, 3, none⟩ = some (.int .i64 x172003_15) := (blk_cell BK171.out 3).trans rfl
           have hcz60_4 : wc.cell? ⟨gb171, 4, none⟩ = some (.int .i64 x172004_15) := (blk_cell BK171.out 4).trans rfl
           have hcz60_5 : wc.cell? ⟨gb171, 5, none⟩ = some (.int .i64 t169) := (blk_cell BK171.out 5).trans rfl
           have hcz60_6 : wc.cell? ⟨gb171, 6, none⟩ = some (.int .i64 t170) := (blk_cell BK171.out 6).trans rfl
           have hfz60_0 := blk_frozen BK171.out 0
           have hfz60_1 := blk_frozen BK171.out 1
           have hfz60_2 := blk_frozen BK171.out 2
           have hfz60_3 := blk_frozen BK171.out 3
           have hfz60_4 := blk_frozen BK171.out 4
           have hfz60_5 := blk_frozen BK171.out 5
           have hfz60_6 := blk_frozen BK171.out 6
           go_wp2_with (first | ((with_reducible refine gate_callee (f := 65) rfl ?_); refine goesL_ (some 55) rfl rfl Try.func65 (by kernel_rfl) rfl #[.slice (some ad172) l0.length c0, .int .i64 t173] rfl z1_ ?_; (with_reducible refine (spec_KidsOf.calls kj15 _ _ l0 t173 t179 _ ?side1 ?side2 A35.out).mono ?_); (case side1 => exact z4_); (case side2 => exact HC0.out); rintro e w61 ⟨v180, rfl, ho0, hb⟩; refine ⟨_, rfl, ?_⟩; replace HO_163000 := Aside0.mk (Kd.R_below z33_ hb); have HO181 := Aside0.mk (Kd.R_lower ho0 (below_size z5_)); replace BK161 := Aside0.mk (blk_below (g := gb161) (o := .cells #[.slice none 0 0] 28 (0, 0)) z19_ hb); replace BK162 := Aside0.mk (blk_below (g := gb162) (o := .cells #[u163000] 28 (0, 0)) z22_ hb); replace BK171 := Aside0.mk (blk_below (g := gb171) (o := .cells #[.bool true, .int .i64 ((rd_T55 l0 x4_1).f0), .int .i64 t173, .int .i64 x172003_15, .int .i64 x172004_15, .int .i64 t169, .int .i64 t170] 90 (0, 0)) z38_ hb); replace HB := Aside0.mk (below_step z5_ hb); (try clear hb ho0)) | ((with_reducible refine gate_callee (f := 66) rfl ?_); refine goesL_ (some 58) rfl rfl Try.func66 (by kernel_rfl) rfl #[.slice (some ad172) l0.length c0, .int .i64 x4_1] rfl z1_ ?_; (with_reducible refine (spec_KidRank.calls kj15 _ _ l0 x4_1 t182 _ ?side1 ?side2 A36.out).mono ?_); (case side1 => exact z4_); (case side2 => exact HC0.out); rintro e w62 ⟨rfl, hb⟩; refine ⟨_, rfl, ?_⟩; replace HO_163000 := Aside0.mk (Kd.R_below z33_ hb); replace HO181 := Aside0.mk (Kd.R_below z107_ hb); replace BK161 := Aside0.mk (blk_below (g := gb161) (o := .cells #[.slice none 0 0] 28 (0, 0)) z19_ hb); replace BK162 := Aside0.mk (blk_below (g := gb162) (o := .cells #[u163000] 28 (0, 0)) z22_ hb); replace BK171 := Aside0.mk (blk_below (g := gb171) (o := .cells #[.bool true, .int .i64 ((rd_T55 l0 x4_1).f0), .int .i64 t173, .int .i64 x172003_15, .int .i64 x172004_15, .int .i64 t169, .int .i64 t170] 90 (0, 0)) z38_ hb); replace HB := Aside0.mk (below_step z5_ hb); (try clear hb); obtain ⟨Ao63, co63, eo63⟩ := Kd.R_slice HO181.out; subst eo63; have p183 : 0 ≤ ((ji38) : Int) := odt_; have q183 : (ji38) < (t179.length : Int) := odt_; obtain ⟨ad183, e183, hx183_0⟩ := Kd.at_int (Kd.R_reads' HO181.out).2.2 (ji38) p183 q183; cases e183; replace p183 := eq_true p183; replace q183 := eq_true q183; have hcz64_0 : w62.cell? ⟨gb171, 0, none⟩ = some (.bool true) := (blk_cell BK171.out 0).trans rfl; have hcz64_1 : w62.cell? ⟨gb171, 1, none⟩ = some (.int .i64 ((rd_T55 l0 x4_1).f0)) := (blk_cell BK171.out 1).trans rfl; have hcz64_2 : w62.cell? ⟨gb171, 2, none⟩ = some (.int .i64 t173) := (blk_cell BK171.out 2).trans rfl; have hcz64_3 : w62.cell? ⟨gb171, 3, none⟩ = some (.int .i64 x172003_15) := (blk_cell BK171.out 3).trans rfl; have hcz64_4 : w62.cell? ⟨gb171, 4, none⟩ = some (.int .i64 x172004_15) := (blk_cell BK171.out 4).trans rfl; have hcz64_5 : w62.cell? ⟨gb171, 5, none⟩ = some (.int .i64 t169) := (blk_cell BK171.out 5).trans rfl; have hcz64_6 : w62.cell? ⟨gb171, 6, none⟩ = some (.int .i64 t170) := (blk_cell BK171.out 6).trans rfl; have hfz64_0 := blk_frozen BK171.out 0; have hfz64_1 := blk_frozen BK171.out 1; have hfz64_2 := blk_frozen BK171.out 2; have hfz64_3 := blk_frozen BK171.out 3; have hfz64_4 := blk_frozen BK171.out 4; have hfz64_5 := blk_frozen BK171.out 5; have hfz64_6 := blk_frozen BK171.out 6; have hnb65 := NB162_161.out; have hnc65 := NB161_162.out; have hcz66_0 : w62.cell? ⟨gb162, 0, none⟩ = some (u163000) := (blk_cell BK162.out 0).trans rfl; have hfz66_0 := blk_frozen BK162.out 0) | ((with_reducible refine gate_builtin (b := .append) (xs := #[.tmp 79, .tmp 81]) rfl ?_); at_builtin; refine Kd.R_append k90 (w0 := w) w.heap.size rfl (.tmp 79) (.tmp 81) 26 90 (.agg #[(.bool false), (.int .i64 0), (.int .i64 0), (.int .i64 0), (.int .i64 0), (.int .i64 0), (.int .i64 0)]) 56 rfl Try.underlying26 info90 rfl (by decide) (by omega) u163000 x163000_1 (⟨true, ((rd_T55 l0 x4_1).f0), t173, x172003_15, x172004_15, rd t179 (ji38), t170⟩ : S90) [.bool true, .int .i64 ((rd_T55 l0 x4_1).f0), .int .i64 t173, .int .i64 x172003_15, .int .i64 x172004_15, .int .i64 (rd t179 (ji38)), .int .i64 t170] (fun k_ => k_ ≠ gb171) (fun _ => False) rfl z13_ ?aP (fun _ hk => hk.elim) ?aF ?aO ?aB ?aS ?aL ?_; (case aP => exact k90_mkM _ _ _ (⟨true, ((rd_T55 l0 x4_1).f0), t173, x172003_15, x172004_15, rd t179 (ji38), t170⟩ : S90)); (case aB => exact z50_); (case aF => exact (fun k_ hk => Kd.freshB (g := gb171) (o := .cells #[.bool true, .int .i64 ((rd_T55 l0 x4_1).f0), .int .i64 t173, .int .i64 x172003_15, .int .i64 x172004_15, .int .i64 (rd t179 (ji38)), .int .i64 t170] 90 (0, 0)) z72_ k_ hk)); (case aO => exact (by (with_reducible repeat (first | apply Kd.R_alloc | apply Kd.R_drewN | apply Kd.R_drew)); exact Kd.R_mono (Kd.R_far (p := ⟨gb171, 5, none⟩) (Kd.R_mono HO_163000.out (fun k_ hk => (⟨hk, hk⟩ : _ ∧ k_ ≠ gb171))) (fun _ hk => hk.2) (.int .i64 (rd t179 (ji38)))) (fun _ hk => hk.1))); (case aS => exact z49_); (case aL => have := LMc57.out; omega); intro v189 w67 ho hb hg hat; rw [← Ny188.out] at ho; replace BK161 := Aside0.mk (blk_grown (g := gb161) (o := .cells #[.slice none 0 0] 28 (0, 0)) z80_ hg (Kd.R_ne HO_163000.out BK161.out (by decide))); replace BK162 := Aside0.mk (blk_grown (g := gb162) (o := .cells #[u163000] 28 (0, 0)) z81_ hg (Kd.R_ne HO_163000.out BK162.out (by decide))); replace HO181 := Aside0.mk (Kd.R_over' (by (with_reducible repeat (first | apply Kd.R_alloc | apply Kd.R_drewN | apply Kd.R_drew)); exact (Kd.R_mono (Kd.R_far (p := ⟨gb171, 5, none⟩) (Kd.R_types HO181.out BK171.out (by decide)) (fun _ hk => hk.2) (.int .i64 (rd t179 (ji38)))) (fun _ h_ => h_.1))) (Kd.R_typed (by (with_reducible repeat (first | apply Kd.R_alloc | apply Kd.R_drewN | apply Kd.R_drew)); exact (Kd.R_mono (Kd.R_far (p := ⟨gb171, 5, none⟩) (Kd.R_mono HO_163000.out (fun k_ hk => (⟨hk, hk⟩ : _ ∧ k_ ≠ gb171))) (fun _ hk => hk.2) (.int .i64 (rd t179 (ji38)))) (fun _ h_ => h_.1)))) (by decide) hg); replace BK171 := Aside0.mk (blk_grown (g := gb171) (o := .cells #[.bool true, .int .i64 ((rd_T55 l0 x4_1).f0), .int .i64 t173, .int .i64 x172003_15, .int .i64 x172004_15, .int .i64 (rd t179 (ji38)), .int .i64 t170] 90 (0, 0)) z72_ hg (Kd.R_away HO_163000.out (fun _ hk => hk))); replace HB := Aside0.mk (hb); have HO190 := Aside0.mk (ho); clear HO_163000; clear ho hb hg hat; obtain ⟨Ao68, co68, eo68⟩ := Kd.R_slice HO190.out; subst eo68; have hcz69_0 : w67.cell? ⟨gb162, 0, none⟩ = some (u163000) := (blk_cell BK162.out 0).trans rfl; have hfz69_0 := blk_frozen BK162.out 0))
           go_roundg kj15
           case measure => have := HK1.out; have := HJ5.out; have := HJ15.out; omega
           case rel => exact ⟨(wrap64 (x4_1 + 1)), (y188), (.slice Ao68 y188.length co68), z12_, H', ⟨z146_⟩, ⟨by (with_reducible repeat (first | apply Kd.R_alloc | apply Kd.R_drewN | apply Kd.R_drew)); exact Kd.R_mono (Kd.R_far (p := ⟨gb162, 0, none⟩) (Kd.R_types HO190.out BK162.out (by decide)) (fun _ hk => hk.2) (.slice Ao68 y188.length co68)) (fun _ hk => trivial)⟩, ⟨z37_⟩, ⟨z46_⟩, ⟨z5_⟩⟩
         ·rw [if_neg c37] at H
          have c37b0 : decide (0 < t182) = false := decide_eq_false c37
          clear c37
          by_cases c70 : (wrap64 (t182 + 1)) < (t179.length : Int)
          ·rw [if_pos c70] at H
           have c70b0 : decide ((wrap64 (t182 + 1)) < (t179.length : Int)) = true := decide_eq_true c70
           clear c70
           obtain ⟨ji71, hji71⟩ : ∃ j_ : Int, (wrap64 (t182 + 1)) = j_ := ⟨_, rfl⟩
           replace H : (if 0 ≤ (ji71) then (if x163000_1.length < 2513169434916 then (spec_DomFrom.l0 kj15 l0 (wrap64 (x4_1 + 1)) (x163000_1 ++ [(⟨true, ((rd_T55 l0 x4_1).f0), t173, x172003_15, x172004_15, t169, rd t179 (ji71)⟩ : S90)])) else (none)) else (none)) = some r := by first | (rw [hji71] at H; exact H) | (simp only [hji71] at H ⊢; exact H)
           (try rw [hji71] at c70b0)
           (try rw [hji71] at A35)
           (try rw [hji71] at A36)
           have hji71w : (IntKind.i64.wrap (t182 + 1)) = ji71 := (i64_w _).trans hji71
           obtain ⟨c72b0, H⟩ := ifd_ H
           obtain ⟨c73, H⟩ := ifs_ H
           have LMc73 := Aside0.mk c73
           clear c73
           obtain ⟨y192, hy192⟩ : ∃ y_ : List (S90), y_ = (x163000_1 ++ [(⟨true, ((rd_T55 l0 x4_1).f0), t173, x172003_15, x172004_15, t169, rd t179 (ji71)⟩ : S90)]) := ⟨_, rfl⟩
           replace H : (spec_DomFrom.l0 kj15 l0 (wrap64 (x4_1 + 1)) y192) = some r := by first | (rw [hy192]; with_reducible exact H) | (have H2_ := (Option.bind_some _ _).symm.trans H; rw [hy192]; with_reducible exact H2_) | (have H2_ := (Option.bind_some _ _).symm.trans H; with_reducible exact H2_) | with_reducible exact H | (rw [hy192]; exact H) | exact H
           have Ny192 := Aside0.mk hy192
           clear hy192
           have H' := Aside0.mk H
           clear H
           have hnb74 := NB171_161.out
           have hnc74 := NB161_171.out
           have hnb75 := NB171_162.out
           have hnc75 := NB162_171.out
           have hcz76_0 : wc.cell? ⟨gb171, 0, none⟩ = some (.bool true) := (blk_cell BK171.out 0).trans rfl
           have hcz76_1 : wc.cell? ⟨gb171, 1, none⟩ = some (.int .i64 ((rd_T55 l0 x4_1).f0)) := (blk_cell BK171.out 1).trans rfl
           have hcz76_2 : wc.cell? ⟨gb171, 2, none⟩ = some (.int .i64 t173) := (blk_cell BK171.out 2).trans rfl
           have hcz76_3 : wc.cell? ⟨gb171, 3, none⟩ = some (.int .i64 x172003_15) := (blk_cell BK171.out 3).trans rfl
           have hcz76_4 : wc.cell? ⟨gb171, 4, none⟩ = some (.int .i64 x172004_15) := (blk_cell BK171.out 4).trans rfl
           have hcz76_5 : wc.cell? ⟨gb171, 5, none⟩ = some (.int .i64 t169) := (blk_cell BK171.out 5).trans rfl
           have hcz76_6 : wc.cell? ⟨gb171, 6, none⟩ = some (.int .i64 t170) := (blk_cell BK171.out 6).trans rfl
           have hfz76_0 := blk_frozen BK171.out 0
           have hfz76_1 := blk_frozen BK171.out 1
           have hfz76_2 := blk_frozen BK171.out 2
           have hfz76_3 := blk_frozen BK171.out 3
           have hfz76_4 := blk_frozen BK171.out 4
           have hfz76_5 := blk_frozen BK171.out 5
           have hfz76_6 := blk_frozen BK171.out 6
           go_wp2_with (first | ((with_reducible refine gate_callee (f := 65) rfl ?_); refine goesL_ (some 55) rfl rfl Try.func65 (by kernel_rfl) rfl #[.slice (some ad172) l0.length c0, .int .i64 t173] rfl z1_ ?_; (with_reducible refine (spec_KidsOf.calls kj15 _ _ l0 t173 t179 _ ?side1 ?side2 A35.out).mono ?_); (case side1 => exact z4_); (case side2 => exact HC0.out); rintro e w77 ⟨v180, rfl, ho0, hb⟩; refine ⟨_, rfl, ?_⟩; replace HO_163000 := Aside0.mk (Kd.R_below z33_ hb); have HO181 := Aside0.mk (Kd.R_lower ho0 (below_size z5_)); replace BK161 := Aside0.mk (blk_below (g := gb161) (o := .cells #[.slice none 0 0] 28 (0, 0)) z19_ hb); replace BK162 := Aside0.mk (blk_below (g := gb162) (o := .cells #[u163000] 28 (0, 0)) z22_ hb); replace BK171 := Aside0.mk (blk_below (g := gb171) (o := .cells #[.bool true, .int .i64 ((rd_T55 l0 x4_1).f0), .int .i64 t173, .int .i64 x172003_15, .int .i64 x172004_15, .int .i64 t169, .int .i64 t170] 90 (0, 0)) z38_ hb); replace HB := Aside0.mk (below_step z5_ hb); (try clear hb ho0)) | ((with_reducible refine gate_callee (f := 66) rfl ?_); refine goesL_ (some 58) rfl rfl Try.func66 (by kernel_rfl) rfl #[.slice (some ad172) l0.length c0, .int .i64 x4_1] rfl z1_ ?_; (with_reducible refine (spec_KidRank.calls kj15 _ _ l0 x4_1 t182 _ ?side1 ?side2 A36.out).mono ?_); (case side1 => exact z4_); (case side2 => exact HC0.out); rintro e w78 ⟨rfl, hb⟩; refine ⟨_, rfl, ?_⟩; replace HO_163000 := Aside0.mk (Kd.R_below z33_ hb); replace HO181 := Aside0.mk (Kd.R_below z107_ hb); replace BK161 := Aside0.mk (blk_below (g := gb161) (o := .cells #[.slice none 0 0] 28 (0, 0)) z19_ hb); replace BK162 := Aside0.mk (blk_below (g := gb162) (o := .cells #[u163000] 28 (0, 0)) z22_ hb); replace BK171 := Aside0.mk (blk_below (g := gb171) (o := .cells #[.bool true, .int .i64 ((rd_T55 l0 x4_1).f0), .int .i64 t173, .int .i64 x172003_15, .int .i64 x172004_15, .int .i64 t169, .int .i64 t170] 90 (0, 0)) z38_ hb); replace HB := Aside0.mk (below_step z5_ hb); (try clear hb); obtain ⟨Ao79, co79, eo79⟩ := Kd.R_slice HO181.out; subst eo79; have p191 : 0 ≤ ((ji71) : Int) := odt_; have q191 : (ji71) < (t179.length : Int) := odt_; obtain ⟨ad191, e191, hx191_0⟩ := Kd.at_int (Kd.R_reads' HO181.out).2.2 (ji71) p191 q191; cases e191; replace p191 := eq_true p191; replace q191 := eq_true q191; have hcz80_0 : w78.cell? ⟨gb171, 0, none⟩ = some (.bool true) := (blk_cell BK171.out 0).trans rfl; have hcz80_1 : w78.cell? ⟨gb171, 1, none⟩ = some (.int .i64 ((rd_T55 l0 x4_1).f0)) := (blk_cell BK171.out 1).trans rfl; have hcz80_2 : w78.cell? ⟨gb171, 2, none⟩ = some (.int .i64 t173) := (blk_cell BK171.out 2).trans rfl; have hcz80_3 : w78.cell? ⟨gb171, 3, none⟩ = some (.int .i64 x172003_15) := (blk_cell BK171.out 3).trans rfl; have hcz80_4 : w78.cell? ⟨gb171, 4, none⟩ = some (.int .i64 x172004_15) := (blk_cell BK171.out 4).trans rfl; have hcz80_5 : w78.cell? ⟨gb171, 5, none⟩ = some (.int .i64 t169) := (blk_cell BK171.out 5).trans rfl; have hcz80_6 : w78.cell? ⟨gb171, 6, none⟩ = some (.int .i64 t170) := (blk_cell BK171.out 6).trans rfl; have hfz80_0 := blk_frozen BK171.out 0; have hfz80_1 := blk_frozen BK171.out 1; have hfz80_2 := blk_frozen BK171.out 2; have hfz80_3 := blk_frozen BK171.out 3; have hfz80_4 := blk_frozen BK171.out 4; have hfz80_5 := blk_frozen BK171.out 5; have hfz80_6 := blk_frozen BK171.out 6; have hnb81 := NB162_161.out; have hnc81 := NB161_162.out; have hcz82_0 : w78.cell? ⟨gb162, 0, none⟩ = some (u163000) := (blk_cell BK162.out 0).trans rfl; have hfz82_0 := blk_frozen BK162.out 0) | ((with_reducible refine gate_builtin (b := .append) (xs := #[.tmp 79, .tmp 81]) rfl ?_); at_builtin; refine Kd.R_append k90 (w0 := w) w.heap.size rfl (.tmp 79) (.tmp 81) 26 90 (.agg #[(.bool false), (.int .i64 0), (.int .i64 0), (.int .i64 0), (.int .i64 0), (.int .i64 0), (.int .i64 0)]) 56 rfl Try.underlying26 info90 rfl (by decide) (by omega) u163000 x163000_1 (⟨true, ((rd_T55 l0 x4_1).f0), t173, x172003_15, x172004_15, t169, rd t179 (ji71)⟩ : S90) [.bool true, .int .i64 ((rd_T55 l0 x4_1).f0), .int .i64 t173, .int .i64 x172003_15, .int .i64 x172004_15, .int .i64 t169, .int .i64 (rd t179 (ji71))] (fun k_ => k_ ≠ gb171) (fun _ => False) rfl z13_ ?aP (fun _ hk => hk.elim) ?aF ?aO ?aB ?aS ?aL ?_; (case aP => exact k90_mkM _ _ _ (⟨true, ((rd_T55 l0 x4_1).f0), t173, x172003_15, x172004_15, t169, rd t179 (ji71)⟩ : S90)); (case aB => exact z50_); (case aF => exact (fun k_ hk => Kd.freshB (g := gb171) (o := .cells #[.bool true, .int .i64 ((rd_T55 l0 x4_1).f0), .int .i64 t173, .int .i64 x172003_15, .int .i64 x172004_15, .int .i64 t169, .int .i64 (rd t179 (ji71))] 90 (0, 0)) z73_ k_ hk)); (case aO => exact (by (with_reducible repeat (first | apply Kd.R_alloc | apply Kd.R_drewN | apply Kd.R_drew)); exact Kd.R_mono (Kd.R_far (p := ⟨gb171, 6, none⟩) (Kd.R_mono HO_163000.out (fun k_ hk => (⟨hk, hk⟩ : _ ∧ k_ ≠ gb171))) (fun _ hk => hk.2) (.int .i64 (rd t179 (ji71)))) (fun _ hk => hk.1))); (case aS => exact z49_); (case aL => have := LMc73.out; omega); intro v193 w83 ho hb hg hat; rw [← Ny192.out] at ho; replace BK161 := Aside0.mk (blk_grown (g := gb161) (o := .cells #[.slice none 0 0] 28 (0, 0)) z80_ hg (Kd.R_ne HO_163000.out BK161.out (by decide))); replace BK162 := Aside0.mk (blk_grown (g := gb162) (o := .cells #[u163000] 28 (0, 0)) z81_ hg (Kd.R_ne HO_163000.out BK162.out (by decide))); replace HO181 := Aside0.mk (Kd.R_over' (by (with_reducible repeat (first | apply Kd.R_alloc | apply Kd.R_drewN | apply Kd.R_drew)); exact (Kd.R_mono (Kd.R_far (p := ⟨gb171, 6, none⟩) (Kd.R_types HO181.out BK171.out (by decide)) (fun _ hk => hk.2) (.int .i64 (rd t179 (ji71)))) (fun _ h_ => h_.1))) (Kd.R_typed (by (with_reducible repeat (first | apply Kd.R_alloc | apply Kd.R_drewN | apply Kd.R_drew)); exact (Kd.R_mono (Kd.R_far (p := ⟨gb171, 6, none⟩) (Kd.R_mono HO_163000.out (fun k_ hk => (⟨hk, hk⟩ : _ ∧ k_ ≠ gb171))) (fun _ hk => hk.2) (.int .i64 (rd t179 (ji71)))) (fun _ h_ => h_.1)))) (by decide) hg); replace BK171 := Aside0.mk (blk_grown (g := gb171) (o := .cells #[.bool true, .int .i64 ((rd_T55 l0 x4_1).f0), .int .i64 t173, .int .i64 x172003_15, .int .i64 x172004_15, .int .i64 t169, .int .i64 (rd t179 (ji71))] 90 (0, 0)) z73_ hg (Kd.R_away HO_163000.out (fun _ hk => hk))); replace HB := Aside0.mk (hb); have HO194 := Aside0.mk (ho); clear HO_163000; clear ho hb hg hat; obtain ⟨Ao84, co84, eo84⟩ := Kd.R_slice HO194.out; subst eo84; have hcz85_0 : w83.cell? ⟨gb162, 0, none⟩ = some (u163000) := (blk_cell BK162.out 0).trans rfl; have hfz85_0 := blk_frozen BK162.out 0))
           go_roundg kj15
           case measure => have := HK1.out; have := HJ5.out; have := HJ15.out; omega
           case rel => exact ⟨(wrap64 (x4_1 + 1)), (y192), (.slice Ao84 y192.length co84), z12_, H', ⟨z146_⟩, ⟨by (with_reducible repeat (first | apply Kd.R_alloc | apply Kd.R_drewN | apply Kd.R_drew)); exact Kd.R_mono (Kd.R_far (p := ⟨gb162, 0, none⟩) (Kd.R_types HO194.out BK162.out (by decide)) (fun _ hk => hk.2) (.slice Ao84 y192.length co84)) (fun _ hk => trivial)⟩, ⟨z37_⟩, ⟨z46_⟩, ⟨z5_⟩⟩
          ·rw [if_neg c70] at H
           have c70b0 : decide ((wrap64 (t182 + 1)) < (t179.length : Int)) = false := decide_eq_false c70
           clear c70
           obtain ⟨c86, H⟩ := ifs_ H
           have LMc86 := Aside0.mk c86
           clear c86
           obtain ⟨y195, hy195⟩ : ∃ y_ : List (S90), y_ = (x163000_1 ++ [(⟨true, ((rd_T55 l0 x4_1).f0), t173, x172003_15, x172004_15, t169, t170⟩ : S90)]) := ⟨_, rfl⟩
           replace H : (spec_DomFrom.l0 kj15 l0 (wrap64 (x4_1 + 1)) y195) = some r := by first | (rw [hy195]; with_reducible exact H) | (have H2_ := (Option.bind_some _ _).symm.trans H; rw [hy195]; with_reducible exact H2_) | (have H2_ := (Option.bind_some _ _).symm.trans H; with_reducible exact H2_) | with_reducible exact H | (rw [hy195]; exact H) | exact H
           have Ny195 := Aside0.mk hy195
           clear hy195
           have H' := Aside0.mk H
           clear H
           have hnb87 := NB171_161.out
           have hnc87 := NB161_171.out
           have hnb88 := NB171_162.out
           have hnc88 := NB162_171.out
           have hcz89_0 : wc.cell? ⟨gb171, 0, none⟩ = some (.bool true) := (blk_cell BK171.out 0).trans rfl
           have hcz89_1 : wc.cell? ⟨gb171, 1, none⟩ = some (.int .i64 ((rd_T55 l0 x4_1).f0)) := (blk_cell BK171.out 1).trans rfl
           have hcz89_2 : wc.cell? ⟨gb171, 2, none⟩ = some (.int .i64 t173) := (blk_cell BK171.out 2).trans rfl
           have hcz89_3 : wc.cell? ⟨gb171, 3, none⟩ = some (.int .i64 x172003_15) := (blk_cell BK171.out 3).trans rfl
           have hcz89_4 : wc.cell? ⟨gb171, 4, none⟩ = some (.int .i64 x172004_15) := (blk_cell BK171.out 4).trans rfl
           have hcz89_5 : wc.cell? ⟨gb171, 5, none⟩ = some (.int .i64 t169) := (blk_cell BK171.out 5).trans rfl
           have hcz89_6 : wc.cell? ⟨gb171, 6, none⟩ = some (.int .i64 t170) := (blk_cell BK171.out 6).trans rfl
           have hfz89_0 := blk_frozen BK171.out 0
           have hfz89_1 := blk_frozen BK171.out 1
           have hfz89_2 := blk_frozen BK171.out 2
           have hfz89_3 := blk_frozen BK171.out 3
           have hfz89_4 := blk_frozen BK171.out 4
           have hfz89_5 := blk_frozen BK171.out 5
           have hfz89_6 := blk_frozen BK171.out 6
           go_wp2_with (first | ((with_reducible refine gate_callee (f := 65) rfl ?_); refine goesL_ (some 55) rfl rfl Try.func65 (by kernel_rfl) rfl #[.slice (some ad172) l0.length c0, .int .i64 t173] rfl z1_ ?_; (with_reducible refine (spec_KidsOf.calls kj15 _ _ l0 t173 t179 _ ?side1 ?side2 A35.out).mono ?_); (case side1 => exact z4_); (case side2 => exact HC0.out); rintro e w90 ⟨v180, rfl, ho0, hb⟩; refine ⟨_, rfl, ?_⟩; replace HO_163000 := Aside0.mk (Kd.R_below z33_ hb); have HO181 := Aside0.mk (Kd.R_lower ho0 (below_size z5_)); replace BK161 := Aside0.mk (blk_below (g := gb161) (o := .cells #[.slice none 0 0] 28 (0, 0)) z19_ hb); replace BK162 := Aside0.mk (blk_below (g := gb162) (o := .cells #[u163000] 28 (0, 0)) z22_ hb); replace BK171 := Aside0.mk (blk_below (g := gb171) (o := .cells #[.bool true, .int .i64 ((rd_T55 l0 x4_1).f0), .int .i64 t173, .int .i64 x172003_15, .int .i64 x172004_15, .int .i64 t169, .int .i64 t170] 90 (0, 0)) z38_ hb); replace HB := Aside0.mk (below_step z5_ hb); (try clear hb ho0)) | ((with_reducible refine gate_callee (f := 66) rfl ?_); refine goesL_ (some 58) rfl rfl Try.func66 (by kernel_rfl) rfl #[.slice (some ad172) l0.length c0, .int .i64 x4_1] rfl z1_ ?_; (with_reducible refine (spec_KidRank.calls kj15 _ _ l0 x4_1 t182 _ ?side1 ?side2 A36.out).mono ?_); (case side1 => exact z4_); (case side2 => exact HC0.out); rintro e w91 ⟨rfl, hb⟩; refine ⟨_, rfl, ?_⟩; replace HO_163000 := Aside0.mk (Kd.R_below z33_ hb); replace HO181 := Aside0.mk (Kd.R_below z107_ hb); replace BK161 := Aside0.mk (blk_below (g := gb161) (o := .cells #[.slice none 0 0] 28 (0, 0)) z19_ hb); replace BK162 := Aside0.mk (blk_below (g := gb162) (o := .cells #[u163000] 28 (0, 0)) z22_ hb); replace BK171 := Aside0.mk (blk_below (g := gb171) (o := .cells #[.bool true, .int .i64 ((rd_T55 l0 x4_1).f0), .int .i64 t173, .int .i64 x172003_15, .int .i64 x172004_15, .int .i64 t169, .int .i64 t170] 90 (0, 0)) z38_ hb); replace HB := Aside0.mk (below_step z5_ hb); (try clear hb); obtain ⟨Ao92, co92, eo92⟩ := Kd.R_slice HO181.out; subst eo92; have hnb93 := NB162_161.out; have hnc93 := NB161_162.out; have hcz94_0 : w91.cell? ⟨gb162, 0, none⟩ = some (u163000) := (blk_cell BK162.out 0).trans rfl; have hfz94_0 := blk_frozen BK162.out 0; have hcz95_0 : w91.cell? ⟨gb171, 0, none⟩ = some (.bool true) := (blk_cell BK171.out 0).trans rfl; have hcz95_1 : w91.cell? ⟨gb171, 1, none⟩ = some (.int .i64 ((rd_T55 l0 x4_1).f0)) := (blk_cell BK171.out 1).trans rfl; have hcz95_2 : w91.cell? ⟨gb171, 2, none⟩ = some (.int .i64 t173) := (blk_cell BK171.out 2).trans rfl; have hcz95_3 : w91.cell? ⟨gb171, 3, none⟩ = some (.int .i64 x172003_15) := (blk_cell BK171.out 3).trans rfl; have hcz95_4 : w91.cell? ⟨gb171, 4, none⟩ = some (.int .i64 x172004_15) := (blk_cell BK171.out 4).trans rfl; have hcz95_5 : w91.cell? ⟨gb171, 5, none⟩ = some (.int .i64 t169) := (blk_cell BK171.out 5).trans rfl; have hcz95_6 : w91.cell? ⟨gb171, 6, none⟩ = some (.int .i64 t170) := (blk_cell BK171.out 6).trans rfl; have hfz95_0 := blk_frozen BK171.out 0; have hfz95_1 := blk_frozen BK171.out 1; have hfz95_2 := blk_frozen BK171.out 2; have hfz95_3 := blk_frozen BK171.out 3; have hfz95_4 := blk_frozen BK171.out 4; have hfz95_5 := blk_frozen BK171.out 5; have hfz95_6 := blk_frozen BK171.out 6) | ((with_reducible refine gate_builtin (b := .append) (xs := #[.tmp 79, .tmp 81]) rfl ?_); at_builtin; refine Kd.R_append k90 (w0 := w) w.heap.size rfl (.tmp 79) (.tmp 81) 26 90 (.agg #[(.bool false), (.int .i64 0), (.int .i64 0), (.int .i64 0), (.int .i64 0), (.int .i64 0), (.int .i64 0)]) 56 rfl Try.underlying26 info90 rfl (by decide) (by omega) u163000 x163000_1 (⟨true, ((rd_T55 l0 x4_1).f0), t173, x172003_15, x172004_15, t169, t170⟩ : S90) [.bool true, .int .i64 ((rd_T55 l0 x4_1).f0), .int .i64 t173, .int .i64 x172003_15, .int .i64 x172004_15, .int .i64 t169, .int .i64 t170] (fun k_ => k_ ≠ gb171) (fun _ => False) rfl rfl ?aP (fun _ hk => hk.elim) ?aF ?aO ?aB ?aS ?aL ?_; (case aP => exact z164_); (case aB => exact z50_); (case aF => exact z91_); (case aO => exact z155_); (case aS => exact z49_); (case aL => have := LMc86.out; omega); intro v196 w96 ho hb hg hat; rw [← Ny195.out] at ho; replace BK161 := Aside0.mk (blk_grown (g := gb161) (o := .cells #[.slice none 0 0] 28 (0, 0)) z19_ hg (Kd.R_ne HO_163000.out BK161.out (by decide))); replace BK162 := Aside0.mk (blk_grown (g := gb162) (o := .cells #[u163000] 28 (0, 0)) z22_ hg (Kd.R_ne HO_163000.out BK162.out (by decide))); replace BK171 := Aside0.mk (blk_grown (g := gb171) (o := .cells #[.bool true, .int .i64 ((rd_T55 l0 x4_1).f0), .int .i64 t173, .int .i64 x172003_15, .int .i64 x172004_15, .int .i64 t169, .int .i64 t170] 90 (0, 0)) z38_ hg (Kd.R_away HO_163000.out (fun _ hk => hk))); replace HO181 := Aside0.mk (Kd.R_over' z107_ (Kd.R_typed z33_) (by decide) hg); replace HB := Aside0.mk (hb); have HO197 := Aside0.mk (ho); clear HO_163000; clear ho hb hg hat; obtain ⟨Ao97, co97, eo97⟩ := Kd.R_slice HO197.out; subst eo97; have hcz98_0 : w96.cell? ⟨gb162, 0, none⟩ = some (u163000) := (blk_cell BK162.out 0).trans rfl; have hfz98_0 := blk_frozen BK162.out 0))
           go_roundg kj15
           case measure => have := HK1.out; have := HJ5.out; have := HJ15.out; omega
           case rel => exact ⟨(wrap64 (x4_1 + 1)), (y195), (.slice Ao97 y195.length co97), z12_, H', ⟨z146_⟩, ⟨by (with_reducible repeat (first | apply Kd.R_alloc | apply Kd.R_drewN | apply Kd.R_drew)); exact Kd.R_mono (Kd.R_far (p := ⟨gb162, 0, none⟩) (Kd.R_types HO197.out BK162.out (by decide)) (fun _ hk => hk.2) (.slice Ao97 y195.length co97)) (fun _ hk => trivial)⟩, ⟨z37_⟩, ⟨z46_⟩, ⟨z5_⟩⟩
        ·rw [if_neg c34] at H
         have c34b0 : decide (0 ≤ t173) = false := decide_eq_false c34
         clear c34
         obtain ⟨c99, H⟩ := ifs_ H
         have LMc99 := Aside0.mk c99
         clear c99
         obtain ⟨y198, hy198⟩ : ∃ y_ : List (S90), y_ = (x163000_1 ++ [(⟨true, ((rd_T55 l0 x4_1).f0), t173, x172003_15, x172004_15, t169, t170⟩ : S90)]) := ⟨_, rfl⟩
         replace H : (spec_DomFrom.l0 kj15 l0 (wrap64 (x4_1 + 1)) y198) = some r := by first | (rw [hy198]; with_reducible exact H) | (have H2_ := (Option.bind_some _ _).symm.trans H; rw [hy198]; with_reducible exact H2_) | (have H2_ := (Option.bind_some _ _).symm.trans H; with_reducible exact H2_) | with_reducible exact H | (rw [hy198]; exact H) | exact H
         have Ny198 := Aside0.mk hy198
         clear hy198
         have H' := Aside0.mk H
         clear H
         have hnb100 := NB171_161.out
         have hnc100 := NB161_171.out
         have hnb101 := NB171_162.out
         have hnc101 := NB162_171.out
         have hcz102_0 : wc.cell? ⟨gb171, 0, none⟩ = some (.bool true) := (blk_cell BK171.out 0).trans rfl
         have hcz102_1 : wc.cell? ⟨gb171, 1, none⟩ = some (.int .i64 ((rd_T55 l0 x4_1).f0)) := (blk_cell BK171.out 1).trans rfl
         have hcz102_2 : wc.cell? ⟨gb171, 2, none⟩ = some (.int .i64 t173) := (blk_cell BK171.out 2).trans rfl
         have hcz102_3 : wc.cell? ⟨gb171, 3, none⟩ = some (.int .i64 x172003_15) := (blk_cell BK171.out 3).trans rfl
         have hcz102_4 : wc.cell? ⟨gb171, 4, none⟩ = some (.int .i64 x172004_15) := (blk_cell BK171.out 4).trans rfl
         have hcz102_5 : wc.cell? ⟨gb171, 5, none⟩ = some (.int .i64 t169) := (blk_cell BK171.out 5).trans rfl
         have hcz102_6 : wc.cell? ⟨gb171, 6, none⟩ = some (.int .i64 t170) := (blk_cell BK171.out 6).trans rfl
         have hfz102_0 := blk_frozen BK171.out 0
         have hfz102_1 := blk_frozen BK171.out 1
         have hfz102_2 := blk_frozen BK171.out 2
         have hfz102_3 := blk_frozen BK171.out 3
         have hfz102_4 := blk_frozen BK171.out 4
         have hfz102_5 := blk_frozen BK171.out 5
         have hfz102_6 := blk_frozen BK171.out 6
         have hnb103 := NB162_161.out
         have hnc103 := NB161_162.out
         have hcz104_0 : wc.cell? ⟨gb162, 0, none⟩ = some (u163000) := (blk_cell BK162.out 0).trans rfl
         have hfz104_0 := blk_frozen BK162.out 0
         go_wp2_with (first | ((with_reducible refine gate_builtin (b := .append) (xs := #[.tmp 79, .tmp 81]) rfl ?_); at_builtin; refine Kd.R_append k90 (w0 := w) w.heap.size rfl (.tmp 79) (.tmp 81) 26 90 (.agg #[(.bool false), (.int .i64 0), (.int .i64 0), (.int .i64 0), (.int .i64 0), (.int .i64 0), (.int .i64 0)]) 56 rfl Try.underlying26 info90 rfl (by decide) (by omega) u163000 x163000_1 (⟨true, ((rd_T55 l0 x4_1).f0), t173, x172003_15, x172004_15, t169, t170⟩ : S90) [.bool true, .int .i64 ((rd_T55 l0 x4_1).f0), .int .i64 t173, .int .i64 x172003_15, .int .i64 x172004_15, .int .i64 t169, .int .i64 t170] (fun k_ => k_ ≠ gb171) (fun _ => False) rfl rfl ?aP (fun _ hk => hk.elim) ?aF ?aO ?aB ?aS ?aL ?_; (case aP => exact z164_); (case aB => exact z50_); (case aF => exact z91_); (case aO => exact z155_); (case aS => exact z49_); (case aL => have := LMc99.out; omega); intro v199 w105 ho hb hg hat; rw [← Ny198.out] at ho; replace BK161 := Aside0.mk (blk_grown (g := gb161) (o := .cells #[.slice none 0 0] 28 (0, 0)) z19_ hg (Kd.R_ne HO_163000.out BK161.out (by decide))); replace BK162 := Aside0.mk (blk_grown (g := gb162) (o := .cells #[u163000] 28 (0, 0)) z22_ hg (Kd.R_ne HO_163000.out BK162.out (by decide))); replace BK171 := Aside0.mk (blk_grown (g := gb171) (o := .cells #[.bool true, .int .i64 ((rd_T55 l0 x4_1).f0), .int .i64 t173, .int .i64 x172003_15, .int .i64 x172004_15, .int .i64 t169, .int .i64 t170] 90 (0, 0)) z38_ hg (Kd.R_away HO_163000.out (fun _ hk => hk))); replace HB := Aside0.mk (hb); have HO200 := Aside0.mk (ho); clear HO_163000; clear ho hb hg hat; obtain ⟨Ao106, co106, eo106⟩ := Kd.R_slice HO200.out; subst eo106; have hcz107_0 : w105.cell? ⟨gb162, 0, none⟩ = some (u163000) := (blk_cell BK162.out 0).trans rfl; have hfz107_0 := blk_frozen BK162.out 0))
         go_roundg kj15
         case measure => have := HK1.out; have := HJ5.out; have := HJ15.out; omega
         case rel => exact ⟨(wrap64 (x4_1 + 1)), (y198), (.slice Ao106 y198.length co106), z12_, H', ⟨z146_⟩, ⟨by (with_reducible repeat (first | apply Kd.R_alloc | apply Kd.R_drewN | apply Kd.R_drew)); exact Kd.R_mono (Kd.R_far (p := ⟨gb162, 0, none⟩) (Kd.R_types HO200.out BK162.out (by decide)) (fun _ hk => hk.2) (.slice Ao106 y198.length co106)) (fun _ hk => trivial)⟩, ⟨z37_⟩, ⟨z46_⟩, ⟨z5_⟩⟩
     ·replace c10 := Bool.eq_false_iff.mpr c10
      subst c10
      replace H := iff_ H
      obtain rfl := Option.some.inj H
      have hnb108 := NB162_161.out
      have hnc108 := NB161_162.out
      have hcz109_0 : wc.cell? ⟨gb162, 0, none⟩ = some (u163000) := (blk_cell BK162.out 0).trans rfl
      have hfz109_0 := blk_frozen BK162.out 0
      obtain ⟨Ao110, co110, eo110⟩ := Kd.R_slice HO_163000.out
      subst eo110
      have hcz111_0 : wc.cell? ⟨gb161, 0, none⟩ = some (.slice none 0 0) := (blk_cell BK161.out 0).trans rfl
      have hfz111_0 := blk_frozen BK161.out 0
      go_wp2
      refine bodyPost_ret (results_cell_row rfl _ _ gb161 28 #[.slice Ao110 x163000_1.length co110] (0, 0) _ rfl (by (with_reducible repeat (first | refine blk_drewN ?_ _ | refine blk_drew ?_ | refine blk_alloc ?_ _)); refine blk_put (cs := #[.slice none 0 0]) ?_ 0 _ rfl; (with_reducible repeat (first | refine blk_drewN ?_ _ | refine blk_drew ?_ | refine blk_alloc ?_ _)); exact BK161.out) Try.underlying28 rfl (by kernel_rfl)) rfl ?_
      exact ⟨_, z6_, by (with_reducible repeat (first | apply Kd.R_alloc | apply Kd.R_drewN | apply Kd.R_drew)); exact Kd.R_mono (Kd.R_far (p := ⟨gb161, 0, none⟩) (Kd.R_types HO_163000.out BK161.out (by decide)) (fun _ hk => hk.2) (.slice Ao110 x163000_1.length co110)) (fun _ hk => trivial), z31_⟩

/-! ### laws_toNode: function 67 -/
def laws_toNode.f (a0_0 : Int) (a0_1 : Int) : Option (Int × Int) := some (a0_0, a0_1)
set_option maxHeartbeats 8000000 in
set_option maxRecDepth 100000 in
theorem laws_toNode.calls (a0_0 : Int) (a0_1 : Int) (r1 : Int) (r2 : Int) (w : World) (h : laws_toNode.f a0_0 a0_1 = some (r1, r2)) :
  Calls Try.prog 67 #[.agg #[.int .i64 a0_0, .int .i64 a0_1]] w fun e w' => e = .returned (.agg #[.int .i64 r1, .int .i64 r2]) ∧ Below w.heap.size w w' := by
 have hu96 := Try.underlying96
 have hu55 := Try.underlying55
 have HB := Aside0.mk (Below.refl w.heap.size w)
 have H : (some (a0_0, a0_1)) = some (r1, r2) := h
 clear h
 simp only [Option.some.injEq, Prod.mk.injEq] at H
 obtain ⟨rfl, rfl⟩ := H
 go_enter Try.func67, Try.ntmps67
 go_wp2_with (first | ((with_reducible refine gate_dst (N := 1) rfl ?_); refine box_event ?hg (N := 1) ?hd (cs := #[.int .i64 a0_0, .int .i64 a0_1]) (t := 96) ?hr ?_; (case hd => rfl); (case hg => rfl); (case hr => exact z13_); intro gb201 hg w2 hbox hb; have BK201 := Aside0.mk (hbox); have GW201 := Aside0.mk ((by rw [hg]; exact (below_size z0_) : w.heap.size ≤ gb201)); have GE201 := Aside0.mk ((by rw [hg]; exact (below_size z0_) : w.heap.size ≤ gb201)); replace HB := Aside0.mk (below_step z0_ hb); clear hb hbox hg) | ((with_reducible refine gate_dst (N := 2) rfl ?_); refine box_event ?hg (N := 2) ?hd (cs := #[.int .i64 0, .int .i64 0]) (t := 55) ?hr ?_; (case hd => rfl); (case hg => rfl); (case hr => exact z13_); intro gb202 hg w3 hbox hb; have BK202 := Aside0.mk (hbox); have GW202 := Aside0.mk ((by rw [hg]; exact (below_size z130_) : w.heap.size ≤ gb202)); have GE202 := Aside0.mk ((by rw [hg]; exact (below_size z130_) : w.heap.size ≤ gb202)); replace HB := Aside0.mk (below_step z130_ hb); have NB201_202 := Aside0.mk ((by rw [hg]; exact Nat.ne_of_lt (blk_lt (g := gb201) (o := .cells #[.int .i64 a0_0, .int .i64 a0_1] 96 (0, 0)) z85_) : gb201 ≠ gb202)); have NB202_201 := Aside0.mk ((by rw [hg]; exact Nat.ne_of_gt (blk_lt (g := gb201) (o := .cells #[.int .i64 a0_0, .int .i64 a0_1] 96 (0, 0)) z85_) : gb202 ≠ gb201)); replace BK201 := Aside0.mk (blk_below (g := gb201) (o := .cells #[.int .i64 a0_0, .int .i64 a0_1] 96 (0, 0)) z85_ hb); clear hb hbox hg) | ((with_reducible refine gate_dst (N := 3) rfl ?_); refine box_event ?hg (N := 3) ?hd (cs := #[.int .i64 0, .int .i64 0]) (t := 55) ?hr ?_; (case hd => rfl); (case hg => rfl); (case hr => exact z13_); intro gb203 hg w4 hbox hb; have BK203 := Aside0.mk (hbox); have GW203 := Aside0.mk ((by rw [hg]; exact (below_size z93_) : w.heap.size ≤ gb203)); have GE203 := Aside0.mk ((by rw [hg]; exact (below_size z93_) : w.heap.size ≤ gb203)); replace HB := Aside0.mk (below_step z93_ hb); have NB201_203 := Aside0.mk ((by rw [hg]; exact Nat.ne_of_lt (blk_lt (g := gb201) (o := .cells #[.int .i64 a0_0, .int .i64 a0_1] 96 (0, 0)) z85_) : gb201 ≠ gb203)); have NB203_201 := Aside0.mk ((by rw [hg]; exact Nat.ne_of_gt (blk_lt (g := gb201) (o := .cells #[.int .i64 a0_0, .int .i64 a0_1] 96 (0, 0)) z85_) : gb203 ≠ gb201)); replace BK201 := Aside0.mk (blk_below (g := gb201) (o := .cells #[.int .i64 a0_0, .int .i64 a0_1] 96 (0, 0)) z85_ hb); have NB202_203 := Aside0.mk ((by rw [hg]; exact Nat.ne_of_lt (blk_lt (g := gb202) (o := .cells #[.int .i64 0, .int .i64 0] 55 (0, 0)) z137_) : gb202 ≠ gb203)); have NB203_202 := Aside0.mk ((by rw [hg]; exact Nat.ne_of_gt (blk_lt (g := gb202) (o := .cells #[.int .i64 0, .int .i64 0] 55 (0, 0)) z137_) : gb203 ≠ gb202)); replace BK202 := Aside0.mk (blk_below (g := gb202) (o := .cells #[.int .i64 0, .int .i64 0] 55 (0, 0)) z137_ hb); clear hb hbox hg; have hnb5 := NB201_202.out; have hnc5 := NB202_201.out; have hnb6 := NB201_203.out; have hnc6 := NB203_201.out; have hcz7_0 : w4.cell? ⟨gb201, 0, none⟩ = some (.int .i64 a0_0) := (blk_cell BK201.out 0).trans rfl; have hcz7_1 : w4.cell? ⟨gb201, 1, none⟩ = some (.int .i64 a0_1) := (blk_cell BK201.out 1).trans rfl; have hfz7_0 := blk_frozen BK201.out 0; have hfz7_1 := blk_frozen BK201.out 1; have hnb8 := NB203_202.out; have hnc8 := NB202_203.out; have hcz9_0 : w4.cell? ⟨gb203, 0, none⟩ = some (.int .i64 0) := (blk_cell BK203.out 0).trans rfl; have hcz9_1 : w4.cell? ⟨gb203, 1, none⟩ = some (.int .i64 0) := (blk_cell BK203.out 1).trans rfl; have hfz9_0 := blk_frozen BK203.out 0; have hfz9_1 := blk_frozen BK203.out 1; have hcz10_0 : w4.cell? ⟨gb202, 0, none⟩ = some (.int .i64 0) := (blk_cell BK202.out 0).trans rfl; have hcz10_1 : w4.cell? ⟨gb202, 1, none⟩ = some (.int .i64 0) := (blk_cell BK202.out 1).trans rfl; have hfz10_0 := blk_frozen BK202.out 0; have hfz10_1 := blk_frozen BK202.out 1))
 refine bodyPost_ret (results_cell_row rfl _ _ gb202 55 #[.int .i64 a0_0, .int .i64 a0_1] (0, 0) _ rfl (by (with_reducible repeat (first | refine blk_drewN ?_ _ | refine blk_drew ?_ | refine blk_alloc ?_ _)); refine blk_put (cs := #[.int .i64 a0_0, .int .i64 0]) ?_ 1 _ rfl; (with_reducible repeat (first | refine blk_drewN ?_ _ | refine blk_drew ?_ | refine blk_alloc ?_ _)); refine blk_put (cs := #[.int .i64 0, .int .i64 0]) ?_ 0 _ rfl; (with_reducible repeat (first | refine blk_drewN ?_ _ | refine blk_drew ?_ | refine blk_alloc ?_ _)); refine blk_far ?_ NB202_203.out _; (with_reducible repeat (first | refine blk_drewN ?_ _ | refine blk_drew ?_ | refine blk_alloc ?_ _)); refine blk_far ?_ NB202_203.out _; (with_reducible repeat (first | refine blk_drewN ?_ _ | refine blk_drew ?_ | refine blk_alloc ?_ _)); exact BK202.out) Try.underlying55 rfl (by kernel_rfl)) rfl ?_
 exact ⟨z6_, by repeat (first | (with_reducible first | exact HB.out | apply below_alloc | apply pw_below_drewN | apply below_drew1 | refine below_set ?_ GE201.out | refine below_set ?_ GE202.out | refine below_set ?_ GE203.out) | exact HB.out)⟩

/-! ### laws_toNodeS: function 18 -/
def laws_toNodeS.l0 : Nat → List (S96) → List (S55) → Int → Option ((List (S55)))
 | 0, _, _, _ => none
 | k + 1, x0, x3, x4 => if x4 < (x0.length : Int) then (if 0 ≤ x4 then ((laws_toNode.f ((rd_T96 x0 x4).f0) ((rd_T96 x0 x4).f1)).bind fun bt208 => (if x4 < (x3.length : Int) then (laws_toNodeS.l0 k x0 (x3.set (x4 : Int).toNat (⟨bt208.1, bt208.2⟩ : S55)) (wrap64 (x4 + 1))) else (none))) else (none)) else (some x3)
def laws_toNodeS.f (k : Nat) (l0 : List (S96)) : Option ((List (S55))) := if 0 ≤ (l0.length : Int) then (if ((l0.length : Int) : Int).toNat ≤ 17592186044416 then (laws_toNodeS.l0 k l0 (List.replicate ((l0.length : Int) : Int).toNat z55) 0) else (none)) else (none)
theorem laws_toNodeS.mono_l : ∀ k, (∀ y0 y1 y2, LeO (laws_toNodeS.l0 k y0 y1 y2) (laws_toNodeS.l0 (k + 1) y0 y1 y2))
 | 0 => fun _ _ _ r h => by simp [laws_toNodeS.l0] at h
 | k + 1 => by
  have ih0 := laws_toNodeS.mono_l k
  ·intro y0 y1 y2
   unfold laws_toNodeS.l0
   repeat' first | (with_reducible first | exact ih0 _ _ _ | exact LeO.refl _ | exact LeO.none _ | refine LeO.ite ?_ ?_ | refine LeO.bind ?_ (fun _ => ?_)) | exact ih0 _ _ _ | exact LeO.none _ | refine LeO.ite ?_ ?_ | refine LeO.bind ?_ (fun _ => ?_)
theorem laws_toNodeS.mono : ∀ a0 k, LeO (laws_toNodeS.f k a0) (laws_toNodeS.f (k + 1) a0) := by
 intro a0 k
 have ih0 := laws_toNodeS.mono_l k
 unfold laws_toNodeS.f
 repeat' first | (with_reducible first | exact ih0 _ _ _ | exact LeO.refl _ | exact LeO.none _ | refine LeO.ite ?_ ?_ | refine LeO.bind ?_ (fun _ => ?_)) | exact ih0 _ _ _ | exact LeO.none _ | refine LeO.ite ?_ ?_ | refine LeO.bind ?_ (fun _ => ?_)
set_option maxHeartbeats 8000000 in
set_option maxRecDepth 100000 in
theorem laws_toNodeS.calls (k : Nat) (A0 : Option Addr) (c0 : Nat) (l0 : List (S96)) (r : List (S55)) (w : World) (hr0 : Kd.C k96 w A0 l0.length l0) (hc0 : l0.length ≤ c0) (h : laws_toNodeS.f k l0 = some r) :
  Calls Try.prog 18 #[.slice A0 l0.length c0] w fun e w' => ∃ v0_ : Value, e = .returned (v0_) ∧ Kd.R k55 55 w' w.heap.size (fun _ => True) v0_ r ∧ Below w.heap.size w w' := by
 have hu96 := Try.underlying96
 have hu55 := Try.underlying55
 have HR0 := Aside0.mk hr0
 have HC0 := Aside0.mk hc0
 clear hr0 hc0
 have HB := Aside0.mk (Below.refl w.heap.size w)
 have H : (if 0 ≤ (l0.length : Int) then (if ((l0.length : Int) : Int).toNat ≤ 17592186044416 then (laws_toNodeS.l0 k l0 (List.replicate ((l0.length : Int) : Int).toNat z55) 0) else (none)) else (none)) = some r := h
 clear h
 obtain ⟨c2b0, c2b1, H⟩ := ife_ H
 obtain ⟨c3b0, c3b1, H⟩ := ife_ H
 obtain ⟨y204, hy204⟩ : ∃ y_ : List (S55), y_ = (List.replicate ((l0.length : Int) : Int).toNat z55) := ⟨_, rfl⟩
 replace H : (laws_toNodeS.l0 k l0 y204 0) = some r := by first | (rw [hy204]; with_reducible exact H) | (have H2_ := (Option.bind_some _ _).symm.trans H; rw [hy204]; with_reducible exact H2_) | (have H2_ := (Option.bind_some _ _).symm.trans H; with_reducible exact H2_) | with_reducible exact H | (rw [hy204]; exact H) | exact H
 have Ny204 := Aside0.mk hy204
 clear hy204
 have H' := Aside0.mk H
 clear H
 go_enter Try.func18, Try.ntmps18
 go_wp2_with (first | ((with_reducible refine gate_dst (N := 7) rfl ?_); refine Kd.R_make k55 _ 55 rfl (N := 7) rfl 38 _ _ rfl (l0.length : Int) rfl rfl Try.underlying38 (.agg #[(.int .i64 0), (.int .i64 0)]) 16 info55 rfl (by decide) (by omega) z55 (ok := fun _ => True) (okp := fun _ => True) (k55_mkM _ _ _ z55 ) (fun _ hk => hk) trivial (odt_) (Nat.le_trans (Nat.mul_le_mul_right _ (odt_ : (l0.length : Int).toNat ≤ 17592186044416)) (by omega)) (Below.refl _ _) (Nat.le_refl _) ?_; intro v205 w4 ho5 hb hg_ hnew_; clear hg_ hnew_; (first | rw [← Ny204.out] at ho5 | (simp only [Int.reduceToNat] at ho5; rw [← Ny204.out] at ho5)); have HO206 := Aside0.mk (Kd.R_lower ho5 (below_size z0_)); replace HB := Aside0.mk (below_step z0_ hb); clear hb ho5))
 go_loopg [4] k (fun kq v4 w' => ∃ (x3_1 : List (S55)) (x4_1 : Int), v4 = .int .i64 x4_1 ∧ Aside0 (laws_toNodeS.l0 kq l0 x3_1 x4_1 = some r) ∧ Aside0 (kq ≤ k) ∧ Aside0 (Kd.R k55 55 w' w.heap.size (fun _ => True) v205 x3_1) ∧ Aside0 (Below w.heap.size w w'))
 case atStart => exact ⟨(y204), (0), z12_, H', ⟨Nat.le_refl _⟩, ⟨by (with_reducible repeat (first | apply Kd.R_alloc | apply Kd.R_drewN | apply Kd.R_drew)); exact HO206.out⟩, ⟨z0_⟩⟩
 case round =>
  clear H'
  try clear c1
  try clear c2
  try clear c2b0
  try clear c2b1
  try clear p2
  try clear c3
  try clear c3b0
  try clear c3b1
  obtain ⟨x3_1, x4_1, rfl, HA, HK1, HO_3, HB⟩ := hrel
  cases gk with
  | zero => exact absurd HA.out (by simp [laws_toNodeS.l0])
  | succ k1 =>
   have H := HA.out
   clear HA
   simp only [laws_toNodeS.l0] at H
   by_cases c6 : x4_1 < (l0.length : Int)
   ·rw [if_pos c6] at H
    have c6b0 : decide (x4_1 < (l0.length : Int)) = true := decide_eq_true c6
    clear c6
    obtain ⟨c7b0, H⟩ := ifd_ H
    replace H := Option.bind_eq_some_iff.mp H
    obtain ⟨⟨t208, t209⟩, A80, H⟩ := H
    replace H : (if x4_1 < (x3_1.length : Int) then (laws_toNodeS.l0 k1 l0 (x3_1.set (x4_1 : Int).toNat (⟨t208, t209⟩ : S55)) (wrap64 (x4_1 + 1))) else (none)) = some r := H
    have A8 := Aside0.mk A80
    clear A80
    obtain ⟨c9b0, H⟩ := ifd_ H
    obtain ⟨y210, hy210⟩ : ∃ y_ : List (S55), y_ = (x3_1.set (x4_1 : Int).toNat (⟨t208, t209⟩ : S55)) := ⟨_, rfl⟩
    replace H : (laws_toNodeS.l0 k1 l0 y210 (wrap64 (x4_1 + 1))) = some r := by first | (rw [hy210]; with_reducible exact H) | (have H2_ := (Option.bind_some _ _).symm.trans H; rw [hy210]; with_reducible exact H2_) | (have H2_ := (Option.bind_some _ _).symm.trans H; with_reducible exact H2_) | with_reducible exact H | (rw [hy210]; exact H) | exact H
    have Ny210 := Aside0.mk hy210
    clear hy210
    have H' := Aside0.mk H
    clear H
    obtain ⟨p207, q207, ad207, e207, hx207_0, hx207_1⟩ := atb96_ HR0 HB x4_1
    cases e207
    go_wp2_with (first | ((with_reducible refine gate_callee (f := 67) rfl ?_); refine goesL_ (some 20) rfl rfl Try.func67 (by kernel_rfl) rfl #[.agg #[.int .i64 ((rd_T96 l0 x4_1).f0), .int .i64 ((rd_T96 l0 x4_1).f1)]] rfl z1_ ?_; (with_reducible refine (laws_toNode.calls ((rd_T96 l0 x4_1).f0) ((rd_T96 l0 x4_1).f1) t208 t209 _ A8.out).mono ?_); rintro e w11 ⟨rfl, hb⟩; refine ⟨_, rfl, ?_⟩; replace HO_3 := Aside0.mk (Kd.R_below z133_ hb); replace HB := Aside0.mk (below_step z0_ hb); (try clear hb); have p10 : 0 ≤ (x4_1 : Int) := odt_; have q10 : (x4_1 : Int) < ((x3_1.length : Int) : Int) := odt_; obtain ⟨go10, co10, eo10, gb10, gl10, cl10, HG10⟩ := Kd.R_form HO_3.out (by omega); (first | cases eo10 | (injection eo10 with ea_ en_ ec_; (first | subst ea_ | (injection ea_ with ea_; subst ea_)); subst ec_; clear en_)); have GB10 := Aside0.mk gb10; have GG10 := Aside0.mk HG10; clear gb10 gl10 HG10; obtain ⟨ce10, hcl10, hM10, hcc10, hfr10⟩ := Kd.R_elem HO_3.out z55 (x4_1 : Int) p10 q10; obtain rfl := k55_openM hM10; have hx10_0 : w11.cell? ⟨go10, (x4_1 : Int).toNat * 2, none⟩ = some (.int .i64 ((rd_T55 x3_1 x4_1).f0)) := hcc10 0 _ rfl; have hx10_1 : w11.cell? ⟨go10, (x4_1 : Int).toNat * 2 + 1, none⟩ = some (.int .i64 ((rd_T55 x3_1 x4_1).f1)) := hcc10 1 _ rfl; have hf10_0 : w11.frozen? ⟨go10, (x4_1 : Int).toNat * 2, none⟩ = false := hfr10 0; have hf10_1 : w11.frozen? ⟨go10, (x4_1 : Int).toNat * 2 + 1, none⟩ = false := hfr10 1; clear hcl10 hcc10 hfr10 hM10; replace p10 := eq_true p10; replace q10 := eq_true q10; have HX12 := Aside0.mk (show Kd.R k55 55 w11 w.heap.size (fun _ => True) (.slice (some ⟨go10, 0, none⟩) x3_1.length co10) x3_1 from z133_); obtain ⟨ce12, hcl12, hM12, hcc12, hfr12⟩ := Kd.R_elem HX12.out z55 (x4_1 : Int) (odt_) (by have h_ : (x4_1 : Int) < ((x3_1.length : Int) : Int) := odt_; first | exact h_ | (have e_ := (Kd.R_reads' HO_3.out).1; omega) | simpa using h_); obtain rfl := k55_openM hM12; have HP12 := Kd.R_seg HX12.out (x4_1 : Int) (odt_) (by have h_ : (x4_1 : Int) < ((x3_1.length : Int) : Int) := odt_; first | exact h_ | (have e_ := (Kd.R_reads' HO_3.out).1; omega) | simpa using h_) (seg := [.int .i64 t208, .int .i64 t209]) (j := 0) hcl12 hcc12 (show 2 ≤ 2 from by decide) (x' := (⟨t208, t209⟩ : S55)) (k55_mkM _ _ _ (⟨t208, t209⟩ : S55) ) (fun _ hk => hk); have hx12_0 := hcc12 0 _ rfl; (try simp only [show (k55).sz = 2 from rfl, Nat.mul_one, Nat.add_zero] at hx12_0); have hf12_0 := hfr12 0; (try simp only [show (k55).sz = 2 from rfl, Nat.mul_one, Nat.add_zero] at hf12_0); have hx12_1 := hcc12 1 _ rfl; (try simp only [show (k55).sz = 2 from rfl, Nat.mul_one, Nat.add_zero] at hx12_1); have hf12_1 := hfr12 1; (try simp only [show (k55).sz = 2 from rfl, Nat.mul_one, Nat.add_zero] at hf12_1); clear hcl12 hcc12 hfr12 hM12) | ((with_reducible refine gate_store (t := 55) (p := 21) rfl ?_); refine store_event (t := 55) (p := 21) (v := ?vo_w13) (w1 := ((w11.setCell ⟨go10, (x4_1 : Int).toNat * 2, none⟩ (.int .i64 t208)).setCell ⟨go10, (x4_1 : Int).toNat * 2 + 1, none⟩ (.int .i64 t209))) ?hg ?ho ?hn ?hr ?_; (case ho => rfl); (case hg => rfl); (case hn => rfl); (case hr => exact z13_); intro w13 hw; have hg : w11.grownBy w13 (some go10) := (by rw [hw]; exact HP12.2); have hp_ : Kd.R k55 55 w13 w.heap.size (fun _ => True) (.slice (some ⟨go10, 0, none⟩) x3_1.length co10) y210 := (by rw [hw, Ny210.out]; exact HP12.1); clear HP12; replace HO_3 := Aside0.mk (hp_); replace HB := Aside0.mk ((by rw [hw]; exact below_set (below_set (HB.out) GB10.out) GB10.out : Below w.heap.size w w13)); clear hg hw hp_))
    go_roundg k1
    case measure => have := HK1.out; omega
    case rel => exact ⟨(y210), (wrap64 (x4_1 + 1)), z12_, H', ⟨z136_⟩, ⟨z133_⟩, ⟨z0_⟩⟩
   ·rw [if_neg c6] at H
    have c6b0 : decide (x4_1 < (l0.length : Int)) = false := decide_eq_false c6
    clear c6
    obtain rfl := Option.some.inj H
    go_wp2
    go_ret
    exact ⟨_, z6_, z133_, z0_⟩

/-! ### impl_within: function 82 -/
def impl_within.f (a0 : Int) (a1 : Int) (a2 : Int) : Option (Bool) := if a1 ≤ a0 then (some (decide (a0 ≤ a2))) else (some false)
set_option maxHeartbeats 8000000 in
set_option maxRecDepth 100000 in
theorem impl_within.calls (a0 : Int) (a1 : Int) (a2 : Int) (r : Bool) (w : World) (h : impl_within.f a0 a1 a2 = some r) :
  Calls Try.prog 82 #[.int .i64 a0, .int .i64 a1, .int .i64 a2] w fun e w' => e = .returned (.bool r) ∧ Drawn0 w w' := by
 have H : (if a1 ≤ a0 then (some (decide (a0 ≤ a2))) else (some false)) = some r := h
 clear h
 by_cases c4 : a1 ≤ a0
 ·rw [if_pos c4] at H
  have c4b0 : decide (a1 ≤ a0) = true := decide_eq_true c4
  clear c4
  obtain rfl := Option.some.inj H
  go_enter Try.func82, Try.ntmps82
  go_wp2
  go_ret
  exact ⟨z12_, z36_⟩
 ·rw [if_neg c4] at H
  have c4b0 : decide (a1 ≤ a0) = false := decide_eq_false c4
  clear c4
  obtain rfl := Option.some.inj H
  go_enter Try.func82, Try.ntmps82
  go_wp2
  go_ret
  exact ⟨z12_, z36_⟩

/-! ### impl_LabelOk: function 59 -/
def impl_LabelOk.f (a0 : Int) : Option (Bool) := (impl_within.f a0 0 5).bind fun t211 => (some t211)
set_option maxHeartbeats 8000000 in
set_option maxRecDepth 100000 in
theorem impl_LabelOk.calls (a0 : Int) (r : Bool) (w : World) (h : impl_LabelOk.f a0 = some r) :
  Calls Try.prog 59 #[.int .i64 a0] w fun e w' => e = .returned (.bool r) ∧ Drawn0 w w' := by
 have H : ((impl_within.f a0 0 5).bind fun t211 => (some t211)) = some r := h
 clear h
 obtain ⟨t211, A2, H⟩ := bnd_ H
 obtain rfl := Option.some.inj H
 go_enter Try.func59, Try.ntmps59
 go_wp2_with (first | ((with_reducible refine gate_callee (f := 82) rfl ?_); refine goesL_ (some 4) rfl rfl Try.func82 (by kernel_rfl) rfl #[.int .i64 a0, .int .i64 0, .int .i64 5] rfl z1_ ?_; (with_reducible refine (impl_within.calls a0 0 5 t211 _ A2.out).mono ?_); rintro e w' ⟨rfl, ⟨nd, rfl⟩⟩; refine ⟨_, rfl, ?_⟩))
 go_ret
 exact ⟨z12_, z36_⟩

end Go.Proofs.Ytmbhlfcpdbbogab.PFnExactDomFrom
