/- Laid by a program of this session out of the kit's print for the law FnExactDomDelete: what it says of the machine is proved here, function by function; each contract under the conditions that it names. -/
import Derived.Test.YtdapeboajjidmabMFnExactDomDeletex0
import Derived.Test.YtdapeboajjidmabMFnExactDomDeletex9
namespace Go.Proofs.Ytdapeboajjidmab.PFnExactDomDelete
open Go.RowKit Go.Proofs.YtdapeboajjidmabW.PrintWords Go.Proofs.YtdapeboajjidmabW.PrintLast Go.Proofs.YtdapeboajjidmabW.PrintMore
attribute [local go_sem] max2_int min2_int max_two min_two max_three min_three max_four min_four   -- for this text's walks alone
set_option linter.unusedVariables false
set_option linter.unusedSimpArgs false

/-! ### impl_Dom_visit: function 112 -/
mutual
def impl_Dom_visit.j0 : Nat → Int → Int → List (S62) → List Int → Bool → List (S72) → Bool → Int → Int → Int → Int → Int → Int → Option ((List (S62)) × List Int × Bool)
 | 0, _, _, _, _, _, _, _, _, _, _, _, _, _ => none
 | k + 1, x1, x2, x3, x4, x34, x291000, x293000, x293001, x293002, x293003, x293004, x293005, x293006 => if x34 = true then (some (x3, x4, false)) else (if x3.length < 8796093022208 then (if x4.length < 17592186044416 then (impl_Dom_visit.l0 k x1 x2 (x3 ++ [(⟨x293001, x2⟩ : S62)]) (x4 ++ [x1]) (-1) x293003 x291000 x293000 x293001 x293002 x293003 x293004 x293005 x293006) else (none)) else (none))
def impl_Dom_visit.l0 : Nat → Int → Int → List (S62) → List Int → Int → Int → List (S72) → Bool → Int → Int → Int → Int → Int → Int → Option ((List (S62)) × List Int × Bool)
 | 0, _, _, _, _, _, _, _, _, _, _, _, _, _, _ => none
 | k + 1, x1, x2, x3, x4, x14, x15, x291000, x293000, x293001, x293002, x293003, x293004, x293005, x293006 => if x15 = (-1) then (some (x3, x4, (x293004 == x14))) else ((impl_within.f x15 0 (wrap64 ((x291000.length : Int) - 1))).bind fun t300 => (if t300 = true then ((slices_Contains_int_int.f k x4 x15).bind fun t301 => (if t301 = true then (impl_Dom_visit.j2 k x1 x2 x3 x4 x15 true x291000 x293000 x293001 x293002 x293003 x293004 x293005 x293006) else (if 0 ≤ x15 then (if x15 < (x291000.length : Int) then (if ((rd_T72 x291000 x15).f2) = x1 then (impl_Dom_visit.j2 k x1 x2 x3 x4 x15 (((rd_T72 x291000 x15).f5) != x14) x291000 x293000 x293001 x293002 x293003 x293004 x293005 x293006) else (impl_Dom_visit.j2 k x1 x2 x3 x4 x15 true x291000 x293000 x293001 x293002 x293003 x293004 x293005 x293006)) else (none)) else (none)))) else (impl_Dom_visit.j2 k x1 x2 x3 x4 x15 true x291000 x293000 x293001 x293002 x293003 x293004 x293005 x293006)))
def impl_Dom_visit.j2 : Nat → Int → Int → List (S62) → List Int → Int → Bool → List (S72) → Bool → Int → Int → Int → Int → Int → Int → Option ((List (S62)) × List Int × Bool)
 | 0, _, _, _, _, _, _, _, _, _, _, _, _, _, _ => none
 | k + 1, x1, x2, x3, x4, x15, x89, x291000, x293000, x293001, x293002, x293003, x293004, x293005, x293006 => if x89 = true then (some (x3, x4, false)) else ((impl_Dom_visit.f k x291000 x15 (wrap64 (x2 + 1)) x3 x4).bind fun bt304 => (if bt304.2.2 = true then (if 0 ≤ x15 then (if x15 < (x291000.length : Int) then (impl_Dom_visit.l0 k x1 x2 bt304.1 bt304.2.1 x15 ((rd_T72 x291000 x15).f6) x291000 x293000 x293001 x293002 x293003 x293004 x293005 x293006) else (none)) else (none)) else (some (bt304.1, bt304.2.1, false))))
def impl_Dom_visit.f : Nat → List (S72) → Int → Int → List (S62) → List Int → Option ((List (S62)) × List Int × Bool)
 | 0, _, _, _, _, _ => none
 | k + 1, l0_0, a1, a2, l3, l4 => if 0 ≤ a1 then (if a1 < (l0_0.length : Int) then (if ((rd_T72 l0_0 a1).f0 = true) then ((impl_LabelOk.f ((rd_T72 l0_0 a1).f1)).bind fun t293 => (if t293 = true then (impl_Dom_visit.j0 k a1 a2 l3 l4 (decide (a2 > 12)) l0_0 ((rd_T72 l0_0 a1).f0) ((rd_T72 l0_0 a1).f1) ((rd_T72 l0_0 a1).f2) ((rd_T72 l0_0 a1).f3) ((rd_T72 l0_0 a1).f4) ((rd_T72 l0_0 a1).f5) ((rd_T72 l0_0 a1).f6)) else (impl_Dom_visit.j0 k a1 a2 l3 l4 true l0_0 ((rd_T72 l0_0 a1).f0) ((rd_T72 l0_0 a1).f1) ((rd_T72 l0_0 a1).f2) ((rd_T72 l0_0 a1).f3) ((rd_T72 l0_0 a1).f4) ((rd_T72 l0_0 a1).f5) ((rd_T72 l0_0 a1).f6)))) else (impl_Dom_visit.j0 k a1 a2 l3 l4 true l0_0 ((rd_T72 l0_0 a1).f0) ((rd_T72 l0_0 a1).f1) ((rd_T72 l0_0 a1).f2) ((rd_T72 l0_0 a1).f3) ((rd_T72 l0_0 a1).f4) ((rd_T72 l0_0 a1).f5) ((rd_T72 l0_0 a1).f6))) else (none)) else (none)
end
set_option maxHeartbeats 8000000 in
set_option maxRecDepth 100000 in
theorem impl_Dom_visit.calls (k : Nat) : ∀ (A0_0 : Option Addr) (c0_0 : Nat) (l0_0 : List (S72)) (a1 : Int) (a2 : Int) (P3_ : Nat → Prop) (u9000_ : Value) (l3 : List (S62)) (P4_ : Nat → Prop) (u9001_ : Value) (l4 : List Int) (r1 : List (S62)) (r2 : List Int) (r3 : Bool) (w0 w : World) (hB : Below w0.heap.size w0 w) (hr0_0 : ∀ W_, Kept w W_ (fun k_ => P3_ k_ ∨ P4_ k_) → Kd.C k72 W_ A0_0 l0_0.length l0_0) (hc0_0 : l0_0.length ≤ c0_0) (ho3 : Kd.R k62 62 w w0.heap.size P3_ u9000_ l3) (ho4 : Kd.R (Kd.int .i64) 3 w w0.heap.size P4_ u9001_ l4) (h : impl_Dom_visit.f k l0_0 a1 a2 l3 l4 = some (r1, r2, r3)),
  Calls Try.prog 112 #[.agg #[.slice A0_0 l0_0.length c0_0], .int .i64 a1, .int .i64 a2, u9000_, u9001_] w fun e w' => ∃ v0_ v1_ : Value, e = .returned (.tuple #[v0_, v1_, .bool r3]) ∧ Kd.R k62 62 w' w0.heap.size (fun k_ => ((P3_ k_ ∨ P4_ k_) ∨ w.heap.size ≤ k_)) v0_ r1 ∧ Kd.R (Kd.int .i64) 3 w' w0.heap.size (fun k_ => ((P3_ k_ ∨ P4_ k_) ∨ w.heap.size ≤ k_)) v1_ r2 ∧ Below w0.heap.size w0 w' ∧ Kept w w' (fun k_ => P3_ k_ ∨ P4_ k_) := by
 induction k using Nat.strongRecOn with
 | _ k ih =>
 intro A0_0 c0_0 l0_0 a1 a2 P3_ u9000_ l3 P4_ u9001_ l4 r1 r2 r3 w0 w hB hr0_0 hc0_0 ho3 ho4 h
 cases k with
 | zero => exact absurd h (by simp [impl_Dom_visit.f])
 | succ k =>
 simp only [impl_Dom_visit.f] at h
 have hu28 := Try.underlying28
 have hu72 := Try.underlying72
 have hu62 := Try.underlying62
 have HR0_0 := Aside0.mk hr0_0
 have HC0_0 := Aside0.mk hc0_0
 clear hr0_0 hc0_0
 have HO3 := Aside0.mk (show Kd.R k62 62 w w0.heap.size (fun k_ => ((P3_ k_ ∨ P4_ k_) ∨ w.heap.size ≤ k_)) u9000_ l3 from Kd.R_mono ho3 (fun k_ hk => (.inl (.inl hk))))
 have HO4 := Aside0.mk (show Kd.R (Kd.int .i64) 3 w w0.heap.size (fun k_ => ((P3_ k_ ∨ P4_ k_) ∨ w.heap.size ≤ k_)) u9001_ l4 from Kd.R_mono ho4 (fun k_ hk => (.inl (.inr hk))))
 have HK := Aside0.mk (Kept.refl w (fun k_ => P3_ k_ ∨ P4_ k_))
 have HW0 := Aside0.mk hB.size
 have HB := Aside0.mk hB
 clear hB
 have H : (if 0 ≤ a1 then (if a1 < (l0_0.length : Int) then (if ((rd_T72 l0_0 a1).f0 = true) then ((impl_LabelOk.f ((rd_T72 l0_0 a1).f1)).bind fun t293 => (if t293 = true then (impl_Dom_visit.j0 k a1 a2 l3 l4 (decide (a2 > 12)) l0_0 ((rd_T72 l0_0 a1).f0) ((rd_T72 l0_0 a1).f1) ((rd_T72 l0_0 a1).f2) ((rd_T72 l0_0 a1).f3) ((rd_T72 l0_0 a1).f4) ((rd_T72 l0_0 a1).f5) ((rd_T72 l0_0 a1).f6)) else (impl_Dom_visit.j0 k a1 a2 l3 l4 true l0_0 ((rd_T72 l0_0 a1).f0) ((rd_T72 l0_0 a1).f1) ((rd_T72 l0_0 a1).f2) ((rd_T72 l0_0 a1).f3) ((rd_T72 l0_0 a1).f4) ((rd_T72 l0_0 a1).f5) ((rd_T72 l0_0 a1).f6)))) else (impl_Dom_visit.j0 k a1 a2 l3 l4 true l0_0 ((rd_T72 l0_0 a1).f0) ((rd_T72 l0_0 a1).f1) ((rd_T72 l0_0 a1).f2) ((rd_T72 l0_0 a1).f3) ((rd_T72 l0_0 a1).f4) ((rd_T72 l0_0 a1).f5) ((rd_T72 l0_0 a1).f6))) else (none)) else (none)) = some (r1, r2, r3) := h
 clear h
 obtain ⟨c6b0, H⟩ := ifd_ H
 obtain ⟨c7b0, H⟩ := ifd_ H
 have HC8 := Aside0.mk H
 clear H
 go_enter Try.func112, Try.ntmps112
 go_upto_region 2 with (first | ((with_reducible refine gate_dst (N := 5) rfl ?_); refine box_event ?hg (N := 5) ?hd (cs := #[.slice A0_0 l0_0.length c0_0]) (t := 28) ?hr ?_; (case hd => rfl); (case hg => rfl); (case hr => exact z25_); intro gb290 hg w9 hbox hb; replace HO3 := Aside0.mk (Kd.R_below z77_ hb); replace HO4 := Aside0.mk (Kd.R_below z78_ hb); have BK290 := Aside0.mk (hbox); have GW290 := Aside0.mk ((by rw [hg]; exact z92_ : w.heap.size ≤ gb290)); replace HK := Aside0.mk (Kept.below (S := (fun k_ => P3_ k_ ∨ P4_ k_)) z49_ hb); have GE290 := Aside0.mk ((by rw [hg]; exact (below_size z0_) : w0.heap.size ≤ gb290)); replace HB := Aside0.mk (below_step z0_ hb); clear hb hbox hg; have hcz10_0 : w9.cell? ⟨gb290, 0, none⟩ = some (.slice A0_0 l0_0.length c0_0) := (blk_cell BK290.out 0).trans rfl; have hfz10_0 := blk_frozen BK290.out 0; have p291 : 0 ≤ (a1 : Int) := odt_; have q291 : a1 < (l0_0.length : Int) := odt_; obtain ⟨ad291, e291, hx291_0, hx291_1, hx291_2, hx291_3, hx291_4, hx291_5, hx291_6⟩ := at_T72 (Kd.C_kept_now HR0_0.out HK.out) a1 p291 q291; cases e291; replace p291 := eq_true p291; replace q291 := eq_true q291) | ((with_reducible refine gate_dst (N := 13) rfl ?_); refine box_event ?hg (N := 13) ?hd (cs := #[.bool false, .int .i64 0, .int .i64 0, .int .i64 0, .int .i64 0, .int .i64 0, .int .i64 0]) (t := 72) ?hr ?_; (case hd => rfl); (case hg => rfl); (case hr => exact z25_); intro gb292 hg w11 hbox hb; replace HO3 := Aside0.mk (Kd.R_below z77_ hb); replace HO4 := Aside0.mk (Kd.R_below z78_ hb); have BK292 := Aside0.mk (hbox); have GW292 := Aside0.mk ((by rw [hg]; exact z97_ : w.heap.size ≤ gb292)); replace HK := Aside0.mk (Kept.below (S := (fun k_ => P3_ k_ ∨ P4_ k_)) z152_ hb); have GE292 := Aside0.mk ((by rw [hg]; exact (below_size z82_) : w0.heap.size ≤ gb292)); replace HB := Aside0.mk (below_step z82_ hb); have NB290_292 := Aside0.mk ((by rw [hg]; exact Nat.ne_of_lt (blk_lt (g := gb290) (o := .cells #[.slice (some ad291) l0_0.length c0_0] 28 (0, 0)) z32_) : gb290 ≠ gb292)); have NB292_290 := Aside0.mk ((by rw [hg]; exact Nat.ne_of_gt (blk_lt (g := gb290) (o := .cells #[.slice (some ad291) l0_0.length c0_0] 28 (0, 0)) z32_) : gb292 ≠ gb290)); replace BK290 := Aside0.mk (blk_below (g := gb290) (o := .cells #[.slice (some ad291) l0_0.length c0_0] 28 (0, 0)) z32_ hb); clear hb hbox hg; have hnb12 := NB292_290.out; have hnc12 := NB290_292.out; have hcz13_0 : w11.cell? ⟨gb292, 0, none⟩ = some (.bool false) := (blk_cell BK292.out 0).trans rfl; have hcz13_1 : w11.cell? ⟨gb292, 1, none⟩ = some (.int .i64 0) := (blk_cell BK292.out 1).trans rfl; have hcz13_2 : w11.cell? ⟨gb292, 2, none⟩ = some (.int .i64 0) := (blk_cell BK292.out 2).trans rfl; have hcz13_3 : w11.cell? ⟨gb292, 3, none⟩ = some (.int .i64 0) := (blk_cell BK292.out 3).trans rfl; have hcz13_4 : w11.cell? ⟨gb292, 4, none⟩ = some (.int .i64 0) := (blk_cell BK292.out 4).trans rfl; have hcz13_5 : w11.cell? ⟨gb292, 5, none⟩ = some (.int .i64 0) := (blk_cell BK292.out 5).trans rfl; have hcz13_6 : w11.cell? ⟨gb292, 6, none⟩ = some (.int .i64 0) := (blk_cell BK292.out 6).trans rfl; have hfz13_0 := blk_frozen BK292.out 0; have hfz13_1 := blk_frozen BK292.out 1; have hfz13_2 := blk_frozen BK292.out 2; have hfz13_3 := blk_frozen BK292.out 3; have hfz13_4 := blk_frozen BK292.out 4; have hfz13_5 := blk_frozen BK292.out 5; have hfz13_6 := blk_frozen BK292.out 6))
 repeat (go_quiet (first | ((with_reducible refine gate_dst (N := 5) rfl ?_); refine box_event ?hg (N := 5) ?hd (cs := #[.slice A0_0 l0_0.length c0_0]) (t := 28) ?hr ?_; (case hd => rfl); (case hg => rfl); (case hr => exact z25_); intro gb290 hg w9 hbox hb; replace HO3 := Aside0.mk (Kd.R_below z77_ hb); replace HO4 := Aside0.mk (Kd.R_below z78_ hb); have BK290 := Aside0.mk (hbox); have GW290 := Aside0.mk ((by rw [hg]; exact z92_ : w.heap.size ≤ gb290)); replace HK := Aside0.mk (Kept.below (S := (fun k_ => P3_ k_ ∨ P4_ k_)) z49_ hb); have GE290 := Aside0.mk ((by rw [hg]; exact (below_size z0_) : w0.heap.size ≤ gb290)); replace HB := Aside0.mk (below_step z0_ hb); clear hb hbox hg; have hcz10_0 : w9.cell? ⟨gb290, 0, none⟩ = some (.slice A0_0 l0_0.length c0_0) := (blk_cell BK290.out 0).trans rfl; have hfz10_0 := blk_frozen BK290.out 0; have p291 : 0 ≤ (a1 : Int) := odt_; have q291 : a1 < (l0_0.length : Int) := odt_; obtain ⟨ad291, e291, hx291_0, hx291_1, hx291_2, hx291_3, hx291_4, hx291_5, hx291_6⟩ := at_T72 (Kd.C_kept_now HR0_0.out HK.out) a1 p291 q291; cases e291; replace p291 := eq_true p291; replace q291 := eq_true q291) | ((with_reducible refine gate_dst (N := 13) rfl ?_); refine box_event ?hg (N := 13) ?hd (cs := #[.bool false, .int .i64 0, .int .i64 0, .int .i64 0, .int .i64 0, .int .i64 0, .int .i64 0]) (t := 72) ?hr ?_; (case hd => rfl); (case hg => rfl); (case hr => exact z25_); intro gb292 hg w11 hbox hb; replace HO3 := Aside0.mk (Kd.R_below z77_ hb); replace HO4 := Aside0.mk (Kd.R_below z78_ hb); have BK292 := Aside0.mk (hbox); have GW292 := Aside0.mk ((by rw [hg]; exact z97_ : w.heap.size ≤ gb292)); replace HK := Aside0.mk (Kept.below (S := (fun k_ => P3_ k_ ∨ P4_ k_)) z152_ hb); have GE292 := Aside0.mk ((by rw [hg]; exact (below_size z82_) : w0.heap.size ≤ gb292)); replace HB := Aside0.mk (below_step z82_ hb); have NB290_292 := Aside0.mk ((by rw [hg]; exact Nat.ne_of_lt (blk_lt (g := gb290) (o := .cells #[.slice (some ad291) l0_0.length c0_0] 28 (0, 0)) z32_) : gb290 ≠ gb292)); have NB292_290 := Aside0.mk ((by rw [hg]; exact Nat.ne_of_gt (blk_lt (g := gb290) (o := .cells #[.slice (some ad291) l0_0.length c0_0] 28 (0, 0)) z32_) : gb292 ≠ gb290)); replace BK290 := Aside0.mk (blk_below (g := gb290) (o := .cells #[.slice (some ad291) l0_0.length c0_0] 28 (0, 0)) z32_ hb); clear hb hbox hg; have hnb12 := NB292_290.out; have hnc12 := NB290_292.out; have hcz13_0 : w11.cell? ⟨gb292, 0, none⟩ = some (.bool false) := (blk_cell BK292.out 0).trans rfl; have hcz13_1 : w11.cell? ⟨gb292, 1, none⟩ = some (.int .i64 0) := (blk_cell BK292.out 1).trans rfl; have hcz13_2 : w11.cell? ⟨gb292, 2, none⟩ = some (.int .i64 0) := (blk_cell BK292.out 2).trans rfl; have hcz13_3 : w11.cell? ⟨gb292, 3, none⟩ = some (.int .i64 0) := (blk_cell BK292.out 3).trans rfl; have hcz13_4 : w11.cell? ⟨gb292, 4, none⟩ = some (.int .i64 0) := (blk_cell BK292.out 4).trans rfl; have hcz13_5 : w11.cell? ⟨gb292, 5, none⟩ = some (.int .i64 0) := (blk_cell BK292.out 5).trans rfl; have hcz13_6 : w11.cell? ⟨gb292, 6, none⟩ = some (.int .i64 0) := (blk_cell BK292.out 6).trans rfl; have hfz13_0 := blk_frozen BK292.out 0; have hfz13_1 := blk_frozen BK292.out 1; have hfz13_2 := blk_frozen BK292.out 2; have hfz13_3 := blk_frozen BK292.out 3; have hfz13_4 := blk_frozen BK292.out 4; have hfz13_5 := blk_frozen BK292.out 5; have hfz13_6 := blk_frozen BK292.out 6)); go_upto_region 2 with (first | ((with_reducible refine gate_dst (N := 5) rfl ?_); refine box_event ?hg (N := 5) ?hd (cs := #[.slice A0_0 l0_0.length c0_0]) (t := 28) ?hr ?_; (case hd => rfl); (case hg => rfl); (case hr => exact z25_); intro gb290 hg w9 hbox hb; replace HO3 := Aside0.mk (Kd.R_below z77_ hb); replace HO4 := Aside0.mk (Kd.R_below z78_ hb); have BK290 := Aside0.mk (hbox); have GW290 := Aside0.mk ((by rw [hg]; exact z92_ : w.heap.size ≤ gb290)); replace HK := Aside0.mk (Kept.below (S := (fun k_ => P3_ k_ ∨ P4_ k_)) z49_ hb); have GE290 := Aside0.mk ((by rw [hg]; exact (below_size z0_) : w0.heap.size ≤ gb290)); replace HB := Aside0.mk (below_step z0_ hb); clear hb hbox hg; have hcz10_0 : w9.cell? ⟨gb290, 0, none⟩ = some (.slice A0_0 l0_0.length c0_0) := (blk_cell BK290.out 0).trans rfl; have hfz10_0 := blk_frozen BK290.out 0; have p291 : 0 ≤ (a1 : Int) := odt_; have q291 : a1 < (l0_0.length : Int) := odt_; obtain ⟨ad291, e291, hx291_0, hx291_1, hx291_2, hx291_3, hx291_4, hx291_5, hx291_6⟩ := at_T72 (Kd.C_kept_now HR0_0.out HK.out) a1 p291 q291; cases e291; replace p291 := eq_true p291; replace q291 := eq_true q291) | ((with_reducible refine gate_dst (N := 13) rfl ?_); refine box_event ?hg (N := 13) ?hd (cs := #[.bool false, .int .i64 0, .int .i64 0, .int .i64 0, .int .i64 0, .int .i64 0, .int .i64 0]) (t := 72) ?hr ?_; (case hd => rfl); (case hg => rfl); (case hr => exact z25_); intro gb292 hg w11 hbox hb; replace HO3 := Aside0.mk (Kd.R_below z77_ hb); replace HO4 := Aside0.mk (Kd.R_below z78_ hb); have BK292 := Aside0.mk (hbox); have GW292 := Aside0.mk ((by rw [hg]; exact z97_ : w.heap.size ≤ gb292)); replace HK := Aside0.mk (Kept.below (S := (fun k_ => P3_ k_ ∨ P4_ k_)) z152_ hb); have GE292 := Aside0.mk ((by rw [hg]; exact (below_size z82_) : w0.heap.size ≤ gb292)); replace HB := Aside0.mk (below_step z82_ hb); have NB290_292 := Aside0.mk ((by rw [hg]; exact Nat.ne_of_lt (blk_lt (g := gb290) (o := .cells #[.slice (some ad291) l0_0.length c0_0] 28 (0, 0)) z32_) : gb290 ≠ gb292)); have NB292_290 := Aside0.mk ((by rw [hg]; exact Nat.ne_of_gt (blk_lt (g := gb290) (o := .cells #[.slice (some ad291) l0_0.length c0_0] 28 (0, 0)) z32_) : gb292 ≠ gb290)); replace BK290 := Aside0.mk (blk_below (g := gb290) (o := .cells #[.slice (some ad291) l0_0.length c0_0] 28 (0, 0)) z32_ hb); clear hb hbox hg; have hnb12 := NB292_290.out; have hnc12 := NB290_292.out; have hcz13_0 : w11.cell? ⟨gb292, 0, none⟩ = some (.bool false) := (blk_cell BK292.out 0).trans rfl; have hcz13_1 : w11.cell? ⟨gb292, 1, none⟩ = some (.int .i64 0) := (blk_cell BK292.out 1).trans rfl; have hcz13_2 : w11.cell? ⟨gb292, 2, none⟩ = some (.int .i64 0) := (blk_cell BK292.out 2).trans rfl; have hcz13_3 : w11.cell? ⟨gb292, 3, none⟩ = some (.int .i64 0) := (blk_cell BK292.out 3).trans rfl; have hcz13_4 : w11.cell? ⟨gb292, 4, none⟩ = some (.int .i64 0) := (blk_cell BK292.out 4).trans rfl; have hcz13_5 : w11.cell? ⟨gb292, 5, none⟩ = some (.int .i64 0) := (blk_cell BK292.out 5).trans rfl; have hcz13_6 : w11.cell? ⟨gb292, 6, none⟩ = some (.int .i64 0) := (blk_cell BK292.out 6).trans rfl; have hfz13_0 := blk_frozen BK292.out 0; have hfz13_1 := blk_frozen BK292.out 1; have hfz13_2 := blk_frozen BK292.out 2; have hfz13_3 := blk_frozen BK292.out 3; have hfz13_4 := blk_frozen BK292.out 4; have hfz13_5 := blk_frozen BK292.out 5; have hfz13_6 := blk_frozen BK292.out 6)))
 (try simp only [Act.put, List.setIfInBounds_toArray, List.set_cons_zero, List.set_cons_succ])
 go_cut [34] (fun v34 wc => ∃ (kq : Nat) (x34_7 : Bool), v34 = .bool x34_7 ∧ Aside0 (impl_Dom_visit.j0 kq a1 a2 l3 l4 x34_7 l0_0 ((rd_T72 l0_0 a1).f0) ((rd_T72 l0_0 a1).f1) ((rd_T72 l0_0 a1).f2) ((rd_T72 l0_0 a1).f3) ((rd_T72 l0_0 a1).f4) ((rd_T72 l0_0 a1).f5) ((rd_T72 l0_0 a1).f6) = some (r1, r2, r3)) ∧ Aside0 (kq ≤ k) ∧ Aside0 (Kd.R k62 62 wc w0.heap.size (fun k_ => ((P3_ k_ ∨ P4_ k_) ∨ w.heap.size ≤ k_)) u9000_ l3) ∧ Aside0 (Kd.R (Kd.int .i64) 3 wc w0.heap.size (fun k_ => ((P3_ k_ ∨ P4_ k_) ∨ w.heap.size ≤ k_)) u9001_ l4) ∧ Aside0 (wc.heap[gb290]? = some (.cells #[(.slice (some ad291) l0_0.length c0_0)] 28 (0, 0))) ∧ Aside0 (wc.heap[gb292]? = some (.cells #[.bool ((rd_T72 l0_0 a1).f0), .int .i64 ((rd_T72 l0_0 a1).f1), .int .i64 ((rd_T72 l0_0 a1).f2), .int .i64 ((rd_T72 l0_0 a1).f3), .int .i64 ((rd_T72 l0_0 a1).f4), .int .i64 ((rd_T72 l0_0 a1).f5), .int .i64 ((rd_T72 l0_0 a1).f6)] 72 (0, 0))) ∧ Aside0 (Kept w wc (fun k_ => P3_ k_ ∨ P4_ k_)) ∧ Aside0 (Below w0.heap.size w0 wc))
 case first =>
  have H := HC8.out
  clear HC8
  obtain ⟨bq14, hbq14⟩ : ∃ b_ : Bool, b_ = ((rd_T72 l0_0 a1).f0) := ⟨_, rfl⟩
  replace H : (if (bq14 = true) then ((impl_LabelOk.f ((rd_T72 l0_0 a1).f1)).bind fun t293 => (if t293 = true then (impl_Dom_visit.j0 k a1 a2 l3 l4 (decide (a2 > 12)) l0_0 bq14 ((rd_T72 l0_0 a1).f1) ((rd_T72 l0_0 a1).f2) ((rd_T72 l0_0 a1).f3) ((rd_T72 l0_0 a1).f4) ((rd_T72 l0_0 a1).f5) ((rd_T72 l0_0 a1).f6)) else (impl_Dom_visit.j0 k a1 a2 l3 l4 true l0_0 bq14 ((rd_T72 l0_0 a1).f1) ((rd_T72 l0_0 a1).f2) ((rd_T72 l0_0 a1).f3) ((rd_T72 l0_0 a1).f4) ((rd_T72 l0_0 a1).f5) ((rd_T72 l0_0 a1).f6)))) else (impl_Dom_visit.j0 k a1 a2 l3 l4 true l0_0 bq14 ((rd_T72 l0_0 a1).f1) ((rd_T72 l0_0 a1).f2) ((rd_T72 l0_0 a1).f3) ((rd_T72 l0_0 a1).f4) ((rd_T72 l0_0 a1).f5) ((rd_T72 l0_0 a1).f6))) = some (r1, r2, r3) := by rw [← hbq14] at H; exact H
  have Nbq14 := Aside0.mk hbq14
  clear hbq14
  (try rw [← Nbq14.out])
  by_cases c15 : (bq14 = true)
  ·subst c15
   replace H := ift_ H
   obtain ⟨t293, A16, H⟩ := bnd_ H
   by_cases c17 : t293 = true
   ·subst c17
    replace H := ift_ H
    have H' := Aside0.mk H
    clear H
    have hnb18 := NB292_290.out
    have hnc18 := NB290_292.out
    have hcz19_0 : w11.cell? ⟨gb292, 0, none⟩ = some (.bool false) := (blk_cell BK292.out 0).trans rfl
    have hcz19_1 : w11.cell? ⟨gb292, 1, none⟩ = some (.int .i64 0) := (blk_cell BK292.out 1).trans rfl
    have hcz19_2 : w11.cell? ⟨gb292, 2, none⟩ = some (.int .i64 0) := (blk_cell BK292.out 2).trans rfl
    have hcz19_3 : w11.cell? ⟨gb292, 3, none⟩ = some (.int .i64 0) := (blk_cell BK292.out 3).trans rfl
    have hcz19_4 : w11.cell? ⟨gb292, 4, none⟩ = some (.int .i64 0) := (blk_cell BK292.out 4).trans rfl
    have hcz19_5 : w11.cell? ⟨gb292, 5, none⟩ = some (.int .i64 0) := (blk_cell BK292.out 5).trans rfl
    have hcz19_6 : w11.cell? ⟨gb292, 6, none⟩ = some (.int .i64 0) := (blk_cell BK292.out 6).trans rfl
    have hfz19_0 := blk_frozen BK292.out 0
    have hfz19_1 := blk_frozen BK292.out 1
    have hfz19_2 := blk_frozen BK292.out 2
    have hfz19_3 := blk_frozen BK292.out 3
    have hfz19_4 := blk_frozen BK292.out 4
    have hfz19_5 := blk_frozen BK292.out 5
    have hfz19_6 := blk_frozen BK292.out 6
    go_wp2_with (first | (go_at_call 80; (with_reducible refine (impl_LabelOk.calls ((rd_T72 l0_0 a1).f1) true _ A16.out).mono ?_); rintro e w' ⟨rfl, ⟨nd, rfl⟩⟩; (try first | exact ⟨rfl, _, World.drewN_drewN _ _ _⟩ | exact ⟨rfl, _, Eq.trans (World.drewN_drewN _ _ _) (congrArg (World.drewN _) (Nat.add_assoc _ _ _))⟩)))
    repeat (go_quiet (first | (go_at_call 80; (with_reducible refine (impl_LabelOk.calls ((rd_T72 l0_0 a1).f1) true _ A16.out).mono ?_); rintro e w' ⟨rfl, ⟨nd, rfl⟩⟩; (try first | exact ⟨rfl, _, World.drewN_drewN _ _ _⟩ | exact ⟨rfl, _, Eq.trans (World.drewN_drewN _ _ _) (congrArg (World.drewN _) (Nat.add_assoc _ _ _))⟩))); try go_wp2_with (first | (go_at_call 80; (with_reducible refine (impl_LabelOk.calls ((rd_T72 l0_0 a1).f1) true _ A16.out).mono ?_); rintro e w' ⟨rfl, ⟨nd, rfl⟩⟩; (try first | exact ⟨rfl, _, World.drewN_drewN _ _ _⟩ | exact ⟨rfl, _, Eq.trans (World.drewN_drewN _ _ _) (congrArg (World.drewN _) (Nat.add_assoc _ _ _))⟩))))
    go_meet
    case rel => (try rw [← Nbq14.out]); exact ⟨_, (decide (a2 > 12)), z12_, H', ⟨z103_⟩, ⟨z55_⟩, ⟨z56_⟩, ⟨z27_⟩, ⟨z20_⟩, ⟨z5_⟩, ⟨z7_⟩⟩
   ·replace c17 := Bool.eq_false_iff.mpr c17
    subst c17
    replace H := iff_ H
    have H' := Aside0.mk H
    clear H
    have hnb20 := NB292_290.out
    have hnc20 := NB290_292.out
    have hcz21_0 : w11.cell? ⟨gb292, 0, none⟩ = some (.bool false) := (blk_cell BK292.out 0).trans rfl
    have hcz21_1 : w11.cell? ⟨gb292, 1, none⟩ = some (.int .i64 0) := (blk_cell BK292.out 1).trans rfl
    have hcz21_2 : w11.cell? ⟨gb292, 2, none⟩ = some (.int .i64 0) := (blk_cell BK292.out 2).trans rfl
    have hcz21_3 : w11.cell? ⟨gb292, 3, none⟩ = some (.int .i64 0) := (blk_cell BK292.out 3).trans rfl
    have hcz21_4 : w11.cell? ⟨gb292, 4, none⟩ = some (.int .i64 0) := (blk_cell BK292.out 4).trans rfl
    have hcz21_5 : w11.cell? ⟨gb292, 5, none⟩ = some (.int .i64 0) := (blk_cell BK292.out 5).trans rfl
    have hcz21_6 : w11.cell? ⟨gb292, 6, none⟩ = some (.int .i64 0) := (blk_cell BK292.out 6).trans rfl
    have hfz21_0 := blk_frozen BK292.out 0
    have hfz21_1 := blk_frozen BK292.out 1
    have hfz21_2 := blk_frozen BK292.out 2
    have hfz21_3 := blk_frozen BK292.out 3
    have hfz21_4 := blk_frozen BK292.out 4
    have hfz21_5 := blk_frozen BK292.out 5
    have hfz21_6 := blk_frozen BK292.out 6
    go_wp2_with (first | (go_at_call 80; (with_reducible refine (impl_LabelOk.calls ((rd_T72 l0_0 a1).f1) false _ A16.out).mono ?_); rintro e w' ⟨rfl, ⟨nd, rfl⟩⟩; (try first | exact ⟨rfl, _, World.drewN_drewN _ _ _⟩ | exact ⟨rfl, _, Eq.trans (World.drewN_drewN _ _ _) (congrArg (World.drewN _) (Nat.add_assoc _ _ _))⟩)))
    repeat (go_quiet (first | (go_at_call 80; (with_reducible refine (impl_LabelOk.calls ((rd_T72 l0_0 a1).f1) false _ A16.out).mono ?_); rintro e w' ⟨rfl, ⟨nd, rfl⟩⟩; (try first | exact ⟨rfl, _, World.drewN_drewN _ _ _⟩ | exact ⟨rfl, _, Eq.trans (World.drewN_drewN _ _ _) (congrArg (World.drewN _) (Nat.add_assoc _ _ _))⟩))); try go_wp2_with (first | (go_at_call 80; (with_reducible refine (impl_LabelOk.calls ((rd_T72 l0_0 a1).f1) false _ A16.out).mono ?_); rintro e w' ⟨rfl, ⟨nd, rfl⟩⟩; (try first | exact ⟨rfl, _, World.drewN_drewN _ _ _⟩ | exact ⟨rfl, _, Eq.trans (World.drewN_drewN _ _ _) (congrArg (World.drewN _) (Nat.add_assoc _ _ _))⟩))))
    go_meet
    case rel => (try rw [← Nbq14.out]); exact ⟨_, (true), z12_, H', ⟨z103_⟩, ⟨z55_⟩, ⟨z56_⟩, ⟨z27_⟩, ⟨z20_⟩, ⟨z5_⟩, ⟨z7_⟩⟩
  ·replace c15 := Bool.eq_false_iff.mpr c15
   subst c15
   replace H := iff_ H
   have H' := Aside0.mk H
   clear H
   have hnb22 := NB292_290.out
   have hnc22 := NB290_292.out
   have hcz23_0 : w11.cell? ⟨gb292, 0, none⟩ = some (.bool false) := (blk_cell BK292.out 0).trans rfl
   have hcz23_1 : w11.cell? ⟨gb292, 1, none⟩ = some (.int .i64 0) := (blk_cell BK292.out 1).trans rfl
   have hcz23_2 : w11.cell? ⟨gb292, 2, none⟩ = some (.int .i64 0) := (blk_cell BK292.out 2).trans rfl
   have hcz23_3 : w11.cell? ⟨gb292, 3, none⟩ = some (.int .i64 0) := (blk_cell BK292.out 3).trans rfl
   have hcz23_4 : w11.cell? ⟨gb292, 4, none⟩ = some (.int .i64 0) := (blk_cell BK292.out 4).trans rfl
   have hcz23_5 : w11.cell? ⟨gb292, 5, none⟩ = some (.int .i64 0) := (blk_cell BK292.out 5).trans rfl
   have hcz23_6 : w11.cell? ⟨gb292, 6, none⟩ = some (.int .i64 0) := (blk_cell BK292.out 6).trans rfl
   have hfz23_0 := blk_frozen BK292.out 0
   have hfz23_1 := blk_frozen BK292.out 1
   have hfz23_2 := blk_frozen BK292.out 2
   have hfz23_3 := blk_frozen BK292.out 3
   have hfz23_4 := blk_frozen BK292.out 4
   have hfz23_5 := blk_frozen BK292.out 5
   have hfz23_6 := blk_frozen BK292.out 6
   go_wp2
   repeat (go_quiet (fail); try go_wp2)
   go_meet
   case rel => (try rw [← Nbq14.out]); exact ⟨_, (true), z12_, H', ⟨z103_⟩, ⟨by (with_reducible repeat (first | apply Kd.R_alloc | apply Kd.R_drewN | apply Kd.R_drew)); exact Kd.R_mono (Kd.R_far (p := ⟨gb292, 6, none⟩) (Kd.R_far (p := ⟨gb292, 5, none⟩) (Kd.R_far (p := ⟨gb292, 4, none⟩) (Kd.R_far (p := ⟨gb292, 3, none⟩) (Kd.R_far (p := ⟨gb292, 2, none⟩) (Kd.R_far (p := ⟨gb292, 1, none⟩) (Kd.R_far (p := ⟨gb292, 0, none⟩) (Kd.R_types HO3.out BK292.out (by decide)) (fun _ hk => hk.2) (.bool (false))) (fun _ hk => hk.2) (.int .i64 ((rd_T72 l0_0 a1).f1))) (fun _ hk => hk.2) (.int .i64 ((rd_T72 l0_0 a1).f2))) (fun _ hk => hk.2) (.int .i64 ((rd_T72 l0_0 a1).f3))) (fun _ hk => hk.2) (.int .i64 ((rd_T72 l0_0 a1).f4))) (fun _ hk => hk.2) (.int .i64 ((rd_T72 l0_0 a1).f5))) (fun _ hk => hk.2) (.int .i64 ((rd_T72 l0_0 a1).f6))) (fun _ hk => hk.1)⟩, ⟨by (with_reducible repeat (first | apply Kd.R_alloc | apply Kd.R_drewN | apply Kd.R_drew)); exact Kd.R_mono (Kd.R_far (p := ⟨gb292, 6, none⟩) (Kd.R_far (p := ⟨gb292, 5, none⟩) (Kd.R_far (p := ⟨gb292, 4, none⟩) (Kd.R_far (p := ⟨gb292, 3, none⟩) (Kd.R_far (p := ⟨gb292, 2, none⟩) (Kd.R_far (p := ⟨gb292, 1, none⟩) (Kd.R_far (p := ⟨gb292, 0, none⟩) (Kd.R_types HO4.out BK292.out (by decide)) (fun _ hk => hk.2) (.bool (false))) (fun _ hk => hk.2) (.int .i64 ((rd_T72 l0_0 a1).f1))) (fun _ hk => hk.2) (.int .i64 ((rd_T72 l0_0 a1).f2))) (fun _ hk => hk.2) (.int .i64 ((rd_T72 l0_0 a1).f3))) (fun _ hk => hk.2) (.int .i64 ((rd_T72 l0_0 a1).f4))) (fun _ hk => hk.2) (.int .i64 ((rd_T72 l0_0 a1).f5))) (fun _ hk => hk.2) (.int .i64 ((rd_T72 l0_0 a1).f6))) (fun _ hk => hk.1)⟩, ⟨z27_⟩, ⟨by (with_reducible repeat (first | refine blk_drewN ?_ _ | refine blk_drew ?_ | refine blk_alloc ?_ _)); refine blk_put (cs := #[.bool (false), .int .i64 ((rd_T72 l0_0 a1).f1), .int .i64 ((rd_T72 l0_0 a1).f2), .int .i64 ((rd_T72 l0_0 a1).f3), .int .i64 ((rd_T72 l0_0 a1).f4), .int .i64 ((rd_T72 l0_0 a1).f5), .int .i64 0]) ?_ 6 _ rfl; (with_reducible repeat (first | refine blk_drewN ?_ _ | refine blk_drew ?_ | refine blk_alloc ?_ _)); refine blk_put (cs := #[.bool (false), .int .i64 ((rd_T72 l0_0 a1).f1), .int .i64 ((rd_T72 l0_0 a1).f2), .int .i64 ((rd_T72 l0_0 a1).f3), .int .i64 ((rd_T72 l0_0 a1).f4), .int .i64 0, .int .i64 0]) ?_ 5 _ rfl; (with_reducible repeat (first | refine blk_drewN ?_ _ | refine blk_drew ?_ | refine blk_alloc ?_ _)); refine blk_put (cs := #[.bool (false), .int .i64 ((rd_T72 l0_0 a1).f1), .int .i64 ((rd_T72 l0_0 a1).f2), .int .i64 ((rd_T72 l0_0 a1).f3), .int .i64 0, .int .i64 0, .int .i64 0]) ?_ 4 _ rfl; (with_reducible repeat (first | refine blk_drewN ?_ _ | refine blk_drew ?_ | refine blk_alloc ?_ _)); refine blk_put (cs := #[.bool (false), .int .i64 ((rd_T72 l0_0 a1).f1), .int .i64 ((rd_T72 l0_0 a1).f2), .int .i64 0, .int .i64 0, .int .i64 0, .int .i64 0]) ?_ 3 _ rfl; (with_reducible repeat (first | refine blk_drewN ?_ _ | refine blk_drew ?_ | refine blk_alloc ?_ _)); refine blk_put (cs := #[.bool (false), .int .i64 ((rd_T72 l0_0 a1).f1), .int .i64 0, .int .i64 0, .int .i64 0, .int .i64 0, .int .i64 0]) ?_ 2 _ rfl; (with_reducible repeat (first | refine blk_drewN ?_ _ | refine blk_drew ?_ | refine blk_alloc ?_ _)); refine blk_put (cs := #[.bool (false), .int .i64 0, .int .i64 0, .int .i64 0, .int .i64 0, .int .i64 0, .int .i64 0]) ?_ 1 _ rfl; (with_reducible repeat (first | refine blk_drewN ?_ _ | refine blk_drew ?_ | refine blk_alloc ?_ _)); refine blk_put (cs := #[.bool false, .int .i64 0, .int .i64 0, .int .i64 0, .int .i64 0, .int .i64 0, .int .i64 0]) ?_ 0 _ rfl; (with_reducible repeat (first | refine blk_drewN ?_ _ | refine blk_drew ?_ | refine blk_alloc ?_ _)); exact BK292.out⟩, ⟨z5_⟩, ⟨z7_⟩⟩
 case rest =>
  clear HC8
  try clear c1
  try clear q1
  try clear c2
  try clear p2
  try clear q2
  try clear hx2
  try clear c6
  try clear c6b0
  try clear c7
  try clear c7b0
  try clear c11
  try clear c12
  try clear q14
  try clear c15
  try clear c17
  try clear c18
  try clear c20
  try clear c22
  try clear hcz10_0
  try clear hcz13_0
  try clear hcz13_1
  try clear hcz13_2
  try clear hcz13_3
  try clear hcz13_4
  try clear hcz13_5
  try clear hcz13_6
  try clear hcz19_0
  try clear hcz19_1
  try clear hcz19_2
  try clear hcz19_3
  try clear hcz19_4
  try clear hcz19_5
  try clear hcz19_6
  try clear hcz21_0
  try clear hcz21_1
  try clear hcz21_2
  try clear hcz21_3
  try clear hcz21_4
  try clear hcz21_5
  try clear hcz21_6
  try clear hcz23_0
  try clear hcz23_1
  try clear hcz23_2
  try clear hcz23_3
  try clear hcz23_4
  try clear hcz23_5
  try clear hcz23_6
  try clear hfz10_0
  try clear hfz13_0
  try clear hfz13_1
  try clear hfz13_2
  try clear hfz13_3
  try clear hfz13_4
  try clear hfz13_5
  try clear hfz13_6
  try clear hfz19_0
  try clear hfz19_1
  try clear hfz19_2
  try clear hfz19_3
  try clear hfz19_4
  try clear hfz19_5
  try clear hfz19_6
  try clear hfz21_0
  try clear hfz21_1
  try clear hfz21_2
  try clear hfz21_3
  try clear hfz21_4
  try clear hfz21_5
  try clear hfz21_6
  try clear hfz23_0
  try clear hfz23_1
  try clear hfz23_2
  try clear hfz23_3
  try clear hfz23_4
  try clear hfz23_5
  try clear hfz23_6
  try clear hx291_0
  try clear hx291_1
  try clear hx291_2
  try clear hx291_3
  try clear hx291_4
  try clear hx291_5
  try clear hx291_6
  try clear p291
  try clear q291
  obtain ⟨kq, x34_7, rfl, HA, HJ7, HO_3, HO_4, BK290, BK292, HK, HB⟩ := hcut
  cases kq with
  | zero => exact absurd HA.out (by simp [impl_Dom_visit.j0])
  | succ kj7 =>
   have H := HA.out
   clear HA
   simp only [impl_Dom_visit.j0] at H
   by_cases c24 : x34_7 = true
   ·subst c24
    replace H := ift_ H
    simp only [Option.some.injEq, Prod.mk.injEq] at H
    obtain ⟨rfl, rfl, rfl⟩ := H
    go_wp2
    repeat (go_quiet (fail); try go_wp2)
    go_ret3
    exact ⟨_, _, z4_, z19_, z21_, z7_, z5_⟩
   ·replace c24 := Bool.eq_false_iff.mpr c24
    subst c24
    replace H := iff_ H
    obtain ⟨c25, H⟩ := ifs_ H
    have LMc25 := Aside0.mk c25
    clear c25
    obtain ⟨y294, hy294⟩ : ∃ y_ : List (S62), y_ = (l3 ++ [(⟨((rd_T72 l0_0 a1).f1), a2⟩ : S62)]) := ⟨_, rfl⟩
    replace H : (if l4.length < 17592186044416 then (impl_Dom_visit.l0 kj7 a1 a2 y294 (l4 ++ [a1]) (-1) ((rd_T72 l0_0 a1).f3) l0_0 ((rd_T72 l0_0 a1).f0) ((rd_T72 l0_0 a1).f1) ((rd_T72 l0_0 a1).f2) ((rd_T72 l0_0 a1).f3) ((rd_T72 l0_0 a1).f4) ((rd_T72 l0_0 a1).f5) ((rd_T72 l0_0 a1).f6)) else (none)) = some (r1, r2, r3) := by first | (rw [hy294]; with_reducible exact H) | (have H2_ := (Option.bind_some _ _).symm.trans H; rw [hy294]; with_reducible exact H2_) | (have H2_ := (Option.bind_some _ _).symm.trans H; with_reducible exact H2_) | with_reducible exact H | (rw [hy294]; exact H) | exact H
    have Ny294 := Aside0.mk hy294
    clear hy294
    obtain ⟨c26, H⟩ := ifs_ H
    have LMc26 := Aside0.mk c26
    clear c26
    obtain ⟨y297, hy297⟩ : ∃ y_ : List Int, y_ = (l4 ++ [a1]) := ⟨_, rfl⟩
    replace H : (impl_Dom_visit.l0 kj7 a1 a2 y294 y297 (-1) ((rd_T72 l0_0 a1).f3) l0_0 ((rd_T72 l0_0 a1).f0) ((rd_T72 l0_0 a1).f1) ((rd_T72 l0_0 a1).f2) ((rd_T72 l0_0 a1).f3) ((rd_T72 l0_0 a1).f4) ((rd_T72 l0_0 a1).f5) ((rd_T72 l0_0 a1).f6)) = some (r1, r2, r3) := by first | (rw [hy297]; with_reducible exact H) | (have H2_ := (Option.bind_some _ _).symm.trans H; rw [hy297]; with_reducible exact H2_) | (have H2_ := (Option.bind_some _ _).symm.trans H; with_reducible exact H2_) | with_reducible exact H | (rw [hy297]; exact H) | exact H
    have Ny297 := Aside0.mk hy297
    clear hy297
    have H' := Aside0.mk H
    clear H
    have hnb27 := NB292_290.out
    have hnc27 := NB290_292.out
    have hcz28_0 : wc.cell? ⟨gb292, 0, none⟩ = some (.bool ((rd_T72 l0_0 a1).f0)) := (blk_cell BK292.out 0).trans rfl
    have hcz28_1 : wc.cell? ⟨gb292, 1, none⟩ = some (.int .i64 ((rd_T72 l0_0 a1).f1)) := (blk_cell BK292.out 1).trans rfl
    have hcz28_2 : wc.cell? ⟨gb292, 2, none⟩ = some (.int .i64 ((rd_T72 l0_0 a1).f2)) := (blk_cell BK292.out 2).trans rfl
    have hcz28_3 : wc.cell? ⟨gb292, 3, none⟩ = some (.int .i64 ((rd_T72 l0_0 a1).f3)) := (blk_cell BK292.out 3).trans rfl
    have hcz28_4 : wc.cell? ⟨gb292, 4, none⟩ = some (.int .i64 ((rd_T72 l0_0 a1).f4)) := (blk_cell BK292.out 4).trans rfl
    have hcz28_5 : wc.cell? ⟨gb292, 5, none⟩ = some (.int .i64 ((rd_T72 l0_0 a1).f5)) := (blk_cell BK292.out 5).trans rfl
    have hcz28_6 : wc.cell? ⟨gb292, 6, none⟩ = some (.int .i64 ((rd_T72 l0_0 a1).f6)) := (blk_cell BK292.out 6).trans rfl
    have hfz28_0 := blk_frozen BK292.out 0
    have hfz28_1 := blk_frozen BK292.out 1
    have hfz28_2 := blk_frozen BK292.out 2
    have hfz28_3 := blk_frozen BK292.out 3
    have hfz28_4 := blk_frozen BK292.out 4
    have hfz28_5 := blk_frozen BK292.out 5
    have hfz28_6 := blk_frozen BK292.out 6
    go_wp2_with (first | ((with_reducible refine gate_builtin (b := .append) (xs := #[.tmp 37, .tmp 42]) rfl ?_); at_builtin; refine Kd.R_append k62 (w0 := w0) w0.heap.size rfl (.tmp 37) (.tmp 42) 24 62 (.agg #[(.int .i64 0), (.int .i64 0)]) 16 rfl Try.underlying24 info62 rfl (by decide) (by omega) u9000_ l3 (⟨((rd_T72 l0_0 a1).f1), a2⟩ : S62) [.int .i64 ((rd_T72 l0_0 a1).f1), .int .i64 a2] (fun k_ => ((P3_ k_ ∨ P4_ k_) ∨ w.heap.size ≤ k_)) (fun _ => False) rfl rfl ?aP (fun _ hk => hk.elim) ?aF ?aO ?aB ?aS ?aL ?_; (case aP => exact z253_); (case aB => exact z65_); (case aF => exact z44_); (case aO => exact z168_); (case aS => exact z61_); (case aL => have := LMc25.out; omega); intro v295 w29 ho hb hg hat; rw [← Ny294.out] at ho; replace HO_4 := Aside0.mk (Kd.R_over' z21_ (Kd.R_typed z19_) (by decide) hg); replace BK290 := Aside0.mk (blk_grown (g := gb290) (o := .cells #[.slice (some ad291) l0_0.length c0_0] 28 (0, 0)) z32_ hg (Kd.R_ne HO_3.out BK290.out (by decide))); replace BK292 := Aside0.mk (blk_grown (g := gb292) (o := .cells #[.bool ((rd_T72 l0_0 a1).f0), .int .i64 ((rd_T72 l0_0 a1).f1), .int .i64 ((rd_T72 l0_0 a1).f2), .int .i64 ((rd_T72 l0_0 a1).f3), .int .i64 ((rd_T72 l0_0 a1).f4), .int .i64 ((rd_T72 l0_0 a1).f5), .int .i64 ((rd_T72 l0_0 a1).f6)] 72 (0, 0)) z43_ hg (Kd.R_ne HO_3.out BK292.out (by decide))); replace HB := Aside0.mk (hb); replace HK := Aside0.mk (Kept.of_grown (S := (fun k_ => P3_ k_ ∨ P4_ k_)) hg z5_ (fun k_ e_ => (HO_3.out.1 k_ e_))); have HO296 := Aside0.mk (ho); clear HO_3; clear ho hb hg hat) | ((with_reducible refine gate_builtin (b := .append) (xs := #[.tmp 44, .tmp 46]) rfl ?_); at_builtin; refine Kd.R_append (Kd.int .i64) (w0 := w0) w0.heap.size rfl (.tmp 44) (.tmp 46) 49 3 (.int .i64 0) 8 rfl Try.underlying49 info3 rfl (by decide) (by omega) u9001_ l4 a1 [.int .i64 a1] (fun k_ => ((P3_ k_ ∨ P4_ k_) ∨ w.heap.size ≤ k_)) (fun _ => False) rfl rfl ?aP (fun _ hk => hk.elim) ?aF ?aO ?aB ?aS ?aL ?_; (case aP => exact rfl); (case aB => exact z65_); (case aF => exact z44_); (case aO => exact z169_); (case aS => exact z61_); (case aL => have := LMc26.out; omega); intro v298 w30 ho hb hg hat; rw [← Ny297.out] at ho; replace BK290 := Aside0.mk (blk_grown (g := gb290) (o := .cells #[.slice (some ad291) l0_0.length c0_0] 28 (0, 0)) z32_ hg (Kd.R_ne HO_4.out BK290.out (by decide))); replace BK292 := Aside0.mk (blk_grown (g := gb292) (o := .cells #[.bool ((rd_T72 l0_0 a1).f0), .int .i64 ((rd_T72 l0_0 a1).f1), .int .i64 ((rd_T72 l0_0 a1).f2), .int .i64 ((rd_T72 l0_0 a1).f3), .int .i64 ((rd_T72 l0_0 a1).f4), .int .i64 ((rd_T72 l0_0 a1).f5), .int .i64 ((rd_T72 l0_0 a1).f6)] 72 (0, 0)) z43_ hg (Kd.R_ne HO_4.out BK292.out (by decide))); replace HO296 := Aside0.mk (Kd.R_over' z173_ (Kd.R_typed z21_) (by decide) hg); replace HB := Aside0.mk (hb); replace HK := Aside0.mk (Kept.of_grown (S := (fun k_ => P3_ k_ ∨ P4_ k_)) hg z5_ (fun k_ e_ => (HO_4.out.1 k_ e_))); have HO299 := Aside0.mk (ho); clear HO_4; clear ho hb hg hat; have hcz31_0 : w30.cell? ⟨gb292, 0, none⟩ = some (.bool ((rd_T72 l0_0 a1).f0)) := (blk_cell BK292.out 0).trans rfl; have hcz31_1 : w30.cell? ⟨gb292, 1, none⟩ = some (.int .i64 ((rd_T72 l0_0 a1).f1)) := (blk_cell BK292.out 1).trans rfl; have hcz31_2 : w30.cell? ⟨gb292, 2, none⟩ = some (.int .i64 ((rd_T72 l0_0 a1).f2)) := (blk_cell BK292.out 2).trans rfl; have hcz31_3 : w30.cell? ⟨gb292, 3, none⟩ = some (.int .i64 ((rd_T72 l0_0 a1).f3)) := (blk_cell BK292.out 3).trans rfl; have hcz31_4 : w30.cell? ⟨gb292, 4, none⟩ = some (.int .i64 ((rd_T72 l0_0 a1).f4)) := (blk_cell BK292.out 4).trans rfl; have hcz31_5 : w30.cell? ⟨gb292, 5, none⟩ = some (.int .i64 ((rd_T72 l0_0 a1).f5)) := (blk_cell BK292.out 5).trans rfl; have hcz31_6 : w30.cell? ⟨gb292, 6, none⟩ = some (.int .i64 ((rd_T72 l0_0 a1).f6)) := (blk_cell BK292.out 6).trans rfl; have hfz31_0 := blk_frozen BK292.out 0; have hfz31_1 := blk_frozen BK292.out 1; have hfz31_2 := blk_frozen BK292.out 2; have hfz31_3 := blk_frozen BK292.out 3; have hfz31_4 := blk_frozen BK292.out 4; have hfz31_5 := blk_frozen BK292.out 5; have hfz31_6 := blk_frozen BK292.out 6))
    repeat (go_quiet (first | ((with_reducible refine gate_builtin (b := .append) (xs := #[.tmp 37, .tmp 42]) rfl ?_); at_builtin; refine Kd.R_append k62 (w0 := w0) w0.heap.size rfl (.tmp 37) (.tmp 42) 24 62 (.agg #[(.int .i64 0), (.int .i64 0)]) 16 rfl Try.underlying24 info62 rfl (by decide) (by omega) u9000_ l3 (⟨((rd_T72 l0_0 a1).f1), a2⟩ : S62) [.int .i64 ((rd_T72 l0_0 a1).f1), .int .i64 a2] (fun k_ => ((P3_ k_ ∨ P4_ k_) ∨ w.heap.size ≤ k_)) (fun _ => False) rfl rfl ?aP (fun _ hk => hk.elim) ?aF ?aO ?aB ?aS ?aL ?_; (case aP => exact z253_); (case aB => exact z65_); (case aF => exact z44_); (case aO => exact z168_); (case aS => exact z61_); (case aL => have := LMc25.out; omega); intro v295 w29 ho hb hg hat; rw [← Ny294.out] at ho; replace HO_4 := Aside0.mk (Kd.R_over' z21_ (Kd.R_typed z19_) (by decide) hg); replace BK290 := Aside0.mk (blk_grown (g := gb290) (o := .cells #[.slice (some ad291) l0_0.length c0_0] 28 (0, 0)) z32_ hg (Kd.R_ne HO_3.out BK290.out (by decide))); replace BK292 := Aside0.mk (blk_grown (g := gb292) (o := .cells #[.bool ((rd_T72 l0_0 a1).f0), .int .i64 ((rd_T72 l0_0 a1).f1), .int .i64 ((rd_T72 l0_0 a1).f2), .int .i64 ((rd_T72 l0_0 a1).f3), .int .i64 ((rd_T72 l0_0 a1).f4), .int .i64 ((rd_T72 l0_0 a1).f5), .int .i64 ((rd_T72 l0_0 a1).f6)] 72 (0, 0)) z43_ hg (Kd.R_ne HO_3.out BK292.out (by decide))); replace HB := Aside0.mk (hb); replace HK := Aside0.mk (Kept.of_grown (S := (fun k_ => P3_ k_ ∨ P4_ k_)) hg z5_ (fun k_ e_ => (HO_3.out.1 k_ e_))); have HO296 := Aside0.mk (ho); clear HO_3; clear ho hb hg hat) | ((with_reducible refine gate_builtin (b := .append) (xs := #[.tmp 44, .tmp 46]) rfl ?_); at_builtin; refine Kd.R_append (Kd.int .i64) (w0 := w0) w0.heap.size rfl (.tmp 44) (.tmp 46) 49 3 (.int .i64 0) 8 rfl Try.underlying49 info3 rfl (by decide) (by omega) u9001_ l4 a1 [.int .i64 a1] (fun k_ => ((P3_ k_ ∨ P4_ k_) ∨ w.heap.size ≤ k_)) (fun _ => False) rfl rfl ?aP (fun _ hk => hk.elim) ?aF ?aO ?aB ?aS ?aL ?_; (case aP => exact rfl); (case aB => exact z65_); (case aF => exact z44_); (case aO => exact z169_); (case aS => exact z61_); (case aL => have := LMc26.out; omega); intro v298 w30 ho hb hg hat; rw [← Ny297.out] at ho; replace BK290 := Aside0.mk (blk_grown (g := gb290) (o := .cells #[.slice (some ad291) l0_0.length c0_0] 28 (0, 0)) z32_ hg (Kd.R_ne HO_4.out BK290.out (by decide))); replace BK292 := Aside0.mk (blk_grown (g := gb292) (o := .cells #[.bool ((rd_T72 l0_0 a1).f0), .int .i64 ((rd_T72 l0_0 a1).f1), .int .i64 ((rd_T72 l0_0 a1).f2), .int .i64 ((rd_T72 l0_0 a1).f3), .int .i64 ((rd_T72 l0_0 a1).f4), .int .i64 ((rd_T72 l0_0 a1).f5), .int .i64 ((rd_T72 l0_0 a1).f6)] 72 (0, 0)) z43_ hg (Kd.R_ne HO_4.out BK292.out (by decide))); replace HO296 := Aside0.mk (Kd.R_over' z173_ (Kd.R_typed z21_) (by decide) hg); replace HB := Aside0.mk (hb); replace HK := Aside0.mk (Kept.of_grown (S := (fun k_ => P3_ k_ ∨ P4_ k_)) hg z5_ (fun k_ e_ => (HO_4.out.1 k_ e_))); have HO299 := Aside0.mk (ho); clear HO_4; clear ho hb hg hat; have hcz31_0 : w30.cell? ⟨gb292, 0, none⟩ = some (.bool ((rd_T72 l0_0 a1).f0)) := (blk_cell BK292.out 0).trans rfl; have hcz31_1 : w30.cell? ⟨gb292, 1, none⟩ = some (.int .i64 ((rd_T72 l0_0 a1).f1)) := (blk_cell BK292.out 1).trans rfl; have hcz31_2 : w30.cell? ⟨gb292, 2, none⟩ = some (.int .i64 ((rd_T72 l0_0 a1).f2)) := (blk_cell BK292.out 2).trans rfl; have hcz31_3 : w30.cell? ⟨gb292, 3, none⟩ = some (.int .i64 ((rd_T72 l0_0 a1).f3)) := (blk_cell BK292.out 3).trans rfl; have hcz31_4 : w30.cell? ⟨gb292, 4, none⟩ = some (.int .i64 ((rd_T72 l0_0 a1).f4)) := (blk_cell BK292.out 4).trans rfl; have hcz31_5 : w30.cell? ⟨gb292, 5, none⟩ = some (.int .i64 ((rd_T72 l0_0 a1).f5)) := (blk_cell BK292.out 5).trans rfl; have hcz31_6 : w30.cell? ⟨gb292, 6, none⟩ = some (.int .i64 ((rd_T72 l0_0 a1).f6)) := (blk_cell BK292.out 6).trans rfl; have hfz31_0 := blk_frozen BK292.out 0; have hfz31_1 := blk_frozen BK292.out 1; have hfz31_2 := blk_frozen BK292.out 2; have hfz31_3 := blk_frozen BK292.out 3; have hfz31_4 := blk_frozen BK292.out 4; have hfz31_5 := blk_frozen BK292.out 5; have hfz31_6 := blk_frozen BK292.out 6)); try go_wp2_with (first | ((with_reducible refine gate_builtin (b := .append) (xs := #[.tmp 37, .tmp 42]) rfl ?_); at_builtin; refine Kd.R_append k62 (w0 := w0) w0.heap.size rfl (.tmp 37) (.tmp 42) 24 62 (.agg #[(.int .i64 0), (.int .i64 0)]) 16 rfl Try.underlying24 info62 rfl (by decide) (by omega) u9000_ l3 (⟨((rd_T72 l0_0 a1).f1), a2⟩ : S62) [.int .i64 ((rd_T72 l0_0 a1).f1), .int .i64 a2] (fun k_ => ((P3_ k_ ∨ P4_ k_) ∨ w.heap.size ≤ k_)) (fun _ => False) rfl rfl ?aP (fun _ hk => hk.elim) ?aF ?aO ?aB ?aS ?aL ?_; (case aP => exact z253_); (case aB => exact z65_); (case aF => exact z44_); (case aO => exact z168_); (case aS => exact z61_); (case aL => have := LMc25.out; omega); intro v295 w29 ho hb hg hat; rw [← Ny294.out] at ho; replace HO_4 := Aside0.mk (Kd.R_over' z21_ (Kd.R_typed z19_) (by decide) hg); replace BK290 := Aside0.mk (blk_grown (g := gb290) (o := .cells #[.slice (some ad291) l0_0.length c0_0] 28 (0, 0)) z32_ hg (Kd.R_ne HO_3.out BK290.out (by decide))); replace BK292 := Aside0.mk (blk_grown (g := gb292) (o := .cells #[.bool ((rd_T72 l0_0 a1).f0), .int .i64 ((rd_T72 l0_0 a1).f1), .int .i64 ((rd_T72 l0_0 a1).f2), .int .i64 ((rd_T72 l0_0 a1).f3), .int .i64 ((rd_T72 l0_0 a1).f4), .int .i64 ((rd_T72 l0_0 a1).f5), .int .i64 ((rd_T72 l0_0 a1).f6)] 72 (0, 0)) z43_ hg (Kd.R_ne HO_3.out BK292.out (by decide))); replace HB := Aside0.mk (hb); replace HK := Aside0.mk (Kept.of_grown (S := (fun k_ => P3_ k_ ∨ P4_ k_)) hg z5_ (fun k_ e_ => (HO_3.out.1 k_ e_))); have HO296 := Aside0.mk (ho); clear HO_3; clear ho hb hg hat) | ((with_reducible refine gate_builtin (b := .append) (xs := #[.tmp 44, .tmp 46]) rfl ?_); at_builtin; refine Kd.R_append (Kd.int .i64) (w0 := w0) w0.heap.size rfl (.tmp 44) (.tmp 46) 49 3 (.int .i64 0) 8 rfl Try.underlying49 info3 rfl (by decide) (by omega) u9001_ l4 a1 [.int .i64 a1] (fun k_ => ((P3_ k_ ∨ P4_ k_) ∨ w.heap.size ≤ k_)) (fun _ => False) rfl rfl ?aP (fun _ hk => hk.elim) ?aF ?aO ?aB ?aS ?aL ?_; (case aP => exact rfl); (case aB => exact z65_); (case aF => exact z44_); (case aO => exact z169_); (case aS => exact z61_); (case aL => have := LMc26.out; omega); intro v298 w30 ho hb hg hat; rw [← Ny297.out] at ho; replace BK290 := Aside0.mk (blk_grown (g := gb290) (o := .cells #[.slice (some ad291) l0_0.length c0_0] 28 (0, 0)) z32_ hg (Kd.R_ne HO_4.out BK290.out (by decide))); replace BK292 := Aside0.mk (blk_grown (g := gb292) (o := .cells #[.bool ((rd_T72 l0_0 a1).f0), .int .i64 ((rd_T72 l0_0 a1).f1), .int .i64 ((rd_T72 l0_0 a1).f2), .int .i64 ((rd_T72 l0_0 a1).f3), .int .i64 ((rd_T72 l0_0 a1).f4), .int .i64 ((rd_T72 l0_0 a1).f5), .int .i64 ((rd_T72 l0_0 a1).f6)] 72 (0, 0)) z43_ hg (Kd.R_ne HO_4.out BK292.out (by decide))); replace HO296 := Aside0.mk (Kd.R_over' z173_ (Kd.R_typed z21_) (by decide) hg); replace HB := Aside0.mk (hb); replace HK := Aside0.mk (Kept.of_grown (S := (fun k_ => P3_ k_ ∨ P4_ k_)) hg z5_ (fun k_ e_ => (HO_4.out.1 k_ e_))); have HO299 := Aside0.mk (ho); clear HO_4; clear ho hb hg hat; have hcz31_0 : w30.cell? ⟨gb292, 0, none⟩ = some (.bool ((rd_T72 l0_0 a1).f0)) := (blk_cell BK292.out 0).trans rfl; have hcz31_1 : w30.cell? ⟨gb292, 1, none⟩ = some (.int .i64 ((rd_T72 l0_0 a1).f1)) := (blk_cell BK292.out 1).trans rfl; have hcz31_2 : w30.cell? ⟨gb292, 2, none⟩ = some (.int .i64 ((rd_T72 l0_0 a1).f2)) := (blk_cell BK292.out 2).trans rfl; have hcz31_3 : w30.cell? ⟨gb292, 3, none⟩ = some (.int .i64 ((rd_T72 l0_0 a1).f3)) := (blk_cell BK292.out 3).trans rfl; have hcz31_4 : w30.cell? ⟨gb292, 4, none⟩ = some (.int .i64 ((rd_T72 l0_0 a1).f4)) := (blk_cell BK292.out 4).trans rfl; have hcz31_5 : w30.cell? ⟨gb292, 5, none⟩ = some (.int .i64 ((rd_T72 l0_0 a1).f5)) := (blk_cell BK292.out 5).trans rfl; have hcz31_6 : w30.cell? ⟨gb292, 6, none⟩ = some (.int .i64 ((rd_T72 l0_0 a1).f6)) := (blk_cell BK292.out 6).trans rfl; have hfz31_0 := blk_frozen BK292.out 0; have hfz31_1 := blk_frozen BK292.out 1; have hfz31_2 := blk_frozen BK292.out 2; have hfz31_3 := blk_frozen BK292.out 3; have hfz31_4 := blk_frozen BK292.out 4; have hfz31_5 := blk_frozen BK292.out 5; have hfz31_6 := blk_frozen BK292.out 6)))
    go_loopg [3, 4, 14, 15] kj7 (fun kq v3 v4 v14 v15 w' => ∃ (x3_2 : List (S62)) (x4_2 : List Int) (x14_2 : Int) (x15_2 : Int), v14 = .int .i64 x14_2 ∧ v15 = .int .i64 x15_2 ∧ Aside0 (impl_Dom_visit.l0 kq a1 a2 x3_2 x4_2 x14_2 x15_2 l0_0 ((rd_T72 l0_0 a1).f0) ((rd_T72 l0_0 a1).f1) ((rd_T72 l0_0 a1).f2) ((rd_T72 l0_0 a1).f3) ((rd_T72 l0_0 a1).f4) ((rd_T72 l0_0 a1).f5) ((rd_T72 l0_0 a1).f6) = some (r1, r2, r3)) ∧ Aside0 (kq ≤ kj7) ∧ Aside0 (Kd.R k62 62 w' w0.heap.size (fun k_ => ((P3_ k_ ∨ P4_ k_) ∨ w.heap.size ≤ k_)) v3 x3_2) ∧ Aside0 (Kd.R (Kd.int .i64) 3 w' w0.heap.size (fun k_ => ((P3_ k_ ∨ P4_ k_) ∨ w.heap.size ≤ k_)) v4 x4_2) ∧ Aside0 (w'.heap[gb290]? = some (.cells #[(.slice (some ad291) l0_0.length c0_0)] 28 (0, 0))) ∧ Aside0 (w'.heap[gb292]? = some (.cells #[.bool ((rd_T72 l0_0 a1).f0), .int .i64 ((rd_T72 l0_0 a1).f1), .int .i64 ((rd_T72 l0_0 a1).f2), .int .i64 ((rd_T72 l0_0 a1).f3), .int .i64 ((rd_T72 l0_0 a1).f4), .int .i64 ((rd_T72 l0_0 a1).f5), .int .i64 ((rd_T72 l0_0 a1).f6)] 72 (0, 0))) ∧ Aside0 (Kept w w' (fun k_ => P3_ k_ ∨ P4_ k_)) ∧ Aside0 (Below w0.heap.size w0 w'))
    case atStart => exact ⟨(y294), (y297), ((-1)), (((rd_T72 l0_0 a1).f3)), z12_, z12_, H', ⟨Nat.le_refl _⟩, ⟨z173_⟩, ⟨by (with_reducible repeat (first | apply Kd.R_alloc | apply Kd.R_drewN | apply Kd.R_drew)); exact HO299.out⟩, ⟨z32_⟩, ⟨z43_⟩, ⟨z5_⟩, ⟨z7_⟩⟩
    case round =>
     clear H'
     try clear c1
     try clear q1
     try clear c2
     try clear p2
     try clear q2
     try clear hx2
     try clear c6
     try clear c6b0
     try clear c7
     try clear c7b0
     try clear c11
     try clear c12
     try clear q14
     try clear c15
     try clear c17
     try clear c18
     try clear c20
     try clear c22
     try clear c24
     try clear c25
     try clear c26
     try clear c27
     try clear p29
     try clear q29
     try clear hx29
     try clear hcz10_0
     try clear hcz13_0
     try clear hcz13_1
     try clear hcz13_2
     try clear hcz13_3
     try clear hcz13_4
     try clear hcz13_5
     try clear hcz13_6
     try clear hcz19_0
     try clear hcz19_1
     try clear hcz19_2
     try clear hcz19_3
     try clear hcz19_4
     try clear hcz19_5
     try clear hcz19_6
     try clear hcz21_0
     try clear hcz21_1
     try clear hcz21_2
     try clear hcz21_3
     try clear hcz21_4
     try clear hcz21_5
     try clear hcz21_6
     try clear hcz23_0
     try clear hcz23_1
     try clear hcz23_2
     try clear hcz23_3
     try clear hcz23_4
     try clear hcz23_5
     try clear hcz23_6
     try clear hcz28_0
     try clear hcz28_1
     try clear hcz28_2
     try clear hcz28_3
     try clear hcz28_4
     try clear hcz28_5
     try clear hcz28_6
     try clear hcz31_0
     try clear hcz31_1
     try clear hcz31_2
     try clear hcz31_3
     try clear hcz31_4
     try clear hcz31_5
     try clear hcz31_6
     try clear hfz10_0
     try clear hfz13_0
     try clear hfz13_1
     try clear hfz13_2
     try clear hfz13_3
     try clear hfz13_4
     try clear hfz13_5
     try clear hfz13_6
     try clear hfz19_0
     try clear hfz19_1
     try clear hfz19_2
     try clear hfz19_3
     try clear hfz19_4
     try clear hfz19_5
     try clear hfz19_6
     try clear hfz21_0
     try clear hfz21_1
     try clear hfz21_2
     try clear hfz21_3
     try clear hfz21_4
     try clear hfz21_5
     try clear hfz21_6
     try clear hfz23_0
     try clear hfz23_1
     try clear hfz23_2
     try clear hfz23_3
     try clear hfz23_4
     try clear hfz23_5
     try clear hfz23_6
     try clear hfz28_0
     try clear hfz28_1
     try clear hfz28_2
     try clear hfz28_3
     try clear hfz28_4
     try clear hfz28_5
     try clear hfz28_6
     try clear hfz31_0
     try clear hfz31_1
     try clear hfz31_2
     try clear hfz31_3
     try clear hfz31_4
     try clear hfz31_5
     try clear hfz31_6
     try clear hx291_0
     try clear hx291_1
     try clear hx291_2
     try clear hx291_3
     try clear hx291_4
     try clear hx291_5
     try clear hx291_6
     try clear p2
     try clear p291
     try clear q1
     try clear q14
     try clear q2
     try clear q291
     obtain ⟨x3_2, x4_2, x14_2, x15_2, rfl, rfl, HA, HK2, HO_3, HO_4, BK290, BK292, HK, HB⟩ := hrel
     cases gk with
     | zero => exact absurd HA.out (by simp [impl_Dom_visit.l0])
     | succ k2 =>
      have H := HA.out
      clear HA
      simp only [impl_Dom_visit.l0] at H
      by_cases c32 : x15_2 = (-1)
      ·rw [if_pos c32] at H
       have c32b0 : (x15_2 == (-1)) = true := beq_iff_eq.mpr c32
       have c32b1 : (x15_2 != (-1)) = false := bne_eq_false_iff_eq.mpr c32
       clear c32
       simp only [Option.some.injEq, Prod.mk.injEq] at H
       obtain ⟨rfl, rfl, rfl⟩ := H
       have hnb33 := NB292_290.out
       have hnc33 := NB290_292.out
       have hcz34_0 : wr.cell? ⟨gb292, 0, none⟩ = some (.bool ((rd_T72 l0_0 a1).f0)) := (blk_cell BK292.out 0).trans rfl
       have hcz34_1 : wr.cell? ⟨gb292, 1, none⟩ = some (.int .i64 ((rd_T72 l0_0 a1).f1)) := (blk_cell BK292.out 1).trans rfl
       have hcz34_2 : wr.cell? ⟨gb292, 2, none⟩ = some (.int .i64 ((rd_T72 l0_0 a1).f2)) := (blk_cell BK292.out 2).trans rfl
       have hcz34_3 : wr.cell? ⟨gb292, 3, none⟩ = some (.int .i64 ((rd_T72 l0_0 a1).f3)) := (blk_cell BK292.out 3).trans rfl
       have hcz34_4 : wr.cell? ⟨gb292, 4, none⟩ = some (.int .i64 ((rd_T72 l0_0 a1).f4)) := (blk_cell BK292.out 4).trans rfl
       have hcz34_5 : wr.cell? ⟨gb292, 5, none⟩ = some (.int .i64 ((rd_T72 l0_0 a1).f5)) := (blk_cell BK292.out 5).trans rfl
       have hcz34_6 : wr.cell? ⟨gb292, 6, none⟩ = some (.int .i64 ((rd_T72 l0_0 a1).f6)) := (blk_cell BK292.out 6).trans rfl
       have hfz34_0 := blk_frozen BK292.out 0
       have hfz34_1 := blk_frozen BK292.out 1
       have hfz34_2 := blk_frozen BK292.out 2
       have hfz34_3 := blk_frozen BK292.out 3
       have hfz34_4 := blk_frozen BK292.out 4
       have hfz34_5 := blk_frozen BK292.out 5
       have hfz34_6 := blk_frozen BK292.out 6
       go_wp2
       repeat (go_quiet (fail); try go_wp2)
       go_ret3
       exact ⟨_, _, z4_, z19_, z21_, z7_, z5_⟩
      ·rw [if_neg c32] at H
       have c32b0 : (x15_2 == (-1)) = false := beq_eq_false_iff_ne.mpr c32
       have c32b1 : (x15_2 != (-1)) = true := bne_iff_ne.mpr c32
       have HC35 := Aside0.mk H
       clear H
       go_upto_region 9 with (fail)
       repeat (go_quiet (fail); go_upto_region 9 with (fail))
       go_cut [89] (fun v89 wc => ∃ (kq : Nat) (x89_34 : Bool), v89 = .bool x89_34 ∧ Aside0 (impl_Dom_visit.j2 kq a1 a2 x3_2 x4_2 x15_2 x89_34 l0_0 ((rd_T72 l0_0 a1).f0) ((rd_T72 l0_0 a1).f1) ((rd_T72 l0_0 a1).f2) ((rd_T72 l0_0 a1).f3) ((rd_T72 l0_0 a1).f4) ((rd_T72 l0_0 a1).f5) ((rd_T72 l0_0 a1).f6) = some (r1, r2, r3)) ∧ Aside0 (kq ≤ k2) ∧ Aside0 (Kd.R k62 62 wc w0.heap.size (fun k_ => ((P3_ k_ ∨ P4_ k_) ∨ w.heap.size ≤ k_)) u3 x3_2) ∧ Aside0 (Kd.R (Kd.int .i64) 3 wc w0.heap.size (fun k_ => ((P3_ k_ ∨ P4_ k_) ∨ w.heap.size ≤ k_)) u4 x4_2) ∧ Aside0 (wc.heap[gb290]? = some (.cells #[(.slice (some ad291) l0_0.length c0_0)] 28 (0, 0))) ∧ Aside0 (wc.heap[gb292]? = some (.cells #[.bool ((rd_T72 l0_0 a1).f0), .int .i64 ((rd_T72 l0_0 a1).f1), .int .i64 ((rd_T72 l0_0 a1).f2), .int .i64 ((rd_T72 l0_0 a1).f3), .int .i64 ((rd_T72 l0_0 a1).f4), .int .i64 ((rd_T72 l0_0 a1).f5), .int .i64 ((rd_T72 l0_0 a1).f6)] 72 (0, 0))) ∧ Aside0 (Kept w wc (fun k_ => P3_ k_ ∨ P4_ k_)) ∧ Aside0 (Below w0.heap.size w0 wc))
       case first =>
        have H := HC35.out
        clear HC35
        obtain ⟨t300, A36, H⟩ := bnd_ H
        by_cases c37 : t300 = true
        ·subst c37
         replace H := ift_ H
         obtain ⟨t301, A38, H⟩ := bnd_ H
         by_cases c39 : t301 = true
         ·subst c39
          replace H := ift_ H
          have H' := Aside0.mk H
          clear H
          have hnb40 := NB290_292.out
          have hnc40 := NB292_290.out
          have hcz41_0 : wr.cell? ⟨gb290, 0, none⟩ = some (.slice (some ad291) l0_0.length c0_0) := (blk_cell BK290.out 0).trans rfl
          have hfz41_0 := blk_frozen BK290.out 0
          go_wp2_with (first | (go_at_call 81; (with_reducible refine (impl_within.calls x15_2 0 (wrap64 ((l0_0.length : Int) - 1)) true _ A36.out).mono ?_); rintro e w' ⟨rfl, ⟨nd, rfl⟩⟩; (try first | exact ⟨rfl, _, World.drewN_drewN _ _ _⟩ | exact ⟨rfl, _, Eq.trans (World.drewN_drewN _ _ _) (congrArg (World.drewN _) (Nat.add_assoc _ _ _))⟩); obtain ⟨Ao42, co42, eo42⟩ := Kd.R_slice HO_4.out; subst eo42) | (go_at_call 86; (with_reducible refine (slices_Contains_int_int.calls k2 _ _ x4_2 x15_2 true _ ?side1 ?side2 A38.out).mono ?_); (case side1 => exact z54_); (case side2 => exact z224_); rintro e w' ⟨rfl, ⟨nd, rfl⟩⟩; (try first | exact ⟨rfl, _, World.drewN_drewN _ _ _⟩ | exact ⟨rfl, _, Eq.trans (World.drewN_drewN _ _ _) (congrArg (World.drewN _) (Nat.add_assoc _ _ _))⟩)))
          repeat (go_quiet (first | (go_at_call 81; (with_reducible refine (impl_within.calls x15_2 0 (wrap64 ((l0_0.length : Int) - 1)) true _ A36.out).mono ?_); rintro e w' ⟨rfl, ⟨nd, rfl⟩⟩; (try first | exact ⟨rfl, _, World.drewN_drewN _ _ _⟩ | exact ⟨rfl, _, Eq.trans (World.drewN_drewN _ _ _) (congrArg (World.drewN _) (Nat.add_assoc _ _ _))⟩); obtain ⟨Ao42, co42, eo42⟩ := Kd.R_slice HO_4.out; subst eo42) | (go_at_call 86; (with_reducible refine (slices_Contains_int_int.calls k2 _ _ x4_2 x15_2 true _ ?side1 ?side2 A38.out).mono ?_); (case side1 => exact z54_); (case side2 => exact z224_); rintro e w' ⟨rfl, ⟨nd, rfl⟩⟩; (try first | exact ⟨rfl, _, World.drewN_drewN _ _ _⟩ | exact ⟨rfl, _, Eq.trans (World.drewN_drewN _ _ _) (congrArg (World.drewN _) (Nat.add_assoc _ _ _))⟩))); try go_wp2_with (first | (go_at_call 81; (with_reducible refine (impl_within.calls x15_2 0 (wrap64 ((l0_0.length : Int) - 1)) true _ A36.out).mono ?_); rintro e w' ⟨rfl, ⟨nd, rfl⟩⟩; (try first | exact ⟨rfl, _, World.drewN_drewN _ _ _⟩ | exact ⟨rfl, _, Eq.trans (World.drewN_drewN _ _ _) (congrArg (World.drewN _) (Nat.add_assoc _ _ _))⟩); obtain ⟨Ao42, co42, eo42⟩ := Kd.R_slice HO_4.out; subst eo42) | (go_at_call 86; (with_reducible refine (slices_Contains_int_int.calls k2 _ _ x4_2 x15_2 true _ ?side1 ?side2 A38.out).mono ?_); (case side1 => exact z54_); (case side2 => exact z224_); rintro e w' ⟨rfl, ⟨nd, rfl⟩⟩; (try first | exact ⟨rfl, _, World.drewN_drewN _ _ _⟩ | exact ⟨rfl, _, Eq.trans (World.drewN_drewN _ _ _) (congrArg (World.drewN _) (Nat.add_assoc _ _ _))⟩))))
          go_meet
          case rel => exact ⟨_, (true), z12_, H', ⟨z229_⟩, ⟨z19_⟩, ⟨z21_⟩, ⟨z32_⟩, ⟨z43_⟩, ⟨z5_⟩, ⟨z7_⟩⟩
         ·replace c39 := Bool.eq_false_iff.mpr c39
          subst c39
          replace H := iff_ H
          obtain ⟨c43b0, H⟩ := ifd_ H
          (first | rw [c43b0] | rw [c43b1] | (simp only [i64_w, i32_w]; rw [c43b0]) | skip)
          obtain ⟨c44b0, H⟩ := ifd_ H
          by_cases c45 : ((rd_T72 l0_0 x15_2).f2) = a1
          ·rw [if_pos c45] at H
           have c45b0 : (((rd_T72 l0_0 x15_2).f2) == a1) = true := beq_iff_eq.mpr c45
           have c45b1 : (((rd_T72 l0_0 x15_2).f2) != a1) = false := bne_eq_false_iff_eq.mpr c45
           clear c45
           have H' := Aside0.mk H
           clear H
           have hnb46 := NB290_292.out
           have hnc46 := NB292_290.out
           have hcz47_0 : wr.cell? ⟨gb290, 0, none⟩ = some (.slice (some ad291) l0_0.length c0_0) := (blk_cell BK290.out 0).trans rfl
           have hfz47_0 := blk_frozen BK290.out 0
           go_wp2_with (first | (go_at_call 81; (with_reducible refine (impl_within.calls x15_2 0 (wrap64 ((l0_0.length : Int) - 1)) true _ A36.out).mono ?_); rintro e w' ⟨rfl, ⟨nd, rfl⟩⟩; (try first | exact ⟨rfl, _, World.drewN_drewN _ _ _⟩ | exact ⟨rfl, _, Eq.trans (World.drewN_drewN _ _ _) (congrArg (World.drewN _) (Nat.add_assoc _ _ _))⟩); obtain ⟨Ao48, co48, eo48⟩ := Kd.R_slice HO_4.out; subst eo48) | (go_at_call 86; (with_reducible refine (slices_Contains_int_int.calls k2 _ _ x4_2 x15_2 false _ ?side1 ?side2 A38.out).mono ?_); (case side1 => exact z54_); (case side2 => exact z224_); rintro e w' ⟨rfl, ⟨nd, rfl⟩⟩; (try first | exact ⟨rfl, _, World.drewN_drewN _ _ _⟩ | exact ⟨rfl, _, Eq.trans (World.drewN_drewN _ _ _) (congrArg (World.drewN _) (Nat.add_assoc _ _ _))⟩); have p302 : 0 ≤ (x15_2 : Int) := odt_; have q302 : x15_2 < (l0_0.length : Int) := odt_; obtain ⟨ad302, e302, hx302_0, hx302_1, hx302_2, hx302_3, hx302_4, hx302_5, hx302_6⟩ := at_T72 (Kd.C_kept_now HR0_0.out HK.out) x15_2 p302 q302; obtain rfl : ad291 = ad302 := (by injection e302); replace p302 := eq_true p302; replace q302 := eq_true q302; have p303 : 0 ≤ (x15_2 : Int) := odt_; have q303 : x15_2 < (l0_0.length : Int) := odt_; obtain ⟨ad303, e303, hx303_0, hx303_1, hx303_2, hx303_3, hx303_4, hx303_5, hx303_6⟩ := at_T72 (Kd.C_kept_now HR0_0.out HK.out) x15_2 p303 q303; obtain rfl : ad291 = ad303 := (by injection e303); replace p303 := eq_true p303; replace q303 := eq_true q303))
           repeat (go_quiet (first | (go_at_call 81; (with_reducible refine (impl_within.calls x15_2 0 (wrap64 ((l0_0.length : Int) - 1)) true _ A36.out).mono ?_); rintro e w' ⟨rfl, ⟨nd, rfl⟩⟩; (try first | exact ⟨rfl, _, World.drewN_drewN _ _ _⟩ | exact ⟨rfl, _, Eq.trans (World.drewN_drewN _ _ _) (congrArg (World.drewN _) (Nat.add_assoc _ _ _))⟩); obtain ⟨Ao48, co48, eo48⟩ := Kd.R_slice HO_4.out; subst eo48) | (go_at_call 86; (with_reducible refine (slices_Contains_int_int.calls k2 _ _ x4_2 x15_2 false _ ?side1 ?side2 A38.out).mono ?_); (case side1 => exact z54_); (case side2 => exact z224_); rintro e w' ⟨rfl, ⟨nd, rfl⟩⟩; (try first | exact ⟨rfl, _, World.drewN_drewN _ _ _⟩ | exact ⟨rfl, _, Eq.trans (World.drewN_drewN _ _ _) (congrArg (World.drewN _) (Nat.add_assoc _ _ _))⟩); have p302 : 0 ≤ (x15_2 : Int) := odt_; have q302 : x15_2 < (l0_0.length : Int) := odt_; obtain ⟨ad302, e302, hx302_0, hx302_1, hx302_2, hx302_3, hx302_4, hx302_5, hx302_6⟩ := at_T72 (Kd.C_kept_now HR0_0.out HK.out) x15_2 p302 q302; obtain rfl : ad291 = ad302 := (by injection e302); replace p302 := eq_true p302; replace q302 := eq_true q302; have p303 : 0 ≤ (x15_2 : Int) := odt_; have q303 : x15_2 < (l0_0.length : Int) := odt_; obtain ⟨ad303, e303, hx303_0, hx303_1, hx303_2, hx303_3, hx303_4, hx303_5, hx303_6⟩ := at_T72 (Kd.C_kept_now HR0_0.out HK.out) x15_2 p303 q303; obtain rfl : ad291 = ad303 := (by injection e303); replace p303 := eq_true p303; replace q303 := eq_true q303)); try go_wp2_with (first | (go_at_call 81; (with_reducible refine (impl_within.calls x15_2 0 (wrap64 ((l0_0.length : Int) - 1)) true _ A36.out).mono ?_); rintro e w' ⟨rfl, ⟨nd, rfl⟩⟩; (try first | exact ⟨rfl, _, World.drewN_drewN _ _ _⟩ | exact ⟨rfl, _, Eq.trans (World.drewN_drewN _ _ _) (congrArg (World.drewN _) (Nat.add_assoc _ _ _))⟩); obtain ⟨Ao48, co48, eo48⟩ := Kd.R_slice HO_4.out; subst eo48) | (go_at_call 86; (with_reducible refine (slices_Contains_int_int.calls k2 _ _ x4_2 x15_2 false _ ?side1 ?side2 A38.out).mono ?_); (case side1 => exact z54_); (case side2 => exact z224_); rintro e w' ⟨rfl, ⟨nd, rfl⟩⟩; (try first | exact ⟨rfl, _, World.drewN_drewN _ _ _⟩ | exact ⟨rfl, _, Eq.trans (World.drewN_drewN _ _ _) (congrArg (World.drewN _) (Nat.add_assoc _ _ _))⟩); have p302 : 0 ≤ (x15_2 : Int) := odt_; have q302 : x15_2 < (l0_0.length : Int) := odt_; obtain ⟨ad302, e302, hx302_0, hx302_1, hx302_2, hx302_3, hx302_4, hx302_5, hx302_6⟩ := at_T72 (Kd.C_kept_now HR0_0.out HK.out) x15_2 p302 q302; obtain rfl : ad291 = ad302 := (by injection e302); replace p302 := eq_true p302; replace q302 := eq_true q302; have p303 : 0 ≤ (x15_2 : Int) := odt_; have q303 : x15_2 < (l0_0.length : Int) := odt_; obtain ⟨ad303, e303, hx303_0, hx303_1, hx303_2, hx303_3, hx303_4, hx303_5, hx303_6⟩ := at_T72 (Kd.C_kept_now HR0_0.out HK.out) x15_2 p303 q303; obtain rfl : ad291 = ad303 := (by injection e303); replace p303 := eq_true p303; replace q303 := eq_true q303)))
           go_meet
           case rel => exact ⟨_, ((((rd_T72 l0_0 x15_2).f5) != x14_2)), z12_, H', ⟨z229_⟩, ⟨z19_⟩, ⟨z21_⟩, ⟨z32_⟩, ⟨z43_⟩, ⟨z5_⟩, ⟨z7_⟩⟩
          ·rw [if_neg c45] at H
           have c45b0 : (((rd_T72 l0_0 x15_2).f2) == a1) = false := beq_eq_false_iff_ne.mpr c45
           have c45b1 : (((rd_T72 l0_0 x15_2).f2) != a1) = true := bne_iff_ne.mpr c45
           have H' := Aside0.mk H
           clear H
           have hnb49 := NB290_292.out
           have hnc49 := NB292_290.out
           have hcz50_0 : wr.cell? ⟨gb290, 0, none⟩ = some (.slice (some ad291) l0_0.length c0_0) := (blk_cell BK290.out 0).trans rfl
           have hfz50_0 := blk_frozen BK290.out 0
           go_wp2_with (first | (go_at_call 81; (with_reducible refine (impl_within.calls x15_2 0 (wrap64 ((l0_0.length : Int) - 1)) true _ A36.out).mono ?_); rintro e w' ⟨rfl, ⟨nd, rfl⟩⟩; (try first | exact ⟨rfl, _, World.drewN_drewN _ _ _⟩ | exact ⟨rfl, _, Eq.trans (World.drewN_drewN _ _ _) (congrArg (World.drewN _) (Nat.add_assoc _ _ _))⟩); obtain ⟨Ao51, co51, eo51⟩ := Kd.R_slice HO_4.out; subst eo51) | (go_at_call 86; (with_reducible refine (slices_Contains_int_int.calls k2 _ _ x4_2 x15_2 false _ ?side1 ?side2 A38.out).mono ?_); (case side1 => exact z54_); (case side2 => exact z224_); rintro e w' ⟨rfl, ⟨nd, rfl⟩⟩; (try first | exact ⟨rfl, _, World.drewN_drewN _ _ _⟩ | exact ⟨rfl, _, Eq.trans (World.drewN_drewN _ _ _) (congrArg (World.drewN _) (Nat.add_assoc _ _ _))⟩); have p302 : 0 ≤ (x15_2 : Int) := odt_; have q302 : x15_2 < (l0_0.length : Int) := odt_; obtain ⟨ad302, e302, hx302_0, hx302_1, hx302_2, hx302_3, hx302_4, hx302_5, hx302_6⟩ := at_T72 (Kd.C_kept_now HR0_0.out HK.out) x15_2 p302 q302; obtain rfl : ad291 = ad302 := (by injection e302); replace p302 := eq_true p302; replace q302 := eq_true q302))
           repeat (go_quiet (first | (go_at_call 81; (with_reducible refine (impl_within.calls x15_2 0 (wrap64 ((l0_0.length : Int) - 1)) true _ A36.out).mono ?_); rintro e w' ⟨rfl, ⟨nd, rfl⟩⟩; (try first | exact ⟨rfl, _, World.drewN_drewN _ _ _⟩ | exact ⟨rfl, _, Eq.trans (World.drewN_drewN _ _ _) (congrArg (World.drewN _) (Nat.add_assoc _ _ _))⟩); obtain ⟨Ao51, co51, eo51⟩ := Kd.R_slice HO_4.out; subst eo51) | (go_at_call 86; (with_reducible refine (slices_Contains_int_int.calls k2 _ _ x4_2 x15_2 false _ ?side1 ?side2 A38.out).mono ?_); (case side1 => exact z54_); (case side2 => exact z224_); rintro e w' ⟨rfl, ⟨nd, rfl⟩⟩; (try first | exact ⟨rfl, _, World.drewN_drewN _ _ _⟩ | exact ⟨rfl, _, Eq.trans (World.drewN_drewN _ _ _) (congrArg (World.drewN _) (Nat.add_assoc _ _ _))⟩); have p302 : 0 ≤ (x15_2 : Int) := odt_; have q302 : x15_2 < (l0_0.length : Int) := odt_; obtain ⟨ad302, e302, hx302_0, hx302_1, hx302_2, hx302_3, hx302_4, hx302_5, hx302_6⟩ := at_T72 (Kd.C_kept_now HR0_0.out HK.out) x15_2 p302 q302; obtain rfl : ad291 = ad302 := (by injection e302); replace p302 := eq_true p302; replace q302 := eq_true q302)); try go_wp2_with (first | (go_at_call 81; (with_reducible refine (impl_within.calls x15_2 0 (wrap64 ((l0_0.length : Int) - 1)) true _ A36.out).mono ?_); rintro e w' ⟨rfl, ⟨nd, rfl⟩⟩; (try first | exact ⟨rfl, _, World.drewN_drewN _ _ _⟩ | exact ⟨rfl, _, Eq.trans (World.drewN_drewN _ _ _) (congrArg (World.drewN _) (Nat.add_assoc _ _ _))⟩); obtain ⟨Ao51, co51, eo51⟩ := Kd.R_slice HO_4.out; subst eo51) | (go_at_call 86; (with_reducible refine (slices_Contains_int_int.calls k2 _ _ x4_2 x15_2 false _ ?side1 ?side2 A38.out).mono ?_); (case side1 => exact z54_); (case side2 => exact z224_); rintro e w' ⟨rfl, ⟨nd, rfl⟩⟩; (try first | exact ⟨rfl, _, World.drewN_drewN _ _ _⟩ | exact ⟨rfl, _, Eq.trans (World.drewN_drewN _ _ _) (congrArg (World.drewN _) (Nat.add_assoc _ _ _))⟩); have p302 : 0 ≤ (x15_2 : Int) := odt_; have q302 : x15_2 < (l0_0.length : Int) := odt_; obtain ⟨ad302, e302, hx302_0, hx302_1, hx302_2, hx302_3, hx302_4, hx302_5, hx302_6⟩ := at_T72 (Kd.C_kept_now HR0_0.out HK.out) x15_2 p302 q302; obtain rfl : ad291 = ad302 := (by injection e302); replace p302 := eq_true p302; replace q302 := eq_true q302)))
           go_meet
           case rel => exact ⟨_, (true), z12_, H', ⟨z229_⟩, ⟨z19_⟩, ⟨z21_⟩, ⟨z32_⟩, ⟨z43_⟩, ⟨z5_⟩, ⟨z7_⟩⟩
        ·replace c37 := Bool.eq_false_iff.mpr c37
         subst c37
         replace H := iff_ H
         have H' := Aside0.mk H
         clear H
         have hnb52 := NB290_292.out
         have hnc52 := NB292_290.out
         have hcz53_0 : wr.cell? ⟨gb290, 0, none⟩ = some (.slice (some ad291) l0_0.length c0_0) := (blk_cell BK290.out 0).trans rfl
         have hfz53_0 := blk_frozen BK290.out 0
         go_wp2_with (first | (go_at_call 81; (with_reducible refine (impl_within.calls x15_2 0 (wrap64 ((l0_0.length : Int) - 1)) false _ A36.out).mono ?_); rintro e w' ⟨rfl, ⟨nd, rfl⟩⟩; (try first | exact ⟨rfl, _, World.drewN_drewN _ _ _⟩ | exact ⟨rfl, _, Eq.trans (World.drewN_drewN _ _ _) (congrArg (World.drewN _) (Nat.add_assoc _ _ _))⟩)))
         repeat (go_quiet (first | (go_at_call 81; (with_reducible refine (impl_within.calls x15_2 0 (wrap64 ((l0_0.length : Int) - 1)) false _ A36.out).mono ?_); rintro e w' ⟨rfl, ⟨nd, rfl⟩⟩; (try first | exact ⟨rfl, _, World.drewN_drewN _ _ _⟩ | exact ⟨rfl, _, Eq.trans (World.drewN_drewN _ _ _) (congrArg (World.drewN _) (Nat.add_assoc _ _ _))⟩))); try go_wp2_with (first | (go_at_call 81; (with_reducible refine (impl_within.calls x15_2 0 (wrap64 ((l0_0.length : Int) - 1)) false _ A36.out).mono ?_); rintro e w' ⟨rfl, ⟨nd, rfl⟩⟩; (try first | exact ⟨rfl, _, World.drewN_drewN _ _ _⟩ | exact ⟨rfl, _, Eq.trans (World.drewN_drewN _ _ _) (congrArg (World.drewN _) (Nat.add_assoc _ _ _))⟩))))
         go_meet
         case rel => exact ⟨_, (true), z12_, H', ⟨z229_⟩, ⟨z19_⟩, ⟨z21_⟩, ⟨z32_⟩, ⟨z43_⟩, ⟨z5_⟩, ⟨z7_⟩⟩
       case rest =>
        clear HC35
        try clear c1
        try clear q1
        try clear c2
        try clear p2
        try clear q2
        try clear hx2
        try clear c3
        try clear p3
        try clear q3
        try clear hx3
        try clear c4
        try clear c5
        try clear c6
        try clear c6b0
        try clear p6
        try clear c7
        try clear c7b0
        try clear c11
        try clear c12
        try clear q14
        try clear c15
        try clear c17
        try clear c18
        try clear c20
        try clear c22
        try clear c24
        try clear c25
        try clear c26
        try clear c27
        try clear p29
        try clear q29
        try clear hx29
        try clear p30
        try clear q30
        try clear hx30
        try clear c32
        try clear c32b0
        try clear c32b1
        try clear c33
        try clear c37
        try clear c39
        try clear c40
        try clear c43
        try clear c43b0
        try clear c44
        try clear c44b0
        try clear c45
        try clear c45b0
        try clear c45b1
        try clear c46
        try clear c49
        try clear c52
        try clear hcz10_0
        try clear hcz13_0
        try clear hcz13_1
        try clear hcz13_2
        try clear hcz13_3
        try clear hcz13_4
        try clear hcz13_5
        try clear hcz13_6
        try clear hcz19_0
        try clear hcz19_1
        try clear hcz19_2
        try clear hcz19_3
        try clear hcz19_4
        try clear hcz19_5
        try clear hcz19_6
        try clear hcz21_0
        try clear hcz21_1
        try clear hcz21_2
        try clear hcz21_3
        try clear hcz21_4
        try clear hcz21_5
        try clear hcz21_6
        try clear hcz23_0
        try clear hcz23_1
        try clear hcz23_2
        try clear hcz23_3
        try clear hcz23_4
        try clear hcz23_5
        try clear hcz23_6
        try clear hcz28_0
        try clear hcz28_1
        try clear hcz28_2
        try clear hcz28_3
        try clear hcz28_4
        try clear hcz28_5
        try clear hcz28_6
        try clear hcz31_0
        try clear hcz31_1
        try clear hcz31_2
        try clear hcz31_3
        try clear hcz31_4
        try clear hcz31_5
        try clear hcz31_6
        try clear hcz34_0
        try clear hcz34_1
        try clear hcz34_2
        try clear hcz34_3
        try clear hcz34_4
        try clear hcz34_5
        try clear hcz34_6
        try clear hcz41_0
        try clear hcz47_0
        try clear hcz50_0
        try clear hcz53_0
        try clear hfz10_0
        try clear hfz13_0
        try clear hfz13_1
        try clear hfz13_2
        try clear hfz13_3
        try clear hfz13_4
        try clear hfz13_5
        try clear hfz13_6
        try clear hfz19_0
        try clear hfz19_1
        try clear hfz19_2
        try clear hfz19_3
        try clear hfz19_4
        try clear hfz19_5
        try clear hfz19_6
        try clear hfz21_0
        try clear hfz21_1
        try clear hfz21_2
        try clear hfz21_3
        try clear hfz21_4
        try clear hfz21_5
        try clear hfz21_6
        try clear hfz23_0
        try clear hfz23_1
        try clear hfz23_2
        try clear hfz23_3
        try clear hfz23_4
        try clear hfz23_5
        try clear hfz23_6
        try clear hfz28_0
        try clear hfz28_1
        try clear hfz28_2
        try clear hfz28_3
        try clear hfz28_4
        try clear hfz28_5
        try clear hfz28_6
        try clear hfz31_0
        try clear hfz31_1
        try clear hfz31_2
        try clear hfz31_3
        try clear hfz31_4
        try clear hfz31_5
        try clear hfz31_6
        try clear hfz34_0
        try clear hfz34_1
        try clear hfz34_2
        try clear hfz34_3
        try clear hfz34_4
        try clear hfz34_5
        try clear hfz34_6
        try clear hfz41_0
        try clear hfz47_0
        try clear hfz50_0
        try clear hfz53_0
        try clear hx291_0
        try clear hx291_1
        try clear hx291_2
        try clear hx291_3
        try clear hx291_4
        try clear hx291_5
        try clear hx291_6
        try clear hx302_0
        try clear hx302_1
        try clear hx302_2
        try clear hx302_3
        try clear hx302_4
        try clear hx302_5
        try clear hx302_6
        try clear hx303_0
        try clear hx303_1
        try clear hx303_2
        try clear hx303_3
        try clear hx303_4
        try clear hx303_5
        try clear hx303_6
        try clear p2
        try clear p29
        try clear p291
        try clear p302
        try clear p303
        try clear q1
        try clear q14
        try clear q2
        try clear q29
        try clear q291
        try clear q302
        try clear q303
        obtain ⟨kq, x89_34, rfl, HA, HJ34, HO_3, HO_4, BK290, BK292, HK, HB⟩ := hcut
        cases kq with
        | zero => exact absurd HA.out (by simp [impl_Dom_visit.j2])
        | succ kj34 =>
         have H := HA.out
         clear HA
         simp only [impl_Dom_visit.j2] at H
         by_cases c54 : x89_34 = true
         ·subst c54
          replace H := ift_ H
          simp only [Option.some.injEq, Prod.mk.injEq] at H
          obtain ⟨rfl, rfl, rfl⟩ := H
          go_wp2
          repeat (go_quiet (fail); try go_wp2)
          go_ret3
          exact ⟨_, _, z4_, z19_, z21_, z7_, z5_⟩
         ·replace c54 := Bool.eq_false_iff.mpr c54
          subst c54
          replace H := iff_ H
          replace H := Option.bind_eq_some_iff.mp H
          obtain ⟨⟨t304, t307, t310⟩, A550, H⟩ := H
          replace H : (if t310 = true then (if 0 ≤ x15_2 then (if x15_2 < (l0_0.length : Int) then (impl_Dom_visit.l0 kj34 a1 a2 t304 t307 x15_2 ((rd_T72 l0_0 x15_2).f6) l0_0 ((rd_T72 l0_0 a1).f0) ((rd_T72 l0_0 a1).f1) ((rd_T72 l0_0 a1).f2) ((rd_T72 l0_0 a1).f3) ((rd_T72 l0_0 a1).f4) ((rd_T72 l0_0 a1).f5) ((rd_T72 l0_0 a1).f6)) else (none)) else (none)) else (some (t304, t307, false))) = some (r1, r2, r3) := H
          have A55 := Aside0.mk A550
          clear A550
          by_cases c56 : t310 = true
          ·subst c56
           replace H := ift_ H
           obtain ⟨c57b0, H⟩ := ifd_ H
           obtain ⟨c58b0, H⟩ := ifd_ H
           have H' := Aside0.mk H
           clear H
           have hnb59 := NB290_292.out
           have hnc59 := NB292_290.out
           have hcz60_0 : wc.cell? ⟨gb290, 0, none⟩ = some (.slice (some ad291) l0_0.length c0_0) := (blk_cell BK290.out 0).trans rfl
           have hfz60_0 := blk_frozen BK290.out 0
           obtain ⟨Ao61, co61, eo61⟩ := Kd.R_slice HO_3.out
           subst eo61
           obtain ⟨Ao62, co62, eo62⟩ := Kd.R_slice HO_4.out
           subst eo62
           go_wp2_with (first | (go_at_call 112; (with_reducible refine (ih kj34 z176_ _ _ l0_0 x15_2 (wrap64 (a2 + 1)) (fun k_ => some k_ = (.slice Ao61 x3_2.length co61 : Value).ownBlock) (.slice Ao61 x3_2.length co61) x3_2 (fun k_ => some k_ = (.slice Ao62 x4_2.length co62 : Value).ownBlock) (.slice Ao62 x4_2.length co62) x4_2 t304 t307 true w0 _ ?side1 ?side2 ?side3 ?side4 ?side5 A55.out).mono ?_); (case side1 => exact z7_); (case side2 => exact z40_); (case side3 => exact HC0_0.out); (case side4 => exact z248_); (case side5 => exact z249_); rintro e w63 ⟨v305, v308, rfl, ho0, ho1, hb, hkp⟩; replace BK290 := Aside0.mk (blk_kept z32_ hkp (fun hs_ => Or.elim hs_ (fun e_ => (fun e_ => (Kd.R_ne HO_3.out BK290.out (by decide)) e_) e_) (fun e_ => (fun e_ => (Kd.R_ne HO_4.out BK290.out (by decide)) e_) e_))); replace BK292 := Aside0.mk (blk_kept z43_ hkp (fun hs_ => Or.elim hs_ (fun e_ => (fun e_ => (Kd.R_ne HO_3.out BK292.out (by decide)) e_) e_) (fun e_ => (fun e_ => (Kd.R_ne HO_4.out BK292.out (by decide)) e_) e_))); have HO306 := Aside0.mk (Kd.R_mono (ok' := fun k_ => ((P3_ k_ ∨ P4_ k_) ∨ w.heap.size ≤ k_)) ho0 (fun k_ hk_ => Or.elim hk_ (fun hs_ => Or.elim hs_ (fun hs_ => (HO_3.out.1 k_ (hs_).symm)) (fun hs_ => (HO_4.out.1 k_ (hs_).symm))) (fun hn_ => (.inr (Nat.le_trans z9_ hn_))))); have HO309 := Aside0.mk (Kd.R_mono (ok' := fun k_ => ((P3_ k_ ∨ P4_ k_) ∨ w.heap.size ≤ k_)) ho1 (fun k_ hk_ => Or.elim hk_ (fun hs_ => Or.elim hs_ (fun hs_ => (HO_3.out.1 k_ (hs_).symm)) (fun hs_ => (HO_4.out.1 k_ (hs_).symm))) (fun hn_ => (.inr (Nat.le_trans z9_ hn_))))); replace HK := Aside0.mk (Kept.then_ (S := (fun k_ => P3_ k_ ∨ P4_ k_)) z5_ hkp (fun k_ hs_ => Or.elim hs_ (fun e_ => (fun e_ => (HO_3.out.1 k_ e_.symm)) e_) (fun e_ => (fun e_ => (HO_4.out.1 k_ e_.symm)) e_))); replace HB := Aside0.mk (hb); clear HO_3 HO_4; (try clear hb hkp ho0 ho1); have hcz64_0 : w63.cell? ⟨gb290, 0, none⟩ = some (.slice (some ad291) l0_0.length c0_0) := (blk_cell BK290.out 0).trans rfl; have hfz64_0 := blk_frozen BK290.out 0; have p311 : 0 ≤ (x15_2 : Int) := odt_; have q311 : x15_2 < (l0_0.length : Int) := odt_; obtain ⟨ad311, e311, hx311_0, hx311_1, hx311_2, hx311_3, hx311_4, hx311_5, hx311_6⟩ := at_T72 (Kd.C_kept_now HR0_0.out HK.out) x15_2 p311 q311; obtain rfl : ad291 = ad311 := (by injection e311); replace p311 := eq_true p311; replace q311 := eq_true q311))
           repeat (go_quiet (first | (go_at_call 112; (with_reducible refine (ih kj34 z176_ _ _ l0_0 x15_2 (wrap64 (a2 + 1)) (fun k_ => some k_ = (.slice Ao61 x3_2.length co61 : Value).ownBlock) (.slice Ao61 x3_2.length co61) x3_2 (fun k_ => some k_ = (.slice Ao62 x4_2.length co62 : Value).ownBlock) (.slice Ao62 x4_2.length co62) x4_2 t304 t307 true w0 _ ?side1 ?side2 ?side3 ?side4 ?side5 A55.out).mono ?_); (case side1 => exact z7_); (case side2 => exact z40_); (case side3 => exact HC0_0.out); (case side4 => exact z248_); (case side5 => exact z249_); rintro e w63 ⟨v305, v308, rfl, ho0, ho1, hb, hkp⟩; replace BK290 := Aside0.mk (blk_kept z32_ hkp (fun hs_ => Or.elim hs_ (fun e_ => (fun e_ => (Kd.R_ne HO_3.out BK290.out (by decide)) e_) e_) (fun e_ => (fun e_ => (Kd.R_ne HO_4.out BK290.out (by decide)) e_) e_))); replace BK292 := Aside0.mk (blk_kept z43_ hkp (fun hs_ => Or.elim hs_ (fun e_ => (fun e_ => (Kd.R_ne HO_3.out BK292.out (by decide)) e_) e_) (fun e_ => (fun e_ => (Kd.R_ne HO_4.out BK292.out (by decide)) e_) e_))); have HO306 := Aside0.mk (Kd.R_mono (ok' := fun k_ => ((P3_ k_ ∨ P4_ k_) ∨ w.heap.size ≤ k_)) ho0 (fun k_ hk_ => Or.elim hk_ (fun hs_ => Or.elim hs_ (fun hs_ => (HO_3.out.1 k_ (hs_).symm)) (fun hs_ => (HO_4.out.1 k_ (hs_).symm))) (fun hn_ => (.inr (Nat.le_trans z9_ hn_))))); have HO309 := Aside0.mk (Kd.R_mono (ok' := fun k_ => ((P3_ k_ ∨ P4_ k_) ∨ w.heap.size ≤ k_)) ho1 (fun k_ hk_ => Or.elim hk_ (fun hs_ => Or.elim hs_ (fun hs_ => (HO_3.out.1 k_ (hs_).symm)) (fun hs_ => (HO_4.out.1 k_ (hs_).symm))) (fun hn_ => (.inr (Nat.le_trans z9_ hn_))))); replace HK := Aside0.mk (Kept.then_ (S := (fun k_ => P3_ k_ ∨ P4_ k_)) z5_ hkp (fun k_ hs_ => Or.elim hs_ (fun e_ => (fun e_ => (HO_3.out.1 k_ e_.symm)) e_) (fun e_ => (fun e_ => (HO_4.out.1 k_ e_.symm)) e_))); replace HB := Aside0.mk (hb); clear HO_3 HO_4; (try clear hb hkp ho0 ho1); have hcz64_0 : w63.cell? ⟨gb290, 0, none⟩ = some (.slice (some ad291) l0_0.length c0_0) := (blk_cell BK290.out 0).trans rfl; have hfz64_0 := blk_frozen BK290.out 0; have p311 : 0 ≤ (x15_2 : Int) := odt_; have q311 : x15_2 < (l0_0.length : Int) := odt_; obtain ⟨ad311, e311, hx311_0, hx311_1, hx311_2, hx311_3, hx311_4, hx311_5, hx311_6⟩ := at_T72 (Kd.C_kept_now HR0_0.out HK.out) x15_2 p311 q311; obtain rfl : ad291 = ad311 := (by injection e311); replace p311 := eq_true p311; replace q311 := eq_true q311)); try go_wp2_with (first | (go_at_call 112; (with_reducible refine (ih kj34 z176_ _ _ l0_0 x15_2 (wrap64 (a2 + 1)) (fun k_ => some k_ = (.slice Ao61 x3_2.length co61 : Value).ownBlock) (.slice Ao61 x3_2.length co61) x3_2 (fun k_ => some k_ = (.slice Ao62 x4_2.length co62 : Value).ownBlock) (.slice Ao62 x4_2.length co62) x4_2 t304 t307 true w0 _ ?side1 ?side2 ?side3 ?side4 ?side5 A55.out).mono ?_); (case side1 => exact z7_); (case side2 => exact z40_); (case side3 => exact HC0_0.out); (case side4 => exact z248_); (case side5 => exact z249_); rintro e w63 ⟨v305, v308, rfl, ho0, ho1, hb, hkp⟩; replace BK290 := Aside0.mk (blk_kept z32_ hkp (fun hs_ => Or.elim hs_ (fun e_ => (fun e_ => (Kd.R_ne HO_3.out BK290.out (by decide)) e_) e_) (fun e_ => (fun e_ => (Kd.R_ne HO_4.out BK290.out (by decide)) e_) e_))); replace BK292 := Aside0.mk (blk_kept z43_ hkp (fun hs_ => Or.elim hs_ (fun e_ => (fun e_ => (Kd.R_ne HO_3.out BK292.out (by decide)) e_) e_) (fun e_ => (fun e_ => (Kd.R_ne HO_4.out BK292.out (by decide)) e_) e_))); have HO306 := Aside0.mk (Kd.R_mono (ok' := fun k_ => ((P3_ k_ ∨ P4_ k_) ∨ w.heap.size ≤ k_)) ho0 (fun k_ hk_ => Or.elim hk_ (fun hs_ => Or.elim hs_ (fun hs_ => (HO_3.out.1 k_ (hs_).symm)) (fun hs_ => (HO_4.out.1 k_ (hs_).symm))) (fun hn_ => (.inr (Nat.le_trans z9_ hn_))))); have HO309 := Aside0.mk (Kd.R_mono (ok' := fun k_ => ((P3_ k_ ∨ P4_ k_) ∨ w.heap.size ≤ k_)) ho1 (fun k_ hk_ => Or.elim hk_ (fun hs_ => Or.elim hs_ (fun hs_ => (HO_3.out.1 k_ (hs_).symm)) (fun hs_ => (HO_4.out.1 k_ (hs_).symm))) (fun hn_ => (.inr (Nat.le_trans z9_ hn_))))); replace HK := Aside0.mk (Kept.then_ (S := (fun k_ => P3_ k_ ∨ P4_ k_)) z5_ hkp (fun k_ hs_ => Or.elim hs_ (fun e_ => (fun e_ => (HO_3.out.1 k_ e_.symm)) e_) (fun e_ => (fun e_ => (HO_4.out.1 k_ e_.symm)) e_))); replace HB := Aside0.mk (hb); clear HO_3 HO_4; (try clear hb hkp ho0 ho1); have hcz64_0 : w63.cell? ⟨gb290, 0, none⟩ = some (.slice (some ad291) l0_0.length c0_0) := (blk_cell BK290.out 0).trans rfl; have hfz64_0 := blk_frozen BK290.out 0; have p311 : 0 ≤ (x15_2 : Int) := odt_; have q311 : x15_2 < (l0_0.length : Int) := odt_; obtain ⟨ad311, e311, hx311_0, hx311_1, hx311_2, hx311_3, hx311_4, hx311_5, hx311_6⟩ := at_T72 (Kd.C_kept_now HR0_0.out HK.out) x15_2 p311 q311; obtain rfl : ad291 = ad311 := (by injection e311); replace p311 := eq_true p311; replace q311 := eq_true q311)))
           go_roundg kj34
           case measure => have := HJ7.out; have := HK2.out; have := HJ34.out; omega
           case rel => exact ⟨(t304), (t307), (x15_2), ((rd_T72 l0_0 x15_2).f6), z12_, z12_, H', ⟨z176_⟩, ⟨z243_⟩, ⟨z244_⟩, ⟨z32_⟩, ⟨z43_⟩, ⟨z5_⟩, ⟨z7_⟩⟩
          ·replace c56 := Bool.eq_false_iff.mpr c56
           subst c56
           replace H := iff_ H
           simp only [Option.some.injEq, Prod.mk.injEq] at H
           obtain ⟨rfl, rfl, rfl⟩ := H
           have hnb65 := NB290_292.out
           have hnc65 := NB292_290.out
           have hcz66_0 : wc.cell? ⟨gb290, 0, none⟩ = some (.slice (some ad291) l0_0.length c0_0) := (blk_cell BK290.out 0).trans rfl
           have hfz66_0 := blk_frozen BK290.out 0
           obtain ⟨Ao67, co67, eo67⟩ := Kd.R_slice HO_3.out
           subst eo67
           obtain ⟨Ao68, co68, eo68⟩ := Kd.R_slice HO_4.out
           subst eo68
           go_wp2_with (first | (go_at_call 112; (with_reducible refine (ih kj34 z176_ _ _ l0_0 x15_2 (wrap64 (a2 + 1)) (fun k_ => some k_ = (.slice Ao67 x3_2.length co67 : Value).ownBlock) (.slice Ao67 x3_2.length co67) x3_2 (fun k_ => some k_ = (.slice Ao68 x4_2.length co68 : Value).ownBlock) (.slice Ao68 x4_2.length co68) x4_2 t304 t307 false w0 _ ?side1 ?side2 ?side3 ?side4 ?side5 A55.out).mono ?_); (case side1 => exact z7_); (case side2 => exact z40_); (case side3 => exact HC0_0.out); (case side4 => exact z248_); (case side5 => exact z249_); rintro e w69 ⟨v305, v308, rfl, ho0, ho1, hb, hkp⟩; replace BK290 := Aside0.mk (blk_kept z32_ hkp (fun hs_ => Or.elim hs_ (fun e_ => (fun e_ => (Kd.R_ne HO_3.out BK290.out (by decide)) e_) e_) (fun e_ => (fun e_ => (Kd.R_ne HO_4.out BK290.out (by decide)) e_) e_))); replace BK292 := Aside0.mk (blk_kept z43_ hkp (fun hs_ => Or.elim hs_ (fun e_ => (fun e_ => (Kd.R_ne HO_3.out BK292.out (by decide)) e_) e_) (fun e_ => (fun e_ => (Kd.R_ne HO_4.out BK292.out (by decide)) e_) e_))); have HO306 := Aside0.mk (Kd.R_mono (ok' := fun k_ => ((P3_ k_ ∨ P4_ k_) ∨ w.heap.size ≤ k_)) ho0 (fun k_ hk_ => Or.elim hk_ (fun hs_ => Or.elim hs_ (fun hs_ => (HO_3.out.1 k_ (hs_).symm)) (fun hs_ => (HO_4.out.1 k_ (hs_).symm))) (fun hn_ => (.inr (Nat.le_trans z9_ hn_))))); have HO309 := Aside0.mk (Kd.R_mono (ok' := fun k_ => ((P3_ k_ ∨ P4_ k_) ∨ w.heap.size ≤ k_)) ho1 (fun k_ hk_ => Or.elim hk_ (fun hs_ => Or.elim hs_ (fun hs_ => (HO_3.out.1 k_ (hs_).symm)) (fun hs_ => (HO_4.out.1 k_ (hs_).symm))) (fun hn_ => (.inr (Nat.le_trans z9_ hn_))))); replace HK := Aside0.mk (Kept.then_ (S := (fun k_ => P3_ k_ ∨ P4_ k_)) z5_ hkp (fun k_ hs_ => Or.elim hs_ (fun e_ => (fun e_ => (HO_3.out.1 k_ e_.symm)) e_) (fun e_ => (fun e_ => (HO_4.out.1 k_ e_.symm)) e_))); replace HB := Aside0.mk (hb); clear HO_3 HO_4; (try clear hb hkp ho0 ho1)))
           repeat (go_quiet (first | (go_at_call 112; (with_reducible refine (ih kj34 z176_ _ _ l0_0 x15_2 (wrap64 (a2 + 1)) (fun k_ => some k_ = (.slice Ao67 x3_2.length co67 : Value).ownBlock) (.slice Ao67 x3_2.length co67) x3_2 (fun k_ => some k_ = (.slice Ao68 x4_2.length co68 : Value).ownBlock) (.slice Ao68 x4_2.length co68) x4_2 t304 t307 false w0 _ ?side1 ?side2 ?side3 ?side4 ?side5 A55.out).mono ?_); (case side1 => exact z7_); (case side2 => exact z40_); (case side3 => exact HC0_0.out); (case side4 => exact z248_); (case side5 => exact z249_); rintro e w69 ⟨v305, v308, rfl, ho0, ho1, hb, hkp⟩; replace BK290 := Aside0.mk (blk_kept z32_ hkp (fun hs_ => Or.elim hs_ (fun e_ => (fun e_ => (Kd.R_ne HO_3.out BK290.out (by decide)) e_) e_) (fun e_ => (fun e_ => (Kd.R_ne HO_4.out BK290.out (by decide)) e_) e_))); replace BK292 := Aside0.mk (blk_kept z43_ hkp (fun hs_ => Or.elim hs_ (fun e_ => (fun e_ => (Kd.R_ne HO_3.out BK292.out (by decide)) e_) e_) (fun e_ => (fun e_ => (Kd.R_ne HO_4.out BK292.out (by decide)) e_) e_))); have HO306 := Aside0.mk (Kd.R_mono (ok' := fun k_ => ((P3_ k_ ∨ P4_ k_) ∨ w.heap.size ≤ k_)) ho0 (fun k_ hk_ => Or.elim hk_ (fun hs_ => Or.elim hs_ (fun hs_ => (HO_3.out.1 k_ (hs_).symm)) (fun hs_ => (HO_4.out.1 k_ (hs_).symm))) (fun hn_ => (.inr (Nat.le_trans z9_ hn_))))); have HO309 := Aside0.mk (Kd.R_mono (ok' := fun k_ => ((P3_ k_ ∨ P4_ k_) ∨ w.heap.size ≤ k_)) ho1 (fun k_ hk_ => Or.elim hk_ (fun hs_ => Or.elim hs_ (fun hs_ => (HO_3.out.1 k_ (hs_).symm)) (fun hs_ => (HO_4.out.1 k_ (hs_).symm))) (fun hn_ => (.inr (Nat.le_trans z9_ hn_))))); replace HK := Aside0.mk (Kept.then_ (S := (fun k_ => P3_ k_ ∨ P4_ k_)) z5_ hkp (fun k_ hs_ => Or.elim hs_ (fun e_ => (fun e_ => (HO_3.out.1 k_ e_.symm)) e_) (fun e_ => (fun e_ => (HO_4.out.1 k_ e_.symm)) e_))); replace HB := Aside0.mk (hb); clear HO_3 HO_4; (try clear hb hkp ho0 ho1))); try go_wp2_with (first | (go_at_call 112; (with_reducible refine (ih kj34 z176_ _ _ l0_0 x15_2 (wrap64 (a2 + 1)) (fun k_ => some k_ = (.slice Ao67 x3_2.length co67 : Value).ownBlock) (.slice Ao67 x3_2.length co67) x3_2 (fun k_ => some k_ = (.slice Ao68 x4_2.length co68 : Value).ownBlock) (.slice Ao68 x4_2.length co68) x4_2 t304 t307 false w0 _ ?side1 ?side2 ?side3 ?side4 ?side5 A55.out).mono ?_); (case side1 => exact z7_); (case side2 => exact z40_); (case side3 => exact HC0_0.out); (case side4 => exact z248_); (case side5 => exact z249_); rintro e w69 ⟨v305, v308, rfl, ho0, ho1, hb, hkp⟩; replace BK290 := Aside0.mk (blk_kept z32_ hkp (fun hs_ => Or.elim hs_ (fun e_ => (fun e_ => (Kd.R_ne HO_3.out BK290.out (by decide)) e_) e_) (fun e_ => (fun e_ => (Kd.R_ne HO_4.out BK290.out (by decide)) e_) e_))); replace BK292 := Aside0.mk (blk_kept z43_ hkp (fun hs_ => Or.elim hs_ (fun e_ => (fun e_ => (Kd.R_ne HO_3.out BK292.out (by decide)) e_) e_) (fun e_ => (fun e_ => (Kd.R_ne HO_4.out BK292.out (by decide)) e_) e_))); have HO306 := Aside0.mk (Kd.R_mono (ok' := fun k_ => ((P3_ k_ ∨ P4_ k_) ∨ w.heap.size ≤ k_)) ho0 (fun k_ hk_ => Or.elim hk_ (fun hs_ => Or.elim hs_ (fun hs_ => (HO_3.out.1 k_ (hs_).symm)) (fun hs_ => (HO_4.out.1 k_ (hs_).symm))) (fun hn_ => (.inr (Nat.le_trans z9_ hn_))))); have HO309 := Aside0.mk (Kd.R_mono (ok' := fun k_ => ((P3_ k_ ∨ P4_ k_) ∨ w.heap.size ≤ k_)) ho1 (fun k_ hk_ => Or.elim hk_ (fun hs_ => Or.elim hs_ (fun hs_ => (HO_3.out.1 k_ (hs_).symm)) (fun hs_ => (HO_4.out.1 k_ (hs_).symm))) (fun hn_ => (.inr (Nat.le_trans z9_ hn_))))); replace HK := Aside0.mk (Kept.then_ (S := (fun k_ => P3_ k_ ∨ P4_ k_)) z5_ hkp (fun k_ hs_ => Or.elim hs_ (fun e_ => (fun e_ => (HO_3.out.1 k_ e_.symm)) e_) (fun e_ => (fun e_ => (HO_4.out.1 k_ e_.symm)) e_))); replace HB := Aside0.mk (hb); clear HO_3 HO_4; (try clear hb hkp ho0 ho1))))
           go_ret3
           exact ⟨_, _, z4_, z243_, z244_, z7_, z5_⟩

end Go.Proofs.Ytdapeboajjidmab.PFnExactDomDelete
