/- Laid by a program of this session out of the kit's print for the law FnExactDomInsert: what it says of the machine is proved here, function by function; each contract under the conditions that it names. -/
import Derived.Test.YtdapeboajjidmabMFnExactDomInsertx0
import Derived.Test.YtdapeboajjidmabMFnExactDomInsertx11
namespace Go.Proofs.Ytdapeboajjidmab.PFnExactDomInsert
open Go.RowKit Go.Proofs.YtdapeboajjidmabW.PrintWords Go.Proofs.YtdapeboajjidmabW.PrintLast Go.Proofs.YtdapeboajjidmabW.PrintMore
attribute [local go_sem] max2_int min2_int max_two min_two max_three min_three max_four min_four   -- for this text's walks alone
set_option linter.unusedVariables false
set_option linter.unusedSimpArgs false

/-! ### impl_Dom_visit: function 112 -/
mutual
def impl_Dom_visit.j0 : Nat → Int → Int → List (S62) → List Int → Bool → List (S72) → Bool → Int → Int → Int → Int → Int → Int → Option ((List (S62)) × List Int × Bool)
 | 0, _, _, _, _, _, _, _, _, _, _, _, _, _ => none
 | k + 1, x1, x2, x3, x4, x34, x333000, x335000, x335001, x335002, x335003, x335004, x335005, x335006 => if x34 = true then (some (x3, x4, false)) else (if x3.length < 8796093022208 then (if x4.length < 17592186044416 then (impl_Dom_visit.l0 k x1 x2 (x3 ++ [(⟨x335001, x2⟩ : S62)]) (x4 ++ [x1]) (-1) x335003 x333000 x335000 x335001 x335002 x335003 x335004 x335005 x335006) else (none)) else (none))
def impl_Dom_visit.l0 : Nat → Int → Int → List (S62) → List Int → Int → Int → List (S72) → Bool → Int → Int → Int → Int → Int → Int → Option ((List (S62)) × List Int × Bool)
 | 0, _, _, _, _, _, _, _, _, _, _, _, _, _, _ => none
 | k + 1, x1, x2, x3, x4, x14, x15, x333000, x335000, x335001, x335002, x335003, x335004, x335005, x335006 => if x15 = (-1) then (some (x3, x4, (x335004 == x14))) else ((impl_within.f x15 0 (wrap64 ((x333000.length : Int) - 1))).bind fun t342 => (if t342 = true then ((slices_Contains_int_int.f k x4 x15).bind fun t343 => (if t343 = true then (impl_Dom_visit.j2 k x1 x2 x3 x4 x15 true x333000 x335000 x335001 x335002 x335003 x335004 x335005 x335006) else (if 0 ≤ x15 then (if x15 < (x333000.length : Int) then (if ((rd_T72 x333000 x15).f2) = x1 then (impl_Dom_visit.j2 k x1 x2 x3 x4 x15 (((rd_T72 x333000 x15).f5) != x14) x333000 x335000 x335001 x335002 x335003 x335004 x335005 x335006) else (impl_Dom_visit.j2 k x1 x2 x3 x4 x15 true x333000 x335000 x335001 x335002 x335003 x335004 x335005 x335006)) else (none)) else (none)))) else (impl_Dom_visit.j2 k x1 x2 x3 x4 x15 true x333000 x335000 x335001 x335002 x335003 x335004 x335005 x335006)))
def impl_Dom_visit.j2 : Nat → Int → Int → List (S62) → List Int → Int → Bool → List (S72) → Bool → Int → Int → Int → Int → Int → Int → Option ((List (S62)) × List Int × Bool)
 | 0, _, _, _, _, _, _, _, _, _, _, _, _, _, _ => none
 | k + 1, x1, x2, x3, x4, x15, x89, x333000, x335000, x335001, x335002, x335003, x335004, x335005, x335006 => if x89 = true then (some (x3, x4, false)) else ((impl_Dom_visit.f k x333000 x15 (wrap64 (x2 + 1)) x3 x4).bind fun bt346 => (if bt346.2.2 = true then (if 0 ≤ x15 then (if x15 < (x333000.length : Int) then (impl_Dom_visit.l0 k x1 x2 bt346.1 bt346.2.1 x15 ((rd_T72 x333000 x15).f6) x333000 x335000 x335001 x335002 x335003 x335004 x335005 x335006) else (none)) else (none)) else (some (bt346.1, bt346.2.1, false))))
def impl_Dom_visit.f : Nat → List (S72) → Int → Int → List (S62) → List Int → Option ((List (S62)) × List Int × Bool)
 | 0, _, _, _, _, _ => none
 | k + 1, l0_0, a1, a2, l3, l4 => if 0 ≤ a1 then (if a1 < (l0_0.length : Int) then (if ((rd_T72 l0_0 a1).f0 = true) then ((impl_LabelOk.f ((rd_T72 l0_0 a1).f1)).bind fun t335 => (if t335 = true then (impl_Dom_visit.j0 k a1 a2 l3 l4 (decide (a2 > 12)) l0_0 ((rd_T72 l0_0 a1).f0) ((rd_T72 l0_0 a1).f1) ((rd_T72 l0_0 a1).f2) ((rd_T72 l0_0 a1).f3) ((rd_T72 l0_0 a1).f4) ((rd_T72 l0_0 a1).f5) ((rd_T72 l0_0 a1).f6)) else (impl_Dom_visit.j0 k a1 a2 l3 l4 true l0_0 ((rd_T72 l0_0 a1).f0) ((rd_T72 l0_0 a1).f1) ((rd_T72 l0_0 a1).f2) ((rd_T72 l0_0 a1).f3) ((rd_T72 l0_0 a1).f4) ((rd_T72 l0_0 a1).f5) ((rd_T72 l0_0 a1).f6)))) else (impl_Dom_visit.j0 k a1 a2 l3 l4 true l0_0 ((rd_T72 l0_0 a1).f0) ((rd_T72 l0_0 a1).f1) ((rd_T72 l0_0 a1).f2) ((rd_T72 l0_0 a1).f3) ((rd_T72 l0_0 a1).f4) ((rd_T72 l0_0 a1).f5) ((rd_T72 l0_0 a1).f6))) else (none)) else (none)
end
set_option maxHeartbeats 8000000 in
set_option maxRecDepth 100000 in
theorem impl_Dom_visit.calls (k : Nat) : ∀ (A0_0 : Option Addr) (c0_0 : Nat) (l0_0 : List (S72)) (a1 : Int) (a2 : Int) (P3_ : Nat → Prop) (u9000_ : Value) (l3 : List (S62)) (P4_ : Nat → Prop) (u9001_ : Value) (l4 : List Int) (r1 : List (S62)) (r2 : List Int) (r3 : Bool) (w0 w : World) (hB : Below w0.heap.size w0 w) (hr0_0 : ∀ W_, Kept w W_ (fun k_ => P3_ k_ ∨ P4_ k_) → Kd.C k72 W_ A0_0 l0_0.length l0_0) (hc0_0 : l0_0.length ≤ c0_0) (ho3 : Kd.R k62 62 w w0.heap.size P3_ u9000_ l3) (ho4 : Kd.R (Kd.int .i64) 3 w w0.heap.size P4_ u9001_ l4) (h : impl_Dom_visit.f k l0_0 a1 a2 l3 l4 = some (r1, r2, r3)),
  Calls Try.prog 112 #[.agg #[.slice A0_0 l0_0.length c0_0], .int .i64 a1, .int .i64 a2, u9000_, u9001_] w fun e w' => ∃ v0_ v1_ : Value, e = .returned (.tuple #[v0_, v1_, .bool r3]) ∧ Kd.R k62 62 w' w0.heap.size (fun k_ => ((P3_ k_ ∨ P4_ k_) ∨ w.heap.size ≤ k_)) v0_ r1 ∧ Kd.R (Kd.int .i64) 3 w' w0.heap.size (fun k_ => ((P3_ k_ ∨ P4_ k_) ∨ w.heap.size ≤ k_)) v1_ r2 ∧ Below w0.heap.size w0 w' ∧ Kept w w' (fun k_ => P3_ k_ ∨ P4_ k_) := by
 induction k using Nat.strongRecOn with
 | _ k ih =>
 intro A0_0 c0_0 l0_0 a1 a2 P3_ u9000_ l3 P4_ u9001_ l4 r1 r2 r3 w0 w hB hr0_0 hc0_0 ho3 ho4 h
 cases k with
 | zero => exact absurd h (by simp [impl_Dom_visit.f])
 | succ k =>
 simp only [impl_Dom_visit.f] at h
 have hu28 := Try.underlying28
 have hu72 := Try.underlying72
 have hu62 := Try.underlying62
 have HR0_0 := Aside0.mk hr0_0
 have HC0_0 := Aside0.mk hc0_0
 clear hr0_0 hc0_0
 have HO3 := Aside0.mk (show Kd.R k62 62 w w0.heap.size (fun k_ => ((P3_ k_ ∨ P4_ k_) ∨ w.heap.size ≤ k_)) u9000_ l3 from Kd.R_mono ho3 (fun k_ hk => (.inl (.inl hk))))
 have HO4 := Aside0.mk (show Kd.R (Kd.int .i64) 3 w w0.heap.size (fun k_ => ((P3_ k_ ∨ P4_ k_) ∨ w.heap.size ≤ k_)) u9001_ l4 from Kd.R_mono ho4 (fun k_ hk => (.inl (.inr hk))))
 have HK := Aside0.mk (Kept.refl w (fun k_ => P3_ k_ ∨ P4_ k_))
 have HW0 := Aside0.mk hB.size
 have HB := Aside0.mk hB
 clear hB
 have H : (if 0 ≤ a1 then (if a1 < (l0_0.length : Int) then (if ((rd_T72 l0_0 a1).f0 = true) then ((impl_LabelOk.f ((rd_T72 l0_0 a1).f1)).bind fun t335 => (if t335 = true then (impl_Dom_visit.j0 k a1 a2 l3 l4 (decide (a2 > 12)) l0_0 ((rd_T72 l0_0 a1).f0) ((rd_T72 l0_0 a1).f1) ((rd_T72 l0_0 a1).f2) ((rd_T72 l0_0 a1).f3) ((rd_T72 l0_0 a1).f4) ((rd_T72 l0_0 a1).f5) ((rd_T72 l0_0 a1).f6)) else (impl_Dom_visit.j0 k a1 a2 l3 l4 true l0_0 ((rd_T72 l0_0 a1).f0) ((rd_T72 l0_0 a1).f1) ((rd_T72 l0_0 a1).f2) ((rd_T72 l0_0 a1).f3) ((rd_T72 l0_0 a1).f4) ((rd_T72 l0_0 a1).f5) ((rd_T72 l0_0 a1).f6)))) else (impl_Dom_visit.j0 k a1 a2 l3 l4 true l0_0 ((rd_T72 l0_0 a1).f0) ((rd_T72 l0_0 a1).f1) ((rd_T72 l0_0 a1).f2) ((rd_T72 l0_0 a1).f3) ((rd_T72 l0_0 a1).f4) ((rd_T72 l0_0 a1).f5) ((rd_T72 l0_0 a1).f6))) else (none)) else (none)) = some (r1, r2, r3) := h
 clear h
 obtain ⟨c6b0, H⟩ := ifd_ H
 obtain ⟨c7b0, H⟩ := ifd_ H
 have HC8 := Aside0.mk H
 clear H
 go_enter Try.func112, Try.ntmps112
 go_upto_region 2 with (first | ((with_reducible refine gate_dst (N := 5) rfl ?_); refine box_event ?hg (N := 5) ?hd (cs := #[.slice A0_0 l0_0.length c0_0]) (t := 28) ?hr ?_; (case hd => rfl); (case hg => rfl); (case hr => exact z19_); intro gb332 hg w9 hbox hb; replace HO3 := Aside0.mk (Kd.R_below z95_ hb); replace HO4 := Aside0.mk (Kd.R_below z96_ hb); have BK332 := Aside0.mk (hbox); have GW332 := Aside0.mk ((by rw [hg]; exact z112_ : w.heap.size ≤ gb332)); replace HK := Aside0.mk (Kept.below (S := (fun k_ => P3_ k_ ∨ P4_ k_)) z60_ hb); have GE332 := Aside0.mk ((by rw [hg]; exact (below_size z0_) : w0.heap.size ≤ gb332)); replace HB := Aside0.mk (below_step z0_ hb); clear hb hbox hg; have hcz10_0 : w9.cell? ⟨gb332, 0, none⟩ = some (.slice A0_0 l0_0.length c0_0) := (blk_cell BK332.out 0).trans rfl; have hfz10_0 := blk_frozen BK332.out 0; have p333 : 0 ≤ (a1 : Int) := odt_; have q333 : a1 < (l0_0.length : Int) := odt_; obtain ⟨ad333, e333, hx333_0, hx333_1, hx333_2, hx333_3, hx333_4, hx333_5, hx333_6⟩ := at_T72 (Kd.C_kept_now HR0_0.out HK.out) a1 p333 q333; cases e333; replace p333 := eq_true p333; replace q333 := eq_true q333) | ((with_reducible refine gate_dst (N := 13) rfl ?_); refine box_event ?hg (N := 13) ?hd (cs := #[.bool false, .int .i64 0, .int .i64 0, .int .i64 0, .int .i64 0, .int .i64 0, .int .i64 0]) (t := 72) ?hr ?_; (case hd => rfl); (case hg => rfl); (case hr => exact z19_); intro gb334 hg w11 hbox hb; replace HO3 := Aside0.mk (Kd.R_below z95_ hb); replace HO4 := Aside0.mk (Kd.R_below z96_ hb); have BK334 := Aside0.mk (hbox); have GW334 := Aside0.mk ((by rw [hg]; exact z120_ : w.heap.size ≤ gb334)); replace HK := Aside0.mk (Kept.below (S := (fun k_ => P3_ k_ ∨ P4_ k_)) z174_ hb); have GE334 := Aside0.mk ((by rw [hg]; exact (below_size z101_) : w0.heap.size ≤ gb334)); replace HB := Aside0.mk (below_step z101_ hb); have NB332_334 := Aside0.mk ((by rw [hg]; exact Nat.ne_of_lt (blk_lt (g := gb332) (o := .cells #[.slice (some ad333) l0_0.length c0_0] 28 (0, 0)) z39_) : gb332 ≠ gb334)); have NB334_332 := Aside0.mk ((by rw [hg]; exact Nat.ne_of_gt (blk_lt (g := gb332) (o := .cells #[.slice (some ad333) l0_0.length c0_0] 28 (0, 0)) z39_) : gb334 ≠ gb332)); replace BK332 := Aside0.mk (blk_below (g := gb332) (o := .cells #[.slice (some ad333) l0_0.length c0_0] 28 (0, 0)) z39_ hb); clear hb hbox hg; have hnb12 := NB334_332.out; have hnc12 := NB332_334.out; obtain ⟨hcz13_0, hcz13_1, hcz13_2, hcz13_3, hcz13_4, hcz13_5, hcz13_6, hfz13_0, hfz13_1, hfz13_2, hfz13_3, hfz13_4, hfz13_5, hfz13_6⟩ := bx7_ BK334.out))
 go_cut [34] (fun v34 wc => ∃ (kq : Nat) (x34_7 : Bool), v34 = .bool x34_7 ∧ Aside0 (impl_Dom_visit.j0 kq a1 a2 l3 l4 x34_7 l0_0 ((rd_T72 l0_0 a1).f0) ((rd_T72 l0_0 a1).f1) ((rd_T72 l0_0 a1).f2) ((rd_T72 l0_0 a1).f3) ((rd_T72 l0_0 a1).f4) ((rd_T72 l0_0 a1).f5) ((rd_T72 l0_0 a1).f6) = some (r1, r2, r3)) ∧ Aside0 (kq ≤ k) ∧ Aside0 (Kd.R k62 62 wc w0.heap.size (fun k_ => ((P3_ k_ ∨ P4_ k_) ∨ w.heap.size ≤ k_)) u9000_ l3) ∧ Aside0 (Kd.R (Kd.int .i64) 3 wc w0.heap.size (fun k_ => ((P3_ k_ ∨ P4_ k_) ∨ w.heap.size ≤ k_)) u9001_ l4) ∧ Aside0 (wc.heap[gb332]? = some (.cells #[(.slice (some ad333) l0_0.length c0_0)] 28 (0, 0))) ∧ Aside0 (wc.heap[gb334]? = some (.cells #[.bool ((rd_T72 l0_0 a1).f0), .int .i64 ((rd_T72 l0_0 a1).f1), .int .i64 ((rd_T72 l0_0 a1).f2), .int .i64 ((rd_T72 l0_0 a1).f3), .int .i64 ((rd_T72 l0_0 a1).f4), .int .i64 ((rd_T72 l0_0 a1).f5), .int .i64 ((rd_T72 l0_0 a1).f6)] 72 (0, 0))) ∧ Aside0 (Kept w wc (fun k_ => P3_ k_ ∨ P4_ k_)) ∧ Aside0 (Below w0.heap.size w0 wc))
 case first =>
  have H := HC8.out
  clear HC8
  obtain ⟨bq14, hbq14⟩ : ∃ b_ : Bool, b_ = ((rd_T72 l0_0 a1).f0) := ⟨_, rfl⟩
  replace H : (if (bq14 = true) then ((impl_LabelOk.f ((rd_T72 l0_0 a1).f1)).bind fun t335 => (if t335 = true then (impl_Dom_visit.j0 k a1 a2 l3 l4 (decide (a2 > 12)) l0_0 bq14 ((rd_T72 l0_0 a1).f1) ((rd_T72 l0_0 a1).f2) ((rd_T72 l0_0 a1).f3) ((rd_T72 l0_0 a1).f4) ((rd_T72 l0_0 a1).f5) ((rd_T72 l0_0 a1).f6)) else (impl_Dom_visit.j0 k a1 a2 l3 l4 true l0_0 bq14 ((rd_T72 l0_0 a1).f1) ((rd_T72 l0_0 a1).f2) ((rd_T72 l0_0 a1).f3) ((rd_T72 l0_0 a1).f4) ((rd_T72 l0_0 a1).f5) ((rd_T72 l0_0 a1).f6)))) else (impl_Dom_visit.j0 k a1 a2 l3 l4 true l0_0 bq14 ((rd_T72 l0_0 a1).f1) ((rd_T72 l0_0 a1).f2) ((rd_T72 l0_0 a1).f3) ((rd_T72 l0_0 a1).f4) ((rd_T72 l0_0 a1).f5) ((rd_T72 l0_0 a1).f6))) = some (r1, r2, r3) := by rw [← hbq14] at H; exact H
  have Nbq14 := Aside0.mk hbq14
  clear hbq14
  (try rw [← Nbq14.out])
  by_cases c15 : (bq14 = true)
  ·subst c15
   replace H := ift_ H
   obtain ⟨t335, A16, H⟩ := bnd_ H
   by_cases c17 : t335 = true
   ·subst c17
    replace H := ift_ H
    have H' := Aside0.mk H
    clear H
    have hnb18 := NB334_332.out
    have hnc18 := NB332_334.out
    obtain ⟨hcz19_0, hcz19_1, hcz19_2, hcz19_3, hcz19_4, hcz19_5, hcz19_6, hfz19_0, hfz19_1, hfz19_2, hfz19_3, hfz19_4, hfz19_5, hfz19_6⟩ := bx7_ BK334.out
    go_wp2_with ((go_at_call 80; (with_reducible refine (impl_LabelOk.calls ((rd_T72 l0_0 a1).f1) true _ A16.out).mono ?_); rintro e w' ⟨rfl, ⟨nd, rfl⟩⟩))
    go_meet
    case rel => (try rw [← Nbq14.out]); exact ⟨_, (decide (a2 > 12)), z17_, H', ⟨z124_⟩, ⟨z67_⟩, ⟨z68_⟩, ⟨z35_⟩, ⟨z26_⟩, ⟨z5_⟩, ⟨z10_⟩⟩
   ·replace c17 := Bool.eq_false_iff.mpr c17
    subst c17
    replace H := iff_ H
    have H' := Aside0.mk H
    clear H
    have hnb20 := NB334_332.out
    have hnc20 := NB332_334.out
    obtain ⟨hcz21_0, hcz21_1, hcz21_2, hcz21_3, hcz21_4, hcz21_5, hcz21_6, hfz21_0, hfz21_1, hfz21_2, hfz21_3, hfz21_4, hfz21_5, hfz21_6⟩ := bx7_ BK334.out
    go_wp2_with ((go_at_call 80; (with_reducible refine (impl_LabelOk.calls ((rd_T72 l0_0 a1).f1) false _ A16.out).mono ?_); rintro e w' ⟨rfl, ⟨nd, rfl⟩⟩))
    go_meet
    case rel => (try rw [← Nbq14.out]); exact ⟨_, (true), z17_, H', ⟨z124_⟩, ⟨z67_⟩, ⟨z68_⟩, ⟨z35_⟩, ⟨z26_⟩, ⟨z5_⟩, ⟨z10_⟩⟩
  ·replace c15 := Bool.eq_false_iff.mpr c15
   subst c15
   replace H := iff_ H
   have H' := Aside0.mk H
   clear H
   have hnb22 := NB334_332.out
   have hnc22 := NB332_334.out
   obtain ⟨hcz23_0, hcz23_1, hcz23_2, hcz23_3, hcz23_4, hcz23_5, hcz23_6, hfz23_0, hfz23_1, hfz23_2, hfz23_3, hfz23_4, hfz23_5, hfz23_6⟩ := bx7_ BK334.out
   go_wp2
   go_meet
   case rel => (try rw [← Nbq14.out]); exact ⟨_, (true), z17_, H', ⟨z124_⟩, ⟨by exact Kd.R_mono (Kd.R_far (p := ⟨gb334, 6, none⟩) (Kd.R_far (p := ⟨gb334, 5, none⟩) (Kd.R_far (p := ⟨gb334, 4, none⟩) (Kd.R_far (p := ⟨gb334, 3, none⟩) (Kd.R_far (p := ⟨gb334, 2, none⟩) (Kd.R_far (p := ⟨gb334, 1, none⟩) (Kd.R_far (p := ⟨gb334, 0, none⟩) (Kd.R_types HO3.out BK334.out (by decide)) (fun _ hk => hk.2) (.bool (false))) (fun _ hk => hk.2) (.int .i64 ((rd_T72 l0_0 a1).f1))) (fun _ hk => hk.2) (.int .i64 ((rd_T72 l0_0 a1).f2))) (fun _ hk => hk.2) (.int .i64 ((rd_T72 l0_0 a1).f3))) (fun _ hk => hk.2) (.int .i64 ((rd_T72 l0_0 a1).f4))) (fun _ hk => hk.2) (.int .i64 ((rd_T72 l0_0 a1).f5))) (fun _ hk => hk.2) (.int .i64 ((rd_T72 l0_0 a1).f6))) (fun _ hk => hk.1)⟩, ⟨by exact Kd.R_mono (Kd.R_far (p := ⟨gb334, 6, none⟩) (Kd.R_far (p := ⟨gb334, 5, none⟩) (Kd.R_far (p := ⟨gb334, 4, none⟩) (Kd.R_far (p := ⟨gb334, 3, none⟩) (Kd.R_far (p := ⟨gb334, 2, none⟩) (Kd.R_far (p := ⟨gb334, 1, none⟩) (Kd.R_far (p := ⟨gb334, 0, none⟩) (Kd.R_types HO4.out BK334.out (by decide)) (fun _ hk => hk.2) (.bool (false))) (fun _ hk => hk.2) (.int .i64 ((rd_T72 l0_0 a1).f1))) (fun _ hk => hk.2) (.int .i64 ((rd_T72 l0_0 a1).f2))) (fun _ hk => hk.2) (.int .i64 ((rd_T72 l0_0 a1).f3))) (fun _ hk => hk.2) (.int .i64 ((rd_T72 l0_0 a1).f4))) (fun _ hk => hk.2) (.int .i64 ((rd_T72 l0_0 a1).f5))) (fun _ hk => hk.2) (.int .i64 ((rd_T72 l0_0 a1).f6))) (fun _ hk => hk.1)⟩, ⟨z35_⟩, ⟨by refine blk_put (cs := #[.bool (false), .int .i64 ((rd_T72 l0_0 a1).f1), .int .i64 ((rd_T72 l0_0 a1).f2), .int .i64 ((rd_T72 l0_0 a1).f3), .int .i64 ((rd_T72 l0_0 a1).f4), .int .i64 ((rd_T72 l0_0 a1).f5), .int .i64 0]) ?_ 6 _ rfl; refine blk_put (cs := #[.bool (false), .int .i64 ((rd_T72 l0_0 a1).f1), .int .i64 ((rd_T72 l0_0 a1).f2), .int .i64 ((rd_T72 l0_0 a1).f3), .int .i64 ((rd_T72 l0_0 a1).f4), .int .i64 0, .int .i64 0]) ?_ 5 _ rfl; refine blk_put (cs := #[.bool (false), .int .i64 ((rd_T72 l0_0 a1).f1), .int .i64 ((rd_T72 l0_0 a1).f2), .int .i64 ((rd_T72 l0_0 a1).f3), .int .i64 0, .int .i64 0, .int .i64 0]) ?_ 4 _ rfl; refine blk_put (cs := #[.bool (false), .int .i64 ((rd_T72 l0_0 a1).f1), .int .i64 ((rd_T72 l0_0 a1).f2), .int .i64 0, .int .i64 0, .int .i64 0, .int .i64 0]) ?_ 3 _ rfl; refine blk_put (cs := #[.bool (false), .int .i64 ((rd_T72 l0_0 a1).f1), .int .i64 0, .int .i64 0, .int .i64 0, .int .i64 0, .int .i64 0]) ?_ 2 _ rfl; refine blk_put (cs := #[.bool (false), .int .i64 0, .int .i64 0, .int .i64 0, .int .i64 0, .int .i64 0, .int .i64 0]) ?_ 1 _ rfl; refine blk_put (cs := #[.bool false, .int .i64 0, .int .i64 0, .int .i64 0, .int .i64 0, .int .i64 0, .int .i64 0]) ?_ 0 _ rfl; exact BK334.out⟩, ⟨z5_⟩, ⟨z10_⟩⟩
 case rest =>
  clear HC8 c6b0 c7b0 hcz10_0 hcz13_0 hcz13_1 hcz13_2 hcz13_3 hcz13_4 hcz13_5 hcz13_6 hfz10_0 hfz13_0 hfz13_1 hfz13_2 hfz13_3 hfz13_4 hfz13_5 hfz13_6 hx333_0 hx333_1 hx333_2 hx333_3 hx333_4 hx333_5 hx333_6 p333 q333
  obtain ⟨kq, x34_7, rfl, HA, HJ7, HO_3, HO_4, BK332, BK334, HK, HB⟩ := hcut
  cases kq with
  | zero => exact absurd HA.out (by simp [impl_Dom_visit.j0])
  | succ kj7 =>
   have H := HA.out
   clear HA
   simp only [impl_Dom_visit.j0] at H
   by_cases c24 : x34_7 = true
   ·subst c24
    replace H := ift_ H
    simp only [Option.some.injEq, Prod.mk.injEq] at H
    obtain ⟨rfl, rfl, rfl⟩ := H
    go_wp2
    go_ret3
    exact ⟨_, _, z4_, z25_, z28_, z10_, z5_⟩
   ·replace c24 := Bool.eq_false_iff.mpr c24
    subst c24
    replace H := iff_ H
    obtain ⟨c25, H⟩ := ifs_ H
    have LMc25 := Aside0.mk c25
    clear c25
    (generalize hy_ : ((l3 ++ [(⟨((rd_T72 l0_0 a1).f1), a2⟩ : S62)]) : List (S62)) = y336 at H; have Ny336 := Aside0.mk hy_.symm; clear hy_)
    obtain ⟨c26, H⟩ := ifs_ H
    have LMc26 := Aside0.mk c26
    clear c26
    (generalize hy_ : ((l4 ++ [a1]) : List Int) = y339 at H; have Ny339 := Aside0.mk hy_.symm; clear hy_)
    have H' := Aside0.mk H
    clear H
    have hnb27 := NB334_332.out
    have hnc27 := NB332_334.out
    obtain ⟨hcz28_0, hcz28_1, hcz28_2, hcz28_3, hcz28_4, hcz28_5, hcz28_6, hfz28_0, hfz28_1, hfz28_2, hfz28_3, hfz28_4, hfz28_5, hfz28_6⟩ := bx7_ BK334.out
    go_wp2_with (first | ((with_reducible refine gate_builtin (b := .append) (xs := #[.tmp 37, .tmp 42]) rfl ?_); at_builtin; refine Kd.R_append k62 (w0 := w0) w0.heap.size rfl (.tmp 37) (.tmp 42) 24 62 (.agg #[(.int .i64 0), (.int .i64 0)]) 16 rfl Try.underlying24 info62 rfl (by decide) (by omega) u9000_ l3 (⟨((rd_T72 l0_0 a1).f1), a2⟩ : S62) [.int .i64 ((rd_T72 l0_0 a1).f1), .int .i64 a2] (fun k_ => ((P3_ k_ ∨ P4_ k_) ∨ w.heap.size ≤ k_)) (fun _ => False) rfl rfl ?aP (fun _ hk => hk.elim) ?aF ?aO ?aB ?aS ?aL ?_; (case aP => exact z300_); (case aB => exact z79_); (case aF => exact z58_); (case aO => exact z189_); (case aS => exact z72_); (case aL => have := LMc25.out; omega); intro v337 w29 ho hb hg hat; rw [← Ny336.out] at ho; replace HO_4 := Aside0.mk (Kd.R_over' z28_ (Kd.R_typed z25_) (by decide) hg); replace BK332 := Aside0.mk (blk_grown (g := gb332) (o := .cells #[.slice (some ad333) l0_0.length c0_0] 28 (0, 0)) z39_ hg (Kd.R_ne HO_3.out BK332.out (by decide))); replace BK334 := Aside0.mk (blk_grown (g := gb334) (o := .cells #[.bool ((rd_T72 l0_0 a1).f0), .int .i64 ((rd_T72 l0_0 a1).f1), .int .i64 ((rd_T72 l0_0 a1).f2), .int .i64 ((rd_T72 l0_0 a1).f3), .int .i64 ((rd_T72 l0_0 a1).f4), .int .i64 ((rd_T72 l0_0 a1).f5), .int .i64 ((rd_T72 l0_0 a1).f6)] 72 (0, 0)) z56_ hg (Kd.R_ne HO_3.out BK334.out (by decide))); replace HB := Aside0.mk (hb); replace HK := Aside0.mk (Kept.of_grown (S := (fun k_ => P3_ k_ ∨ P4_ k_)) hg z5_ (fun k_ e_ => (HO_3.out.1 k_ e_))); have HO338 := Aside0.mk (ho); clear HO_3; clear ho hb hg hat) | ((with_reducible refine gate_builtin (b := .append) (xs := #[.tmp 44, .tmp 46]) rfl ?_); at_builtin; refine Kd.R_append (Kd.int .i64) (w0 := w0) w0.heap.size rfl (.tmp 44) (.tmp 46) 49 3 (.int .i64 0) 8 rfl Try.underlying49 info3 rfl (by decide) (by omega) u9001_ l4 a1 [.int .i64 a1] (fun k_ => ((P3_ k_ ∨ P4_ k_) ∨ w.heap.size ≤ k_)) (fun _ => False) rfl rfl ?aP (fun _ hk => hk.elim) ?aF ?aO ?aB ?aS ?aL ?_; (case aP => exact rfl); (case aB => exact z79_); (case aF => exact z58_); (case aO => exact z190_); (case aS => exact z72_); (case aL => have := LMc26.out; omega); intro v340 w30 ho hb hg hat; rw [← Ny339.out] at ho; replace BK332 := Aside0.mk (blk_grown (g := gb332) (o := .cells #[.slice (some ad333) l0_0.length c0_0] 28 (0, 0)) z39_ hg (Kd.R_ne HO_4.out BK332.out (by decide))); replace BK334 := Aside0.mk (blk_grown (g := gb334) (o := .cells #[.bool ((rd_T72 l0_0 a1).f0), .int .i64 ((rd_T72 l0_0 a1).f1), .int .i64 ((rd_T72 l0_0 a1).f2), .int .i64 ((rd_T72 l0_0 a1).f3), .int .i64 ((rd_T72 l0_0 a1).f4), .int .i64 ((rd_T72 l0_0 a1).f5), .int .i64 ((rd_T72 l0_0 a1).f6)] 72 (0, 0)) z56_ hg (Kd.R_ne HO_4.out BK334.out (by decide))); replace HO338 := Aside0.mk (Kd.R_over' z195_ (Kd.R_typed z28_) (by decide) hg); replace HB := Aside0.mk (hb); replace HK := Aside0.mk (Kept.of_grown (S := (fun k_ => P3_ k_ ∨ P4_ k_)) hg z5_ (fun k_ e_ => (HO_4.out.1 k_ e_))); have HO341 := Aside0.mk (ho); clear HO_4; clear ho hb hg hat; obtain ⟨hcz31_0, hcz31_1, hcz31_2, hcz31_3, hcz31_4, hcz31_5, hcz31_6, hfz31_0, hfz31_1, hfz31_2, hfz31_3, hfz31_4, hfz31_5, hfz31_6⟩ := bx7_ BK334.out))
    go_loopg [3, 4, 14, 15] kj7 (fun kq v3 v4 v14 v15 w' => ∃ (x3_2 : List (S62)) (x4_2 : List Int) (x14_2 : Int) (x15_2 : Int), v14 = .int .i64 x14_2 ∧ v15 = .int .i64 x15_2 ∧ Aside0 (impl_Dom_visit.l0 kq a1 a2 x3_2 x4_2 x14_2 x15_2 l0_0 ((rd_T72 l0_0 a1).f0) ((rd_T72 l0_0 a1).f1) ((rd_T72 l0_0 a1).f2) ((rd_T72 l0_0 a1).f3) ((rd_T72 l0_0 a1).f4) ((rd_T72 l0_0 a1).f5) ((rd_T72 l0_0 a1).f6) = some (r1, r2, r3)) ∧ Aside0 (kq ≤ kj7) ∧ Aside0 (Kd.R k62 62 w' w0.heap.size (fun k_ => ((P3_ k_ ∨ P4_ k_) ∨ w.heap.size ≤ k_)) v3 x3_2) ∧ Aside0 (Kd.R (Kd.int .i64) 3 w' w0.heap.size (fun k_ => ((P3_ k_ ∨ P4_ k_) ∨ w.heap.size ≤ k_)) v4 x4_2) ∧ Aside0 (w'.heap[gb332]? = some (.cells #[(.slice (some ad333) l0_0.length c0_0)] 28 (0, 0))) ∧ Aside0 (w'.heap[gb334]? = some (.cells #[.bool ((rd_T72 l0_0 a1).f0), .int .i64 ((rd_T72 l0_0 a1).f1), .int .i64 ((rd_T72 l0_0 a1).f2), .int .i64 ((rd_T72 l0_0 a1).f3), .int .i64 ((rd_T72 l0_0 a1).f4), .int .i64 ((rd_T72 l0_0 a1).f5), .int .i64 ((rd_T72 l0_0 a1).f6)] 72 (0, 0))) ∧ Aside0 (Kept w w' (fun k_ => P3_ k_ ∨ P4_ k_)) ∧ Aside0 (Below w0.heap.size w0 w'))
    case atStart => exact ⟨(y336), (y339), ((-1)), (((rd_T72 l0_0 a1).f3)), z17_, z17_, H', ⟨Nat.le_refl _⟩, ⟨z195_⟩, ⟨by exact HO341.out⟩, ⟨z39_⟩, ⟨z56_⟩, ⟨z5_⟩, ⟨z10_⟩⟩
    case round =>
     clear H' hcz28_0 hcz28_1 hcz28_2 hcz28_3 hcz28_4 hcz28_5 hcz28_6 hcz31_0 hcz31_1 hcz31_2 hcz31_3 hcz31_4 hcz31_5 hcz31_6 hfz28_0 hfz28_1 hfz28_2 hfz28_3 hfz28_4 hfz28_5 hfz28_6 hfz31_0 hfz31_1 hfz31_2 hfz31_3 hfz31_4 hfz31_5 hfz31_6
     obtain ⟨x3_2, x4_2, x14_2, x15_2, rfl, rfl, HA, HK2, HO_3, HO_4, BK332, BK334, HK, HB⟩ := hrel
     cases gk with
     | zero => exact absurd HA.out (by simp [impl_Dom_visit.l0])
     | succ k2 =>
      have H := HA.out
      clear HA
      simp only [impl_Dom_visit.l0] at H
      by_cases c32 : x15_2 = (-1)
      ·rw [if_pos c32] at H
       have c32b0 : (x15_2 == (-1)) = true := beq_iff_eq.mpr c32
       have c32b1 : (x15_2 != (-1)) = false := bne_eq_false_iff_eq.mpr c32
       clear c32
       simp only [Option.some.injEq, Prod.mk.injEq] at H
       obtain ⟨rfl, rfl, rfl⟩ := H
       have hnb33 := NB334_332.out
       have hnc33 := NB332_334.out
       obtain ⟨hcz34_0, hcz34_1, hcz34_2, hcz34_3, hcz34_4, hcz34_5, hcz34_6, hfz34_0, hfz34_1, hfz34_2, hfz34_3, hfz34_4, hfz34_5, hfz34_6⟩ := bx7_ BK334.out
       go_wp2
       repeat (go_quiet (fail); try go_wp2)
       go_ret3
       exact ⟨_, _, z4_, z25_, z28_, z10_, z5_⟩
      ·rw [if_neg c32] at H
       have c32b0 : (x15_2 == (-1)) = false := beq_eq_false_iff_ne.mpr c32
       have c32b1 : (x15_2 != (-1)) = true := bne_iff_ne.mpr c32
       have HC35 := Aside0.mk H
       clear H
       go_upto_region 9 with (fail)
       go_cut [89] (fun v89 wc => ∃ (kq : Nat) (x89_34 : Bool), v89 = .bool x89_34 ∧ Aside0 (impl_Dom_visit.j2 kq a1 a2 x3_2 x4_2 x15_2 x89_34 l0_0 ((rd_T72 l0_0 a1).f0) ((rd_T72 l0_0 a1).f1) ((rd_T72 l0_0 a1).f2) ((rd_T72 l0_0 a1).f3) ((rd_T72 l0_0 a1).f4) ((rd_T72 l0_0 a1).f5) ((rd_T72 l0_0 a1).f6) = some (r1, r2, r3)) ∧ Aside0 (kq ≤ k2) ∧ Aside0 (Kd.R k62 62 wc w0.heap.size (fun k_ => ((P3_ k_ ∨ P4_ k_) ∨ w.heap.size ≤ k_)) u3 x3_2) ∧ Aside0 (Kd.R (Kd.int .i64) 3 wc w0.heap.size (fun k_ => ((P3_ k_ ∨ P4_ k_) ∨ w.heap.size ≤ k_)) u4 x4_2) ∧ Aside0 (wc.heap[gb332]? = some (.cells #[(.slice (some ad333) l0_0.length c0_0)] 28 (0, 0))) ∧ Aside0 (wc.heap[gb334]? = some (.cells #[.bool ((rd_T72 l0_0 a1).f0), .int .i64 ((rd_T72 l0_0 a1).f1), .int .i64 ((rd_T72 l0_0 a1).f2), .int .i64 ((rd_T72 l0_0 a1).f3), .int .i64 ((rd_T72 l0_0 a1).f4), .int .i64 ((rd_T72 l0_0 a1).f5), .int .i64 ((rd_T72 l0_0 a1).f6)] 72 (0, 0))) ∧ Aside0 (Kept w wc (fun k_ => P3_ k_ ∨ P4_ k_)) ∧ Aside0 (Below w0.heap.size w0 wc))
       case first =>
        have H := HC35.out
        clear HC35
        obtain ⟨t342, A36, H⟩ := bnd_ H
        by_cases c37 : t342 = true
        ·subst c37
         replace H := ift_ H
         obtain ⟨t343, A38, H⟩ := bnd_ H
         by_cases c39 : t343 = true
         ·subst c39
          replace H := ift_ H
          have H' := Aside0.mk H
          clear H
          have hnb40 := NB332_334.out
          have hnc40 := NB334_332.out
          have hcz41_0 : wr.cell? ⟨gb332, 0, none⟩ = some (.slice (some ad333) l0_0.length c0_0) := (blk_cell BK332.out 0).trans rfl
          have hfz41_0 := blk_frozen BK332.out 0
          go_wp2_with (first | (go_at_call 81; (with_reducible refine (impl_within.calls x15_2 0 (wrap64 ((l0_0.length : Int) - 1)) true _ A36.out).mono ?_); rintro e w' ⟨rfl, ⟨nd, rfl⟩⟩; obtain ⟨Ao42, co42, eo42⟩ := Kd.R_slice HO_4.out; subst eo42) | (go_at_call 86; (with_reducible refine (slices_Contains_int_int.calls k2 _ _ x4_2 x15_2 true _ ?side1 ?side2 A38.out).mono ?_); (case side1 => exact z66_); (case side2 => exact z258_); rintro e w' ⟨rfl, ⟨nd, rfl⟩⟩))
          go_meet
          case rel => exact ⟨_, (true), z17_, H', ⟨z266_⟩, ⟨z25_⟩, ⟨z28_⟩, ⟨z39_⟩, ⟨z56_⟩, ⟨z5_⟩, ⟨z10_⟩⟩
         ·replace c39 := Bool.eq_false_iff.mpr c39
          subst c39
          replace H := iff_ H
          obtain ⟨c43b0, H⟩ := ifd_ H
          obtain ⟨c44b0, H⟩ := ifd_ H
          by_cases c45 : ((rd_T72 l0_0 x15_2).f2) = a1
          ·rw [if_pos c45] at H
           have c45b0 : (((rd_T72 l0_0 x15_2).f2) == a1) = true := beq_iff_eq.mpr c45
           have c45b1 : (((rd_T72 l0_0 x15_2).f2) != a1) = false := bne_eq_false_iff_eq.mpr c45
           clear c45
           have H' := Aside0.mk H
           clear H
           have hnb46 := NB332_334.out
           have hnc46 := NB334_332.out
           have hcz47_0 : wr.cell? ⟨gb332, 0, none⟩ = some (.slice (some ad333) l0_0.length c0_0) := (blk_cell BK332.out 0).trans rfl
           have hfz47_0 := blk_frozen BK332.out 0
           go_wp2_with (first | (go_at_call 81; (with_reducible refine (impl_within.calls x15_2 0 (wrap64 ((l0_0.length : Int) - 1)) true _ A36.out).mono ?_); rintro e w' ⟨rfl, ⟨nd, rfl⟩⟩; obtain ⟨Ao48, co48, eo48⟩ := Kd.R_slice HO_4.out; subst eo48) | (go_at_call 86; (with_reducible refine (slices_Contains_int_int.calls k2 _ _ x4_2 x15_2 false _ ?side1 ?side2 A38.out).mono ?_); (case side1 => exact z66_); (case side2 => exact z258_); rintro e w' ⟨rfl, ⟨nd, rfl⟩⟩; have p344 : 0 ≤ (x15_2 : Int) := odt_; have q344 : x15_2 < (l0_0.length : Int) := odt_; obtain ⟨ad344, e344, hx344_0, hx344_1, hx344_2, hx344_3, hx344_4, hx344_5, hx344_6⟩ := at_T72 (Kd.C_kept_now HR0_0.out HK.out) x15_2 p344 q344; obtain rfl : ad333 = ad344 := (by injection e344); replace p344 := eq_true p344; replace q344 := eq_true q344; have p345 : 0 ≤ (x15_2 : Int) := odt_; have q345 : x15_2 < (l0_0.length : Int) := odt_; obtain ⟨ad345, e345, hx345_0, hx345_1, hx345_2, hx345_3, hx345_4, hx345_5, hx345_6⟩ := at_T72 (Kd.C_kept_now HR0_0.out HK.out) x15_2 p345 q345; obtain rfl : ad333 = ad345 := (by injection e345); replace p345 := eq_true p345; replace q345 := eq_true q345))
           go_meet
           case rel => exact ⟨_, ((((rd_T72 l0_0 x15_2).f5) != x14_2)), z17_, H', ⟨z266_⟩, ⟨z25_⟩, ⟨z28_⟩, ⟨z39_⟩, ⟨z56_⟩, ⟨z5_⟩, ⟨z10_⟩⟩
          ·rw [if_neg c45] at H
           have c45b0 : (((rd_T72 l0_0 x15_2).f2) == a1) = false := beq_eq_false_iff_ne.mpr c45
           have c45b1 : (((rd_T72 l0_0 x15_2).f2) != a1) = true := bne_iff_ne.mpr c45
           have H' := Aside0.mk H
           clear H
           have hnb49 := NB332_334.out
           have hnc49 := NB334_332.out
           have hcz50_0 : wr.cell? ⟨gb332, 0, none⟩ = some (.slice (some ad333) l0_0.length c0_0) := (blk_cell BK332.out 0).trans rfl
           have hfz50_0 := blk_frozen BK332.out 0
           go_wp2_with (first | (go_at_call 81; (with_reducible refine (impl_within.calls x15_2 0 (wrap64 ((l0_0.length : Int) - 1)) true _ A36.out).mono ?_); rintro e w' ⟨rfl, ⟨nd, rfl⟩⟩; obtain ⟨Ao51, co51, eo51⟩ := Kd.R_slice HO_4.out; subst eo51) | (go_at_call 86; (with_reducible refine (slices_Contains_int_int.calls k2 _ _ x4_2 x15_2 false _ ?side1 ?side2 A38.out).mono ?_); (case side1 => exact z66_); (case side2 => exact z258_); rintro e w' ⟨rfl, ⟨nd, rfl⟩⟩; have p344 : 0 ≤ (x15_2 : Int) := odt_; have q344 : x15_2 < (l0_0.length : Int) := odt_; obtain ⟨ad344, e344, hx344_0, hx344_1, hx344_2, hx344_3, hx344_4, hx344_5, hx344_6⟩ := at_T72 (Kd.C_kept_now HR0_0.out HK.out) x15_2 p344 q344; obtain rfl : ad333 = ad344 := (by injection e344); replace p344 := eq_true p344; replace q344 := eq_true q344))
           go_meet
           case rel => exact ⟨_, (true), z17_, H', ⟨z266_⟩, ⟨z25_⟩, ⟨z28_⟩, ⟨z39_⟩, ⟨z56_⟩, ⟨z5_⟩, ⟨z10_⟩⟩
        ·replace c37 := Bool.eq_false_iff.mpr c37
         subst c37
         replace H := iff_ H
         have H' := Aside0.mk H
         clear H
         have hnb52 := NB332_334.out
         have hnc52 := NB334_332.out
         have hcz53_0 : wr.cell? ⟨gb332, 0, none⟩ = some (.slice (some ad333) l0_0.length c0_0) := (blk_cell BK332.out 0).trans rfl
         have hfz53_0 := blk_frozen BK332.out 0
         go_wp2_with ((go_at_call 81; (with_reducible refine (impl_within.calls x15_2 0 (wrap64 ((l0_0.length : Int) - 1)) false _ A36.out).mono ?_); rintro e w' ⟨rfl, ⟨nd, rfl⟩⟩))
         go_meet
         case rel => exact ⟨_, (true), z17_, H', ⟨z266_⟩, ⟨z25_⟩, ⟨z28_⟩, ⟨z39_⟩, ⟨z56_⟩, ⟨z5_⟩, ⟨z10_⟩⟩
       case rest =>
        clear HC35 c32 c32b0 c32b1
        obtain ⟨kq, x89_34, rfl, HA, HJ34, HO_3, HO_4, BK332, BK334, HK, HB⟩ := hcut
        cases kq with
        | zero => exact absurd HA.out (by simp [impl_Dom_visit.j2])
        | succ kj34 =>
         have H := HA.out
         clear HA
         simp only [impl_Dom_visit.j2] at H
         by_cases c54 : x89_34 = true
         ·subst c54
          replace H := ift_ H
          simp only [Option.some.injEq, Prod.mk.injEq] at H
          obtain ⟨rfl, rfl, rfl⟩ := H
          go_wp2
          go_ret3
          exact ⟨_, _, z4_, z25_, z28_, z10_, z5_⟩
         ·replace c54 := Bool.eq_false_iff.mpr c54
          subst c54
          replace H := iff_ H
          replace H := Option.bind_eq_some_iff.mp H
          obtain ⟨⟨t346, t349, t352⟩, A550, H⟩ := H
          try dsimp only at H
          have A55 := Aside0.mk A550
          clear A550
          by_cases c56 : t352 = true
          ·subst c56
           replace H := ift_ H
           obtain ⟨c57b0, H⟩ := ifd_ H
           obtain ⟨c58b0, H⟩ := ifd_ H
           have H' := Aside0.mk H
           clear H
           have hnb59 := NB332_334.out
           have hnc59 := NB334_332.out
           have hcz60_0 : wc.cell? ⟨gb332, 0, none⟩ = some (.slice (some ad333) l0_0.length c0_0) := (blk_cell BK332.out 0).trans rfl
           have hfz60_0 := blk_frozen BK332.out 0
           obtain ⟨Ao61, co61, eo61⟩ := Kd.R_slice HO_3.out
           subst eo61
           obtain ⟨Ao62, co62, eo62⟩ := Kd.R_slice HO_4.out
           subst eo62
           go_wp2_with ((go_at_call 112; (with_reducible refine (ih kj34 z197_ _ _ l0_0 x15_2 (wrap64 (a2 + 1)) (fun k_ => some k_ = (.slice Ao61 x3_2.length co61 : Value).ownBlock) (.slice Ao61 x3_2.length co61) x3_2 (fun k_ => some k_ = (.slice Ao62 x4_2.length co62 : Value).ownBlock) (.slice Ao62 x4_2.length co62) x4_2 t346 t349 true w0 _ ?side1 ?side2 ?side3 ?side4 ?side5 A55.out).mono ?_); (case side1 => exact z10_); (case side2 => exact z53_); (case side3 => exact HC0_0.out); (case side4 => exact z294_); (case side5 => exact z295_); rintro e w63 ⟨v347, v350, rfl, ho0, ho1, hb, hkp⟩; replace BK332 := Aside0.mk (blk_kept z39_ hkp (fun hs_ => Or.elim hs_ (fun e_ => (fun e_ => (Kd.R_ne HO_3.out BK332.out (by decide)) e_) e_) (fun e_ => (fun e_ => (Kd.R_ne HO_4.out BK332.out (by decide)) e_) e_))); replace BK334 := Aside0.mk (blk_kept z56_ hkp (fun hs_ => Or.elim hs_ (fun e_ => (fun e_ => (Kd.R_ne HO_3.out BK334.out (by decide)) e_) e_) (fun e_ => (fun e_ => (Kd.R_ne HO_4.out BK334.out (by decide)) e_) e_))); have HO348 := Aside0.mk (Kd.R_mono (ok' := fun k_ => ((P3_ k_ ∨ P4_ k_) ∨ w.heap.size ≤ k_)) ho0 (fun k_ hk_ => Or.elim hk_ (fun hs_ => Or.elim hs_ (fun hs_ => (HO_3.out.1 k_ (hs_).symm)) (fun hs_ => (HO_4.out.1 k_ (hs_).symm))) (fun hn_ => (.inr (Nat.le_trans z16_ hn_))))); have HO351 := Aside0.mk (Kd.R_mono (ok' := fun k_ => ((P3_ k_ ∨ P4_ k_) ∨ w.heap.size ≤ k_)) ho1 (fun k_ hk_ => Or.elim hk_ (fun hs_ => Or.elim hs_ (fun hs_ => (HO_3.out.1 k_ (hs_).symm)) (fun hs_ => (HO_4.out.1 k_ (hs_).symm))) (fun hn_ => (.inr (Nat.le_trans z16_ hn_))))); replace HK := Aside0.mk (Kept.then_ (S := (fun k_ => P3_ k_ ∨ P4_ k_)) z5_ hkp (fun k_ hs_ => Or.elim hs_ (fun e_ => (fun e_ => (HO_3.out.1 k_ e_.symm)) e_) (fun e_ => (fun e_ => (HO_4.out.1 k_ e_.symm)) e_))); replace HB := Aside0.mk (hb); clear HO_3 HO_4; (try clear hb hkp ho0 ho1); have hcz64_0 : w63.cell? ⟨gb332, 0, none⟩ = some (.slice (some ad333) l0_0.length c0_0) := (blk_cell BK332.out 0).trans rfl; have hfz64_0 := blk_frozen BK332.out 0; have p353 : 0 ≤ (x15_2 : Int) := odt_; have q353 : x15_2 < (l0_0.length : Int) := odt_; obtain ⟨ad353, e353, hx353_0, hx353_1, hx353_2, hx353_3, hx353_4, hx353_5, hx353_6⟩ := at_T72 (Kd.C_kept_now HR0_0.out HK.out) x15_2 p353 q353; obtain rfl : ad333 = ad353 := (by injection e353); replace p353 := eq_true p353; replace q353 := eq_true q353))
           go_roundg kj34
           case measure => have := HJ7.out; have := HK2.out; have := HJ34.out; omega
           case rel => exact ⟨(t346), (t349), (x15_2), ((rd_T72 l0_0 x15_2).f6), z17_, z17_, H', ⟨z197_⟩, ⟨z288_⟩, ⟨z289_⟩, ⟨z39_⟩, ⟨z56_⟩, ⟨z5_⟩, ⟨z10_⟩⟩
          ·replace c56 := Bool.eq_false_iff.mpr c56
           subst c56
           replace H := iff_ H
           simp only [Option.some.injEq, Prod.mk.injEq] at H
           obtain ⟨rfl, rfl, rfl⟩ := H
           have hnb65 := NB332_334.out
           have hnc65 := NB334_332.out
           have hcz66_0 : wc.cell? ⟨gb332, 0, none⟩ = some (.slice (some ad333) l0_0.length c0_0) := (blk_cell BK332.out 0).trans rfl
           have hfz66_0 := blk_frozen BK332.out 0
           obtain ⟨Ao67, co67, eo67⟩ := Kd.R_slice HO_3.out
           subst eo67
           obtain ⟨Ao68, co68, eo68⟩ := Kd.R_slice HO_4.out
           subst eo68
           go_wp2_with ((go_at_call 112; (with_reducible refine (ih kj34 z197_ _ _ l0_0 x15_2 (wrap64 (a2 + 1)) (fun k_ => some k_ = (.slice Ao67 x3_2.length co67 : Value).ownBlock) (.slice Ao67 x3_2.length co67) x3_2 (fun k_ => some k_ = (.slice Ao68 x4_2.length co68 : Value).ownBlock) (.slice Ao68 x4_2.length co68) x4_2 t346 t349 false w0 _ ?side1 ?side2 ?side3 ?side4 ?side5 A55.out).mono ?_); (case side1 => exact z10_); (case side2 => exact z53_); (case side3 => exact HC0_0.out); (case side4 => exact z294_); (case side5 => exact z295_); rintro e w69 ⟨v347, v350, rfl, ho0, ho1, hb, hkp⟩; replace BK332 := Aside0.mk (blk_kept z39_ hkp (fun hs_ => Or.elim hs_ (fun e_ => (fun e_ => (Kd.R_ne HO_3.out BK332.out (by decide)) e_) e_) (fun e_ => (fun e_ => (Kd.R_ne HO_4.out BK332.out (by decide)) e_) e_))); replace BK334 := Aside0.mk (blk_kept z56_ hkp (fun hs_ => Or.elim hs_ (fun e_ => (fun e_ => (Kd.R_ne HO_3.out BK334.out (by decide)) e_) e_) (fun e_ => (fun e_ => (Kd.R_ne HO_4.out BK334.out (by decide)) e_) e_))); have HO348 := Aside0.mk (Kd.R_mono (ok' := fun k_ => ((P3_ k_ ∨ P4_ k_) ∨ w.heap.size ≤ k_)) ho0 (fun k_ hk_ => Or.elim hk_ (fun hs_ => Or.elim hs_ (fun hs_ => (HO_3.out.1 k_ (hs_).symm)) (fun hs_ => (HO_4.out.1 k_ (hs_).symm))) (fun hn_ => (.inr (Nat.le_trans z16_ hn_))))); have HO351 := Aside0.mk (Kd.R_mono (ok' := fun k_ => ((P3_ k_ ∨ P4_ k_) ∨ w.heap.size ≤ k_)) ho1 (fun k_ hk_ => Or.elim hk_ (fun hs_ => Or.elim hs_ (fun hs_ => (HO_3.out.1 k_ (hs_).symm)) (fun hs_ => (HO_4.out.1 k_ (hs_).symm))) (fun hn_ => (.inr (Nat.le_trans z16_ hn_))))); replace HK := Aside0.mk (Kept.then_ (S := (fun k_ => P3_ k_ ∨ P4_ k_)) z5_ hkp (fun k_ hs_ => Or.elim hs_ (fun e_ => (fun e_ => (HO_3.out.1 k_ e_.symm)) e_) (fun e_ => (fun e_ => (HO_4.out.1 k_ e_.symm)) e_))); replace HB := Aside0.mk (hb); clear HO_3 HO_4; (try clear hb hkp ho0 ho1)))
           go_ret3
           exact ⟨_, _, z4_, z288_, z289_, z10_, z5_⟩

end Go.Proofs.Ytdapeboajjidmab.PFnExactDomInsert
