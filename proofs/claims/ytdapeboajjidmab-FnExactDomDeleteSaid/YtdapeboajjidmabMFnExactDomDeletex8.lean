/- Laid by a program of this session out of the kit's print for the law FnExactDomDelete: what it says of the machine is proved here, function by function; each contract under the conditions that it names. -/
import Derived.Test.YtdapeboajjidmabMFnExactDomDeletex0
import Derived.Test.YtdapeboajjidmabMFnExactDomDeletex2
import Derived.Test.YtdapeboajjidmabMFnExactDomDeletex6
import Derived.Test.YtdapeboajjidmabMFnExactDomDeletex7
namespace Go.Proofs.Ytdapeboajjidmab.PFnExactDomDelete
open Go.RowKit Go.Proofs.YtdapeboajjidmabW.PrintWords Go.Proofs.YtdapeboajjidmabW.PrintLast Go.Proofs.YtdapeboajjidmabW.PrintMore
attribute [local go_sem] max2_int min2_int max_two min_two max_three min_three max_four min_four   -- for this text's walks alone
set_option linter.unusedVariables false
set_option linter.unusedSimpArgs false

/-! ### spec_DomDelete: function 22 -/
mutual
def spec_DomDelete.j0 : Nat → Int → Bool → List (S72) → List (S72) → Option ((List (S72)) × Bool)
 | 0, _, _, _, _ => none
 | k + 1, x1, x20, x221000, x226000 => if x20 = true then (some (x226000, false)) else (if 0 ≤ x1 then (if x1 < (x221000.length : Int) then ((spec_l17Kids.f k x221000 ((rd_T72 x221000 x1).f2)).bind fun t228 => (spec_DomDelete.l0 k x1 ((rd_T72 x221000 x1).f2) t228 (([] : List Int)) 0 x221000 x226000)) else (none)) else (none))
def spec_DomDelete.l0 : Nat → Int → Int → List Int → List Int → Int → List (S72) → List (S72) → Option ((List (S72)) × Bool)
 | 0, _, _, _, _, _, _, _ => none
 | k + 1, x1, x7, x8, x9, x10, x221000, x226000 => if x10 < (x8.length : Int) then (if 0 ≤ x10 then (if (rd x8 x10) = x1 then ((spec_l17Kids.f k x221000 x1).bind fun t235 => (if x9.length + t235.length < 17592186044416 then (spec_DomDelete.l0 k x1 x7 x8 (x9 ++ t235) (wrap64 (x10 + 1)) x221000 x226000) else (none))) else (if x9.length < 17592186044416 then (spec_DomDelete.l0 k x1 x7 x8 (x9 ++ [rd x8 x10]) (wrap64 (x10 + 1)) x221000 x226000) else (none))) else (none)) else ((spec_l16Empty.f).bind fun bt245 => (if 0 ≤ x1 then (if x1 < (x226000.length : Int) then ((spec_l17Set.f k (x226000.set (x1 : Int).toNat (⟨bt245.1, bt245.2.1, bt245.2.2.1, bt245.2.2.2.1, bt245.2.2.2.2.1, bt245.2.2.2.2.2.1, bt245.2.2.2.2.2.2⟩ : S72)) x7 x9).bind fun t253 => (some (t253, true))) else (none)) else (none)))
end
def spec_DomDelete.f (k : Nat) (l0_0 : List (S72)) (a1 : Int) : Option ((List (S72)) × Bool) := (spec_l16Copy.f l0_0).bind fun t222 => ((spec_l17Live.f k l0_0 a1).bind fun t226 => (if t226 = true then (spec_DomDelete.j0 k a1 (a1 == 0) l0_0 t222) else (spec_DomDelete.j0 k a1 true l0_0 t222)))
set_option maxHeartbeats 8000000 in
set_option maxRecDepth 100000 in
theorem spec_DomDelete.calls (k : Nat) (A0_0 : Option Addr) (c0_0 : Nat) (l0_0 : List (S72)) (a1 : Int) (r1 : List (S72)) (r2 : Bool) (w : World) (hr0_0 : Kd.C k72 w A0_0 l0_0.length l0_0) (hc0_0 : l0_0.length ≤ c0_0) (h : spec_DomDelete.f k l0_0 a1 = some (r1, r2)) :
  Calls Try.prog 22 #[.agg #[.slice A0_0 l0_0.length c0_0], .int .i64 a1] w fun e w' => ∃ v0_ : Value, e = .returned (.tuple #[.agg #[v0_], .bool r2]) ∧ Kd.R k72 72 w' w.heap.size (fun _ => True) v0_ r1 ∧ Below w.heap.size w w' := by
 have hu28 := Try.underlying28
 have hu72 := Try.underlying72
 have HR0_0 := Aside0.mk hr0_0
 have HC0_0 := Aside0.mk hc0_0
 clear hr0_0 hc0_0
 have HB := Aside0.mk (Below.refl w.heap.size w)
 have H : ((spec_l16Copy.f l0_0).bind fun t222 => ((spec_l17Live.f k l0_0 a1).bind fun t226 => (if t226 = true then (spec_DomDelete.j0 k a1 (a1 == 0) l0_0 t222) else (spec_DomDelete.j0 k a1 true l0_0 t222)))) = some (r1, r2) := h
 clear h
 obtain ⟨t222, A3, H⟩ := bnd_ H
 have HC4 := Aside0.mk H
 clear H
 go_enter Try.func22, Try.ntmps22
 go_upto_region 2 with (first | ((with_reducible refine gate_dst (N := 2) rfl ?_); refine box_event ?hg (N := 2) ?hd (cs := #[.slice A0_0 l0_0.length c0_0]) (t := 28) ?hr ?_; (case hd => rfl); (case hg => rfl); (case hr => exact z25_); intro gb220 hg w5 hbox hb; have BK220 := Aside0.mk (hbox); have GW220 := Aside0.mk ((by rw [hg]; exact (below_size z0_) : w.heap.size ≤ gb220)); have GE220 := Aside0.mk ((by rw [hg]; exact (below_size z0_) : w.heap.size ≤ gb220)); replace HB := Aside0.mk (below_step z0_ hb); clear hb hbox hg) | ((with_reducible refine gate_dst (N := 4) rfl ?_); refine box_event ?hg (N := 4) ?hd (cs := #[.slice none 0 0]) (t := 28) ?hr ?_; (case hd => rfl); (case hg => rfl); (case hr => exact z25_); intro gb221 hg w6 hbox hb; have BK221 := Aside0.mk (hbox); have GW221 := Aside0.mk ((by rw [hg]; exact (below_size z157_) : w.heap.size ≤ gb221)); have GE221 := Aside0.mk ((by rw [hg]; exact (below_size z157_) : w.heap.size ≤ gb221)); replace HB := Aside0.mk (below_step z157_ hb); have NB220_221 := Aside0.mk ((by rw [hg]; exact Nat.ne_of_lt (blk_lt (g := gb220) (o := .cells #[.slice A0_0 l0_0.length c0_0] 28 (0, 0)) z41_) : gb220 ≠ gb221)); have NB221_220 := Aside0.mk ((by rw [hg]; exact Nat.ne_of_gt (blk_lt (g := gb220) (o := .cells #[.slice A0_0 l0_0.length c0_0] 28 (0, 0)) z41_) : gb221 ≠ gb220)); replace BK220 := Aside0.mk (blk_below (g := gb220) (o := .cells #[.slice A0_0 l0_0.length c0_0] 28 (0, 0)) z41_ hb); clear hb hbox hg; have hnb7 := NB220_221.out; have hnc7 := NB221_220.out; have hcz8_0 : w6.cell? ⟨gb220, 0, none⟩ = some (.slice A0_0 l0_0.length c0_0) := (blk_cell BK220.out 0).trans rfl; have hfz8_0 := blk_frozen BK220.out 0) | ((with_reducible refine gate_callee (f := 66) rfl ?_); refine goesL_ (some 12) rfl rfl Try.func66 (by kernel_rfl) rfl #[.agg #[.slice A0_0 l0_0.length c0_0]] rfl z1_ ?_; (with_reducible refine (spec_l16Copy.calls _ _ l0_0 t222 _ ?side1 ?side2 A3.out).mono ?_); (case side1 => exact z10_); (case side2 => exact HC0_0.out); rintro e w9 ⟨v223, rfl, ho0, hb⟩; refine ⟨_, rfl, ?_⟩; have HO224 := Aside0.mk (Kd.R_lower ho0 (below_size z87_)); replace BK220 := Aside0.mk (blk_below (g := gb220) (o := .cells #[.slice A0_0 l0_0.length c0_0] 28 (0, 0)) z41_ hb); replace BK221 := Aside0.mk (blk_below (g := gb221) (o := .cells #[.slice none 0 0] 28 (0, 0)) z50_ hb); replace HB := Aside0.mk (below_step z87_ hb); (try clear hb ho0)) | ((with_reducible refine gate_dst (N := 6) rfl ?_); refine box_event ?hg (N := 6) ?hd (cs := #[.slice none 0 0]) (t := 28) ?hr ?_; (case hd => rfl); (case hg => rfl); (case hr => exact z25_); intro gb225 hg w10 hbox hb; replace HO224 := Aside0.mk (Kd.R_below z210_ hb); have BK225 := Aside0.mk (hbox); have GW225 := Aside0.mk ((by rw [hg]; exact (below_size z87_) : w.heap.size ≤ gb225)); have GE225 := Aside0.mk ((by rw [hg]; exact (below_size z87_) : w.heap.size ≤ gb225)); replace HB := Aside0.mk (below_step z87_ hb); have NB220_225 := Aside0.mk ((by rw [hg]; exact Nat.ne_of_lt (blk_lt (g := gb220) (o := .cells #[.slice A0_0 l0_0.length c0_0] 28 (0, 0)) z41_) : gb220 ≠ gb225)); have NB225_220 := Aside0.mk ((by rw [hg]; exact Nat.ne_of_gt (blk_lt (g := gb220) (o := .cells #[.slice A0_0 l0_0.length c0_0] 28 (0, 0)) z41_) : gb225 ≠ gb220)); replace BK220 := Aside0.mk (blk_below (g := gb220) (o := .cells #[.slice A0_0 l0_0.length c0_0] 28 (0, 0)) z41_ hb); have NB221_225 := Aside0.mk ((by rw [hg]; exact Nat.ne_of_lt (blk_lt (g := gb221) (o := .cells #[.slice none 0 0] 28 (0, 0)) z50_) : gb221 ≠ gb225)); have NB225_221 := Aside0.mk ((by rw [hg]; exact Nat.ne_of_gt (blk_lt (g := gb221) (o := .cells #[.slice none 0 0] 28 (0, 0)) z50_) : gb225 ≠ gb221)); replace BK221 := Aside0.mk (blk_below (g := gb221) (o := .cells #[.slice none 0 0] 28 (0, 0)) z50_ hb); clear hb hbox hg; obtain ⟨Ao11, co11, eo11⟩ := Kd.R_slice HO224.out; subst eo11; have hnb12 := NB225_220.out; have hnc12 := NB220_225.out; have hnb13 := NB225_221.out; have hnc13 := NB221_225.out; have hcz14_0 : w10.cell? ⟨gb225, 0, none⟩ = some (.slice none 0 0) := (blk_cell BK225.out 0).trans rfl; have hfz14_0 := blk_frozen BK225.out 0))
 (try simp only [Act.put, List.setIfInBounds_toArray, List.set_cons_zero, List.set_cons_succ])
 go_cut [20] (fun v20 wc => ∃ (kq : Nat) (x20_3 : Bool), v20 = .bool x20_3 ∧ Aside0 (spec_DomDelete.j0 kq a1 x20_3 l0_0 t222 = some (r1, r2)) ∧ Aside0 (kq ≤ k) ∧ Aside0 (Kd.R k72 72 wc w.heap.size (fun _ => True) (.slice Ao11 t222.length co11) t222) ∧ Aside0 (wc.heap[gb220]? = some (.cells #[(.slice A0_0 l0_0.length c0_0)] 28 (0, 0))) ∧ Aside0 (wc.heap[gb221]? = some (.cells #[(.slice none 0 0)] 28 (0, 0))) ∧ Aside0 (wc.heap[gb225]? = some (.cells #[(.slice Ao11 t222.length co11)] 28 (0, 0))) ∧ Aside0 (Below w.heap.size w wc))
 case first =>
  have H := HC4.out
  clear HC4
  obtain ⟨t226, A15, H⟩ := bnd_ H
  by_cases c16 : t226 = true
  ·subst c16
   replace H := ift_ H
   have H' := Aside0.mk H
   clear H
   have hnb17 := NB220_221.out
   have hnc17 := NB221_220.out
   have hnb18 := NB220_225.out
   have hnc18 := NB225_220.out
   have hcz19_0 : w10.cell? ⟨gb220, 0, none⟩ = some (.slice A0_0 l0_0.length c0_0) := (blk_cell BK220.out 0).trans rfl
   have hfz19_0 := blk_frozen BK220.out 0
   go_wp2_with (first | ((with_reducible refine gate_callee (f := 67) rfl ?_); refine goesL_ (some 15) rfl rfl Try.func67 (by kernel_rfl) rfl #[.agg #[.slice A0_0 l0_0.length c0_0], .int .i64 a1] rfl z1_ ?_; (with_reducible refine (spec_l17Live.calls k _ _ l0_0 a1 true _ ?side1 ?side2 A15.out).mono ?_); (case side1 => exact z127_); (case side2 => exact HC0_0.out); rintro e w20 ⟨rfl, hb⟩; refine ⟨_, rfl, ?_⟩; replace HO224 := Aside0.mk (Kd.R_below z133_ hb); replace BK220 := Aside0.mk (blk_below (g := gb220) (o := .cells #[.slice A0_0 l0_0.length c0_0] 28 (0, 0)) z141_ hb); replace BK221 := Aside0.mk (blk_below (g := gb221) (o := .cells #[.slice none 0 0] 28 (0, 0)) z142_ hb); replace BK225 := Aside0.mk (blk_below (g := gb225) (o := .cells #[.slice Ao11 t222.length co11] 28 (0, 0)) z119_ hb); replace HB := Aside0.mk (below_step z11_ hb); (try clear hb)))
   go_meet
   case rel => exact ⟨_, ((a1 == 0)), z12_, H', ⟨z103_⟩, ⟨z210_⟩, ⟨z41_⟩, ⟨z50_⟩, ⟨z58_⟩, ⟨z11_⟩⟩
  ·replace c16 := Bool.eq_false_iff.mpr c16
   subst c16
   replace H := iff_ H
   have H' := Aside0.mk H
   clear H
   have hnb21 := NB220_221.out
   have hnc21 := NB221_220.out
   have hnb22 := NB220_225.out
   have hnc22 := NB225_220.out
   have hcz23_0 : w10.cell? ⟨gb220, 0, none⟩ = some (.slice A0_0 l0_0.length c0_0) := (blk_cell BK220.out 0).trans rfl
   have hfz23_0 := blk_frozen BK220.out 0
   go_wp2_with (first | ((with_reducible refine gate_callee (f := 67) rfl ?_); refine goesL_ (some 15) rfl rfl Try.func67 (by kernel_rfl) rfl #[.agg #[.slice A0_0 l0_0.length c0_0], .int .i64 a1] rfl z1_ ?_; (with_reducible refine (spec_l17Live.calls k _ _ l0_0 a1 false _ ?side1 ?side2 A15.out).mono ?_); (case side1 => exact z127_); (case side2 => exact HC0_0.out); rintro e w24 ⟨rfl, hb⟩; refine ⟨_, rfl, ?_⟩; replace HO224 := Aside0.mk (Kd.R_below z133_ hb); replace BK220 := Aside0.mk (blk_below (g := gb220) (o := .cells #[.slice A0_0 l0_0.length c0_0] 28 (0, 0)) z141_ hb); replace BK221 := Aside0.mk (blk_below (g := gb221) (o := .cells #[.slice none 0 0] 28 (0, 0)) z142_ hb); replace BK225 := Aside0.mk (blk_below (g := gb225) (o := .cells #[.slice Ao11 t222.length co11] 28 (0, 0)) z119_ hb); replace HB := Aside0.mk (below_step z11_ hb); (try clear hb)))
   go_meet
   case rel => exact ⟨_, (true), z12_, H', ⟨z103_⟩, ⟨z210_⟩, ⟨z41_⟩, ⟨z50_⟩, ⟨z58_⟩, ⟨z11_⟩⟩
 case rest =>
  clear HC4
  try clear c1
  try clear c2
  try clear p2
  try clear c6
  try clear c7
  try clear c12
  try clear c13
  try clear c16
  try clear c17
  try clear c18
  try clear c21
  try clear c22
  try clear hcz14_0
  try clear hcz19_0
  try clear hcz23_0
  try clear hcz8_0
  try clear hfz14_0
  try clear hfz19_0
  try clear hfz23_0
  try clear hfz8_0
  obtain ⟨kq, x20_3, rfl, HA, HJ3, HO_226000, BK220, BK221, BK225, HB⟩ := hcut
  cases kq with
  | zero => exact absurd HA.out (by simp [spec_DomDelete.j0])
  | succ kj3 =>
   have H := HA.out
   clear HA
   simp only [spec_DomDelete.j0] at H
   by_cases c25 : x20_3 = true
   ·subst c25
    replace H := ift_ H
    simp only [Option.some.injEq, Prod.mk.injEq] at H
    obtain ⟨rfl, rfl⟩ := H
    have hnb26 := NB225_220.out
    have hnc26 := NB220_225.out
    have hnb27 := NB225_221.out
    have hnc27 := NB221_225.out
    have hcz28_0 : wc.cell? ⟨gb225, 0, none⟩ = some (.slice Ao11 t222.length co11) := (blk_cell BK225.out 0).trans rfl
    have hfz28_0 := blk_frozen BK225.out 0
    have hnb29 := NB221_220.out
    have hnc29 := NB220_221.out
    have hcz30_0 : wc.cell? ⟨gb221, 0, none⟩ = some (.slice none 0 0) := (blk_cell BK221.out 0).trans rfl
    have hfz30_0 := blk_frozen BK221.out 0
    go_wp2
    refine bodyPost_ret (results_ct rfl _ _ gb221 28 #[.slice Ao11 t222.length co11] (0, 0) _ rfl z120_ Try.underlying28 rfl (by kernel_rfl)) rfl ?_
    exact ⟨_, z4_, by (with_reducible repeat (first | apply Kd.R_alloc | apply Kd.R_drewN | apply Kd.R_drew)); exact Kd.R_mono (Kd.R_far (p := ⟨gb221, 0, none⟩) (Kd.R_types HO_226000.out BK221.out (by decide)) (fun _ hk => hk.2) (.slice Ao11 t222.length co11)) (fun _ hk => trivial), z11_⟩
   ·replace c25 := Bool.eq_false_iff.mpr c25
    subst c25
    replace H := iff_ H
    obtain ⟨c31b0, H⟩ := ifd_ H
    obtain ⟨c32b0, H⟩ := ifd_ H
    obtain ⟨t228, A33, H⟩ := bnd_ H
    obtain ⟨y231, hy231⟩ : ∃ y_ : List Int, y_ = (([] : List Int)) := ⟨_, rfl⟩
    replace H : (spec_DomDelete.l0 kj3 a1 ((rd_T72 l0_0 a1).f2) t228 y231 0 l0_0 t222) = some (r1, r2) := by first | (rw [hy231]; with_reducible exact H) | (have H2_ := (Option.bind_some _ _).symm.trans H; rw [hy231]; with_reducible exact H2_) | (have H2_ := (Option.bind_some _ _).symm.trans H; with_reducible exact H2_) | with_reducible exact H | (rw [hy231]; exact H) | exact H
    have Ny231 := Aside0.mk hy231
    clear hy231
    have H' := Aside0.mk H
    clear H
    have hnb34 := NB220_221.out
    have hnc34 := NB221_220.out
    have hnb35 := NB220_225.out
    have hnc35 := NB225_220.out
    have hcz36_0 : wc.cell? ⟨gb220, 0, none⟩ = some (.slice A0_0 l0_0.length c0_0) := (blk_cell BK220.out 0).trans rfl
    have hfz36_0 := blk_frozen BK220.out 0
    obtain ⟨p227, q227, ad227, e227, hx227_0, hx227_1, hx227_2, hx227_3, hx227_4, hx227_5, hx227_6⟩ := atb72_ HR0_0 HB a1
    cases e227
    go_wp2_with (first | ((with_reducible refine gate_callee (f := 68) rfl ?_); refine goesL_ (some 30) rfl rfl Try.func68 (by kernel_rfl) rfl #[.agg #[.slice (some ad227) l0_0.length c0_0], .int .i64 ((rd_T72 l0_0 a1).f2)] rfl z1_ ?_; (with_reducible refine (spec_l17Kids.calls kj3 _ _ l0_0 ((rd_T72 l0_0 a1).f2) t228 _ ?side1 ?side2 A33.out).mono ?_); (case side1 => exact z10_); (case side2 => exact HC0_0.out); rintro e w37 ⟨v229, rfl, ho0, hb⟩; refine ⟨_, rfl, ?_⟩; replace HO_226000 := Aside0.mk (Kd.R_below z89_ hb); have HO230 := Aside0.mk (Kd.R_lower ho0 (below_size z11_)); replace BK220 := Aside0.mk (blk_below (g := gb220) (o := .cells #[.slice (some ad227) l0_0.length c0_0] 28 (0, 0)) z41_ hb); replace BK221 := Aside0.mk (blk_below (g := gb221) (o := .cells #[.slice none 0 0] 28 (0, 0)) z50_ hb); replace BK225 := Aside0.mk (blk_below (g := gb225) (o := .cells #[.slice Ao11 t222.length co11] 28 (0, 0)) z58_ hb); replace HB := Aside0.mk (below_step z11_ hb); (try clear hb ho0)) | ((with_reducible refine gate_dst (N := 31) rfl ?_); refine Kd.R_lit (Kd.int .i64) _ 3 ?hg (N := 31) ?hd (xs := ([] : List Int)) (inner := []) (ok := fun _ => True) (okp := fun _ => True) ?hr ?hp (fun _ hk => hk) trivial (Below.refl _ _) (Nat.le_refl _) (by simp) ?_; (case hd => rfl); (case hg => rfl); (case hr => exact z25_); (case hp => exact (Reps.none _ _)); intro v232 w38 ho39 hb hg_ hnew_; clear hg_ hnew_; (first | rw [← Ny231.out] at ho39 | (simp only [Int.reduceToNat] at ho39; rw [← Ny231.out] at ho39)); replace HO_226000 := Aside0.mk (Kd.R_below z89_ hb); have HO233 := Aside0.mk (Kd.R_lower (Kd.R_new' ho39 (Kd.R_lt z242_)) (below_size z11_)); replace HO230 := Aside0.mk (Kd.R_elder' z242_ (Kd.R_base ho39) hb); replace BK220 := Aside0.mk (blk_below (g := gb220) (o := .cells #[.slice (some ad227) l0_0.length c0_0] 28 (0, 0)) z41_ hb); replace BK221 := Aside0.mk (blk_below (g := gb221) (o := .cells #[.slice none 0 0] 28 (0, 0)) z50_ hb); replace BK225 := Aside0.mk (blk_below (g := gb225) (o := .cells #[.slice Ao11 t222.length co11] 28 (0, 0)) z58_ hb); replace HB := Aside0.mk (below_step z11_ hb); clear hb ho39))
    go_loopg [9, 10] kj3 (fun kq v9 v10 w' => ∃ (x9_2 : List Int) (x10_2 : Int), v10 = .int .i64 x10_2 ∧ Aside0 (spec_DomDelete.l0 kq a1 ((rd_T72 l0_0 a1).f2) t228 x9_2 x10_2 l0_0 t222 = some (r1, r2)) ∧ Aside0 (kq ≤ kj3) ∧ Aside0 (Kd.R (Kd.int .i64) 3 w' w.heap.size (fun k_ => some k_ ≠ (v9 : Value).ownBlock) v229 t228) ∧ Aside0 (Kd.R (Kd.int .i64) 3 w' w.heap.size (fun k_ => some k_ ≠ (v229 : Value).ownBlock) v9 x9_2) ∧ Aside0 (Kd.R k72 72 w' w.heap.size (fun _ => True) (.slice Ao11 t222.length co11) t222) ∧ Aside0 (w'.heap[gb220]? = some (.cells #[(.slice (some ad227) l0_0.length c0_0)] 28 (0, 0))) ∧ Aside0 (w'.heap[gb221]? = some (.cells #[(.slice none 0 0)] 28 (0, 0))) ∧ Aside0 (w'.heap[gb225]? = some (.cells #[(.slice Ao11 t222.length co11)] 28 (0, 0))) ∧ Aside0 (Below w.heap.size w w'))
    case atStart => exact ⟨(y231), (0), z12_, H', ⟨Nat.le_refl _⟩, ⟨by (with_reducible repeat (first | apply Kd.R_alloc | apply Kd.R_drewN | apply Kd.R_drew)); exact Kd.R_mono HO230.out (fun _ hk => hk.2)⟩, ⟨by (with_reducible repeat (first | apply Kd.R_alloc | apply Kd.R_drewN | apply Kd.R_drew)); exact Kd.R_mono HO233.out (fun _ hk => hk.2)⟩, ⟨z89_⟩, ⟨z41_⟩, ⟨z50_⟩, ⟨z58_⟩, ⟨z11_⟩⟩
    case round =>
     clear H'
     try clear c1
     try clear c2
     try clear p2
     try clear q2
     try clear hx2
     try clear c3
     try clear c6
     try clear c7
     try clear c12
     try clear c13
     try clear c16
     try clear c17
     try clear c18
     try clear c21
     try clear c22
     try clear p22
     try clear q22
     try clear hx22
     try clear c25
     try clear c26
     try clear c27
     try clear c29
     try clear c31
     try clear c31b0
     try clear c32
     try clear c32b0
     try clear c34
     try clear c35
     try clear hcz14_0
     try clear hcz19_0
     try clear hcz23_0
     try clear hcz28_0
     try clear hcz30_0
     try clear hcz36_0
     try clear hcz8_0
     try clear hfz14_0
     try clear hfz19_0
     try clear hfz23_0
     try clear hfz28_0
     try clear hfz30_0
     try clear hfz36_0
     try clear hfz8_0
     try clear hx227_0
     try clear hx227_1
     try clear hx227_2
     try clear hx227_3
     try clear hx227_4
     try clear hx227_5
     try clear hx227_6
     try clear p2
     try clear p227
     try clear q227
     obtain ⟨x9_2, x10_2, rfl, HA, HK2, HO_8, HO_9, HO_226000, BK220, BK221, BK225, HB⟩ := hrel
     cases gk with
     | zero => exact absurd HA.out (by simp [spec_DomDelete.l0])
     | succ k2 =>
      have H := HA.out
      clear HA
      simp only [spec_DomDelete.l0] at H
      by_cases c40 : x10_2 < (t228.length : Int)
      ·rw [if_pos c40] at H
       have c40b0 : decide (x10_2 < (t228.length : Int)) = true := decide_eq_true c40
       clear c40
       obtain ⟨c41b0, H⟩ := ifd_ H
       by_cases c42 : (rd t228 x10_2) = a1
       ·rw [if_pos c42] at H
        have c42b0 : ((rd t228 x10_2) == a1) = true := beq_iff_eq.mpr c42
        have c42b1 : ((rd t228 x10_2) != a1) = false := bne_eq_false_iff_eq.mpr c42
        clear c42
        obtain ⟨t235, A43, H⟩ := bnd_ H
        obtain ⟨c44, H⟩ := ifs_ H
        have LMc44 := Aside0.mk c44
        clear c44
        obtain ⟨y238, hy238⟩ : ∃ y_ : List Int, y_ = (x9_2 ++ t235) := ⟨_, rfl⟩
        replace H : (spec_DomDelete.l0 k2 a1 ((rd_T72 l0_0 a1).f2) t228 y238 (wrap64 (x10_2 + 1)) l0_0 t222) = some (r1, r2) := by first | (rw [hy238]; with_reducible exact H) | (have H2_ := (Option.bind_some _ _).symm.trans H; rw [hy238]; with_reducible exact H2_) | (have H2_ := (Option.bind_some _ _).symm.trans H; with_reducible exact H2_) | with_reducible exact H | (rw [hy238]; exact H) | exact H
        have Ny238 := Aside0.mk hy238
        clear hy238
        have H' := Aside0.mk H
        clear H
        obtain ⟨Ao45, co45, eo45⟩ := Kd.R_slice HO_8.out
        subst eo45
        have p234 : 0 ≤ (x10_2 : Int) := odt_
        have q234 : x10_2 < (t228.length : Int) := odt_
        obtain ⟨ad234, e234, hx234_0⟩ := Kd.at_int (Kd.R_reads' HO_8.out).2.2 x10_2 p234 q234
        cases e234
        replace p234 := eq_true p234
        replace q234 := eq_true q234
        have hnb46 := NB220_221.out
        have hnc46 := NB221_220.out
        have hnb47 := NB220_225.out
        have hnc47 := NB225_220.out
        have hcz48_0 : wr.cell? ⟨gb220, 0, none⟩ = some (.slice (some ad227) l0_0.length c0_0) := (blk_cell BK220.out 0).trans rfl
        have hfz48_0 := blk_frozen BK220.out 0
        go_wp2_with (first | ((with_reducible refine gate_callee (f := 68) rfl ?_); refine goesL_ (some 47) rfl rfl Try.func68 (by kernel_rfl) rfl #[.agg #[.slice (some ad227) l0_0.length c0_0], .int .i64 a1] rfl z1_ ?_; (with_reducible refine (spec_l17Kids.calls k2 _ _ l0_0 a1 t235 _ ?side1 ?side2 A43.out).mono ?_); (case side1 => exact z10_); (case side2 => exact HC0_0.out); rintro e w49 ⟨v236, rfl, ho0, hb⟩; refine ⟨_, rfl, ?_⟩; replace HO_226000 := Aside0.mk (Kd.R_below z89_ hb); have HO237 := Aside0.mk (Kd.R_lower (Kd.R_new' (Kd.R_new' ho0 (Kd.R_lt z131_)) (Kd.R_lt z100_)) (below_size z11_)); replace HO_8 := Aside0.mk (Kd.R_elder' z131_ (Kd.R_base ho0) hb); replace HO_9 := Aside0.mk (Kd.R_elder' z100_ (Kd.R_base ho0) hb); replace BK220 := Aside0.mk (blk_below (g := gb220) (o := .cells #[.slice (some ad227) l0_0.length c0_0] 28 (0, 0)) z41_ hb); replace BK221 := Aside0.mk (blk_below (g := gb221) (o := .cells #[.slice none 0 0] 28 (0, 0)) z50_ hb); replace BK225 := Aside0.mk (blk_below (g := gb225) (o := .cells #[.slice Ao11 t222.length co11] 28 (0, 0)) z58_ hb); replace HB := Aside0.mk (below_step z11_ hb); (try clear hb ho0); obtain ⟨Ao51, co51, eo51⟩ := Kd.R_slice HO237.out; subst eo51) | ((with_reducible refine gate_builtin (b := .append) (xs := #[.tmp 44, .tmp 47]) rfl ?_); at_builtin; refine Kd.R_append_rows (Kd.int .i64) (w0 := w) w.heap.size rfl (.tmp 44) (.tmp 47) 49 3 (.int .i64 0) 8 rfl Try.underlying49 info3 rfl (by decide) (by omega) u9 x9_2 t235 _ _ _ (fun k_ => some k_ ≠ (.slice (some ad234) t228.length co45 : Value).ownBlock ∧ some k_ ≠ (.slice Ao51 t235.length co51 : Value).ownBlock) (fun _ => False) rfl rfl ?aO ?aR (fun _ _ h => h) (fun _ h => h.elim) ?aF ?aB ?aS ?aL ?_; (case aR => repeat (first | exact (Kd.R_reads' HO237.out).2.2 | (with_reducible refine Kd.C_alloc ?_ _) | (with_reducible refine Kd.C_drewN ?_ _) | (with_reducible refine Kd.C_drew ?_))); (case aB => exact z162_); (case aF => exact (fun k_ hk => ⟨Kd.fresh' (Kd.R_lt z131_) k_ hk, Kd.fresh' (Kd.R_lt (by (with_reducible repeat (first | apply Kd.R_alloc | apply Kd.R_drewN | apply Kd.R_drew)); exact HO237.out)) k_ hk⟩)); (case aO => exact z237_); (case aS => exact z154_); (case aL => have := LMc44.out; omega); intro v239 w50 ho hb hg hat; rw [← Ny238.out] at ho; replace HO_8 := Aside0.mk (Kd.R_after (ok := (fun k_ => some k_ ≠ (.slice Ao51 t235.length co51 : Value).ownBlock)) (by (with_reducible repeat (first | apply Kd.R_alloc | apply Kd.R_drewN | apply Kd.R_drew)); exact Kd.R_mono HO_8.out (fun _ hk => ⟨hk.2, hk.1⟩)) hg hat); replace HO_226000 := Aside0.mk (Kd.R_over' z89_ (Kd.R_typed z100_) (by decide) hg); replace BK220 := Aside0.mk (blk_grown (g := gb220) (o := .cells #[.slice (some ad227) l0_0.length c0_0] 28 (0, 0)) z41_ hg (Kd.R_ne HO_9.out BK220.out (by decide))); replace BK221 := Aside0.mk (blk_grown (g := gb221) (o := .cells #[.slice none 0 0] 28 (0, 0)) z50_ hg (Kd.R_ne HO_9.out BK221.out (by decide))); replace BK225 := Aside0.mk (blk_grown (g := gb225) (o := .cells #[.slice Ao11 t222.length co11] 28 (0, 0)) z58_ hg (Kd.R_ne HO_9.out BK225.out (by decide))); replace HO237 := Aside0.mk (Kd.R_after (ok := (fun k_ => some k_ ≠ (.slice (some ad234) t228.length co45 : Value).ownBlock)) (by (with_reducible repeat (first | apply Kd.R_alloc | apply Kd.R_drewN | apply Kd.R_drew)); exact Kd.R_mono HO237.out (fun _ hk => ⟨hk.1.2, hk.2⟩)) hg hat); replace HB := Aside0.mk (hb); have HO240 := Aside0.mk (ho); clear HO_9; clear ho hb hg hat))
        go_roundg k2
        case measure => have := HJ3.out; have := HK2.out; omega
        case rel => exact ⟨(y238), (wrap64 (x10_2 + 1)), z12_, H', ⟨by have := HJ3.out; have := HK2.out; omega⟩, ⟨z231_⟩, ⟨by (with_reducible repeat (first | apply Kd.R_alloc | apply Kd.R_drewN | apply Kd.R_drew)); exact Kd.R_mono HO240.out (fun _ hk => hk.1)⟩, ⟨z89_⟩, ⟨z41_⟩, ⟨z50_⟩, ⟨z58_⟩, ⟨z11_⟩⟩
       ·rw [if_neg c42] at H
        have c42b0 : ((rd t228 x10_2) == a1) = false := beq_eq_false_iff_ne.mpr c42
        have c42b1 : ((rd t228 x10_2) != a1) = true := bne_iff_ne.mpr c42
        obtain ⟨c52, H⟩ := ifs_ H
        have LMc52 := Aside0.mk c52
        clear c52
        obtain ⟨y242, hy242⟩ : ∃ y_ : List Int, y_ = (x9_2 ++ [rd t228 x10_2]) := ⟨_, rfl⟩
        replace H : (spec_DomDelete.l0 k2 a1 ((rd_T72 l0_0 a1).f2) t228 y242 (wrap64 (x10_2 + 1)) l0_0 t222) = some (r1, r2) := by first | (rw [hy242]; with_reducible exact H) | (have H2_ := (Option.bind_some _ _).symm.trans H; rw [hy242]; with_reducible exact H2_) | (have H2_ := (Option.bind_some _ _).symm.trans H; with_reducible exact H2_) | with_reducible exact H | (rw [hy242]; exact H) | exact H
        have Ny242 := Aside0.mk hy242
        clear hy242
        have H' := Aside0.mk H
        clear H
        obtain ⟨Ao53, co53, eo53⟩ := Kd.R_slice HO_8.out
        subst eo53
        have p234 : 0 ≤ (x10_2 : Int) := odt_
        have q234 : x10_2 < (t228.length : Int) := odt_
        obtain ⟨ad234, e234, hx234_0⟩ := Kd.at_int (Kd.R_reads' HO_8.out).2.2 x10_2 p234 q234
        cases e234
        replace p234 := eq_true p234
        replace q234 := eq_true q234
        have p241 : 0 ≤ (x10_2 : Int) := odt_
        have q241 : x10_2 < (t228.length : Int) := odt_
        obtain ⟨ad241, e241, hx241_0⟩ := Kd.at_int (Kd.R_reads' HO_8.out).2.2 x10_2 p241 q241
        obtain rfl : ad234 = ad241 := (by injection e241)
        replace p241 := eq_true p241
        replace q241 := eq_true q241
        go_wp2_with (first | ((with_reducible refine gate_builtin (b := .append) (xs := #[.tmp 49, .tmp 54]) rfl ?_); at_builtin; refine Kd.R_append (Kd.int .i64) (w0 := w) w.heap.size rfl (.tmp 49) (.tmp 54) 49 3 (.int .i64 0) 8 rfl Try.underlying49 info3 rfl (by decide) (by omega) u9 x9_2 (rd t228 x10_2) [.int .i64 (rd t228 x10_2)] (fun k_ => some k_ ≠ (.slice (some ad234) t228.length co53 : Value).ownBlock) (fun _ => False) rfl rfl ?aP (fun _ hk => hk.elim) ?aF ?aO ?aB ?aS ?aL ?_; (case aP => exact rfl); (case aB => exact z162_); (case aF => exact (fun k_ hk => Kd.fresh' (Kd.R_lt z131_) k_ hk)); (case aO => exact z237_); (case aS => exact z154_); (case aL => have := LMc52.out; omega); intro v243 w54 ho hb hg hat; rw [← Ny242.out] at ho; replace HO_8 := Aside0.mk (Kd.R_after (ok := (fun _ => True)) (by (with_reducible repeat (first | apply Kd.R_alloc | apply Kd.R_drewN | apply Kd.R_drew)); exact Kd.R_mono HO_8.out (fun _ hk => ⟨trivial, hk⟩)) hg hat); replace HO_226000 := Aside0.mk (Kd.R_over' z89_ (Kd.R_typed z100_) (by decide) hg); replace BK220 := Aside0.mk (blk_grown (g := gb220) (o := .cells #[.slice (some ad227) l0_0.length c0_0] 28 (0, 0)) z41_ hg (Kd.R_ne HO_9.out BK220.out (by decide))); replace BK221 := Aside0.mk (blk_grown (g := gb221) (o := .cells #[.slice none 0 0] 28 (0, 0)) z50_ hg (Kd.R_ne HO_9.out BK221.out (by decide))); replace BK225 := Aside0.mk (blk_grown (g := gb225) (o := .cells #[.slice Ao11 t222.length co11] 28 (0, 0)) z58_ hg (Kd.R_ne HO_9.out BK225.out (by decide))); replace HB := Aside0.mk (hb); have HO244 := Aside0.mk (ho); clear HO_9; clear ho hb hg hat))
        go_roundg k2
        case measure => have := HJ3.out; have := HK2.out; omega
        case rel => exact ⟨(y242), (wrap64 (x10_2 + 1)), z12_, H', ⟨by have := HJ3.out; have := HK2.out; omega⟩, ⟨z231_⟩, ⟨by (with_reducible repeat (first | apply Kd.R_alloc | apply Kd.R_drewN | apply Kd.R_drew)); exact HO244.out⟩, ⟨z89_⟩, ⟨z41_⟩, ⟨z50_⟩, ⟨z58_⟩, ⟨z11_⟩⟩
      ·rw [if_neg c40] at H
       have c40b0 : decide (x10_2 < (t228.length : Int)) = false := decide_eq_false c40
       clear c40
       replace H := Option.bind_eq_some_iff.mp H
       obtain ⟨⟨t245, t246, t247, t248, t249, t250, t251⟩, A550, H⟩ := H
       replace H : (if 0 ≤ a1 then (if a1 < (t222.length : Int) then ((spec_l17Set.f k2 (t222.set (a1 : Int).toNat (⟨t245, t246, t247, t248, t249, t250, t251⟩ : S72)) ((rd_T72 l0_0 a1).f2) x9_2).bind fun t253 => (some (t253, true))) else (none)) else (none)) = some (r1, r2) := H
       have A55 := Aside0.mk A550
       clear A550
       obtain ⟨c56b0, H⟩ := ifd_ H
       obtain ⟨c57b0, H⟩ := ifd_ H
       obtain ⟨y252, hy252⟩ : ∃ y_ : List (S72), y_ = (t222.set (a1 : Int).toNat (⟨t245, t246, t247, t248, t249, t250, t251⟩ : S72)) := ⟨_, rfl⟩
       replace H : ((spec_l17Set.f k2 y252 ((rd_T72 l0_0 a1).f2) x9_2).bind fun t253 => (some (t253, true))) = some (r1, r2) := by first | (rw [hy252]; with_reducible exact H) | (have H2_ := (Option.bind_some _ _).symm.trans H; rw [hy252]; with_reducible exact H2_) | (have H2_ := (Option.bind_some _ _).symm.trans H; with_reducible exact H2_) | with_reducible exact H | (rw [hy252]; exact H) | exact H
       have Ny252 := Aside0.mk hy252
       clear hy252
       obtain ⟨t253, A59, H⟩ := bnd_ H
       simp only [Option.some.injEq, Prod.mk.injEq] at H
       obtain ⟨rfl, rfl⟩ := H
       obtain ⟨Ao60, co60, eo60⟩ := Kd.R_slice HO_8.out
       subst eo60
       try go_wp2
       have n0_ := Aside0.mk (Kd.R_drew HO_8.out)
       have n1_ := Aside0.mk (Kd.R_drew HO_9.out)
       have n2_ := Aside0.mk (Kd.R_drew HO_226000.out)
       have n3_ := Aside0.mk (blk_drew BK220.out)
       have n4_ := Aside0.mk (blk_drew BK221.out)
       have n5_ := Aside0.mk (blk_drew BK225.out)
       have n6_ := Aside0.mk (below_drew1 HB.out)
       clear HO_8
       clear HO_9
       clear HO_226000
       clear BK220
       clear BK221
       clear BK225
       clear HB
       have HO_8 := n0_
       have HO_9 := n1_
       have HO_226000 := n2_
       have BK220 := n3_
       have BK221 := n4_
       have BK225 := n5_
       have HB := n6_
       clear n0_ n1_ n2_ n3_ n4_ n5_ n6_
       refine start_ (n := 6) (S := fun w' => w'.cell? ⟨gb225, 0, none⟩ = some (.slice Ao11 t222.length co11)) (ds := [5]) (fl_ 6 0) (by kernel_rfl) rfl (fl_zero _) ((blk_cell BK225.out 0).trans rfl) (fun hHeld => ?_)
       generalize wr.drew = w61 at HO_8 HO_9 HO_226000 BK220 BK221 BK225 HB hHeld ⊢
       refine pure_ (i := 0) (N := some 56) (v := ?_) (a' := ?_) #[true, false, false, false, false, false] rfl rfl (by kernel_rfl) (fun _ _ _ h => h) (Or.inl ⟨by rfl, ?_⟩) ?_ ?_
       rotate_left
       ·intro w'
        go_simp
        with_reducible rfl
       rotate_left
       ·simp only [Act.put, List.setIfInBounds_toArray, List.set_cons_zero, List.set_cons_succ, i64_w, i32_w]
        rfl
       refine pure_ (i := 2) (N := some 58) (v := ?_) (a' := ?_) #[true, false, true, false, false, false] rfl rfl (by kernel_rfl) (fun _ _ _ h => h) (Or.inl ⟨by rfl, ?_⟩) ?_ ?_
       rotate_left
       ·intro w'
        go_simp
        with_reducible rfl
       rotate_left
       ·simp only [Act.put, List.setIfInBounds_toArray, List.set_cons_zero, List.set_cons_succ, i64_w, i32_w]
        rfl
       refine take_ (i := 1) (N := some 57) (v := ?_) (a' := ?_) #[true, true, true, false, false, false] rfl rfl (by kernel_rfl) (fun _ _ _ h => h) (Or.inl ⟨by rfl, ?_⟩) hHeld ?_ ?_
       rotate_left
       ·intro w' s0
        go_simp
        with_reducible rfl
       rotate_left
       ·simp only [Act.put, List.setIfInBounds_toArray, List.set_cons_zero, List.set_cons_succ, i64_w, i32_w]
        rfl
       refine one_ (i := 3) (N := some 59) (fl_ 6 4) rfl rfl (by kernel_rfl) (by decide) (fun K hK => ?_)
       refine goes_ Try.func62 (by kernel_rfl) rfl #[] (by rfl) rfl rfl z1_ ?_
       with_reducible refine (spec_l16Empty.calls  t245 t246 t247 t248 t249 t250 t251 _ A55.out).mono ?_
       rintro e w62 ⟨rfl, hb⟩
       refine ⟨_, rfl, ?_⟩
       have n0_ := Aside0.mk (Kd.R_below z131_ hb)
       have n1_ := Aside0.mk (Kd.R_below z100_ hb)
       have n2_ := Aside0.mk (Kd.R_below z89_ hb)
       have n3_ := Aside0.mk (blk_below (g := gb220) (o := .cells #[.slice (some ad227) l0_0.length c0_0] 28 (0, 0)) z41_ hb)
       have n4_ := Aside0.mk (blk_below (g := gb221) (o := .cells #[.slice none 0 0] 28 (0, 0)) z50_ hb)
       have n5_ := Aside0.mk (blk_below (g := gb225) (o := .cells #[.slice Ao11 t222.length co11] 28 (0, 0)) z58_ hb)
       have n6_ := Aside0.mk (below_step z11_ hb)
       clear HO_8
       clear HO_9
       clear HO_226000
       clear BK220
       clear BK221
       clear BK225
       clear HB
       have HO_8 := n0_
       have HO_9 := n1_
       have HO_226000 := n2_
       have BK220 := n3_
       have BK221 := n4_
       have BK225 := n5_
       have HB := n6_
       clear n0_ n1_ n2_ n3_ n4_ n5_ n6_
       (try clear hb)
       (try clear hb2)
       (try clear hk)
       (try clear hi)
       have p58 : 0 ≤ (a1 : Int) := odt_
       have q58 : (a1 : Int) < ((t222.length : Int) : Int) := odt_
       obtain ⟨go58, co58, eo58, gb58, gl58, cl58, HG58⟩ := Kd.R_form HO_226000.out (by omega)
       (first | cases eo58 | (injection eo58 with ea_ en_ ec_; (first | subst ea_ | (injection ea_ with ea_; subst ea_)); subst ec_; clear en_))
       have GB58 := Aside0.mk gb58
       have GG58 := Aside0.mk HG58
       clear gb58 gl58 HG58
       obtain ⟨ce58, hcl58, hM58, hcc58, hfr58⟩ := Kd.R_elem HO_226000.out z72 (a1 : Int) p58 q58
       obtain rfl := k72_openM hM58
       have hx58_0 : World.cell? _ ⟨go58, (a1 : Int).toNat * 7, none⟩ = some (.bool ((rd_T72 t222 a1).f0)) := hcc58 0 _ rfl
       have hx58_1 : World.cell? _ ⟨go58, (a1 : Int).toNat * 7 + 1, none⟩ = some (.int .i64 ((rd_T72 t222 a1).f1)) := hcc58 1 _ rfl
       have hx58_2 : World.cell? _ ⟨go58, (a1 : Int).toNat * 7 + 2, none⟩ = some (.int .i64 ((rd_T72 t222 a1).f2)) := hcc58 2 _ rfl
       have hx58_3 : World.cell? _ ⟨go58, (a1 : Int).toNat * 7 + 3, none⟩ = some (.int .i64 ((rd_T72 t222 a1).f3)) := hcc58 3 _ rfl
       have hx58_4 : World.cell? _ ⟨go58, (a1 : Int).toNat * 7 + 4, none⟩ = some (.int .i64 ((rd_T72 t222 a1).f4)) := hcc58 4 _ rfl
       have hx58_5 : World.cell? _ ⟨go58, (a1 : Int).toNat * 7 + 5, none⟩ = some (.int .i64 ((rd_T72 t222 a1).f5)) := hcc58 5 _ rfl
       have hx58_6 : World.cell? _ ⟨go58, (a1 : Int).toNat * 7 + 6, none⟩ = some (.int .i64 ((rd_T72 t222 a1).f6)) := hcc58 6 _ rfl
       have hf58_0 : World.frozen? _ ⟨go58, (a1 : Int).toNat * 7, none⟩ = false := hfr58 0
       have hf58_1 : World.frozen? _ ⟨go58, (a1 : Int).toNat * 7 + 1, none⟩ = false := hfr58 1
       have hf58_2 : World.frozen? _ ⟨go58, (a1 : Int).toNat * 7 + 2, none⟩ = false := hfr58 2
       have hf58_3 : World.frozen? _ ⟨go58, (a1 : Int).toNat * 7 + 3, none⟩ = false := hfr58 3
       have hf58_4 : World.frozen? _ ⟨go58, (a1 : Int).toNat * 7 + 4, none⟩ = false := hfr58 4
       have hf58_5 : World.frozen? _ ⟨go58, (a1 : Int).toNat * 7 + 5, none⟩ = false := hfr58 5
       have hf58_6 : World.frozen? _ ⟨go58, (a1 : Int).toNat * 7 + 6, none⟩ = false := hfr58 6
       clear hcl58 hcc58 hfr58 hM58
       replace p58 := eq_true p58
       replace q58 := eq_true q58
       obtain ⟨ce63, hcl63, hM63, hcc63, hfr63⟩ := Kd.R_elem HO_226000.out z72 (a1 : Int) (odt_) (by have h_ : (a1 : Int) < ((t222.length : Int) : Int) := odt_; first | exact h_ | (have e_ := (Kd.R_reads' HO_226000.out).1; omega) | simpa using h_)
       obtain rfl := k72_openM hM63
       have HP63 := (Kd.R_seg HO_226000.out (a1 : Int) (odt_) (by have h_ : (a1 : Int) < ((t222.length : Int) : Int) := odt_; first | exact h_ | (have e_ := (Kd.R_reads' HO_226000.out).1; omega) | simpa using h_) (seg := [.bool t245, .int .i64 t246, .int .i64 t247, .int .i64 t248, .int .i64 t249, .int .i64 t250, .int .i64 t251]) (j := 0) hcl63 hcc63 (show 7 ≤ 7 from by decide) (x' := (⟨t245, t246, t247, t248, t249, t250, t251⟩ : S72)) (k72_mkM _ _ _ (⟨t245, t246, t247, t248, t249, t250, t251⟩ : S72) ) (fun _ hk => hk)).1
       rw [← Ny252.out] at HP63
       have HQ63 := Aside0.mk HP63
       clear hcl63 hcc63 hfr63 hM63 HP63
       refine hK.out _ _ ((blk_cell BK225.out 0).trans rfl) (fun hHeld => ?_)
       clear hK K
       refine zn_ rfl ?_
       refine pure_ (i := 4) (N := some 60) (v := ?_) (a' := ?_) #[true, true, true, true, true, false] rfl rfl (by kernel_rfl) (fun _ _ _ h => h) (Or.inl ⟨by rfl, ?_⟩) ?_ ?_
       rotate_left
       ·intro w'
        go_simp
        with_reducible rfl
       rotate_left
       ·simp only [Act.put, List.setIfInBounds_toArray, List.set_cons_zero, List.set_cons_succ, i64_w, i32_w]
        rfl
       refine last_ (i := 5) (N := none) (fl_ 6 6) rfl rfl (by kernel_rfl) (by decide) (fun K hK => ?_)
       refine skip_ (w1 := ?_) (by rfl) rfl ?_ ?_
       rotate_left
       ·go_simp
        rfl
       refine hK.out _ _ ?_
       clear hK K
       refine done_ (by kernel_rfl) ?_
       have n0_ : Aside0 (Kd.R (Kd.int .i64) 3 (((((((w62.setCell ⟨go58, (a1 : Int).toNat * 7, none⟩ (.bool t245)).setCell ⟨go58, (a1 : Int).toNat * 7 + 1, none⟩ (.int .i64 t246)).setCell ⟨go58, (a1 : Int).toNat * 7 + 2, none⟩ (.int .i64 t247)).setCell ⟨go58, (a1 : Int).toNat * 7 + 3, none⟩ (.int .i64 t248)).setCell ⟨go58, (a1 : Int).toNat * 7 + 4, none⟩ (.int .i64 t249)).setCell ⟨go58, (a1 : Int).toNat * 7 + 5, none⟩ (.int .i64 t250)).setCell ⟨go58, (a1 : Int).toNat * 7 + 6, none⟩ (.int .i64 t251)) w.heap.size (fun k_ => some k_ ≠ (u9 : Value).ownBlock) (.slice Ao60 t228.length co60) t228) := ⟨by (with_reducible repeat (first | apply Kd.R_alloc | apply Kd.R_drewN | apply Kd.R_drew)); exact Kd.R_mono (Kd.R_far (p := ⟨go58, (a1 : Int).toNat * 7 + 6, none⟩) (Kd.R_far (p := ⟨go58, (a1 : Int).toNat * 7 + 5, none⟩) (Kd.R_far (p := ⟨go58, (a1 : Int).toNat * 7 + 4, none⟩) (Kd.R_far (p := ⟨go58, (a1 : Int).toNat * 7 + 3, none⟩) (Kd.R_far (p := ⟨go58, (a1 : Int).toNat * 7 + 2, none⟩) (Kd.R_far (p := ⟨go58, (a1 : Int).toNat * 7 + 1, none⟩) (Kd.R_far (p := ⟨go58, (a1 : Int).toNat * 7, none⟩) (Kd.R_types HO_8.out GG58.out (by decide)) (fun _ hk => hk.2) (.bool t245)) (fun _ hk => hk.2) (.int .i64 t246)) (fun _ hk => hk.2) (.int .i64 t247)) (fun _ hk => hk.2) (.int .i64 t248)) (fun _ hk => hk.2) (.int .i64 t249)) (fun _ hk => hk.2) (.int .i64 t250)) (fun _ hk => hk.2) (.int .i64 t251)) (fun _ hk => hk.1)⟩
       have n1_ : Aside0 (Kd.R (Kd.int .i64) 3 (((((((w62.setCell ⟨go58, (a1 : Int).toNat * 7, none⟩ (.bool t245)).setCell ⟨go58, (a1 : Int).toNat * 7 + 1, none⟩ (.int .i64 t246)).setCell ⟨go58, (a1 : Int).toNat * 7 + 2, none⟩ (.int .i64 t247)).setCell ⟨go58, (a1 : Int).toNat * 7 + 3, none⟩ (.int .i64 t248)).setCell ⟨go58, (a1 : Int).toNat * 7 + 4, none⟩ (.int .i64 t249)).setCell ⟨go58, (a1 : Int).toNat * 7 + 5, none⟩ (.int .i64 t250)).setCell ⟨go58, (a1 : Int).toNat * 7 + 6, none⟩ (.int .i64 t251)) w.heap.size (fun k_ => some k_ ≠ (.slice Ao60 t228.length co60 : Value).ownBlock) u9 x9_2) := ⟨by (with_reducible repeat (first | apply Kd.R_alloc | apply Kd.R_drewN | apply Kd.R_drew)); exact Kd.R_mono (Kd.R_far (p := ⟨go58, (a1 : Int).toNat * 7 + 6, none⟩) (Kd.R_far (p := ⟨go58, (a1 : Int).toNat * 7 + 5, none⟩) (Kd.R_far (p := ⟨go58, (a1 : Int).toNat * 7 + 4, none⟩) (Kd.R_far (p := ⟨go58, (a1 : Int).toNat * 7 + 3, none⟩) (Kd.R_far (p := ⟨go58, (a1 : Int).toNat * 7 + 2, none⟩) (Kd.R_far (p := ⟨go58, (a1 : Int).toNat * 7 + 1, none⟩) (Kd.R_far (p := ⟨go58, (a1 : Int).toNat * 7, none⟩) (Kd.R_types HO_9.out GG58.out (by decide)) (fun _ hk => hk.2) (.bool t245)) (fun _ hk => hk.2) (.int .i64 t246)) (fun _ hk => hk.2) (.int .i64 t247)) (fun _ hk => hk.2) (.int .i64 t248)) (fun _ hk => hk.2) (.int .i64 t249)) (fun _ hk => hk.2) (.int .i64 t250)) (fun _ hk => hk.2) (.int .i64 t251)) (fun _ hk => hk.1)⟩
       have n2_ : Aside0 (Kd.R k72 72 (((((((w62.setCell ⟨go58, (a1 : Int).toNat * 7, none⟩ (.bool t245)).setCell ⟨go58, (a1 : Int).toNat * 7 + 1, none⟩ (.int .i64 t246)).setCell ⟨go58, (a1 : Int).toNat * 7 + 2, none⟩ (.int .i64 t247)).setCell ⟨go58, (a1 : Int).toNat * 7 + 3, none⟩ (.int .i64 t248)).setCell ⟨go58, (a1 : Int).toNat * 7 + 4, none⟩ (.int .i64 t249)).setCell ⟨go58, (a1 : Int).toNat * 7 + 5, none⟩ (.int .i64 t250)).setCell ⟨go58, (a1 : Int).toNat * 7 + 6, none⟩ (.int .i64 t251)) w.heap.size (fun _ => True) (.slice (some ⟨go58, 0, none⟩) t222.length co11) y252) := ⟨by (with_reducible repeat (first | apply Kd.R_alloc | apply Kd.R_drewN | apply Kd.R_drew)); exact HQ63.out⟩
       have n3_ : Aside0 ((((((((w62.setCell ⟨go58, (a1 : Int).toNat * 7, none⟩ (.bool t245)).setCell ⟨go58, (a1 : Int).toNat * 7 + 1, none⟩ (.int .i64 t246)).setCell ⟨go58, (a1 : Int).toNat * 7 + 2, none⟩ (.int .i64 t247)).setCell ⟨go58, (a1 : Int).toNat * 7 + 3, none⟩ (.int .i64 t248)).setCell ⟨go58, (a1 : Int).toNat * 7 + 4, none⟩ (.int .i64 t249)).setCell ⟨go58, (a1 : Int).toNat * 7 + 5, none⟩ (.int .i64 t250)).setCell ⟨go58, (a1 : Int).toNat * 7 + 6, none⟩ (.int .i64 t251)).heap[gb220]? = some (.cells #[.slice (some ad227) l0_0.length c0_0] 28 (0, 0))) := ⟨by (with_reducible repeat (first | refine blk_drewN ?_ _ | refine blk_drew ?_ | refine blk_alloc ?_ _)); refine blk_far ?_ z107_ _; (with_reducible repeat (first | refine blk_drewN ?_ _ | refine blk_drew ?_ | refine blk_alloc ?_ _)); refine blk_far ?_ z107_ _; (with_reducible repeat (first | refine blk_drewN ?_ _ | refine blk_drew ?_ | refine blk_alloc ?_ _)); refine blk_far ?_ z107_ _; (with_reducible repeat (first | refine blk_drewN ?_ _ | refine blk_drew ?_ | refine blk_alloc ?_ _)); refine blk_far ?_ z107_ _; (with_reducible repeat (first | refine blk_drewN ?_ _ | refine blk_drew ?_ | refine blk_alloc ?_ _)); refine blk_far ?_ z107_ _; (with_reducible repeat (first | refine blk_drewN ?_ _ | refine blk_drew ?_ | refine blk_alloc ?_ _)); refine blk_far ?_ z107_ _; (with_reducible repeat (first | refine blk_drewN ?_ _ | refine blk_drew ?_ | refine blk_alloc ?_ _)); refine blk_far ?_ z107_ _; (with_reducible repeat (first | refine blk_drewN ?_ _ | refine blk_drew ?_ | refine blk_alloc ?_ _)); exact BK220.out⟩
       have n4_ : Aside0 ((((((((w62.setCell ⟨go58, (a1 : Int).toNat * 7, none⟩ (.bool t245)).setCell ⟨go58, (a1 : Int).toNat * 7 + 1, none⟩ (.int .i64 t246)).setCell ⟨go58, (a1 : Int).toNat * 7 + 2, none⟩ (.int .i64 t247)).setCell ⟨go58, (a1 : Int).toNat * 7 + 3, none⟩ (.int .i64 t248)).setCell ⟨go58, (a1 : Int).toNat * 7 + 4, none⟩ (.int .i64 t249)).setCell ⟨go58, (a1 : Int).toNat * 7 + 5, none⟩ (.int .i64 t250)).setCell ⟨go58, (a1 : Int).toNat * 7 + 6, none⟩ (.int .i64 t251)).heap[gb221]? = some (.cells #[.slice none 0 0] 28 (0, 0))) := ⟨by (with_reducible repeat (first | refine blk_drewN ?_ _ | refine blk_drew ?_ | refine blk_alloc ?_ _)); refine blk_far ?_ z108_ _; (with_reducible repeat (first | refine blk_drewN ?_ _ | refine blk_drew ?_ | refine blk_alloc ?_ _)); refine blk_far ?_ z108_ _; (with_reducible repeat (first | refine blk_drewN ?_ _ | refine blk_drew ?_ | refine blk_alloc ?_ _)); refine blk_far ?_ z108_ _; (with_reducible repeat (first | refine blk_drewN ?_ _ | refine blk_drew ?_ | refine blk_alloc ?_ _)); refine blk_far ?_ z108_ _; (with_reducible repeat (first | refine blk_drewN ?_ _ | refine blk_drew ?_ | refine blk_alloc ?_ _)); refine blk_far ?_ z108_ _; (with_reducible repeat (first | refine blk_drewN ?_ _ | refine blk_drew ?_ | refine blk_alloc ?_ _)); refine blk_far ?_ z108_ _; (with_reducible repeat (first | refine blk_drewN ?_ _ | refine blk_drew ?_ | refine blk_alloc ?_ _)); refine blk_far ?_ z108_ _; (with_reducible repeat (first | refine blk_drewN ?_ _ | refine blk_drew ?_ | refine blk_alloc ?_ _)); exact BK221.out⟩
       have n5_ : Aside0 ((((((((w62.setCell ⟨go58, (a1 : Int).toNat * 7, none⟩ (.bool t245)).setCell ⟨go58, (a1 : Int).toNat * 7 + 1, none⟩ (.int .i64 t246)).setCell ⟨go58, (a1 : Int).toNat * 7 + 2, none⟩ (.int .i64 t247)).setCell ⟨go58, (a1 : Int).toNat * 7 + 3, none⟩ (.int .i64 t248)).setCell ⟨go58, (a1 : Int).toNat * 7 + 4, none⟩ (.int .i64 t249)).setCell ⟨go58, (a1 : Int).toNat * 7 + 5, none⟩ (.int .i64 t250)).setCell ⟨go58, (a1 : Int).toNat * 7 + 6, none⟩ (.int .i64 t251)).heap[gb225]? = some (.cells #[.slice (some ⟨go58, 0, none⟩) t222.length co11] 28 (0, 0))) := ⟨by (with_reducible repeat (first | refine blk_drewN ?_ _ | refine blk_drew ?_ | refine blk_alloc ?_ _)); refine blk_far ?_ z109_ _; (with_reducible repeat (first | refine blk_drewN ?_ _ | refine blk_drew ?_ | refine blk_alloc ?_ _)); refine blk_far ?_ z109_ _; (with_reducible repeat (first | refine blk_drewN ?_ _ | refine blk_drew ?_ | refine blk_alloc ?_ _)); refine blk_far ?_ z109_ _; (with_reducible repeat (first | refine blk_drewN ?_ _ | refine blk_drew ?_ | refine blk_alloc ?_ _)); refine blk_far ?_ z109_ _; (with_reducible repeat (first | refine blk_drewN ?_ _ | refine blk_drew ?_ | refine blk_alloc ?_ _)); refine blk_far ?_ z109_ _; (with_reducible repeat (first | refine blk_drewN ?_ _ | refine blk_drew ?_ | refine blk_alloc ?_ _)); refine blk_far ?_ z109_ _; (with_reducible repeat (first | refine blk_drewN ?_ _ | refine blk_drew ?_ | refine blk_alloc ?_ _)); refine blk_far ?_ z109_ _; (with_reducible repeat (first | refine blk_drewN ?_ _ | refine blk_drew ?_ | refine blk_alloc ?_ _)); exact BK225.out⟩
       have n6_ : Aside0 (Below w.heap.size w (((((((w62.setCell ⟨go58, (a1 : Int).toNat * 7, none⟩ (.bool t245)).setCell ⟨go58, (a1 : Int).toNat * 7 + 1, none⟩ (.int .i64 t246)).setCell ⟨go58, (a1 : Int).toNat * 7 + 2, none⟩ (.int .i64 t247)).setCell ⟨go58, (a1 : Int).toNat * 7 + 3, none⟩ (.int .i64 t248)).setCell ⟨go58, (a1 : Int).toNat * 7 + 4, none⟩ (.int .i64 t249)).setCell ⟨go58, (a1 : Int).toNat * 7 + 5, none⟩ (.int .i64 t250)).setCell ⟨go58, (a1 : Int).toNat * 7 + 6, none⟩ (.int .i64 t251))) := ⟨by repeat (first | (with_reducible first | exact HB.out | apply below_alloc | apply pw_below_drewN | apply below_drew1 | refine below_set ?_ GB58.out | refine below_set ?_ GB58.out | refine below_set ?_ GB58.out | refine below_set ?_ GB58.out | refine below_set ?_ GB58.out | refine below_set ?_ GB58.out | refine below_set ?_ GB58.out | refine below_set ?_ GE220.out | refine below_set ?_ GE221.out | refine below_set ?_ GE225.out) | exact HB.out)⟩
       (try clear HO_8)
       (try clear HO_9)
       (try clear HO_226000)
       (try clear BK220)
       (try clear BK221)
       (try clear BK225)
       (try clear HB)
       generalize (((((((w62.setCell ⟨go58, (a1 : Int).toNat * 7, none⟩ (.bool t245)).setCell ⟨go58, (a1 : Int).toNat * 7 + 1, none⟩ (.int .i64 t246)).setCell ⟨go58, (a1 : Int).toNat * 7 + 2, none⟩ (.int .i64 t247)).setCell ⟨go58, (a1 : Int).toNat * 7 + 3, none⟩ (.int .i64 t248)).setCell ⟨go58, (a1 : Int).toNat * 7 + 4, none⟩ (.int .i64 t249)).setCell ⟨go58, (a1 : Int).toNat * 7 + 5, none⟩ (.int .i64 t250)).setCell ⟨go58, (a1 : Int).toNat * 7 + 6, none⟩ (.int .i64 t251)) = w64 at n0_ n1_ n2_ n3_ n4_ n5_ n6_ ⊢
       have HO_8 := n0_
       have HO_9 := n1_
       have HO_226000 := n2_
       have BK220 := n3_
       have BK221 := n4_
       have BK225 := n5_
       have HB := n6_
       clear n0_ n1_ n2_ n3_ n4_ n5_ n6_
       have hnb65 := NB225_220.out
       have hnc65 := NB220_225.out
       have hnb66 := NB225_221.out
       have hnc66 := NB221_225.out
       have hcz67_0 : w64.cell? ⟨gb225, 0, none⟩ = some (.slice (some ⟨go58, 0, none⟩) t222.length co11) := (blk_cell BK225.out 0).trans rfl
       have hfz67_0 := blk_frozen BK225.out 0
       obtain ⟨Ao68, co68, eo68⟩ := Kd.R_slice HO_9.out
       subst eo68
       try go_wp2_with (first | ((with_reducible refine gate_callee (f := 69) rfl ?_); refine goesL_ (some 64) rfl rfl Try.func69 (by kernel_rfl) rfl #[.agg #[.slice (some ⟨go58, 0, none⟩) t222.length co11], .int .i64 ((rd_T72 l0_0 a1).f2), .slice Ao68 x9_2.length co68] rfl z1_ ?_; (with_reducible refine (spec_l17Set.calls k2 (fun k_ => some k_ = (.slice (some ⟨go58, 0, none⟩) t222.length co11 : Value).ownBlock) (.slice (some ⟨go58, 0, none⟩) t222.length co11) y252 ((rd_T72 l0_0 a1).f2) _ _ x9_2 t253 w _ ?side1 ?side2 ?side3 ?side4 A59.out).mono ?_); (case side1 => exact z11_); (case side2 => exact Kd.R_tight rfl HO_226000.out); (case side3 => exact Kd.C_kept_own ((Kd.R_apart' HO_9.out (Kd.R_typed HO_226000.out) (by decide))) (fun k_ hk_ hs_ => (hk_.2) hs_)); (case side4 => exact (Kd.R_reads' HO_9.out).2.1); rintro e w69 ⟨rfl, hy0, hb, hkp⟩; refine ⟨_, rfl, ?_⟩; replace HO_8 := Aside0.mk (Kd.R_mono (ok' := fun k_ => some k_ ≠ (.slice Ao68 x9_2.length co68 : Value).ownBlock) (Kd.R_keptB ((Kd.R_apart' HO_8.out (Kd.R_typed HO_226000.out) (by decide))) hkp (fun k_ hk_ hs_ => (hk_.2) hs_)) (fun k_ hk_ => hk_.1.1)); replace HO_9 := Aside0.mk (Kd.R_mono (ok' := fun k_ => some k_ ≠ (.slice Ao60 t228.length co60 : Value).ownBlock) (Kd.R_keptB ((Kd.R_apart' HO_9.out (Kd.R_typed HO_226000.out) (by decide))) hkp (fun k_ hk_ hs_ => (hk_.2) hs_)) (fun k_ hk_ => hk_.1.1)); replace BK220 := Aside0.mk (blk_kept z41_ hkp (fun hs_ => (fun e_ => (Kd.R_ne HO_226000.out BK220.out (by decide)) e_) hs_)); replace BK221 := Aside0.mk (blk_kept z50_ hkp (fun hs_ => (fun e_ => (Kd.R_ne HO_226000.out BK221.out (by decide)) e_) hs_)); replace BK225 := Aside0.mk (blk_kept z58_ hkp (fun hs_ => (fun e_ => (Kd.R_ne HO_226000.out BK225.out (by decide)) e_) hs_)); replace HO_226000 := Aside0.mk (Kd.R_reok rfl hy0 (fun k_ e_ => HO_226000.out.1 k_ e_)); replace HB := Aside0.mk (hb); (try clear hb hkp hy0); have hcz70_0 : w69.cell? ⟨gb225, 0, none⟩ = some (.slice (some ⟨go58, 0, none⟩) t222.length co11) := (blk_cell BK225.out 0).trans rfl; have hfz70_0 := blk_frozen BK225.out 0; have hnb71 := NB221_220.out; have hnc71 := NB220_221.out; have hcz72_0 : w69.cell? ⟨gb221, 0, none⟩ = some (.slice none 0 0) := (blk_cell BK221.out 0).trans rfl; have hfz72_0 := blk_frozen BK221.out 0))
       refine bodyPost_ret (results_ct rfl _ _ gb221 28 #[.slice (some ⟨go58, 0, none⟩) t222.length co11] (0, 0) _ rfl z120_ Try.underlying28 rfl (by kernel_rfl)) rfl ?_
       exact ⟨_, z4_, by (with_reducible repeat (first | apply Kd.R_alloc | apply Kd.R_drewN | apply Kd.R_drew)); exact Kd.R_mono (Kd.R_far (p := ⟨gb221, 0, none⟩) (Kd.R_types HO_226000.out BK221.out (by decide)) (fun _ hk => hk.2) (.slice (some ⟨go58, 0, none⟩) t222.length co11)) (fun _ hk => trivial), z11_⟩

/-! ### laws_toDomNode: function 114 -/
def laws_toDomNode.f (a0_0 : Bool) (a0_1 : Int) (a0_2 : Int) (a0_3 : Int) (a0_4 : Int) (a0_5 : Int) (a0_6 : Int) : Option (Bool × Int × Int × Int × Int × Int × Int) := some (a0_0, a0_1, a0_2, a0_3, a0_4, a0_5, a0_6)
set_option maxHeartbeats 8000000 in
set_option maxRecDepth 100000 in
theorem laws_toDomNode.calls (a0_0 : Bool) (a0_1 : Int) (a0_2 : Int) (a0_3 : Int) (a0_4 : Int) (a0_5 : Int) (a0_6 : Int) (r1 : Bool) (r2 : Int) (r3 : Int) (r4 : Int) (r5 : Int) (r6 : Int) (r7 : Int) (w : World) (h : laws_toDomNode.f a0_0 a0_1 a0_2 a0_3 a0_4 a0_5 a0_6 = some (r1, r2, r3, r4, r5, r6, r7)) :
  Calls Try.prog 114 #[.agg #[.bool a0_0, .int .i64 a0_1, .int .i64 a0_2, .int .i64 a0_3, .int .i64 a0_4, .int .i64 a0_5, .int .i64 a0_6]] w fun e w' => e = .returned (.agg #[.bool r1, .int .i64 r2, .int .i64 r3, .int .i64 r4, .int .i64 r5, .int .i64 r6, .int .i64 r7]) ∧ Below w.heap.size w w' := by
 have hu135 := Try.underlying135
 have hu72 := Try.underlying72
 have HB := Aside0.mk (Below.refl w.heap.size w)
 have H : (some (a0_0, a0_1, a0_2, a0_3, a0_4, a0_5, a0_6)) = some (r1, r2, r3, r4, r5, r6, r7) := h
 clear h
 simp only [Option.some.injEq, Prod.mk.injEq] at H
 obtain ⟨rfl, rfl, rfl, rfl, rfl, rfl, rfl⟩ := H
 go_enter Try.func114, Try.ntmps114
 go_wp2_with (first | ((with_reducible refine gate_dst (N := 1) rfl ?_); refine box_event ?hg (N := 1) ?hd (cs := #[.bool a0_0, .int .i64 a0_1, .int .i64 a0_2, .int .i64 a0_3, .int .i64 a0_4, .int .i64 a0_5, .int .i64 a0_6]) (t := 135) ?hr ?_; (case hd => rfl); (case hg => rfl); (case hr => exact z25_); intro gb254 hg w2 hbox hb; have BK254 := Aside0.mk (hbox); have GW254 := Aside0.mk ((by rw [hg]; exact (below_size z0_) : w.heap.size ≤ gb254)); have GE254 := Aside0.mk ((by rw [hg]; exact (below_size z0_) : w.heap.size ≤ gb254)); replace HB := Aside0.mk (below_step z0_ hb); clear hb hbox hg) | ((with_reducible refine gate_dst (N := 2) rfl ?_); refine box_event ?hg (N := 2) ?hd (cs := #[.bool false, .int .i64 0, .int .i64 0, .int .i64 0, .int .i64 0, .int .i64 0, .int .i64 0]) (t := 72) ?hr ?_; (case hd => rfl); (case hg => rfl); (case hr => exact z25_); intro gb255 hg w3 hbox hb; have BK255 := Aside0.mk (hbox); have GW255 := Aside0.mk ((by rw [hg]; exact (below_size z158_) : w.heap.size ≤ gb255)); have GE255 := Aside0.mk ((by rw [hg]; exact (below_size z158_) : w.heap.size ≤ gb255)); replace HB := Aside0.mk (below_step z158_ hb); have NB254_255 := Aside0.mk ((by rw [hg]; exact Nat.ne_of_lt (blk_lt (g := gb254) (o := .cells #[.bool a0_0, .int .i64 a0_1, .int .i64 a0_2, .int .i64 a0_3, .int .i64 a0_4, .int .i64 a0_5, .int .i64 a0_6] 135 (0, 0)) z102_) : gb254 ≠ gb255)); have NB255_254 := Aside0.mk ((by rw [hg]; exact Nat.ne_of_gt (blk_lt (g := gb254) (o := .cells #[.bool a0_0, .int .i64 a0_1, .int .i64 a0_2, .int .i64 a0_3, .int .i64 a0_4, .int .i64 a0_5, .int .i64 a0_6] 135 (0, 0)) z102_) : gb255 ≠ gb254)); replace BK254 := Aside0.mk (blk_below (g := gb254) (o := .cells #[.bool a0_0, .int .i64 a0_1, .int .i64 a0_2, .int .i64 a0_3, .int .i64 a0_4, .int .i64 a0_5, .int .i64 a0_6] 135 (0, 0)) z102_ hb); clear hb hbox hg) | ((with_reducible refine gate_dst (N := 3) rfl ?_); refine box_event ?hg (N := 3) ?hd (cs := #[.bool false, .int .i64 0, .int .i64 0, .int .i64 0, .int .i64 0, .int .i64 0, .int .i64 0]) (t := 72) ?hr ?_; (case hd => rfl); (case hg => rfl); (case hr => exact z25_); intro gb256 hg w4 hbox hb; have BK256 := Aside0.mk (hbox); have GW256 := Aside0.mk ((by rw [hg]; exact (below_size z114_) : w.heap.size ≤ gb256)); have GE256 := Aside0.mk ((by rw [hg]; exact (below_size z114_) : w.heap.size ≤ gb256)); replace HB := Aside0.mk (below_step z114_ hb); have NB254_256 := Aside0.mk ((by rw [hg]; exact Nat.ne_of_lt (blk_lt (g := gb254) (o := .cells #[.bool a0_0, .int .i64 a0_1, .int .i64 a0_2, .int .i64 a0_3, .int .i64 a0_4, .int .i64 a0_5, .int .i64 a0_6] 135 (0, 0)) z102_) : gb254 ≠ gb256)); have NB256_254 := Aside0.mk ((by rw [hg]; exact Nat.ne_of_gt (blk_lt (g := gb254) (o := .cells #[.bool a0_0, .int .i64 a0_1, .int .i64 a0_2, .int .i64 a0_3, .int .i64 a0_4, .int .i64 a0_5, .int .i64 a0_6] 135 (0, 0)) z102_) : gb256 ≠ gb254)); replace BK254 := Aside0.mk (blk_below (g := gb254) (o := .cells #[.bool a0_0, .int .i64 a0_1, .int .i64 a0_2, .int .i64 a0_3, .int .i64 a0_4, .int .i64 a0_5, .int .i64 a0_6] 135 (0, 0)) z102_ hb); have NB255_256 := Aside0.mk ((by rw [hg]; exact Nat.ne_of_lt (blk_lt (g := gb255) (o := .cells #[.bool false, .int .i64 0, .int .i64 0, .int .i64 0, .int .i64 0, .int .i64 0, .int .i64 0] 72 (0, 0)) z188_) : gb255 ≠ gb256)); have NB256_255 := Aside0.mk ((by rw [hg]; exact Nat.ne_of_gt (blk_lt (g := gb255) (o := .cells #[.bool false, .int .i64 0, .int .i64 0, .int .i64 0, .int .i64 0, .int .i64 0, .int .i64 0] 72 (0, 0)) z188_) : gb256 ≠ gb255)); replace BK255 := Aside0.mk (blk_below (g := gb255) (o := .cells #[.bool false, .int .i64 0, .int .i64 0, .int .i64 0, .int .i64 0, .int .i64 0, .int .i64 0] 72 (0, 0)) z188_ hb); clear hb hbox hg; have hnb5 := NB254_255.out; have hnc5 := NB255_254.out; have hnb6 := NB254_256.out; have hnc6 := NB256_254.out; have hcz7_0 : w4.cell? ⟨gb254, 0, none⟩ = some (.bool a0_0) := (blk_cell BK254.out 0).trans rfl; have hcz7_1 : w4.cell? ⟨gb254, 1, none⟩ = some (.int .i64 a0_1) := (blk_cell BK254.out 1).trans rfl; have hcz7_2 : w4.cell? ⟨gb254, 2, none⟩ = some (.int .i64 a0_2) := (blk_cell BK254.out 2).trans rfl; have hcz7_3 : w4.cell? ⟨gb254, 3, none⟩ = some (.int .i64 a0_3) := (blk_cell BK254.out 3).trans rfl; have hcz7_4 : w4.cell? ⟨gb254, 4, none⟩ = some (.int .i64 a0_4) := (blk_cell BK254.out 4).trans rfl; have hcz7_5 : w4.cell? ⟨gb254, 5, none⟩ = some (.int .i64 a0_5) := (blk_cell BK254.out 5).trans rfl; have hcz7_6 : w4.cell? ⟨gb254, 6, none⟩ = some (.int .i64 a0_6) := (blk_cell BK254.out 6).trans rfl; have hfz7_0 := blk_frozen BK254.out 0; have hfz7_1 := blk_frozen BK254.out 1; have hfz7_2 := blk_frozen BK254.out 2; have hfz7_3 := blk_frozen BK254.out 3; have hfz7_4 := blk_frozen BK254.out 4; have hfz7_5 := blk_frozen BK254.out 5; have hfz7_6 := blk_frozen BK254.out 6; have hnb8 := NB256_255.out; have hnc8 := NB255_256.out; have hcz9_0 : w4.cell? ⟨gb256, 0, none⟩ = some (.bool false) := (blk_cell BK256.out 0).trans rfl; have hcz9_1 : w4.cell? ⟨gb256, 1, none⟩ = some (.int .i64 0) := (blk_cell BK256.out 1).trans rfl; have hcz9_2 : w4.cell? ⟨gb256, 2, none⟩ = some (.int .i64 0) := (blk_cell BK256.out 2).trans rfl; have hcz9_3 : w4.cell? ⟨gb256, 3, none⟩ = some (.int .i64 0) := (blk_cell BK256.out 3).trans rfl; have hcz9_4 : w4.cell? ⟨gb256, 4, none⟩ = some (.int .i64 0) := (blk_cell BK256.out 4).trans rfl; have hcz9_5 : w4.cell? ⟨gb256, 5, none⟩ = some (.int .i64 0) := (blk_cell BK256.out 5).trans rfl; have hcz9_6 : w4.cell? ⟨gb256, 6, none⟩ = some (.int .i64 0) := (blk_cell BK256.out 6).trans rfl; have hfz9_0 := blk_frozen BK256.out 0; have hfz9_1 := blk_frozen BK256.out 1; have hfz9_2 := blk_frozen BK256.out 2; have hfz9_3 := blk_frozen BK256.out 3; have hfz9_4 := blk_frozen BK256.out 4; have hfz9_5 := blk_frozen BK256.out 5; have hfz9_6 := blk_frozen BK256.out 6; have hcz10_0 : w4.cell? ⟨gb255, 0, none⟩ = some (.bool false) := (blk_cell BK255.out 0).trans rfl; have hcz10_1 : w4.cell? ⟨gb255, 1, none⟩ = some (.int .i64 0) := (blk_cell BK255.out 1).trans rfl; have hcz10_2 : w4.cell? ⟨gb255, 2, none⟩ = some (.int .i64 0) := (blk_cell BK255.out 2).trans rfl; have hcz10_3 : w4.cell? ⟨gb255, 3, none⟩ = some (.int .i64 0) := (blk_cell BK255.out 3).trans rfl; have hcz10_4 : w4.cell? ⟨gb255, 4, none⟩ = some (.int .i64 0) := (blk_cell BK255.out 4).trans rfl; have hcz10_5 : w4.cell? ⟨gb255, 5, none⟩ = some (.int .i64 0) := (blk_cell BK255.out 5).trans rfl; have hcz10_6 : w4.cell? ⟨gb255, 6, none⟩ = some (.int .i64 0) := (blk_cell BK255.out 6).trans rfl; have hfz10_0 := blk_frozen BK255.out 0; have hfz10_1 := blk_frozen BK255.out 1; have hfz10_2 := blk_frozen BK255.out 2; have hfz10_3 := blk_frozen BK255.out 3; have hfz10_4 := blk_frozen BK255.out 4; have hfz10_5 := blk_frozen BK255.out 5; have hfz10_6 := blk_frozen BK255.out 6))
 refine bodyPost_ret (results_cell_row rfl _ _ gb255 72 #[.bool a0_0, .int .i64 a0_1, .int .i64 a0_2, .int .i64 a0_3, .int .i64 a0_4, .int .i64 a0_5, .int .i64 a0_6] (0, 0) _ rfl (by (with_reducible repeat (first | refine blk_drewN ?_ _ | refine blk_drew ?_ | refine blk_alloc ?_ _)); refine blk_put (cs := #[.bool a0_0, .int .i64 a0_1, .int .i64 a0_2, .int .i64 a0_3, .int .i64 a0_4, .int .i64 a0_5, .int .i64 0]) ?_ 6 _ rfl; (with_reducible repeat (first | refine blk_drewN ?_ _ | refine blk_drew ?_ | refine blk_alloc ?_ _)); refine blk_put (cs := #[.bool a0_0, .int .i64 a0_1, .int .i64 a0_2, .int .i64 a0_3, .int .i64 a0_4, .int .i64 0, .int .i64 0]) ?_ 5 _ rfl; (with_reducible repeat (first | refine blk_drewN ?_ _ | refine blk_drew ?_ | refine blk_alloc ?_ _)); refine blk_put (cs := #[.bool a0_0, .int .i64 a0_1, .int .i64 a0_2, .int .i64 a0_3, .int .i64 0, .int .i64 0, .int .i64 0]) ?_ 4 _ rfl; (with_reducible repeat (first | refine blk_drewN ?_ _ | refine blk_drew ?_ | refine blk_alloc ?_ _)); refine blk_put (cs := #[.bool a0_0, .int .i64 a0_1, .int .i64 a0_2, .int .i64 0, .int .i64 0, .int .i64 0, .int .i64 0]) ?_ 3 _ rfl; (with_reducible repeat (first | refine blk_drewN ?_ _ | refine blk_drew ?_ | refine blk_alloc ?_ _)); refine blk_put (cs := #[.bool a0_0, .int .i64 a0_1, .int .i64 0, .int .i64 0, .int .i64 0, .int .i64 0, .int .i64 0]) ?_ 2 _ rfl; (with_reducible repeat (first | refine blk_drewN ?_ _ | refine blk_drew ?_ | refine blk_alloc ?_ _)); refine blk_put (cs := #[.bool a0_0, .int .i64 0, .int .i64 0, .int .i64 0, .int .i64 0, .int .i64 0, .int .i64 0]) ?_ 1 _ rfl; (with_reducible repeat (first | refine blk_drewN ?_ _ | refine blk_drew ?_ | refine blk_alloc ?_ _)); refine blk_put (cs := #[.bool false, .int .i64 0, .int .i64 0, .int .i64 0, .int .i64 0, .int .i64 0, .int .i64 0]) ?_ 0 _ rfl; (with_reducible repeat (first | refine blk_drewN ?_ _ | refine blk_drew ?_ | refine blk_alloc ?_ _)); refine blk_far ?_ NB255_256.out _; (with_reducible repeat (first | refine blk_drewN ?_ _ | refine blk_drew ?_ | refine blk_alloc ?_ _)); refine blk_far ?_ NB255_256.out _; (with_reducible repeat (first | refine blk_drewN ?_ _ | refine blk_drew ?_ | refine blk_alloc ?_ _)); refine blk_far ?_ NB255_256.out _; (with_reducible repeat (first | refine blk_drewN ?_ _ | refine blk_drew ?_ | refine blk_alloc ?_ _)); refine blk_far ?_ NB255_256.out _; (with_reducible repeat (first | refine blk_drewN ?_ _ | refine blk_drew ?_ | refine blk_alloc ?_ _)); refine blk_far ?_ NB255_256.out _; (with_reducible repeat (first | refine blk_drewN ?_ _ | refine blk_drew ?_ | refine blk_alloc ?_ _)); refine blk_far ?_ NB255_256.out _; (with_reducible repeat (first | refine blk_drewN ?_ _ | refine blk_drew ?_ | refine blk_alloc ?_ _)); refine blk_far ?_ NB255_256.out _; (with_reducible repeat (first | refine blk_drewN ?_ _ | refine blk_drew ?_ | refine blk_alloc ?_ _)); exact BK255.out) Try.underlying72 rfl (by kernel_rfl)) rfl ?_
 exact ⟨z4_, by repeat (first | (with_reducible first | exact HB.out | apply below_alloc | apply pw_below_drewN | apply below_drew1 | refine below_set ?_ GE254.out | refine below_set ?_ GE255.out | refine below_set ?_ GE256.out) | exact HB.out)⟩

/-! ### laws_toDomNodeS: function 70 -/
def laws_toDomNodeS.l0 : Nat → List (S135) → List (S72) → Int → Option ((List (S72)))
 | 0, _, _, _ => none
 | k + 1, x0, x3, x4 => if x4 < (x0.length : Int) then (if 0 ≤ x4 then ((laws_toDomNode.f ((rd_T135 x0 x4).f0) ((rd_T135 x0 x4).f1) ((rd_T135 x0 x4).f2) ((rd_T135 x0 x4).f3) ((rd_T135 x0 x4).f4) ((rd_T135 x0 x4).f5) ((rd_T135 x0 x4).f6)).bind fun bt261 => (if x4 < (x3.length : Int) then (laws_toDomNodeS.l0 k x0 (x3.set (x4 : Int).toNat (⟨bt261.1, bt261.2.1, bt261.2.2.1, bt261.2.2.2.1, bt261.2.2.2.2.1, bt261.2.2.2.2.2.1, bt261.2.2.2.2.2.2⟩ : S72)) (wrap64 (x4 + 1))) else (none))) else (none)) else (some x3)
def laws_toDomNodeS.f (k : Nat) (l0 : List (S135)) : Option ((List (S72))) := if 0 ≤ (l0.length : Int) then (if ((l0.length : Int) : Int).toNat ≤ 5026338869833 then (laws_toDomNodeS.l0 k l0 (List.replicate ((l0.length : Int) : Int).toNat z72) 0) else (none)) else (none)
set_option maxHeartbeats 8000000 in
set_option maxRecDepth 100000 in
theorem laws_toDomNodeS.calls (k : Nat) (A0 : Option Addr) (c0 : Nat) (l0 : List (S135)) (r : List (S72)) (w : World) (hr0 : Kd.C k135 w A0 l0.length l0) (hc0 : l0.length ≤ c0) (h : laws_toDomNodeS.f k l0 = some r) :
  Calls Try.prog 70 #[.slice A0 l0.length c0] w fun e w' => ∃ v0_ : Value, e = .returned (v0_) ∧ Kd.R k72 72 w' w.heap.size (fun _ => True) v0_ r ∧ Below w.heap.size w w' := by
 have hu135 := Try.underlying135
 have hu72 := Try.underlying72
 have HR0 := Aside0.mk hr0
 have HC0 := Aside0.mk hc0
 clear hr0 hc0
 have HB := Aside0.mk (Below.refl w.heap.size w)
 have H : (if 0 ≤ (l0.length : Int) then (if ((l0.length : Int) : Int).toNat ≤ 5026338869833 then (laws_toDomNodeS.l0 k l0 (List.replicate ((l0.length : Int) : Int).toNat z72) 0) else (none)) else (none)) = some r := h
 clear h
 obtain ⟨c2b0, c2b1, H⟩ := ife_ H
 obtain ⟨c3b0, c3b1, H⟩ := ife_ H
 obtain ⟨y257, hy257⟩ : ∃ y_ : List (S72), y_ = (List.replicate ((l0.length : Int) : Int).toNat z72) := ⟨_, rfl⟩
 replace H : (laws_toDomNodeS.l0 k l0 y257 0) = some r := by first | (rw [hy257]; with_reducible exact H) | (have H2_ := (Option.bind_some _ _).symm.trans H; rw [hy257]; with_reducible exact H2_) | (have H2_ := (Option.bind_some _ _).symm.trans H; with_reducible exact H2_) | with_reducible exact H | (rw [hy257]; exact H) | exact H
 have Ny257 := Aside0.mk hy257
 clear hy257
 have H' := Aside0.mk H
 clear H
 go_enter Try.func70, Try.ntmps70
 go_wp2_with (first | ((with_reducible refine gate_dst (N := 7) rfl ?_); refine Kd.R_make k72 _ 72 rfl (N := 7) rfl 26 _ _ rfl (l0.length : Int) rfl rfl Try.underlying26 (.agg #[(.bool false), (.int .i64 0), (.int .i64 0), (.int .i64 0), (.int .i64 0), (.int .i64 0), (.int .i64 0)]) 56 info72 rfl (by decide) (by omega) z72 (ok := fun _ => True) (okp := fun _ => True) (k72_mkM _ _ _ z72 ) (fun _ hk => hk) trivial (odt_) (Nat.le_trans (Nat.mul_le_mul_right _ (odt_ : (l0.length : Int).toNat ≤ 5026338869833)) (by omega)) (Below.refl _ _) (Nat.le_refl _) ?_; intro v258 w4 ho5 hb hg_ hnew_; clear hg_ hnew_; (first | rw [← Ny257.out] at ho5 | (simp only [Int.reduceToNat] at ho5; rw [← Ny257.out] at ho5)); have HO259 := Aside0.mk (Kd.R_lower ho5 (below_size z0_)); replace HB := Aside0.mk (below_step z0_ hb); clear hb ho5))
 go_loopg [4] k (fun kq v4 w' => ∃ (x3_1 : List (S72)) (x4_1 : Int), v4 = .int .i64 x4_1 ∧ Aside0 (laws_toDomNodeS.l0 kq l0 x3_1 x4_1 = some r) ∧ Aside0 (kq ≤ k) ∧ Aside0 (Kd.R k72 72 w' w.heap.size (fun _ => True) v258 x3_1) ∧ Aside0 (Below w.heap.size w w'))
 case atStart => exact ⟨(y257), (0), z12_, H', ⟨Nat.le_refl _⟩, ⟨by (with_reducible repeat (first | apply Kd.R_alloc | apply Kd.R_drewN | apply Kd.R_drew)); exact HO259.out⟩, ⟨z0_⟩⟩
 case round =>
  clear H'
  try clear c2
  try clear c2b0
  try clear c2b1
  try clear p2
  try clear c3
  try clear c3b0
  try clear c3b1
  obtain ⟨x3_1, x4_1, rfl, HA, HK1, HO_3, HB⟩ := hrel
  cases gk with
  | zero => exact absurd HA.out (by simp [laws_toDomNodeS.l0])
  | succ k1 =>
   have H := HA.out
   clear HA
   simp only [laws_toDomNodeS.l0] at H
   by_cases c6 : x4_1 < (l0.length : Int)
   ·rw [if_pos c6] at H
    have c6b0 : decide (x4_1 < (l0.length : Int)) = true := decide_eq_true c6
    clear c6
    obtain ⟨c7b0, H⟩ := ifd_ H
    replace H := Option.bind_eq_some_iff.mp H
    obtain ⟨⟨t261, t262, t263, t264, t265, t266, t267⟩, A80, H⟩ := H
    replace H : (if x4_1 < (x3_1.length : Int) then (laws_toDomNodeS.l0 k1 l0 (x3_1.set (x4_1 : Int).toNat (⟨t261, t262, t263, t264, t265, t266, t267⟩ : S72)) (wrap64 (x4_1 + 1))) else (none)) = some r := H
    have A8 := Aside0.mk A80
    clear A80
    obtain ⟨c9b0, H⟩ := ifd_ H
    obtain ⟨y268, hy268⟩ : ∃ y_ : List (S72), y_ = (x3_1.set (x4_1 : Int).toNat (⟨t261, t262, t263, t264, t265, t266, t267⟩ : S72)) := ⟨_, rfl⟩
    replace H : (laws_toDomNodeS.l0 k1 l0 y268 (wrap64 (x4_1 + 1))) = some r := by first | (rw [hy268]; with_reducible exact H) | (have H2_ := (Option.bind_some _ _).symm.trans H; rw [hy268]; with_reducible exact H2_) | (have H2_ := (Option.bind_some _ _).symm.trans H; with_reducible exact H2_) | with_reducible exact H | (rw [hy268]; exact H) | exact H
    have Ny268 := Aside0.mk hy268
    clear hy268
    have H' := Aside0.mk H
    clear H
    obtain ⟨p260, q260, ad260, e260, hx260_0, hx260_1, hx260_2, hx260_3, hx260_4, hx260_5, hx260_6⟩ := atb135_ HR0 HB x4_1
    cases e260
    go_wp2_with (first | ((with_reducible refine gate_callee (f := 114) rfl ?_); refine goesL_ (some 20) rfl rfl Try.func114 (by kernel_rfl) rfl #[.agg #[.bool ((rd_T135 l0 x4_1).f0), .int .i64 ((rd_T135 l0 x4_1).f1), .int .i64 ((rd_T135 l0 x4_1).f2), .int .i64 ((rd_T135 l0 x4_1).f3), .int .i64 ((rd_T135 l0 x4_1).f4), .int .i64 ((rd_T135 l0 x4_1).f5), .int .i64 ((rd_T135 l0 x4_1).f6)]] rfl z1_ ?_; (with_reducible refine (laws_toDomNode.calls ((rd_T135 l0 x4_1).f0) ((rd_T135 l0 x4_1).f1) ((rd_T135 l0 x4_1).f2) ((rd_T135 l0 x4_1).f3) ((rd_T135 l0 x4_1).f4) ((rd_T135 l0 x4_1).f5) ((rd_T135 l0 x4_1).f6) t261 t262 t263 t264 t265 t266 t267 _ A8.out).mono ?_); rintro e w11 ⟨rfl, hb⟩; refine ⟨_, rfl, ?_⟩; replace HO_3 := Aside0.mk (Kd.R_below z19_ hb); replace HB := Aside0.mk (below_step z0_ hb); (try clear hb); have p10 : 0 ≤ (x4_1 : Int) := odt_; have q10 : (x4_1 : Int) < ((x3_1.length : Int) : Int) := odt_; obtain ⟨go10, co10, eo10, gb10, gl10, cl10, HG10⟩ := Kd.R_form HO_3.out (by omega); (first | cases eo10 | (injection eo10 with ea_ en_ ec_; (first | subst ea_ | (injection ea_ with ea_; subst ea_)); subst ec_; clear en_)); have GB10 := Aside0.mk gb10; have GG10 := Aside0.mk HG10; clear gb10 gl10 HG10; obtain ⟨ce10, hcl10, hM10, hcc10, hfr10⟩ := Kd.R_elem HO_3.out z72 (x4_1 : Int) p10 q10; obtain rfl := k72_openM hM10; have hx10_0 : w11.cell? ⟨go10, (x4_1 : Int).toNat * 7, none⟩ = some (.bool ((rd_T72 x3_1 x4_1).f0)) := hcc10 0 _ rfl; have hx10_1 : w11.cell? ⟨go10, (x4_1 : Int).toNat * 7 + 1, none⟩ = some (.int .i64 ((rd_T72 x3_1 x4_1).f1)) := hcc10 1 _ rfl; have hx10_2 : w11.cell? ⟨go10, (x4_1 : Int).toNat * 7 + 2, none⟩ = some (.int .i64 ((rd_T72 x3_1 x4_1).f2)) := hcc10 2 _ rfl; have hx10_3 : w11.cell? ⟨go10, (x4_1 : Int).toNat * 7 + 3, none⟩ = some (.int .i64 ((rd_T72 x3_1 x4_1).f3)) := hcc10 3 _ rfl; have hx10_4 : w11.cell? ⟨go10, (x4_1 : Int).toNat * 7 + 4, none⟩ = some (.int .i64 ((rd_T72 x3_1 x4_1).f4)) := hcc10 4 _ rfl; have hx10_5 : w11.cell? ⟨go10, (x4_1 : Int).toNat * 7 + 5, none⟩ = some (.int .i64 ((rd_T72 x3_1 x4_1).f5)) := hcc10 5 _ rfl; have hx10_6 : w11.cell? ⟨go10, (x4_1 : Int).toNat * 7 + 6, none⟩ = some (.int .i64 ((rd_T72 x3_1 x4_1).f6)) := hcc10 6 _ rfl; have hf10_0 : w11.frozen? ⟨go10, (x4_1 : Int).toNat * 7, none⟩ = false := hfr10 0; have hf10_1 : w11.frozen? ⟨go10, (x4_1 : Int).toNat * 7 + 1, none⟩ = false := hfr10 1; have hf10_2 : w11.frozen? ⟨go10, (x4_1 : Int).toNat * 7 + 2, none⟩ = false := hfr10 2; have hf10_3 : w11.frozen? ⟨go10, (x4_1 : Int).toNat * 7 + 3, none⟩ = false := hfr10 3; have hf10_4 : w11.frozen? ⟨go10, (x4_1 : Int).toNat * 7 + 4, none⟩ = false := hfr10 4; have hf10_5 : w11.frozen? ⟨go10, (x4_1 : Int).toNat * 7 + 5, none⟩ = false := hfr10 5; have hf10_6 : w11.frozen? ⟨go10, (x4_1 : Int).toNat * 7 + 6, none⟩ = false := hfr10 6; clear hcl10 hcc10 hfr10 hM10; replace p10 := eq_true p10; replace q10 := eq_true q10; have HX12 := Aside0.mk (show Kd.R k72 72 w11 w.heap.size (fun _ => True) (.slice (some ⟨go10, 0, none⟩) x3_1.length co10) x3_1 from z19_); obtain ⟨ce12, hcl12, hM12, hcc12, hfr12⟩ := Kd.R_elem HX12.out z72 (x4_1 : Int) (odt_) (by have h_ : (x4_1 : Int) < ((x3_1.length : Int) : Int) := odt_; first | exact h_ | (have e_ := (Kd.R_reads' HO_3.out).1; omega) | simpa using h_); obtain rfl := k72_openM hM12; have HP12 := Kd.R_seg HX12.out (x4_1 : Int) (odt_) (by have h_ : (x4_1 : Int) < ((x3_1.length : Int) : Int) := odt_; first | exact h_ | (have e_ := (Kd.R_reads' HO_3.out).1; omega) | simpa using h_) (seg := [.bool t261, .int .i64 t262, .int .i64 t263, .int .i64 t264, .int .i64 t265, .int .i64 t266, .int .i64 t267]) (j := 0) hcl12 hcc12 (show 7 ≤ 7 from by decide) (x' := (⟨t261, t262, t263, t264, t265, t266, t267⟩ : S72)) (k72_mkM _ _ _ (⟨t261, t262, t263, t264, t265, t266, t267⟩ : S72) ) (fun _ hk => hk); have hx12_0 := hcc12 0 _ rfl; (try simp only [show (k72).sz = 7 from rfl, Nat.mul_one, Nat.add_zero] at hx12_0); have hf12_0 := hfr12 0; (try simp only [show (k72).sz = 7 from rfl, Nat.mul_one, Nat.add_zero] at hf12_0); have hx12_1 := hcc12 1 _ rfl; (try simp only [show (k72).sz = 7 from rfl, Nat.mul_one, Nat.add_zero] at hx12_1); have hf12_1 := hfr12 1; (try simp only [show (k72).sz = 7 from rfl, Nat.mul_one, Nat.add_zero] at hf12_1); have hx12_2 := hcc12 2 _ rfl; (try simp only [show (k72).sz = 7 from rfl, Nat.mul_one, Nat.add_zero] at hx12_2); have hf12_2 := hfr12 2; (try simp only [show (k72).sz = 7 from rfl, Nat.mul_one, Nat.add_zero] at hf12_2); have hx12_3 := hcc12 3 _ rfl; (try simp only [show (k72).sz = 7 from rfl, Nat.mul_one, Nat.add_zero] at hx12_3); have hf12_3 := hfr12 3; (try simp only [show (k72).sz = 7 from rfl, Nat.mul_one, Nat.add_zero] at hf12_3); have hx12_4 := hcc12 4 _ rfl; (try simp only [show (k72).sz = 7 from rfl, Nat.mul_one, Nat.add_zero] at hx12_4); have hf12_4 := hfr12 4; (try simp only [show (k72).sz = 7 from rfl, Nat.mul_one, Nat.add_zero] at hf12_4); have hx12_5 := hcc12 5 _ rfl; (try simp only [show (k72).sz = 7 from rfl, Nat.mul_one, Nat.add_zero] at hx12_5); have hf12_5 := hfr12 5; (try simp only [show (k72).sz = 7 from rfl, Nat.mul_one, Nat.add_zero] at hf12_5); have hx12_6 := hcc12 6 _ rfl; (try simp only [show (k72).sz = 7 from rfl, Nat.mul_one, Nat.add_zero] at hx12_6); have hf12_6 := hfr12 6; (try simp only [show (k72).sz = 7 from rfl, Nat.mul_one, Nat.add_zero] at hf12_6); clear hcl12 hcc12 hfr12 hM12) | ((with_reducible refine gate_store (t := 72) (p := 21) rfl ?_); refine store_event (t := 72) (p := 21) (v := ?vo_w13) (w1 := (((((((w11.setCell ⟨go10, (x4_1 : Int).toNat * 7, none⟩ (.bool t261)).setCell ⟨go10, (x4_1 : Int).toNat * 7 + 1, none⟩ (.int .i64 t262)).setCell ⟨go10, (x4_1 : Int).toNat * 7 + 2, none⟩ (.int .i64 t263)).setCell ⟨go10, (x4_1 : Int).toNat * 7 + 3, none⟩ (.int .i64 t264)).setCell ⟨go10, (x4_1 : Int).toNat * 7 + 4, none⟩ (.int .i64 t265)).setCell ⟨go10, (x4_1 : Int).toNat * 7 + 5, none⟩ (.int .i64 t266)).setCell ⟨go10, (x4_1 : Int).toNat * 7 + 6, none⟩ (.int .i64 t267))) ?hg ?ho ?hn ?hr ?_; (case ho => rfl); (case hg => rfl); (case hn => rfl); (case hr => exact z25_); intro w13 hw; have hg : w11.grownBy w13 (some go10) := (by rw [hw]; exact HP12.2); have hp_ : Kd.R k72 72 w13 w.heap.size (fun _ => True) (.slice (some ⟨go10, 0, none⟩) x3_1.length co10) y268 := (by rw [hw, Ny268.out]; exact HP12.1); clear HP12; replace HO_3 := Aside0.mk (hp_); replace HB := Aside0.mk ((by rw [hw]; exact below_set (below_set (below_set (below_set (below_set (below_set (below_set (HB.out) GB10.out) GB10.out) GB10.out) GB10.out) GB10.out) GB10.out) GB10.out : Below w.heap.size w w13)); clear hg hw hp_))
    go_roundg k1
    case measure => have := HK1.out; omega
    case rel => exact ⟨(y268), (wrap64 (x4_1 + 1)), z12_, H', ⟨z232_⟩, ⟨z19_⟩, ⟨z0_⟩⟩
   ·rw [if_neg c6] at H
    have c6b0 : decide (x4_1 < (l0.length : Int)) = false := decide_eq_false c6
    clear c6
    obtain rfl := Option.some.inj H
    go_wp2
    go_ret
    exact ⟨_, z4_, z19_, z0_⟩

/-! ### laws_toDom: function 23 -/
def laws_toDom.f (k : Nat) (l0_0 : List (S135)) : Option ((List (S72))) := (laws_toDomNodeS.f k l0_0).bind fun t272 => (some t272)
set_option maxHeartbeats 8000000 in
set_option maxRecDepth 100000 in
theorem laws_toDom.calls (k : Nat) (A0_0 : Option Addr) (c0_0 : Nat) (l0_0 : List (S135)) (r : List (S72)) (w : World) (hr0_0 : Kd.C k135 w A0_0 l0_0.length l0_0) (hc0_0 : l0_0.length ≤ c0_0) (h : laws_toDom.f k l0_0 = some r) :
  Calls Try.prog 23 #[.agg #[.slice A0_0 l0_0.length c0_0]] w fun e w' => ∃ v0_ : Value, e = .returned (.agg #[v0_]) ∧ Kd.R k72 72 w' w.heap.size (fun _ => True) v0_ r ∧ Below w.heap.size w w' := by
 have hu39 := Try.underlying39
 have hu28 := Try.underlying28
 have HR0_0 := Aside0.mk hr0_0
 have HC0_0 := Aside0.mk hc0_0
 clear hr0_0 hc0_0
 have HB := Aside0.mk (Below.refl w.heap.size w)
 have H : ((laws_toDomNodeS.f k l0_0).bind fun t272 => (some t272)) = some r := h
 clear h
 obtain ⟨t272, A2, H⟩ := bnd_ H
 obtain rfl := Option.some.inj H
 go_enter Try.func23, Try.ntmps23
 go_wp2_with (first | ((with_reducible refine gate_dst (N := 1) rfl ?_); refine box_event ?hg (N := 1) ?hd (cs := #[.slice A0_0 l0_0.length c0_0]) (t := 39) ?hr ?_; (case hd => rfl); (case hg => rfl); (case hr => exact z25_); intro gb269 hg w3 hbox hb; have BK269 := Aside0.mk (hbox); have GW269 := Aside0.mk ((by rw [hg]; exact (below_size z0_) : w.heap.size ≤ gb269)); have GE269 := Aside0.mk ((by rw [hg]; exact (below_size z0_) : w.heap.size ≤ gb269)); replace HB := Aside0.mk (below_step z0_ hb); clear hb hbox hg) | ((with_reducible refine gate_dst (N := 2) rfl ?_); refine box_event ?hg (N := 2) ?hd (cs := #[.slice none 0 0]) (t := 28) ?hr ?_; (case hd => rfl); (case hg => rfl); (case hr => exact z25_); intro gb270 hg w4 hbox hb; have BK270 := Aside0.mk (hbox); have GW270 := Aside0.mk ((by rw [hg]; exact (below_size z159_) : w.heap.size ≤ gb270)); have GE270 := Aside0.mk ((by rw [hg]; exact (below_size z159_) : w.heap.size ≤ gb270)); replace HB := Aside0.mk (below_step z159_ hb); have NB269_270 := Aside0.mk ((by rw [hg]; exact Nat.ne_of_lt (blk_lt (g := gb269) (o := .cells #[.slice A0_0 l0_0.length c0_0] 39 (0, 0)) z94_) : gb269 ≠ gb270)); have NB270_269 := Aside0.mk ((by rw [hg]; exact Nat.ne_of_gt (blk_lt (g := gb269) (o := .cells #[.slice A0_0 l0_0.length c0_0] 39 (0, 0)) z94_) : gb270 ≠ gb269)); replace BK269 := Aside0.mk (blk_below (g := gb269) (o := .cells #[.slice A0_0 l0_0.length c0_0] 39 (0, 0)) z94_ hb); clear hb hbox hg) | ((with_reducible refine gate_dst (N := 3) rfl ?_); refine box_event ?hg (N := 3) ?hd (cs := #[.slice none 0 0]) (t := 28) ?hr ?_; (case hd => rfl); (case hg => rfl); (case hr => exact z25_); intro gb271 hg w5 hbox hb; have BK271 := Aside0.mk (hbox); have GW271 := Aside0.mk ((by rw [hg]; exact (below_size z115_) : w.heap.size ≤ gb271)); have GE271 := Aside0.mk ((by rw [hg]; exact (below_size z115_) : w.heap.size ≤ gb271)); replace HB := Aside0.mk (below_step z115_ hb); have NB269_271 := Aside0.mk ((by rw [hg]; exact Nat.ne_of_lt (blk_lt (g := gb269) (o := .cells #[.slice A0_0 l0_0.length c0_0] 39 (0, 0)) z94_) : gb269 ≠ gb271)); have NB271_269 := Aside0.mk ((by rw [hg]; exact Nat.ne_of_gt (blk_lt (g := gb269) (o := .cells #[.slice A0_0 l0_0.length c0_0] 39 (0, 0)) z94_) : gb271 ≠ gb269)); replace BK269 := Aside0.mk (blk_below (g := gb269) (o := .cells #[.slice A0_0 l0_0.length c0_0] 39 (0, 0)) z94_ hb); have NB270_271 := Aside0.mk ((by rw [hg]; exact Nat.ne_of_lt (blk_lt (g := gb270) (o := .cells #[.slice none 0 0] 28 (0, 0)) z165_) : gb270 ≠ gb271)); have NB271_270 := Aside0.mk ((by rw [hg]; exact Nat.ne_of_gt (blk_lt (g := gb270) (o := .cells #[.slice none 0 0] 28 (0, 0)) z165_) : gb271 ≠ gb270)); replace BK270 := Aside0.mk (blk_below (g := gb270) (o := .cells #[.slice none 0 0] 28 (0, 0)) z165_ hb); clear hb hbox hg; have hnb6 := NB269_270.out; have hnc6 := NB270_269.out; have hnb7 := NB269_271.out; have hnc7 := NB271_269.out; have hcz8_0 : w5.cell? ⟨gb269, 0, none⟩ = some (.slice A0_0 l0_0.length c0_0) := (blk_cell BK269.out 0).trans rfl; have hfz8_0 := blk_frozen BK269.out 0) | ((with_reducible refine gate_callee (f := 70) rfl ?_); refine goesL_ (some 6) rfl rfl Try.func70 (by kernel_rfl) rfl #[.slice A0_0 l0_0.length c0_0] rfl z1_ ?_; (with_reducible refine (laws_toDomNodeS.calls k _ _ l0_0 t272 _ ?side1 ?side2 A2.out).mono ?_); (case side1 => exact z10_); (case side2 => exact HC0_0.out); rintro e w9 ⟨v273, rfl, ho0, hb⟩; refine ⟨_, rfl, ?_⟩; have HO274 := Aside0.mk (Kd.R_lower ho0 (below_size z104_)); replace BK269 := Aside0.mk (blk_below (g := gb269) (o := .cells #[.slice A0_0 l0_0.length c0_0] 39 (0, 0)) z94_ hb); replace BK270 := Aside0.mk (blk_below (g := gb270) (o := .cells #[.slice none 0 0] 28 (0, 0)) z165_ hb); replace BK271 := Aside0.mk (blk_below (g := gb271) (o := .cells #[.slice none 0 0] 28 (0, 0)) (by (with_reducible repeat (first | refine blk_drewN ?_ _ | refine blk_drew ?_ | refine blk_alloc ?_ _)); exact BK271.out) hb); replace HB := Aside0.mk (below_step z104_ hb); (try clear hb ho0); obtain ⟨Ao10, co10, eo10⟩ := Kd.R_slice HO274.out; subst eo10; have hnb11 := NB271_270.out; have hnc11 := NB270_271.out; have hcz12_0 : w9.cell? ⟨gb271, 0, none⟩ = some (.slice none 0 0) := (blk_cell BK271.out 0).trans rfl; have hfz12_0 := blk_frozen BK271.out 0; have hcz13_0 : w9.cell? ⟨gb270, 0, none⟩ = some (.slice none 0 0) := (blk_cell BK270.out 0).trans rfl; have hfz13_0 := blk_frozen BK270.out 0))
 refine bodyPost_ret (results_cell_row rfl _ _ gb270 28 #[.slice Ao10 t272.length co10] (0, 0) _ rfl (by (with_reducible repeat (first | refine blk_drewN ?_ _ | refine blk_drew ?_ | refine blk_alloc ?_ _)); refine blk_put (cs := #[.slice none 0 0]) ?_ 0 _ rfl; (with_reducible repeat (first | refine blk_drewN ?_ _ | refine blk_drew ?_ | refine blk_alloc ?_ _)); refine blk_far ?_ NB270_271.out _; (with_reducible repeat (first | refine blk_drewN ?_ _ | refine blk_drew ?_ | refine blk_alloc ?_ _)); exact BK270.out) Try.underlying28 rfl (by kernel_rfl)) rfl ?_
 exact ⟨_, z4_, by (with_reducible repeat (first | apply Kd.R_alloc | apply Kd.R_drewN | apply Kd.R_drew)); exact Kd.R_mono (Kd.R_far (p := ⟨gb270, 0, none⟩) (Kd.R_far (p := ⟨gb271, 0, none⟩) (Kd.R_types (Kd.R_types HO274.out BK271.out (by decide)) BK270.out (by decide)) (fun _ hk => hk.1.2) (.slice Ao10 t272.length co10)) (fun _ hk => hk.2) (.slice Ao10 t272.length co10)) (fun _ hk => trivial), z104_⟩

/-! ### impl_unused: function 53 -/
def impl_unused.f  : Option (Bool × Int × Int × Int × Int × Int × Int) := some (false, 0, (-1), (-1), (-1), (-1), (-1))
set_option maxHeartbeats 8000000 in
set_option maxRecDepth 100000 in
theorem impl_unused.calls  (r1 : Bool) (r2 : Int) (r3 : Int) (r4 : Int) (r5 : Int) (r6 : Int) (r7 : Int) (w : World) (h : impl_unused.f  = some (r1, r2, r3, r4, r5, r6, r7)) :
  Calls Try.prog 53 #[] w fun e w' => e = .returned (.agg #[.bool r1, .int .i64 r2, .int .i64 r3, .int .i64 r4, .int .i64 r5, .int .i64 r6, .int .i64 r7]) ∧ Below w.heap.size w w' := by
 have hu72 := Try.underlying72
 have HB := Aside0.mk (Below.refl w.heap.size w)
 have H : (some (false, 0, (-1), (-1), (-1), (-1), (-1))) = some (r1, r2, r3, r4, r5, r6, r7) := h
 clear h
 simp only [Option.some.injEq, Prod.mk.injEq] at H
 obtain ⟨rfl, rfl, rfl, rfl, rfl, rfl, rfl⟩ := H
 go_enter Try.func53, Try.ntmps53
 go_wp2_with (first | ((with_reducible refine gate_dst (N := 0) rfl ?_); refine box_event ?hg (N := 0) ?hd (cs := #[.bool false, .int .i64 0, .int .i64 0, .int .i64 0, .int .i64 0, .int .i64 0, .int .i64 0]) (t := 72) ?hr ?_; (case hd => rfl); (case hg => rfl); (case hr => exact z25_); intro gb275 hg w1 hbox hb; have BK275 := Aside0.mk (hbox); have GW275 := Aside0.mk ((by rw [hg]; exact (below_size z0_) : w.heap.size ≤ gb275)); have GE275 := Aside0.mk ((by rw [hg]; exact (below_size z0_) : w.heap.size ≤ gb275)); replace HB := Aside0.mk (below_step z0_ hb); clear hb hbox hg; have hcz2_0 : w1.cell? ⟨gb275, 0, none⟩ = some (.bool false) := (blk_cell BK275.out 0).trans rfl; have hcz2_1 : w1.cell? ⟨gb275, 1, none⟩ = some (.int .i64 0) := (blk_cell BK275.out 1).trans rfl; have hcz2_2 : w1.cell? ⟨gb275, 2, none⟩ = some (.int .i64 0) := (blk_cell BK275.out 2).trans rfl; have hcz2_3 : w1.cell? ⟨gb275, 3, none⟩ = some (.int .i64 0) := (blk_cell BK275.out 3).trans rfl; have hcz2_4 : w1.cell? ⟨gb275, 4, none⟩ = some (.int .i64 0) := (blk_cell BK275.out 4).trans rfl; have hcz2_5 : w1.cell? ⟨gb275, 5, none⟩ = some (.int .i64 0) := (blk_cell BK275.out 5).trans rfl; have hcz2_6 : w1.cell? ⟨gb275, 6, none⟩ = some (.int .i64 0) := (blk_cell BK275.out 6).trans rfl; have hfz2_0 := blk_frozen BK275.out 0; have hfz2_1 := blk_frozen BK275.out 1; have hfz2_2 := blk_frozen BK275.out 2; have hfz2_3 := blk_frozen BK275.out 3; have hfz2_4 := blk_frozen BK275.out 4; have hfz2_5 := blk_frozen BK275.out 5; have hfz2_6 := blk_frozen BK275.out 6))
 refine bodyPost_ret (results_cell_row rfl _ _ gb275 72 #[.bool false, .int .i64 0, .int .i64 (-1), .int .i64 (-1), .int .i64 (-1), .int .i64 (-1), .int .i64 (-1)] (0, 0) _ rfl (by (with_reducible repeat (first | refine blk_drewN ?_ _ | refine blk_drew ?_ | refine blk_alloc ?_ _)); refine blk_put (cs := #[.bool false, .int .i64 0, .int .i64 (-1), .int .i64 (-1), .int .i64 (-1), .int .i64 (-1), .int .i64 0]) ?_ 6 _ rfl; (with_reducible repeat (first | refine blk_drewN ?_ _ | refine blk_drew ?_ | refine blk_alloc ?_ _)); refine blk_put (cs := #[.bool false, .int .i64 0, .int .i64 (-1), .int .i64 (-1), .int .i64 (-1), .int .i64 0, .int .i64 0]) ?_ 5 _ rfl; (with_reducible repeat (first | refine blk_drewN ?_ _ | refine blk_drew ?_ | refine blk_alloc ?_ _)); refine blk_put (cs := #[.bool false, .int .i64 0, .int .i64 (-1), .int .i64 (-1), .int .i64 0, .int .i64 0, .int .i64 0]) ?_ 4 _ rfl; (with_reducible repeat (first | refine blk_drewN ?_ _ | refine blk_drew ?_ | refine blk_alloc ?_ _)); refine blk_put (cs := #[.bool false, .int .i64 0, .int .i64 (-1), .int .i64 0, .int .i64 0, .int .i64 0, .int .i64 0]) ?_ 3 _ rfl; (with_reducible repeat (first | refine blk_drewN ?_ _ | refine blk_drew ?_ | refine blk_alloc ?_ _)); refine blk_put (cs := #[.bool false, .int .i64 0, .int .i64 0, .int .i64 0, .int .i64 0, .int .i64 0, .int .i64 0]) ?_ 2 _ rfl; (with_reducible repeat (first | refine blk_drewN ?_ _ | refine blk_drew ?_ | refine blk_alloc ?_ _)); refine blk_put (cs := #[.bool false, .int .i64 0, .int .i64 0, .int .i64 0, .int .i64 0, .int .i64 0, .int .i64 0]) ?_ 1 _ rfl; (with_reducible repeat (first | refine blk_drewN ?_ _ | refine blk_drew ?_ | refine blk_alloc ?_ _)); refine blk_put (cs := #[.bool false, .int .i64 0, .int .i64 0, .int .i64 0, .int .i64 0, .int .i64 0, .int .i64 0]) ?_ 0 _ rfl; (with_reducible repeat (first | refine blk_drewN ?_ _ | refine blk_drew ?_ | refine blk_alloc ?_ _)); exact BK275.out) Try.underlying72 rfl (by kernel_rfl)) rfl ?_
 exact ⟨z4_, by repeat (first | (with_reducible first | exact HB.out | apply below_alloc | apply pw_below_drewN | apply below_drew1 | refine below_set ?_ GE275.out) | exact HB.out)⟩

end Go.Proofs.Ytdapeboajjidmab.PFnExactDomDelete
