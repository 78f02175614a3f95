/- Laid by a program of this session out of the kit's print for the law FnExactDomDelete: what it says of the machine is proved here, function by function; each contract under the conditions that it names. -/
import Derived.Test.YtdapeboajjidmabMFnExactDomDeletex0
import Derived.Test.YtdapeboajjidmabMFnExactDomDeletex8
import Derived.Test.YtdapeboajjidmabMFnExactDomDeletex9
import Derived.Test.YtdapeboajjidmabMFnExactDomDeletex12
import Derived.Test.YtdapeboajjidmabMFnExactDomDeletex13
import Derived.Test.YtdapeboajjidmabMFnExactDomDeletex14
namespace Go.Proofs.Ytdapeboajjidmab.PFnExactDomDelete
open Go.RowKit Go.Proofs.YtdapeboajjidmabW.PrintWords Go.Proofs.YtdapeboajjidmabW.PrintLast Go.Proofs.YtdapeboajjidmabW.PrintMore
attribute [local go_sem] max2_int min2_int max_two min_two max_three min_three max_four min_four   -- for this text's walks alone
set_option linter.unusedVariables false
set_option linter.unusedSimpArgs false

/-! ### impl_DomDelete: function 24 -/
def impl_DomDelete.j0 : Nat → Int → Bool → List (S72) → List (S72) → Option ((List (S72)) × Bool)
 | 0, _, _, _, _ => none
 | k + 1, x1, x19, x393000, x398000 => if x19 = true then (some (x398000, false)) else (if 0 ≤ x1 then (if x1 < (x393000.length : Int) then ((impl_Dom_kids.f k x393000 ((rd_T72 x393000 x1).f2)).bind fun t400 => ((slices_Index_int_int.f k t400 x1).bind fun t403 => ((impl_unused.f).bind fun bt404 => (if x1 < (x398000.length : Int) then (if 0 ≤ t403 then (if t403 ≤ (t400.length : Int) then ((impl_Dom_kids.f k x393000 x1).bind fun t417 => (if 0 ≤ (wrap64 (t403 + 1)) then (if (wrap64 (t403 + 1)) ≤ (t400.length : Int) then ((slices_Concat_int.f k (([(t400.take (t403 : Int).toNat), t417, (t400.drop ((wrap64 (t403 + 1)) : Int).toNat)] : List (List Int)))).bind fun t428 => ((impl_Dom_link.f k (x398000.set (x1 : Int).toNat (⟨bt404.1, bt404.2.1, bt404.2.2.1, bt404.2.2.2.1, bt404.2.2.2.2.1, bt404.2.2.2.2.2.1, bt404.2.2.2.2.2.2⟩ : S72)) ((rd_T72 x393000 x1).f2) t428).bind fun t431 => (some (t431, true)))) else (none)) else (none))) else (none)) else (none)) else (none))))) else (none)) else (none))
def impl_DomDelete.f (k : Nat) (l0_0 : List (S72)) (a1 : Int) : Option ((List (S72)) × Bool) := (impl_domCopy.f l0_0).bind fun t394 => ((impl_Dom_isLive.f k l0_0 a1).bind fun t398 => (if t398 = true then (impl_DomDelete.j0 k a1 (a1 == 0) l0_0 t394) else (impl_DomDelete.j0 k a1 true l0_0 t394)))
def impl_DomDelete.T8 : Bool × List (List Nat × List Nat) := (true, [([], []), ([], []), ([], []), ([], []), ([2, 3], [2, 3]), ([], []), ([], []), ([5, 6], [5, 6]), ([], []), ([], []), ([9], [9]), ([8, 10], [8, 10]), ([4, 7, 11], [4, 7, 11]), ([12, 7], [12]), ([0, 1, 13, 13], [0, 1, 13])])
def impl_DomDelete.B8 : List Nat := [0, 0, 0, 0, 12, 0, 0, 96, 0, 0, 512, 1792, 4092, 8188, 16383]
theorem impl_DomDelete.tab8 : rtab .any (opsOf Try.f24 8) = impl_DomDelete.T8 := by kernel_rfl
theorem impl_DomDelete.bits8 : waitsOk impl_DomDelete.T8.2 impl_DomDelete.B8 = true := by kernel_rfl
set_option maxHeartbeats 8000000 in
set_option maxRecDepth 100000 in
theorem impl_DomDelete.calls (k : Nat) (A0_0 : Option Addr) (c0_0 : Nat) (l0_0 : List (S72)) (a1 : Int) (r1 : List (S72)) (r2 : Bool) (w : World) (hr0_0 : Kd.C k72 w A0_0 l0_0.length l0_0) (hc0_0 : l0_0.length ≤ c0_0) (h : impl_DomDelete.f k l0_0 a1 = some (r1, r2)) :
  Calls Try.prog 24 #[.agg #[.slice A0_0 l0_0.length c0_0], .int .i64 a1] w fun e w' => ∃ v0_ : Value, e = .returned (.tuple #[.agg #[v0_], .bool r2]) ∧ Kd.R k72 72 w' w.heap.size (fun _ => True) v0_ r1 ∧ Below w.heap.size w w' := by
 have hu28 := Try.underlying28
 have hu72 := Try.underlying72
 have HR0_0 := Aside0.mk hr0_0
 have HC0_0 := Aside0.mk hc0_0
 clear hr0_0 hc0_0
 have HB := Aside0.mk (Below.refl w.heap.size w)
 have H : ((impl_domCopy.f l0_0).bind fun t394 => ((impl_Dom_isLive.f k l0_0 a1).bind fun t398 => (if t398 = true then (impl_DomDelete.j0 k a1 (a1 == 0) l0_0 t394) else (impl_DomDelete.j0 k a1 true l0_0 t394)))) = some (r1, r2) := h
 clear h
 obtain ⟨t394, A3, H⟩ := bnd_ H
 have HC4 := Aside0.mk H
 clear H
 go_enter Try.func24, Try.ntmps24
 go_upto_region 2 with (first | ((with_reducible refine gate_dst (N := 2) rfl ?_); refine box_event ?hg (N := 2) ?hd (cs := #[.slice A0_0 l0_0.length c0_0]) (t := 28) ?hr ?_; (case hd => rfl); (case hg => rfl); (case hr => exact z25_); intro gb392 hg w5 hbox hb; have BK392 := Aside0.mk (hbox); have GW392 := Aside0.mk ((by rw [hg]; exact (below_size z0_) : w.heap.size ≤ gb392)); have GE392 := Aside0.mk ((by rw [hg]; exact (below_size z0_) : w.heap.size ≤ gb392)); replace HB := Aside0.mk (below_step z0_ hb); clear hb hbox hg) | ((with_reducible refine gate_dst (N := 4) rfl ?_); refine box_event ?hg (N := 4) ?hd (cs := #[.slice none 0 0]) (t := 28) ?hr ?_; (case hd => rfl); (case hg => rfl); (case hr => exact z25_); intro gb393 hg w6 hbox hb; have BK393 := Aside0.mk (hbox); have GW393 := Aside0.mk ((by rw [hg]; exact (below_size z161_) : w.heap.size ≤ gb393)); have GE393 := Aside0.mk ((by rw [hg]; exact (below_size z161_) : w.heap.size ≤ gb393)); replace HB := Aside0.mk (below_step z161_ hb); have NB392_393 := Aside0.mk ((by rw [hg]; exact Nat.ne_of_lt (blk_lt (g := gb392) (o := .cells #[.slice A0_0 l0_0.length c0_0] 28 (0, 0)) z48_) : gb392 ≠ gb393)); have NB393_392 := Aside0.mk ((by rw [hg]; exact Nat.ne_of_gt (blk_lt (g := gb392) (o := .cells #[.slice A0_0 l0_0.length c0_0] 28 (0, 0)) z48_) : gb393 ≠ gb392)); replace BK392 := Aside0.mk (blk_below (g := gb392) (o := .cells #[.slice A0_0 l0_0.length c0_0] 28 (0, 0)) z48_ hb); clear hb hbox hg; have hnb7 := NB392_393.out; have hnc7 := NB393_392.out; have hcz8_0 : w6.cell? ⟨gb392, 0, none⟩ = some (.slice A0_0 l0_0.length c0_0) := (blk_cell BK392.out 0).trans rfl; have hfz8_0 := blk_frozen BK392.out 0) | ((with_reducible refine gate_callee (f := 71) rfl ?_); refine goesL_ (some 11) rfl rfl Try.func71 (by kernel_rfl) rfl #[.agg #[.slice A0_0 l0_0.length c0_0]] rfl z1_ ?_; (with_reducible refine (impl_domCopy.calls _ _ l0_0 t394 _ ?side1 ?side2 A3.out).mono ?_); (case side1 => exact z10_); (case side2 => exact HC0_0.out); rintro e w9 ⟨v395, rfl, ho0, hb⟩; refine ⟨_, rfl, ?_⟩; have HO396 := Aside0.mk (Kd.R_lower ho0 (below_size z88_)); replace BK392 := Aside0.mk (blk_below (g := gb392) (o := .cells #[.slice A0_0 l0_0.length c0_0] 28 (0, 0)) z48_ hb); replace BK393 := Aside0.mk (blk_below (g := gb393) (o := .cells #[.slice none 0 0] 28 (0, 0)) z52_ hb); replace HB := Aside0.mk (below_step z88_ hb); (try clear hb ho0)) | ((with_reducible refine gate_dst (N := 6) rfl ?_); refine box_event ?hg (N := 6) ?hd (cs := #[.slice none 0 0]) (t := 28) ?hr ?_; (case hd => rfl); (case hg => rfl); (case hr => exact z25_); intro gb397 hg w10 hbox hb; replace HO396 := Aside0.mk (Kd.R_below z212_ hb); have BK397 := Aside0.mk (hbox); have GW397 := Aside0.mk ((by rw [hg]; exact (below_size z88_) : w.heap.size ≤ gb397)); have GE397 := Aside0.mk ((by rw [hg]; exact (below_size z88_) : w.heap.size ≤ gb397)); replace HB := Aside0.mk (below_step z88_ hb); have NB392_397 := Aside0.mk ((by rw [hg]; exact Nat.ne_of_lt (blk_lt (g := gb392) (o := .cells #[.slice A0_0 l0_0.length c0_0] 28 (0, 0)) z48_) : gb392 ≠ gb397)); have NB397_392 := Aside0.mk ((by rw [hg]; exact Nat.ne_of_gt (blk_lt (g := gb392) (o := .cells #[.slice A0_0 l0_0.length c0_0] 28 (0, 0)) z48_) : gb397 ≠ gb392)); replace BK392 := Aside0.mk (blk_below (g := gb392) (o := .cells #[.slice A0_0 l0_0.length c0_0] 28 (0, 0)) z48_ hb); have NB393_397 := Aside0.mk ((by rw [hg]; exact Nat.ne_of_lt (blk_lt (g := gb393) (o := .cells #[.slice none 0 0] 28 (0, 0)) z52_) : gb393 ≠ gb397)); have NB397_393 := Aside0.mk ((by rw [hg]; exact Nat.ne_of_gt (blk_lt (g := gb393) (o := .cells #[.slice none 0 0] 28 (0, 0)) z52_) : gb397 ≠ gb393)); replace BK393 := Aside0.mk (blk_below (g := gb393) (o := .cells #[.slice none 0 0] 28 (0, 0)) z52_ hb); clear hb hbox hg; obtain ⟨Ao11, co11, eo11⟩ := Kd.R_slice HO396.out; subst eo11; have hnb12 := NB397_392.out; have hnc12 := NB392_397.out; have hnb13 := NB397_393.out; have hnc13 := NB393_397.out; have hcz14_0 : w10.cell? ⟨gb397, 0, none⟩ = some (.slice none 0 0) := (blk_cell BK397.out 0).trans rfl; have hfz14_0 := blk_frozen BK397.out 0))
 (try simp only [Act.put, List.setIfInBounds_toArray, List.set_cons_zero, List.set_cons_succ])
 go_cut [19] (fun v19 wc => ∃ (kq : Nat) (x19_3 : Bool), v19 = .bool x19_3 ∧ Aside0 (impl_DomDelete.j0 kq a1 x19_3 l0_0 t394 = some (r1, r2)) ∧ Aside0 (kq ≤ k) ∧ Aside0 (Kd.R k72 72 wc w.heap.size (fun _ => True) (.slice Ao11 t394.length co11) t394) ∧ Aside0 (wc.heap[gb392]? = some (.cells #[(.slice A0_0 l0_0.length c0_0)] 28 (0, 0))) ∧ Aside0 (wc.heap[gb393]? = some (.cells #[(.slice none 0 0)] 28 (0, 0))) ∧ Aside0 (wc.heap[gb397]? = some (.cells #[(.slice Ao11 t394.length co11)] 28 (0, 0))) ∧ Aside0 (Below w.heap.size w wc))
 case first =>
  have H := HC4.out
  clear HC4
  obtain ⟨t398, A15, H⟩ := bnd_ H
  by_cases c16 : t398 = true
  ·subst c16
   replace H := ift_ H
   have H' := Aside0.mk H
   clear H
   have hnb17 := NB392_393.out
   have hnc17 := NB393_392.out
   have hnb18 := NB392_397.out
   have hnc18 := NB397_392.out
   have hcz19_0 : w10.cell? ⟨gb392, 0, none⟩ = some (.slice A0_0 l0_0.length c0_0) := (blk_cell BK392.out 0).trans rfl
   have hfz19_0 := blk_frozen BK392.out 0
   go_wp2_with (first | ((with_reducible refine gate_callee (f := 72) rfl ?_); refine goesL_ (some 14) rfl rfl Try.func72 (by kernel_rfl) rfl #[.agg #[.slice A0_0 l0_0.length c0_0], .int .i64 a1] rfl z1_ ?_; (with_reducible refine (impl_Dom_isLive.calls k _ _ l0_0 a1 true _ ?side1 ?side2 A15.out).mono ?_); (case side1 => exact z128_); (case side2 => exact HC0_0.out); rintro e w20 ⟨rfl, hb⟩; refine ⟨_, rfl, ?_⟩; replace HO396 := Aside0.mk (Kd.R_below z134_ hb); replace BK392 := Aside0.mk (blk_below (g := gb392) (o := .cells #[.slice A0_0 l0_0.length c0_0] 28 (0, 0)) z143_ hb); replace BK393 := Aside0.mk (blk_below (g := gb393) (o := .cells #[.slice none 0 0] 28 (0, 0)) z144_ hb); replace BK397 := Aside0.mk (blk_below (g := gb397) (o := .cells #[.slice Ao11 t394.length co11] 28 (0, 0)) z121_ hb); replace HB := Aside0.mk (below_step z16_ hb); (try clear hb)))
   go_meet
   case rel => exact ⟨_, ((a1 == 0)), z12_, H', ⟨z103_⟩, ⟨z212_⟩, ⟨z48_⟩, ⟨z52_⟩, ⟨z68_⟩, ⟨z16_⟩⟩
  ·replace c16 := Bool.eq_false_iff.mpr c16
   subst c16
   replace H := iff_ H
   have H' := Aside0.mk H
   clear H
   have hnb21 := NB392_393.out
   have hnc21 := NB393_392.out
   have hnb22 := NB392_397.out
   have hnc22 := NB397_392.out
   have hcz23_0 : w10.cell? ⟨gb392, 0, none⟩ = some (.slice A0_0 l0_0.length c0_0) := (blk_cell BK392.out 0).trans rfl
   have hfz23_0 := blk_frozen BK392.out 0
   go_wp2_with (first | ((with_reducible refine gate_callee (f := 72) rfl ?_); refine goesL_ (some 14) rfl rfl Try.func72 (by kernel_rfl) rfl #[.agg #[.slice A0_0 l0_0.length c0_0], .int .i64 a1] rfl z1_ ?_; (with_reducible refine (impl_Dom_isLive.calls k _ _ l0_0 a1 false _ ?side1 ?side2 A15.out).mono ?_); (case side1 => exact z128_); (case side2 => exact HC0_0.out); rintro e w24 ⟨rfl, hb⟩; refine ⟨_, rfl, ?_⟩; replace HO396 := Aside0.mk (Kd.R_below z134_ hb); replace BK392 := Aside0.mk (blk_below (g := gb392) (o := .cells #[.slice A0_0 l0_0.length c0_0] 28 (0, 0)) z143_ hb); replace BK393 := Aside0.mk (blk_below (g := gb393) (o := .cells #[.slice none 0 0] 28 (0, 0)) z144_ hb); replace BK397 := Aside0.mk (blk_below (g := gb397) (o := .cells #[.slice Ao11 t394.length co11] 28 (0, 0)) z121_ hb); replace HB := Aside0.mk (below_step z16_ hb); (try clear hb)))
   go_meet
   case rel => exact ⟨_, (true), z12_, H', ⟨z103_⟩, ⟨z212_⟩, ⟨z48_⟩, ⟨z52_⟩, ⟨z68_⟩, ⟨z16_⟩⟩
 case rest =>
  clear HC4
  try clear c1
  try clear c2
  try clear p2
  try clear c7
  try clear c12
  try clear c13
  try clear c16
  try clear c17
  try clear c18
  try clear c21
  try clear c22
  try clear c24
  try clear hcz14_0
  try clear hcz19_0
  try clear hcz23_0
  try clear hcz8_0
  try clear hfz14_0
  try clear hfz19_0
  try clear hfz23_0
  try clear hfz8_0
  obtain ⟨kq, x19_3, rfl, HA, HJ3, HO_398000, BK392, BK393, BK397, HB⟩ := hcut
  cases kq with
  | zero => exact absurd HA.out (by simp [impl_DomDelete.j0])
  | succ kj3 =>
   have H := HA.out
   clear HA
   simp only [impl_DomDelete.j0] at H
   by_cases c25 : x19_3 = true
   ·subst c25
    replace H := ift_ H
    simp only [Option.some.injEq, Prod.mk.injEq] at H
    obtain ⟨rfl, rfl⟩ := H
    have hnb26 := NB397_392.out
    have hnc26 := NB392_397.out
    have hnb27 := NB397_393.out
    have hnc27 := NB393_397.out
    have hcz28_0 : wc.cell? ⟨gb397, 0, none⟩ = some (.slice Ao11 t394.length co11) := (blk_cell BK397.out 0).trans rfl
    have hfz28_0 := blk_frozen BK397.out 0
    have hnb29 := NB393_392.out
    have hnc29 := NB392_393.out
    have hcz30_0 : wc.cell? ⟨gb393, 0, none⟩ = some (.slice none 0 0) := (blk_cell BK393.out 0).trans rfl
    have hfz30_0 := blk_frozen BK393.out 0
    go_wp2
    refine bodyPost_ret (results_ct rfl _ _ gb393 28 #[.slice Ao11 t394.length co11] (0, 0) _ rfl z122_ Try.underlying28 rfl (by kernel_rfl)) rfl ?_
    exact ⟨_, z4_, by (with_reducible repeat (first | apply Kd.R_alloc | apply Kd.R_drewN | apply Kd.R_drew)); exact Kd.R_mono (Kd.R_far (p := ⟨gb393, 0, none⟩) (Kd.R_types HO_398000.out BK393.out (by decide)) (fun _ hk => hk.2) (.slice Ao11 t394.length co11)) (fun _ hk => trivial), z16_⟩
   ·replace c25 := Bool.eq_false_iff.mpr c25
    subst c25
    replace H := iff_ H
    obtain ⟨c31b0, H⟩ := ifd_ H
    obtain ⟨c32b0, H⟩ := ifd_ H
    obtain ⟨t400, A33, H⟩ := bnd_ H
    obtain ⟨t403, A34, H⟩ := bnd_ H
    replace H := Option.bind_eq_some_iff.mp H
    obtain ⟨⟨t404, t405, t406, t407, t408, t409, t410⟩, A350, H⟩ := H
    replace H : (if a1 < (t394.length : Int) then (if 0 ≤ t403 then (if t403 ≤ (t400.length : Int) then ((impl_Dom_kids.f kj3 l0_0 a1).bind fun t417 => (if 0 ≤ (wrap64 (t403 + 1)) then (if (wrap64 (t403 + 1)) ≤ (t400.length : Int) then ((slices_Concat_int.f kj3 (([(t400.take (t403 : Int).toNat), t417, (t400.drop ((wrap64 (t403 + 1)) : Int).toNat)] : List (List Int)))).bind fun t428 => ((impl_Dom_link.f kj3 (t394.set (a1 : Int).toNat (⟨t404, t405, t406, t407, t408, t409, t410⟩ : S72)) ((rd_T72 l0_0 a1).f2) t428).bind fun t431 => (some (t431, true)))) else (none)) else (none))) else (none)) else (none)) else (none)) = some (r1, r2) := H
    have A35 := Aside0.mk A350
    clear A350
    obtain ⟨c36b0, H⟩ := ifd_ H
    obtain ⟨y411, hy411⟩ : ∃ y_ : List (S72), y_ = (t394.set (a1 : Int).toNat (⟨t404, t405, t406, t407, t408, t409, t410⟩ : S72)) := ⟨_, rfl⟩
    replace H : (if 0 ≤ t403 then (if t403 ≤ (t400.length : Int) then ((impl_Dom_kids.f kj3 l0_0 a1).bind fun t417 => (if 0 ≤ (wrap64 (t403 + 1)) then (if (wrap64 (t403 + 1)) ≤ (t400.length : Int) then ((slices_Concat_int.f kj3 (([(t400.take (t403 : Int).toNat), t417, (t400.drop ((wrap64 (t403 + 1)) : Int).toNat)] : List (List Int)))).bind fun t428 => ((impl_Dom_link.f kj3 y411 ((rd_T72 l0_0 a1).f2) t428).bind fun t431 => (some (t431, true)))) else (none)) else (none))) else (none)) else (none)) = some (r1, r2) := by first | (rw [hy411]; with_reducible exact H) | (have H2_ := (Option.bind_some _ _).symm.trans H; rw [hy411]; with_reducible exact H2_) | (have H2_ := (Option.bind_some _ _).symm.trans H; with_reducible exact H2_) | with_reducible exact H | (rw [hy411]; exact H) | exact H
    have Ny411 := Aside0.mk hy411
    clear hy411
    obtain ⟨c38b0, c38b1, H⟩ := ife_ H
    obtain ⟨c39b0, c39b1, H⟩ := ife_ H
    obtain ⟨y412, hy412⟩ : ∃ y_ : List Int, y_ = (t400.take (t403 : Int).toNat) := ⟨_, rfl⟩
    replace H : ((impl_Dom_kids.f kj3 l0_0 a1).bind fun t417 => (if 0 ≤ (wrap64 (t403 + 1)) then (if (wrap64 (t403 + 1)) ≤ (t400.length : Int) then ((slices_Concat_int.f kj3 (([y412, t417, (t400.drop ((wrap64 (t403 + 1)) : Int).toNat)] : List (List Int)))).bind fun t428 => ((impl_Dom_link.f kj3 y411 ((rd_T72 l0_0 a1).f2) t428).bind fun t431 => (some (t431, true)))) else (none)) else (none))) = some (r1, r2) := by first | (rw [hy412]; with_reducible exact H) | (have H2_ := (Option.bind_some _ _).symm.trans H; rw [hy412]; with_reducible exact H2_) | (have H2_ := (Option.bind_some _ _).symm.trans H; with_reducible exact H2_) | with_reducible exact H | (rw [hy412]; exact H) | exact H
    have Ny412 := Aside0.mk hy412
    clear hy412
    obtain ⟨t417, A40, H⟩ := bnd_ H
    obtain ⟨ji41, hji41⟩ : ∃ j_ : Int, (wrap64 (t403 + 1)) = j_ := ⟨_, rfl⟩
    replace H : (if 0 ≤ (ji41) then (if (ji41) ≤ (t400.length : Int) then ((slices_Concat_int.f kj3 (([y412, t417, (t400.drop ((ji41) : Int).toNat)] : List (List Int)))).bind fun t428 => ((impl_Dom_link.f kj3 y411 ((rd_T72 l0_0 a1).f2) t428).bind fun t431 => (some (t431, true)))) else (none)) else (none)) = some (r1, r2) := by first | (rw [hji41] at H; exact H) | (simp only [hji41] at H ⊢; exact H)
    (try rw [hji41] at A33)
    (try rw [hji41] at A34)
    (try rw [hji41] at A35)
    (try rw [hji41] at A40)
    have hji41w : (IntKind.i64.wrap (t403 + 1)) = ji41 := (i64_w _).trans hji41
    obtain ⟨c42b0, c42b1, H⟩ := ife_ H
    obtain ⟨c43b0, c43b1, H⟩ := ife_ H
    obtain ⟨y420, hy420⟩ : ∃ y_ : List Int, y_ = (t400.drop ((ji41) : Int).toNat) := ⟨_, rfl⟩
    replace H : ((slices_Concat_int.f kj3 (([y412, t417, y420] : List (List Int)))).bind fun t428 => ((impl_Dom_link.f kj3 y411 ((rd_T72 l0_0 a1).f2) t428).bind fun t431 => (some (t431, true)))) = some (r1, r2) := by first | (rw [hy420]; with_reducible exact H) | (have H2_ := (Option.bind_some _ _).symm.trans H; rw [hy420]; with_reducible exact H2_) | (have H2_ := (Option.bind_some _ _).symm.trans H; with_reducible exact H2_) | with_reducible exact H | (rw [hy420]; exact H) | exact H
    have Ny420 := Aside0.mk hy420
    clear hy420
    obtain ⟨y425, hy425⟩ : ∃ y_ : List (List Int), y_ = (([y412, t417, y420] : List (List Int))) := ⟨_, rfl⟩
    replace H : ((slices_Concat_int.f kj3 y425).bind fun t428 => ((impl_Dom_link.f kj3 y411 ((rd_T72 l0_0 a1).f2) t428).bind fun t431 => (some (t431, true)))) = some (r1, r2) := by first | (rw [hy425]; with_reducible exact H) | (have H2_ := (Option.bind_some _ _).symm.trans H; rw [hy425]; with_reducible exact H2_) | (have H2_ := (Option.bind_some _ _).symm.trans H; with_reducible exact H2_) | with_reducible exact H | (rw [hy425]; exact H) | exact H
    have Ny425 := Aside0.mk hy425
    clear hy425
    obtain ⟨t428, A44, H⟩ := bnd_ H
    obtain ⟨t431, A45, H⟩ := bnd_ H
    simp only [Option.some.injEq, Prod.mk.injEq] at H
    obtain ⟨rfl, rfl⟩ := H
    have hnb46 := NB392_393.out
    have hnc46 := NB393_392.out
    have hnb47 := NB392_397.out
    have hnc47 := NB397_392.out
    have hcz48_0 : wc.cell? ⟨gb392, 0, none⟩ = some (.slice A0_0 l0_0.length c0_0) := (blk_cell BK392.out 0).trans rfl
    have hfz48_0 := blk_frozen BK392.out 0
    obtain ⟨p399, q399, ad399, e399, hx399_0, hx399_1, hx399_2, hx399_3, hx399_4, hx399_5, hx399_6⟩ := atb72_ HR0_0 HB a1
    cases e399
    try go_wp2_with (first | ((with_reducible refine gate_callee (f := 73) rfl ?_); refine goesL_ (some 29) rfl rfl Try.func73 (by kernel_rfl) rfl #[.agg #[.slice (some ad399) l0_0.length c0_0], .int .i64 ((rd_T72 l0_0 a1).f2)] rfl z1_ ?_; (with_reducible refine (impl_Dom_kids.calls kj3 _ _ l0_0 ((rd_T72 l0_0 a1).f2) t400 _ ?side1 ?side2 A33.out).mono ?_); (case side1 => exact z10_); (case side2 => exact HC0_0.out); rintro e w49 ⟨v401, rfl, ho0, hb⟩; refine ⟨_, rfl, ?_⟩; replace HO_398000 := Aside0.mk (Kd.R_below z98_ hb); have HO402 := Aside0.mk (Kd.R_lower ho0 (below_size z16_)); replace BK392 := Aside0.mk (blk_below (g := gb392) (o := .cells #[.slice (some ad399) l0_0.length c0_0] 28 (0, 0)) z48_ hb); replace BK393 := Aside0.mk (blk_below (g := gb393) (o := .cells #[.slice none 0 0] 28 (0, 0)) z52_ hb); replace BK397 := Aside0.mk (blk_below (g := gb397) (o := .cells #[.slice Ao11 t394.length co11] 28 (0, 0)) z68_ hb); replace HB := Aside0.mk (below_step z16_ hb); (try clear hb ho0); obtain ⟨Ao50, co50, eo50⟩ := Kd.R_slice HO402.out; subst eo50) | ((with_reducible refine gate_callee (f := 56) rfl ?_); refine goesL_ (some 32) rfl rfl Try.func56 (by kernel_rfl) rfl #[.slice Ao50 t400.length co50, .int .i64 a1] rfl z1_ ?_; (with_reducible refine (slices_Index_int_int.calls kj3 _ _ t400 a1 t403 _ ?side1 ?side2 A34.out).mono ?_); (case side1 => repeat (first | exact (Kd.R_reads' HO402.out).2.2 | (with_reducible refine Kd.C_alloc ?_ _) | (with_reducible refine Kd.C_drewN ?_ _) | (with_reducible refine Kd.C_drew ?_))); (case side2 => exact (Kd.R_reads' HO402.out).2.1); rintro e w' ⟨rfl, ⟨nd, rfl⟩⟩; refine ⟨_, rfl, ?_⟩; (try (rw [drewN_self w49]; generalize hq_ : World.drewN w49 _ = w49; have n0_ : Aside0 (Kd.R (Kd.int .i64) 3 w49 w.heap.size (fun _ => True) (.slice Ao50 t400.length co50) t400) := ⟨by rw [← hq_]; exact z99_⟩; have n1_ : Aside0 (Kd.R k72 72 w49 w.heap.size (fun _ => True) (.slice Ao11 t394.length co11) t394) := ⟨by rw [← hq_]; exact z98_⟩; have n2_ : Aside0 (w49.heap[gb392]? = some (.cells #[.slice (some ad399) l0_0.length c0_0] 28 (0, 0))) := ⟨by rw [← hq_]; exact z48_⟩; have n3_ : Aside0 (w49.heap[gb393]? = some (.cells #[.slice none 0 0] 28 (0, 0))) := ⟨by rw [← hq_]; exact z52_⟩; have n4_ : Aside0 (w49.heap[gb397]? = some (.cells #[.slice Ao11 t394.length co11] 28 (0, 0))) := ⟨by rw [← hq_]; exact z68_⟩; have n5_ : Aside0 (Below w.heap.size w w49) := ⟨by rw [← hq_]; exact z16_⟩; clear HO402 HO_398000 BK392 BK393 BK397 HB hq_; have HO402 := n0_; have HO_398000 := n1_; have BK392 := n2_; have BK393 := n3_; have BK397 := n4_; have HB := n5_; clear n0_ n1_ n2_ n3_ n4_ n5_))))
    have n0_ := Aside0.mk (Kd.R_drew HO_398000.out)
    have n1_ := Aside0.mk (Kd.R_drew HO402.out)
    have n2_ := Aside0.mk (blk_drew BK392.out)
    have n3_ := Aside0.mk (blk_drew BK393.out)
    have n4_ := Aside0.mk (blk_drew BK397.out)
    have n5_ := Aside0.mk (below_drew1 HB.out)
    clear HO_398000
    clear HO402
    clear BK392
    clear BK393
    clear BK397
    clear HB
    have HO_398000 := n0_
    have HO402 := n1_
    have BK392 := n2_
    have BK393 := n3_
    have BK397 := n4_
    have HB := n5_
    clear n0_ n1_ n2_ n3_ n4_ n5_
    refine start_ (n := 6) (S := fun w' => w'.cell? ⟨gb397, 0, none⟩ = some (.slice Ao11 t394.length co11)) (ds := [5]) (fl_ 6 0) (by kernel_rfl) rfl (fl_zero _) ((blk_cell BK397.out 0).trans rfl) (fun hHeld => ?_)
    generalize w49.drew = w51 at HO_398000 HO402 BK392 BK393 BK397 HB hHeld ⊢
    refine pure_ (i := 0) (N := some 33) (v := ?_) (a' := ?_) #[true, false, false, false, false, false] rfl rfl (by kernel_rfl) (fun _ _ _ h => h) (Or.inl ⟨by rfl, ?_⟩) ?_ ?_
    rotate_left
    ·intro w'
     go_simp
     with_reducible rfl
    rotate_left
    ·simp only [Act.put, List.setIfInBounds_toArray, List.set_cons_zero, List.set_cons_succ, i64_w, i32_w]
     rfl
    refine pure_ (i := 2) (N := some 35) (v := ?_) (a' := ?_) #[true, false, true, false, false, false] rfl rfl (by kernel_rfl) (fun _ _ _ h => h) (Or.inl ⟨by rfl, ?_⟩) ?_ ?_
    rotate_left
    ·intro w'
     go_simp
     with_reducible rfl
    rotate_left
    ·simp only [Act.put, List.setIfInBounds_toArray, List.set_cons_zero, List.set_cons_succ, i64_w, i32_w]
     rfl
    refine take_ (i := 1) (N := some 34) (v := ?_) (a' := ?_) #[true, true, true, false, false, false] rfl rfl (by kernel_rfl) (fun _ _ _ h => h) (Or.inl ⟨by rfl, ?_⟩) hHeld ?_ ?_
    rotate_left
    ·intro w' s0
     go_simp
     with_reducible rfl
    rotate_left
    ·simp only [Act.put, List.setIfInBounds_toArray, List.set_cons_zero, List.set_cons_succ, i64_w, i32_w]
     rfl
    refine one_ (i := 3) (N := some 36) (fl_ 6 4) rfl rfl (by kernel_rfl) (by decide) (fun K hK => ?_)
    refine goes_ Try.func53 (by kernel_rfl) rfl #[] (by rfl) rfl rfl z1_ ?_
    with_reducible refine (impl_unused.calls  t404 t405 t406 t407 t408 t409 t410 _ A35.out).mono ?_
    rintro e w52 ⟨rfl, hb⟩
    refine ⟨_, rfl, ?_⟩
    have n0_ := Aside0.mk (Kd.R_below z98_ hb)
    have n1_ := Aside0.mk (Kd.R_below z99_ hb)
    have n2_ := Aside0.mk (blk_below (g := gb392) (o := .cells #[.slice (some ad399) l0_0.length c0_0] 28 (0, 0)) z48_ hb)
    have n3_ := Aside0.mk (blk_below (g := gb393) (o := .cells #[.slice none 0 0] 28 (0, 0)) z52_ hb)
    have n4_ := Aside0.mk (blk_below (g := gb397) (o := .cells #[.slice Ao11 t394.length co11] 28 (0, 0)) z68_ hb)
    have n5_ := Aside0.mk (below_step z16_ hb)
    clear HO_398000
    clear HO402
    clear BK392
    clear BK393
    clear BK397
    clear HB
    have HO_398000 := n0_
    have HO402 := n1_
    have BK392 := n2_
    have BK393 := n3_
    have BK397 := n4_
    have HB := n5_
    clear n0_ n1_ n2_ n3_ n4_ n5_
    (try clear hb)
    (try clear hb2)
    (try clear hk)
    (try clear hi)
    have p37 : 0 ≤ (a1 : Int) := odt_
    have q37 : (a1 : Int) < ((t394.length : Int) : Int) := odt_
    obtain ⟨go37, co37, eo37, gb37, gl37, cl37, HG37⟩ := Kd.R_form HO_398000.out (by omega)
    (first | cases eo37 | (injection eo37 with ea_ en_ ec_; (first | subst ea_ | (injection ea_ with ea_; subst ea_)); subst ec_; clear en_))
    have GB37 := Aside0.mk gb37
    have GG37 := Aside0.mk HG37
    clear gb37 gl37 HG37
    obtain ⟨ce37, hcl37, hM37, hcc37, hfr37⟩ := Kd.R_elem HO_398000.out z72 (a1 : Int) p37 q37
    obtain rfl := k72_openM hM37
    have hx37_0 : World.cell? _ ⟨go37, (a1 : Int).toNat * 7, none⟩ = some (.bool ((rd_T72 t394 a1).f0)) := hcc37 0 _ rfl
    have hx37_1 : World.cell? _ ⟨go37, (a1 : Int).toNat * 7 + 1, none⟩ = some (.int .i64 ((rd_T72 t394 a1).f1)) := hcc37 1 _ rfl
    have hx37_2 : World.cell? _ ⟨go37, (a1 : Int).toNat * 7 + 2, none⟩ = some (.int .i64 ((rd_T72 t394 a1).f2)) := hcc37 2 _ rfl
    have hx37_3 : World.cell? _ ⟨go37, (a1 : Int).toNat * 7 + 3, none⟩ = some (.int .i64 ((rd_T72 t394 a1).f3)) := hcc37 3 _ rfl
    have hx37_4 : World.cell? _ ⟨go37, (a1 : Int).toNat * 7 + 4, none⟩ = some (.int .i64 ((rd_T72 t394 a1).f4)) := hcc37 4 _ rfl
    have hx37_5 : World.cell? _ ⟨go37, (a1 : Int).toNat * 7 + 5, none⟩ = some (.int .i64 ((rd_T72 t394 a1).f5)) := hcc37 5 _ rfl
    have hx37_6 : World.cell? _ ⟨go37, (a1 : Int).toNat * 7 + 6, none⟩ = some (.int .i64 ((rd_T72 t394 a1).f6)) := hcc37 6 _ rfl
    have hf37_0 : World.frozen? _ ⟨go37, (a1 : Int).toNat * 7, none⟩ = false := hfr37 0
    have hf37_1 : World.frozen? _ ⟨go37, (a1 : Int).toNat * 7 + 1, none⟩ = false := hfr37 1
    have hf37_2 : World.frozen? _ ⟨go37, (a1 : Int).toNat * 7 + 2, none⟩ = false := hfr37 2
    have hf37_3 : World.frozen? _ ⟨go37, (a1 : Int).toNat * 7 + 3, none⟩ = false := hfr37 3
    have hf37_4 : World.frozen? _ ⟨go37, (a1 : Int).toNat * 7 + 4, none⟩ = false := hfr37 4
    have hf37_5 : World.frozen? _ ⟨go37, (a1 : Int).toNat * 7 + 5, none⟩ = false := hfr37 5
    have hf37_6 : World.frozen? _ ⟨go37, (a1 : Int).toNat * 7 + 6, none⟩ = false := hfr37 6
    clear hcl37 hcc37 hfr37 hM37
    replace p37 := eq_true p37
    replace q37 := eq_true q37
    obtain ⟨ce53, hcl53, hM53, hcc53, hfr53⟩ := Kd.R_elem HO_398000.out z72 (a1 : Int) (odt_) (by have h_ : (a1 : Int) < ((t394.length : Int) : Int) := odt_; first | exact h_ | (have e_ := (Kd.R_reads' HO_398000.out).1; omega) | simpa using h_)
    obtain rfl := k72_openM hM53
    have HP53 := (Kd.R_seg HO_398000.out (a1 : Int) (odt_) (by have h_ : (a1 : Int) < ((t394.length : Int) : Int) := odt_; first | exact h_ | (have e_ := (Kd.R_reads' HO_398000.out).1; omega) | simpa using h_) (seg := [.bool t404, .int .i64 t405, .int .i64 t406, .int .i64 t407, .int .i64 t408, .int .i64 t409, .int .i64 t410]) (j := 0) hcl53 hcc53 (show 7 ≤ 7 from by decide) (x' := (⟨t404, t405, t406, t407, t408, t409, t410⟩ : S72)) (k72_mkM _ _ _ (⟨t404, t405, t406, t407, t408, t409, t410⟩ : S72) ) (fun _ hk => hk)).1
    rw [← Ny411.out] at HP53
    have HQ53 := Aside0.mk HP53
    clear hcl53 hcc53 hfr53 hM53 HP53
    refine hK.out _ _ ((blk_cell BK397.out 0).trans rfl) (fun hHeld => ?_)
    clear hK K
    refine zn_ rfl ?_
    refine pure_ (i := 4) (N := some 37) (v := ?_) (a' := ?_) #[true, true, true, true, true, false] rfl rfl (by kernel_rfl) (fun _ _ _ h => h) (Or.inl ⟨by rfl, ?_⟩) ?_ ?_
    rotate_left
    ·intro w'
     go_simp
     with_reducible rfl
    rotate_left
    ·simp only [Act.put, List.setIfInBounds_toArray, List.set_cons_zero, List.set_cons_succ, i64_w, i32_w]
     rfl
    refine last_ (i := 5) (N := none) (fl_ 6 6) rfl rfl (by kernel_rfl) (by decide) (fun K hK => ?_)
    refine skip_ (w1 := ?_) (by rfl) rfl ?_ ?_
    rotate_left
    ·go_simp
     rfl
    refine hK.out _ _ ?_
    clear hK K
    refine done_ (by kernel_rfl) ?_
    have n0_ : Aside0 (Kd.R k72 72 (((((((w52.setCell ⟨go37, (a1 : Int).toNat * 7, none⟩ (.bool t404)).setCell ⟨go37, (a1 : Int).toNat * 7 + 1, none⟩ (.int .i64 t405)).setCell ⟨go37, (a1 : Int).toNat * 7 + 2, none⟩ (.int .i64 t406)).setCell ⟨go37, (a1 : Int).toNat * 7 + 3, none⟩ (.int .i64 t407)).setCell ⟨go37, (a1 : Int).toNat * 7 + 4, none⟩ (.int .i64 t408)).setCell ⟨go37, (a1 : Int).toNat * 7 + 5, none⟩ (.int .i64 t409)).setCell ⟨go37, (a1 : Int).toNat * 7 + 6, none⟩ (.int .i64 t410)) w.heap.size (fun _ => True) (.slice (some ⟨go37, 0, none⟩) t394.length co11) y411) := ⟨by (with_reducible repeat (first | apply Kd.R_alloc | apply Kd.R_drewN | apply Kd.R_drew)); exact HQ53.out⟩
    have n1_ : Aside0 (Kd.R (Kd.int .i64) 3 (((((((w52.setCell ⟨go37, (a1 : Int).toNat * 7, none⟩ (.bool t404)).setCell ⟨go37, (a1 : Int).toNat * 7 + 1, none⟩ (.int .i64 t405)).setCell ⟨go37, (a1 : Int).toNat * 7 + 2, none⟩ (.int .i64 t406)).setCell ⟨go37, (a1 : Int).toNat * 7 + 3, none⟩ (.int .i64 t407)).setCell ⟨go37, (a1 : Int).toNat * 7 + 4, none⟩ (.int .i64 t408)).setCell ⟨go37, (a1 : Int).toNat * 7 + 5, none⟩ (.int .i64 t409)).setCell ⟨go37, (a1 : Int).toNat * 7 + 6, none⟩ (.int .i64 t410)) w.heap.size (fun _ => True) (.slice Ao50 t400.length co50) t400) := ⟨by (with_reducible repeat (first | apply Kd.R_alloc | apply Kd.R_drewN | apply Kd.R_drew)); exact Kd.R_mono (Kd.R_far (p := ⟨go37, (a1 : Int).toNat * 7 + 6, none⟩) (Kd.R_far (p := ⟨go37, (a1 : Int).toNat * 7 + 5, none⟩) (Kd.R_far (p := ⟨go37, (a1 : Int).toNat * 7 + 4, none⟩) (Kd.R_far (p := ⟨go37, (a1 : Int).toNat * 7 + 3, none⟩) (Kd.R_far (p := ⟨go37, (a1 : Int).toNat * 7 + 2, none⟩) (Kd.R_far (p := ⟨go37, (a1 : Int).toNat * 7 + 1, none⟩) (Kd.R_far (p := ⟨go37, (a1 : Int).toNat * 7, none⟩) (Kd.R_types HO402.out GG37.out (by decide)) (fun _ hk => hk.2) (.bool t404)) (fun _ hk => hk.2) (.int .i64 t405)) (fun _ hk => hk.2) (.int .i64 t406)) (fun _ hk => hk.2) (.int .i64 t407)) (fun _ hk => hk.2) (.int .i64 t408)) (fun _ hk => hk.2) (.int .i64 t409)) (fun _ hk => hk.2) (.int .i64 t410)) (fun _ hk => trivial)⟩
    have n2_ : Aside0 ((((((((w52.setCell ⟨go37, (a1 : Int).toNat * 7, none⟩ (.bool t404)).setCell ⟨go37, (a1 : Int).toNat * 7 + 1, none⟩ (.int .i64 t405)).setCell ⟨go37, (a1 : Int).toNat * 7 + 2, none⟩ (.int .i64 t406)).setCell ⟨go37, (a1 : Int).toNat * 7 + 3, none⟩ (.int .i64 t407)).setCell ⟨go37, (a1 : Int).toNat * 7 + 4, none⟩ (.int .i64 t408)).setCell ⟨go37, (a1 : Int).toNat * 7 + 5, none⟩ (.int .i64 t409)).setCell ⟨go37, (a1 : Int).toNat * 7 + 6, none⟩ (.int .i64 t410)).heap[gb392]? = some (.cells #[.slice (some ad399) l0_0.length c0_0] 28 (0, 0))) := ⟨by (with_reducible repeat (first | refine blk_drewN ?_ _ | refine blk_drew ?_ | refine blk_alloc ?_ _)); refine blk_far ?_ z110_ _; (with_reducible repeat (first | refine blk_drewN ?_ _ | refine blk_drew ?_ | refine blk_alloc ?_ _)); refine blk_far ?_ z110_ _; (with_reducible repeat (first | refine blk_drewN ?_ _ | refine blk_drew ?_ | refine blk_alloc ?_ _)); refine blk_far ?_ z110_ _; (with_reducible repeat (first | refine blk_drewN ?_ _ | refine blk_drew ?_ | refine blk_alloc ?_ _)); refine blk_far ?_ z110_ _; (with_reducible repeat (first | refine blk_drewN ?_ _ | refine blk_drew ?_ | refine blk_alloc ?_ _)); refine blk_far ?_ z110_ _; (with_reducible repeat (first | refine blk_drewN ?_ _ | refine blk_drew ?_ | refine blk_alloc ?_ _)); refine blk_far ?_ z110_ _; (with_reducible repeat (first | refine blk_drewN ?_ _ | refine blk_drew ?_ | refine blk_alloc ?_ _)); refine blk_far ?_ z110_ _; (with_reducible repeat (first | refine blk_drewN ?_ _ | refine blk_drew ?_ | refine blk_alloc ?_ _)); exact BK392.out⟩
    have n3_ : Aside0 ((((((((w52.setCell ⟨go37, (a1 : Int).toNat * 7, none⟩ (.bool t404)).setCell ⟨go37, (a1 : Int).toNat * 7 + 1, none⟩ (.int .i64 t405)).setCell ⟨go37, (a1 : Int).toNat * 7 + 2, none⟩ (.int .i64 t406)).setCell ⟨go37, (a1 : Int).toNat * 7 + 3, none⟩ (.int .i64 t407)).setCell ⟨go37, (a1 : Int).toNat * 7 + 4, none⟩ (.int .i64 t408)).setCell ⟨go37, (a1 : Int).toNat * 7 + 5, none⟩ (.int .i64 t409)).setCell ⟨go37, (a1 : Int).toNat * 7 + 6, none⟩ (.int .i64 t410)).heap[gb393]? = some (.cells #[.slice none 0 0] 28 (0, 0))) := ⟨by (with_reducible repeat (first | refine blk_drewN ?_ _ | refine blk_drew ?_ | refine blk_alloc ?_ _)); refine blk_far ?_ z111_ _; (with_reducible repeat (first | refine blk_drewN ?_ _ | refine blk_drew ?_ | refine blk_alloc ?_ _)); refine blk_far ?_ z111_ _; (with_reducible repeat (first | refine blk_drewN ?_ _ | refine blk_drew ?_ | refine blk_alloc ?_ _)); refine blk_far ?_ z111_ _; (with_reducible repeat (first | refine blk_drewN ?_ _ | refine blk_drew ?_ | refine blk_alloc ?_ _)); refine blk_far ?_ z111_ _; (with_reducible repeat (first | refine blk_drewN ?_ _ | refine blk_drew ?_ | refine blk_alloc ?_ _)); refine blk_far ?_ z111_ _; (with_reducible repeat (first | refine blk_drewN ?_ _ | refine blk_drew ?_ | refine blk_alloc ?_ _)); refine blk_far ?_ z111_ _; (with_reducible repeat (first | refine blk_drewN ?_ _ | refine blk_drew ?_ | refine blk_alloc ?_ _)); refine blk_far ?_ z111_ _; (with_reducible repeat (first | refine blk_drewN ?_ _ | refine blk_drew ?_ | refine blk_alloc ?_ _)); exact BK393.out⟩
    have n4_ : Aside0 ((((((((w52.setCell ⟨go37, (a1 : Int).toNat * 7, none⟩ (.bool t404)).setCell ⟨go37, (a1 : Int).toNat * 7 + 1, none⟩ (.int .i64 t405)).setCell ⟨go37, (a1 : Int).toNat * 7 + 2, none⟩ (.int .i64 t406)).setCell ⟨go37, (a1 : Int).toNat * 7 + 3, none⟩ (.int .i64 t407)).setCell ⟨go37, (a1 : Int).toNat * 7 + 4, none⟩ (.int .i64 t408)).setCell ⟨go37, (a1 : Int).toNat * 7 + 5, none⟩ (.int .i64 t409)).setCell ⟨go37, (a1 : Int).toNat * 7 + 6, none⟩ (.int .i64 t410)).heap[gb397]? = some (.cells #[.slice (some ⟨go37, 0, none⟩) t394.length co11] 28 (0, 0))) := ⟨by (with_reducible repeat (first | refine blk_drewN ?_ _ | refine blk_drew ?_ | refine blk_alloc ?_ _)); refine blk_far ?_ z112_ _; (with_reducible repeat (first | refine blk_drewN ?_ _ | refine blk_drew ?_ | refine blk_alloc ?_ _)); refine blk_far ?_ z112_ _; (with_reducible repeat (first | refine blk_drewN ?_ _ | refine blk_drew ?_ | refine blk_alloc ?_ _)); refine blk_far ?_ z112_ _; (with_reducible repeat (first | refine blk_drewN ?_ _ | refine blk_drew ?_ | refine blk_alloc ?_ _)); refine blk_far ?_ z112_ _; (with_reducible repeat (first | refine blk_drewN ?_ _ | refine blk_drew ?_ | refine blk_alloc ?_ _)); refine blk_far ?_ z112_ _; (with_reducible repeat (first | refine blk_drewN ?_ _ | refine blk_drew ?_ | refine blk_alloc ?_ _)); refine blk_far ?_ z112_ _; (with_reducible repeat (first | refine blk_drewN ?_ _ | refine blk_drew ?_ | refine blk_alloc ?_ _)); refine blk_far ?_ z112_ _; (with_reducible repeat (first | refine blk_drewN ?_ _ | refine blk_drew ?_ | refine blk_alloc ?_ _)); exact BK397.out⟩
    have n5_ : Aside0 (Below w.heap.size w (((((((w52.setCell ⟨go37, (a1 : Int).toNat * 7, none⟩ (.bool t404)).setCell ⟨go37, (a1 : Int).toNat * 7 + 1, none⟩ (.int .i64 t405)).setCell ⟨go37, (a1 : Int).toNat * 7 + 2, none⟩ (.int .i64 t406)).setCell ⟨go37, (a1 : Int).toNat * 7 + 3, none⟩ (.int .i64 t407)).setCell ⟨go37, (a1 : Int).toNat * 7 + 4, none⟩ (.int .i64 t408)).setCell ⟨go37, (a1 : Int).toNat * 7 + 5, none⟩ (.int .i64 t409)).setCell ⟨go37, (a1 : Int).toNat * 7 + 6, none⟩ (.int .i64 t410))) := ⟨by repeat (first | (with_reducible first | exact HB.out | apply below_alloc | apply pw_below_drewN | apply below_drew1 | refine below_set ?_ GB37.out | refine below_set ?_ GB37.out | refine below_set ?_ GB37.out | refine below_set ?_ GB37.out | refine below_set ?_ GB37.out | refine below_set ?_ GB37.out | refine below_set ?_ GB37.out | refine below_set ?_ GE392.out | refine below_set ?_ GE393.out | refine below_set ?_ GE397.out) | exact HB.out)⟩
    (try clear HO_398000)
    (try clear HO402)
    (try clear BK392)
    (try clear BK393)
    (try clear BK397)
    (try clear HB)
    generalize (((((((w52.setCell ⟨go37, (a1 : Int).toNat * 7, none⟩ (.bool t404)).setCell ⟨go37, (a1 : Int).toNat * 7 + 1, none⟩ (.int .i64 t405)).setCell ⟨go37, (a1 : Int).toNat * 7 + 2, none⟩ (.int .i64 t406)).setCell ⟨go37, (a1 : Int).toNat * 7 + 3, none⟩ (.int .i64 t407)).setCell ⟨go37, (a1 : Int).toNat * 7 + 4, none⟩ (.int .i64 t408)).setCell ⟨go37, (a1 : Int).toNat * 7 + 5, none⟩ (.int .i64 t409)).setCell ⟨go37, (a1 : Int).toNat * 7 + 6, none⟩ (.int .i64 t410)) = w54 at n0_ n1_ n2_ n3_ n4_ n5_ ⊢
    have HO_398000 := n0_
    have HO402 := n1_
    have BK392 := n2_
    have BK393 := n3_
    have BK397 := n4_
    have HB := n5_
    clear n0_ n1_ n2_ n3_ n4_ n5_
    try go_wp2
    have n0_ := Aside0.mk (Kd.R_drew HO_398000.out)
    have n1_ := Aside0.mk (Kd.R_drew HO402.out)
    have n2_ := Aside0.mk (blk_drew BK392.out)
    have n3_ := Aside0.mk (blk_drew BK393.out)
    have n4_ := Aside0.mk (blk_drew BK397.out)
    have n5_ := Aside0.mk (below_drew1 HB.out)
    clear HO_398000
    clear HO402
    clear BK392
    clear BK393
    clear BK397
    clear HB
    have HO_398000 := n0_
    have HO402 := n1_
    have BK392 := n2_
    have BK393 := n3_
    have BK397 := n4_
    have HB := n5_
    clear n0_ n1_ n2_ n3_ n4_ n5_
    have q56 : (t403 : Int) ≤ ((t400.length : Int) : Int) := odt_
    obtain ⟨i056, hi056, _, hsz56, _⟩ := info_parts info3
    have hroom56 : t400.length ≤ co50 := (Kd.R_reads' HO402.out).2.1
    have hC56 : Kd.F (Kd.int .i64) _ _ Ao50 t400.length t400 := (Kd.V_at (base := w.heap.size) (Kd.R_V (Kd.R_types (Kd.R_types (Kd.R_types (Kd.R_apart' (HO402.out) (Kd.R_typed HO_398000.out) (by decide)) BK392.out (by decide)) BK393.out (by decide)) BK397.out (by decide)))).2.2
    have hcut56 := cut_to (P := Try.prog) 49 3 .i64 Try.underlying49 hi056 Ao50 t400.length co50 t403 (odt_) q56 hroom56
    have hr56 := Kd.F_take (m := (t403 : Int).toNat) hC56 (by omega)
    have hy56 : y412.length = (t403 : Int).toNat := (by rw [Ny412.out, List.length_take]; omega)
    rw [← Ny412.out] at hr56
    rw [← hy56] at hcut56
    have HO416 := Aside0.mk (show Kd.V (Kd.int .i64) 3 _ w.heap.size _ (.slice Ao50 y412.length co50) y412 from Kd.V_mk (by omega) hr56)
    have HC416 := Aside0.mk (show y412.length ≤ co50 from by omega)
    clear hr56 hC56 hroom56 hi056 hsz56
    have KY56 := Aside0.mk hy56
    clear hy56
    replace q56 := eq_true q56
    have q57 : ((ji41) : Int) ≤ ((t400.length : Int) : Int) := odt_
    obtain ⟨i057, hi057, _, hsz57, _⟩ := info_parts info3
    have hroom57 : t400.length ≤ co50 := (Kd.R_reads' HO402.out).2.1
    have hC57 : Kd.F (Kd.int .i64) _ _ Ao50 t400.length t400 := (Kd.V_at (base := w.heap.size) (Kd.R_V (Kd.R_types (Kd.R_types (Kd.R_types (Kd.R_apart' (HO402.out) (Kd.R_typed HO_398000.out) (by decide)) BK392.out (by decide)) BK393.out (by decide)) BK397.out (by decide)))).2.2
    have q057 : (0 : Int) ≤ ((ji41) : Int) := odt_
    have hcut57 := cut_from (P := Try.prog) 49 3 .i64 Try.underlying49 hi057 1 hsz57 Ao50 t400.length co50 (ji41) q057 q57
    have hr57 := Kd.F_cut (m := ((ji41) : Int).toNat) (c := co50) hC57 (by omega) hroom57
    obtain ⟨A57, hA57⟩ : ∃ A1, A1 = (if co50 = ((ji41) : Int).toNat then Ao50 else (Ao50 : Option Addr).map (·.add (((ji41) : Int).toNat * 1))) := ⟨_, rfl⟩
    obtain ⟨c57, hc57⟩ : ∃ c1, c1 = co50 - ((ji41) : Int).toNat := ⟨_, rfl⟩
    have hy57 : y420.length = t400.length - ((ji41) : Int).toNat := (by rw [Ny420.out, List.length_drop] <;> omega)
    rw [show (t400).drop ((ji41) : Int).toNat = y420 from Ny420.out.symm] at hr57
    replace hr57 : Kd.F (Kd.int .i64) _ _ A57 y420.length y420 := (by rw [hA57]; exact hr57)
    rw [← hy57, ← hA57, ← hc57] at hcut57
    have HO424 := Aside0.mk (show Kd.V (Kd.int .i64) 3 _ w.heap.size _ (.slice A57 y420.length c57) y420 from Kd.V_mk (by rw [hy57, hc57]; exact Nat.sub_le_sub_right hroom57 _) hr57)
    have HC424 := Aside0.mk (show y420.length ≤ c57 from by rw [hy57, hc57]; exact Nat.sub_le_sub_right hroom57 _)
    clear hr57 hC57 hroom57 hi057 hsz57 hc57
    have KY57 := Aside0.mk hy57
    have KA57 := Aside0.mk hA57
    clear hy57 hA57
    replace q57 := eq_true q57
    refine start_ (n := 15) (S := fun w' => w'.cell? ⟨gb397, 0, none⟩ = some (.slice (some ⟨go37, 0, none⟩) t394.length co11) ∧ w'.cell? ⟨gb392, 0, none⟩ = some (.slice (some ad399) l0_0.length c0_0)) (ds := []) (fl_ 15 0) (by kernel_rfl) rfl (fl_zero _) ⟨(blk_cell BK397.out 0).trans rfl, (blk_cell BK392.out 0).trans rfl⟩ (fun hHeld => ?_); refine with_tabW impl_DomDelete.tab8 impl_DomDelete.bits8 (fun HT_ HW_ => ?_)
    generalize w54.drew = w55 at HO_398000 HO402 BK392 BK393 BK397 HB HO416 HO424 hHeld ⊢
    refine zpg_ (i := 1) (ra_ [0, 1, 1, 13]) HT_ rfl rfl (by kernel_rfl) (fun _ _ _ h => h) (by rfl) ?_
    refine zpg_ (i := 2) (ra_ [0, 1, 2, 12]) HT_ rfl rfl (by kernel_rfl) (fun _ _ _ h => h) (by rfl) ?_
    refine zpg_ (i := 3) (ra_ [0, 1, 3, 11]) HT_ rfl rfl (by kernel_rfl) (fun _ _ _ h => h) (by rfl) ?_
    refine zpg_ (i := 4) (ra_ [0, 1, 4, 10]) HT_ rfl rfl (by kernel_rfl) (fun _ _ _ h => h) (by rfl) ?_
    refine zpg_ (i := 6) (ra_ [0, 1, 4, 1, 1, 8]) HT_ rfl rfl (by kernel_rfl) (fun _ _ _ h => h) (by rfl) ?_
    refine zpg_ (i := 8) (ra_ [0, 1, 4, 1, 1, 1, 1, 6]) HT_ rfl rfl (by kernel_rfl) (fun _ _ _ h => h) (by rfl) ?_
    refine zpg_ (i := 9) (ra_ [0, 1, 4, 1, 1, 1, 2, 5]) HT_ rfl rfl (by kernel_rfl) (fun _ _ _ h => h) (by rfl) ?_
    refine zpg_ (i := 10) (ra_ [0, 1, 4, 1, 1, 1, 3, 4]) HT_ rfl rfl (by kernel_rfl) (fun _ _ _ h => h) (by rfl) ?_
    refine zpg_ (i := 11) (ra_ [0, 1, 4, 1, 1, 1, 4, 3]) HT_ rfl rfl (by kernel_rfl) (fun _ _ _ h => h) (by rfl) ?_
    refine ztg_ (i := 0) (ra_ [5, 1, 1, 1, 4, 3]) HT_ HW_ rfl rfl (by kernel_rfl) (fun _ _ _ h => h) (by rfl) hHeld ?_ z184_
    refine ztg_ (i := 5) (ra_ [7, 1, 4, 3]) HT_ HW_ rfl rfl (by kernel_rfl) (fun _ _ _ h => h) (by rfl) hHeld ?_ z184_
    refine one_ (i := 7) (N := some 45) (fl_ 15 12) rfl rfl (one_of HT_.out (by kernel_rfl)) (by decide) (fun K hK => ?_)
    refine goes_ Try.func73 (by kernel_rfl) rfl #[.agg #[.slice (some ad399) l0_0.length c0_0], .int .i64 a1] (by rfl) rfl rfl z1_ ?_
    with_reducible refine (impl_Dom_kids.calls kj3 _ _ l0_0 a1 t417 _ ?side1 ?side2 A40.out).mono ?_
    (case side1 => exact z10_)
    (case side2 => exact HC0_0.out)
    rintro e w58 ⟨v418, rfl, ho0, hb⟩
    refine ⟨_, rfl, ?_⟩
    have n0_ := Aside0.mk (Kd.R_below z98_ hb)
    have n1_ := Aside0.mk (Kd.R_elder' z99_ (Kd.R_base ho0) hb)
    have n2_ := Aside0.mk (Kd.V_elder' z213_ (Kd.R_base ho0) hb)
    have n3_ := Aside0.mk (Kd.V_elder' z214_ (Kd.R_base ho0) hb)
    have n4_ := Aside0.mk (Kd.R_lower (Kd.R_new' ho0 (Kd.R_lt z99_)) (below_size z16_))
    have n5_ := Aside0.mk (blk_below (g := gb392) (o := .cells #[.slice (some ad399) l0_0.length c0_0] 28 (0, 0)) z48_ hb)
    have n6_ := Aside0.mk (blk_below (g := gb393) (o := .cells #[.slice none 0 0] 28 (0, 0)) z52_ hb)
    have n7_ := Aside0.mk (blk_below (g := gb397) (o := .cells #[.slice (some ⟨go37, 0, none⟩) t394.length co11] 28 (0, 0)) z68_ hb)
    have n8_ := Aside0.mk (below_step z16_ hb)
    clear HO_398000
    clear HO402
    clear HO416
    clear HO424
    clear BK392
    clear BK393
    clear BK397
    clear HB
    have HO_398000 := n0_
    have HO402 := n1_
    have HO416 := n2_
    have HO424 := n3_
    have HO419 := n4_
    have BK392 := n5_
    have BK393 := n6_
    have BK397 := n7_
    have HB := n8_
    clear n0_ n1_ n2_ n3_ n4_ n5_ n6_ n7_ n8_
    (try clear hb)
    (try clear hb2)
    (try clear hk)
    (try clear hi)
    (try clear ho0)
    obtain ⟨Ao59, co59, eo59⟩ := Kd.R_slice HO419.out
    (first | subst eo59 | (injection eo59 with f1_ f2_ f3_; have f4_ := f1_.symm; have f5_ := f3_.symm; clear f1_ f2_ f3_; subst f4_; subst f5_))
    refine hK.out _ _ ⟨(blk_cell BK397.out 0).trans rfl, (blk_cell BK392.out 0).trans rfl⟩ (fun hHeld => ?_)
    clear hK K
    refine zn_ rfl ?_
    refine one_ (i := 12) (N := some 50) (fl_ 15 13) rfl rfl (one_of HT_.out (by kernel_rfl)) (by decide) (fun K hK => ?_)
    refine Kd.N_lit_step (Kd.slice 3 (Kd.int .i64)) _ 49 ?hg (N' := 50) ?hd (xs := ([y412, t417, y420] : List (List Int))) (inner := [.slice Ao50 y412.length co50, .slice Ao59 t417.length co59, .slice A57 y420.length c57]) (ok := (fun k_ => some k_ ≠ (.slice (some ⟨go37, 0, none⟩) t394.length co11 : Value).ownBlock ∧ k_ ≠ gb392 ∧ k_ ≠ gb393 ∧ k_ ≠ gb397)) (okp := (fun k_ => some k_ ≠ (.slice (some ⟨go37, 0, none⟩) t394.length co11 : Value).ownBlock ∧ k_ ≠ gb392 ∧ k_ ≠ gb393 ∧ k_ ≠ gb397)) ?hr ?hp (fun _ hk => hk) ((show ∀ k_, w58.heap.size ≤ k_ → (fun k_ => some k_ ≠ (.slice (some ⟨go37, 0, none⟩) t394.length co11 : Value).ownBlock ∧ k_ ≠ gb392 ∧ k_ ≠ gb393 ∧ k_ ≠ gb397) k_ from fun k_ hk => ⟨Kd.fresh' (Kd.R_lt z98_) k_ hk, Kd.freshB (g := gb392) (o := .cells #[.slice (some ad399) l0_0.length c0_0] 28 (0, 0)) z48_ k_ hk, Kd.freshB (g := gb393) (o := .cells #[.slice none 0 0] 28 (0, 0)) z52_ k_ hk, Kd.freshB (g := gb397) (o := .cells #[.slice (some ⟨go37, 0, none⟩) t394.length co11] 28 (0, 0)) z68_ k_ hk⟩) _ (Nat.le_refl _)) (Below.refl _ _) (Nat.le_refl _) (by simp) ?_; (case hd => rfl); (case hg => rfl); (case hr => exact z25_); (case hp => exact (Reps.one (show Kd.FK (Kd.slice 3 (Kd.int .i64)) _ _ y412 [.slice Ao50 y412.length co50] from (Kd.FK_slice_mk (Kd.V_reads' (Kd.V_mono (ok' := (fun k_ => some k_ ≠ (.slice (some ⟨go37, 0, none⟩) t394.length co11 : Value).ownBlock ∧ k_ ≠ gb392 ∧ k_ ≠ gb393 ∧ k_ ≠ gb397)) (HO416.out) (fun k_ hk => ⟨hk.1.1.1.1.2, ⟨hk.1.1.1.2, ⟨hk.1.1.2, hk.1.2⟩⟩⟩))).2.1 (Kd.V_F (Kd.V_mono (ok' := (fun k_ => some k_ ≠ (.slice (some ⟨go37, 0, none⟩) t394.length co11 : Value).ownBlock ∧ k_ ≠ gb392 ∧ k_ ≠ gb393 ∧ k_ ≠ gb397)) (HO416.out) (fun k_ hk => ⟨hk.1.1.1.1.2, ⟨hk.1.1.1.2, ⟨hk.1.1.2, hk.1.2⟩⟩⟩))))) (Reps.one (show Kd.FK (Kd.slice 3 (Kd.int .i64)) _ _ t417 [.slice Ao59 t417.length co59] from (Kd.FK_slice_mk (Kd.R_reads' (Kd.R_mono (ok' := (fun k_ => some k_ ≠ (.slice (some ⟨go37, 0, none⟩) t394.length co11 : Value).ownBlock ∧ k_ ≠ gb392 ∧ k_ ≠ gb393 ∧ k_ ≠ gb397)) (Kd.R_types (Kd.R_types (Kd.R_types (Kd.R_apart' (HO419.out) (Kd.R_typed HO_398000.out) (by decide)) BK392.out (by decide)) BK393.out (by decide)) BK397.out (by decide)) (fun k_ hk => ⟨hk.1.1.1.2, ⟨hk.1.1.2, ⟨hk.1.2, hk.2⟩⟩⟩))).2.1 (Kd.R_F (Kd.R_mono (ok' := (fun k_ => some k_ ≠ (.slice (some ⟨go37, 0, none⟩) t394.length co11 : Value).ownBlock ∧ k_ ≠ gb392 ∧ k_ ≠ gb393 ∧ k_ ≠ gb397)) (Kd.R_types (Kd.R_types (Kd.R_types (Kd.R_apart' (HO419.out) (Kd.R_typed HO_398000.out) (by decide)) BK392.out (by decide)) BK393.out (by decide)) BK397.out (by decide)) (fun k_ hk => ⟨hk.1.1.1.2, ⟨hk.1.1.2, ⟨hk.1.2, hk.2⟩⟩⟩))))) (Reps.one (show Kd.FK (Kd.slice 3 (Kd.int .i64)) _ _ y420 [.slice A57 y420.length c57] from (Kd.FK_slice_mk (Kd.V_reads' (Kd.V_mono (ok' := (fun k_ => some k_ ≠ (.slice (some ⟨go37, 0, none⟩) t394.length co11 : Value).ownBlock ∧ k_ ≠ gb392 ∧ k_ ≠ gb393 ∧ k_ ≠ gb397)) (HO424.out) (fun k_ hk => ⟨hk.1.1.1.1.2, ⟨hk.1.1.1.2, ⟨hk.1.1.2, hk.1.2⟩⟩⟩))).2.1 (Kd.V_F (Kd.V_mono (ok' := (fun k_ => some k_ ≠ (.slice (some ⟨go37, 0, none⟩) t394.length co11 : Value).ownBlock ∧ k_ ≠ gb392 ∧ k_ ≠ gb393 ∧ k_ ≠ gb397)) (HO424.out) (fun k_ hk => ⟨hk.1.1.1.1.2, ⟨hk.1.1.1.2, ⟨hk.1.1.2, hk.1.2⟩⟩⟩))))) (Reps.none _ _)))))
    intro v426 w60 ho61 hb hg_ hnew_
    clear hg_ hnew_
    (first | rw [← Ny425.out] at ho61 | (simp only [Int.reduceToNat] at ho61; rw [← Ny425.out] at ho61))
    have n0_ := Aside0.mk (Kd.R_below z98_ hb)
    have n1_ := Aside0.mk (Kd.R_below z99_ hb)
    have n2_ := Aside0.mk (Kd.V_elder' z213_ (Kd.N_base ho61) hb)
    have n3_ := Aside0.mk (Kd.V_elder' z214_ (Kd.N_base ho61) hb)
    have n4_ := Aside0.mk (Kd.N_lower ho61 (below_size z16_))
    have n5_ := Aside0.mk (blk_below (g := gb392) (o := .cells #[.slice (some ad399) l0_0.length c0_0] 28 (0, 0)) z48_ hb)
    have n6_ := Aside0.mk (blk_below (g := gb393) (o := .cells #[.slice none 0 0] 28 (0, 0)) z52_ hb)
    have n7_ := Aside0.mk (blk_below (g := gb397) (o := .cells #[.slice (some ⟨go37, 0, none⟩) t394.length co11] 28 (0, 0)) z68_ hb)
    have n8_ := Aside0.mk (below_step z16_ hb)
    clear HO_398000
    clear HO402
    clear HO416
    clear HO424
    clear BK392
    clear BK393
    clear BK397
    clear HB
    clear HO419
    have HO_398000 := n0_
    have HO402 := n1_
    have HO416 := n2_
    have HO424 := n3_
    have HO427 := n4_
    have BK392 := n5_
    have BK393 := n6_
    have BK397 := n7_
    have HB := n8_
    clear n0_ n1_ n2_ n3_ n4_ n5_ n6_ n7_ n8_
    clear hb ho61
    obtain ⟨Ao62, co62, eo62⟩ := Kd.N_slice HO427.out
    (first | subst eo62 | (injection eo62 with f1_ f2_ f3_; have f4_ := f1_.symm; have f5_ := f3_.symm; clear f1_ f2_ f3_; subst f4_; subst f5_))
    refine hK.out _ _ ⟨(blk_cell BK397.out 0).trans rfl, (blk_cell BK392.out 0).trans rfl⟩ (fun hHeld => ?_)
    clear hK K
    refine zn_ rfl ?_
    refine one_ (i := 13) (N := some 51) (fl_ 15 14) rfl rfl (one_of HT_.out (by kernel_rfl)) (by decide) (fun K hK => ?_)
    refine goes_ Try.func75 (by kernel_rfl) rfl #[.slice Ao62 y425.length co62] (by rfl) rfl rfl z1_ ?_
    with_reducible refine (slices_Concat_int.calls kj3 _ _ y425 t428 _ ?side1 ?side2 A44.out).mono ?_
    (case side1 => repeat (first | exact (Kd.N_reads' HO427.out).2.2 | (with_reducible refine Kd.C_alloc ?_ _) | (with_reducible refine Kd.C_drewN ?_ _) | (with_reducible refine Kd.C_drew ?_)))
    (case side2 => exact (Kd.N_reads' HO427.out).2.1)
    rintro e w63 ⟨v429, rfl, ho0, hb⟩
    refine ⟨_, rfl, ?_⟩
    have n0_ := Aside0.mk (Kd.R_below z98_ hb)
    have n1_ := Aside0.mk (Kd.R_elder' z99_ (Kd.R_base ho0) hb)
    have n2_ := Aside0.mk (Kd.V_elder' z213_ (Kd.R_base ho0) hb)
    have n3_ := Aside0.mk (Kd.V_elder' z214_ (Kd.R_base ho0) hb)
    have n4_ := Aside0.mk (Kd.N_elder' (by (with_reducible repeat (first | apply Kd.N_alloc | apply Kd.N_drewN | apply Kd.N_drew)); exact HO427.out) (Kd.R_base ho0) hb)
    have n5_ := Aside0.mk (Kd.R_lower (Kd.R_new' ho0 (Kd.R_lt z99_)) (below_size z16_))
    have n6_ := Aside0.mk (blk_below (g := gb392) (o := .cells #[.slice (some ad399) l0_0.length c0_0] 28 (0, 0)) z48_ hb)
    have n7_ := Aside0.mk (blk_below (g := gb393) (o := .cells #[.slice none 0 0] 28 (0, 0)) z52_ hb)
    have n8_ := Aside0.mk (blk_below (g := gb397) (o := .cells #[.slice (some ⟨go37, 0, none⟩) t394.length co11] 28 (0, 0)) z68_ hb)
    have n9_ := Aside0.mk (below_step z16_ hb)
    clear HO_398000
    clear HO402
    clear HO416
    clear HO424
    clear HO427
    clear BK392
    clear BK393
    clear BK397
    clear HB
    have HO_398000 := n0_
    have HO402 := n1_
    have HO416 := n2_
    have HO424 := n3_
    have HO427 := n4_
    have HO430 := n5_
    have BK392 := n6_
    have BK393 := n7_
    have BK397 := n8_
    have HB := n9_
    clear n0_ n1_ n2_ n3_ n4_ n5_ n6_ n7_ n8_ n9_
    (try clear hb)
    (try clear hb2)
    (try clear hk)
    (try clear hi)
    (try clear ho0)
    obtain ⟨Ao64, co64, eo64⟩ := Kd.R_slice HO430.out
    (first | subst eo64 | (injection eo64 with f1_ f2_ f3_; have f4_ := f1_.symm; have f5_ := f3_.symm; clear f1_ f2_ f3_; subst f4_; subst f5_))
    refine hK.out _ _ ⟨(blk_cell BK397.out 0).trans rfl, (blk_cell BK392.out 0).trans rfl⟩ (fun hHeld => ?_)
    clear hK K
    refine zn_ rfl ?_
    refine one_ (i := 14) (N := some 52) (fl_ 15 15) rfl rfl (one_of HT_.out (by kernel_rfl)) (by decide) (fun K hK => ?_)
    refine goes_ Try.func74 (by kernel_rfl) rfl #[.agg #[.slice (some ⟨go37, 0, none⟩) t394.length co11], .int .i64 ((rd_T72 l0_0 a1).f2), .slice Ao64 t428.length co64] (by rfl) rfl rfl z1_ ?_
    with_reducible refine (impl_Dom_link.calls kj3 (fun k_ => some k_ = (.slice (some ⟨go37, 0, none⟩) t394.length co11 : Value).ownBlock) (.slice (some ⟨go37, 0, none⟩) t394.length co11) y411 ((rd_T72 l0_0 a1).f2) _ _ t428 t431 w _ ?side1 ?side2 ?side3 ?side4 A45.out).mono ?_
    (case side1 => exact z16_)
    (case side2 => exact Kd.R_tight rfl HO_398000.out)
    (case side3 => exact Kd.C_kept_own ((Kd.R_apart' HO430.out (Kd.R_typed HO_398000.out) (by decide))) (fun k_ hk_ hs_ => (hk_.2) hs_))
    (case side4 => exact (Kd.R_reads' HO430.out).2.1)
    rintro e w65 ⟨rfl, hy0, hb, hkp⟩
    refine ⟨_, rfl, ?_⟩
    have n0_ := Aside0.mk (Kd.R_reok rfl hy0 (fun k_ e_ => HO_398000.out.1 k_ e_))
    have n1_ := Aside0.mk (blk_kept z48_ hkp (fun hs_ => (fun e_ => (Kd.R_ne HO_398000.out BK392.out (by decide)) e_) hs_))
    have n2_ := Aside0.mk (blk_kept z52_ hkp (fun hs_ => (fun e_ => (Kd.R_ne HO_398000.out BK393.out (by decide)) e_) hs_))
    have n3_ := Aside0.mk (blk_kept z68_ hkp (fun hs_ => (fun e_ => (Kd.R_ne HO_398000.out BK397.out (by decide)) e_) hs_))
    have n4_ := Aside0.mk (Kd.R_mono (ok' := fun k_ => some k_ ≠ (.slice Ao64 t428.length co64 : Value).ownBlock) (Kd.R_keptB ((Kd.R_apart' HO402.out (Kd.R_typed HO_398000.out) (by decide))) hkp (fun k_ hk_ hs_ => (hk_.2) hs_)) (fun k_ hk_ => hk_.1.1.2))
    have n5_ := Aside0.mk (Kd.V_mono (ok' := fun k_ => some k_ ≠ (.slice (some ⟨go37, 0, none⟩) t394.length co11 : Value).ownBlock ∧ some k_ ≠ (.slice Ao62 y425.length co62 : Value).ownBlock ∧ some k_ ≠ (.slice Ao64 t428.length co64 : Value).ownBlock ∧ k_ ≠ gb392 ∧ k_ ≠ gb393 ∧ k_ ≠ gb397) (Kd.V_keptB (HO416.out) hkp (fun k_ hk_ hs_ => (hk_.1.1.1.1.1.1.2) hs_)) (fun k_ hk_ => ⟨hk_.1.1.1.1.1.1.1.2, hk_.1.1.2, hk_.1.2, hk_.1.1.1.1.1.1.2, hk_.1.1.1.1.1.2, hk_.1.1.1.1.2⟩))
    have n6_ := Aside0.mk (Kd.V_mono (ok' := fun k_ => some k_ ≠ (.slice (some ⟨go37, 0, none⟩) t394.length co11 : Value).ownBlock ∧ some k_ ≠ (.slice Ao62 y425.length co62 : Value).ownBlock ∧ some k_ ≠ (.slice Ao64 t428.length co64 : Value).ownBlock ∧ k_ ≠ gb392 ∧ k_ ≠ gb393 ∧ k_ ≠ gb397) (Kd.V_keptB (HO424.out) hkp (fun k_ hk_ hs_ => (hk_.1.1.1.1.1.1.2) hs_)) (fun k_ hk_ => ⟨hk_.1.1.1.1.1.1.1.2, hk_.1.1.2, hk_.1.2, hk_.1.1.1.1.1.1.2, hk_.1.1.1.1.1.2, hk_.1.1.1.1.2⟩))
    have n7_ := Aside0.mk (Kd.N_mono (ok' := fun k_ => some k_ ≠ (.slice (some ⟨go37, 0, none⟩) t394.length co11 : Value).ownBlock ∧ some k_ ≠ (.slice Ao64 t428.length co64 : Value).ownBlock ∧ k_ ≠ gb392 ∧ k_ ≠ gb393 ∧ k_ ≠ gb397) (Kd.N_keptB (HO427.out) hkp (fun k_ hk_ hs_ => (hk_.1.1) hs_)) (fun k_ hk_ => ⟨hk_.1.1.1, hk_.1.2, hk_.1.1.2.1, hk_.1.1.2.2.1, hk_.1.1.2.2.2⟩))
    have n8_ := Aside0.mk (Kd.R_mono (ok' := fun k_ => some k_ ≠ (.slice Ao50 t400.length co50 : Value).ownBlock) (Kd.R_keptB ((Kd.R_apart' HO430.out (Kd.R_typed HO_398000.out) (by decide))) hkp (fun k_ hk_ hs_ => (hk_.2) hs_)) (fun k_ hk_ => hk_.1.1.2))
    have n9_ := Aside0.mk (hb)
    clear HO_398000
    clear BK392
    clear BK393
    clear BK397
    clear HO402
    clear HO416
    clear HO424
    clear HO427
    clear HO430
    clear HB
    have HO_398000 := n0_
    have BK392 := n1_
    have BK393 := n2_
    have BK397 := n3_
    have HO402 := n4_
    have HO416 := n5_
    have HO424 := n6_
    have HO427 := n7_
    have HO430 := n8_
    have HB := n9_
    clear n0_ n1_ n2_ n3_ n4_ n5_ n6_ n7_ n8_ n9_
    (try clear hb)
    (try clear hkp)
    (try clear hy0)
    refine hK.out _ _ ⟨(blk_cell BK397.out 0).trans rfl, (blk_cell BK392.out 0).trans rfl⟩ (fun hHeld => ?_)
    clear hK K
    refine zn_ rfl ?_
    refine done_ (done_of HT_.out (by kernel_rfl)) ?_
    have hnb66 := NB397_393.out
    have hnc66 := NB393_397.out
    have hcz67_0 : w65.cell? ⟨gb397, 0, none⟩ = some (.slice (some ⟨go37, 0, none⟩) t394.length co11) := (blk_cell BK397.out 0).trans rfl
    have hfz67_0 := blk_frozen BK397.out 0
    have hcz68_0 : w65.cell? ⟨gb393, 0, none⟩ = some (.slice none 0 0) := (blk_cell BK393.out 0).trans rfl
    have hfz68_0 := blk_frozen BK393.out 0
    try go_wp2
    refine bodyPost_ret (results_ct rfl _ _ gb393 28 #[.slice (some ⟨go37, 0, none⟩) t394.length co11] (0, 0) _ rfl z122_ Try.underlying28 rfl (by kernel_rfl)) rfl ?_
    exact ⟨_, by first | rfl | (simp [errW_none, errW_some] <;> rfl) | (simp only [← hji41]; first | rfl | (simp [errW_none, errW_some] <;> rfl)) | (simp [*, errW_none, errW_some] <;> rfl), by (with_reducible repeat (first | apply Kd.R_alloc | apply Kd.R_drewN | apply Kd.R_drew)); exact Kd.R_mono (Kd.R_far (p := ⟨gb393, 0, none⟩) (Kd.R_types HO_398000.out BK393.out (by decide)) (fun _ hk => hk.2) (.slice (some ⟨go37, 0, none⟩) t394.length co11)) (fun _ hk => trivial), z16_⟩

end Go.Proofs.Ytdapeboajjidmab.PFnExactDomDelete
