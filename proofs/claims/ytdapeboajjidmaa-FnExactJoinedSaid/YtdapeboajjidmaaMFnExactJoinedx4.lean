/- Laid by a program of this session out of the kit's print for the law FnExactJoined: what it says of the machine is proved here, function by function; each contract under the conditions that it names. -/
import Derived.Test.YtdapeboajjidmaaMFnExactJoinedx1
import Derived.Test.YtdapeboajjidmaaMFnExactJoinedx2
import Derived.Test.YtdapeboajjidmaaMFnExactJoinedx0
import Derived.Test.YtdapeboajjidmaaMFnExactJoinedx3
namespace Go.Proofs.Ytdapeboajjidmaa.PFnExactJoined
open Go.RowKit Go.Proofs.YtdapeboajjidmaaW.PrintWords Go.Proofs.YtdapeboajjidmaaW.PrintLast Go.Proofs.YtdapeboajjidmaaW.PrintMore
attribute [local go_sem] max2_int min2_int max_two min_two max_three min_three max_four min_four   -- for this text's walks alone
set_option linter.unusedVariables false
set_option linter.unusedSimpArgs false

/-! ### impl_Joined: function 30 -/
def impl_Joined.l0 : Nat → List (S78) → List (S78) → Int → Int → Option ((List (S78)))
 | 0, _, _, _, _ => none
 | k + 1, x5, x12, x13, x14 => if x14 < x13 then (if 0 ≤ x14 then (if x14 < (x12.length : Int) then ((impl_opCopy.f ((rd_T78 x12 x14).f0) ((rd_T78 x12 x14).f1) ((rd_T78 x12 x14).f2) ((rd_T78 x12 x14).f3) ((rd_T78 x12 x14).f4)).bind fun bt204 => (if x5.length < 2513169434916 then (impl_Joined.l0 k (x5 ++ [(⟨bt204.1, bt204.2.1, bt204.2.2.1, bt204.2.2.2.1, bt204.2.2.2.2⟩ : S78)]) x12 x13 (wrap64 (x14 + 1))) else (none))) else (none)) else (none)) else (some x5)
def impl_Joined.f (k : Nat) (l0 : List (S78)) (l1 : List (S78)) : Option ((List (S78))) := (slices_Concat_Op.f k (([l0, l1] : List (List (S78))))).bind fun t199 => (impl_Joined.l0 k (([] : List (S78))) t199 (t199.length : Int) 0)
theorem impl_Joined.mono_l : ∀ k, (∀ y0 y1 y2 y3, LeO (impl_Joined.l0 k y0 y1 y2 y3) (impl_Joined.l0 (k + 1) y0 y1 y2 y3))
 | 0 => fun _ _ _ _ r h => by simp [impl_Joined.l0] at h
 | k + 1 => by
  have ih0 := impl_Joined.mono_l k
  ·intro y0 y1 y2 y3
   unfold impl_Joined.l0
   repeat' first | (with_reducible first | exact ih0 _ _ _ _ | exact slices_Concat_Op.mono _ _ | exact LeO.refl _ | exact LeO.none _ | refine LeO.ite ?_ ?_ | refine LeO.bind ?_ (fun _ => ?_)) | exact ih0 _ _ _ _ | exact slices_Concat_Op.mono _ _ | exact LeO.none _ | refine LeO.ite ?_ ?_ | refine LeO.bind ?_ (fun _ => ?_)
theorem impl_Joined.mono : ∀ a0 a1 k, LeO (impl_Joined.f k a0 a1) (impl_Joined.f (k + 1) a0 a1) := by
 intro a0 a1 k
 have ih0 := impl_Joined.mono_l k
 unfold impl_Joined.f
 repeat' first | (with_reducible first | exact ih0 _ _ _ _ | exact slices_Concat_Op.mono _ _ | exact LeO.refl _ | exact LeO.none _ | refine LeO.ite ?_ ?_ | refine LeO.bind ?_ (fun _ => ?_)) | exact ih0 _ _ _ _ | exact slices_Concat_Op.mono _ _ | exact LeO.none _ | refine LeO.ite ?_ ?_ | refine LeO.bind ?_ (fun _ => ?_)
set_option maxHeartbeats 8000000 in
set_option maxRecDepth 100000 in
theorem impl_Joined.calls (k : Nat) (P0_ : Nat → Prop) (A0 : Option Addr) (c0 : Nat) (l0 : List (S78)) (P1_ : Nat → Prop) (A1 : Option Addr) (c1 : Nat) (l1 : List (S78)) (r : List (S78)) (w : World) (hs0 : Kd.V k78 78 w w.heap.size (fun k_ => P0_ k_) (.slice A0 l0.length c0) l0) (hs1 : Kd.V k78 78 w w.heap.size (fun k_ => P1_ k_) (.slice A1 l1.length c1) l1) (h : impl_Joined.f k l0 l1 = some r) :
  Calls Try.prog 30 #[.slice A0 l0.length c0, .slice A1 l1.length c1] w fun e w' => ∃ v0_ : Value, e = .returned (v0_) ∧ Kd.S k78 78 w' w.heap.size (fun k_ => (w.heap.size ≤ k_)) v0_ r ∧ Below w.heap.size w w' := by
 have hu78 := Try.underlying78
 have HO0 := Aside0.mk (show Kd.V k78 78 w w.heap.size (fun k_ => ((P0_ k_ ∨ P1_ k_) ∨ w.heap.size ≤ k_)) (.slice A0 l0.length c0) l0 from Kd.V_mono hs0 (fun k_ hk => .inl (.inl hk)))
 have HO1 := Aside0.mk (show Kd.V k78 78 w w.heap.size (fun k_ => ((P0_ k_ ∨ P1_ k_) ∨ w.heap.size ≤ k_)) (.slice A1 l1.length c1) l1 from Kd.V_mono hs1 (fun k_ hk => .inl (.inr hk)))
 have HB := Aside0.mk (Below.refl w.heap.size w)
 have H : ((slices_Concat_Op.f k (([l0, l1] : List (List (S78))))).bind fun t199 => (impl_Joined.l0 k (([] : List (S78))) t199 (t199.length : Int) 0)) = some r := h
 clear h
 obtain ⟨y193, hy193⟩ : ∃ y_ : List (S78), y_ = (([] : List (S78))) := ⟨_, rfl⟩
 replace H : ((slices_Concat_Op.f k (([l0, l1] : List (List (S78))))).bind fun t199 => (impl_Joined.l0 k y193 t199 (t199.length : Int) 0)) = some r := by first | (rw [hy193]; with_reducible exact H) | (have H2_ := (Option.bind_some _ _).symm.trans H; rw [hy193]; with_reducible exact H2_) | (have H2_ := (Option.bind_some _ _).symm.trans H; with_reducible exact H2_) | with_reducible exact H | (rw [hy193]; exact H) | exact H
 have Ny193 := Aside0.mk hy193
 clear hy193
 obtain ⟨y196, hy196⟩ : ∃ y_ : List (List (S78)), y_ = (([l0, l1] : List (List (S78)))) := ⟨_, rfl⟩
 replace H : ((slices_Concat_Op.f k y196).bind fun t199 => (impl_Joined.l0 k y193 t199 (t199.length : Int) 0)) = some r := by first | (rw [hy196]; with_reducible exact H) | (have H2_ := (Option.bind_some _ _).symm.trans H; rw [hy196]; with_reducible exact H2_) | (have H2_ := (Option.bind_some _ _).symm.trans H; with_reducible exact H2_) | with_reducible exact H | (rw [hy196]; exact H) | exact H
 have Ny196 := Aside0.mk hy196
 clear hy196
 obtain ⟨t199, A3, H⟩ := bnd_ H
 have H' := Aside0.mk H
 clear H
 go_enter Try.func30, Try.ntmps30
 go_wp2_with (first | ((with_reducible refine gate_dst (N := 8) rfl ?_); refine Kd.S_lit k78 _ 78 ?hg (N := 8) ?hd (xs := ([] : List (S78))) (inner := []) (ok := (fun k_ => (w.heap.size ≤ k_))) (okp := (fun k_ => (w.heap.size ≤ k_))) ?hr ?hp (fun _ hk => hk) (below_size z0_) (Below.refl _ _) (Nat.le_refl _) (by simp) ?_; (case hd => rfl); (case hg => rfl); (case hr => exact z10_); (case hp => exact (Reps.none _ _)); intro v194 w4 ho5 hb hg_ hnew_; clear hg_ hnew_; (first | rw [← Ny193.out] at ho5 | (simp only [Int.reduceToNat] at ho5; rw [← Ny193.out] at ho5)); replace HO0 := Aside0.mk (Kd.V_elder' z30_ (Kd.S_base ho5) hb); replace HO1 := Aside0.mk (Kd.V_elder' z50_ (Kd.S_base ho5) hb); have HO195 := Aside0.mk (Kd.S_lower ho5 (below_size z0_)); replace HB := Aside0.mk (below_step z0_ hb); clear hb ho5) | ((with_reducible refine gate_dst (N := 11) rfl ?_); refine Kd.N_lit (Kd.slice 78 k78) _ 26 ?hg (N' := 11) ?hd (xs := ([l0, l1] : List (List (S78)))) (inner := [.slice A0 l0.length c0, .slice A1 l1.length c1]) (ok := (fun k_ => ((P0_ k_ ∨ P1_ k_) ∨ w.heap.size ≤ k_) ∧ some k_ ≠ (v194 : Value).ownBlock)) (okp := (fun k_ => ((P0_ k_ ∨ P1_ k_) ∨ w.heap.size ≤ k_) ∧ some k_ ≠ (v194 : Value).ownBlock)) ?hr ?hp (fun _ hk => hk) ((show ∀ k_, w4.heap.size ≤ k_ → (fun k_ => ((P0_ k_ ∨ P1_ k_) ∨ w.heap.size ≤ k_) ∧ some k_ ≠ (v194 : Value).ownBlock) k_ from fun k_ hk => ⟨(.inr (Nat.le_trans (below_size z0_) hk)), Kd.fresh' (Kd.S_lt z36_) k_ hk⟩) _ (Nat.le_refl _)) (Below.refl _ _) (Nat.le_refl _) (by simp) ?_; (case hd => rfl); (case hg => rfl); (case hr => exact z10_); (case hp => exact (Reps.one (show Kd.FK (Kd.slice 78 k78) _ _ l0 [.slice A0 l0.length c0] from (Kd.FK_slice_mk (Kd.V_reads' (Kd.V_mono (ok' := (fun k_ => ((P0_ k_ ∨ P1_ k_) ∨ w.heap.size ≤ k_) ∧ some k_ ≠ (v194 : Value).ownBlock)) (HO0.out) (fun k_ hk => ⟨hk.1, hk.2⟩))).2.1 (Kd.V_F (Kd.V_mono (ok' := (fun k_ => ((P0_ k_ ∨ P1_ k_) ∨ w.heap.size ≤ k_) ∧ some k_ ≠ (v194 : Value).ownBlock)) (HO0.out) (fun k_ hk => ⟨hk.1, hk.2⟩))))) (Reps.one (show Kd.FK (Kd.slice 78 k78) _ _ l1 [.slice A1 l1.length c1] from (Kd.FK_slice_mk (Kd.V_reads' (Kd.V_mono (ok' := (fun k_ => ((P0_ k_ ∨ P1_ k_) ∨ w.heap.size ≤ k_) ∧ some k_ ≠ (v194 : Value).ownBlock)) (HO1.out) (fun k_ hk => ⟨hk.1, hk.2⟩))).2.1 (Kd.V_F (Kd.V_mono (ok' := (fun k_ => ((P0_ k_ ∨ P1_ k_) ∨ w.heap.size ≤ k_) ∧ some k_ ≠ (v194 : Value).ownBlock)) (HO1.out) (fun k_ hk => ⟨hk.1, hk.2⟩))))) (Reps.none _ _)))); intro v197 w6 ho7 hb hg_ hnew_; clear hg_ hnew_; (first | rw [← Ny196.out] at ho7 | (simp only [Int.reduceToNat] at ho7; rw [← Ny196.out] at ho7)); replace HO0 := Aside0.mk (Kd.V_elder' z30_ (Kd.N_base ho7) hb); replace HO1 := Aside0.mk (Kd.V_elder' z50_ (Kd.N_base ho7) hb); replace HO195 := Aside0.mk (Kd.S_elder' z36_ (Kd.N_base ho7) hb); have HO198 := Aside0.mk (Kd.N_lower ho7 (below_size z0_)); replace HB := Aside0.mk (below_step z0_ hb); clear hb ho7; obtain ⟨Ao8, co8, eo8⟩ := Kd.N_slice HO198.out; subst eo8) | ((with_reducible refine gate_callee (f := 69) rfl ?_); refine goesL_ (some 12) rfl rfl Try.func69 (by kernel_rfl) rfl #[.slice Ao8 y196.length co8] rfl z1_ ?_; (with_reducible refine (slices_Concat_Op.calls k (fun k_ => (((P0_ k_ ∨ P1_ k_) ∨ w.heap.size ≤ k_) ∧ some k_ ≠ (v194 : Value).ownBlock)) _ _ y196 t199 _ ?side1 A3.out).mono ?_); (case side1 => exact Kd.N_V (HO198.out)); rintro e w9 ⟨v200, rfl, ho0, hb⟩; refine ⟨_, rfl, ?_⟩; replace HO0 := Aside0.mk (Kd.V_elder' z30_ (Kd.N_base ho0) hb); replace HO1 := Aside0.mk (Kd.V_elder' z50_ (Kd.N_base ho0) hb); replace HO198 := Aside0.mk (Kd.N_elder' (by (with_reducible repeat (first | apply Kd.N_alloc | apply Kd.N_drewN | apply Kd.N_drew)); exact HO198.out) (Kd.N_base ho0) hb); have HO201 := Aside0.mk (Kd.N_lower (Kd.N_mono (ok' := fun k_ => ((P0_ k_ ∨ P1_ k_) ∨ w.heap.size ≤ k_) ∧ some k_ ≠ (v194 : Value).ownBlock) ho0 (fun k_ hk_ => ⟨Or.elim hk_ (fun hs_ => hs_.1) (fun hn_ => (.inr (Nat.le_trans (below_size z0_) hn_))), Or.elim hk_ (fun hs_ => hs_.2) (fun hn_ => (Kd.fresh' (Kd.S_lt z36_) k_ hn_))⟩)) (below_size z0_)); replace HO195 := Aside0.mk (Kd.S_elder' z36_ (Kd.N_base ho0) hb); replace HB := Aside0.mk (below_step z0_ hb); (try clear hb ho0); obtain ⟨Ao10, co10, eo10⟩ := Kd.N_slice HO201.out; subst eo10))
 go_loopg [5, 14] k (fun kq v5 v14 w' => ∃ (x5_1 : List (S78)) (x14_1 : Int), v14 = .int .i64 x14_1 ∧ Aside0 (impl_Joined.l0 kq x5_1 t199 (t199.length : Int) x14_1 = some r) ∧ Aside0 (kq ≤ k) ∧ Aside0 (Kd.S k78 78 w' w.heap.size (fun k_ => (w.heap.size ≤ k_) ∧ some k_ ≠ ((.slice Ao10 t199.length co10) : Value).ownBlock) v5 x5_1) ∧ Aside0 (Kd.N k78 78 w' w.heap.size (fun k_ => ((P0_ k_ ∨ P1_ k_) ∨ w.heap.size ≤ k_) ∧ some k_ ≠ (v5 : Value).ownBlock) (.slice Ao10 t199.length co10) t199) ∧ Aside0 (Below w.heap.size w w'))
 case atStart => exact ⟨(y193), (0), z4_, H', ⟨Nat.le_refl _⟩, ⟨by (with_reducible repeat (first | apply Kd.S_alloc | apply Kd.S_drewN | apply Kd.S_drew)); exact Kd.S_mono HO195.out (fun _ hk => ⟨hk.1.1, hk.2⟩)⟩, ⟨by (with_reducible repeat (first | apply Kd.N_alloc | apply Kd.N_drewN | apply Kd.N_drew)); exact HO201.out⟩, ⟨z0_⟩⟩
 case round =>
  clear H'
  try clear c1
  try clear p2
  try clear c3
  try clear c6
  obtain ⟨x5_1, x14_1, rfl, HA, HK1, HO_5, HO_12, HB⟩ := hrel
  cases gk with
  | zero => exact absurd HA.out (by simp [impl_Joined.l0])
  | succ k1 =>
   have H := HA.out
   clear HA
   simp only [impl_Joined.l0] at H
   by_cases c11 : x14_1 < (t199.length : Int)
   ·rw [if_pos c11] at H
    have c11b0 : decide (x14_1 < (t199.length : Int)) = true := decide_eq_true c11
    clear c11
    obtain ⟨c12b0, H⟩ := ifd_ H
    obtain ⟨c13b0, H⟩ := ifd_ H
    replace H := Option.bind_eq_some_iff.mp H
    obtain ⟨⟨t204, t205, t208, t209, t210⟩, A140, H⟩ := H
    replace H : (if x5_1.length < 2513169434916 then (impl_Joined.l0 k1 (x5_1 ++ [(⟨t204, t205, t208, t209, t210⟩ : S78)]) t199 (t199.length : Int) (wrap64 (x14_1 + 1))) else (none)) = some r := H
    have A14 := Aside0.mk A140
    clear A140
    obtain ⟨c15, H⟩ := ifs_ H
    have LMc15 := Aside0.mk c15
    clear c15
    obtain ⟨y211, hy211⟩ : ∃ y_ : List (S78), y_ = (x5_1 ++ [(⟨t204, t205, t208, t209, t210⟩ : S78)]) := ⟨_, rfl⟩
    replace H : (impl_Joined.l0 k1 y211 t199 (t199.length : Int) (wrap64 (x14_1 + 1))) = some r := by first | (rw [hy211]; with_reducible exact H) | (have H2_ := (Option.bind_some _ _).symm.trans H; rw [hy211]; with_reducible exact H2_) | (have H2_ := (Option.bind_some _ _).symm.trans H; with_reducible exact H2_) | with_reducible exact H | (rw [hy211]; exact H) | exact H
    have Ny211 := Aside0.mk hy211
    clear hy211
    have H' := Aside0.mk H
    clear H
    have p202 : 0 ≤ (x14_1 : Int) := odt_
    have q202 : x14_1 < (t199.length : Int) := odt_
    obtain ⟨ad202, A202_1, c202_1, e202, hx202_0, hx202_1, hx202_2, hx202_3, hx202_4, hl202_1, hi202_1⟩ := at_T78 (Kd.N_reads' HO_12.out).2.2 x14_1 p202 q202
    cases e202
    obtain ⟨ce202, hce202, hMe202, hcc202⟩ := Kd.N_get HO_12.out z78 x14_1 p202 (by first | exact q202 | exact odt_ | (have e_ := (Kd.N_reads' HO_12.out).1; omega))
    obtain ⟨ua202_1, uc202_1, rfl, ul202_1, ge202_1⟩ := k78_openF hMe202
    have hv202_1 := hcc202 1 _ rfl
    rw [add_field _ _ 1 (by omega)] at hv202_1
    replace hv202_1 := Option.some.inj (hv202_1.symm.trans hx202_1)
    injection hv202_1 with hva_ hvn_ hvc_
    rw [hva_] at ge202_1
    rw [hvc_] at ul202_1
    have HL202_1 := Aside0.mk (show Kd.V (Kd.int .i64) 3 _ w.heap.size _ _ ((rd_T78 t199 x14_1).f1) from Kd.V_mk ul202_1 ge202_1)
    clear hva_ hvn_ hvc_ ge202_1 ul202_1
    clear hcc202 hce202
    have HR202_1 := Aside0.mk hi202_1
    have HC202_1 := Aside0.mk hl202_1
    clear hi202_1 hl202_1
    replace p202 := eq_true p202
    replace q202 := eq_true q202
    go_wp2_with (first | ((with_reducible refine gate_dst (N := 7) rfl ?_); refine box_event ?hg (N := 7) ?hd (cs := #[.int .i64 0, .slice none 0 0, .int .i64 0, .int .i64 0, .int .i64 0]) (t := 78) ?hr ?_; (case hd => rfl); (case hg => rfl); (case hr => exact z10_); intro gb203 hg w16 hbox hb; replace HO_5 := Aside0.mk (Kd.S_below (Kd.S_elderB (by (with_reducible repeat (first | apply Kd.S_alloc | apply Kd.S_drewN | apply Kd.S_drew)); exact HO_5.out) gb203 (Nat.le_of_eq hg.symm)) hb); replace HO_12 := Aside0.mk (Kd.N_below (Kd.N_elderB z57_ gb203 (Nat.le_of_eq hg.symm)) hb); replace HL202_1 := Aside0.mk (Kd.V_below (Kd.V_elderB (by (with_reducible repeat (first | apply Kd.V_alloc | apply Kd.V_drewN | apply Kd.V_drew)); exact HL202_1.out) gb203 (Nat.le_of_eq hg.symm)) hb); replace HR202_1 := Aside0.mk (Kd.C_below (by repeat (first | (with_reducible exact HR202_1.out) | (with_reducible refine Kd.C_alloc ?_ _) | (with_reducible refine Kd.C_drewN ?_ _) | (with_reducible refine Kd.C_drew ?_) | exact HR202_1.out)) hb); have BK203 := Aside0.mk (hbox); have GW203 := Aside0.mk ((by rw [hg]; exact (below_size z0_) : w.heap.size ≤ gb203)); have GE203 := Aside0.mk ((by rw [hg]; exact (below_size z0_) : w.heap.size ≤ gb203)); replace HB := Aside0.mk (below_step z0_ hb); clear hb hbox hg; have hcz17_0 : w16.cell? ⟨gb203, 0, none⟩ = some (.int .i64 0) := (blk_cell BK203.out 0).trans rfl; have hcz17_1 : w16.cell? ⟨gb203, 1, none⟩ = some (.slice none 0 0) := (blk_cell BK203.out 1).trans rfl; have hcz17_2 : w16.cell? ⟨gb203, 2, none⟩ = some (.int .i64 0) := (blk_cell BK203.out 2).trans rfl; have hcz17_3 : w16.cell? ⟨gb203, 3, none⟩ = some (.int .i64 0) := (blk_cell BK203.out 3).trans rfl; have hcz17_4 : w16.cell? ⟨gb203, 4, none⟩ = some (.int .i64 0) := (blk_cell BK203.out 4).trans rfl; have hfz17_0 := blk_frozen BK203.out 0; have hfz17_1 := blk_frozen BK203.out 1; have hfz17_2 := blk_frozen BK203.out 2; have hfz17_3 := blk_frozen BK203.out 3; have hfz17_4 := blk_frozen BK203.out 4) | ((with_reducible refine gate_callee (f := 53) rfl ?_); refine goesL_ (some 20) rfl rfl Try.func53 (by kernel_rfl) rfl #[.agg #[.int .i64 ((rd_T78 t199 x14_1).f0), .slice A202_1 ((rd_T78 t199 x14_1).f1).length c202_1, .int .i64 ((rd_T78 t199 x14_1).f2), .int .i64 ((rd_T78 t199 x14_1).f3), .int .i64 ((rd_T78 t199 x14_1).f4)]] rfl z1_ ?_; (with_reducible refine (impl_opCopy.calls ((rd_T78 t199 x14_1).f0) _ _ ((rd_T78 t199 x14_1).f1) ((rd_T78 t199 x14_1).f2) ((rd_T78 t199 x14_1).f3) ((rd_T78 t199 x14_1).f4) t204 t205 t208 t209 t210 _ ?side1 ?side2 A14.out).mono ?_); (case side1 => repeat (first | exact ((Kd.V_reads' z6_).2.2) | (with_reducible refine Kd.C_alloc ?_ _) | (with_reducible refine Kd.C_drewN ?_ _) | (with_reducible refine Kd.C_drew ?_))); (case side2 => exact HC202_1.out); rintro e w18 ⟨v206, rfl, ho0, hb⟩; refine ⟨_, rfl, ?_⟩; replace HO_5 := Aside0.mk (Kd.S_elder' (by (with_reducible repeat (first | apply Kd.S_alloc | apply Kd.S_drewN | apply Kd.S_drew)); exact (Kd.S_mono (Kd.S_far (p := ⟨gb203, 4, none⟩) (Kd.S_far (p := ⟨gb203, 3, none⟩) (Kd.S_far (p := ⟨gb203, 2, none⟩) (Kd.S_far (p := ⟨gb203, 1, none⟩) (Kd.S_far (p := ⟨gb203, 0, none⟩) (Kd.S_mono HO_5.out (fun k_ hk => (⟨hk, hk.2⟩ : _ ∧ k_ ≠ gb203))) (fun _ hk => hk.2) (.int .i64 ((rd_T78 t199 x14_1).f0))) (fun _ hk => hk.2) (.slice A202_1 ((rd_T78 t199 x14_1).f1).length c202_1)) (fun _ hk => hk.2) (.int .i64 ((rd_T78 t199 x14_1).f2))) (fun _ hk => hk.2) (.int .i64 ((rd_T78 t199 x14_1).f3))) (fun _ hk => hk.2) (.int .i64 ((rd_T78 t199 x14_1).f4))) (fun _ h_ => h_.1))) (Kd.R_base ho0) hb); replace HO_12 := Aside0.mk (Kd.N_elder' (by (with_reducible repeat (first | apply Kd.N_alloc | apply Kd.N_drewN | apply Kd.N_drew)); exact (Kd.N_mono (Kd.N_far (p := ⟨gb203, 4, none⟩) (Kd.N_far (p := ⟨gb203, 3, none⟩) (Kd.N_far (p := ⟨gb203, 2, none⟩) (Kd.N_far (p := ⟨gb203, 1, none⟩) (Kd.N_far (p := ⟨gb203, 0, none⟩) (Kd.N_mono HO_12.out (fun k_ hk => (⟨hk, hk.2⟩ : _ ∧ k_ ≠ gb203))) (fun _ hk => hk.2) (.int .i64 ((rd_T78 t199 x14_1).f0))) (fun _ hk => hk.2) (.slice A202_1 ((rd_T78 t199 x14_1).f1).length c202_1)) (fun _ hk => hk.2) (.int .i64 ((rd_T78 t199 x14_1).f2))) (fun _ hk => hk.2) (.int .i64 ((rd_T78 t199 x14_1).f3))) (fun _ hk => hk.2) (.int .i64 ((rd_T78 t199 x14_1).f4))) (fun _ h_ => h_.1))) (Kd.R_base ho0) hb); have HO207 := Aside0.mk (Kd.R_lower (Kd.R_newM (M := fun k_ => (w.heap.size ≤ k_)) ho0 (below_size z14_) (fun k_ h_ => h_)) (below_size z14_)); replace HR202_1 := Aside0.mk (Kd.C_below ((Kd.V_reads' z6_).2.2) hb); replace HL202_1 := Aside0.mk (Kd.V_elder' z6_ (Kd.R_base ho0) hb); replace BK203 := Aside0.mk (blk_below (g := gb203) (o := .cells #[.int .i64 ((rd_T78 t199 x14_1).f0), .slice A202_1 ((rd_T78 t199 x14_1).f1).length c202_1, .int .i64 ((rd_T78 t199 x14_1).f2), .int .i64 ((rd_T78 t199 x14_1).f3), .int .i64 ((rd_T78 t199 x14_1).f4)] 78 (0, 0)) (by (with_reducible repeat (first | refine blk_drewN ?_ _ | refine blk_drew ?_ | refine blk_alloc ?_ _)); refine blk_put (cs := #[.int .i64 ((rd_T78 t199 x14_1).f0), .slice A202_1 ((rd_T78 t199 x14_1).f1).length c202_1, .int .i64 ((rd_T78 t199 x14_1).f2), .int .i64 ((rd_T78 t199 x14_1).f3), .int .i64 0]) ?_ 4 _ rfl; (with_reducible repeat (first | refine blk_drewN ?_ _ | refine blk_drew ?_ | refine blk_alloc ?_ _)); refine blk_put (cs := #[.int .i64 ((rd_T78 t199 x14_1).f0), .slice A202_1 ((rd_T78 t199 x14_1).f1).length c202_1, .int .i64 ((rd_T78 t199 x14_1).f2), .int .i64 0, .int .i64 0]) ?_ 3 _ rfl; (with_reducible repeat (first | refine blk_drewN ?_ _ | refine blk_drew ?_ | refine blk_alloc ?_ _)); refine blk_put (cs := #[.int .i64 ((rd_T78 t199 x14_1).f0), .slice A202_1 ((rd_T78 t199 x14_1).f1).length c202_1, .int .i64 0, .int .i64 0, .int .i64 0]) ?_ 2 _ rfl; (with_reducible repeat (first | refine blk_drewN ?_ _ | refine blk_drew ?_ | refine blk_alloc ?_ _)); refine blk_put (cs := #[.int .i64 ((rd_T78 t199 x14_1).f0), .slice none 0 0, .int .i64 0, .int .i64 0, .int .i64 0]) ?_ 1 _ rfl; (with_reducible repeat (first | refine blk_drewN ?_ _ | refine blk_drew ?_ | refine blk_alloc ?_ _)); refine blk_put (cs := #[.int .i64 0, .slice none 0 0, .int .i64 0, .int .i64 0, .int .i64 0]) ?_ 0 _ rfl; (with_reducible repeat (first | refine blk_drewN ?_ _ | refine blk_drew ?_ | refine blk_alloc ?_ _)); exact BK203.out) hb); replace HB := Aside0.mk (below_step z14_ hb); (try clear hb ho0); obtain ⟨Ao20, co20, eo20⟩ := Kd.R_slice HO207.out; subst eo20) | ((with_reducible refine gate_builtin (b := .append) (xs := #[.tmp 18, .tmp 21]) rfl ?_); at_builtin; refine Kd.S_append k78 (w0 := w) w.heap.size rfl (.tmp 18) (.tmp 21) 26 78 (.agg #[(.int .i64 0), (.slice none 0 0), (.int .i64 0), (.int .i64 0), (.int .i64 0)]) 56 rfl Try.underlying26 info78 rfl (by decide) (by omega) u5 x5_1 (⟨t204, t205, t208, t209, t210⟩ : S78) [.int .i64 t204, .slice Ao20 t205.length co20, .int .i64 t208, .int .i64 t209, .int .i64 t210] (fun k_ => (w.heap.size ≤ k_) ∧ some k_ ≠ (.slice (some ad202) t199.length co10 : Value).ownBlock ∧ k_ ≠ gb203) (fun k_ => some k_ = (.slice Ao20 t205.length co20 : Value).ownBlock) rfl rfl ?aP (fun k_ hk_ => ((Kd.R_mono (ok' := fun k_ => ((fun k_ => (w.heap.size ≤ k_) ∧ some k_ ≠ (.slice (some ad202) t199.length co10 : Value).ownBlock ∧ k_ ≠ gb203)) k_ ∧ some k_ ≠ (u5 : Value).ownBlock) (Kd.R_types (Kd.R_apart' (Kd.R_apart' (HO207.out) (Kd.N_typed HO_12.out) (by decide)) (Kd.S_typed HO_5.out) (by decide)) BK203.out (by decide)) (fun k_ hk => ⟨⟨hk.1.1.1.1, ⟨hk.1.1.2, hk.2⟩⟩, hk.1.2⟩))).1 k_ hk_.symm) ?aF ?aO ?aB ?aS ?aL ?_; (case aP => exact k78_mkM _ _ _ (⟨t204, t205, t208, t209, t210⟩ : S78) (Kd.R_mono (Kd.R_tight rfl (Kd.R_mono (ok' := fun k_ => ((fun k_ => (w.heap.size ≤ k_) ∧ some k_ ≠ (.slice (some ad202) t199.length co10 : Value).ownBlock ∧ k_ ≠ gb203)) k_ ∧ some k_ ≠ (u5 : Value).ownBlock) (Kd.R_types (Kd.R_apart' (Kd.R_apart' (HO207.out) (Kd.N_typed HO_12.out) (by decide)) (Kd.S_typed HO_5.out) (by decide)) BK203.out (by decide)) (fun k_ hk => ⟨⟨hk.1.1.1.1, ⟨hk.1.1.2, hk.2⟩⟩, hk.1.2⟩))) (fun _ h_ => h_))); (case aB => exact z14_); (case aF => exact (fun k_ hk => ⟨((Nat.le_trans (below_size z14_) hk)), Kd.fresh' (Kd.N_lt z57_) k_ hk, Kd.freshB (g := gb203) (o := .cells #[.int .i64 ((rd_T78 t199 x14_1).f0), .slice A202_1 ((rd_T78 t199 x14_1).f1).length c202_1, .int .i64 ((rd_T78 t199 x14_1).f2), .int .i64 ((rd_T78 t199 x14_1).f3), .int .i64 ((rd_T78 t199 x14_1).f4)] 78 (0, 0)) z52_ k_ hk⟩)); (case aO => exact (by (with_reducible repeat (first | apply Kd.S_alloc | apply Kd.S_drewN | apply Kd.S_drew)); exact Kd.S_mono HO_5.out (fun k_ hk => ⟨⟨hk.1.1.1, hk.1.1.2, hk.1.2⟩, fun e_ => hk.2 e_⟩))); (case aS => exact (below_size z14_)); (case aL => have := LMc15.out; omega); intro v212 w19 ho hb hg hat; rw [← Ny211.out] at ho; replace HO_12 := Aside0.mk (Kd.N_afterv (ok := (fun k_ => ((P0_ k_ ∨ P1_ k_) ∨ w.heap.size ≤ k_) ∧ some k_ ≠ (.slice Ao20 t205.length co20 : Value).ownBlock ∧ k_ ≠ gb203)) (by (with_reducible repeat (first | apply Kd.N_alloc | apply Kd.N_drewN | apply Kd.N_drew)); exact Kd.N_mono HO_12.out (fun _ hk => ⟨⟨hk.1.1.1, ⟨hk.2, hk.1.2⟩⟩, hk.1.1.2⟩)) hg hat); replace HL202_1 := Aside0.mk (Kd.V_afterv (ok := (fun k_ => ((P0_ k_ ∨ P1_ k_) ∨ w.heap.size ≤ k_) ∧ some k_ ≠ (.slice (some ad202) t199.length co10 : Value).ownBlock ∧ some k_ ≠ (.slice Ao20 t205.length co20 : Value).ownBlock ∧ k_ ≠ gb203)) (by (with_reducible repeat (first | apply Kd.V_alloc | apply Kd.V_drewN | apply Kd.V_drew)); exact Kd.V_mono HL202_1.out (fun _ hk => ⟨⟨hk.1.1.1.1, ⟨hk.1.1.2, ⟨hk.2, hk.1.2⟩⟩⟩, hk.1.1.1.2⟩)) hg hat); replace BK203 := Aside0.mk (blk_grown (g := gb203) (o := .cells #[.int .i64 ((rd_T78 t199 x14_1).f0), .slice A202_1 ((rd_T78 t199 x14_1).f1).length c202_1, .int .i64 ((rd_T78 t199 x14_1).f2), .int .i64 ((rd_T78 t199 x14_1).f3), .int .i64 ((rd_T78 t199 x14_1).f4)] 78 (0, 0)) z52_ hg (Kd.S_away HO_5.out (fun _ hk => hk.1.2))); replace HB := Aside0.mk (hb); have HO213 := Aside0.mk (ho); clear HO_5 HO207; clear ho hb hg hat))
    go_roundg k1
    case measure => have := HK1.out; omega
    case rel => exact ⟨(y211), (wrap64 (x14_1 + 1)), z4_, H', ⟨z51_⟩, ⟨by (with_reducible repeat (first | apply Kd.S_alloc | apply Kd.S_drewN | apply Kd.S_drew)); exact Kd.S_mono HO213.out (fun _ hk => ⟨hk.1, hk.2.1⟩)⟩, ⟨by (with_reducible repeat (first | apply Kd.N_alloc | apply Kd.N_drewN | apply Kd.N_drew)); exact Kd.N_mono HO_12.out (fun _ hk => ⟨hk.1.1, hk.2⟩)⟩, ⟨z14_⟩⟩
   ·rw [if_neg c11] at H
    have c11b0 : decide (x14_1 < (t199.length : Int)) = false := decide_eq_false c11
    clear c11
    obtain rfl := Option.some.inj H
    go_wp2
    go_ret
    exact ⟨_, z3_, by (with_reducible repeat (first | apply Kd.N_alloc | apply Kd.N_drewN | apply Kd.N_drew)); exact Kd.S_mono HO_5.out (fun _ hk => hk.1), z0_⟩

/-! ### laws_FnExactJoined: function 6 -/
theorem ivR {α : Type} {d : Kd α} {e base b hi0 : Nat} {ok : Nat → Prop} {w' : World} {v : Value} {l : List α} (h : d.R e w' b ok v l) (hbs : base ≤ b) (hz : hi0 ≤ b) (hs : b ≤ w'.heap.size) : ∃ hi, hi0 ≤ hi ∧ hi ≤ w'.heap.size ∧ d.R e w' base (fun k => hi0 ≤ k ∧ k < hi) v l :=
 ⟨w'.heap.size, Nat.le_trans hz hs, Nat.le_refl _, Kd.R_mono (Kd.R_lower (Kd.R_bound h) hbs) (fun k hk => ⟨Nat.le_trans hz hk.2.1, hk.2.2.1⟩)⟩
theorem ivS {α : Type} {d : Kd α} {e base b hi0 : Nat} {ok : Nat → Prop} {w' : World} {v : Value} {l : List α} (h : Kd.S d e w' b ok v l) (hbs : base ≤ b) (hz : hi0 ≤ b) (hs : b ≤ w'.heap.size) : ∃ hi, hi0 ≤ hi ∧ hi ≤ w'.heap.size ∧ Kd.S d e w' base (fun k => hi0 ≤ k ∧ k < hi) v l :=
 ⟨w'.heap.size, Nat.le_trans hz hs, Nat.le_refl _, Kd.S_mono (Kd.S_lower (Kd.S_bound h) hbs) (fun k hk => ⟨Nat.le_trans hz hk.2.1, hk.2.2.1⟩)⟩
theorem ivN {α : Type} {d : Kd α} {e base b hi0 : Nat} {ok : Nat → Prop} {w' : World} {v : Value} {l : List α} (h : Kd.N d e w' b ok v l) (hbs : base ≤ b) (hz : hi0 ≤ b) (hs : b ≤ w'.heap.size) (hok : ∀ k, ok k → b ≤ k) : ∃ hi, hi0 ≤ hi ∧ hi ≤ w'.heap.size ∧ Kd.N d e w' base (fun k => hi0 ≤ k ∧ k < hi) v l :=
 ⟨w'.heap.size, Nat.le_trans hz hs, Nat.le_refl _, Kd.N_mono (Kd.N_lower (Kd.N_bound h) hbs) (fun k hk => ⟨Nat.le_trans hz (hok k hk.1), hk.2⟩)⟩
theorem iv_apart {a b c d k : Nat} (h1 : a ≤ k ∧ k < b) (h2 : c ≤ k ∧ k < d) (h : b ≤ c ∨ d ≤ a) : False := by omega
def laws_FnExactJoined.f (k : Nat) (l0 : List (S73)) (l1 : List (S73)) : Option Bool := (laws_szOpS.f k l0 1048576).bind fun t1 => if t1 < 0 then some true else (laws_szOpS.f k l1 t1).bind fun t3 => if t3 < 0 then some true else (laws_toOpS.f k l0).bind fun t5 => (laws_toOpS.f k l1).bind fun t11 => (spec_Joined.f k t5 t11).bind fun t17 => (laws_toOpS.f k l0).bind fun t23 => (laws_toOpS.f k l1).bind fun t29 => (impl_Joined.f k t23 t29).bind fun t35 => (laws_eqOpS.f k t35 t17).bind fun t41 => if t41 = true then (laws_toOpS.f k l0).bind fun t43 => (laws_eqOpS.f k t23 t43).bind fun t49 => if t49 = true then (laws_toOpS.f k l1).bind fun t51 => (laws_eqOpS.f k t29 t51).bind fun t57 => if t57 = true then (laws_markOpS.f k t23 1).bind fun bt59 => (laws_markOpS.f k t29 bt59.1).bind fun bt63 => if bt63.1 < 0 then none else (laws_eqOpS.f k t35 t17).bind fun t67 => if t67 = true then (laws_markOpS.f k t35 1).bind fun bt69 => (laws_heldOpS.f k bt69.2 1).bind fun t73 => if t73 < 0 then none else if t73 = bt69.1 then (laws_toOpS.f k l0).bind fun t75 => (laws_toOpS.f k l1).bind fun t81 => (impl_Joined.f k t75 t81).bind fun t87 => (laws_eqOpS.f k t87 t17).bind fun t93 => if t93 = true then (laws_heldOpS.f k bt69.2 1).bind fun t95 => if t95 < 0 then none else if t95 = bt69.1 then some true else none else none else none else none else none else none else none
set_option maxHeartbeats 8000000 in
set_option maxRecDepth 100000 in
theorem laws_FnExactJoined.calls (k : Nat) (A0 : Option Addr) (c0 : Nat) (l0 : List (S73)) (A1 : Option Addr) (c1 : Nat) (l1 : List (S73)) (r : Bool) (w : World) (hr0 : Kd.C k73 w A0 l0.length l0) (hc0 : l0.length ≤ c0) (hr1 : Kd.C k73 w A1 l1.length l1) (hc1 : l1.length ≤ c1) (h : laws_FnExactJoined.f k l0 l1 = some r) :
  Calls Try.prog 6 #[.slice A0 l0.length c0, .slice A1 l1.length c1] w fun e w' => e = .returned (.bool r) ∧ Below w.heap.size w w' := by
 have HR0 := Aside0.mk hr0
 have HC0 := Aside0.mk hc0
 clear hr0 hc0
 have HR1 := Aside0.mk hr1
 have HC1 := Aside0.mk hc1
 clear hr1 hc1
 have HB := Aside0.mk (Below.refl w.heap.size w)
 obtain ⟨z0, hz0_⟩ : ∃ z0, z0 = w.heap.size := ⟨_, rfl⟩
 have HZ := Aside0.mk (show z0 ≤ w.heap.size from Nat.le_of_eq hz0_)
 clear hz0_
 have H : ((laws_szOpS.f k l0 1048576).bind fun t1 => if t1 < 0 then some true else (laws_szOpS.f k l1 t1).bind fun t3 => if t3 < 0 then some true else (laws_toOpS.f k l0).bind fun t5 => (laws_toOpS.f k l1).bind fun t11 => (spec_Joined.f k t5 t11).bind fun t17 => (laws_toOpS.f k l0).bind fun t23 => (laws_toOpS.f k l1).bind fun t29 => (impl_Joined.f k t23 t29).bind fun t35 => (laws_eqOpS.f k t35 t17).bind fun t41 => if t41 = true then (laws_toOpS.f k l0).bind fun t43 => (laws_eqOpS.f k t23 t43).bind fun t49 => if t49 = true then (laws_toOpS.f k l1).bind fun t51 => (laws_eqOpS.f k t29 t51).bind fun t57 => if t57 = true then (laws_markOpS.f k t23 1).bind fun bt59 => (laws_markOpS.f k t29 bt59.1).bind fun bt63 => if bt63.1 < 0 then none else (laws_eqOpS.f k t35 t17).bind fun t67 => if t67 = true then (laws_markOpS.f k t35 1).bind fun bt69 => (laws_heldOpS.f k bt69.2 1).bind fun t73 => if t73 < 0 then none else if t73 = bt69.1 then (laws_toOpS.f k l0).bind fun t75 => (laws_toOpS.f k l1).bind fun t81 => (impl_Joined.f k t75 t81).bind fun t87 => (laws_eqOpS.f k t87 t17).bind fun t93 => if t93 = true then (laws_heldOpS.f k bt69.2 1).bind fun t95 => if t95 < 0 then none else if t95 = bt69.1 then some true else none else none else none else none else none else none else none) = some r := h
 clear h
 replace H := Option.bind_eq_some_iff.mp H
 obtain ⟨t1, F20_, H⟩ := H
 have F2 := Aside0.mk F20_
 clear F20_
 by_cases q2 : t1 < 0
 ·rw [if_pos q2] at H
  obtain rfl := Option.some.inj H
  have qb2 : decide (t1 < 0) = true := decide_eq_true q2
  clear q2
  go_enter Try.func6, Try.ntmps6
  go_wp2_with (first | ((with_reducible refine gate_callee (f := 10) rfl ?_); refine goesL_ (some 16) rfl rfl Try.func10 (by kernel_rfl) rfl #[.slice A0 l0.length c0, .int .i64 1048576] rfl z1_ ?_; (refine (laws_szOpS.calls k _ _ l0 1048576 t1 _ ?side1 ?side2 F2.out).mono ?_); (case side1 => exact z9_); (case side2 => exact HC0.out); rintro e wx ⟨rfl, hb⟩; refine ⟨_, rfl, ?_⟩; replace HZ := Aside0.mk (Nat.le_trans HZ.out hb.size); replace HB := Aside0.mk (below_step z0_ hb); clear hb))
  go_ret
  exact ⟨z3_, z0_⟩
 rw [if_neg q2] at H
 have qb2 : decide (t1 < 0) = false := decide_eq_false q2
 clear q2
 replace H := Option.bind_eq_some_iff.mp H
 obtain ⟨t3, F40_, H⟩ := H
 have F4 := Aside0.mk F40_
 clear F40_
 by_cases q4 : t3 < 0
 ·rw [if_pos q4] at H
  obtain rfl := Option.some.inj H
  have qb4 : decide (t3 < 0) = true := decide_eq_true q4
  clear q4
  go_enter Try.func6, Try.ntmps6
  go_wp2_with (first | ((with_reducible refine gate_callee (f := 10) rfl ?_); refine goesL_ (some 16) rfl rfl Try.func10 (by kernel_rfl) rfl #[.slice A0 l0.length c0, .int .i64 1048576] rfl z1_ ?_; (refine (laws_szOpS.calls k _ _ l0 1048576 t1 _ ?side1 ?side2 F2.out).mono ?_); (case side1 => exact z9_); (case side2 => exact HC0.out); rintro e wx ⟨rfl, hb⟩; refine ⟨_, rfl, ?_⟩; replace HZ := Aside0.mk (Nat.le_trans HZ.out hb.size); replace HB := Aside0.mk (below_step z0_ hb); clear hb) | ((with_reducible refine gate_callee (f := 10) rfl ?_); refine goesL_ (some 21) rfl rfl Try.func10 (by kernel_rfl) rfl #[.slice A1 l1.length c1, .int .i64 t1] rfl z1_ ?_; (refine (laws_szOpS.calls k _ _ l1 t1 t3 _ ?side1 ?side2 F4.out).mono ?_); (case side1 => exact z12_); (case side2 => exact HC1.out); rintro e wx ⟨rfl, hb⟩; refine ⟨_, rfl, ?_⟩; replace HZ := Aside0.mk (Nat.le_trans HZ.out hb.size); replace HB := Aside0.mk (below_step z0_ hb); clear hb))
  go_ret
  exact ⟨z3_, z0_⟩
 rw [if_neg q4] at H
 have qb4 : decide (t3 < 0) = false := decide_eq_false q4
 clear q4
 replace H := Option.bind_eq_some_iff.mp H
 obtain ⟨t5, F60_, H⟩ := H
 have F6 := Aside0.mk F60_
 clear F60_
 replace H := Option.bind_eq_some_iff.mp H
 obtain ⟨t11, F120_, H⟩ := H
 have F12 := Aside0.mk F120_
 clear F120_
 replace H := Option.bind_eq_some_iff.mp H
 obtain ⟨t17, F180_, H⟩ := H
 have F18 := Aside0.mk F180_
 clear F180_
 replace H := Option.bind_eq_some_iff.mp H
 obtain ⟨t23, F240_, H⟩ := H
 have F24 := Aside0.mk F240_
 clear F240_
 replace H := Option.bind_eq_some_iff.mp H
 obtain ⟨t29, F300_, H⟩ := H
 have F30 := Aside0.mk F300_
 clear F300_
 replace H := Option.bind_eq_some_iff.mp H
 obtain ⟨t35, F360_, H⟩ := H
 have F36 := Aside0.mk F360_
 clear F360_
 replace H := Option.bind_eq_some_iff.mp H
 obtain ⟨t41, F420_, H⟩ := H
 have F42 := Aside0.mk F420_
 clear F420_
 by_cases q12 : t41 = true
 rotate_left
 ·rw [if_neg q12] at H; cases H
 rw [if_pos q12] at H
 subst q12
 replace H := Option.bind_eq_some_iff.mp H
 obtain ⟨t43, F440_, H⟩ := H
 have F44 := Aside0.mk F440_
 clear F440_
 replace H := Option.bind_eq_some_iff.mp H
 obtain ⟨t49, F500_, H⟩ := H
 have F50 := Aside0.mk F500_
 clear F500_
 by_cases q15 : t49 = true
 rotate_left
 ·rw [if_neg q15] at H; cases H
 rw [if_pos q15] at H
 subst q15
 replace H := Option.bind_eq_some_iff.mp H
 obtain ⟨t51, F520_, H⟩ := H
 have F52 := Aside0.mk F520_
 clear F520_
 replace H := Option.bind_eq_some_iff.mp H
 obtain ⟨t57, F580_, H⟩ := H
 have F58 := Aside0.mk F580_
 clear F580_
 by_cases q18 : t57 = true
 rotate_left
 ·rw [if_neg q18] at H; cases H
 rw [if_pos q18] at H
 subst q18
 replace H := Option.bind_eq_some_iff.mp H
 obtain ⟨⟨t59, t60⟩, F610_, H⟩ := H
 have F61 := Aside0.mk F610_
 clear F610_
 dsimp only at H
 replace H := Option.bind_eq_some_iff.mp H
 obtain ⟨⟨t63, t64⟩, F650_, H⟩ := H
 have F65 := Aside0.mk F650_
 clear F650_
 dsimp only at H
 by_cases q21 : t63 < 0
 ·rw [if_pos q21] at H; cases H
 rw [if_neg q21] at H
 have qb21 : decide (t63 < 0) = false := decide_eq_false q21
 clear q21
 replace H := Option.bind_eq_some_iff.mp H
 obtain ⟨t67, F680_, H⟩ := H
 have F68 := Aside0.mk F680_
 clear F680_
 by_cases q23 : t67 = true
 rotate_left
 ·rw [if_neg q23] at H; cases H
 rw [if_pos q23] at H
 subst q23
 replace H := Option.bind_eq_some_iff.mp H
 obtain ⟨⟨t69, t70⟩, F710_, H⟩ := H
 have F71 := Aside0.mk F710_
 clear F710_
 dsimp only at H
 replace H := Option.bind_eq_some_iff.mp H
 obtain ⟨t73, F740_, H⟩ := H
 have F74 := Aside0.mk F740_
 clear F740_
 by_cases q26 : t73 < 0
 ·rw [if_pos q26] at H; cases H
 rw [if_neg q26] at H
 have qb26 : decide (t73 < 0) = false := decide_eq_false q26
 clear q26
 by_cases q27 : t73 = t69
 rotate_left
 ·rw [if_neg q27] at H; cases H
 rw [if_pos q27] at H
 have qb27 : (t73 != t69) = false := bne_eq_false_iff_eq.mpr q27
 have qc27 : (t73 == t69) = true := beq_iff_eq.mpr q27
 clear q27
 replace H := Option.bind_eq_some_iff.mp H
 obtain ⟨t75, F760_, H⟩ := H
 have F76 := Aside0.mk F760_
 clear F760_
 replace H := Option.bind_eq_some_iff.mp H
 obtain ⟨t81, F820_, H⟩ := H
 have F82 := Aside0.mk F820_
 clear F820_
 replace H := Option.bind_eq_some_iff.mp H
 obtain ⟨t87, F880_, H⟩ := H
 have F88 := Aside0.mk F880_
 clear F880_
 replace H := Option.bind_eq_some_iff.mp H
 obtain ⟨t93, F940_, H⟩ := H
 have F94 := Aside0.mk F940_
 clear F940_
 by_cases q32 : t93 = true
 rotate_left
 ·rw [if_neg q32] at H; cases H
 rw [if_pos q32] at H
 subst q32
 replace H := Option.bind_eq_some_iff.mp H
 obtain ⟨t95, F960_, H⟩ := H
 have F96 := Aside0.mk F960_
 clear F960_
 by_cases q34 : t95 < 0
 ·rw [if_pos q34] at H; cases H
 rw [if_neg q34] at H
 have qb34 : decide (t95 < 0) = false := decide_eq_false q34
 clear q34
 by_cases q35 : t95 = t69
 rotate_left
 ·rw [if_neg q35] at H; cases H
 rw [if_pos q35] at H
 have qb35 : (t95 != t69) = false := bne_eq_false_iff_eq.mpr q35
 have qc35 : (t95 == t69) = true := beq_iff_eq.mpr q35
 clear q35
 obtain rfl := Option.some.inj H
 go_enter Try.func6, Try.ntmps6
 go_wp2_with (first | ((with_reducible refine gate_callee (f := 10) rfl ?_); refine goesL_ (some 16) rfl rfl Try.func10 (by kernel_rfl) rfl #[.slice A0 l0.length c0, .int .i64 1048576] rfl z1_ ?_; (refine (laws_szOpS.calls k _ _ l0 1048576 t1 _ ?side1 ?side2 F2.out).mono ?_); (case side1 => exact z9_); (case side2 => exact HC0.out); rintro e wx ⟨rfl, hb⟩; refine ⟨_, rfl, ?_⟩; replace HZ := Aside0.mk (Nat.le_trans HZ.out hb.size); replace HB := Aside0.mk (below_step z0_ hb); clear hb) | ((with_reducible refine gate_callee (f := 10) rfl ?_); refine goesL_ (some 21) rfl rfl Try.func10 (by kernel_rfl) rfl #[.slice A1 l1.length c1, .int .i64 t1] rfl z1_ ?_; (refine (laws_szOpS.calls k _ _ l1 t1 t3 _ ?side1 ?side2 F4.out).mono ?_); (case side1 => exact z12_); (case side2 => exact HC1.out); rintro e wx ⟨rfl, hb⟩; refine ⟨_, rfl, ?_⟩; replace HZ := Aside0.mk (Nat.le_trans HZ.out hb.size); replace HB := Aside0.mk (below_step z0_ hb); clear hb) | ((with_reducible refine gate_callee (f := 13) rfl ?_); refine goesL_ (some 25) rfl rfl Try.func13 (by kernel_rfl) rfl #[.slice A0 l0.length c0] rfl z1_ ?_; (refine (laws_toOpS.calls k _ _ l0 t5 _ ?side1 ?side2 F6.out).mono ?_); (case side1 => exact z9_); (case side2 => exact HC0.out); rintro e wx ⟨v7, rfl, ho0, hb⟩; refine ⟨_, rfl, ?_⟩; obtain ⟨z1, za1_, zb1_, hn0_⟩ := ivS ho0 (below_size z0_) HZ.out hb.size; have HZ1 := Aside0.mk za1_; replace HZ := Aside0.mk (zb1_); replace HB := Aside0.mk (below_step z0_ hb); have HO8 := Aside0.mk hn0_; obtain ⟨Ao9, co10, eo_⟩ := Kd.S_slice HO8.out; subst eo_; clear hn0_ ho0; clear hb; clear za1_ zb1_) | ((with_reducible refine gate_callee (f := 13) rfl ?_); refine goesL_ (some 27) rfl rfl Try.func13 (by kernel_rfl) rfl #[.slice A1 l1.length c1] rfl z1_ ?_; (refine (laws_toOpS.calls k _ _ l1 t11 _ ?side1 ?side2 F12.out).mono ?_); (case side1 => exact z12_); (case side2 => exact HC1.out); rintro e wx ⟨v13, rfl, ho0, hb⟩; refine ⟨_, rfl, ?_⟩; obtain ⟨z2, za2_, zb2_, hn0_⟩ := ivS ho0 (below_size z0_) HZ.out hb.size; have HZ2 := Aside0.mk za2_; replace HO8 := Aside0.mk (Kd.S_below z64_ hb); replace HZ := Aside0.mk (zb2_); replace HB := Aside0.mk (below_step z0_ hb); have HO14 := Aside0.mk hn0_; obtain ⟨Ao15, co16, eo_⟩ := Kd.S_slice HO14.out; subst eo_; clear hn0_ ho0; clear hb; clear za2_ zb2_) | ((with_reducible refine gate_callee (f := 29) rfl ?_); refine goesL_ (some 28) rfl rfl Try.func29 (by kernel_rfl) rfl #[.slice Ao9 t5.length co10, .slice Ao15 t11.length co16] rfl z1_ ?_; (refine (spec_Joined.calls k _ _ t5 _ _ t11 t17 _ ?side1 ?side2 ?side3 ?side4 F18.out).mono ?_); (case side1 => repeat (first | exact (Kd.R_reads' (Kd.S_R HO8.out)).2.2 | (with_reducible refine Kd.C_alloc ?_ _) | (with_reducible refine Kd.C_drewN ?_ _) | (with_reducible refine Kd.C_drew ?_))); (case side2 => exact (Kd.R_reads' (Kd.S_R HO8.out)).2.1); (case side3 => repeat (first | exact (Kd.R_reads' (Kd.S_R HO14.out)).2.2 | (with_reducible refine Kd.C_alloc ?_ _) | (with_reducible refine Kd.C_drewN ?_ _) | (with_reducible refine Kd.C_drew ?_))); (case side4 => exact (Kd.R_reads' (Kd.S_R HO14.out)).2.1); rintro e wx ⟨v19, rfl, ho0, hb⟩; refine ⟨_, rfl, ?_⟩; obtain ⟨z3, za3_, zb3_, hn0_⟩ := ivN ho0 (below_size z0_) HZ.out hb.size (fun _ h_ => h_); have HZ3 := Aside0.mk za3_; replace HO8 := Aside0.mk (Kd.S_below z64_ hb); replace HO14 := Aside0.mk (Kd.S_below (by (with_reducible repeat (first | apply Kd.S_alloc | apply Kd.S_drewN | apply Kd.S_drew)); exact HO14.out) hb); replace HZ := Aside0.mk (zb3_); replace HB := Aside0.mk (below_step z0_ hb); have HO20 := Aside0.mk hn0_; obtain ⟨Ao21, co22, eo_⟩ := Kd.V_slice (Kd.N_V (base' := 0) HO20.out); subst eo_; clear hn0_ ho0; clear hb; clear za3_ zb3_; clear HO8; clear HO14) | ((with_reducible refine gate_callee (f := 13) rfl ?_); refine goesL_ (some 30) rfl rfl Try.func13 (by kernel_rfl) rfl #[.slice A0 l0.length c0] rfl z1_ ?_; (refine (laws_toOpS.calls k _ _ l0 t23 _ ?side1 ?side2 F24.out).mono ?_); (case side1 => exact z9_); (case side2 => exact HC0.out); rintro e wx ⟨v25, rfl, ho0, hb⟩; refine ⟨_, rfl, ?_⟩; obtain ⟨z4, za4_, zb4_, hn0_⟩ := ivS ho0 (below_size z0_) HZ.out hb.size; have HZ4 := Aside0.mk za4_; replace HO20 := Aside0.mk (Kd.N_below z7_ hb); replace HZ := Aside0.mk (zb4_); replace HB := Aside0.mk (below_step z0_ hb); have HO26 := Aside0.mk hn0_; obtain ⟨Ao27, co28, eo_⟩ := Kd.S_slice HO26.out; subst eo_; clear hn0_ ho0; clear hb; clear za4_ zb4_) | ((with_reducible refine gate_callee (f := 13) rfl ?_); refine goesL_ (some 32) rfl rfl Try.func13 (by kernel_rfl) rfl #[.slice A1 l1.length c1] rfl z1_ ?_; (refine (laws_toOpS.calls k _ _ l1 t29 _ ?side1 ?side2 F30.out).mono ?_); (case side1 => exact z12_); (case side2 => exact HC1.out); rintro e wx ⟨v31, rfl, ho0, hb⟩; refine ⟨_, rfl, ?_⟩; obtain ⟨z5, za5_, zb5_, hn0_⟩ := ivS ho0 (below_size z0_) HZ.out hb.size; have HZ5 := Aside0.mk za5_; replace HO20 := Aside0.mk (Kd.N_below z7_ hb); replace HO26 := Aside0.mk (Kd.S_below z23_ hb); replace HZ := Aside0.mk (zb5_); replace HB := Aside0.mk (below_step z0_ hb); have HO32 := Aside0.mk hn0_; obtain ⟨Ao33, co34, eo_⟩ := Kd.S_slice HO32.out; subst eo_; clear hn0_ ho0; clear hb; clear za5_ zb5_) | ((with_reducible refine gate_callee (f := 30) rfl ?_); refine goesL_ (some 35) rfl rfl Try.func30 (by kernel_rfl) rfl #[.slice Ao27 t23.length co28, .slice Ao33 t29.length co34] rfl z1_ ?_; (refine (impl_Joined.calls k (fun _ => True) _ _ t23 (fun _ => True) _ _ t29 t35 _ ?side1 ?side2 F36.out).mono ?_); (case side1 => (with_reducible repeat (first | apply Kd.V_alloc | apply Kd.V_drewN | apply Kd.V_drew)); exact Kd.R_V (Kd.R_mono (Kd.S_R HO26.out) (fun _ _ => trivial))); (case side2 => (with_reducible repeat (first | apply Kd.V_alloc | apply Kd.V_drewN | apply Kd.V_drew)); exact Kd.R_V (Kd.R_mono (Kd.S_R HO32.out) (fun _ _ => trivial))); rintro e wx ⟨v37, rfl, ho0, hb⟩; refine ⟨_, rfl, ?_⟩; obtain ⟨z6, za6_, zb6_, hn0_⟩ := ivS ho0 (below_size z0_) HZ.out hb.size; have HZ6 := Aside0.mk za6_; replace HO20 := Aside0.mk (Kd.N_below z7_ hb); replace HO26 := Aside0.mk (Kd.S_below z23_ hb); replace HO32 := Aside0.mk (Kd.S_below z24_ hb); replace HZ := Aside0.mk (zb6_); replace HB := Aside0.mk (below_step z0_ hb); have HO38 := Aside0.mk hn0_; obtain ⟨Ao39, co40, eo_⟩ := Kd.S_slice HO38.out; subst eo_; clear hn0_ ho0; clear hb; clear za6_ zb6_) | ((with_reducible refine gate_callee (f := 15) rfl ?_); refine goesL_ (some 38) rfl rfl Try.func15 (by kernel_rfl) rfl #[.slice Ao39 t35.length co40, .slice Ao21 t17.length co22] rfl z1_ ?_; (refine (laws_eqOpS.calls k _ _ t35 _ _ t17 true _ ?side1 ?side2 ?side3 ?side4 F42.out).mono ?_); (case side1 => exact z39_); (case side2 => exact (Kd.R_reads' (Kd.S_R HO38.out)).2.1); (case side3 => exact z28_); (case side4 => exact z66_); rintro e wx ⟨rfl, hb⟩; refine ⟨_, rfl, ?_⟩; replace HO20 := Aside0.mk (Kd.N_below z7_ hb); replace HO26 := Aside0.mk (Kd.S_below z23_ hb); replace HO32 := Aside0.mk (Kd.S_below z24_ hb); replace HO38 := Aside0.mk (Kd.S_below z21_ hb); replace HZ := Aside0.mk (Nat.le_trans HZ.out hb.size); replace HB := Aside0.mk (below_step z0_ hb); clear hb) | ((with_reducible refine gate_callee (f := 13) rfl ?_); refine goesL_ (some 42) rfl rfl Try.func13 (by kernel_rfl) rfl #[.slice A0 l0.length c0] rfl z1_ ?_; (refine (laws_toOpS.calls k _ _ l0 t43 _ ?side1 ?side2 F44.out).mono ?_); (case side1 => exact z9_); (case side2 => exact HC0.out); rintro e wx ⟨v45, rfl, ho0, hb⟩; refine ⟨_, rfl, ?_⟩; obtain ⟨z7, za7_, zb7_, hn0_⟩ := ivS ho0 (below_size z0_) HZ.out hb.size; have HZ7 := Aside0.mk za7_; replace HO20 := Aside0.mk (Kd.N_below z7_ hb); replace HO26 := Aside0.mk (Kd.S_below z23_ hb); replace HO32 := Aside0.mk (Kd.S_below z24_ hb); replace HO38 := Aside0.mk (Kd.S_below z21_ hb); replace HZ := Aside0.mk (zb7_); replace HB := Aside0.mk (below_step z0_ hb); have HO46 := Aside0.mk hn0_; obtain ⟨Ao47, co48, eo_⟩ := Kd.S_slice HO46.out; subst eo_; clear hn0_ ho0; clear hb; clear za7_ zb7_) | ((with_reducible refine gate_callee (f := 15) rfl ?_); refine goesL_ (some 43) rfl rfl Try.func15 (by kernel_rfl) rfl #[.slice Ao27 t23.length co28, .slice Ao47 t43.length co48] rfl z1_ ?_; (refine (laws_eqOpS.calls k _ _ t23 _ _ t43 true _ ?side1 ?side2 ?side3 ?side4 F50.out).mono ?_); (case side1 => repeat (first | exact (Kd.R_reads' (Kd.S_R HO26.out)).2.2 | (with_reducible refine Kd.C_alloc ?_ _) | (with_reducible refine Kd.C_drewN ?_ _) | (with_reducible refine Kd.C_drew ?_))); (case side2 => exact (Kd.R_reads' (Kd.S_R HO26.out)).2.1); (case side3 => repeat (first | exact (Kd.R_reads' (Kd.S_R HO46.out)).2.2 | (with_reducible refine Kd.C_alloc ?_ _) | (with_reducible refine Kd.C_drewN ?_ _) | (with_reducible refine Kd.C_drew ?_))); (case side4 => exact (Kd.R_reads' (Kd.S_R HO46.out)).2.1); rintro e wx ⟨rfl, hb⟩; refine ⟨_, rfl, ?_⟩; replace HO20 := Aside0.mk (Kd.N_below z7_ hb); replace HO26 := Aside0.mk (Kd.S_below z23_ hb); replace HO32 := Aside0.mk (Kd.S_below z24_ hb); replace HO38 := Aside0.mk (Kd.S_below z21_ hb); replace HO46 := Aside0.mk (Kd.S_below (by (with_reducible repeat (first | apply Kd.S_alloc | apply Kd.S_drewN | apply Kd.S_drew)); exact HO46.out) hb); replace HZ := Aside0.mk (Nat.le_trans HZ.out hb.size); replace HB := Aside0.mk (below_step z0_ hb); clear hb; clear HO46) | ((with_reducible refine gate_callee (f := 13) rfl ?_); refine goesL_ (some 47) rfl rfl Try.func13 (by kernel_rfl) rfl #[.slice A1 l1.length c1] rfl z1_ ?_; (refine (laws_toOpS.calls k _ _ l1 t51 _ ?side1 ?side2 F52.out).mono ?_); (case side1 => exact z12_); (case side2 => exact HC1.out); rintro e wx ⟨v53, rfl, ho0, hb⟩; refine ⟨_, rfl, ?_⟩; obtain ⟨z8, za8_, zb8_, hn0_⟩ := ivS ho0 (below_size z0_) HZ.out hb.size; have HZ8 := Aside0.mk za8_; replace HO20 := Aside0.mk (Kd.N_below z7_ hb); replace HO26 := Aside0.mk (Kd.S_below z23_ hb); replace HO32 := Aside0.mk (Kd.S_below z24_ hb); replace HO38 := Aside0.mk (Kd.S_below z21_ hb); replace HZ := Aside0.mk (zb8_); replace HB := Aside0.mk (below_step z0_ hb); have HO54 := Aside0.mk hn0_; obtain ⟨Ao55, co56, eo_⟩ := Kd.S_slice HO54.out; subst eo_; clear hn0_ ho0; clear hb; clear za8_ zb8_) | ((with_reducible refine gate_callee (f := 15) rfl ?_); refine goesL_ (some 48) rfl rfl Try.func15 (by kernel_rfl) rfl #[.slice Ao33 t29.length co34, .slice Ao55 t51.length co56] rfl z1_ ?_; (refine (laws_eqOpS.calls k _ _ t29 _ _ t51 true _ ?side1 ?side2 ?side3 ?side4 F58.out).mono ?_); (case side1 => repeat (first | exact (Kd.R_reads' (Kd.S_R HO32.out)).2.2 | (with_reducible refine Kd.C_alloc ?_ _) | (with_reducible refine Kd.C_drewN ?_ _) | (with_reducible refine Kd.C_drew ?_))); (case side2 => exact (Kd.R_reads' (Kd.S_R HO32.out)).2.1); (case side3 => repeat (first | exact (Kd.R_reads' (Kd.S_R HO54.out)).2.2 | (with_reducible refine Kd.C_alloc ?_ _) | (with_reducible refine Kd.C_drewN ?_ _) | (with_reducible refine Kd.C_drew ?_))); (case side4 => exact (Kd.R_reads' (Kd.S_R HO54.out)).2.1); rintro e wx ⟨rfl, hb⟩; refine ⟨_, rfl, ?_⟩; replace HO20 := Aside0.mk (Kd.N_below z7_ hb); replace HO26 := Aside0.mk (Kd.S_below z23_ hb); replace HO32 := Aside0.mk (Kd.S_below z24_ hb); replace HO38 := Aside0.mk (Kd.S_below z21_ hb); replace HO54 := Aside0.mk (Kd.S_below (by (with_reducible repeat (first | apply Kd.S_alloc | apply Kd.S_drewN | apply Kd.S_drew)); exact HO54.out) hb); replace HZ := Aside0.mk (Nat.le_trans HZ.out hb.size); replace HB := Aside0.mk (below_step z0_ hb); clear hb; clear HO54) | ((with_reducible refine gate_callee (f := 18) rfl ?_); refine goesL_ (some 52) rfl rfl Try.func18 (by kernel_rfl) rfl #[.slice Ao27 t23.length co28, .int .i64 1] rfl z1_ ?_; (refine (laws_markOpS.calls k (fun k_ => z3 ≤ k_ ∧ k_ < z4) (.slice Ao27 t23.length co28) t23 1 t59 t60 w _ ?side1 ?side2 F61.out).mono ?_); (case side1 => exact z20_); (case side2 => (with_reducible repeat (first | apply Kd.S_drewN | apply Kd.S_drew)); exact HO26.out); rintro e wx ⟨rfl, hy0, hb, hkp⟩; refine ⟨_, rfl, ?_⟩; replace HO20 := Aside0.mk (Kd.N_kept z7_ hkp (fun k_ h1_ h2_ => iv_apart h1_ h2_ z16_)); replace HO32 := Aside0.mk (Kd.S_kept z24_ hkp (fun k_ h1_ h2_ => iv_apart h1_ h2_ z16_)); replace HO38 := Aside0.mk (Kd.S_kept z21_ hkp (fun k_ h1_ h2_ => iv_apart h1_ h2_ z16_)); replace HZ := Aside0.mk (Nat.le_trans HZ.out hkp.1); have HO62 := Aside0.mk hy0; clear HO26; clear HB; have HB := Aside0.mk hb; clear hy0 hb hkp; clear HO62) | ((with_reducible refine gate_callee (f := 18) rfl ?_); refine goesL_ (some 55) rfl rfl Try.func18 (by kernel_rfl) rfl #[.slice Ao33 t29.length co34, .int .i64 t59] rfl z1_ ?_; (refine (laws_markOpS.calls k (fun k_ => z4 ≤ k_ ∧ k_ < z5) (.slice Ao33 t29.length co34) t29 t59 t63 t64 w _ ?side1 ?side2 F65.out).mono ?_); (case side1 => exact z20_); (case side2 => (with_reducible repeat (first | apply Kd.S_drewN | apply Kd.S_drew)); exact HO32.out); rintro e wx ⟨rfl, hy0, hb, hkp⟩; refine ⟨_, rfl, ?_⟩; replace HO20 := Aside0.mk (Kd.N_kept z7_ hkp (fun k_ h1_ h2_ => iv_apart h1_ h2_ z16_)); replace HO38 := Aside0.mk (Kd.S_kept z21_ hkp (fun k_ h1_ h2_ => iv_apart h1_ h2_ z16_)); replace HZ := Aside0.mk (Nat.le_trans HZ.out hkp.1); have HO66 := Aside0.mk hy0; clear HO32; clear HB; have HB := Aside0.mk hb; clear hy0 hb hkp; clear HO66) | (go_at_call 15; (refine (laws_eqOpS.calls k _ _ t35 _ _ t17 true _ ?side1 ?side2 ?side3 ?side4 F68.out).mono ?_); (case side1 => exact z39_); (case side2 => exact (Kd.R_reads' (Kd.S_R HO38.out)).2.1); (case side3 => exact z28_); (case side4 => exact z66_); rintro e wx ⟨rfl, hb⟩; replace HO20 := Aside0.mk (Kd.N_below z7_ hb); replace HO38 := Aside0.mk (Kd.S_below z21_ hb); replace HZ := Aside0.mk (Nat.le_trans HZ.out hb.size); replace HB := Aside0.mk (below_step z0_ hb); clear hb) | ((with_reducible refine gate_callee (f := 18) rfl ?_); refine goesL_ (some 66) rfl rfl Try.func18 (by kernel_rfl) rfl #[.slice Ao39 t35.length co40, .int .i64 1] rfl z1_ ?_; (refine (laws_markOpS.calls k (fun k_ => z5 ≤ k_ ∧ k_ < z6) (.slice Ao39 t35.length co40) t35 1 t69 t70 w _ ?side1 ?side2 F71.out).mono ?_); (case side1 => exact z20_); (case side2 => (with_reducible repeat (first | apply Kd.S_drewN | apply Kd.S_drew)); exact HO38.out); rintro e wx ⟨rfl, hy0, hb, hkp⟩; refine ⟨_, rfl, ?_⟩; replace HO20 := Aside0.mk (Kd.N_kept z7_ hkp (fun k_ h1_ h2_ => iv_apart h1_ h2_ z16_)); replace HZ := Aside0.mk (Nat.le_trans HZ.out hkp.1); have HO72 := Aside0.mk hy0; clear HO38; clear HB; have HB := Aside0.mk hb; clear hy0 hb hkp) | ((with_reducible refine gate_callee (f := 19) rfl ?_); refine goesL_ (some 69) rfl rfl Try.func19 (by kernel_rfl) rfl #[.slice Ao39 t70.length co40, .int .i64 1] rfl z35_ ?_; (refine (laws_heldOpS.calls k _ _ t70 1 t73 _ ?side1 ?side2 F74.out).mono ?_); (case side1 => exact z40_); (case side2 => exact z54_); rintro e w' ⟨rfl, ⟨nd, rfl⟩⟩; refine ⟨_, rfl, ?_⟩) | ((with_reducible refine gate_callee (f := 13) rfl ?_); refine goesL_ (some 76) rfl rfl Try.func13 (by kernel_rfl) rfl #[.slice A0 l0.length c0] rfl z1_ ?_; (refine (laws_toOpS.calls k _ _ l0 t75 _ ?side1 ?side2 F76.out).mono ?_); (case side1 => exact z9_); (case side2 => exact HC0.out); rintro e wx ⟨v77, rfl, ho0, hb⟩; refine ⟨_, rfl, ?_⟩; obtain ⟨z9, za9_, zb9_, hn0_⟩ := ivS ho0 (below_size z0_) HZ.out hb.size; have HZ9 := Aside0.mk za9_; replace HO20 := Aside0.mk (Kd.N_below z7_ hb); replace HO72 := Aside0.mk (Kd.S_below z37_ hb); replace HZ := Aside0.mk (zb9_); replace HB := Aside0.mk (below_step z0_ hb); have HO78 := Aside0.mk hn0_; obtain ⟨Ao79, co80, eo_⟩ := Kd.S_slice HO78.out; subst eo_; clear hn0_ ho0; clear hb; clear za9_ zb9_) | ((with_reducible refine gate_callee (f := 13) rfl ?_); refine goesL_ (some 78) rfl rfl Try.func13 (by kernel_rfl) rfl #[.slice A1 l1.length c1] rfl z1_ ?_; (refine (laws_toOpS.calls k _ _ l1 t81 _ ?side1 ?side2 F82.out).mono ?_); (case side1 => exact z12_); (case side2 => exact HC1.out); rintro e wx ⟨v83, rfl, ho0, hb⟩; refine ⟨_, rfl, ?_⟩; obtain ⟨z10, za10_, zb10_, hn0_⟩ := ivS ho0 (below_size z0_) HZ.out hb.size; have HZ10 := Aside0.mk za10_; replace HO20 := Aside0.mk (Kd.N_below z7_ hb); replace HO72 := Aside0.mk (Kd.S_below z37_ hb); replace HO78 := Aside0.mk (Kd.S_below z63_ hb); replace HZ := Aside0.mk (zb10_); replace HB := Aside0.mk (below_step z0_ hb); have HO84 := Aside0.mk hn0_; obtain ⟨Ao85, co86, eo_⟩ := Kd.S_slice HO84.out; subst eo_; clear hn0_ ho0; clear hb; clear za10_ zb10_) | ((with_reducible refine gate_callee (f := 30) rfl ?_); refine goesL_ (some 79) rfl rfl Try.func30 (by kernel_rfl) rfl #[.slice Ao79 t75.length co80, .slice Ao85 t81.length co86] rfl z1_ ?_; (refine (impl_Joined.calls k (fun _ => True) _ _ t75 (fun _ => True) _ _ t81 t87 _ ?side1 ?side2 F88.out).mono ?_); (case side1 => (with_reducible repeat (first | apply Kd.V_alloc | apply Kd.V_drewN | apply Kd.V_drew)); exact Kd.R_V (Kd.R_mono (Kd.S_R HO78.out) (fun _ _ => trivial))); (case side2 => (with_reducible repeat (first | apply Kd.V_alloc | apply Kd.V_drewN | apply Kd.V_drew)); exact Kd.R_V (Kd.R_mono (Kd.S_R HO84.out) (fun _ _ => trivial))); rintro e wx ⟨v89, rfl, ho0, hb⟩; refine ⟨_, rfl, ?_⟩; obtain ⟨z11, za11_, zb11_, hn0_⟩ := ivS ho0 (below_size z0_) HZ.out hb.size; have HZ11 := Aside0.mk za11_; replace HO20 := Aside0.mk (Kd.N_below z7_ hb); replace HO72 := Aside0.mk (Kd.S_below z37_ hb); replace HO78 := Aside0.mk (Kd.S_below z63_ hb); replace HO84 := Aside0.mk (Kd.S_below (by (with_reducible repeat (first | apply Kd.S_alloc | apply Kd.S_drewN | apply Kd.S_drew)); exact HO84.out) hb); replace HZ := Aside0.mk (zb11_); replace HB := Aside0.mk (below_step z0_ hb); have HO90 := Aside0.mk hn0_; obtain ⟨Ao91, co92, eo_⟩ := Kd.S_slice HO90.out; subst eo_; clear hn0_ ho0; clear hb; clear za11_ zb11_; clear HO78; clear HO84) | ((with_reducible refine gate_callee (f := 15) rfl ?_); refine goesL_ (some 82) rfl rfl Try.func15 (by kernel_rfl) rfl #[.slice Ao91 t87.length co92, .slice Ao21 t17.length co22] rfl z1_ ?_; (refine (laws_eqOpS.calls k _ _ t87 _ _ t17 true _ ?side1 ?side2 ?side3 ?side4 F94.out).mono ?_); (case side1 => repeat (first | exact (Kd.R_reads' (Kd.S_R HO90.out)).2.2 | (with_reducible refine Kd.C_alloc ?_ _) | (with_reducible refine Kd.C_drewN ?_ _) | (with_reducible refine Kd.C_drew ?_))); (case side2 => exact (Kd.R_reads' (Kd.S_R HO90.out)).2.1); (case side3 => exact z28_); (case side4 => exact z66_); rintro e wx ⟨rfl, hb⟩; refine ⟨_, rfl, ?_⟩; replace HO20 := Aside0.mk (Kd.N_below z7_ hb); replace HO72 := Aside0.mk (Kd.S_below z37_ hb); replace HO90 := Aside0.mk (Kd.S_below (by (with_reducible repeat (first | apply Kd.S_alloc | apply Kd.S_drewN | apply Kd.S_drew)); exact HO90.out) hb); replace HZ := Aside0.mk (Nat.le_trans HZ.out hb.size); replace HB := Aside0.mk (below_step z0_ hb); clear hb; clear HO90) | ((with_reducible refine gate_callee (f := 19) rfl ?_); refine goesL_ (some 86) rfl rfl Try.func19 (by kernel_rfl) rfl #[.slice Ao39 t70.length co40, .int .i64 1] rfl z35_ ?_; (refine (laws_heldOpS.calls k _ _ t70 1 t95 _ ?side1 ?side2 F96.out).mono ?_); (case side1 => exact z40_); (case side2 => exact z54_); rintro e w' ⟨rfl, ⟨nd, rfl⟩⟩; refine ⟨_, rfl, ?_⟩))
 go_ret
 exact ⟨z3_, z0_⟩

end Go.Proofs.Ytdapeboajjidmaa.PFnExactJoined
