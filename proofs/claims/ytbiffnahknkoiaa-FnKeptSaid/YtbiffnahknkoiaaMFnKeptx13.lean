/- Laid by a program of this session out of the kit's print for the law FnKept: what it says of the machine is proved here, function by function; each contract under the conditions that it names. -/
import Derived.Test.YtbiffnahknkoiaaMFnKeptx0
import Derived.Test.YtbiffnahknkoiaaMFnKeptx2
import Derived.Test.YtbiffnahknkoiaaMFnKeptx12
namespace Go.Proofs.Ytbiffnahknkoiaa.PFnKept
open Go.RowKit Go.Proofs.YtbiffnahknkoiaaW.PrintWords Go.Proofs.YtbiffnahknkoiaaW.PrintLast Go.Proofs.YtbiffnahknkoiaaW.PrintMore
attribute [local go_sem] max2_int min2_int max_two min_two max_three min_three max_four min_four   -- for this text's walks alone
set_option linter.unusedVariables false
set_option linter.unusedSimpArgs false

/-! ### spec_DrawMapCost: function 10 -/
def spec_DrawMapCost.f (k : Nat) (l0 : List Int) : Option ((List (S45)) × (List (S45)) × List Int × List Int × List Int × (List (S47))) := (spec_l1New.f k l0).bind fun bt501 => ((spec_l10Draw.f k bt501.1 bt501.2.1 bt501.2.2).bind fun bt505 => (some (bt505.1, bt505.2.1, bt505.2.2.1, bt505.2.2.2.1, bt505.2.2.2.2.1, bt505.2.2.2.2.2.1)))
def spec_DrawMapCost.T2 : Bool × List (List Nat × List Nat) := (true, [([], []), ([], []), ([], []), ([], []), ([0, 0], [0]), ([1, 4, 0, 1, 4], [1]), ([2, 5, 0, 1, 2, 4, 5], [2]), ([3, 6, 0, 1, 2, 3, 4, 5, 6], [3])])
def spec_DrawMapCost.B2 : List Nat := [0, 0, 0, 0, 1, 19, 55, 127]
theorem spec_DrawMapCost.tab2 : rtab .any (opsOf Try.f10 2) = spec_DrawMapCost.T2 := by kernel_rfl
theorem spec_DrawMapCost.bits2 : waitsOk spec_DrawMapCost.T2.2 spec_DrawMapCost.B2 = true := by kernel_rfl
set_option maxHeartbeats 8000000 in
set_option maxRecDepth 100000 in
theorem spec_DrawMapCost.calls (k : Nat) (A0 : Option Addr) (c0 : Nat) (l0 : List Int) (r1 : List (S45)) (r2 : List (S45)) (r3 : List Int) (r4 : List Int) (r5 : List Int) (r6 : List (S47)) (w : World) (hr0 : Kd.C (Kd.int .u8) w A0 l0.length l0) (hc0 : l0.length ≤ c0) (h : spec_DrawMapCost.f k l0 = some (r1, r2, r3, r4, r5, r6)) :
  Calls Try.prog 10 #[.slice A0 l0.length c0] w fun e w' => ∃ v0_ v1_ v2_ v3_ v4_ v5_ : Value, e = .returned (.tuple #[v0_, v1_, .agg #[v2_, v3_, v4_], v5_]) ∧ Kd.Q k45 45 w' w.heap.size (fun k_ => some k_ ≠ (v1_ : Value).ownBlock) v0_ r1 ∧ Kd.R k45 45 w' w.heap.size (fun k_ => some k_ ≠ (v0_ : Value).ownBlock) v1_ r2 ∧ Kd.R (Kd.int .i64) 3 w' w.heap.size (fun k_ => some k_ ≠ (v3_ : Value).ownBlock ∧ some k_ ≠ (v4_ : Value).ownBlock) v2_ r3 ∧ Kd.Q (Kd.int .i64) 3 w' w.heap.size (fun k_ => some k_ ≠ (v2_ : Value).ownBlock ∧ some k_ ≠ (v4_ : Value).ownBlock) v3_ r4 ∧ Kd.R (Kd.int .i64) 3 w' w.heap.size (fun k_ => some k_ ≠ (v2_ : Value).ownBlock ∧ some k_ ≠ (v3_ : Value).ownBlock) v4_ r5 ∧ Kd.Q k47 47 w' w.heap.size (fun _ => True) v5_ r6 ∧ Below w.heap.size w w' := by
 have hu33 := Try.underlying33
 have HR0 := Aside0.mk hr0
 have HC0 := Aside0.mk hc0
 clear hr0 hc0
 have HB := Aside0.mk (Below.refl w.heap.size w)
 have H : ((spec_l1New.f k l0).bind fun bt501 => ((spec_l10Draw.f k bt501.1 bt501.2.1 bt501.2.2).bind fun bt505 => (some (bt505.1, bt505.2.1, bt505.2.2.1, bt505.2.2.2.1, bt505.2.2.2.2.1, bt505.2.2.2.2.2.1)))) = some (r1, r2, r3, r4, r5, r6) := h
 clear h
 replace H := Option.bind_eq_some_iff.mp H
 obtain ⟨⟨t501, t502, t503⟩, A20, H⟩ := H
 try dsimp only at H
 have A2 := Aside0.mk A20
 clear A20
 replace H := Option.bind_eq_some_iff.mp H
 obtain ⟨⟨t505, t508, t511, t514, t517, t520, t523, t524⟩, A30, H⟩ := H
 try dsimp only at H
 have A3 := Aside0.mk A30
 clear A30
 simp only [Option.some.injEq, Prod.mk.injEq] at H
 obtain ⟨rfl, rfl, rfl, rfl, rfl, rfl⟩ := H
 go_enter Try.func10, Try.ntmps10
 try go_wp2_with (first | ((with_reducible refine gate_dst (N := 4) rfl ?_); refine box_event ?hg (N := 4) ?hd (cs := #[.slice none 0 0, .slice none 0 0, .slice none 0 0]) (t := 33) ?hr ?_; (case hd => rfl); (case hg => rfl); (case hr => exact z26_); intro gb500 hg w4 hbox hb; have BK500 := Aside0.mk (hbox); have GW500 := Aside0.mk ((by rw [hg]; exact (below_size z0_) : w.heap.size ≤ gb500)); have GE500 := Aside0.mk ((by rw [hg]; exact (below_size z0_) : w.heap.size ≤ gb500)); replace HB := Aside0.mk (below_step z0_ hb); clear hb hbox hg) | ((with_reducible refine gate_callee (f := 38) rfl ?_); refine goesL_ (some 12) rfl rfl Try.func38 (by kernel_rfl) rfl #[.slice A0 l0.length c0] rfl z4_ ?_; (with_reducible refine (spec_l1New.calls k _ _ l0 t501 t502 t503 w _ ?side1 ?side2 ?side3 A2.out).mono ?_); (case side1 => repeat (first | (with_reducible first | exact HB.out | apply below_alloc | apply pw_below_drewN | apply below_drew1 | refine below_set ?_ GE500.out) | exact HB.out)); (case side2 => exact HR0.out); (case side3 => exact HC0.out); rintro e w5 ⟨g504, rfl, hi, hb, hb2⟩; refine ⟨_, rfl, ?_⟩; replace HB := Aside0.mk (hb); have HI504 := Aside0.mk (hi); have NB504_500 := Aside0.mk (IsS115.ne_blk hi (blk_below (g := gb500) (o := .cells #[.slice none 0 0, .slice none 0 0, .slice none 0 0] 33 (0, 0)) z103_ hb2) (by decide)); have NB500_504 := Aside0.mk (Ne.symm (IsS115.ne_blk hi (blk_below (g := gb500) (o := .cells #[.slice none 0 0, .slice none 0 0, .slice none 0 0] 33 (0, 0)) z103_ hb2) (by decide))); replace BK500 := Aside0.mk (blk_below (g := gb500) (o := .cells #[.slice none 0 0, .slice none 0 0, .slice none 0 0] 33 (0, 0)) z103_ hb2); (try clear hb hb2 hi)) | ((with_reducible refine gate_callee (f := 37) rfl ?_); refine goesL_ (some 13) rfl rfl Try.func37 (by kernel_rfl) rfl #[.pointer (some ⟨g504, 0, none⟩)] rfl z4_ ?_; (with_reducible refine (spec_l10Draw.calls k g504 t501 t502 t503 t505 t508 t511 t514 t517 t520 t523 t524 w _ ?side1 ?side2 A3.out).mono ?_); (case side1 => exact z148_); (case side2 => exact z49_); rintro e w6 ⟨v506, v509, v512, v515, v518, v521, rfl, ho0, ho1, ho2, ho3, ho4, ho5, hi, hb, hk⟩; refine ⟨_, rfl, ?_⟩; replace BK500 := Aside0.mk (KeepBut.blk hk (g' := gb500) (o := .cells #[.slice none 0 0, .slice none 0 0, .slice none 0 0] 33 (0, 0)) z103_ NB500_504.out (by simp)); have HO507 := Aside0.mk (Kd.Q_lower ho0 (below_size z49_)); have HO510 := Aside0.mk (Kd.R_lower ho1 (below_size z49_)); have HO513 := Aside0.mk (Kd.R_lower ho2 (below_size z49_)); have HO516 := Aside0.mk (Kd.Q_lower ho3 (below_size z49_)); have HO519 := Aside0.mk (Kd.R_lower ho4 (below_size z49_)); have HO522 := Aside0.mk (Kd.Q_lower ho5 (below_size z49_)); replace HB := Aside0.mk (hb); replace HI504 := Aside0.mk (hi); (try clear hb hk hi ho0 ho1 ho2 ho3 ho4 ho5)) | ((with_reducible refine gate_dst (N := 8) rfl ?_); refine box_event ?hg (N := 8) ?hd (cs := #[.slice none 0 0, .slice none 0 0, .slice none 0 0]) (t := 33) ?hr ?_; (case hd => rfl); (case hg => rfl); (case hr => exact z26_); intro gb525 hg w7 hbox hb; replace HO507 := Aside0.mk (Kd.Q_below (by (with_reducible repeat (first | apply Kd.Q_alloc | apply Kd.Q_drewN | apply Kd.Q_drew)); exact HO507.out) hb); replace HO510 := Aside0.mk (Kd.R_below (by (with_reducible repeat (first | apply Kd.R_alloc | apply Kd.R_drewN | apply Kd.R_drew)); exact HO510.out) hb); replace HO513 := Aside0.mk (Kd.R_below (by (with_reducible repeat (first | apply Kd.R_alloc | apply Kd.R_drewN | apply Kd.R_drew)); exact HO513.out) hb); replace HO516 := Aside0.mk (Kd.Q_below (by (with_reducible repeat (first | apply Kd.Q_alloc | apply Kd.Q_drewN | apply Kd.Q_drew)); exact HO516.out) hb); replace HO519 := Aside0.mk (Kd.R_below (by (with_reducible repeat (first | apply Kd.R_alloc | apply Kd.R_drewN | apply Kd.R_drew)); exact HO519.out) hb); replace HO522 := Aside0.mk (Kd.Q_below (by (with_reducible repeat (first | apply Kd.Q_alloc | apply Kd.Q_drewN | apply Kd.Q_drew)); exact HO522.out) hb); have BK525 := Aside0.mk (hbox); have GW525 := Aside0.mk ((by rw [hg]; exact (below_size z49_) : w.heap.size ≤ gb525)); have GE525 := Aside0.mk ((by rw [hg]; exact (below_size z49_) : w.heap.size ≤ gb525)); replace HB := Aside0.mk (below_step z49_ hb); have NB500_525 := Aside0.mk ((by rw [hg]; exact Nat.ne_of_lt (blk_lt (g := gb500) (o := .cells #[.slice none 0 0, .slice none 0 0, .slice none 0 0] 33 (0, 0)) z103_) : gb500 ≠ gb525)); have NB525_500 := Aside0.mk ((by rw [hg]; exact Nat.ne_of_gt (blk_lt (g := gb500) (o := .cells #[.slice none 0 0, .slice none 0 0, .slice none 0 0] 33 (0, 0)) z103_) : gb525 ≠ gb500)); replace BK500 := Aside0.mk (blk_below (g := gb500) (o := .cells #[.slice none 0 0, .slice none 0 0, .slice none 0 0] 33 (0, 0)) z103_ hb); have NB504_525 := Aside0.mk ((by rw [hg]; exact Nat.ne_of_lt (IsS115.lt (show IsS115 w _ g504 t501 t523 t524 from by repeat (first | (with_reducible first | exact HI504.out | apply IsS115.alloc | apply IsS115.drewN | apply IsS115.drew | apply IsS115.set_1 | apply IsS115.set_2 | refine IsS115.far ?_ NB504_500.out _) | exact HI504.out))) : g504 ≠ gb525)); have NB525_504 := Aside0.mk ((by rw [hg]; exact Nat.ne_of_gt (IsS115.lt (show IsS115 w _ g504 t501 t523 t524 from by repeat (first | (with_reducible first | exact HI504.out | apply IsS115.alloc | apply IsS115.drewN | apply IsS115.drew | apply IsS115.set_1 | apply IsS115.set_2 | refine IsS115.far ?_ NB504_500.out _) | exact HI504.out))) : gb525 ≠ g504)); replace HI504 := Aside0.mk (IsS115.below z148_ hb); clear hb hbox hg; obtain ⟨Ao8, co8, eo8⟩ := Kd.R_slice HO513.out; subst eo8; have hnb9 := NB525_500.out; have hnc9 := NB500_525.out; have hnb10 := NB525_504.out; have hnc10 := NB504_525.out; obtain ⟨hcz11_0, hcz11_1, hcz11_2, hfz11_0, hfz11_1, hfz11_2⟩ := bx3_ BK525.out; obtain ⟨Ao12, co12, eo12, _⟩ := Kd.Q_slice HO516.out; subst eo12; obtain ⟨Ao13, co13, eo13⟩ := Kd.R_slice HO519.out; subst eo13))
 have n0_ : Aside0 (Kd.Q k45 45 (((w7.setCell ⟨gb525, 0, none⟩ (.slice Ao8 t511.length co8)).setCell ⟨gb525, 1, none⟩ (.slice Ao12 t514.length co12)).setCell ⟨gb525, 2, none⟩ (.slice Ao13 t517.length co13)) w.heap.size (fun k_ => some k_ ≠ (v509 : Value).ownBlock) v506 t505) := ⟨by (with_reducible repeat (first | apply Kd.Q_alloc | apply Kd.Q_drewN | apply Kd.Q_drew)); exact Kd.Q_mono (Kd.Q_far (p := ⟨gb525, 2, none⟩) (Kd.Q_far (p := ⟨gb525, 1, none⟩) (Kd.Q_far (p := ⟨gb525, 0, none⟩) (Kd.Q_types HO507.out BK525.out (by decide)) (fun _ hk => hk.2) (.slice Ao8 t511.length co8)) (fun _ hk => hk.2) (.slice Ao12 t514.length co12)) (fun _ hk => hk.2) (.slice Ao13 t517.length co13)) (fun _ hk => hk.1)⟩
 have n1_ : Aside0 (Kd.R k45 45 (((w7.setCell ⟨gb525, 0, none⟩ (.slice Ao8 t511.length co8)).setCell ⟨gb525, 1, none⟩ (.slice Ao12 t514.length co12)).setCell ⟨gb525, 2, none⟩ (.slice Ao13 t517.length co13)) w.heap.size (fun k_ => some k_ ≠ (v506 : Value).ownBlock) v509 t508) := ⟨by (with_reducible repeat (first | apply Kd.R_alloc | apply Kd.R_drewN | apply Kd.R_drew)); exact Kd.R_mono (Kd.R_far (p := ⟨gb525, 2, none⟩) (Kd.R_far (p := ⟨gb525, 1, none⟩) (Kd.R_far (p := ⟨gb525, 0, none⟩) (Kd.R_types HO510.out BK525.out (by decide)) (fun _ hk => hk.2) (.slice Ao8 t511.length co8)) (fun _ hk => hk.2) (.slice Ao12 t514.length co12)) (fun _ hk => hk.2) (.slice Ao13 t517.length co13)) (fun _ hk => hk.1)⟩
 have n2_ : Aside0 (Kd.R (Kd.int .i64) 3 (((w7.setCell ⟨gb525, 0, none⟩ (.slice Ao8 t511.length co8)).setCell ⟨gb525, 1, none⟩ (.slice Ao12 t514.length co12)).setCell ⟨gb525, 2, none⟩ (.slice Ao13 t517.length co13)) w.heap.size (fun k_ => some k_ ≠ (.slice Ao12 t514.length co12 : Value).ownBlock ∧ some k_ ≠ (.slice Ao13 t517.length co13 : Value).ownBlock) (.slice Ao8 t511.length co8) t511) := ⟨by (with_reducible repeat (first | apply Kd.R_alloc | apply Kd.R_drewN | apply Kd.R_drew)); exact Kd.R_mono (Kd.R_far (p := ⟨gb525, 2, none⟩) (Kd.R_far (p := ⟨gb525, 1, none⟩) (Kd.R_far (p := ⟨gb525, 0, none⟩) (Kd.R_types HO513.out BK525.out (by decide)) (fun _ hk => hk.2) (.slice Ao8 t511.length co8)) (fun _ hk => hk.2) (.slice Ao12 t514.length co12)) (fun _ hk => hk.2) (.slice Ao13 t517.length co13)) (fun _ hk => ⟨hk.1.1, hk.1.2⟩)⟩
 have n3_ : Aside0 (Kd.Q (Kd.int .i64) 3 (((w7.setCell ⟨gb525, 0, none⟩ (.slice Ao8 t511.length co8)).setCell ⟨gb525, 1, none⟩ (.slice Ao12 t514.length co12)).setCell ⟨gb525, 2, none⟩ (.slice Ao13 t517.length co13)) w.heap.size (fun k_ => some k_ ≠ (.slice Ao8 t511.length co8 : Value).ownBlock ∧ some k_ ≠ (.slice Ao13 t517.length co13 : Value).ownBlock) (.slice Ao12 t514.length co12) t514) := ⟨by (with_reducible repeat (first | apply Kd.Q_alloc | apply Kd.Q_drewN | apply Kd.Q_drew)); exact Kd.Q_mono (Kd.Q_far (p := ⟨gb525, 2, none⟩) (Kd.Q_far (p := ⟨gb525, 1, none⟩) (Kd.Q_far (p := ⟨gb525, 0, none⟩) (Kd.Q_types HO516.out BK525.out (by decide)) (fun _ hk => hk.2) (.slice Ao8 t511.length co8)) (fun _ hk => hk.2) (.slice Ao12 t514.length co12)) (fun _ hk => hk.2) (.slice Ao13 t517.length co13)) (fun _ hk => ⟨hk.1.1, hk.1.2⟩)⟩
 have n4_ : Aside0 (Kd.R (Kd.int .i64) 3 (((w7.setCell ⟨gb525, 0, none⟩ (.slice Ao8 t511.length co8)).setCell ⟨gb525, 1, none⟩ (.slice Ao12 t514.length co12)).setCell ⟨gb525, 2, none⟩ (.slice Ao13 t517.length co13)) w.heap.size (fun k_ => some k_ ≠ (.slice Ao8 t511.length co8 : Value).ownBlock ∧ some k_ ≠ (.slice Ao12 t514.length co12 : Value).ownBlock) (.slice Ao13 t517.length co13) t517) := ⟨by (with_reducible repeat (first | apply Kd.R_alloc | apply Kd.R_drewN | apply Kd.R_drew)); exact Kd.R_mono (Kd.R_far (p := ⟨gb525, 2, none⟩) (Kd.R_far (p := ⟨gb525, 1, none⟩) (Kd.R_far (p := ⟨gb525, 0, none⟩) (Kd.R_types HO519.out BK525.out (by decide)) (fun _ hk => hk.2) (.slice Ao8 t511.length co8)) (fun _ hk => hk.2) (.slice Ao12 t514.length co12)) (fun _ hk => hk.2) (.slice Ao13 t517.length co13)) (fun _ hk => ⟨hk.1.1, hk.1.2⟩)⟩
 have n5_ : Aside0 (Kd.Q k47 47 (((w7.setCell ⟨gb525, 0, none⟩ (.slice Ao8 t511.length co8)).setCell ⟨gb525, 1, none⟩ (.slice Ao12 t514.length co12)).setCell ⟨gb525, 2, none⟩ (.slice Ao13 t517.length co13)) w.heap.size (fun _ => True) v521 t520) := ⟨by (with_reducible repeat (first | apply Kd.Q_alloc | apply Kd.Q_drewN | apply Kd.Q_drew)); exact Kd.Q_mono (Kd.Q_far (p := ⟨gb525, 2, none⟩) (Kd.Q_far (p := ⟨gb525, 1, none⟩) (Kd.Q_far (p := ⟨gb525, 0, none⟩) (Kd.Q_types HO522.out BK525.out (by decide)) (fun _ hk => hk.2) (.slice Ao8 t511.length co8)) (fun _ hk => hk.2) (.slice Ao12 t514.length co12)) (fun _ hk => hk.2) (.slice Ao13 t517.length co13)) (fun _ hk => trivial)⟩
 have n6_ : Aside0 ((((w7.setCell ⟨gb525, 0, none⟩ (.slice Ao8 t511.length co8)).setCell ⟨gb525, 1, none⟩ (.slice Ao12 t514.length co12)).setCell ⟨gb525, 2, none⟩ (.slice Ao13 t517.length co13)).heap[gb500]? = some (.cells #[.slice none 0 0, .slice none 0 0, .slice none 0 0] 33 (0, 0))) := ⟨by (with_reducible repeat (first | refine blk_drewN ?_ _ | refine blk_drew ?_ | refine blk_alloc ?_ _)); refine blk_far ?_ NB500_525.out _; (with_reducible repeat (first | refine blk_drewN ?_ _ | refine blk_drew ?_ | refine blk_alloc ?_ _)); refine blk_far ?_ NB500_525.out _; (with_reducible repeat (first | refine blk_drewN ?_ _ | refine blk_drew ?_ | refine blk_alloc ?_ _)); refine blk_far ?_ NB500_525.out _; (with_reducible repeat (first | refine blk_drewN ?_ _ | refine blk_drew ?_ | refine blk_alloc ?_ _)); exact BK500.out⟩
 have n7_ : Aside0 ((((w7.setCell ⟨gb525, 0, none⟩ (.slice Ao8 t511.length co8)).setCell ⟨gb525, 1, none⟩ (.slice Ao12 t514.length co12)).setCell ⟨gb525, 2, none⟩ (.slice Ao13 t517.length co13)).heap[gb525]? = some (.cells #[.slice Ao8 t511.length co8, .slice Ao12 t514.length co12, .slice Ao13 t517.length co13] 33 (0, 0))) := ⟨by (with_reducible repeat (first | refine blk_drewN ?_ _ | refine blk_drew ?_ | refine blk_alloc ?_ _)); refine blk_put (cs := #[.slice Ao8 t511.length co8, .slice Ao12 t514.length co12, .slice none 0 0]) ?_ 2 _ rfl; (with_reducible repeat (first | refine blk_drewN ?_ _ | refine blk_drew ?_ | refine blk_alloc ?_ _)); refine blk_put (cs := #[.slice Ao8 t511.length co8, .slice none 0 0, .slice none 0 0]) ?_ 1 _ rfl; (with_reducible repeat (first | refine blk_drewN ?_ _ | refine blk_drew ?_ | refine blk_alloc ?_ _)); refine blk_put (cs := #[.slice none 0 0, .slice none 0 0, .slice none 0 0]) ?_ 0 _ rfl; (with_reducible repeat (first | refine blk_drewN ?_ _ | refine blk_drew ?_ | refine blk_alloc ?_ _)); exact BK525.out⟩
 have n8_ : Aside0 (IsS115 w (((w7.setCell ⟨gb525, 0, none⟩ (.slice Ao8 t511.length co8)).setCell ⟨gb525, 1, none⟩ (.slice Ao12 t514.length co12)).setCell ⟨gb525, 2, none⟩ (.slice Ao13 t517.length co13)) g504 t501 t523 t524) := ⟨by repeat (first | (with_reducible first | exact HI504.out | apply IsS115.alloc | apply IsS115.drewN | apply IsS115.drew | apply IsS115.set_1 | apply IsS115.set_2 | refine IsS115.far ?_ NB504_500.out _ | refine IsS115.far ?_ NB504_525.out _) | exact HI504.out)⟩
 have n9_ : Aside0 (Below w.heap.size w (((w7.setCell ⟨gb525, 0, none⟩ (.slice Ao8 t511.length co8)).setCell ⟨gb525, 1, none⟩ (.slice Ao12 t514.length co12)).setCell ⟨gb525, 2, none⟩ (.slice Ao13 t517.length co13))) := ⟨z146_⟩
 (try clear HO507)
 (try clear HO510)
 (try clear HO513)
 (try clear HO516)
 (try clear HO519)
 (try clear HO522)
 (try clear BK500)
 (try clear BK525)
 (try clear HI504)
 (try clear HB)
 generalize (((w7.setCell ⟨gb525, 0, none⟩ (.slice Ao8 t511.length co8)).setCell ⟨gb525, 1, none⟩ (.slice Ao12 t514.length co12)).setCell ⟨gb525, 2, none⟩ (.slice Ao13 t517.length co13)) = w14 at n0_ n1_ n2_ n3_ n4_ n5_ n6_ n7_ n8_ n9_ ⊢
 have HO507 := n0_
 have HO510 := n1_
 have HO513 := n2_
 have HO516 := n3_
 have HO519 := n4_
 have HO522 := n5_
 have BK500 := n6_
 have BK525 := n7_
 have HI504 := n8_
 have HB := n9_
 clear n0_ n1_ n2_ n3_ n4_ n5_ n6_ n7_ n8_ n9_
 have n0_ := Aside0.mk (Kd.Q_drew HO507.out)
 have n1_ := Aside0.mk (Kd.R_drew HO510.out)
 have n2_ := Aside0.mk (Kd.R_drew HO513.out)
 have n3_ := Aside0.mk (Kd.Q_drew HO516.out)
 have n4_ := Aside0.mk (Kd.R_drew HO519.out)
 have n5_ := Aside0.mk (Kd.Q_drew HO522.out)
 have n6_ := Aside0.mk (blk_drew BK500.out)
 have n7_ := Aside0.mk (blk_drew BK525.out)
 have n8_ := Aside0.mk (IsS115.drew HI504.out)
 have n9_ := Aside0.mk (below_drew1 HB.out)
 clear HO507
 clear HO510
 clear HO513
 clear HO516
 clear HO519
 clear HO522
 clear BK500
 clear BK525
 clear HI504
 clear HB
 have HO507 := n0_
 have HO510 := n1_
 have HO513 := n2_
 have HO516 := n3_
 have HO519 := n4_
 have HO522 := n5_
 have BK500 := n6_
 have BK525 := n7_
 have HI504 := n8_
 have HB := n9_
 clear n0_ n1_ n2_ n3_ n4_ n5_ n6_ n7_ n8_ n9_
 refine start_ (n := 8) (S := fun w' => w'.cell? ⟨gb525, 0, none⟩ = some (.slice Ao8 t511.length co8) ∧ w'.cell? ⟨gb525, 1, none⟩ = some (.slice Ao12 t514.length co12) ∧ w'.cell? ⟨gb525, 2, none⟩ = some (.slice Ao13 t517.length co13)) (ds := []) (fl_ 8 0) (by kernel_rfl) rfl (fl_zero _) ⟨(blk_cell BK525.out 0).trans rfl, (blk_cell BK525.out 1).trans rfl, (blk_cell BK525.out 2).trans rfl⟩ (fun hHeld => ?_); refine with_tabW spec_DrawMapCost.tab2 spec_DrawMapCost.bits2 (fun HT_ HW_ => ?_)
 generalize w14.drew = w15 at HO507 HO510 HO513 HO516 HO519 HO522 BK500 BK525 HI504 HB hHeld ⊢
 iterate 2 refine zp_ HT_ rfl rfl (by kernel_rfl) (fun _ _ _ h => h) (by rfl) ?_
 refine zpg_ (i := 3) (ra_ [2, 1, 1, 4]) HT_ rfl rfl (by kernel_rfl) (fun _ _ _ h => h) (by rfl) ?_
 refine zpg_ (i := 4) (ra_ [2, 1, 2, 3]) HT_ rfl rfl (by kernel_rfl) (fun _ _ _ h => h) (by rfl) ?_
 refine zpg_ (i := 5) (ra_ [2, 1, 3, 2]) HT_ rfl rfl (by kernel_rfl) (fun _ _ _ h => h) (by rfl) ?_
 refine ztg_ (i := 2) (fl_ 8 6) HT_ HW_ rfl rfl (by kernel_rfl) (fun _ _ _ h => h) (by rfl) hHeld ?_ z207_
 refine one_ (i := 6) (N := none) (fl_ 8 7) rfl rfl (one_of HT_.out (by kernel_rfl)) (by decide) (fun K hK => ?_)
 have hs16 : w15.cell? ⟨gb500, 0, none⟩ = some (.slice none 0 0) := (blk_cell BK500.out 0).trans rfl
 have hfs16 := blk_frozen BK500.out 0
 have hns16_1 := NB525_500.out
 have hms16_1 := NB500_525.out
 have hs17 : w15.cell? ⟨gb500, 1, none⟩ = some (.slice none 0 0) := (blk_cell BK500.out 1).trans rfl
 have hfs17 := blk_frozen BK500.out 1
 have hns17_1 := NB525_500.out
 have hms17_1 := NB500_525.out
 have hs18 : w15.cell? ⟨gb500, 2, none⟩ = some (.slice none 0 0) := (blk_cell BK500.out 2).trans rfl
 have hfs18 := blk_frozen BK500.out 2
 have hns18_1 := NB525_500.out
 have hms18_1 := NB500_525.out
 refine skip_ (w1 := ?_) (by rfl) rfl ?_ ?_
 rotate_left
 ·go_simp
  rfl
 refine hK.out _ _ ⟨((cell_far (p := ⟨gb500, _, none⟩) NB525_500.out _).trans (((cell_far (p := ⟨gb500, _, none⟩) NB525_500.out _).trans (((cell_far (p := ⟨gb500, _, none⟩) NB525_500.out _).trans (hHeld.1)))))), ((cell_far (p := ⟨gb500, _, none⟩) NB525_500.out _).trans (((cell_far (p := ⟨gb500, _, none⟩) NB525_500.out _).trans (((cell_far (p := ⟨gb500, _, none⟩) NB525_500.out _).trans (hHeld.2.1)))))), ((cell_far (p := ⟨gb500, _, none⟩) NB525_500.out _).trans (((cell_far (p := ⟨gb500, _, none⟩) NB525_500.out _).trans (((cell_far (p := ⟨gb500, _, none⟩) NB525_500.out _).trans (hHeld.2.2))))))⟩ (fun hHeld => ?_)
 clear hK K
 refine zp_ HT_ rfl rfl (by kernel_rfl) (fun _ _ _ h => h) (by rfl) ?_
 refine done_ (done_of HT_.out (by kernel_rfl)) ?_
 try go_wp2
 refine bodyPost_ret (results_list (rs := [.tmp 2, .tmp 3, .cell 4 33, .tmp 5]) rfl (by simp) (.tmp (.tmp (.cell gb500 33 #[.slice Ao8 t511.length co8, .slice Ao12 t514.length co12, .slice Ao13 t517.length co13] (0, 0) _ rfl (by (with_reducible repeat (first | refine blk_drewN ?_ _ | refine blk_drew ?_ | refine blk_alloc ?_ _)); refine blk_put (cs := #[.slice Ao8 t511.length co8, .slice Ao12 t514.length co12, .slice none 0 0]) ?_ 2 _ rfl; (with_reducible repeat (first | refine blk_drewN ?_ _ | refine blk_drew ?_ | refine blk_alloc ?_ _)); refine blk_put (cs := #[.slice Ao8 t511.length co8, .slice none 0 0, .slice none 0 0]) ?_ 1 _ rfl; (with_reducible repeat (first | refine blk_drewN ?_ _ | refine blk_drew ?_ | refine blk_alloc ?_ _)); refine blk_put (cs := #[.slice none 0 0, .slice none 0 0, .slice none 0 0]) ?_ 0 _ rfl; (with_reducible repeat (first | refine blk_drewN ?_ _ | refine blk_drew ?_ | refine blk_alloc ?_ _)); exact BK500.out) Try.underlying33 rfl (by kernel_rfl) (.tmp .nil))))) rfl ?_
 exact ⟨_, _, _, _, _, _, z7_, by (with_reducible repeat (first | apply Kd.Q_alloc | apply Kd.Q_drewN | apply Kd.Q_drew)); exact Kd.Q_mono (Kd.Q_far (p := ⟨gb500, 2, none⟩) (Kd.Q_far (p := ⟨gb500, 1, none⟩) (Kd.Q_far (p := ⟨gb500, 0, none⟩) (Kd.Q_types HO507.out BK500.out (by decide)) (fun _ hk => hk.2) (.slice Ao8 t511.length co8)) (fun _ hk => hk.2) (.slice Ao12 t514.length co12)) (fun _ hk => hk.2) (.slice Ao13 t517.length co13)) (fun _ hk => hk.1), by (with_reducible repeat (first | apply Kd.R_alloc | apply Kd.R_drewN | apply Kd.R_drew)); exact Kd.R_mono (Kd.R_far (p := ⟨gb500, 2, none⟩) (Kd.R_far (p := ⟨gb500, 1, none⟩) (Kd.R_far (p := ⟨gb500, 0, none⟩) (Kd.R_types HO510.out BK500.out (by decide)) (fun _ hk => hk.2) (.slice Ao8 t511.length co8)) (fun _ hk => hk.2) (.slice Ao12 t514.length co12)) (fun _ hk => hk.2) (.slice Ao13 t517.length co13)) (fun _ hk => hk.1), by (with_reducible repeat (first | apply Kd.R_alloc | apply Kd.R_drewN | apply Kd.R_drew)); exact Kd.R_mono (Kd.R_far (p := ⟨gb500, 2, none⟩) (Kd.R_far (p := ⟨gb500, 1, none⟩) (Kd.R_far (p := ⟨gb500, 0, none⟩) (Kd.R_types HO513.out BK500.out (by decide)) (fun _ hk => hk.2) (.slice Ao8 t511.length co8)) (fun _ hk => hk.2) (.slice Ao12 t514.length co12)) (fun _ hk => hk.2) (.slice Ao13 t517.length co13)) (fun _ hk => ⟨hk.1.1, hk.1.2⟩), by (with_reducible repeat (first | apply Kd.Q_alloc | apply Kd.Q_drewN | apply Kd.Q_drew)); exact Kd.Q_mono (Kd.Q_far (p := ⟨gb500, 2, none⟩) (Kd.Q_far (p := ⟨gb500, 1, none⟩) (Kd.Q_far (p := ⟨gb500, 0, none⟩) (Kd.Q_types HO516.out BK500.out (by decide)) (fun _ hk => hk.2) (.slice Ao8 t511.length co8)) (fun _ hk => hk.2) (.slice Ao12 t514.length co12)) (fun _ hk => hk.2) (.slice Ao13 t517.length co13)) (fun _ hk => ⟨hk.1.1, hk.1.2⟩), by (with_reducible repeat (first | apply Kd.R_alloc | apply Kd.R_drewN | apply Kd.R_drew)); exact Kd.R_mono (Kd.R_far (p := ⟨gb500, 2, none⟩) (Kd.R_far (p := ⟨gb500, 1, none⟩) (Kd.R_far (p := ⟨gb500, 0, none⟩) (Kd.R_types HO519.out BK500.out (by decide)) (fun _ hk => hk.2) (.slice Ao8 t511.length co8)) (fun _ hk => hk.2) (.slice Ao12 t514.length co12)) (fun _ hk => hk.2) (.slice Ao13 t517.length co13)) (fun _ hk => ⟨hk.1.1, hk.1.2⟩), by (with_reducible repeat (first | apply Kd.Q_alloc | apply Kd.Q_drewN | apply Kd.Q_drew)); exact Kd.Q_mono (Kd.Q_far (p := ⟨gb500, 2, none⟩) (Kd.Q_far (p := ⟨gb500, 1, none⟩) (Kd.Q_far (p := ⟨gb500, 0, none⟩) (Kd.Q_types HO522.out BK500.out (by decide)) (fun _ hk => hk.2) (.slice Ao8 t511.length co8)) (fun _ hk => hk.2) (.slice Ao12 t514.length co12)) (fun _ hk => hk.2) (.slice Ao13 t517.length co13)) (fun _ hk => trivial), z146_⟩

/-! ### impl_Unmapped_lit1: function 76 -/
def impl_Unmapped_lit1.f (a0_0 : Int) (a0_1 : Int) (a1 : Int) : Option (Bool) := some (a0_0 == a1)
set_option maxHeartbeats 8000000 in
set_option maxRecDepth 100000 in
theorem impl_Unmapped_lit1.calls (a0_0 : Int) (a0_1 : Int) (a1 : Int) (gi : Nat) (r : Bool) (w : World) (hci : w.cell? ⟨gi, 0, none⟩ = some (.int .i64 a1)) (h : impl_Unmapped_lit1.f a0_0 a0_1 a1 = some r) :
  Calls Try.prog 76 #[.agg #[.int .i64 a0_0, .int .i64 a0_1], .pointer (some ⟨gi, 0, none⟩)] w fun e w' => e = .returned (.bool r) ∧ Below w.heap.size w w' := by
 have hu47 := Try.underlying47
 have HB := Aside0.mk (Below.refl w.heap.size w)
 have H : (some (a0_0 == a1)) = some r := h
 clear h
 obtain rfl := Option.some.inj H
 go_enter Try.func76, Try.ntmps76
 go_wp2_with (first | ((with_reducible refine gate_dst (N := 2) rfl ?_); refine box_event ?hg (N := 2) ?hd (cs := #[.int .i64 a0_0, .int .i64 a0_1]) (t := 47) ?hr ?_; (case hd => rfl); (case hg => rfl); (case hr => exact z26_); intro gb526 hg w3 hbox hb; have hci3 := (hb.cell (World.block_lt_of_cell? _ _ hci)).trans hci; have BK526 := Aside0.mk (hbox); have GW526 := Aside0.mk ((by rw [hg]; exact (below_size z0_) : w.heap.size ≤ gb526)); have GE526 := Aside0.mk ((by rw [hg]; exact (below_size z0_) : w.heap.size ≤ gb526)); replace HB := Aside0.mk (below_step z0_ hb); clear hb hbox hg; obtain ⟨hcz4_0, hcz4_1, hfz4_0, hfz4_1⟩ := bx2_ BK526.out))
 go_ret
 exact ⟨z7_, by repeat (first | (with_reducible first | exact HB.out | apply below_alloc | apply pw_below_drewN | apply below_drew1 | refine below_set ?_ GE526.out) | exact HB.out)⟩

/-! ### slices_IndexFunc_Pair: function 102 -/
def slices_IndexFunc_Pair.l0 : Nat → List (S47) → Int → Int → Int → Option (Int)
 | 0, _, _, _, _ => none
 | k + 1, x0, x1, x7, x8 => if x8 < x7 then (if 0 ≤ x8 then (if x8 < (x0.length : Int) then ((impl_Unmapped_lit1.f ((rd_T47 x0 x8).f0) ((rd_T47 x0 x8).f1) x1).bind fun t528 => (if t528 = true then (some x8) else (slices_IndexFunc_Pair.l0 k x0 x1 x7 (wrap64 (x8 + 1))))) else (none)) else (none)) else (some (-1))
def slices_IndexFunc_Pair.f (k : Nat) (l0 : List (S47)) (a1 : Int) : Option (Int) := slices_IndexFunc_Pair.l0 k l0 a1 (l0.length : Int) 0
set_option maxHeartbeats 8000000 in
set_option maxRecDepth 100000 in
theorem slices_IndexFunc_Pair.calls (k : Nat) (A0 : Option Addr) (c0 : Nat) (l0 : List (S47)) (a1 : Int) (gi : Nat) (r : Int) (w : World) (hr0 : Kd.C k47 w A0 l0.length l0) (hc0 : l0.length ≤ c0) (hci : w.cell? ⟨gi, 0, none⟩ = some (.int .i64 a1)) (h : slices_IndexFunc_Pair.f k l0 a1 = some r) :
  Calls Try.prog 102 #[.slice A0 l0.length c0, .func (.func 76) #[] #[.pointer (some ⟨gi, 0, none⟩)]] w fun e w' => e = .returned (.int .i64 r) ∧ Below w.heap.size w w' := by
 have hu47 := Try.underlying47
 have HR0 := Aside0.mk hr0
 have HC0 := Aside0.mk hc0
 clear hr0 hc0
 have HB := Aside0.mk (Below.refl w.heap.size w)
 have H : (slices_IndexFunc_Pair.l0 k l0 a1 (l0.length : Int) 0) = some r := h
 clear h
 have H' := Aside0.mk H
 clear H
 go_enter Try.func102, Try.ntmps102
 go_wp2
 go_loopg [8] k (fun kq v8 w' => ∃ (x8_1 : Int), v8 = .int .i64 x8_1 ∧ Aside0 (slices_IndexFunc_Pair.l0 kq l0 a1 (l0.length : Int) x8_1 = some r) ∧ Aside0 (kq ≤ k) ∧ Aside0 (Below w.heap.size w w'))
 case atStart => exact ⟨(0), z9_, H', ⟨Nat.le_refl _⟩, ⟨z0_⟩⟩
 case round =>
  clear H'
  try clear c1
  try clear p2
  obtain ⟨x8_1, rfl, HA, HK1, HB⟩ := hrel
  cases gk with
  | zero => exact absurd HA.out (by simp [slices_IndexFunc_Pair.l0])
  | succ k1 =>
   have H := HA.out
   clear HA
   simp only [slices_IndexFunc_Pair.l0] at H
   by_cases c3 : x8_1 < (l0.length : Int)
   ·rw [if_pos c3] at H
    have c3b0 := decide_eq_true c3
    clear c3
    obtain ⟨c4b0, H⟩ := ifd_ H
    obtain ⟨c5b0, H⟩ := ifd_ H
    obtain ⟨t528, A6, H⟩ := bnd_ H
    by_cases c7 : t528 = true
    ·subst c7
     replace H := ift_ H
     obtain rfl := Option.some.inj H
     obtain ⟨p527, q527, ad527, e527, hx527_0, hx527_1⟩ := atb47_ HR0 HB x8_1
     cases e527
     go_wp2_with (first | (go_at_call 76; (with_reducible refine (impl_Unmapped_lit1.calls ((rd_T47 l0 x8_1).f0) ((rd_T47 l0 x8_1).f1) a1 gi true _ ((HB.out.cell (World.block_lt_of_cell? w _ hci)).trans hci) A6.out).mono ?_); rintro e w8 ⟨rfl, hb⟩; replace HB := Aside0.mk (below_step z0_ hb); (try clear hb)))
     go_ret
     exact ⟨z7_, z0_⟩
    ·replace c7 := Bool.eq_false_iff.mpr c7
     subst c7
     replace H := iff_ H
     have H' := Aside0.mk H
     clear H
     obtain ⟨p527, q527, ad527, e527, hx527_0, hx527_1⟩ := atb47_ HR0 HB x8_1
     cases e527
     go_wp2_with (first | (go_at_call 76; (with_reducible refine (impl_Unmapped_lit1.calls ((rd_T47 l0 x8_1).f0) ((rd_T47 l0 x8_1).f1) a1 gi false _ ((HB.out.cell (World.block_lt_of_cell? w _ hci)).trans hci) A6.out).mono ?_); rintro e w9 ⟨rfl, hb⟩; replace HB := Aside0.mk (below_step z0_ hb); (try clear hb)))
     go_roundg k1
     case measure => have := HK1.out; omega
     case rel => exact ⟨(wrap64 (x8_1 + 1)), z9_, H', ⟨z140_⟩, ⟨z0_⟩⟩
   ·rw [if_neg c3] at H
    have c3b0 := decide_eq_false c3
    clear c3
    obtain rfl := Option.some.inj H
    go_wp2
    go_ret
    exact ⟨z7_, z0_⟩

/-! ### slices_ContainsFunc_Pair: function 75 -/
def slices_ContainsFunc_Pair.f (k : Nat) (l0 : List (S47)) (a1 : Int) : Option (Bool) := (slices_IndexFunc_Pair.f k l0 a1).bind fun t529 => (some (decide (t529 ≥ 0)))
set_option maxHeartbeats 8000000 in
set_option maxRecDepth 100000 in
theorem slices_ContainsFunc_Pair.calls (k : Nat) (A0 : Option Addr) (c0 : Nat) (l0 : List (S47)) (a1 : Int) (gi : Nat) (r : Bool) (w : World) (hr0 : Kd.C k47 w A0 l0.length l0) (hc0 : l0.length ≤ c0) (hci : w.cell? ⟨gi, 0, none⟩ = some (.int .i64 a1)) (h : slices_ContainsFunc_Pair.f k l0 a1 = some r) :
  Calls Try.prog 75 #[.slice A0 l0.length c0, .func (.func 76) #[] #[.pointer (some ⟨gi, 0, none⟩)]] w fun e w' => e = .returned (.bool r) ∧ Below w.heap.size w w' := by
 have HR0 := Aside0.mk hr0
 have HC0 := Aside0.mk hc0
 clear hr0 hc0
 have HB := Aside0.mk (Below.refl w.heap.size w)
 have H : ((slices_IndexFunc_Pair.f k l0 a1).bind fun t529 => (some (decide (t529 ≥ 0)))) = some r := h
 clear h
 obtain ⟨t529, A3, H⟩ := bnd_ H
 obtain rfl := Option.some.inj H
 go_enter Try.func75, Try.ntmps75
 go_wp2_with (first | ((with_reducible refine gate_callee (f := 102) rfl ?_); refine goesL_ (some 7) rfl rfl Try.func102 (by kernel_rfl) rfl #[.slice A0 l0.length c0, .func (.func 76) #[] #[.pointer (some ⟨gi, 0, none⟩)]] rfl z4_ ?_; (with_reducible refine (slices_IndexFunc_Pair.calls k _ _ l0 a1 gi t529 _ ?side1 ?side2 ((HB.out.cell (World.block_lt_of_cell? w _ hci)).trans hci) A3.out).mono ?_); (case side1 => exact z11_); (case side2 => exact HC0.out); rintro e w4 ⟨rfl, hb⟩; refine ⟨_, rfl, ?_⟩; replace HB := Aside0.mk (below_step z0_ hb); (try clear hb)))
 go_ret
 exact ⟨z7_, z0_⟩

/-! ### impl_Unmapped: function 39 -/
def impl_Unmapped.l0 : Nat → List (S47) → List Int → Int → Int → Option (List Int)
 | 0, _, _, _, _ => none
 | k + 1, x1, x5, x9, x10 => if x10 < x9 then ((slices_ContainsFunc_Pair.f k x1 x10).bind fun t533 => (if t533 = true then (impl_Unmapped.l0 k x1 x5 x9 (wrap64 (x10 + 1))) else (if x5.length < 17592186044416 then (impl_Unmapped.l0 k x1 (x5 ++ [x10]) x9 (wrap64 (x10 + 1))) else (none)))) else (some x5)
def impl_Unmapped.f (k : Nat) (l0 : List (S45)) (l1 : List (S47)) : Option (List Int) := impl_Unmapped.l0 k l1 (([] : List Int)) (l0.length : Int) 0
set_option maxHeartbeats 8000000 in
set_option maxRecDepth 100000 in
theorem impl_Unmapped.calls (k : Nat) (A0 : Option Addr) (c0 : Nat) (l0 : List (S45)) (A1 : Option Addr) (c1 : Nat) (l1 : List (S47)) (r : List Int) (w : World) (hr0 : Kd.C k45 w A0 l0.length l0) (hc0 : l0.length ≤ c0) (hr1 : Kd.C k47 w A1 l1.length l1) (hc1 : l1.length ≤ c1) (h : impl_Unmapped.f k l0 l1 = some r) :
  Calls Try.prog 39 #[.slice A0 l0.length c0, .slice A1 l1.length c1] w fun e w' => ∃ v0_ : Value, e = .returned (v0_) ∧ Kd.R (Kd.int .i64) 3 w' w.heap.size (fun _ => True) v0_ r ∧ Below w.heap.size w w' := by
 have hmf : ∀ (fn : Fn) (first cap : Array Value) (w : World), (Instr.makeFunc fn first cap).run Try.prog w = .ok (.func fn first cap) w := fun _ _ _ _ => rfl
 have HR0 := Aside0.mk hr0
 have HC0 := Aside0.mk hc0
 clear hr0 hc0
 have HR1 := Aside0.mk hr1
 have HC1 := Aside0.mk hc1
 clear hr1 hc1
 have HB := Aside0.mk (Below.refl w.heap.size w)
 have H : (impl_Unmapped.l0 k l1 (([] : List Int)) (l0.length : Int) 0) = some r := h
 clear h
 first | ((with_reducible have hz_ := gy_ H); obtain ⟨y530, Ny530, H⟩ := hz_) | (generalize hy_ : ((([] : List Int)) : List Int) = y530 at H; have Ny530 := Aside0.mk hy_.symm; clear hy_)
 have H' := Aside0.mk H
 clear H
 go_enter Try.func39, Try.ntmps39
 go_wp2_with (first | ((with_reducible refine gate_dst (N := 7) rfl ?_); refine Kd.R_lit (Kd.int .i64) _ 3 ?hg (N := 7) ?hd (xs := ([] : List Int)) (inner := []) (ok := fun _ => True) (okp := fun _ => True) ?hr ?hp (fun _ hk => hk) trivial (Below.refl _ _) (Nat.le_refl _) (by simp) ?_; (case hd => rfl); (case hg => rfl); (case hr => exact z26_); (case hp => exact z162_); intro v531 w3 ho4 hb hg_ hnew_; clear hg_ hnew_; (first | rw [← Ny530.out] at ho4 | (simp only [Int.reduceToNat] at ho4; rw [← Ny530.out] at ho4)); have HO532 := Aside0.mk (Kd.R_lower ho4 (below_size z0_)); replace HB := Aside0.mk (below_step z0_ hb); clear hb ho4))
 go_loopg [5, 10] k (fun kq v5 v10 w' => ∃ (x5_1 : List Int) (x10_1 : Int), v10 = .int .i64 x10_1 ∧ Aside0 (impl_Unmapped.l0 kq l1 x5_1 (l0.length : Int) x10_1 = some r) ∧ Aside0 (kq ≤ k) ∧ Aside0 (Kd.R (Kd.int .i64) 3 w' w.heap.size (fun _ => True) v5 x5_1) ∧ Aside0 (Below w.heap.size w w'))
 case atStart => exact ⟨(y530), (0), z9_, H', ⟨Nat.le_refl _⟩, ⟨by (with_reducible repeat (first | apply Kd.R_alloc | apply Kd.R_drewN | apply Kd.R_drew)); exact HO532.out⟩, ⟨z0_⟩⟩
 case round =>
  clear H'
  try clear c1
  try clear p2
  try clear c3
  obtain ⟨x5_1, x10_1, rfl, HA, HK1, HO_5, HB⟩ := hrel
  cases gk with
  | zero => exact absurd HA.out (by simp [impl_Unmapped.l0])
  | succ k1 =>
   have H := HA.out
   clear HA
   simp only [impl_Unmapped.l0] at H
   by_cases c5 : x10_1 < (l0.length : Int)
   ·rw [if_pos c5] at H
    have c5b0 := decide_eq_true c5
    clear c5
    obtain ⟨t533, A6, H⟩ := bnd_ H
    by_cases c7 : t533 = true
    ·subst c7
     replace H := ift_ H
     have H' := Aside0.mk H
     clear H
     go_wp2_with (first | ((with_reducible refine gate_dst (N := 6) rfl ?_); refine box_event ?hg (N := 6) ?hd (cs := #[.int .i64 0]) (t := 3) ?hr ?_; (case hd => rfl); (case hg => rfl); (case hr => exact z26_); intro gi hg wg hbox hb; have n0_ := Aside0.mk (Kd.R_below (Kd.R_elderB z5_ gi (by rw [hg]; exact Nat.le_refl _)) hb); have n1_ := Aside0.mk (below_step z0_ hb); have BKi := Aside0.mk hbox; have GEi := Aside0.mk (z169_ : w.heap.size ≤ gi); clear HO_5; clear HB; have HO_5 := n0_; have HB := n1_; clear n0_ n1_; clear hb hbox hg; have hczi : wg.cell? ⟨gi, 0, none⟩ = some (.int .i64 0) := (blk_cell BKi.out 0).trans rfl; have hfzi := blk_frozen BKi.out 0) | ((with_reducible refine gate_callee (f := 75) rfl ?_); refine goesL_ (some 15) rfl rfl Try.func75 (by kernel_rfl) rfl #[.slice A1 l1.length c1, .func (.func 76) #[] #[.pointer (some ⟨gi, 0, none⟩)]] rfl z4_ ?_; have hput : (wg.setCell ⟨gi, 0, none⟩ (.int .i64 x10_1)).cell? ⟨gi, 0, none⟩ = some (.int .i64 x10_1) := (blk_cell (blk_put (cs := #[.int .i64 0]) (cs' := #[.int .i64 x10_1]) BKi.out 0 (.int .i64 x10_1) rfl) 0).trans rfl; (with_reducible refine (slices_ContainsFunc_Pair.calls k1 _ _ l1 x10_1 gi true _ ?side1 ?side2 ?side3 A6.out).mono ?_); (case side1 => exact Kd.C_below HR1.out (below_set HB.out GEi.out)); (case side2 => exact HC1.out); (case side3 => exact hput); rintro e w8 ⟨rfl, hb⟩; refine ⟨_, rfl, ?_⟩; have hci8 : w8.cell? ⟨gi, 0, none⟩ = some (.int .i64 x10_1) := (hb.cell (World.block_lt_of_cell? _ _ hput)).trans hput; replace HO_5 := Aside0.mk (Kd.R_mono (ok' := fun _ => True) (Kd.R_below (Kd.R_far (p := ⟨gi, 0, none⟩) HO_5.out (fun _ hk => hk.2) (.int .i64 x10_1)) hb) (fun _ _ => trivial)); replace HB := Aside0.mk (below_step (below_set HB.out GEi.out) hb); (try clear hb)))
     go_roundg k1
     case measure => have := HK1.out; omega
     case rel => exact ⟨(x5_1), (wrap64 (x10_1 + 1)), z9_, H', ⟨z140_⟩, ⟨z5_⟩, ⟨z0_⟩⟩
    ·replace c7 := Bool.eq_false_iff.mpr c7
     subst c7
     replace H := iff_ H
     obtain ⟨c9, H⟩ := ifs_ H
     have LMc9 := Aside0.mk c9
     clear c9
     first | ((with_reducible have hz_ := gy_ H); obtain ⟨y534, Ny534, H⟩ := hz_) | (generalize hy_ : ((x5_1 ++ [x10_1]) : List Int) = y534 at H; have Ny534 := Aside0.mk hy_.symm; clear hy_)
     have H' := Aside0.mk H
     clear H
     go_wp2_with (first | ((with_reducible refine gate_dst (N := 6) rfl ?_); refine box_event ?hg (N := 6) ?hd (cs := #[.int .i64 0]) (t := 3) ?hr ?_; (case hd => rfl); (case hg => rfl); (case hr => exact z26_); intro gi hg wg hbox hb; have n0_ := Aside0.mk (Kd.R_below (Kd.R_elderB z5_ gi (by rw [hg]; exact Nat.le_refl _)) hb); have n1_ := Aside0.mk (below_step z0_ hb); have BKi := Aside0.mk hbox; have GEi := Aside0.mk (z169_ : w.heap.size ≤ gi); clear HO_5; clear HB; have HO_5 := n0_; have HB := n1_; clear n0_ n1_; clear hb hbox hg; have hczi : wg.cell? ⟨gi, 0, none⟩ = some (.int .i64 0) := (blk_cell BKi.out 0).trans rfl; have hfzi := blk_frozen BKi.out 0) | ((with_reducible refine gate_callee (f := 75) rfl ?_); refine goesL_ (some 15) rfl rfl Try.func75 (by kernel_rfl) rfl #[.slice A1 l1.length c1, .func (.func 76) #[] #[.pointer (some ⟨gi, 0, none⟩)]] rfl z4_ ?_; have hput : (wg.setCell ⟨gi, 0, none⟩ (.int .i64 x10_1)).cell? ⟨gi, 0, none⟩ = some (.int .i64 x10_1) := (blk_cell (blk_put (cs := #[.int .i64 0]) (cs' := #[.int .i64 x10_1]) BKi.out 0 (.int .i64 x10_1) rfl) 0).trans rfl; (with_reducible refine (slices_ContainsFunc_Pair.calls k1 _ _ l1 x10_1 gi false _ ?side1 ?side2 ?side3 A6.out).mono ?_); (case side1 => exact Kd.C_below HR1.out (below_set HB.out GEi.out)); (case side2 => exact HC1.out); (case side3 => exact hput); rintro e w8 ⟨rfl, hb⟩; refine ⟨_, rfl, ?_⟩; have hci8 : w8.cell? ⟨gi, 0, none⟩ = some (.int .i64 x10_1) := (hb.cell (World.block_lt_of_cell? _ _ hput)).trans hput; replace HO_5 := Aside0.mk (Kd.R_mono (ok' := fun _ => True) (Kd.R_below (Kd.R_far (p := ⟨gi, 0, none⟩) HO_5.out (fun _ hk => hk.2) (.int .i64 x10_1)) hb) (fun _ _ => trivial)); replace HB := Aside0.mk (below_step (below_set HB.out GEi.out) hb); (try clear hb)) | ((with_reducible refine gate_builtin (b := .append) (xs := #[.tmp 17, .tmp 19]) rfl ?_); at_builtin; refine Kd.R_append (Kd.int .i64) (w0 := w) w.heap.size rfl (.tmp 17) (.tmp 19) 31 3 (.int .i64 0) 8 rfl Try.underlying31 info3 rfl (by decide) (by omega) u5 x5_1 x10_1 [.int .i64 x10_1] (fun _ => True) (fun _ => False) rfl rfl ?aP (fun _ hk => hk.elim) ?aF ?aO ?aB ?aS ?aL ?_; (case aP => exact rfl); (case aB => exact z72_); (case aF => exact z168_); (case aO => exact z70_); (case aS => exact z67_); (case aL => have := LMc9.out; omega); intro v535 w11 ho hb hg hat; rw [← Ny534.out] at ho; replace HB := Aside0.mk (hb); have HO536 := Aside0.mk (ho); clear HO_5; clear ho hb hg hat))
     go_roundg k1
     case measure => have := HK1.out; omega
     case rel => exact ⟨(y534), (wrap64 (x10_1 + 1)), z9_, H', ⟨z140_⟩, ⟨by (with_reducible repeat (first | apply Kd.R_alloc | apply Kd.R_drewN | apply Kd.R_drew)); exact HO536.out⟩, ⟨z0_⟩⟩
   ·rw [if_neg c5] at H
    have c5b0 := decide_eq_false c5
    clear c5
    obtain rfl := Option.some.inj H
    go_wp2
    go_ret
    exact ⟨_, z7_, z5_, z0_⟩

/-! ### impl_within: function 67 -/
def impl_within.f (a0 : Int) (a1 : Int) (a2 : Int) : Option (Bool) := if a1 ≤ a0 then (some (decide (a0 ≤ a2))) else (some false)
set_option maxHeartbeats 8000000 in
set_option maxRecDepth 100000 in
theorem impl_within.calls (a0 : Int) (a1 : Int) (a2 : Int) (r : Bool) (w : World) (h : impl_within.f a0 a1 a2 = some r) :
  Calls Try.prog 67 #[.int .i64 a0, .int .i64 a1, .int .i64 a2] w fun e w' => e = .returned (.bool r) ∧ Drawn0 w w' := by
 have H : (if a1 ≤ a0 then (some (decide (a0 ≤ a2))) else (some false)) = some r := h
 clear h
 by_cases c4 : a1 ≤ a0
 ·rw [if_pos c4] at H
  have c4b0 := decide_eq_true c4
  clear c4
  obtain rfl := Option.some.inj H
  go_enter Try.func67, Try.ntmps67
  go_wp2
  go_ret
  exact ⟨z9_, z64_⟩
 ·rw [if_neg c4] at H
  have c4b0 := decide_eq_false c4
  clear c4
  obtain rfl := Option.some.inj H
  go_enter Try.func67, Try.ntmps67
  go_wp2
  go_ret
  exact ⟨z9_, z64_⟩

/-! ### impl_LabelOk: function 77 -/
def impl_LabelOk.f (a0 : Int) : Option (Bool) := (impl_within.f a0 0 5).bind fun t537 => (some t537)
set_option maxHeartbeats 8000000 in
set_option maxRecDepth 100000 in
theorem impl_LabelOk.calls (a0 : Int) (r : Bool) (w : World) (h : impl_LabelOk.f a0 = some r) :
  Calls Try.prog 77 #[.int .i64 a0] w fun e w' => e = .returned (.bool r) ∧ Drawn0 w w' := by
 have H : ((impl_within.f a0 0 5).bind fun t537 => (some t537)) = some r := h
 clear h
 obtain ⟨t537, A2, H⟩ := bnd_ H
 obtain rfl := Option.some.inj H
 go_enter Try.func77, Try.ntmps77
 go_wp2_with (first | ((with_reducible refine gate_callee (f := 67) rfl ?_); refine goesL_ (some 4) rfl rfl Try.func67 (by kernel_rfl) rfl #[.int .i64 a0, .int .i64 0, .int .i64 5] rfl z4_ ?_; (with_reducible refine (impl_within.calls a0 0 5 t537 _ A2.out).mono ?_); rintro e w' ⟨rfl, ⟨nd, rfl⟩⟩; refine ⟨_, rfl, ?_⟩))
 go_ret
 exact ⟨z9_, z64_⟩

/-! ### impl_depthOk: function 78 -/
def impl_depthOk.f (l0 : List (S45)) (a1 : Int) : Option (Bool) := if a1 = 0 then (if 0 < (l0.length : Int) then (some (((rd_T45 l0 0).f1) == 0)) else (none)) else (if 0 ≤ a1 then (if a1 < (l0.length : Int) then (if 0 ≤ (wrap64 (a1 - 1)) then (if (wrap64 (a1 - 1)) < (l0.length : Int) then ((impl_within.f ((rd_T45 l0 a1).f1) 1 (wrap64 (((rd_T45 l0 (wrap64 (a1 - 1))).f1) + 1))).bind fun t541 => (some t541)) else (none)) else (none)) else (none)) else (none))
set_option maxHeartbeats 8000000 in
set_option maxRecDepth 100000 in
theorem impl_depthOk.calls (A0 : Option Addr) (c0 : Nat) (l0 : List (S45)) (a1 : Int) (r : Bool) (w : World) (hr0 : Kd.C k45 w A0 l0.length l0) (hc0 : l0.length ≤ c0) (h : impl_depthOk.f l0 a1 = some r) :
  Calls Try.prog 78 #[.slice A0 l0.length c0, .int .i64 a1] w fun e w' => e = .returned (.bool r) ∧ Drawn0 w w' := by
 have HR0 := Aside0.mk hr0
 have HC0 := Aside0.mk hc0
 clear hr0 hc0
 have H : (if a1 = 0 then (if 0 < (l0.length : Int) then (some (((rd_T45 l0 0).f1) == 0)) else (none)) else (if 0 ≤ a1 then (if a1 < (l0.length : Int) then (if 0 ≤ (wrap64 (a1 - 1)) then (if (wrap64 (a1 - 1)) < (l0.length : Int) then ((impl_within.f ((rd_T45 l0 a1).f1) 1 (wrap64 (((rd_T45 l0 (wrap64 (a1 - 1))).f1) + 1))).bind fun t541 => (some t541)) else (none)) else (none)) else (none)) else (none))) = some r := h
 clear h
 by_cases c3 : a1 = 0
 ·rw [if_pos c3] at H
  have c3b0 : (a1 == 0) = true := beq_iff_eq.mpr c3
  have c3b1 : (a1 != 0) = false := bne_eq_false_iff_eq.mpr c3
  clear c3
  obtain ⟨c4, H⟩ := ifs_ H
  have c4b0 := decide_eq_true c4
  have c4b1 : decide (0 < l0.length) = true := decide_eq_true (by omega)
  clear c4
  obtain rfl := Option.some.inj H
  have p538 : 0 ≤ (0 : Int) := (by omega)
  have q538 : 0 < (l0.length : Int) := odt_
  obtain ⟨ad538, e538, hx538_0, hx538_1⟩ := at_T45 HR0.out 0 p538 q538
  cases e538
  have qi538 : (0 < l0.length) = True := eq_true (by omega)
  (try rw [show ((0 : Int)).toNat = 0 from rfl] at hx538_0)
  (try rw [show 0 * 2 = 0 from rfl] at hx538_0)
  (try rw [Addr.add_zero'] at hx538_0)
  (try rw [show ((0 : Int)).toNat = 0 from rfl] at hx538_1)
  (try rw [show 0 * 2 = 0 from rfl] at hx538_1)
  (try rw [Addr.add_zero'] at hx538_1)
  replace p538 := eq_true p538
  replace q538 := eq_true q538
  go_enter Try.func78, Try.ntmps78
  go_wp2
  repeat (go_quiet (fail); try go_wp2)
  go_ret
  exact ⟨z9_, z64_⟩
 ·rw [if_neg c3] at H
  have c3b0 : (a1 == 0) = false := beq_eq_false_iff_ne.mpr c3
  have c3b1 : (a1 != 0) = true := bne_iff_ne.mpr c3
  obtain ⟨c5b0, H⟩ := ifd_ H
  obtain ⟨c6b0, H⟩ := ifd_ H
  obtain ⟨ji7, hji7⟩ : ∃ j_ : Int, (wrap64 (a1 - 1)) = j_ := ⟨_, rfl⟩
  first | rw [hji7] at H | simp only [hji7] at H
  have hji7w : (IntKind.i64.wrap (a1 - 1)) = ji7 := (i64_w _).trans hji7
  obtain ⟨c8b0, H⟩ := ifd_ H
  obtain ⟨c9b0, H⟩ := ifd_ H
  obtain ⟨t541, A10, H⟩ := bnd_ H
  obtain rfl := Option.some.inj H
  obtain ⟨p539, q539, ad539, e539, hx539_0, hx539_1⟩ := ato45_ HR0 a1
  cases e539
  obtain ⟨p540, q540, ad540, e540, hx540_0, hx540_1⟩ := ato45_ HR0 (ji7)
  obtain rfl : ad539 = ad540 := (by injection e540)
  go_enter Try.func78, Try.ntmps78
  go_wp2_with (first | (go_at_call 67; (with_reducible refine (impl_within.calls ((rd_T45 l0 a1).f1) 1 (wrap64 (((rd_T45 l0 (ji7)).f1) + 1)) t541 _ A10.out).mono ?_); rintro e w' ⟨rfl, ⟨nd, rfl⟩⟩; (try first | exact ⟨rfl, _, World.drewN_drewN _ _ _⟩ | exact ⟨rfl, _, Eq.trans (World.drewN_drewN _ _ _) (congrArg (World.drewN _) (Nat.add_assoc _ _ _))⟩)))
  repeat (go_quiet (first | (go_at_call 67; (with_reducible refine (impl_within.calls ((rd_T45 l0 a1).f1) 1 (wrap64 (((rd_T45 l0 (ji7)).f1) + 1)) t541 _ A10.out).mono ?_); rintro e w' ⟨rfl, ⟨nd, rfl⟩⟩; (try first | exact ⟨rfl, _, World.drewN_drewN _ _ _⟩ | exact ⟨rfl, _, Eq.trans (World.drewN_drewN _ _ _) (congrArg (World.drewN _) (Nat.add_assoc _ _ _))⟩))); try go_wp2_with (first | (go_at_call 67; (with_reducible refine (impl_within.calls ((rd_T45 l0 a1).f1) 1 (wrap64 (((rd_T45 l0 (ji7)).f1) + 1)) t541 _ A10.out).mono ?_); rintro e w' ⟨rfl, ⟨nd, rfl⟩⟩; (try first | exact ⟨rfl, _, World.drewN_drewN _ _ _⟩ | exact ⟨rfl, _, Eq.trans (World.drewN_drewN _ _ _) (congrArg (World.drewN _) (Nat.add_assoc _ _ _))⟩))))
  go_ret
  exact ⟨by first | rfl | (simp; done) | (simp only [← hji7] <;> (first | rfl | simp)) | (simp [*]; done), z64_⟩

/-! ### impl_TreeOk: function 40 -/
def impl_TreeOk.l0 : Nat → List (S45) → List (S45) → Int → Int → Option (Bool)
 | 0, _, _, _, _ => none
 | k + 1, x0, x9, x10, x11 => if x11 < x10 then (if 0 ≤ x11 then (if x11 < (x9.length : Int) then ((impl_LabelOk.f ((rd_T45 x9 x11).f0)).bind fun t545 => (if t545 = true then ((impl_within.f ((rd_T45 x9 x11).f1) 0 12).bind fun t546 => (if t546 = true then ((impl_depthOk.f x0 x11).bind fun t547 => (if t547 = true then (impl_TreeOk.l0 k x0 x9 x10 (wrap64 (x11 + 1))) else (some false))) else (some false))) else (some false))) else (none)) else (none)) else (some true)
def impl_TreeOk.f (k : Nat) (l0 : List (S45)) : Option (Bool) := (impl_within.f (l0.length : Int) 1 24).bind fun t542 => (if t542 = true then (impl_TreeOk.l0 k l0 l0 (l0.length : Int) 0) else (some false))
set_option maxHeartbeats 8000000 in
set_option maxRecDepth 100000 in
theorem impl_TreeOk.calls (k : Nat) (A0 : Option Addr) (c0 : Nat) (l0 : List (S45)) (r : Bool) (w : World) (hr0 : Kd.C k45 w A0 l0.length l0) (hc0 : l0.length ≤ c0) (h : impl_TreeOk.f k l0 = some r) :
  Calls Try.prog 40 #[.slice A0 l0.length c0] w fun e w' => e = .returned (.bool r) ∧ Below w.heap.size w w' := by
 have hu45 := Try.underlying45
 have HR0 := Aside0.mk hr0
 have HC0 := Aside0.mk hc0
 clear hr0 hc0
 have HB := Aside0.mk (Below.refl w.heap.size w)
 have H : ((impl_within.f (l0.length : Int) 1 24).bind fun t542 => (if t542 = true then (impl_TreeOk.l0 k l0 l0 (l0.length : Int) 0) else (some false))) = some r := h
 clear h
 obtain ⟨t542, A2, H⟩ := bnd_ H
 by_cases c3 : t542 = true
 ·subst c3
  replace H := ift_ H
  have H' := Aside0.mk H
  clear H
  go_enter Try.func40, Try.ntmps40
  go_wp2_with (first | ((with_reducible refine gate_callee (f := 67) rfl ?_); refine goesL_ (some 7) rfl rfl Try.func67 (by kernel_rfl) rfl #[.int .i64 (l0.length : Int), .int .i64 1, .int .i64 24] rfl z4_ ?_; (with_reducible refine (impl_within.calls (l0.length : Int) 1 24 true _ A2.out).mono ?_); rintro e w' ⟨rfl, ⟨nd, rfl⟩⟩; refine ⟨_, rfl, ?_⟩))
  go_loopg [11] k (fun kq v11 w' => ∃ (x11_1 : Int), v11 = .int .i64 x11_1 ∧ Aside0 (impl_TreeOk.l0 kq l0 l0 (l0.length : Int) x11_1 = some r) ∧ Aside0 (kq ≤ k) ∧ Aside0 (Below w.heap.size w w'))
  case atStart => exact ⟨(0), z9_, H', ⟨Nat.le_refl _⟩, ⟨z0_⟩⟩
  case round =>
   clear H'
   try clear p2
   try clear c3
   obtain ⟨x11_1, rfl, HA, HK1, HB⟩ := hrel
   cases gk with
   | zero => exact absurd HA.out (by simp [impl_TreeOk.l0])
   | succ k1 =>
    have H := HA.out
    clear HA
    simp only [impl_TreeOk.l0] at H
    by_cases c4 : x11_1 < (l0.length : Int)
    ·rw [if_pos c4] at H
     have c4b0 := decide_eq_true c4
     clear c4
     obtain ⟨c5b0, H⟩ := ifd_ H
     obtain ⟨c6b0, H⟩ := ifd_ H
     obtain ⟨t545, A7, H⟩ := bnd_ H
     by_cases c8 : t545 = true
     ·subst c8
      replace H := ift_ H
      obtain ⟨t546, A9, H⟩ := bnd_ H
      by_cases c10 : t546 = true
      ·subst c10
       replace H := ift_ H
       obtain ⟨t547, A11, H⟩ := bnd_ H
       by_cases c12 : t547 = true
       ·subst c12
        replace H := ift_ H
        have H' := Aside0.mk H
        clear H
        obtain ⟨p543, q543, ad543, e543, hx543_0, hx543_1⟩ := atb45_ HR0 HB x11_1
        cases e543
        go_wp2_with (first | ((with_reducible refine gate_dst (N := 4) rfl ?_); refine box_event ?hg (N := 4) ?hd (cs := #[.int .i64 0, .int .i64 0]) (t := 45) ?hr ?_; (case hd => rfl); (case hg => rfl); (case hr => exact z26_); intro gb544 hg w13 hbox hb; have BK544 := Aside0.mk (hbox); have GW544 := Aside0.mk ((by rw [hg]; exact (below_size z0_) : w.heap.size ≤ gb544)); have GE544 := Aside0.mk ((by rw [hg]; exact (below_size z0_) : w.heap.size ≤ gb544)); replace HB := Aside0.mk (below_step z0_ hb); clear hb hbox hg; obtain ⟨hcz14_0, hcz14_1, hfz14_0, hfz14_1⟩ := bx2_ BK544.out) | ((with_reducible refine gate_callee (f := 77) rfl ?_); refine goesL_ (some 18) rfl rfl Try.func77 (by kernel_rfl) rfl #[.int .i64 ((rd_T45 l0 x11_1).f0)] rfl z4_ ?_; (with_reducible refine (impl_LabelOk.calls ((rd_T45 l0 x11_1).f0) true _ A7.out).mono ?_); rintro e w' ⟨rfl, ⟨nd, rfl⟩⟩; refine ⟨_, rfl, ?_⟩) | (go_at_call 67; (with_reducible refine (impl_within.calls ((rd_T45 l0 x11_1).f1) 0 12 true _ A9.out).mono ?_); rintro e w' ⟨rfl, ⟨nd, rfl⟩⟩) | (go_at_call 78; (with_reducible refine (impl_depthOk.calls _ _ l0 x11_1 true _ ?side1 ?side2 A11.out).mono ?_); (case side1 => exact z159_); (case side2 => exact HC0.out); rintro e w' ⟨rfl, ⟨nd, rfl⟩⟩))
        go_roundg k1
        case measure => have := HK1.out; omega
        case rel => exact ⟨(wrap64 (x11_1 + 1)), z9_, H', ⟨z140_⟩, ⟨z86_⟩⟩
       ·replace c12 := Bool.eq_false_iff.mpr c12
        subst c12
        replace H := iff_ H
        obtain rfl := Option.some.inj H
        obtain ⟨p543, q543, ad543, e543, hx543_0, hx543_1⟩ := atb45_ HR0 HB x11_1
        cases e543
        go_wp2_with (first | ((with_reducible refine gate_dst (N := 4) rfl ?_); refine box_event ?hg (N := 4) ?hd (cs := #[.int .i64 0, .int .i64 0]) (t := 45) ?hr ?_; (case hd => rfl); (case hg => rfl); (case hr => exact z26_); intro gb544 hg w15 hbox hb; have BK544 := Aside0.mk (hbox); have GW544 := Aside0.mk ((by rw [hg]; exact (below_size z0_) : w.heap.size ≤ gb544)); have GE544 := Aside0.mk ((by rw [hg]; exact (below_size z0_) : w.heap.size ≤ gb544)); replace HB := Aside0.mk (below_step z0_ hb); clear hb hbox hg; obtain ⟨hcz16_0, hcz16_1, hfz16_0, hfz16_1⟩ := bx2_ BK544.out) | ((with_reducible refine gate_callee (f := 77) rfl ?_); refine goesL_ (some 18) rfl rfl Try.func77 (by kernel_rfl) rfl #[.int .i64 ((rd_T45 l0 x11_1).f0)] rfl z4_ ?_; (with_reducible refine (impl_LabelOk.calls ((rd_T45 l0 x11_1).f0) true _ A7.out).mono ?_); rintro e w' ⟨rfl, ⟨nd, rfl⟩⟩; refine ⟨_, rfl, ?_⟩) | (go_at_call 67; (with_reducible refine (impl_within.calls ((rd_T45 l0 x11_1).f1) 0 12 true _ A9.out).mono ?_); rintro e w' ⟨rfl, ⟨nd, rfl⟩⟩) | (go_at_call 78; (with_reducible refine (impl_depthOk.calls _ _ l0 x11_1 false _ ?side1 ?side2 A11.out).mono ?_); (case side1 => exact z159_); (case side2 => exact HC0.out); rintro e w' ⟨rfl, ⟨nd, rfl⟩⟩))
        go_ret
        exact ⟨z7_, z86_⟩
      ·replace c10 := Bool.eq_false_iff.mpr c10
       subst c10
       replace H := iff_ H
       obtain rfl := Option.some.inj H
       obtain ⟨p543, q543, ad543, e543, hx543_0, hx543_1⟩ := atb45_ HR0 HB x11_1
       cases e543
       go_wp2_with (first | ((with_reducible refine gate_dst (N := 4) rfl ?_); refine box_event ?hg (N := 4) ?hd (cs := #[.int .i64 0, .int .i64 0]) (t := 45) ?hr ?_; (case hd => rfl); (case hg => rfl); (case hr => exact z26_); intro gb544 hg w17 hbox hb; have BK544 := Aside0.mk (hbox); have GW544 := Aside0.mk ((by rw [hg]; exact (below_size z0_) : w.heap.size ≤ gb544)); have GE544 := Aside0.mk ((by rw [hg]; exact (below_size z0_) : w.heap.size ≤ gb544)); replace HB := Aside0.mk (below_step z0_ hb); clear hb hbox hg; obtain ⟨hcz18_0, hcz18_1, hfz18_0, hfz18_1⟩ := bx2_ BK544.out) | ((with_reducible refine gate_callee (f := 77) rfl ?_); refine goesL_ (some 18) rfl rfl Try.func77 (by kernel_rfl) rfl #[.int .i64 ((rd_T45 l0 x11_1).f0)] rfl z4_ ?_; (with_reducible refine (impl_LabelOk.calls ((rd_T45 l0 x11_1).f0) true _ A7.out).mono ?_); rintro e w' ⟨rfl, ⟨nd, rfl⟩⟩; refine ⟨_, rfl, ?_⟩) | (go_at_call 67; (with_reducible refine (impl_within.calls ((rd_T45 l0 x11_1).f1) 0 12 false _ A9.out).mono ?_); rintro e w' ⟨rfl, ⟨nd, rfl⟩⟩))
       go_ret
       exact ⟨z7_, z86_⟩
     ·replace c8 := Bool.eq_false_iff.mpr c8
      subst c8
      replace H := iff_ H
      obtain rfl := Option.some.inj H
      obtain ⟨p543, q543, ad543, e543, hx543_0, hx543_1⟩ := atb45_ HR0 HB x11_1
      cases e543
      go_wp2_with (first | ((with_reducible refine gate_dst (N := 4) rfl ?_); refine box_event ?hg (N := 4) ?hd (cs := #[.int .i64 0, .int .i64 0]) (t := 45) ?hr ?_; (case hd => rfl); (case hg => rfl); (case hr => exact z26_); intro gb544 hg w19 hbox hb; have BK544 := Aside0.mk (hbox); have GW544 := Aside0.mk ((by rw [hg]; exact (below_size z0_) : w.heap.size ≤ gb544)); have GE544 := Aside0.mk ((by rw [hg]; exact (below_size z0_) : w.heap.size ≤ gb544)); replace HB := Aside0.mk (below_step z0_ hb); clear hb hbox hg; obtain ⟨hcz20_0, hcz20_1, hfz20_0, hfz20_1⟩ := bx2_ BK544.out) | ((with_reducible refine gate_callee (f := 77) rfl ?_); refine goesL_ (some 18) rfl rfl Try.func77 (by kernel_rfl) rfl #[.int .i64 ((rd_T45 l0 x11_1).f0)] rfl z4_ ?_; (with_reducible refine (impl_LabelOk.calls ((rd_T45 l0 x11_1).f0) false _ A7.out).mono ?_); rintro e w' ⟨rfl, ⟨nd, rfl⟩⟩; refine ⟨_, rfl, ?_⟩))
      go_ret
      exact ⟨z7_, z86_⟩
    ·rw [if_neg c4] at H
     have c4b0 := decide_eq_false c4
     clear c4
     obtain rfl := Option.some.inj H
     go_wp2
     go_ret
     exact ⟨z7_, z0_⟩
 ·replace c3 := Bool.eq_false_iff.mpr c3
  subst c3
  replace H := iff_ H
  obtain rfl := Option.some.inj H
  go_enter Try.func40, Try.ntmps40
  go_wp2_with (first | ((with_reducible refine gate_callee (f := 67) rfl ?_); refine goesL_ (some 7) rfl rfl Try.func67 (by kernel_rfl) rfl #[.int .i64 (l0.length : Int), .int .i64 1, .int .i64 24] rfl z4_ ?_; (with_reducible refine (impl_within.calls (l0.length : Int) 1 24 false _ A2.out).mono ?_); rintro e w' ⟨rfl, ⟨nd, rfl⟩⟩; refine ⟨_, rfl, ?_⟩))
  go_ret
  exact ⟨z7_, z0_⟩

end Go.Proofs.Ytbiffnahknkoiaa.PFnKept
