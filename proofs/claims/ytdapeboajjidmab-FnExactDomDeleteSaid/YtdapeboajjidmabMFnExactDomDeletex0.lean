/- Laid by a program of this session out of the kit's print for the law FnExactDomDelete: what it says of the machine is proved here, function by function; each contract under the conditions that it names. -/
import Derived.Test.YtdapeboajjidmabProg
import Derived.Below
import Derived.Deep.Draws
import Derived.Deep.AppendLies
import Derived.Maps.AppendAt
import Derived.OwnWalk
import Derived.Laws.BytesArg
import Derived.Laws.MakeOwn
import Derived.Laws.OwnMore
import Derived.Deep.OwnRows
import Derived.Tactics
import Derived.Lib.ConvBytes
import Derived.Laws.Slices
import Derived.WalkKit
import Derived.KernelRfl
import Derived.RowKit3
import Derived.Deep.LoopGhost
import Derived.Deep.QuietTactic
import Derived.BigQuiet
import Derived.WideLaws
import Derived.Deep.DeepCutAuto
import Derived.Deep.CutBlock
import Derived.Deep.RegionHeld3
import Derived.Laws.Rows
import Derived.Lib.AppendStr
import Derived.ArgAppend
import Derived.Laws.IdiomCopy
import Derived.OrdersHeld
import Derived.Laws.BitsLemmas
import Derived.RowKit
import Derived.Test.YtdapeboajjidmabMFnExactDomDeletew0
namespace Go.Proofs.Ytdapeboajjidmab.PFnExactDomDelete
open Go.RowKit Go.Proofs.YtdapeboajjidmabW.PrintWords Go.Proofs.YtdapeboajjidmabW.PrintLast Go.Proofs.YtdapeboajjidmabW.PrintMore
attribute [local go_sem] max2_int min2_int max_two min_two max_three min_three max_four min_four   -- for this text's walks alone
set_option linter.unusedVariables false
set_option linter.unusedSimpArgs false
theorem z0_ {P : Prop} (h : P := by repeat (first | (with_reducible first | exact HB.out | apply below_alloc | apply pw_below_drewN | apply below_drew1) | exact HB.out)) : P := h
theorem z1_ {P : Prop} (h : P := by (try simp only [List.map_toArray, List.map_cons, List.map_nil]); first | done | rfl | (simp only [List.length_drop, List.length_take]; rfl)) : P := h
theorem z2_ {P : Prop} (h : P := by repeat (first | (with_reducible first | exact HB.out | apply below_alloc | apply pw_below_drewN | apply below_drew1 | refine below_set ?_ GE459.out | refine below_set ?_ GE468.out | refine below_set ?_ GE472.out | refine below_set ?_ GE477.out) | exact HB.out)) : P := h
theorem z3_ {P : Prop} (h : P := by (with_reducible repeat (first | refine blk_drewN ?_ _ | refine blk_drew ?_ | refine blk_alloc ?_ _)); refine blk_put (cs := #[.bool ((rd_T72 l0_0 x42_2).f0), .int .i64 ((rd_T72 l0_0 x42_2).f1), .int .i64 ((rd_T72 l0_0 x42_2).f2), .int .i64 ((rd_T72 l0_0 x42_2).f3), .int .i64 ((rd_T72 l0_0 x42_2).f4), .int .i64 ((rd_T72 l0_0 x42_2).f5), .int .i64 0]) ?_ 6 _ rfl; (with_reducible repeat (first | refine blk_drewN ?_ _ | refine blk_drew ?_ | refine blk_alloc ?_ _)); refine blk_put (cs := #[.bool ((rd_T72 l0_0 x42_2).f0), .int .i64 ((rd_T72 l0_0 x42_2).f1), .int .i64 ((rd_T72 l0_0 x42_2).f2), .int .i64 ((rd_T72 l0_0 x42_2).f3), .int .i64 ((rd_T72 l0_0 x42_2).f4), .int .i64 0, .int .i64 0]) ?_ 5 _ rfl; (with_reducible repeat (first | refine blk_drewN ?_ _ | refine blk_drew ?_ | refine blk_alloc ?_ _)); refine blk_put (cs := #[.bool ((rd_T72 l0_0 x42_2).f0), .int .i64 ((rd_T72 l0_0 x42_2).f1), .int .i64 ((rd_T72 l0_0 x42_2).f2), .int .i64 ((rd_T72 l0_0 x42_2).f3), .int .i64 0, .int .i64 0, .int .i64 0]) ?_ 4 _ rfl; (with_reducible repeat (first | refine blk_drewN ?_ _ | refine blk_drew ?_ | refine blk_alloc ?_ _)); refine blk_put (cs := #[.bool ((rd_T72 l0_0 x42_2).f0), .int .i64 ((rd_T72 l0_0 x42_2).f1), .int .i64 ((rd_T72 l0_0 x42_2).f2), .int .i64 0, .int .i64 0, .int .i64 0, .int .i64 0]) ?_ 3 _ rfl; (with_reducible repeat (first | refine blk_drewN ?_ _ | refine blk_drew ?_ | refine blk_alloc ?_ _)); refine blk_put (cs := #[.bool ((rd_T72 l0_0 x42_2).f0), .int .i64 ((rd_T72 l0_0 x42_2).f1), .int .i64 0, .int .i64 0, .int .i64 0, .int .i64 0, .int .i64 0]) ?_ 2 _ rfl; (with_reducible repeat (first | refine blk_drewN ?_ _ | refine blk_drew ?_ | refine blk_alloc ?_ _)); refine blk_put (cs := #[.bool ((rd_T72 l0_0 x42_2).f0), .int .i64 0, .int .i64 0, .int .i64 0, .int .i64 0, .int .i64 0, .int .i64 0]) ?_ 1 _ rfl; (with_reducible repeat (first | refine blk_drewN ?_ _ | refine blk_drew ?_ | refine blk_alloc ?_ _)); refine blk_put (cs := #[.bool false, .int .i64 0, .int .i64 0, .int .i64 0, .int .i64 0, .int .i64 0, .int .i64 0]) ?_ 0 _ rfl; (with_reducible repeat (first | refine blk_drewN ?_ _ | refine blk_drew ?_ | refine blk_alloc ?_ _)); exact BK324.out) : P := h
theorem z4_ {P : Prop} (h : P := by first | rfl | (simp [errW_none, errW_some] <;> rfl) | (simp [*, errW_none, errW_some] <;> rfl)) : P := h
theorem z5_ {P : Prop} (h : P := by repeat (first | (with_reducible first | exact HK.out | apply Kept.alloc | apply Kept.drewN | apply Kept.drew | refine Kept.setCell ?_ (.inr GW290.out) _ | refine Kept.setCell ?_ (.inr GW292.out) _) | exact HK.out)) : P := h
theorem z6_ {P : Prop} (h : P := by (with_reducible repeat (first | refine blk_drewN ?_ _ | refine blk_drew ?_ | refine blk_alloc ?_ _)); refine blk_put (cs := #[.bool ((rd_T72 l0_0 0).f0), .int .i64 ((rd_T72 l0_0 0).f1), .int .i64 ((rd_T72 l0_0 0).f2), .int .i64 ((rd_T72 l0_0 0).f3), .int .i64 ((rd_T72 l0_0 0).f4), .int .i64 ((rd_T72 l0_0 0).f5), .int .i64 0]) ?_ 6 _ rfl; (with_reducible repeat (first | refine blk_drewN ?_ _ | refine blk_drew ?_ | refine blk_alloc ?_ _)); refine blk_put (cs := #[.bool ((rd_T72 l0_0 0).f0), .int .i64 ((rd_T72 l0_0 0).f1), .int .i64 ((rd_T72 l0_0 0).f2), .int .i64 ((rd_T72 l0_0 0).f3), .int .i64 ((rd_T72 l0_0 0).f4), .int .i64 0, .int .i64 0]) ?_ 5 _ rfl; (with_reducible repeat (first | refine blk_drewN ?_ _ | refine blk_drew ?_ | refine blk_alloc ?_ _)); refine blk_put (cs := #[.bool ((rd_T72 l0_0 0).f0), .int .i64 ((rd_T72 l0_0 0).f1), .int .i64 ((rd_T72 l0_0 0).f2), .int .i64 ((rd_T72 l0_0 0).f3), .int .i64 0, .int .i64 0, .int .i64 0]) ?_ 4 _ rfl; (with_reducible repeat (first | refine blk_drewN ?_ _ | refine blk_drew ?_ | refine blk_alloc ?_ _)); refine blk_put (cs := #[.bool ((rd_T72 l0_0 0).f0), .int .i64 ((rd_T72 l0_0 0).f1), .int .i64 ((rd_T72 l0_0 0).f2), .int .i64 0, .int .i64 0, .int .i64 0, .int .i64 0]) ?_ 3 _ rfl; (with_reducible repeat (first | refine blk_drewN ?_ _ | refine blk_drew ?_ | refine blk_alloc ?_ _)); refine blk_put (cs := #[.bool ((rd_T72 l0_0 0).f0), .int .i64 ((rd_T72 l0_0 0).f1), .int .i64 0, .int .i64 0, .int .i64 0, .int .i64 0, .int .i64 0]) ?_ 2 _ rfl; (with_reducible repeat (first | refine blk_drewN ?_ _ | refine blk_drew ?_ | refine blk_alloc ?_ _)); refine blk_put (cs := #[.bool ((rd_T72 l0_0 0).f0), .int .i64 0, .int .i64 0, .int .i64 0, .int .i64 0, .int .i64 0, .int .i64 0]) ?_ 1 _ rfl; (with_reducible repeat (first | refine blk_drewN ?_ _ | refine blk_drew ?_ | refine blk_alloc ?_ _)); refine blk_put (cs := #[.bool false, .int .i64 0, .int .i64 0, .int .i64 0, .int .i64 0, .int .i64 0, .int .i64 0]) ?_ 0 _ rfl; (with_reducible repeat (first | refine blk_drewN ?_ _ | refine blk_drew ?_ | refine blk_alloc ?_ _)); exact BK315.out) : P := h
theorem z7_ {P : Prop} (h : P := by repeat (first | (with_reducible first | exact HB.out | apply below_alloc | apply pw_below_drewN | apply below_drew1 | refine below_set ?_ GE290.out | refine below_set ?_ GE292.out) | exact HB.out)) : P := h
theorem z8_ {P : Prop} (h : P := by repeat (first | (with_reducible first | exact HB.out | apply below_alloc | apply pw_below_drewN | apply below_drew1 | refine below_set ?_ GE113.out) | exact HB.out)) : P := h
theorem z9_ {P : Prop} (h : P := by first | exact HK.out.1 | exact (show Kept w _ (fun k_ => P3_ k_ ∨ P4_ k_) from by repeat (first | (with_reducible first | exact HK.out | apply Kept.alloc | apply Kept.drewN | apply Kept.drew | refine Kept.setCell ?_ (.inr GW290.out) _ | refine Kept.setCell ?_ (.inr GW292.out) _) | exact HK.out)).1) : P := h
theorem z10_ {P : Prop} (h : P := by repeat (first | exact (Kd.C_below HR0_0.out HB.out) | (with_reducible refine Kd.C_alloc ?_ _) | (with_reducible refine Kd.C_drewN ?_ _) | (with_reducible refine Kd.C_drew ?_))) : P := h
theorem z11_ {P : Prop} (h : P := by repeat (first | (with_reducible first | exact HB.out | apply below_alloc | apply pw_below_drewN | apply below_drew1 | refine below_set ?_ GE220.out | refine below_set ?_ GE221.out | refine below_set ?_ GE225.out) | exact HB.out)) : P := h
theorem z12_ {P : Prop} (h : P := by first | rfl | (simp; done) | (simp [*]; done)) : P := h
theorem z13_ {P : Prop} (h : P := by repeat (first | (with_reducible first | exact HB.out | apply below_alloc | apply pw_below_drewN | apply below_drew1 | refine below_set ?_ GE148.out) | exact HB.out)) : P := h
theorem z14_ {P : Prop} (h : P := by repeat (first | (with_reducible first | exact HK.out | apply Kept.alloc | apply Kept.drewN | apply Kept.drew | refine Kept.setCell ?_ (.inr GW113.out) _) | exact HK.out)) : P := h
theorem z15_ {P : Prop} (h : P := by (with_reducible repeat (first | refine blk_drewN ?_ _ | refine blk_drew ?_ | refine blk_alloc ?_ _)); exact BK459.out) : P := h
theorem z16_ {P : Prop} (h : P := by repeat (first | (with_reducible first | exact HB.out | apply below_alloc | apply pw_below_drewN | apply below_drew1 | refine below_set ?_ GE392.out | refine below_set ?_ GE393.out | refine below_set ?_ GE397.out) | exact HB.out)) : P := h
theorem z17_ {P : Prop} (h : P := by (with_reducible repeat (first | refine blk_drewN ?_ _ | refine blk_drew ?_ | refine blk_alloc ?_ _)); refine blk_far ?_ NB312_324.out _; (with_reducible repeat (first | refine blk_drewN ?_ _ | refine blk_drew ?_ | refine blk_alloc ?_ _)); refine blk_far ?_ NB312_324.out _; (with_reducible repeat (first | refine blk_drewN ?_ _ | refine blk_drew ?_ | refine blk_alloc ?_ _)); refine blk_far ?_ NB312_324.out _; (with_reducible repeat (first | refine blk_drewN ?_ _ | refine blk_drew ?_ | refine blk_alloc ?_ _)); refine blk_far ?_ NB312_324.out _; (with_reducible repeat (first | refine blk_drewN ?_ _ | refine blk_drew ?_ | refine blk_alloc ?_ _)); refine blk_far ?_ NB312_324.out _; (with_reducible repeat (first | refine blk_drewN ?_ _ | refine blk_drew ?_ | refine blk_alloc ?_ _)); refine blk_far ?_ NB312_324.out _; (with_reducible repeat (first | refine blk_drewN ?_ _ | refine blk_drew ?_ | refine blk_alloc ?_ _)); refine blk_far ?_ NB312_324.out _; (with_reducible repeat (first | refine blk_drewN ?_ _ | refine blk_drew ?_ | refine blk_alloc ?_ _)); exact BK312.out) : P := h
theorem z18_ {P : Prop} (h : P := by (with_reducible repeat (first | refine blk_drewN ?_ _ | refine blk_drew ?_ | refine blk_alloc ?_ _)); refine blk_far ?_ NB315_324.out _; (with_reducible repeat (first | refine blk_drewN ?_ _ | refine blk_drew ?_ | refine blk_alloc ?_ _)); refine blk_far ?_ NB315_324.out _; (with_reducible repeat (first | refine blk_drewN ?_ _ | refine blk_drew ?_ | refine blk_alloc ?_ _)); refine blk_far ?_ NB315_324.out _; (with_reducible repeat (first | refine blk_drewN ?_ _ | refine blk_drew ?_ | refine blk_alloc ?_ _)); refine blk_far ?_ NB315_324.out _; (with_reducible repeat (first | refine blk_drewN ?_ _ | refine blk_drew ?_ | refine blk_alloc ?_ _)); refine blk_far ?_ NB315_324.out _; (with_reducible repeat (first | refine blk_drewN ?_ _ | refine blk_drew ?_ | refine blk_alloc ?_ _)); refine blk_far ?_ NB315_324.out _; (with_reducible repeat (first | refine blk_drewN ?_ _ | refine blk_drew ?_ | refine blk_alloc ?_ _)); refine blk_far ?_ NB315_324.out _; (with_reducible repeat (first | refine blk_drewN ?_ _ | refine blk_drew ?_ | refine blk_alloc ?_ _)); exact BK315.out) : P := h
theorem z19_ {P : Prop} (h : P := by (with_reducible repeat (first | apply Kd.R_alloc | apply Kd.R_drewN | apply Kd.R_drew)); exact HO_3.out) : P := h
theorem z20_ {P : Prop} (h : P := by (with_reducible repeat (first | refine blk_drewN ?_ _ | refine blk_drew ?_ | refine blk_alloc ?_ _)); refine blk_put (cs := #[.bool (true), .int .i64 ((rd_T72 l0_0 a1).f1), .int .i64 ((rd_T72 l0_0 a1).f2), .int .i64 ((rd_T72 l0_0 a1).f3), .int .i64 ((rd_T72 l0_0 a1).f4), .int .i64 ((rd_T72 l0_0 a1).f5), .int .i64 0]) ?_ 6 _ rfl; (with_reducible repeat (first | refine blk_drewN ?_ _ | refine blk_drew ?_ | refine blk_alloc ?_ _)); refine blk_put (cs := #[.bool (true), .int .i64 ((rd_T72 l0_0 a1).f1), .int .i64 ((rd_T72 l0_0 a1).f2), .int .i64 ((rd_T72 l0_0 a1).f3), .int .i64 ((rd_T72 l0_0 a1).f4), .int .i64 0, .int .i64 0]) ?_ 5 _ rfl; (with_reducible repeat (first | refine blk_drewN ?_ _ | refine blk_drew ?_ | refine blk_alloc ?_ _)); refine blk_put (cs := #[.bool (true), .int .i64 ((rd_T72 l0_0 a1).f1), .int .i64 ((rd_T72 l0_0 a1).f2), .int .i64 ((rd_T72 l0_0 a1).f3), .int .i64 0, .int .i64 0, .int .i64 0]) ?_ 4 _ rfl; (with_reducible repeat (first | refine blk_drewN ?_ _ | refine blk_drew ?_ | refine blk_alloc ?_ _)); refine blk_put (cs := #[.bool (true), .int .i64 ((rd_T72 l0_0 a1).f1), .int .i64 ((rd_T72 l0_0 a1).f2), .int .i64 0, .int .i64 0, .int .i64 0, .int .i64 0]) ?_ 3 _ rfl; (with_reducible repeat (first | refine blk_drewN ?_ _ | refine blk_drew ?_ | refine blk_alloc ?_ _)); refine blk_put (cs := #[.bool (true), .int .i64 ((rd_T72 l0_0 a1).f1), .int .i64 0, .int .i64 0, .int .i64 0, .int .i64 0, .int .i64 0]) ?_ 2 _ rfl; (with_reducible repeat (first | refine blk_drewN ?_ _ | refine blk_drew ?_ | refine blk_alloc ?_ _)); refine blk_put (cs := #[.bool (true), .int .i64 0, .int .i64 0, .int .i64 0, .int .i64 0, .int .i64 0, .int .i64 0]) ?_ 1 _ rfl; (with_reducible repeat (first | refine blk_drewN ?_ _ | refine blk_drew ?_ | refine blk_alloc ?_ _)); refine blk_put (cs := #[.bool false, .int .i64 0, .int .i64 0, .int .i64 0, .int .i64 0, .int .i64 0, .int .i64 0]) ?_ 0 _ rfl; (with_reducible repeat (first | refine blk_drewN ?_ _ | refine blk_drew ?_ | refine blk_alloc ?_ _)); exact BK292.out) : P := h
theorem z21_ {P : Prop} (h : P := by (with_reducible repeat (first | apply Kd.R_alloc | apply Kd.R_drewN | apply Kd.R_drew)); exact HO_4.out) : P := h
theorem z22_ {P : Prop} (h : P := by repeat (first | (with_reducible first | exact HB.out | apply below_alloc | apply pw_below_drewN | apply below_drew1 | refine below_set ?_ GE432.out) | exact HB.out)) : P := h
theorem z23_ {P : Prop} (h : P := by repeat (first | (with_reducible first | exact HB.out | apply below_alloc | apply pw_below_drewN | apply below_drew1 | refine below_set ?_ GE312.out | refine below_set ?_ GE315.out) | exact HB.out)) : P := h
theorem z24_ {P : Prop} (h : P := by (with_reducible repeat (first | refine blk_drewN ?_ _ | refine blk_drew ?_ | refine blk_alloc ?_ _)); exact BK468.out) : P := h
theorem z25_ {P : Prop} (h : P := by first | (go_simp; done) | (go_simp; rfl)) : P := h
theorem z26_ {P : Prop} (h : P := by (with_reducible repeat (first | refine blk_drewN ?_ _ | refine blk_drew ?_ | refine blk_alloc ?_ _)); exact BK472.out) : P := h
theorem z27_ {P : Prop} (h : P := by (with_reducible repeat (first | refine blk_drewN ?_ _ | refine blk_drew ?_ | refine blk_alloc ?_ _)); refine blk_far ?_ NB290_292.out _; (with_reducible repeat (first | refine blk_drewN ?_ _ | refine blk_drew ?_ | refine blk_alloc ?_ _)); refine blk_far ?_ NB290_292.out _; (with_reducible repeat (first | refine blk_drewN ?_ _ | refine blk_drew ?_ | refine blk_alloc ?_ _)); refine blk_far ?_ NB290_292.out _; (with_reducible repeat (first | refine blk_drewN ?_ _ | refine blk_drew ?_ | refine blk_alloc ?_ _)); refine blk_far ?_ NB290_292.out _; (with_reducible repeat (first | refine blk_drewN ?_ _ | refine blk_drew ?_ | refine blk_alloc ?_ _)); refine blk_far ?_ NB290_292.out _; (with_reducible repeat (first | refine blk_drewN ?_ _ | refine blk_drew ?_ | refine blk_alloc ?_ _)); refine blk_far ?_ NB290_292.out _; (with_reducible repeat (first | refine blk_drewN ?_ _ | refine blk_drew ?_ | refine blk_alloc ?_ _)); refine blk_far ?_ NB290_292.out _; (with_reducible repeat (first | refine blk_drewN ?_ _ | refine blk_drew ?_ | refine blk_alloc ?_ _)); exact BK290.out) : P := h
theorem z28_ {P : Prop} (h : P := by (with_reducible repeat (first | refine blk_drewN ?_ _ | refine blk_drew ?_ | refine blk_alloc ?_ _)); refine blk_far ?_ NB312_315.out _; (with_reducible repeat (first | refine blk_drewN ?_ _ | refine blk_drew ?_ | refine blk_alloc ?_ _)); refine blk_far ?_ NB312_315.out _; (with_reducible repeat (first | refine blk_drewN ?_ _ | refine blk_drew ?_ | refine blk_alloc ?_ _)); refine blk_far ?_ NB312_315.out _; (with_reducible repeat (first | refine blk_drewN ?_ _ | refine blk_drew ?_ | refine blk_alloc ?_ _)); refine blk_far ?_ NB312_315.out _; (with_reducible repeat (first | refine blk_drewN ?_ _ | refine blk_drew ?_ | refine blk_alloc ?_ _)); refine blk_far ?_ NB312_315.out _; (with_reducible repeat (first | refine blk_drewN ?_ _ | refine blk_drew ?_ | refine blk_alloc ?_ _)); refine blk_far ?_ NB312_315.out _; (with_reducible repeat (first | refine blk_drewN ?_ _ | refine blk_drew ?_ | refine blk_alloc ?_ _)); refine blk_far ?_ NB312_315.out _; (with_reducible repeat (first | refine blk_drewN ?_ _ | refine blk_drew ?_ | refine blk_alloc ?_ _)); exact BK312.out) : P := h
theorem z29_ {P : Prop} (h : P := by (with_reducible repeat (first | apply Kd.R_alloc | apply Kd.R_drewN | apply Kd.R_drew)); exact Kd.R_mono (Kd.R_far (p := ⟨gb324, 6, none⟩) (Kd.R_far (p := ⟨gb324, 5, none⟩) (Kd.R_far (p := ⟨gb324, 4, none⟩) (Kd.R_far (p := ⟨gb324, 3, none⟩) (Kd.R_far (p := ⟨gb324, 2, none⟩) (Kd.R_far (p := ⟨gb324, 1, none⟩) (Kd.R_far (p := ⟨gb324, 0, none⟩) (Kd.R_types HO_6.out BK324.out (by decide)) (fun _ hk => hk.2) (.bool ((rd_T72 l0_0 x42_2).f0))) (fun _ hk => hk.2) (.int .i64 ((rd_T72 l0_0 x42_2).f1))) (fun _ hk => hk.2) (.int .i64 ((rd_T72 l0_0 x42_2).f2))) (fun _ hk => hk.2) (.int .i64 ((rd_T72 l0_0 x42_2).f3))) (fun _ hk => hk.2) (.int .i64 ((rd_T72 l0_0 x42_2).f4))) (fun _ hk => hk.2) (.int .i64 ((rd_T72 l0_0 x42_2).f5))) (fun _ hk => hk.2) (.int .i64 ((rd_T72 l0_0 x42_2).f6))) (fun _ hk => trivial)) : P := h
theorem z30_ {P : Prop} (h : P := by (with_reducible repeat (first | apply Kd.R_alloc | apply Kd.R_drewN | apply Kd.R_drew)); exact Kd.R_mono (Kd.R_far (p := ⟨gb324, 6, none⟩) (Kd.R_far (p := ⟨gb324, 5, none⟩) (Kd.R_far (p := ⟨gb324, 4, none⟩) (Kd.R_far (p := ⟨gb324, 3, none⟩) (Kd.R_far (p := ⟨gb324, 2, none⟩) (Kd.R_far (p := ⟨gb324, 1, none⟩) (Kd.R_far (p := ⟨gb324, 0, none⟩) (Kd.R_types HO_7.out BK324.out (by decide)) (fun _ hk => hk.2) (.bool ((rd_T72 l0_0 x42_2).f0))) (fun _ hk => hk.2) (.int .i64 ((rd_T72 l0_0 x42_2).f1))) (fun _ hk => hk.2) (.int .i64 ((rd_T72 l0_0 x42_2).f2))) (fun _ hk => hk.2) (.int .i64 ((rd_T72 l0_0 x42_2).f3))) (fun _ hk => hk.2) (.int .i64 ((rd_T72 l0_0 x42_2).f4))) (fun _ hk => hk.2) (.int .i64 ((rd_T72 l0_0 x42_2).f5))) (fun _ hk => hk.2) (.int .i64 ((rd_T72 l0_0 x42_2).f6))) (fun _ hk => trivial)) : P := h
theorem z31_ {P : Prop} (h : P := by repeat (first | (with_reducible first | exact HB.out | apply below_alloc | apply pw_below_drewN | apply below_drew1 | refine below_set ?_ GE459.out | refine below_set ?_ GE468.out | refine below_set ?_ GE472.out | refine below_set ?_ GE477.out | refine below_set ?_ GE496.out) | exact HB.out)) : P := h
theorem z32_ {P : Prop} (h : P := by (with_reducible repeat (first | refine blk_drewN ?_ _ | refine blk_drew ?_ | refine blk_alloc ?_ _)); exact BK290.out) : P := h
theorem z33_ {P : Prop} (h : P := by first | exact HK.out.1 | exact (show Kept w _ (fun k_ => P3_ k_ ∨ P4_ k_) from by repeat (first | (with_reducible first | exact HK.out | apply Kept.alloc | apply Kept.drewN | apply Kept.drew | refine Kept.setCell ?_ (.inr GW113.out) _) | exact HK.out)).1) : P := h
theorem z34_ {P : Prop} (h : P := by (with_reducible repeat (first | refine blk_drewN ?_ _ | refine blk_drew ?_ | refine blk_alloc ?_ _)); exact BK477.out) : P := h
theorem z35_ {P : Prop} (h : P := by (with_reducible repeat (first | refine blk_drewN ?_ _ | refine blk_drew ?_ | refine blk_alloc ?_ _)); exact BK312.out) : P := h
theorem z36_ {P : Prop} (h : P := by (with_reducible repeat (first | refine blk_drewN ?_ _ | refine blk_drew ?_ | refine blk_alloc ?_ _)); exact BK432.out) : P := h
theorem z37_ {P : Prop} (h : P := by (with_reducible repeat (first | refine blk_drewN ?_ _ | refine blk_drew ?_ | refine blk_alloc ?_ _)); exact BK113.out) : P := h
theorem z38_ {P : Prop} (h : P := by (with_reducible repeat (first | refine blk_drewN ?_ _ | refine blk_drew ?_ | refine blk_alloc ?_ _)); exact BK315.out) : P := h
theorem z39_ {P : Prop} (h : P := by repeat (first | (with_reducible first | exact HB.out | apply below_alloc | apply pw_below_drewN | apply below_drew1 | refine below_set ?_ GE312.out | refine below_set ?_ GE315.out | refine below_set ?_ GE324.out) | exact HB.out)) : P := h
theorem z40_ {P : Prop} (h : P := by exact Kd.C_kept_call HR0_0.out (by repeat (first | (with_reducible first | exact HK.out | apply Kept.alloc | apply Kept.drewN | apply Kept.drew | refine Kept.setCell ?_ (.inr GW290.out) _ | refine Kept.setCell ?_ (.inr GW292.out) _) | exact HK.out)) (fun k_ hs_ => Or.elim hs_ (fun e_ => (fun e_ => (HO_3.out.1 k_ e_.symm)) e_) (fun e_ => (fun e_ => (HO_4.out.1 k_ e_.symm)) e_))) : P := h
theorem z41_ {P : Prop} (h : P := by (with_reducible repeat (first | refine blk_drewN ?_ _ | refine blk_drew ?_ | refine blk_alloc ?_ _)); exact BK220.out) : P := h
theorem z42_ {P : Prop} (h : P := by (with_reducible repeat (first | refine blk_drewN ?_ _ | refine blk_drew ?_ | refine blk_alloc ?_ _)); exact BK148.out) : P := h
theorem z43_ {P : Prop} (h : P := by (with_reducible repeat (first | refine blk_drewN ?_ _ | refine blk_drew ?_ | refine blk_alloc ?_ _)); exact BK292.out) : P := h
theorem z44_ {P : Prop} (h : P := by exact (fun k_ hk => (.inr (Nat.le_trans (by first | exact HK.out.1 | exact (show Kept w _ (fun k_ => P3_ k_ ∨ P4_ k_) from by repeat (first | (with_reducible first | exact HK.out | apply Kept.alloc | apply Kept.drewN | apply Kept.drew | refine Kept.setCell ?_ (.inr GW290.out) _ | refine Kept.setCell ?_ (.inr GW292.out) _) | exact HK.out)).1) hk)))) : P := h
theorem z45_ {P : Prop} (h : P := by (with_reducible repeat (first | apply Kd.R_alloc | apply Kd.R_drewN | apply Kd.R_drew)); exact HO_469000.out) : P := h
theorem z46_ {P : Prop} (h : P := by (with_reducible repeat (first | apply Kd.R_alloc | apply Kd.R_drewN | apply Kd.R_drew)); exact HO_473000.out) : P := h
theorem z47_ {P : Prop} (h : P := by (with_reducible repeat (first | apply Kd.R_alloc | apply Kd.R_drewN | apply Kd.R_drew)); exact HO_478000.out) : P := h
theorem z48_ {P : Prop} (h : P := by (with_reducible repeat (first | refine blk_drewN ?_ _ | refine blk_drew ?_ | refine blk_alloc ?_ _)); exact BK392.out) : P := h
theorem z49_ {P : Prop} (h : P := by repeat (first | (with_reducible first | exact HK.out | apply Kept.alloc | apply Kept.drewN | apply Kept.drew) | exact HK.out)) : P := h
theorem z50_ {P : Prop} (h : P := by (with_reducible repeat (first | refine blk_drewN ?_ _ | refine blk_drew ?_ | refine blk_alloc ?_ _)); exact BK221.out) : P := h
theorem z51_ {P : Prop} (h : P := by repeat (first | (with_reducible first | exact HB.out | apply below_alloc | apply pw_below_drewN | apply below_drew1 | refine below_set ?_ GE459.out) | exact HB.out)) : P := h
theorem z52_ {P : Prop} (h : P := by (with_reducible repeat (first | refine blk_drewN ?_ _ | refine blk_drew ?_ | refine blk_alloc ?_ _)); exact BK393.out) : P := h
theorem z53_ {P : Prop} (h : P := by repeat (first | (with_reducible first | exact HB.out | apply below_alloc | apply pw_below_drewN | apply below_drew1 | refine below_set ?_ GE432.out | refine below_set ?_ GE433.out) | exact HB.out)) : P := h
theorem z54_ {P : Prop} (h : P := by repeat (first | exact (Kd.R_reads' HO_4.out).2.2 | (with_reducible refine Kd.C_alloc ?_ _) | (with_reducible refine Kd.C_drewN ?_ _) | (with_reducible refine Kd.C_drew ?_))) : P := h
theorem z55_ {P : Prop} (h : P := by (with_reducible repeat (first | apply Kd.R_alloc | apply Kd.R_drewN | apply Kd.R_drew)); exact Kd.R_mono (Kd.R_far (p := ⟨gb292, 6, none⟩) (Kd.R_far (p := ⟨gb292, 5, none⟩) (Kd.R_far (p := ⟨gb292, 4, none⟩) (Kd.R_far (p := ⟨gb292, 3, none⟩) (Kd.R_far (p := ⟨gb292, 2, none⟩) (Kd.R_far (p := ⟨gb292, 1, none⟩) (Kd.R_far (p := ⟨gb292, 0, none⟩) (Kd.R_types HO3.out BK292.out (by decide)) (fun _ hk => hk.2) (.bool (true))) (fun _ hk => hk.2) (.int .i64 ((rd_T72 l0_0 a1).f1))) (fun _ hk => hk.2) (.int .i64 ((rd_T72 l0_0 a1).f2))) (fun _ hk => hk.2) (.int .i64 ((rd_T72 l0_0 a1).f3))) (fun _ hk => hk.2) (.int .i64 ((rd_T72 l0_0 a1).f4))) (fun _ hk => hk.2) (.int .i64 ((rd_T72 l0_0 a1).f5))) (fun _ hk => hk.2) (.int .i64 ((rd_T72 l0_0 a1).f6))) (fun _ hk => hk.1)) : P := h
theorem z56_ {P : Prop} (h : P := by (with_reducible repeat (first | apply Kd.R_alloc | apply Kd.R_drewN | apply Kd.R_drew)); exact Kd.R_mono (Kd.R_far (p := ⟨gb292, 6, none⟩) (Kd.R_far (p := ⟨gb292, 5, none⟩) (Kd.R_far (p := ⟨gb292, 4, none⟩) (Kd.R_far (p := ⟨gb292, 3, none⟩) (Kd.R_far (p := ⟨gb292, 2, none⟩) (Kd.R_far (p := ⟨gb292, 1, none⟩) (Kd.R_far (p := ⟨gb292, 0, none⟩) (Kd.R_types HO4.out BK292.out (by decide)) (fun _ hk => hk.2) (.bool (true))) (fun _ hk => hk.2) (.int .i64 ((rd_T72 l0_0 a1).f1))) (fun _ hk => hk.2) (.int .i64 ((rd_T72 l0_0 a1).f2))) (fun _ hk => hk.2) (.int .i64 ((rd_T72 l0_0 a1).f3))) (fun _ hk => hk.2) (.int .i64 ((rd_T72 l0_0 a1).f4))) (fun _ hk => hk.2) (.int .i64 ((rd_T72 l0_0 a1).f5))) (fun _ hk => hk.2) (.int .i64 ((rd_T72 l0_0 a1).f6))) (fun _ hk => hk.1)) : P := h
theorem z57_ {P : Prop} (h : P := by repeat (first | exact (Kd.R_reads' HO_478000.out).2.2 | (with_reducible refine Kd.C_alloc ?_ _) | (with_reducible refine Kd.C_drewN ?_ _) | (with_reducible refine Kd.C_drew ?_))) : P := h
theorem z58_ {P : Prop} (h : P := by (with_reducible repeat (first | refine blk_drewN ?_ _ | refine blk_drew ?_ | refine blk_alloc ?_ _)); exact BK225.out) : P := h
theorem z59_ {P : Prop} (h : P := by rintro w' ⟨s0, s1, s2, s4, s5, s6, s7, s8, s9, s10, s12⟩; go_simp; with_reducible rfl) : P := h
theorem z60_ {P : Prop} (h : P := by (with_reducible repeat (first | apply Kd.R_alloc | apply Kd.R_drewN | apply Kd.R_drew)); exact HO_6.out) : P := h
theorem z61_ {P : Prop} (h : P := by exact (below_size (by repeat (first | (with_reducible first | exact HB.out | apply below_alloc | apply pw_below_drewN | apply below_drew1 | refine below_set ?_ GE290.out | refine below_set ?_ GE292.out) | exact HB.out)))) : P := h
theorem z62_ {P : Prop} (h : P := by repeat (first | exact Drawn0.refl _ | apply Drawn0.step)) : P := h
theorem z63_ {P : Prop} (h : P := by refine (Kd.R_reads' (e := 72) (base := w.heap.size) (ok := fun k_ => ((((True ∧ some k_ ≠ (.slice Ao21 t464.length co21 : Value).ownBlock) ∧ some k_ ≠ (.slice Ao27 t484.length co27 : Value).ownBlock) ∧ some k_ ≠ (.slice Ao33 t473.length co33 : Value).ownBlock) ∧ some k_ ≠ (.slice Ao116 t489.length co116 : Value).ownBlock)) (n := t492.length) (c := co119) ?_).2.2; exact (by (with_reducible repeat (first | apply Kd.R_alloc | apply Kd.R_drewN | apply Kd.R_drew)); exact (Kd.R_mono (Kd.R_far (p := ⟨gb496, 0, none⟩) (Kd.R_types HO494.out BK496.out (by decide)) (fun _ hk => hk.2) (.slice Ao119 t492.length co119)) (fun _ h_ => h_.1)))) : P := h
theorem z64_ {P : Prop} (h : P := by refine (Kd.R_reads' (e := 72) (base := w.heap.size) (ok := fun k_ => (((some k_ ≠ (.slice Ao27 t484.length co27 : Value).ownBlock ∧ some k_ ≠ (.slice Ao33 t473.length co33 : Value).ownBlock) ∧ some k_ ≠ (.slice Ao116 t489.length co116 : Value).ownBlock) ∧ some k_ ≠ (.slice Ao119 t492.length co119 : Value).ownBlock)) (n := t464.length) (c := co21) ?_).2.2; exact (by (with_reducible repeat (first | apply Kd.R_alloc | apply Kd.R_drewN | apply Kd.R_drew)); exact (Kd.R_mono (Kd.R_far (p := ⟨gb496, 0, none⟩) (Kd.R_types HO_469000.out BK496.out (by decide)) (fun _ hk => hk.2) (.slice Ao119 t492.length co119)) (fun _ h_ => h_.1)))) : P := h
theorem z65_ {P : Prop} (h : P := by exact (by repeat (first | (with_reducible first | exact HB.out | apply below_alloc | apply pw_below_drewN | apply below_drew1 | refine below_set ?_ GE290.out | refine below_set ?_ GE292.out) | exact HB.out))) : P := h
theorem z66_ {P : Prop} (h : P := by (with_reducible repeat (first | apply Kd.R_alloc | apply Kd.R_drewN | apply Kd.R_drew)); exact HO_5.out) : P := h
theorem z67_ {P : Prop} (h : P := by repeat (first | (with_reducible first | exact HB.out | apply below_alloc | apply pw_below_drewN | apply below_drew1 | refine below_set ?_ GE459.out | refine below_set ?_ GE468.out) | exact HB.out)) : P := h
theorem z68_ {P : Prop} (h : P := by (with_reducible repeat (first | refine blk_drewN ?_ _ | refine blk_drew ?_ | refine blk_alloc ?_ _)); exact BK397.out) : P := h
theorem z69_ {P : Prop} (h : P := by repeat (first | (with_reducible first | exact HB.out | apply below_alloc | apply pw_below_drewN | apply below_drew1 | refine below_set ?_ GE188.out) | exact HB.out)) : P := h
theorem z70_ {P : Prop} (h : P := by repeat (first | (with_reducible first | exact HB.out | apply below_alloc | apply pw_below_drewN | apply below_drew1 | refine below_set ?_ GE345.out) | exact HB.out)) : P := h
theorem z71_ {P : Prop} (h : P := by repeat (first | (with_reducible first | exact HB.out | apply below_alloc | apply pw_below_drewN | apply below_drew1 | refine below_set ?_ GE459.out | refine below_set ?_ GE468.out | refine below_set ?_ GE472.out) | exact HB.out)) : P := h
theorem z72_ {P : Prop} (h : P := by refine (Kd.R_reads' (e := 72) (base := w.heap.size) (ok := fun k_ => (((True ∧ some k_ ≠ (.slice Ao18 t461.length co18 : Value).ownBlock) ∧ some k_ ≠ (.slice Ao21 t464.length co21 : Value).ownBlock) ∧ some k_ ≠ (.slice Ao27 t469.length co27 : Value).ownBlock)) (n := t473.length) (c := co33) ?_).2.2; exact (by (with_reducible repeat (first | apply Kd.R_alloc | apply Kd.R_drewN | apply Kd.R_drew)); exact (Kd.R_mono (Kd.R_far (p := ⟨gb477, 0, none⟩) (Kd.R_types HO475.out BK477.out (by decide)) (fun _ hk => hk.2) (.slice Ao33 t473.length co33)) (fun _ h_ => h_.1)))) : P := h
theorem z73_ {P : Prop} (h : P := by refine (Kd.R_reads' (e := 72) (base := w.heap.size) (ok := fun k_ => (((True ∧ some k_ ≠ (.slice Ao18 t461.length co18 : Value).ownBlock) ∧ some k_ ≠ (.slice Ao27 t469.length co27 : Value).ownBlock) ∧ some k_ ≠ (.slice Ao33 t473.length co33 : Value).ownBlock)) (n := t464.length) (c := co21) ?_).2.2; exact (by (with_reducible repeat (first | apply Kd.R_alloc | apply Kd.R_drewN | apply Kd.R_drew)); exact (Kd.R_mono (Kd.R_far (p := ⟨gb477, 0, none⟩) (Kd.R_types HO466.out BK477.out (by decide)) (fun _ hk => hk.2) (.slice Ao33 t473.length co33)) (fun _ h_ => h_.1)))) : P := h
theorem z74_ {P : Prop} (h : P := by (with_reducible repeat (first | apply Kd.R_alloc | apply Kd.R_drewN | apply Kd.R_drew)); exact HO_7.out) : P := h
theorem z75_ {P : Prop} (h : P := by (with_reducible repeat (first | apply Kd.R_alloc | apply Kd.R_drewN | apply Kd.R_drew)); exact (Kd.R_mono (Kd.R_far (p := ⟨gb496, 0, none⟩) (Kd.R_types HO_469000.out BK496.out (by decide)) (fun _ hk => hk.2) (.slice Ao119 t492.length co119)) (fun _ h_ => h_.1))) : P := h
theorem z76_ {P : Prop} (h : P := by (with_reducible repeat (first | apply Kd.R_alloc | apply Kd.R_drewN | apply Kd.R_drew)); exact (Kd.R_mono (Kd.R_far (p := ⟨gb496, 0, none⟩) (Kd.R_types HO494.out BK496.out (by decide)) (fun _ hk => hk.2) (.slice Ao119 t492.length co119)) (fun _ h_ => h_.1))) : P := h
theorem z77_ {P : Prop} (h : P := by (with_reducible repeat (first | apply Kd.R_alloc | apply Kd.R_drewN | apply Kd.R_drew)); exact HO3.out) : P := h
theorem z78_ {P : Prop} (h : P := by (with_reducible repeat (first | apply Kd.R_alloc | apply Kd.R_drewN | apply Kd.R_drew)); exact HO4.out) : P := h
theorem z79_ {P : Prop} (h : P := by (with_reducible repeat (first | apply Kd.R_alloc | apply Kd.R_drewN | apply Kd.R_drew)); exact (Kd.R_mono (Kd.R_far (p := ⟨gb477, 0, none⟩) (Kd.R_types HO475.out BK477.out (by decide)) (fun _ hk => hk.2) (.slice Ao33 t473.length co33)) (fun _ h_ => h_.1))) : P := h
theorem z80_ {P : Prop} (h : P := by (with_reducible repeat (first | apply Kd.R_alloc | apply Kd.R_drewN | apply Kd.R_drew)); exact (Kd.R_mono (Kd.R_far (p := ⟨gb477, 0, none⟩) (Kd.R_types HO466.out BK477.out (by decide)) (fun _ hk => hk.2) (.slice Ao33 t473.length co33)) (fun _ h_ => h_.1))) : P := h
theorem z81_ {P : Prop} (h : P := by repeat (first | (with_reducible first | exact HB.out | apply below_alloc | apply pw_below_drewN | apply below_drew1 | refine below_set ?_ GE184.out) | exact HB.out)) : P := h
theorem z82_ {P : Prop} (h : P := by repeat (first | (with_reducible first | exact HB.out | apply below_alloc | apply pw_below_drewN | apply below_drew1 | refine below_set ?_ GE290.out) | exact HB.out)) : P := h
theorem z83_ {P : Prop} (h : P := by repeat (first | (with_reducible first | exact HB.out | apply below_alloc | apply pw_below_drewN | apply below_drew1 | refine below_set ?_ GE341.out) | exact HB.out)) : P := h
theorem z84_ {P : Prop} (h : P := by repeat (first | (with_reducible first | exact HB.out | apply below_alloc | apply pw_below_drewN | apply below_drew1 | refine below_set ?_ GE437.out) | exact HB.out)) : P := h
theorem z85_ {P : Prop} (h : P := by repeat (first | (with_reducible first | exact HB.out | apply below_alloc | apply pw_below_drewN | apply below_drew1 | refine below_set ?_ GE104.out | refine below_set ?_ GE105.out) | exact HB.out)) : P := h
theorem z86_ {P : Prop} (h : P := by repeat (first | (with_reducible first | exact HB.out | apply below_alloc | apply pw_below_drewN | apply below_drew1 | refine below_set ?_ GE142.out | refine below_set ?_ GE144.out) | exact HB.out)) : P := h
theorem z87_ {P : Prop} (h : P := by repeat (first | (with_reducible first | exact HB.out | apply below_alloc | apply pw_below_drewN | apply below_drew1 | refine below_set ?_ GE220.out | refine below_set ?_ GE221.out) | exact HB.out)) : P := h
theorem z88_ {P : Prop} (h : P := by repeat (first | (with_reducible first | exact HB.out | apply below_alloc | apply pw_below_drewN | apply below_drew1 | refine below_set ?_ GE392.out | refine below_set ?_ GE393.out) | exact HB.out)) : P := h
theorem z89_ {P : Prop} (h : P := by (with_reducible repeat (first | apply Kd.R_alloc | apply Kd.R_drewN | apply Kd.R_drew)); exact HO_226000.out) : P := h
theorem z90_ {P : Prop} (h : P := by (with_reducible repeat (first | refine blk_drewN ?_ _ | refine blk_drew ?_ | refine blk_alloc ?_ _)); exact BK437.out) : P := h
theorem z91_ {P : Prop} (h : P := by (with_reducible repeat (first | apply Kd.R_alloc | apply Kd.R_drewN | apply Kd.R_drew)); exact HO_0.out) : P := h
theorem z92_ {P : Prop} (h : P := by first | exact HK.out.1 | exact (show Kept w _ (fun k_ => P3_ k_ ∨ P4_ k_) from by repeat (first | (with_reducible first | exact HK.out | apply Kept.alloc | apply Kept.drewN | apply Kept.drew) | exact HK.out)).1) : P := h
theorem z93_ {P : Prop} (h : P := by repeat (first | (with_reducible first | exact HB.out | apply below_alloc | apply pw_below_drewN | apply below_drew1 | refine below_set ?_ GE312.out) | exact HB.out)) : P := h
theorem z94_ {P : Prop} (h : P := by (with_reducible repeat (first | refine blk_drewN ?_ _ | refine blk_drew ?_ | refine blk_alloc ?_ _)); exact BK269.out) : P := h
theorem z95_ {P : Prop} (h : P := by repeat (first | (with_reducible first | exact HB.out | apply below_alloc | apply pw_below_drewN | apply below_drew1 | refine below_set ?_ GE437.out | refine below_set ?_ GE438.out) | exact HB.out)) : P := h
theorem z96_ {P : Prop} (h : P := by (with_reducible repeat (first | apply Kd.R_alloc | apply Kd.R_drewN | apply Kd.R_drew)); exact (Kd.R_mono (Kd.R_far (p := ⟨gb472, 0, none⟩) (Kd.R_types HO471.out BK472.out (by decide)) (fun _ hk => hk.2) (.slice Ao27 t469.length co27)) (fun _ h_ => h_.1))) : P := h
theorem z97_ {P : Prop} (h : P := by first | exact HK.out.1 | exact (show Kept w _ (fun k_ => P3_ k_ ∨ P4_ k_) from by repeat (first | (with_reducible first | exact HK.out | apply Kept.alloc | apply Kept.drewN | apply Kept.drew | refine Kept.setCell ?_ (.inr GW290.out) _) | exact HK.out)).1) : P := h
theorem z98_ {P : Prop} (h : P := by (with_reducible repeat (first | apply Kd.R_alloc | apply Kd.R_drewN | apply Kd.R_drew)); exact HO_398000.out) : P := h
theorem z99_ {P : Prop} (h : P := by (with_reducible repeat (first | apply Kd.R_alloc | apply Kd.R_drewN | apply Kd.R_drew)); exact HO402.out) : P := h
theorem z100_ {P : Prop} (h : P := by (with_reducible repeat (first | apply Kd.R_alloc | apply Kd.R_drewN | apply Kd.R_drew)); exact HO_9.out) : P := h
theorem z101_ {P : Prop} (h : P := by exact Kd.C_kept_came k72_heap HR0_0.out (by repeat (first | (with_reducible first | exact HB.out | apply below_alloc | apply pw_below_drewN | apply below_drew1 | refine below_set ?_ GE148.out) | exact HB.out)) (fun k_ hs_ => Or.elim hs_ (fun e_ => (fun e_ => by simp [Value.ownBlock] at e_) e_) (fun e_ => (fun e_ => by simp [Value.ownBlock] at e_) e_))) : P := h
theorem z102_ {P : Prop} (h : P := by (with_reducible repeat (first | refine blk_drewN ?_ _ | refine blk_drew ?_ | refine blk_alloc ?_ _)); exact BK254.out) : P := h
theorem z103_ {P : Prop} (h : P := by first | omega | exact Nat.le_refl _) : P := h
theorem z104_ {P : Prop} (h : P := by repeat (first | (with_reducible first | exact HB.out | apply below_alloc | apply pw_below_drewN | apply below_drew1 | refine below_set ?_ GE269.out | refine below_set ?_ GE270.out | refine below_set ?_ GE271.out) | exact HB.out)) : P := h
theorem z105_ {P : Prop} (h : P := by (try simp only [List.map_toArray, List.map_cons, List.map_nil]); first | done | (rw [show t487.length = t473.length from (Kd.R_reads' HO_478000.out).1.symm] <;> rfl) | rfl | (simp only [List.length_drop, List.length_take]; rfl)) : P := h
theorem z106_ {P : Prop} (h : P := by repeat (first | (with_reducible first | exact HB.out | apply below_alloc | apply pw_below_drewN | apply below_drew1 | refine below_set ?_ GE333.out) | exact HB.out)) : P := h
theorem z107_ {P : Prop} (h : P := by have h_ := Kd.R_ne HO_226000.out BK220.out (by decide); intro e_; exact h_ (by rw [e_]; rfl)) : P := h
theorem z108_ {P : Prop} (h : P := by have h_ := Kd.R_ne HO_226000.out BK221.out (by decide); intro e_; exact h_ (by rw [e_]; rfl)) : P := h
theorem z109_ {P : Prop} (h : P := by have h_ := Kd.R_ne HO_226000.out BK225.out (by decide); intro e_; exact h_ (by rw [e_]; rfl)) : P := h
theorem z110_ {P : Prop} (h : P := by have h_ := Kd.R_ne HO_398000.out BK392.out (by decide); intro e_; exact h_ (by rw [e_]; rfl)) : P := h
theorem z111_ {P : Prop} (h : P := by have h_ := Kd.R_ne HO_398000.out BK393.out (by decide); intro e_; exact h_ (by rw [e_]; rfl)) : P := h
theorem z112_ {P : Prop} (h : P := by have h_ := Kd.R_ne HO_398000.out BK397.out (by decide); intro e_; exact h_ (by rw [e_]; rfl)) : P := h
theorem z113_ {P : Prop} (h : P := by rintro w' ⟨s0, s1, s2, s3, s4, s5, s6, s7, s8⟩; go_simp; with_reducible rfl) : P := h
theorem z114_ {P : Prop} (h : P := by repeat (first | (with_reducible first | exact HB.out | apply below_alloc | apply pw_below_drewN | apply below_drew1 | refine below_set ?_ GE254.out | refine below_set ?_ GE255.out) | exact HB.out)) : P := h
theorem z115_ {P : Prop} (h : P := by repeat (first | (with_reducible first | exact HB.out | apply below_alloc | apply pw_below_drewN | apply below_drew1 | refine below_set ?_ GE269.out | refine below_set ?_ GE270.out) | exact HB.out)) : P := h
theorem z116_ {P : Prop} (h : P := by repeat (first | (with_reducible first | exact HB.out | apply below_alloc | apply pw_below_drewN | apply below_drew1 | refine below_set ?_ GE283.out | refine below_set ?_ GE284.out) | exact HB.out)) : P := h
theorem z117_ {P : Prop} (h : P := by (with_reducible repeat (first | refine blk_drewN ?_ _ | refine blk_drew ?_ | refine blk_alloc ?_ _)); exact BK104.out) : P := h
theorem z118_ {P : Prop} (h : P := by first | exact Kd.R_nil _ _ _ _ _ | exact Kd.N_nil _ _ _ _ _ | exact Kd.V_nil _ _ _ _ _ | exact Kd.Q_nil _ _ _ _ _ | exact Kd.S_nil _ _ _ _ _) : P := h
theorem z119_ {P : Prop} (h : P := by (with_reducible repeat (first | refine blk_drewN ?_ _ | refine blk_drew ?_ | refine blk_alloc ?_ _)); refine blk_put (cs := #[.slice none 0 0]) ?_ 0 _ rfl; (with_reducible repeat (first | refine blk_drewN ?_ _ | refine blk_drew ?_ | refine blk_alloc ?_ _)); exact BK225.out) : P := h
theorem z120_ {P : Prop} (h : P := by (with_reducible repeat (first | refine blk_drewN ?_ _ | refine blk_drew ?_ | refine blk_alloc ?_ _)); refine blk_put (cs := #[.slice none 0 0]) ?_ 0 _ rfl; (with_reducible repeat (first | refine blk_drewN ?_ _ | refine blk_drew ?_ | refine blk_alloc ?_ _)); exact BK221.out) : P := h
theorem z121_ {P : Prop} (h : P := by (with_reducible repeat (first | refine blk_drewN ?_ _ | refine blk_drew ?_ | refine blk_alloc ?_ _)); refine blk_put (cs := #[.slice none 0 0]) ?_ 0 _ rfl; (with_reducible repeat (first | refine blk_drewN ?_ _ | refine blk_drew ?_ | refine blk_alloc ?_ _)); exact BK397.out) : P := h
theorem z122_ {P : Prop} (h : P := by (with_reducible repeat (first | refine blk_drewN ?_ _ | refine blk_drew ?_ | refine blk_alloc ?_ _)); refine blk_put (cs := #[.slice none 0 0]) ?_ 0 _ rfl; (with_reducible repeat (first | refine blk_drewN ?_ _ | refine blk_drew ?_ | refine blk_alloc ?_ _)); exact BK393.out) : P := h
theorem z123_ {P : Prop} (h : P := by (with_reducible repeat (first | refine blk_drewN ?_ _ | refine blk_drew ?_ | refine blk_alloc ?_ _)); refine blk_put (cs := #[.slice none 0 0]) ?_ 0 _ rfl; (with_reducible repeat (first | refine blk_drewN ?_ _ | refine blk_drew ?_ | refine blk_alloc ?_ _)); exact BK477.out) : P := h
theorem z124_ {P : Prop} (h : P := by (with_reducible repeat (first | refine blk_drewN ?_ _ | refine blk_drew ?_ | refine blk_alloc ?_ _)); refine blk_put (cs := #[.slice none 0 0]) ?_ 0 _ rfl; (with_reducible repeat (first | refine blk_drewN ?_ _ | refine blk_drew ?_ | refine blk_alloc ?_ _)); exact BK496.out) : P := h
theorem z125_ {P : Prop} (h : P := by (with_reducible repeat (first | apply Kd.R_alloc | apply Kd.R_drewN | apply Kd.R_drew)); exact (Kd.R_mono (Kd.R_far (p := ⟨gb496, 0, none⟩) (Kd.R_types HO_473000.out BK496.out (by decide)) (fun _ hk => hk.2) (.slice Ao119 t492.length co119)) (fun _ h_ => h_.1))) : P := h
theorem z126_ {P : Prop} (h : P := by (with_reducible repeat (first | apply Kd.R_alloc | apply Kd.R_drewN | apply Kd.R_drew)); exact (Kd.R_mono (Kd.R_far (p := ⟨gb496, 0, none⟩) (Kd.R_types HO_478000.out BK496.out (by decide)) (fun _ hk => hk.2) (.slice Ao119 t492.length co119)) (fun _ h_ => h_.1))) : P := h
theorem z127_ {P : Prop} (h : P := by exact Kd.C_below HR0_0.out (by repeat (first | (with_reducible first | exact HB.out | apply below_alloc | apply pw_below_drewN | apply below_drew1 | refine below_set ?_ GE220.out | refine below_set ?_ GE221.out | refine below_set ?_ GE225.out) | exact HB.out))) : P := h
theorem z128_ {P : Prop} (h : P := by exact Kd.C_below HR0_0.out (by repeat (first | (with_reducible first | exact HB.out | apply below_alloc | apply pw_below_drewN | apply below_drew1 | refine below_set ?_ GE392.out | refine below_set ?_ GE393.out | refine below_set ?_ GE397.out) | exact HB.out))) : P := h
theorem z129_ {P : Prop} (h : P := by (with_reducible repeat (first | apply Kd.R_alloc | apply Kd.R_drewN | apply Kd.R_drew)); exact HO463.out) : P := h
theorem z130_ {P : Prop} (h : P := by repeat (first | exact (Kd.R_reads' HO_7.out).2.2 | (with_reducible refine Kd.C_alloc ?_ _) | (with_reducible refine Kd.C_drewN ?_ _) | (with_reducible refine Kd.C_drew ?_))) : P := h
theorem z131_ {P : Prop} (h : P := by (with_reducible repeat (first | apply Kd.R_alloc | apply Kd.R_drewN | apply Kd.R_drew)); exact HO_8.out) : P := h
theorem z132_ {P : Prop} (h : P := by (with_reducible repeat (first | apply Kd.R_alloc | apply Kd.R_drewN | apply Kd.R_drew)); exact (Kd.R_mono (Kd.R_far (p := ⟨gb496, 0, none⟩) (Kd.R_types HO491.out BK496.out (by decide)) (fun _ hk => hk.2) (.slice Ao119 t492.length co119)) (fun _ h_ => h_.1))) : P := h
theorem z133_ {P : Prop} (h : P := by (with_reducible repeat (first | apply Kd.R_alloc | apply Kd.R_drewN | apply Kd.R_drew)); exact (Kd.R_mono (Kd.R_far (p := ⟨gb225, 0, none⟩) (Kd.R_types HO224.out BK225.out (by decide)) (fun _ hk => hk.2) (.slice Ao11 t222.length co11)) (fun _ h_ => h_.1))) : P := h
theorem z134_ {P : Prop} (h : P := by (with_reducible repeat (first | apply Kd.R_alloc | apply Kd.R_drewN | apply Kd.R_drew)); exact (Kd.R_mono (Kd.R_far (p := ⟨gb397, 0, none⟩) (Kd.R_types HO396.out BK397.out (by decide)) (fun _ hk => hk.2) (.slice Ao11 t394.length co11)) (fun _ h_ => h_.1))) : P := h
theorem z135_ {P : Prop} (h : P := by (with_reducible repeat (first | apply Kd.R_alloc | apply Kd.R_drewN | apply Kd.R_drew)); exact (Kd.R_mono (Kd.R_far (p := ⟨gb468, 0, none⟩) (Kd.R_types HO463.out BK468.out (by decide)) (fun _ hk => hk.2) (.slice Ao21 t464.length co21)) (fun _ h_ => h_.1))) : P := h
theorem z136_ {P : Prop} (h : P := by (with_reducible repeat (first | apply Kd.R_alloc | apply Kd.R_drewN | apply Kd.R_drew)); exact (Kd.R_mono (Kd.R_far (p := ⟨gb468, 0, none⟩) (Kd.R_types HO466.out BK468.out (by decide)) (fun _ hk => hk.2) (.slice Ao21 t464.length co21)) (fun _ h_ => h_.1))) : P := h
theorem z137_ {P : Prop} (h : P := by (with_reducible repeat (first | apply Kd.R_alloc | apply Kd.R_drewN | apply Kd.R_drew)); exact (Kd.R_mono (Kd.R_far (p := ⟨gb472, 0, none⟩) (Kd.R_types HO463.out BK472.out (by decide)) (fun _ hk => hk.2) (.slice Ao27 t469.length co27)) (fun _ h_ => h_.1))) : P := h
theorem z138_ {P : Prop} (h : P := by (with_reducible repeat (first | apply Kd.R_alloc | apply Kd.R_drewN | apply Kd.R_drew)); exact (Kd.R_mono (Kd.R_far (p := ⟨gb472, 0, none⟩) (Kd.R_types HO466.out BK472.out (by decide)) (fun _ hk => hk.2) (.slice Ao27 t469.length co27)) (fun _ h_ => h_.1))) : P := h
theorem z139_ {P : Prop} (h : P := by (with_reducible repeat (first | apply Kd.R_alloc | apply Kd.R_drewN | apply Kd.R_drew)); exact (Kd.R_mono (Kd.R_far (p := ⟨gb477, 0, none⟩) (Kd.R_types HO463.out BK477.out (by decide)) (fun _ hk => hk.2) (.slice Ao33 t473.length co33)) (fun _ h_ => h_.1))) : P := h
theorem z140_ {P : Prop} (h : P := by (with_reducible repeat (first | apply Kd.R_alloc | apply Kd.R_drewN | apply Kd.R_drew)); exact (Kd.R_mono (Kd.R_far (p := ⟨gb477, 0, none⟩) (Kd.R_types HO471.out BK477.out (by decide)) (fun _ hk => hk.2) (.slice Ao33 t473.length co33)) (fun _ h_ => h_.1))) : P := h
theorem z141_ {P : Prop} (h : P := by (with_reducible repeat (first | refine blk_drewN ?_ _ | refine blk_drew ?_ | refine blk_alloc ?_ _)); refine blk_far ?_ NB220_225.out _; (with_reducible repeat (first | refine blk_drewN ?_ _ | refine blk_drew ?_ | refine blk_alloc ?_ _)); exact BK220.out) : P := h
theorem z142_ {P : Prop} (h : P := by (with_reducible repeat (first | refine blk_drewN ?_ _ | refine blk_drew ?_ | refine blk_alloc ?_ _)); refine blk_far ?_ NB221_225.out _; (with_reducible repeat (first | refine blk_drewN ?_ _ | refine blk_drew ?_ | refine blk_alloc ?_ _)); exact BK221.out) : P := h
theorem z143_ {P : Prop} (h : P := by (with_reducible repeat (first | refine blk_drewN ?_ _ | refine blk_drew ?_ | refine blk_alloc ?_ _)); refine blk_far ?_ NB392_397.out _; (with_reducible repeat (first | refine blk_drewN ?_ _ | refine blk_drew ?_ | refine blk_alloc ?_ _)); exact BK392.out) : P := h
theorem z144_ {P : Prop} (h : P := by (with_reducible repeat (first | refine blk_drewN ?_ _ | refine blk_drew ?_ | refine blk_alloc ?_ _)); refine blk_far ?_ NB393_397.out _; (with_reducible repeat (first | refine blk_drewN ?_ _ | refine blk_drew ?_ | refine blk_alloc ?_ _)); exact BK393.out) : P := h
theorem z145_ {P : Prop} (h : P := by (with_reducible repeat (first | refine blk_drewN ?_ _ | refine blk_drew ?_ | refine blk_alloc ?_ _)); refine blk_far ?_ NB459_477.out _; (with_reducible repeat (first | refine blk_drewN ?_ _ | refine blk_drew ?_ | refine blk_alloc ?_ _)); exact BK459.out) : P := h
theorem z146_ {P : Prop} (h : P := by (with_reducible repeat (first | refine blk_drewN ?_ _ | refine blk_drew ?_ | refine blk_alloc ?_ _)); refine blk_far ?_ NB468_477.out _; (with_reducible repeat (first | refine blk_drewN ?_ _ | refine blk_drew ?_ | refine blk_alloc ?_ _)); exact BK468.out) : P := h
theorem z147_ {P : Prop} (h : P := by (with_reducible repeat (first | refine blk_drewN ?_ _ | refine blk_drew ?_ | refine blk_alloc ?_ _)); refine blk_far ?_ NB472_477.out _; (with_reducible repeat (first | refine blk_drewN ?_ _ | refine blk_drew ?_ | refine blk_alloc ?_ _)); exact BK472.out) : P := h
theorem z148_ {P : Prop} (h : P := by (with_reducible repeat (first | refine blk_drewN ?_ _ | refine blk_drew ?_ | refine blk_alloc ?_ _)); refine blk_far ?_ NB459_496.out _; (with_reducible repeat (first | refine blk_drewN ?_ _ | refine blk_drew ?_ | refine blk_alloc ?_ _)); exact BK459.out) : P := h
theorem z149_ {P : Prop} (h : P := by (with_reducible repeat (first | refine blk_drewN ?_ _ | refine blk_drew ?_ | refine blk_alloc ?_ _)); refine blk_far ?_ NB468_496.out _; (with_reducible repeat (first | refine blk_drewN ?_ _ | refine blk_drew ?_ | refine blk_alloc ?_ _)); exact BK468.out) : P := h
theorem z150_ {P : Prop} (h : P := by (with_reducible repeat (first | refine blk_drewN ?_ _ | refine blk_drew ?_ | refine blk_alloc ?_ _)); refine blk_far ?_ NB472_496.out _; (with_reducible repeat (first | refine blk_drewN ?_ _ | refine blk_drew ?_ | refine blk_alloc ?_ _)); exact BK472.out) : P := h
theorem z151_ {P : Prop} (h : P := by (with_reducible repeat (first | refine blk_drewN ?_ _ | refine blk_drew ?_ | refine blk_alloc ?_ _)); refine blk_far ?_ NB477_496.out _; (with_reducible repeat (first | refine blk_drewN ?_ _ | refine blk_drew ?_ | refine blk_alloc ?_ _)); exact BK477.out) : P := h
theorem z152_ {P : Prop} (h : P := by repeat (first | (with_reducible first | exact HK.out | apply Kept.alloc | apply Kept.drewN | apply Kept.drew | refine Kept.setCell ?_ (.inr GW290.out) _) | exact HK.out)) : P := h
theorem z154_ {P : Prop} (h : P := by exact (below_size (by repeat (first | (with_reducible first | exact HB.out | apply below_alloc | apply pw_below_drewN | apply below_drew1 | refine below_set ?_ GE220.out | refine below_set ?_ GE221.out | refine below_set ?_ GE225.out) | exact HB.out)))) : P := h
theorem z155_ {P : Prop} (h : P := by repeat (first | (with_reducible first | exact HB.out | apply below_alloc | apply pw_below_drewN | apply below_drew1 | refine below_set ?_ GE104.out) | exact HB.out)) : P := h
theorem z156_ {P : Prop} (h : P := by repeat (first | (with_reducible first | exact HB.out | apply below_alloc | apply pw_below_drewN | apply below_drew1 | refine below_set ?_ GE142.out) | exact HB.out)) : P := h
theorem z157_ {P : Prop} (h : P := by repeat (first | (with_reducible first | exact HB.out | apply below_alloc | apply pw_below_drewN | apply below_drew1 | refine below_set ?_ GE220.out) | exact HB.out)) : P := h
theorem z158_ {P : Prop} (h : P := by repeat (first | (with_reducible first | exact HB.out | apply below_alloc | apply pw_below_drewN | apply below_drew1 | refine below_set ?_ GE254.out) | exact HB.out)) : P := h
theorem z159_ {P : Prop} (h : P := by repeat (first | (with_reducible first | exact HB.out | apply below_alloc | apply pw_below_drewN | apply below_drew1 | refine below_set ?_ GE269.out) | exact HB.out)) : P := h
theorem z160_ {P : Prop} (h : P := by repeat (first | (with_reducible first | exact HB.out | apply below_alloc | apply pw_below_drewN | apply below_drew1 | refine below_set ?_ GE283.out) | exact HB.out)) : P := h
theorem z161_ {P : Prop} (h : P := by repeat (first | (with_reducible first | exact HB.out | apply below_alloc | apply pw_below_drewN | apply below_drew1 | refine below_set ?_ GE392.out) | exact HB.out)) : P := h
theorem z162_ {P : Prop} (h : P := by exact (by repeat (first | (with_reducible first | exact HB.out | apply below_alloc | apply pw_below_drewN | apply below_drew1 | refine below_set ?_ GE220.out | refine below_set ?_ GE221.out | refine below_set ?_ GE225.out) | exact HB.out))) : P := h
theorem z163_ {P : Prop} (h : P := by (with_reducible repeat (first | refine blk_drewN ?_ _ | refine blk_drew ?_ | refine blk_alloc ?_ _)); exact BK142.out) : P := h
theorem z164_ {P : Prop} (h : P := by (with_reducible repeat (first | refine blk_drewN ?_ _ | refine blk_drew ?_ | refine blk_alloc ?_ _)); exact BK188.out) : P := h
theorem z165_ {P : Prop} (h : P := by (with_reducible repeat (first | refine blk_drewN ?_ _ | refine blk_drew ?_ | refine blk_alloc ?_ _)); exact BK270.out) : P := h
theorem z166_ {P : Prop} (h : P := by (with_reducible repeat (first | refine blk_drewN ?_ _ | refine blk_drew ?_ | refine blk_alloc ?_ _)); exact BK283.out) : P := h
theorem z167_ {P : Prop} (h : P := by (with_reducible repeat (first | refine blk_drewN ?_ _ | refine blk_drew ?_ | refine blk_alloc ?_ _)); exact BK345.out) : P := h
theorem z168_ {P : Prop} (h : P := by exact (by (with_reducible repeat (first | apply Kd.R_alloc | apply Kd.R_drewN | apply Kd.R_drew)); exact HO_3.out)) : P := h
theorem z169_ {P : Prop} (h : P := by exact (by (with_reducible repeat (first | apply Kd.R_alloc | apply Kd.R_drewN | apply Kd.R_drew)); exact HO_4.out)) : P := h
theorem z170_ {P : Prop} (h : P := by (with_reducible repeat (first | apply Kd.R_alloc | apply Kd.R_drewN | apply Kd.R_drew)); exact Kd.R_mono HO_473000.out (fun _ hk => ⟨hk.1.1, hk.1.2⟩)) : P := h
theorem z171_ {P : Prop} (h : P := by (with_reducible repeat (first | apply Kd.R_alloc | apply Kd.R_drewN | apply Kd.R_drew)); exact Kd.R_mono HO_469000.out (fun _ hk => ⟨hk.1, hk.2.1⟩)) : P := h
theorem z172_ {P : Prop} (h : P := by (with_reducible repeat (first | apply Kd.R_alloc | apply Kd.R_drewN | apply Kd.R_drew)); exact Kd.R_mono HO_478000.out (fun _ hk => ⟨hk.1, hk.2.1⟩)) : P := h
theorem z173_ {P : Prop} (h : P := by (with_reducible repeat (first | apply Kd.R_alloc | apply Kd.R_drewN | apply Kd.R_drew)); exact HO296.out) : P := h
theorem z174_ {P : Prop} (h : P := by (with_reducible repeat (first | apply Kd.R_alloc | apply Kd.R_drewN | apply Kd.R_drew)); exact HO481.out) : P := h
theorem z175_ {P : Prop} (h : P := by rintro w' ⟨s0, s1, s2, s4, s5, s6, s7, s8, s9, s10⟩; go_simp; with_reducible rfl) : P := h
theorem z176_ {P : Prop} (h : P := by have := HJ7.out; have := HK2.out; have := HJ34.out; omega) : P := h
theorem z177_ {P : Prop} (h : P := by rintro w' ⟨s0, s1, s2, s3, s4, s5, s6, s7, s8, s9, s10, s11, s12, s13⟩; go_simp; with_reducible rfl) : P := h
theorem z178_ {P : Prop} (h : P := by (try simp only [hl473000_60]); (with_reducible repeat (first | apply Kd.R_alloc | apply Kd.R_drewN | apply Kd.R_drew)); exact Kd.R_mono HO_469000.out (fun _ hk => ⟨hk.1.1.1, ⟨hk.1.1.2, hk.2⟩⟩)) : P := h
theorem z179_ {P : Prop} (h : P := by (try simp only [hl473000_60]); (with_reducible repeat (first | apply Kd.R_alloc | apply Kd.R_drewN | apply Kd.R_drew)); exact Kd.R_mono HO_473000.out (fun _ hk => ⟨hk.1.1.1, ⟨hk.1.1.2, hk.2⟩⟩)) : P := h
theorem z180_ {P : Prop} (h : P := by (try simp only [hl473000_60]); (with_reducible repeat (first | apply Kd.R_alloc | apply Kd.R_drewN | apply Kd.R_drew)); exact Kd.R_mono HO_478000.out (fun _ hk => ⟨hk.1.1.1, ⟨hk.1.1.2, hk.2⟩⟩)) : P := h
theorem z181_ {P : Prop} (h : P := by (try simp only [hl473000_60]); (with_reducible repeat (first | apply Kd.R_alloc | apply Kd.R_drewN | apply Kd.R_drew)); exact Kd.R_mono HO494.out (fun _ hk => ⟨hk.1.1.1.2, ⟨hk.1.1.2, hk.1.2⟩⟩)) : P := h
theorem z182_ {P : Prop} (h : P := by simp only [putAll, Act.put, List.setIfInBounds_toArray, List.set_cons_zero, List.set_cons_succ]) : P := h
theorem z183_ {P : Prop} (h : P := by exact (below_size (by repeat (first | (with_reducible first | exact HB.out | apply below_alloc | apply pw_below_drewN | apply below_drew1 | refine below_set ?_ GE113.out) | exact HB.out)))) : P := h
theorem z184_ {P : Prop} (h : P := by rintro w' ⟨s0, s1⟩; go_simp; with_reducible rfl) : P := h
theorem z185_ {P : Prop} (h : P := by repeat (first | exact (Kd.R_reads' HO_473000.out).2.2 | (with_reducible refine Kd.C_alloc ?_ _) | (with_reducible refine Kd.C_drewN ?_ _) | (with_reducible refine Kd.C_drew ?_))) : P := h
theorem z186_ {P : Prop} (h : P := by repeat (first | exact (Kd.R_reads' HO_469000.out).2.2 | (with_reducible refine Kd.C_alloc ?_ _) | (with_reducible refine Kd.C_drewN ?_ _) | (with_reducible refine Kd.C_drew ?_))) : P := h
theorem z187_ {P : Prop} (h : P := by (with_reducible repeat (first | refine blk_drewN ?_ _ | refine blk_drew ?_ | refine blk_alloc ?_ _)); exact BK184.out) : P := h
theorem z188_ {P : Prop} (h : P := by (with_reducible repeat (first | refine blk_drewN ?_ _ | refine blk_drew ?_ | refine blk_alloc ?_ _)); exact BK255.out) : P := h
theorem z189_ {P : Prop} (h : P := by (with_reducible repeat (first | refine blk_drewN ?_ _ | refine blk_drew ?_ | refine blk_alloc ?_ _)); exact BK341.out) : P := h
theorem z190_ {P : Prop} (h : P := by (with_reducible repeat (first | refine blk_drewN ?_ _ | refine blk_drew ?_ | refine blk_alloc ?_ _)); exact BK496.out) : P := h
theorem z191_ {P : Prop} (h : P := by exact (by repeat (first | (with_reducible first | exact HB.out | apply below_alloc | apply pw_below_drewN | apply below_drew1 | refine below_set ?_ GE113.out) | exact HB.out))) : P := h
theorem z192_ {P : Prop} (h : P := by repeat (first | exact (Kd.C_below HR1_0.out HB.out) | (with_reducible refine Kd.C_alloc ?_ _) | (with_reducible refine Kd.C_drewN ?_ _) | (with_reducible refine Kd.C_drew ?_))) : P := h
theorem z193_ {P : Prop} (h : P := by repeat (first | exact (Kd.R_reads' HO481.out).2.2 | (with_reducible refine Kd.C_alloc ?_ _) | (with_reducible refine Kd.C_drewN ?_ _) | (with_reducible refine Kd.C_drew ?_))) : P := h
theorem z194_ {P : Prop} (h : P := by rw [show t487.length = t473.length from (Kd.R_reads' HO_478000.out).1.symm]; exact (Kd.R_reads' HO_478000.out).2.1) : P := h
theorem z195_ {P : Prop} (h : P := by (with_reducible repeat (first | apply Kd.R_alloc | apply Kd.R_drewN | apply Kd.R_drew)); exact Kd.R_mono HO117.out (fun _ hk => ⟨hk.1.1.1.1, ⟨hk.2, ⟨hk.1.1.2, hk.1.2⟩⟩⟩)) : P := h
theorem z196_ {P : Prop} (h : P := by (with_reducible repeat (first | apply Kd.R_alloc | apply Kd.R_drewN | apply Kd.R_drew)); exact Kd.R_mono HO120.out (fun _ hk => ⟨hk.1.1.1.1, ⟨hk.2, ⟨hk.1.1.2, hk.1.2⟩⟩⟩)) : P := h
theorem z197_ {P : Prop} (h : P := by (with_reducible repeat (first | apply Kd.R_alloc | apply Kd.R_drewN | apply Kd.R_drew)); exact Kd.R_mono HO138.out (fun _ hk => ⟨hk.1.1.1.1, ⟨hk.2, ⟨hk.1.1.2, hk.1.2⟩⟩⟩)) : P := h
theorem z198_ {P : Prop} (h : P := by (with_reducible repeat (first | apply Kd.R_alloc | apply Kd.R_drewN | apply Kd.R_drew)); exact Kd.R_mono HO141.out (fun _ hk => ⟨hk.1.1.1.1, ⟨hk.2, ⟨hk.1.1.2, hk.1.2⟩⟩⟩)) : P := h
theorem z199_ {P : Prop} (h : P := by repeat (first | (with_reducible first | exact HK.out | apply Kept.alloc | apply Kept.drewN | apply Kept.drew | refine Kept.setCell ?_ (.inr GW447.out) _) | exact HK.out)) : P := h
theorem z200_ {P : Prop} (h : P := by (with_reducible repeat (first | apply Kd.R_alloc | apply Kd.R_drewN | apply Kd.R_drew)); exact Kd.R_mono HO_3.out (fun _ hk => ⟨hk.1.1.1, ⟨hk.1.2, ⟨hk.2, hk.1.1.2⟩⟩⟩)) : P := h
theorem z201_ {P : Prop} (h : P := by (with_reducible repeat (first | apply Kd.R_alloc | apply Kd.R_drewN | apply Kd.R_drew)); exact Kd.R_mono HO_4.out (fun _ hk => ⟨hk.1.1.1, ⟨hk.1.2, ⟨hk.2, hk.1.1.2⟩⟩⟩)) : P := h
theorem z202_ {P : Prop} (h : P := by (with_reducible repeat (first | apply Kd.R_alloc | apply Kd.R_drewN | apply Kd.R_drew)); exact Kd.R_mono HO_3.out (fun _ hk => ⟨hk.1.1.1, ⟨hk.2, ⟨hk.1.2, hk.1.1.2⟩⟩⟩)) : P := h
theorem z203_ {P : Prop} (h : P := by (with_reducible repeat (first | apply Kd.R_alloc | apply Kd.R_drewN | apply Kd.R_drew)); exact Kd.R_mono HO_4.out (fun _ hk => ⟨hk.1.1.1, ⟨hk.2, ⟨hk.1.2, hk.1.1.2⟩⟩⟩)) : P := h
theorem z204_ {P : Prop} (h : P := by repeat (first | (with_reducible first | exact HB.out | apply below_alloc | apply pw_below_drewN | apply below_drew1 | refine below_set ?_ GE101.out) | exact HB.out)) : P := h
theorem z205_ {P : Prop} (h : P := by repeat (first | (with_reducible first | exact HB.out | apply below_alloc | apply pw_below_drewN | apply below_drew1 | refine below_set ?_ GE447.out) | exact HB.out)) : P := h
theorem z206_ {P : Prop} (h : P := by repeat (first | (with_reducible first | exact HB.out | apply below_alloc | apply pw_below_drewN | apply below_drew1 | refine below_set ?_ GE457.out) | exact HB.out)) : P := h
theorem z207_ {P : Prop} (h : P := by (with_reducible repeat (first | apply Kd.R_alloc | apply Kd.R_drewN | apply Kd.R_drew)); exact HO_497000.out) : P := h
theorem z208_ {P : Prop} (h : P := by rintro w' ⟨s0, s1, s2, s3, s4, s5, s6, s7, s8, s9⟩; go_simp; with_reducible rfl) : P := h
theorem z209_ {P : Prop} (h : P := by (with_reducible repeat (first | apply Kd.R_alloc | apply Kd.R_drewN | apply Kd.R_drew)); exact HO123.out) : P := h
theorem z210_ {P : Prop} (h : P := by (with_reducible repeat (first | apply Kd.R_alloc | apply Kd.R_drewN | apply Kd.R_drew)); exact HO224.out) : P := h
theorem z211_ {P : Prop} (h : P := by exact (below_size (by repeat (first | (with_reducible first | exact HB.out | apply below_alloc | apply pw_below_drewN | apply below_drew1) | exact HB.out)))) : P := h
theorem z212_ {P : Prop} (h : P := by (with_reducible repeat (first | apply Kd.R_alloc | apply Kd.R_drewN | apply Kd.R_drew)); exact HO396.out) : P := h
theorem z213_ {P : Prop} (h : P := by (with_reducible repeat (first | apply Kd.V_alloc | apply Kd.V_drewN | apply Kd.V_drew)); exact HO416.out) : P := h
theorem z214_ {P : Prop} (h : P := by (with_reducible repeat (first | apply Kd.V_alloc | apply Kd.V_drewN | apply Kd.V_drew)); exact HO424.out) : P := h
theorem z215_ {P : Prop} (h : P := by (with_reducible repeat (first | apply Kd.R_alloc | apply Kd.R_drewN | apply Kd.R_drew)); exact HO466.out) : P := h
theorem z216_ {P : Prop} (h : P := by (with_reducible repeat (first | apply Kd.R_alloc | apply Kd.R_drewN | apply Kd.R_drew)); exact HO491.out) : P := h
theorem z217_ {P : Prop} (h : P := by rintro w' ⟨s0, s1, s2⟩; go_simp; with_reducible rfl) : P := h
theorem z218_ {P : Prop} (h : P := by repeat (first | (with_reducible first | exact HS.out.2.2.2.1 | apply below_alloc | apply pw_below_drewN | apply below_drew1) | exact HS.out.2.2.2.1)) : P := h
theorem z219_ {P : Prop} (h : P := by (try simp only [hl473000_60]); (with_reducible repeat (first | refine blk_drewN ?_ _ | refine blk_drew ?_ | refine blk_alloc ?_ _)); exact BK459.out) : P := h
theorem z220_ {P : Prop} (h : P := by (try simp only [hl473000_60]); (with_reducible repeat (first | refine blk_drewN ?_ _ | refine blk_drew ?_ | refine blk_alloc ?_ _)); exact BK468.out) : P := h
theorem z221_ {P : Prop} (h : P := by (try simp only [hl473000_60]); (with_reducible repeat (first | refine blk_drewN ?_ _ | refine blk_drew ?_ | refine blk_alloc ?_ _)); exact BK472.out) : P := h
theorem z222_ {P : Prop} (h : P := by (try simp only [hl473000_60]); (with_reducible repeat (first | refine blk_drewN ?_ _ | refine blk_drew ?_ | refine blk_alloc ?_ _)); exact BK477.out) : P := h
theorem z223_ {P : Prop} (h : P := by (try simp only [hl473000_60]); (with_reducible repeat (first | refine blk_drewN ?_ _ | refine blk_drew ?_ | refine blk_alloc ?_ _)); exact BK496.out) : P := h
theorem z224_ {P : Prop} (h : P := by exact (Kd.R_reads' HO_4.out).2.1) : P := h
theorem z225_ {P : Prop} (h : P := by exact (by repeat (first | (with_reducible first | exact HB.out | apply below_alloc | apply pw_below_drewN | apply below_drew1) | exact HB.out))) : P := h
theorem z226_ {P : Prop} (h : P := by (with_reducible repeat (first | apply Kd.R_alloc | apply Kd.R_drewN | apply Kd.R_drew)); exact Kd.R_mono HO466.out (fun _ hk => ⟨hk.1.2, hk.2⟩)) : P := h
theorem z227_ {P : Prop} (h : P := by (with_reducible repeat (first | apply Kd.R_alloc | apply Kd.R_drewN | apply Kd.R_drew)); exact Kd.R_mono HO471.out (fun _ hk => ⟨hk.1.2, hk.2⟩)) : P := h
theorem z228_ {P : Prop} (h : P := by (with_reducible repeat (first | apply Kd.R_alloc | apply Kd.R_drewN | apply Kd.R_drew)); exact Kd.R_mono HO475.out (fun _ hk => ⟨hk.1.2, hk.2⟩)) : P := h
theorem z229_ {P : Prop} (h : P := by have := HJ7.out; have := HK2.out; first | omega | exact Nat.le_refl _) : P := h
theorem z230_ {P : Prop} (h : P := by repeat (first | (with_reducible first | exact HS.out.2.2.1 | apply Kept.alloc | apply Kept.drewN | apply Kept.drew) | exact HS.out.2.2.1)) : P := h
theorem z231_ {P : Prop} (h : P := by (with_reducible repeat (first | apply Kd.R_alloc | apply Kd.R_drewN | apply Kd.R_drew)); exact Kd.R_mono HO_8.out (fun _ hk => hk.2)) : P := h
theorem z232_ {P : Prop} (h : P := by have := HK1.out; omega) : P := h
theorem z233_ {P : Prop} (h : P := by (with_reducible repeat (first | refine blk_drewN ?_ _ | refine blk_drew ?_ | refine blk_alloc ?_ _)); exact BK105.out) : P := h
theorem z234_ {P : Prop} (h : P := by (with_reducible repeat (first | refine blk_drewN ?_ _ | refine blk_drew ?_ | refine blk_alloc ?_ _)); exact BK324.out) : P := h
theorem z235_ {P : Prop} (h : P := by (with_reducible repeat (first | refine blk_drewN ?_ _ | refine blk_drew ?_ | refine blk_alloc ?_ _)); exact BK438.out) : P := h
theorem z236_ {P : Prop} (h : P := by exact (by (with_reducible repeat (first | apply Kd.R_alloc | apply Kd.R_drewN | apply Kd.R_drew)); exact HO_5.out)) : P := h
theorem z237_ {P : Prop} (h : P := by exact (by (with_reducible repeat (first | apply Kd.R_alloc | apply Kd.R_drewN | apply Kd.R_drew)); exact HO_9.out)) : P := h
theorem z238_ {P : Prop} (h : P := by (with_reducible repeat (first | apply Kd.R_alloc | apply Kd.R_drewN | apply Kd.R_drew)); exact HO117.out) : P := h
theorem z239_ {P : Prop} (h : P := by (with_reducible repeat (first | apply Kd.R_alloc | apply Kd.R_drewN | apply Kd.R_drew)); exact HO120.out) : P := h
theorem z240_ {P : Prop} (h : P := by (with_reducible repeat (first | apply Kd.R_alloc | apply Kd.R_drewN | apply Kd.R_drew)); exact HO138.out) : P := h
theorem z241_ {P : Prop} (h : P := by (with_reducible repeat (first | apply Kd.R_alloc | apply Kd.R_drewN | apply Kd.R_drew)); exact HO141.out) : P := h
theorem z242_ {P : Prop} (h : P := by (with_reducible repeat (first | apply Kd.R_alloc | apply Kd.R_drewN | apply Kd.R_drew)); exact HO230.out) : P := h
theorem z243_ {P : Prop} (h : P := by (with_reducible repeat (first | apply Kd.R_alloc | apply Kd.R_drewN | apply Kd.R_drew)); exact HO306.out) : P := h
theorem z244_ {P : Prop} (h : P := by (with_reducible repeat (first | apply Kd.R_alloc | apply Kd.R_drewN | apply Kd.R_drew)); exact HO309.out) : P := h
theorem z245_ {P : Prop} (h : P := by (with_reducible repeat (first | apply Kd.R_alloc | apply Kd.R_drewN | apply Kd.R_drew)); exact HO0_0.out) : P := h
theorem z246_ {P : Prop} (h : P := by (with_reducible repeat (first | apply Kd.R_alloc | apply Kd.R_drewN | apply Kd.R_drew)); exact HO471.out) : P := h
theorem z247_ {P : Prop} (h : P := by (with_reducible repeat (first | apply Kd.R_alloc | apply Kd.R_drewN | apply Kd.R_drew)); exact HS.out.1) : P := h
theorem z248_ {P : Prop} (h : P := by exact Kd.R_tight rfl HO_3.out) : P := h
theorem z249_ {P : Prop} (h : P := by exact Kd.R_tight rfl HO_4.out) : P := h
theorem z250_ {P : Prop} (h : P := by intro k_ e_ e2_; simp [Value.ownBlock] at e_ e2_) : P := h
theorem z251_ {P : Prop} (h : P := by exact (Kd.R_reads' HO_478000.out).2.1) : P := h
theorem z252_ {P : Prop} (h : P := by go_simp; rfl) : P := h
theorem z253_ {P : Prop} (h : P := by exact k62_mkM _ _ _ (⟨((rd_T72 l0_0 a1).f1), a2⟩ : S62)) : P := h
theorem z254_ {P : Prop} (h : P := by have := HJ11.out; first | omega | exact Nat.le_refl _) : P := h
theorem z255_ {P : Prop} (h : P := by have := HJ4.out; have := HK2.out; omega) : P := h
theorem z256_ {P : Prop} (h : P := by rw [← add_field _ _ 1 (by omega)]; exact hc 1 _ rfl) : P := h
theorem z257_ {P : Prop} (h : P := by exact (Kd.R_reads' HO_469000.out).2.1) : P := h
theorem z258_ {P : Prop} (h : P := by exact Kd.R_nil _ _ _ _ _) : P := h
theorem z259_ {P : Prop} (h : P := by exact (fun _ _ => trivial)) : P := h

theorem bnd_ {α β : Type} {o : Option α} {f : α → Option β} {r : β} (h : o.bind f = some r) : ∃ t, Aside0 (o = some t) ∧ f t = some r := by
 obtain ⟨t, h1, h2⟩ := Option.bind_eq_some_iff.mp h
 exact ⟨t, ⟨h1⟩, h2⟩
theorem ifs_ {α : Type} {p : Prop} [Decidable p] {a : Option α} {r : α} (h : (if p then a else none) = some r) : p ∧ a = some r := by
 by_cases c : p
 ·rw [if_pos c] at h; exact ⟨c, h⟩
 ·rw [if_neg c] at h; cases h
theorem ifd_ {α : Type} {p : Prop} [Decidable p] {a : Option α} {r : α} (h : (if p then a else none) = some r) : decide p = true ∧ a = some r := ⟨decide_eq_true (ifs_ h).1, (ifs_ h).2⟩
theorem ife_ {α : Type} {p : Prop} [Decidable p] {a : Option α} {r : α} (h : (if p then a else none) = some r) : p = True ∧ decide p = true ∧ a = some r := ⟨eq_true (ifs_ h).1, decide_eq_true (ifs_ h).1, (ifs_ h).2⟩
theorem ift_ {α : Type} {a b r : α} (h : (if true = true then a else b) = r) : a = r := h
theorem iff_ {α : Type} {a b r : α} (h : (if false = true then a else b) = r) : b = r := h
theorem odt_ {p : Prop} [Decidable p] (h : decide p = true := by first | (with_reducible assumption) | assumption) : p := of_decide_eq_true h
def fl_ (n k : Nat) : Array Bool := (List.replicate k true ++ List.replicate (n - k) false).toArray
def rl_ (b : Bool) : List Nat → List Bool
 | [] => []
 | n :: r => List.replicate n b ++ rl_ (!b) r
def ra_ (r : List Nat) : Array Bool := (rl_ true r).toArray
theorem fl_zero (n : Nat) : Array.replicate n false = fl_ n 0 := by simp [fl_]
section
variable {P : Program} {md : Region.Mode} {ops : Array Oper} {Q : Exit → Act → World → Prop} {S : World → Prop} {ds : List Nat} {T : Bool × List (List Nat × List Nat)} {n i fuel : Nat} {oi : Oper} {M : Tmp} {v : Value} {a a' : Act} {w : World}
theorem fl_start {id : Nat} (hm : P.follows .mixedOrders = true) (hn : ops.size = n) (hS : S w.drew) (h : S w.drew → wpAnyLast P .any ops Q S ds n (fl_ n 0) a w.drew) : (Code.region id ops true).wp P Q a w := start_ _ hm hn (fl_zero n) hS h
theorem zp_ (hT : Aside0 (rtab md ops = T)) (hi : ops[i]? = some oi) (hN : oi.dst = some M) (hc : anyT T (fl_ n i).toList (fl_ n (i + 1)).toList i = true) (hQ : ∀ c a w, Q (.panic c) (a.put oi.dst v) w → Q (.panic c) a w) (hw : Region.wanted oi (yielded ops a.tmps) = true)
  (h : wpAnyLast P md ops Q S ds fuel (fl_ n (i + 1)) a' w) (hy : ∀ w, (execOp a.eval oi).run P w = .ok (.value v) w := by intro w'; go_simp; with_reducible rfl) (ha : a.put (some M) v = a' := by simp only [Act.put, List.setIfInBounds_toArray, List.set_cons_zero, List.set_cons_succ, i64_w, i32_w]; rfl) : wpAnyLast P md ops Q S ds (fuel + 1) (fl_ n i) a w := pure_ _ hi hN (any_of hT.out hc) hQ (Or.inl ⟨hw, hy⟩) ha h
theorem zu_ (hT : Aside0 (rtab md ops = T)) (hi : ops[i]? = some oi) (hN : oi.dst = some M) (hc : anyT T (fl_ n i).toList (fl_ n (i + 1)).toList i = true) (hQ : ∀ c a w, Q (.panic c) (a.put oi.dst undef) w → Q (.panic c) a w) (hw : Region.wanted oi (yielded ops a.tmps) = false)
  (h : wpAnyLast P md ops Q S ds fuel (fl_ n (i + 1)) a' w) (ha : a.put (some M) undef = a' := by simp only [Act.put, List.setIfInBounds_toArray, List.set_cons_zero, List.set_cons_succ, i64_w, i32_w]; rfl) : wpAnyLast P md ops Q S ds (fuel + 1) (fl_ n i) a w := pure_ _ hi hN (any_of hT.out hc) hQ (Or.inr ⟨hw, rfl⟩) ha h
theorem zt_ {B : List Nat} (hT : Aside0 (rtab md ops = T)) (hB : Aside0 (waitsOk T.2 B = true)) (hi : ops[i]? = some oi) (hN : oi.dst = some M) (hc : takeW T B ds (fl_ n i).toList (fl_ n (i + 1)).toList i = true) (hQ : ∀ c a w, Q (.panic c) (a.put oi.dst v) w → Q (.panic c) a w) (hw : Region.wanted oi (yielded ops a.tmps) = true) (hS : S w)
  (h : wpAnyLast P md ops Q S ds fuel (fl_ n (i + 1)) a' w) (hy : ∀ w, S w → (execOp a.eval oi).run P w = .ok (.value v) w) (ha : a.put (some M) v = a' := by simp only [Act.put, List.setIfInBounds_toArray, List.set_cons_zero, List.set_cons_succ, i64_w, i32_w]; rfl) : wpAnyLast P md ops Q S ds (fuel + 1) (fl_ n i) a w := take_ _ hi hN (take_ofW hT.out hB.out hc) hQ (Or.inl ⟨hw, hy⟩) hS ha h
theorem zpg_ {l : Array Bool} (l' : Array Bool) (hT : Aside0 (rtab md ops = T)) (hi : ops[i]? = some oi) (hN : oi.dst = some M) (hc : anyT T l.toList l'.toList i = true) (hQ : ∀ c a w, Q (.panic c) (a.put oi.dst v) w → Q (.panic c) a w) (hw : Region.wanted oi (yielded ops a.tmps) = true)
  (h : wpAnyLast P md ops Q S ds fuel l' a' w) (hy : ∀ w, (execOp a.eval oi).run P w = .ok (.value v) w := by intro w'; go_simp; with_reducible rfl) (ha : a.put (some M) v = a' := by simp only [Act.put, List.setIfInBounds_toArray, List.set_cons_zero, List.set_cons_succ, i64_w, i32_w]; rfl) : wpAnyLast P md ops Q S ds (fuel + 1) l a w := pure_ _ hi hN (any_of hT.out hc) hQ (Or.inl ⟨hw, hy⟩) ha h
theorem zug_ {l : Array Bool} (l' : Array Bool) (hT : Aside0 (rtab md ops = T)) (hi : ops[i]? = some oi) (hN : oi.dst = some M) (hc : anyT T l.toList l'.toList i = true) (hQ : ∀ c a w, Q (.panic c) (a.put oi.dst undef) w → Q (.panic c) a w) (hw : Region.wanted oi (yielded ops a.tmps) = false)
  (h : wpAnyLast P md ops Q S ds fuel l' a' w) (ha : a.put (some M) undef = a' := by simp only [Act.put, List.setIfInBounds_toArray, List.set_cons_zero, List.set_cons_succ, i64_w, i32_w]; rfl) : wpAnyLast P md ops Q S ds (fuel + 1) l a w := pure_ _ hi hN (any_of hT.out hc) hQ (Or.inr ⟨hw, rfl⟩) ha h
theorem ztg_ {B : List Nat} {l : Array Bool} (l' : Array Bool) (hT : Aside0 (rtab md ops = T)) (hB : Aside0 (waitsOk T.2 B = true)) (hi : ops[i]? = some oi) (hN : oi.dst = some M) (hc : takeW T B ds l.toList l'.toList i = true) (hQ : ∀ c a w, Q (.panic c) (a.put oi.dst v) w → Q (.panic c) a w) (hw : Region.wanted oi (yielded ops a.tmps) = true) (hS : S w)
  (h : wpAnyLast P md ops Q S ds fuel l' a' w) (hy : ∀ w, S w → (execOp a.eval oi).run P w = .ok (.value v) w) (ha : a.put (some M) v = a' := by simp only [Act.put, List.setIfInBounds_toArray, List.set_cons_zero, List.set_cons_succ, i64_w, i32_w]; rfl) : wpAnyLast P md ops Q S ds (fuel + 1) l a w := take_ _ hi hN (take_ofW hT.out hB.out hc) hQ (Or.inl ⟨hw, hy⟩) hS ha h
theorem zn_ {l : Array Bool} {a0 : Act} {N : Option Tmp} (hN : N = some M) (h : wpAnyLast P md ops Q S ds fuel l a' w) (ha : a0.put (some M) v = a' := by simp only [Act.put, List.setIfInBounds_toArray, List.set_cons_zero, List.set_cons_succ, i64_w, i32_w]; rfl) : wpAnyLast P md ops Q S ds fuel l (a0.put N v) w := norm_ (hN ▸ ha) h
end



def errW : Option Int → Value
 | none => .nilIface
 | some c => .iface 0 (.int .i64 c)
theorem errW_none : errW none = .nilIface := rfl
theorem errW_some (c : Int) : errW (some c) = .iface 0 (.int .i64 c) := rfl

theorem info3 : (Try.prog.info? 3).map (fun i => (i.zero, i.size, i.bytes)) = some (some (.int .i64 0), 1, 8) := by kernel_rfl
theorem info4 : (Try.prog.info? 4).map (fun i => (i.zero, i.size, i.bytes)) = some (some (.bool false), 1, 1) := by kernel_rfl
theorem info49 : (Try.prog.info? 49).map (fun i => (i.zero, i.size, i.bytes)) = some (some (.slice none 0 0), 1, 24) := by kernel_rfl
theorem info62 : (Try.prog.info? 62).map (fun i => (i.zero, i.size, i.bytes)) = some (some (.agg #[(.int .i64 0), (.int .i64 0)]), 2, 16) := by kernel_rfl
theorem info72 : (Try.prog.info? 72).map (fun i => (i.zero, i.size, i.bytes)) = some (some (.agg #[(.bool false), (.int .i64 0), (.int .i64 0), (.int .i64 0), (.int .i64 0), (.int .i64 0), (.int .i64 0)]), 7, 56) := by kernel_rfl
-- the values' own types
/-! #### struct type 135 -/
structure S135 where
 f0 : Bool
 f1 : Int
 f2 : Int
 f3 : Int
 f4 : Int
 f5 : Int
 f6 : Int
def z135 : S135 := ⟨false, (0 : Int), (0 : Int), (0 : Int), (0 : Int), (0 : Int), (0 : Int)⟩
def k135 : Kd S135 := Kd.iso (Kd.pair Kd.bool (Kd.pair (Kd.int .i64) (Kd.pair (Kd.int .i64) (Kd.pair (Kd.int .i64) (Kd.pair (Kd.int .i64) (Kd.pair (Kd.int .i64) (Kd.int .i64))))))) (fun x : S135 => (x.f0, x.f1, x.f2, x.f3, x.f4, x.f5, x.f6))
theorem k135_heap : Kd.Heap k135 := Kd.heap_iso _ (Kd.heap_pair Kd.heap_bool (Kd.heap_pair (Kd.heap_int .i64) (Kd.heap_pair (Kd.heap_int .i64) (Kd.heap_pair (Kd.heap_int .i64) (Kd.heap_pair (Kd.heap_int .i64) (Kd.heap_pair (Kd.heap_int .i64) (Kd.heap_int .i64)))))))
theorem k135_open {w : World} {x : S135} {cs : List Value} (h : k135.K w x cs) : cs = [.bool x.f0, .int .i64 x.f1, .int .i64 x.f2, .int .i64 x.f3, .int .i64 x.f4, .int .i64 x.f5, .int .i64 x.f6] := by
 obtain ⟨_, _, rfl, rfl, ⟨_, _, rfl, rfl, ⟨_, _, rfl, rfl, ⟨_, _, rfl, rfl, ⟨_, _, rfl, rfl, ⟨_, _, rfl, rfl, rfl⟩⟩⟩⟩⟩⟩ := h
 exact rfl
theorem k135_openM {w : World} {base : Nat} {ok : Nat → Prop} {x : S135} {cs : List Value} (h : k135.M w base ok x cs) : cs = [.bool x.f0, .int .i64 x.f1, .int .i64 x.f2, .int .i64 x.f3, .int .i64 x.f4, .int .i64 x.f5, .int .i64 x.f6] := by
 obtain ⟨_, _, rfl, rfl, ⟨_, _, rfl, rfl, ⟨_, _, rfl, rfl, ⟨_, _, rfl, rfl, ⟨_, _, rfl, rfl, ⟨_, _, rfl, rfl, rfl⟩⟩⟩⟩⟩⟩ := h
 exact rfl
theorem k135_mk (w : World) (x : S135)  : k135.K w x [.bool x.f0, .int .i64 x.f1, .int .i64 x.f2, .int .i64 x.f3, .int .i64 x.f4, .int .i64 x.f5, .int .i64 x.f6] := ⟨[.bool x.f0], [.int .i64 x.f1, .int .i64 x.f2, .int .i64 x.f3, .int .i64 x.f4, .int .i64 x.f5, .int .i64 x.f6], rfl, rfl, ⟨[.int .i64 x.f1], [.int .i64 x.f2, .int .i64 x.f3, .int .i64 x.f4, .int .i64 x.f5, .int .i64 x.f6], rfl, rfl, ⟨[.int .i64 x.f2], [.int .i64 x.f3, .int .i64 x.f4, .int .i64 x.f5, .int .i64 x.f6], rfl, rfl, ⟨[.int .i64 x.f3], [.int .i64 x.f4, .int .i64 x.f5, .int .i64 x.f6], rfl, rfl, ⟨[.int .i64 x.f4], [.int .i64 x.f5, .int .i64 x.f6], rfl, rfl, ⟨[.int .i64 x.f5], [.int .i64 x.f6], rfl, rfl, rfl⟩⟩⟩⟩⟩⟩
theorem k135_mkM (w : World) (base : Nat) (ok : Nat → Prop) (x : S135)  : k135.M w base ok x [.bool x.f0, .int .i64 x.f1, .int .i64 x.f2, .int .i64 x.f3, .int .i64 x.f4, .int .i64 x.f5, .int .i64 x.f6] := ⟨[.bool x.f0], [.int .i64 x.f1, .int .i64 x.f2, .int .i64 x.f3, .int .i64 x.f4, .int .i64 x.f5, .int .i64 x.f6], rfl, rfl, ⟨[.int .i64 x.f1], [.int .i64 x.f2, .int .i64 x.f3, .int .i64 x.f4, .int .i64 x.f5, .int .i64 x.f6], rfl, rfl, ⟨[.int .i64 x.f2], [.int .i64 x.f3, .int .i64 x.f4, .int .i64 x.f5, .int .i64 x.f6], rfl, rfl, ⟨[.int .i64 x.f3], [.int .i64 x.f4, .int .i64 x.f5, .int .i64 x.f6], rfl, rfl, ⟨[.int .i64 x.f4], [.int .i64 x.f5, .int .i64 x.f6], rfl, rfl, ⟨[.int .i64 x.f5], [.int .i64 x.f6], rfl, rfl, rfl⟩⟩⟩⟩⟩⟩
theorem k135_mkF (W : World) (ok : Nat → Prop) (x : S135) : Kd.FK k135 W ok x [.bool x.f0, .int .i64 x.f1, .int .i64 x.f2, .int .i64 x.f3, .int .i64 x.f4, .int .i64 x.f5, .int .i64 x.f6] := fun W2 _ => k135_mk W2 x
def rd_T135 (xs : List S135) (i : Int) : S135 := xs.getD i.toNat z135
theorem at_T135 {w : World} {A : Option Addr} {n : Nat} {xs : List S135} (h : Kd.C k135 w A n xs) (i : Int) (h0 : 0 ≤ i) (h1 : i < n) : ∃ ad , A = some ad ∧ w.cell? (ad.add (i.toNat * 7)) = some (.bool (rd_T135 xs i).f0) ∧ w.cell? ⟨(ad.add (i.toNat * 7)).block, (ad.add (i.toNat * 7)).off + 1, none⟩ = some (.int .i64 (rd_T135 xs i).f1) ∧ w.cell? ⟨(ad.add (i.toNat * 7)).block, (ad.add (i.toNat * 7)).off + 2, none⟩ = some (.int .i64 (rd_T135 xs i).f2) ∧ w.cell? ⟨(ad.add (i.toNat * 7)).block, (ad.add (i.toNat * 7)).off + 3, none⟩ = some (.int .i64 (rd_T135 xs i).f3) ∧ w.cell? ⟨(ad.add (i.toNat * 7)).block, (ad.add (i.toNat * 7)).off + 4, none⟩ = some (.int .i64 (rd_T135 xs i).f4) ∧ w.cell? ⟨(ad.add (i.toNat * 7)).block, (ad.add (i.toNat * 7)).off + 5, none⟩ = some (.int .i64 (rd_T135 xs i).f5) ∧ w.cell? ⟨(ad.add (i.toNat * 7)).block, (ad.add (i.toNat * 7)).off + 6, none⟩ = some (.int .i64 (rd_T135 xs i).f6) := by
 obtain ⟨ad, c, e, _, hK, hc0⟩ := Kd.C_get h z135 i h0 h1
 have hc : ∀ j u, c[j]? = some u → w.cell? (ad.add (i.toNat * 7 + j)) = some u := hc0
 obtain rfl := k135_open hK
 exact ⟨ad, e, hc 0 _ rfl, z256_, by rw [← add_field _ _ 2 (by omega)]; exact hc 2 _ rfl, by rw [← add_field _ _ 3 (by omega)]; exact hc 3 _ rfl, by rw [← add_field _ _ 4 (by omega)]; exact hc 4 _ rfl, by rw [← add_field _ _ 5 (by omega)]; exact hc 5 _ rfl, by rw [← add_field _ _ 6 (by omega)]; exact hc 6 _ rfl⟩

/-! #### struct type 72 -/
structure S72 where
 f0 : Bool
 f1 : Int
 f2 : Int
 f3 : Int
 f4 : Int
 f5 : Int
 f6 : Int
def z72 : S72 := ⟨false, (0 : Int), (0 : Int), (0 : Int), (0 : Int), (0 : Int), (0 : Int)⟩
def k72 : Kd S72 := Kd.iso (Kd.pair Kd.bool (Kd.pair (Kd.int .i64) (Kd.pair (Kd.int .i64) (Kd.pair (Kd.int .i64) (Kd.pair (Kd.int .i64) (Kd.pair (Kd.int .i64) (Kd.int .i64))))))) (fun x : S72 => (x.f0, x.f1, x.f2, x.f3, x.f4, x.f5, x.f6))
theorem k72_heap : Kd.Heap k72 := Kd.heap_iso _ (Kd.heap_pair Kd.heap_bool (Kd.heap_pair (Kd.heap_int .i64) (Kd.heap_pair (Kd.heap_int .i64) (Kd.heap_pair (Kd.heap_int .i64) (Kd.heap_pair (Kd.heap_int .i64) (Kd.heap_pair (Kd.heap_int .i64) (Kd.heap_int .i64)))))))
theorem k72_open {w : World} {x : S72} {cs : List Value} (h : k72.K w x cs) : cs = [.bool x.f0, .int .i64 x.f1, .int .i64 x.f2, .int .i64 x.f3, .int .i64 x.f4, .int .i64 x.f5, .int .i64 x.f6] := by
 obtain ⟨_, _, rfl, rfl, ⟨_, _, rfl, rfl, ⟨_, _, rfl, rfl, ⟨_, _, rfl, rfl, ⟨_, _, rfl, rfl, ⟨_, _, rfl, rfl, rfl⟩⟩⟩⟩⟩⟩ := h
 exact rfl
theorem k72_openM {w : World} {base : Nat} {ok : Nat → Prop} {x : S72} {cs : List Value} (h : k72.M w base ok x cs) : cs = [.bool x.f0, .int .i64 x.f1, .int .i64 x.f2, .int .i64 x.f3, .int .i64 x.f4, .int .i64 x.f5, .int .i64 x.f6] := by
 obtain ⟨_, _, rfl, rfl, ⟨_, _, rfl, rfl, ⟨_, _, rfl, rfl, ⟨_, _, rfl, rfl, ⟨_, _, rfl, rfl, ⟨_, _, rfl, rfl, rfl⟩⟩⟩⟩⟩⟩ := h
 exact rfl
theorem k72_mk (w : World) (x : S72)  : k72.K w x [.bool x.f0, .int .i64 x.f1, .int .i64 x.f2, .int .i64 x.f3, .int .i64 x.f4, .int .i64 x.f5, .int .i64 x.f6] := ⟨[.bool x.f0], [.int .i64 x.f1, .int .i64 x.f2, .int .i64 x.f3, .int .i64 x.f4, .int .i64 x.f5, .int .i64 x.f6], rfl, rfl, ⟨[.int .i64 x.f1], [.int .i64 x.f2, .int .i64 x.f3, .int .i64 x.f4, .int .i64 x.f5, .int .i64 x.f6], rfl, rfl, ⟨[.int .i64 x.f2], [.int .i64 x.f3, .int .i64 x.f4, .int .i64 x.f5, .int .i64 x.f6], rfl, rfl, ⟨[.int .i64 x.f3], [.int .i64 x.f4, .int .i64 x.f5, .int .i64 x.f6], rfl, rfl, ⟨[.int .i64 x.f4], [.int .i64 x.f5, .int .i64 x.f6], rfl, rfl, ⟨[.int .i64 x.f5], [.int .i64 x.f6], rfl, rfl, rfl⟩⟩⟩⟩⟩⟩
theorem k72_mkM (w : World) (base : Nat) (ok : Nat → Prop) (x : S72)  : k72.M w base ok x [.bool x.f0, .int .i64 x.f1, .int .i64 x.f2, .int .i64 x.f3, .int .i64 x.f4, .int .i64 x.f5, .int .i64 x.f6] := ⟨[.bool x.f0], [.int .i64 x.f1, .int .i64 x.f2, .int .i64 x.f3, .int .i64 x.f4, .int .i64 x.f5, .int .i64 x.f6], rfl, rfl, ⟨[.int .i64 x.f1], [.int .i64 x.f2, .int .i64 x.f3, .int .i64 x.f4, .int .i64 x.f5, .int .i64 x.f6], rfl, rfl, ⟨[.int .i64 x.f2], [.int .i64 x.f3, .int .i64 x.f4, .int .i64 x.f5, .int .i64 x.f6], rfl, rfl, ⟨[.int .i64 x.f3], [.int .i64 x.f4, .int .i64 x.f5, .int .i64 x.f6], rfl, rfl, ⟨[.int .i64 x.f4], [.int .i64 x.f5, .int .i64 x.f6], rfl, rfl, ⟨[.int .i64 x.f5], [.int .i64 x.f6], rfl, rfl, rfl⟩⟩⟩⟩⟩⟩
theorem k72_mkF (W : World) (ok : Nat → Prop) (x : S72) : Kd.FK k72 W ok x [.bool x.f0, .int .i64 x.f1, .int .i64 x.f2, .int .i64 x.f3, .int .i64 x.f4, .int .i64 x.f5, .int .i64 x.f6] := fun W2 _ => k72_mk W2 x
def rd_T72 (xs : List S72) (i : Int) : S72 := xs.getD i.toNat z72
theorem at_T72 {w : World} {A : Option Addr} {n : Nat} {xs : List S72} (h : Kd.C k72 w A n xs) (i : Int) (h0 : 0 ≤ i) (h1 : i < n) : ∃ ad , A = some ad ∧ w.cell? (ad.add (i.toNat * 7)) = some (.bool (rd_T72 xs i).f0) ∧ w.cell? ⟨(ad.add (i.toNat * 7)).block, (ad.add (i.toNat * 7)).off + 1, none⟩ = some (.int .i64 (rd_T72 xs i).f1) ∧ w.cell? ⟨(ad.add (i.toNat * 7)).block, (ad.add (i.toNat * 7)).off + 2, none⟩ = some (.int .i64 (rd_T72 xs i).f2) ∧ w.cell? ⟨(ad.add (i.toNat * 7)).block, (ad.add (i.toNat * 7)).off + 3, none⟩ = some (.int .i64 (rd_T72 xs i).f3) ∧ w.cell? ⟨(ad.add (i.toNat * 7)).block, (ad.add (i.toNat * 7)).off + 4, none⟩ = some (.int .i64 (rd_T72 xs i).f4) ∧ w.cell? ⟨(ad.add (i.toNat * 7)).block, (ad.add (i.toNat * 7)).off + 5, none⟩ = some (.int .i64 (rd_T72 xs i).f5) ∧ w.cell? ⟨(ad.add (i.toNat * 7)).block, (ad.add (i.toNat * 7)).off + 6, none⟩ = some (.int .i64 (rd_T72 xs i).f6) := by
 obtain ⟨ad, c, e, _, hK, hc0⟩ := Kd.C_get h z72 i h0 h1
 have hc : ∀ j u, c[j]? = some u → w.cell? (ad.add (i.toNat * 7 + j)) = some u := hc0
 obtain rfl := k72_open hK
 exact ⟨ad, e, hc 0 _ rfl, z256_, by rw [← add_field _ _ 2 (by omega)]; exact hc 2 _ rfl, by rw [← add_field _ _ 3 (by omega)]; exact hc 3 _ rfl, by rw [← add_field _ _ 4 (by omega)]; exact hc 4 _ rfl, by rw [← add_field _ _ 5 (by omega)]; exact hc 5 _ rfl, by rw [← add_field _ _ 6 (by omega)]; exact hc 6 _ rfl⟩

/-! #### struct type 62 -/
structure S62 where
 f0 : Int
 f1 : Int
def z62 : S62 := ⟨(0 : Int), (0 : Int)⟩
def k62 : Kd S62 := Kd.iso (Kd.pair (Kd.int .i64) (Kd.int .i64)) (fun x : S62 => (x.f0, x.f1))
theorem k62_heap : Kd.Heap k62 := Kd.heap_iso _ (Kd.heap_pair (Kd.heap_int .i64) (Kd.heap_int .i64))
theorem k62_open {w : World} {x : S62} {cs : List Value} (h : k62.K w x cs) : cs = [.int .i64 x.f0, .int .i64 x.f1] := by
 obtain ⟨_, _, rfl, rfl, rfl⟩ := h
 exact rfl
theorem k62_openM {w : World} {base : Nat} {ok : Nat → Prop} {x : S62} {cs : List Value} (h : k62.M w base ok x cs) : cs = [.int .i64 x.f0, .int .i64 x.f1] := by
 obtain ⟨_, _, rfl, rfl, rfl⟩ := h
 exact rfl
theorem k62_mk (w : World) (x : S62)  : k62.K w x [.int .i64 x.f0, .int .i64 x.f1] := ⟨[.int .i64 x.f0], [.int .i64 x.f1], rfl, rfl, rfl⟩
theorem k62_mkM (w : World) (base : Nat) (ok : Nat → Prop) (x : S62)  : k62.M w base ok x [.int .i64 x.f0, .int .i64 x.f1] := ⟨[.int .i64 x.f0], [.int .i64 x.f1], rfl, rfl, rfl⟩
theorem k62_mkF (W : World) (ok : Nat → Prop) (x : S62) : Kd.FK k62 W ok x [.int .i64 x.f0, .int .i64 x.f1] := fun W2 _ => k62_mk W2 x
def rd_T62 (xs : List S62) (i : Int) : S62 := xs.getD i.toNat z62
theorem at_T62 {w : World} {A : Option Addr} {n : Nat} {xs : List S62} (h : Kd.C k62 w A n xs) (i : Int) (h0 : 0 ≤ i) (h1 : i < n) : ∃ ad , A = some ad ∧ w.cell? (ad.add (i.toNat * 2)) = some (.int .i64 (rd_T62 xs i).f0) ∧ w.cell? ⟨(ad.add (i.toNat * 2)).block, (ad.add (i.toNat * 2)).off + 1, none⟩ = some (.int .i64 (rd_T62 xs i).f1) := by
 obtain ⟨ad, c, e, _, hK, hc0⟩ := Kd.C_get h z62 i h0 h1
 have hc : ∀ j u, c[j]? = some u → w.cell? (ad.add (i.toNat * 2 + j)) = some u := hc0
 obtain rfl := k62_open hK
 exact ⟨ad, e, hc 0 _ rfl, z256_⟩

def rd_L5 (xs : List (List Int)) (i : Int) : (List Int) := xs.getD i.toNat ([] : List Int)
theorem at_L5 {w : World} {A : Option Addr} {n : Nat} {xs : List (List Int)} (h : Kd.C (Kd.slice 3 (Kd.int .i64)) w A n xs) (i : Int) (h0 : 0 ≤ i) (h1 : i < n) : ∃ ad A0 c0, A = some ad ∧ w.cell? (ad.add i.toNat) = some (.slice A0 (rd_L5 xs i).length c0) ∧ (rd_L5 xs i).length ≤ c0 ∧ (Kd.int .i64).C w A0 (rd_L5 xs i).length (rd_L5 xs i) := by
 obtain ⟨ad, c, e, _, hK, hc0⟩ := Kd.C_get h ([] : List Int) i h0 h1
 have hc : ∀ j u, c[j]? = some u → w.cell? (ad.add (i.toNat * 1 + j)) = some u := hc0
 obtain ⟨A0, c0, rfl, l0, g0⟩ := hK
 exact ⟨ad, A0, c0, e, by have hq := hc 0 _ rfl; rwa [Nat.mul_one, Nat.add_zero] at hq, l0, g0⟩

/-- a row of nodes with the box of its tree, as it stands -/
def LS (w0 w W : World) (P : Nat → Prop) (go n co gd : Nat) (X : List S72) : Prop :=
 Kd.R k72 72 W w0.heap.size (fun k_ => (P k_ ∨ w.heap.size ≤ k_)) (.slice (some ⟨go, 0, none⟩) n co) X ∧ W.heap[gd]? = some (.cells #[.slice (some ⟨go, 0, none⟩) n co] 28 (0, 0)) ∧ Kept w W P ∧ Below w0.heap.size w0 W ∧ n = X.length ∧ w.heap.size ≤ gd ∧ w0.heap.size ≤ gd
theorem LS.drew {w0 w W : World} {P : Nat → Prop} {go n co gd : Nat} {X : List S72} (h : LS w0 w W P go n co gd X) : LS w0 w W.drew P go n co gd X :=
 ⟨Kd.R_drew h.1, blk_drew h.2.1, Kept.drew h.2.2.1, below_drew1 h.2.2.2.1, h.2.2.2.2⟩
theorem LS.drewN {w0 w W : World} {P : Nat → Prop} {go n co gd : Nat} {X : List S72} (h : LS w0 w W P go n co gd X) (m : Nat) : LS w0 w (W.drewN m) P go n co gd X :=
 ⟨Kd.R_drewN h.1 m, blk_drewN h.2.1 m, Kept.drewN h.2.2.1 m, pw_below_drewN h.2.2.2.1 m, h.2.2.2.2⟩
theorem LS.box {w0 w W : World} {P : Nat → Prop} {go n co gd : Nat} {X : List S72} (h : LS w0 w W P go n co gd X) : W.cell? ⟨gd, 0, none⟩ = some (.slice (some ⟨go, 0, none⟩) n co) ∧ W.frozen? ⟨gd, 0, none⟩ = false :=
 ⟨(blk_cell h.2.1 0).trans rfl, blk_frozen h.2.1 0⟩
theorem LS.at_ {w0 w W : World} {P : Nat → Prop} {go n co gd : Nat} {X : List S72} (h : LS w0 w W P go n co gd X) (i : Int) (h0 : 0 ≤ i) (h1 : i < (X.length : Int)) :
  (W.cell? ⟨go, i.toNat * 7, none⟩ = some (.bool (rd_T72 X i).f0) ∧ W.cell? ⟨go, i.toNat * 7 + 1, none⟩ = some (.int .i64 (rd_T72 X i).f1) ∧ W.cell? ⟨go, i.toNat * 7 + 2, none⟩ = some (.int .i64 (rd_T72 X i).f2) ∧ W.cell? ⟨go, i.toNat * 7 + 3, none⟩ = some (.int .i64 (rd_T72 X i).f3) ∧ W.cell? ⟨go, i.toNat * 7 + 4, none⟩ = some (.int .i64 (rd_T72 X i).f4) ∧ W.cell? ⟨go, i.toNat * 7 + 5, none⟩ = some (.int .i64 (rd_T72 X i).f5) ∧ W.cell? ⟨go, i.toNat * 7 + 6, none⟩ = some (.int .i64 (rd_T72 X i).f6)) ∧
  W.frozen? ⟨go, i.toNat * 7, none⟩ = false ∧ W.frozen? ⟨go, i.toNat * 7 + 1, none⟩ = false ∧ W.frozen? ⟨go, i.toNat * 7 + 2, none⟩ = false ∧ W.frozen? ⟨go, i.toNat * 7 + 3, none⟩ = false ∧ W.frozen? ⟨go, i.toNat * 7 + 4, none⟩ = false ∧ W.frozen? ⟨go, i.toNat * 7 + 5, none⟩ = false ∧ W.frozen? ⟨go, i.toNat * 7 + 6, none⟩ = false := by
 obtain ⟨hR, hb, hk, hB, hn, hd⟩ := h
 obtain ⟨c, hcl, hM, hcc, hfr⟩ := Kd.R_elem hR z72 i h0 (by omega)
 obtain rfl := k72_openM hM
 exact ⟨⟨hcc 0 _ rfl, hcc 1 _ rfl, hcc 2 _ rfl, hcc 3 _ rfl, hcc 4 _ rfl, hcc 5 _ rfl, hcc 6 _ rfl⟩, hfr 0, hfr 1, hfr 2, hfr 3, hfr 4, hfr 5, hfr 6⟩
theorem below_cells {w0 : World} {g : Nat} (hg : w0.heap.size ≤ g) : ∀ (vs : List Value) (o : Nat) (W : World), Below w0.heap.size w0 W → Below w0.heap.size w0 (W.setCells g o vs)
 | [], _, _, h => h
 | _ :: r, o, _, h => below_cells hg r (o + 1) _ (below_set h hg)
theorem LS.put {w0 w W : World} {P : Nat → Prop} {go n co gd : Nat} {X : List S72} (h : LS w0 w W P go n co gd X) (i : Int) (h0 : 0 ≤ i) (h1 : i < (X.length : Int)) (j : Nat) (seg : List Value) (hj : j + seg.length ≤ 7) (x : S72)
  (hx : [.bool (rd_T72 X i).f0, .int .i64 (rd_T72 X i).f1, .int .i64 (rd_T72 X i).f2, .int .i64 (rd_T72 X i).f3, .int .i64 (rd_T72 X i).f4, .int .i64 (rd_T72 X i).f5, .int .i64 (rd_T72 X i).f6].take j ++ seg ++ [.bool (rd_T72 X i).f0, .int .i64 (rd_T72 X i).f1, .int .i64 (rd_T72 X i).f2, .int .i64 (rd_T72 X i).f3, .int .i64 (rd_T72 X i).f4, .int .i64 (rd_T72 X i).f5, .int .i64 (rd_T72 X i).f6].drop (j + seg.length) = [.bool x.f0, .int .i64 x.f1, .int .i64 x.f2, .int .i64 x.f3, .int .i64 x.f4, .int .i64 x.f5, .int .i64 x.f6]) :
  LS w0 w (W.setCells go (i.toNat * 7 + j) seg) P go n co gd (X.set i.toNat x) := by
 obtain ⟨hR, hb, hk, hB, hn, hd⟩ := h
 obtain ⟨c, hcl, hM, hcc, hfr⟩ := Kd.R_elem hR z72 i h0 (by omega)
 obtain rfl := k72_openM hM
 have hs := Kd.R_seg hR i h0 (by omega) (seg := seg) (j := j) hcl hcc hj (x' := x) (okp := fun k => (P k ∨ w.heap.size ≤ k) ∧ k ≠ go) (by rw [show (rd_T72 X i) = X.getD i.toNat z72 from rfl] at hx; rw [hx]; exact k72_mkM _ _ _ x) (fun _ hk => hk)
 have hne : some gd ≠ some go := Kd.R_ne hR hb (by decide)
 have hgo : P go ∨ w.heap.size ≤ go := hR.1 _ rfl
 obtain ⟨g, cap, e1, hg1, hg2, _⟩ := Kd.R_form hR (by omega)
 injection e1 with ea _ _
 injection ea with ea
 injection ea with ea _ _
 subst ea
 refine ⟨hs.1, blk_grown hb hs.2 hne, Kept.of_grown hs.2 hk (fun k_ e_ => by injection e_ with e_; subst e_; exact hgo), ?_, ?_, hd⟩
 ·exact below_cells hg1 _ _ _ hB
 ·rw [List.length_set]; exact hn
theorem ifd0_ {α : Type} {c : Prop} [Decidable c] {a : Option α} {r : α} (h : (if c then a else none) = some r) : c ∧ a = some r := by
 by_cases hc : c
 ·rw [if_pos hc] at h; exact ⟨hc, h⟩
 ·rw [if_neg hc] at h; cases h
/-- .. and the box of a copied node -/
def LN (w0 w W : World) (P : Nat → Prop) (go n co gd gn : Nat) (cs : Array Value) (X : List S72) : Prop :=
 LS w0 w W P go n co gd X ∧ W.heap[gn]? = some (.cells cs 72 (0, 0)) ∧ gn ≠ gd ∧ gn ≠ go ∧ w.heap.size ≤ gn ∧ w0.heap.size ≤ gn
theorem LN.drew {w0 w W : World} {P : Nat → Prop} {go n co gd gn : Nat} {cs : Array Value} {X : List S72} (h : LN w0 w W P go n co gd gn cs X) : LN w0 w W.drew P go n co gd gn cs X := ⟨h.1.drew, blk_drew h.2.1, h.2.2⟩
theorem LN.cell {w0 w W : World} {P : Nat → Prop} {go n co gd gn : Nat} {a0 a1 a2 a3 a4 a5 a6 : Value} {X : List S72} (h : LN w0 w W P go n co gd gn #[a0, a1, a2, a3, a4, a5, a6] X) :
  (W.cell? ⟨gn, 0, none⟩ = some a0 ∧ W.cell? ⟨gn, 1, none⟩ = some a1 ∧ W.cell? ⟨gn, 2, none⟩ = some a2 ∧ W.cell? ⟨gn, 3, none⟩ = some a3 ∧ W.cell? ⟨gn, 4, none⟩ = some a4 ∧ W.cell? ⟨gn, 5, none⟩ = some a5 ∧ W.cell? ⟨gn, 6, none⟩ = some a6) ∧
  W.frozen? ⟨gn, 0, none⟩ = false ∧ W.frozen? ⟨gn, 1, none⟩ = false ∧ W.frozen? ⟨gn, 2, none⟩ = false ∧ W.frozen? ⟨gn, 3, none⟩ = false ∧ W.frozen? ⟨gn, 4, none⟩ = false ∧ W.frozen? ⟨gn, 5, none⟩ = false ∧ W.frozen? ⟨gn, 6, none⟩ = false :=
 ⟨⟨(blk_cell h.2.1 0).trans rfl, (blk_cell h.2.1 1).trans rfl, (blk_cell h.2.1 2).trans rfl, (blk_cell h.2.1 3).trans rfl, (blk_cell h.2.1 4).trans rfl, (blk_cell h.2.1 5).trans rfl, (blk_cell h.2.1 6).trans rfl⟩, blk_frozen h.2.1 0, blk_frozen h.2.1 1, blk_frozen h.2.1 2, blk_frozen h.2.1 3, blk_frozen h.2.1 4, blk_frozen h.2.1 5, blk_frozen h.2.1 6⟩
theorem LN.setn {w0 w W : World} {P : Nat → Prop} {go n co gd gn : Nat} {cs : Array Value} {X : List S72} (h : LN w0 w W P go n co gd gn cs X) (j : Nat) (v : Value) : LN w0 w (W.setCell ⟨gn, j, none⟩ v) P go n co gd gn (cs.setIfInBounds j v) X := by
 obtain ⟨⟨hR, hb, hk, hB, hn, hd⟩, hc, h1, h2, h3, h4⟩ := h
 refine ⟨⟨?_, blk_far hb (Ne.symm h1) v, Kept.setCell hk (.inr h3) v, below_set hB h4, hn, hd⟩, blk_set hc j v, h1, h2, h3, h4⟩
 exact Kd.R_mono (Kd.R_far (p := ⟨gn, j, none⟩) (Kd.R_far1 hR rfl (g := gn) (by intro e; injection e with e; exact h2 e)) (fun _ hk => hk.2) v) (fun _ hk => hk.1)
theorem LN.put {w0 w W : World} {P : Nat → Prop} {go n co gd gn : Nat} {cs : Array Value} {X : List S72} (h : LN w0 w W P go n co gd gn cs X) (i : Int) (h0 : 0 ≤ i) (h1 : i < (X.length : Int)) (j : Nat) (seg : List Value) (hj : j + seg.length ≤ 7) (x : S72)
  (hx : [.bool (rd_T72 X i).f0, .int .i64 (rd_T72 X i).f1, .int .i64 (rd_T72 X i).f2, .int .i64 (rd_T72 X i).f3, .int .i64 (rd_T72 X i).f4, .int .i64 (rd_T72 X i).f5, .int .i64 (rd_T72 X i).f6].take j ++ seg ++ [.bool (rd_T72 X i).f0, .int .i64 (rd_T72 X i).f1, .int .i64 (rd_T72 X i).f2, .int .i64 (rd_T72 X i).f3, .int .i64 (rd_T72 X i).f4, .int .i64 (rd_T72 X i).f5, .int .i64 (rd_T72 X i).f6].drop (j + seg.length) = [.bool x.f0, .int .i64 x.f1, .int .i64 x.f2, .int .i64 x.f3, .int .i64 x.f4, .int .i64 x.f5, .int .i64 x.f6]) :
  LN w0 w (W.setCells go (i.toNat * 7 + j) seg) P go n co gd gn cs (X.set i.toNat x) :=
 ⟨h.1.put i h0 h1 j seg hj x hx, (setCells_far seg _ gn h.2.2.2.1).trans h.2.1, h.2.2⟩
theorem LS.start {w0 w w9 : World} {P : Nat → Prop} {go co gd : Nat} {X : List S72} (hR : Kd.R k72 72 w w0.heap.size (fun k_ => (P k_ ∨ w.heap.size ≤ k_)) (.slice (some ⟨go, 0, none⟩) X.length co) X) (hB : Below w0.heap.size w0 w)
  (hbox : w9.heap[gd]? = some (.cells #[.slice (some ⟨go, 0, none⟩) X.length co] 28 (0, 0))) (hb : Below w.heap.size w w9) (hg : gd = w.heap.size) : LS w0 w w9 P go X.length co gd X :=
 ⟨Kd.R_below hR hb, hbox, Kept.below (Kept.refl w P) hb, below_step hB hb, rfl, by omega, by have := hB.size; omega⟩
theorem LN.start {w0 w W w9 : World} {P : Nat → Prop} {go n co gd gn : Nat} {cs : Array Value} {X : List S72} (h : LS w0 w W P go n co gd X) (h0 : 0 < X.length) (hbox : w9.heap[gn]? = some (.cells cs 72 (0, 0))) (hb : Below W.heap.size W w9) (hg : gn = W.heap.size) : LN w0 w w9 P go n co gd gn cs X := by
 obtain ⟨hR, hd, hk, hB, hn, h1, h2⟩ := h
 subst hn
 obtain ⟨g, cap, e1, _, hg2, _⟩ := Kd.R_form hR h0
 injection e1 with ea _ _
 injection ea with ea
 injection ea with ea _ _
 have hl := blk_lt hd
 have hk1 := hk.1
 have hB1 := hB.size
 refine ⟨⟨Kd.R_below hR hb, blk_below hd hb, Kept.below hk hb, below_step hB hb, rfl, h1, h2⟩, hbox, by omega, by omega, by omega, by omega⟩
theorem LN.setp {w0 w W : World} {P : Nat → Prop} {go n co gd gn : Nat} {cs : Array Value} {X : List S72} (h : LN w0 w W P go n co gd gn cs X) (j : Nat) (v : Value) (cs' : Array Value) (e : cs.setIfInBounds j v = cs') : LN w0 w (W.setCell ⟨gn, j, none⟩ v) P go n co gd gn cs' X := e ▸ h.setn j v
theorem LN.all {w0 w W : World} {P : Nat → Prop} {go n co gd gn : Nat} {b0 b1 b2 b3 b4 b5 b6 : Value} {X : List S72} (h : LN w0 w W P go n co gd gn #[b0, b1, b2, b3, b4, b5, b6] X) (a0 a1 a2 a3 a4 a5 a6 : Value) : LN w0 w (W.setCells gn 0 [a0, a1, a2, a3, a4, a5, a6]) P go n co gd gn #[a0, a1, a2, a3, a4, a5, a6] X := by
 have h0 := h.setp 0 a0 #[a0, b1, b2, b3, b4, b5, b6] rfl
 have h1 := h0.setp 1 a1 #[a0, a1, b2, b3, b4, b5, b6] rfl
 have h2 := h1.setp 2 a2 #[a0, a1, a2, b3, b4, b5, b6] rfl
 have h3 := h2.setp 3 a3 #[a0, a1, a2, a3, b4, b5, b6] rfl
 have h4 := h3.setp 4 a4 #[a0, a1, a2, a3, a4, b5, b6] rfl
 have h5 := h4.setp 5 a5 #[a0, a1, a2, a3, a4, a5, b6] rfl
 exact h5.setp 6 a6 #[a0, a1, a2, a3, a4, a5, a6] rfl
/-- a node's first or last kid set -/
def setF (X : List S72) (p v : Int) : List S72 := X.set p.toNat ⟨(rd_T72 X p).f0, (rd_T72 X p).f1, (rd_T72 X p).f2, v, (rd_T72 X p).f4, (rd_T72 X p).f5, (rd_T72 X p).f6⟩
def setL (X : List S72) (p v : Int) : List S72 := X.set p.toNat ⟨(rd_T72 X p).f0, (rd_T72 X p).f1, (rd_T72 X p).f2, (rd_T72 X p).f3, v, (rd_T72 X p).f5, (rd_T72 X p).f6⟩
theorem LS.putF {w0 w W : World} {P : Nat → Prop} {go n co gd : Nat} {X : List S72} (h : LS w0 w W P go n co gd X) (i v : Int) (h0 : 0 ≤ i) (h1 : i < (X.length : Int)) : LS w0 w (W.setCell ⟨go, i.toNat * 7 + 3, none⟩ (.int .i64 v)) P go n co gd (setF X i v) := h.put i h0 h1 3 [.int .i64 v] (by decide : 3 + 1 ≤ 7) ⟨(rd_T72 X i).f0, (rd_T72 X i).f1, (rd_T72 X i).f2, v, (rd_T72 X i).f4, (rd_T72 X i).f5, (rd_T72 X i).f6⟩ rfl
theorem LS.putL {w0 w W : World} {P : Nat → Prop} {go n co gd : Nat} {X : List S72} (h : LS w0 w W P go n co gd X) (i v : Int) (h0 : 0 ≤ i) (h1 : i < (X.length : Int)) : LS w0 w (W.setCell ⟨go, i.toNat * 7 + 4, none⟩ (.int .i64 v)) P go n co gd (setL X i v) := h.put i h0 h1 4 [.int .i64 v] (by decide : 4 + 1 ≤ 7) ⟨(rd_T72 X i).f0, (rd_T72 X i).f1, (rd_T72 X i).f2, (rd_T72 X i).f3, v, (rd_T72 X i).f5, (rd_T72 X i).f6⟩ rfl
theorem LN.putF {w0 w W : World} {P : Nat → Prop} {go n co gd gn : Nat} {cs : Array Value} {X : List S72} (h : LN w0 w W P go n co gd gn cs X) (i v : Int) (h0 : 0 ≤ i) (h1 : i < (X.length : Int)) : LN w0 w (W.setCell ⟨go, i.toNat * 7 + 3, none⟩ (.int .i64 v)) P go n co gd gn cs (setF X i v) := h.put i h0 h1 3 [.int .i64 v] (by decide : 3 + 1 ≤ 7) ⟨(rd_T72 X i).f0, (rd_T72 X i).f1, (rd_T72 X i).f2, v, (rd_T72 X i).f4, (rd_T72 X i).f5, (rd_T72 X i).f6⟩ rfl
theorem LN.putL {w0 w W : World} {P : Nat → Prop} {go n co gd gn : Nat} {cs : Array Value} {X : List S72} (h : LN w0 w W P go n co gd gn cs X) (i v : Int) (h0 : 0 ≤ i) (h1 : i < (X.length : Int)) : LN w0 w (W.setCell ⟨go, i.toNat * 7 + 4, none⟩ (.int .i64 v)) P go n co gd gn cs (setL X i v) := h.put i h0 h1 4 [.int .i64 v] (by decide : 4 + 1 ≤ 7) ⟨(rd_T72 X i).f0, (rd_T72 X i).f1, (rd_T72 X i).f2, (rd_T72 X i).f3, v, (rd_T72 X i).f5, (rd_T72 X i).f6⟩ rfl
theorem setF_length (X : List S72) (p v : Int) : (setF X p v).length = X.length := List.length_set
theorem setL_length (X : List S72) (p v : Int) : (setL X p v).length = X.length := List.length_set
def setP (X : List S72) (p v : Int) : List S72 := X.set p.toNat ⟨(rd_T72 X p).f0, (rd_T72 X p).f1, v, (rd_T72 X p).f3, (rd_T72 X p).f4, (rd_T72 X p).f5, (rd_T72 X p).f6⟩
theorem LS.putP {w0 w W : World} {P : Nat → Prop} {go n co gd : Nat} {X : List S72} (h : LS w0 w W P go n co gd X) (i v : Int) (h0 : 0 ≤ i) (h1 : i < (X.length : Int)) : LS w0 w (W.setCell ⟨go, i.toNat * 7 + 2, none⟩ (.int .i64 v)) P go n co gd (setP X i v) := h.put i h0 h1 2 [.int .i64 v] (by decide : 2 + 1 ≤ 7) ⟨(rd_T72 X i).f0, (rd_T72 X i).f1, v, (rd_T72 X i).f3, (rd_T72 X i).f4, (rd_T72 X i).f5, (rd_T72 X i).f6⟩ rfl
theorem setP_length (X : List S72) (p v : Int) : (setP X p v).length = X.length := List.length_set
def setV (X : List S72) (p v : Int) : List S72 := X.set p.toNat ⟨(rd_T72 X p).f0, (rd_T72 X p).f1, (rd_T72 X p).f2, (rd_T72 X p).f3, (rd_T72 X p).f4, v, (rd_T72 X p).f6⟩
theorem LS.putV {w0 w W : World} {P : Nat → Prop} {go n co gd : Nat} {X : List S72} (h : LS w0 w W P go n co gd X) (i v : Int) (h0 : 0 ≤ i) (h1 : i < (X.length : Int)) : LS w0 w (W.setCell ⟨go, i.toNat * 7 + 5, none⟩ (.int .i64 v)) P go n co gd (setV X i v) := h.put i h0 h1 5 [.int .i64 v] (by decide : 5 + 1 ≤ 7) ⟨(rd_T72 X i).f0, (rd_T72 X i).f1, (rd_T72 X i).f2, (rd_T72 X i).f3, (rd_T72 X i).f4, v, (rd_T72 X i).f6⟩ rfl
theorem setV_length (X : List S72) (p v : Int) : (setV X p v).length = X.length := List.length_set
def setN (X : List S72) (p v : Int) : List S72 := X.set p.toNat ⟨(rd_T72 X p).f0, (rd_T72 X p).f1, (rd_T72 X p).f2, (rd_T72 X p).f3, (rd_T72 X p).f4, (rd_T72 X p).f5, v⟩
theorem LS.putN {w0 w W : World} {P : Nat → Prop} {go n co gd : Nat} {X : List S72} (h : LS w0 w W P go n co gd X) (i v : Int) (h0 : 0 ≤ i) (h1 : i < (X.length : Int)) : LS w0 w (W.setCell ⟨go, i.toNat * 7 + 6, none⟩ (.int .i64 v)) P go n co gd (setN X i v) := h.put i h0 h1 6 [.int .i64 v] (by decide : 6 + 1 ≤ 7) ⟨(rd_T72 X i).f0, (rd_T72 X i).f1, (rd_T72 X i).f2, (rd_T72 X i).f3, (rd_T72 X i).f4, (rd_T72 X i).f5, v⟩ rfl
theorem setN_length (X : List S72) (p v : Int) : (setN X p v).length = X.length := List.length_set

theorem ato135_ {w : World} {A : Option Addr} {n : Nat} {xs : List S135} (h : Aside0 (Kd.C k135 w A n xs)) (i : Int) (h0 : decide (0 ≤ i) = true := by first | (with_reducible assumption) | assumption) (h1 : decide (i < (n : Int)) = true := by first | (with_reducible assumption) | assumption) : (0 ≤ i) = True ∧ (i < (n : Int)) = True ∧ ∃ ad, A = some ad ∧ w.cell? (ad.add (i.toNat * 7)) = some (.bool (rd_T135 xs i).f0) ∧ w.cell? ⟨(ad.add (i.toNat * 7)).block, (ad.add (i.toNat * 7)).off + 1, none⟩ = some (.int .i64 (rd_T135 xs i).f1) ∧ w.cell? ⟨(ad.add (i.toNat * 7)).block, (ad.add (i.toNat * 7)).off + 2, none⟩ = some (.int .i64 (rd_T135 xs i).f2) ∧ w.cell? ⟨(ad.add (i.toNat * 7)).block, (ad.add (i.toNat * 7)).off + 3, none⟩ = some (.int .i64 (rd_T135 xs i).f3) ∧ w.cell? ⟨(ad.add (i.toNat * 7)).block, (ad.add (i.toNat * 7)).off + 4, none⟩ = some (.int .i64 (rd_T135 xs i).f4) ∧ w.cell? ⟨(ad.add (i.toNat * 7)).block, (ad.add (i.toNat * 7)).off + 5, none⟩ = some (.int .i64 (rd_T135 xs i).f5) ∧ w.cell? ⟨(ad.add (i.toNat * 7)).block, (ad.add (i.toNat * 7)).off + 6, none⟩ = some (.int .i64 (rd_T135 xs i).f6) := by
 have a := of_decide_eq_true h0
 have b := of_decide_eq_true h1
 exact ⟨eq_true a, eq_true b, at_T135 h.out i a b⟩
theorem atb135_ {w w' : World} {A : Option Addr} {n : Nat} {xs : List S135} (h : Aside0 (Kd.C k135 w A n xs)) (hb : Aside0 (Below w.heap.size w w')) (i : Int) (h0 : decide (0 ≤ i) = true := by first | (with_reducible assumption) | assumption) (h1 : decide (i < (n : Int)) = true := by first | (with_reducible assumption) | assumption) : (0 ≤ i) = True ∧ (i < (n : Int)) = True ∧ ∃ ad, A = some ad ∧ w'.cell? (ad.add (i.toNat * 7)) = some (.bool (rd_T135 xs i).f0) ∧ w'.cell? ⟨(ad.add (i.toNat * 7)).block, (ad.add (i.toNat * 7)).off + 1, none⟩ = some (.int .i64 (rd_T135 xs i).f1) ∧ w'.cell? ⟨(ad.add (i.toNat * 7)).block, (ad.add (i.toNat * 7)).off + 2, none⟩ = some (.int .i64 (rd_T135 xs i).f2) ∧ w'.cell? ⟨(ad.add (i.toNat * 7)).block, (ad.add (i.toNat * 7)).off + 3, none⟩ = some (.int .i64 (rd_T135 xs i).f3) ∧ w'.cell? ⟨(ad.add (i.toNat * 7)).block, (ad.add (i.toNat * 7)).off + 4, none⟩ = some (.int .i64 (rd_T135 xs i).f4) ∧ w'.cell? ⟨(ad.add (i.toNat * 7)).block, (ad.add (i.toNat * 7)).off + 5, none⟩ = some (.int .i64 (rd_T135 xs i).f5) ∧ w'.cell? ⟨(ad.add (i.toNat * 7)).block, (ad.add (i.toNat * 7)).off + 6, none⟩ = some (.int .i64 (rd_T135 xs i).f6) := by
 have a := of_decide_eq_true h0
 have b := of_decide_eq_true h1
 obtain ⟨ad, e, x0, x1, x2, x3, x4, x5, x6⟩ := at_T135 h.out i a b
 exact ⟨eq_true a, eq_true b, ad, e, (hb.out.cell (World.block_lt_of_cell? w _ x0)).trans x0, (hb.out.cell (World.block_lt_of_cell? w _ x1)).trans x1, (hb.out.cell (World.block_lt_of_cell? w _ x2)).trans x2, (hb.out.cell (World.block_lt_of_cell? w _ x3)).trans x3, (hb.out.cell (World.block_lt_of_cell? w _ x4)).trans x4, (hb.out.cell (World.block_lt_of_cell? w _ x5)).trans x5, (hb.out.cell (World.block_lt_of_cell? w _ x6)).trans x6⟩
theorem atw135_ {w w' : World} {A : Option Addr} {n : Nat} {xs : List S135} (h : Aside0 (Kd.C k135 w A n xs)) (hb : Aside0 (Below w.heap.size w w')) (i : Int) (h0 : decide (0 ≤ i) = true := by first | (with_reducible assumption) | assumption) (h1 : decide (i < (n : Int)) = true := by first | (with_reducible assumption) | assumption) : (0 ≤ i) = True ∧ (i < (n : Int)) = True ∧ ∃ ad, A = some ad ∧ w.cell? (ad.add (i.toNat * 7)) = some (.bool (rd_T135 xs i).f0) ∧ w.cell? ⟨(ad.add (i.toNat * 7)).block, (ad.add (i.toNat * 7)).off + 1, none⟩ = some (.int .i64 (rd_T135 xs i).f1) ∧ w.cell? ⟨(ad.add (i.toNat * 7)).block, (ad.add (i.toNat * 7)).off + 2, none⟩ = some (.int .i64 (rd_T135 xs i).f2) ∧ w.cell? ⟨(ad.add (i.toNat * 7)).block, (ad.add (i.toNat * 7)).off + 3, none⟩ = some (.int .i64 (rd_T135 xs i).f3) ∧ w.cell? ⟨(ad.add (i.toNat * 7)).block, (ad.add (i.toNat * 7)).off + 4, none⟩ = some (.int .i64 (rd_T135 xs i).f4) ∧ w.cell? ⟨(ad.add (i.toNat * 7)).block, (ad.add (i.toNat * 7)).off + 5, none⟩ = some (.int .i64 (rd_T135 xs i).f5) ∧ w.cell? ⟨(ad.add (i.toNat * 7)).block, (ad.add (i.toNat * 7)).off + 6, none⟩ = some (.int .i64 (rd_T135 xs i).f6) ∧ w'.cell? (ad.add (i.toNat * 7)) = some (.bool (rd_T135 xs i).f0) ∧ w'.cell? ⟨(ad.add (i.toNat * 7)).block, (ad.add (i.toNat * 7)).off + 1, none⟩ = some (.int .i64 (rd_T135 xs i).f1) ∧ w'.cell? ⟨(ad.add (i.toNat * 7)).block, (ad.add (i.toNat * 7)).off + 2, none⟩ = some (.int .i64 (rd_T135 xs i).f2) ∧ w'.cell? ⟨(ad.add (i.toNat * 7)).block, (ad.add (i.toNat * 7)).off + 3, none⟩ = some (.int .i64 (rd_T135 xs i).f3) ∧ w'.cell? ⟨(ad.add (i.toNat * 7)).block, (ad.add (i.toNat * 7)).off + 4, none⟩ = some (.int .i64 (rd_T135 xs i).f4) ∧ w'.cell? ⟨(ad.add (i.toNat * 7)).block, (ad.add (i.toNat * 7)).off + 5, none⟩ = some (.int .i64 (rd_T135 xs i).f5) ∧ w'.cell? ⟨(ad.add (i.toNat * 7)).block, (ad.add (i.toNat * 7)).off + 6, none⟩ = some (.int .i64 (rd_T135 xs i).f6) := by
 have a := of_decide_eq_true h0
 have b := of_decide_eq_true h1
 obtain ⟨ad, e, x0, x1, x2, x3, x4, x5, x6⟩ := at_T135 h.out i a b
 exact ⟨eq_true a, eq_true b, ad, e, x0, x1, x2, x3, x4, x5, x6, (hb.out.cell (World.block_lt_of_cell? w _ x0)).trans x0, (hb.out.cell (World.block_lt_of_cell? w _ x1)).trans x1, (hb.out.cell (World.block_lt_of_cell? w _ x2)).trans x2, (hb.out.cell (World.block_lt_of_cell? w _ x3)).trans x3, (hb.out.cell (World.block_lt_of_cell? w _ x4)).trans x4, (hb.out.cell (World.block_lt_of_cell? w _ x5)).trans x5, (hb.out.cell (World.block_lt_of_cell? w _ x6)).trans x6⟩
theorem ato72_ {w : World} {A : Option Addr} {n : Nat} {xs : List S72} (h : Aside0 (Kd.C k72 w A n xs)) (i : Int) (h0 : decide (0 ≤ i) = true := by first | (with_reducible assumption) | assumption) (h1 : decide (i < (n : Int)) = true := by first | (with_reducible assumption) | assumption) : (0 ≤ i) = True ∧ (i < (n : Int)) = True ∧ ∃ ad, A = some ad ∧ w.cell? (ad.add (i.toNat * 7)) = some (.bool (rd_T72 xs i).f0) ∧ w.cell? ⟨(ad.add (i.toNat * 7)).block, (ad.add (i.toNat * 7)).off + 1, none⟩ = some (.int .i64 (rd_T72 xs i).f1) ∧ w.cell? ⟨(ad.add (i.toNat * 7)).block, (ad.add (i.toNat * 7)).off + 2, none⟩ = some (.int .i64 (rd_T72 xs i).f2) ∧ w.cell? ⟨(ad.add (i.toNat * 7)).block, (ad.add (i.toNat * 7)).off + 3, none⟩ = some (.int .i64 (rd_T72 xs i).f3) ∧ w.cell? ⟨(ad.add (i.toNat * 7)).block, (ad.add (i.toNat * 7)).off + 4, none⟩ = some (.int .i64 (rd_T72 xs i).f4) ∧ w.cell? ⟨(ad.add (i.toNat * 7)).block, (ad.add (i.toNat * 7)).off + 5, none⟩ = some (.int .i64 (rd_T72 xs i).f5) ∧ w.cell? ⟨(ad.add (i.toNat * 7)).block, (ad.add (i.toNat * 7)).off + 6, none⟩ = some (.int .i64 (rd_T72 xs i).f6) := by
 have a := of_decide_eq_true h0
 have b := of_decide_eq_true h1
 exact ⟨eq_true a, eq_true b, at_T72 h.out i a b⟩
theorem atb72_ {w w' : World} {A : Option Addr} {n : Nat} {xs : List S72} (h : Aside0 (Kd.C k72 w A n xs)) (hb : Aside0 (Below w.heap.size w w')) (i : Int) (h0 : decide (0 ≤ i) = true := by first | (with_reducible assumption) | assumption) (h1 : decide (i < (n : Int)) = true := by first | (with_reducible assumption) | assumption) : (0 ≤ i) = True ∧ (i < (n : Int)) = True ∧ ∃ ad, A = some ad ∧ w'.cell? (ad.add (i.toNat * 7)) = some (.bool (rd_T72 xs i).f0) ∧ w'.cell? ⟨(ad.add (i.toNat * 7)).block, (ad.add (i.toNat * 7)).off + 1, none⟩ = some (.int .i64 (rd_T72 xs i).f1) ∧ w'.cell? ⟨(ad.add (i.toNat * 7)).block, (ad.add (i.toNat * 7)).off + 2, none⟩ = some (.int .i64 (rd_T72 xs i).f2) ∧ w'.cell? ⟨(ad.add (i.toNat * 7)).block, (ad.add (i.toNat * 7)).off + 3, none⟩ = some (.int .i64 (rd_T72 xs i).f3) ∧ w'.cell? ⟨(ad.add (i.toNat * 7)).block, (ad.add (i.toNat * 7)).off + 4, none⟩ = some (.int .i64 (rd_T72 xs i).f4) ∧ w'.cell? ⟨(ad.add (i.toNat * 7)).block, (ad.add (i.toNat * 7)).off + 5, none⟩ = some (.int .i64 (rd_T72 xs i).f5) ∧ w'.cell? ⟨(ad.add (i.toNat * 7)).block, (ad.add (i.toNat * 7)).off + 6, none⟩ = some (.int .i64 (rd_T72 xs i).f6) := by
 have a := of_decide_eq_true h0
 have b := of_decide_eq_true h1
 obtain ⟨ad, e, x0, x1, x2, x3, x4, x5, x6⟩ := at_T72 h.out i a b
 exact ⟨eq_true a, eq_true b, ad, e, (hb.out.cell (World.block_lt_of_cell? w _ x0)).trans x0, (hb.out.cell (World.block_lt_of_cell? w _ x1)).trans x1, (hb.out.cell (World.block_lt_of_cell? w _ x2)).trans x2, (hb.out.cell (World.block_lt_of_cell? w _ x3)).trans x3, (hb.out.cell (World.block_lt_of_cell? w _ x4)).trans x4, (hb.out.cell (World.block_lt_of_cell? w _ x5)).trans x5, (hb.out.cell (World.block_lt_of_cell? w _ x6)).trans x6⟩
theorem atw72_ {w w' : World} {A : Option Addr} {n : Nat} {xs : List S72} (h : Aside0 (Kd.C k72 w A n xs)) (hb : Aside0 (Below w.heap.size w w')) (i : Int) (h0 : decide (0 ≤ i) = true := by first | (with_reducible assumption) | assumption) (h1 : decide (i < (n : Int)) = true := by first | (with_reducible assumption) | assumption) : (0 ≤ i) = True ∧ (i < (n : Int)) = True ∧ ∃ ad, A = some ad ∧ w.cell? (ad.add (i.toNat * 7)) = some (.bool (rd_T72 xs i).f0) ∧ w.cell? ⟨(ad.add (i.toNat * 7)).block, (ad.add (i.toNat * 7)).off + 1, none⟩ = some (.int .i64 (rd_T72 xs i).f1) ∧ w.cell? ⟨(ad.add (i.toNat * 7)).block, (ad.add (i.toNat * 7)).off + 2, none⟩ = some (.int .i64 (rd_T72 xs i).f2) ∧ w.cell? ⟨(ad.add (i.toNat * 7)).block, (ad.add (i.toNat * 7)).off + 3, none⟩ = some (.int .i64 (rd_T72 xs i).f3) ∧ w.cell? ⟨(ad.add (i.toNat * 7)).block, (ad.add (i.toNat * 7)).off + 4, none⟩ = some (.int .i64 (rd_T72 xs i).f4) ∧ w.cell? ⟨(ad.add (i.toNat * 7)).block, (ad.add (i.toNat * 7)).off + 5, none⟩ = some (.int .i64 (rd_T72 xs i).f5) ∧ w.cell? ⟨(ad.add (i.toNat * 7)).block, (ad.add (i.toNat * 7)).off + 6, none⟩ = some (.int .i64 (rd_T72 xs i).f6) ∧ w'.cell? (ad.add (i.toNat * 7)) = some (.bool (rd_T72 xs i).f0) ∧ w'.cell? ⟨(ad.add (i.toNat * 7)).block, (ad.add (i.toNat * 7)).off + 1, none⟩ = some (.int .i64 (rd_T72 xs i).f1) ∧ w'.cell? ⟨(ad.add (i.toNat * 7)).block, (ad.add (i.toNat * 7)).off + 2, none⟩ = some (.int .i64 (rd_T72 xs i).f2) ∧ w'.cell? ⟨(ad.add (i.toNat * 7)).block, (ad.add (i.toNat * 7)).off + 3, none⟩ = some (.int .i64 (rd_T72 xs i).f3) ∧ w'.cell? ⟨(ad.add (i.toNat * 7)).block, (ad.add (i.toNat * 7)).off + 4, none⟩ = some (.int .i64 (rd_T72 xs i).f4) ∧ w'.cell? ⟨(ad.add (i.toNat * 7)).block, (ad.add (i.toNat * 7)).off + 5, none⟩ = some (.int .i64 (rd_T72 xs i).f5) ∧ w'.cell? ⟨(ad.add (i.toNat * 7)).block, (ad.add (i.toNat * 7)).off + 6, none⟩ = some (.int .i64 (rd_T72 xs i).f6) := by
 have a := of_decide_eq_true h0
 have b := of_decide_eq_true h1
 obtain ⟨ad, e, x0, x1, x2, x3, x4, x5, x6⟩ := at_T72 h.out i a b
 exact ⟨eq_true a, eq_true b, ad, e, x0, x1, x2, x3, x4, x5, x6, (hb.out.cell (World.block_lt_of_cell? w _ x0)).trans x0, (hb.out.cell (World.block_lt_of_cell? w _ x1)).trans x1, (hb.out.cell (World.block_lt_of_cell? w _ x2)).trans x2, (hb.out.cell (World.block_lt_of_cell? w _ x3)).trans x3, (hb.out.cell (World.block_lt_of_cell? w _ x4)).trans x4, (hb.out.cell (World.block_lt_of_cell? w _ x5)).trans x5, (hb.out.cell (World.block_lt_of_cell? w _ x6)).trans x6⟩
theorem ato62_ {w : World} {A : Option Addr} {n : Nat} {xs : List S62} (h : Aside0 (Kd.C k62 w A n xs)) (i : Int) (h0 : decide (0 ≤ i) = true := by first | (with_reducible assumption) | assumption) (h1 : decide (i < (n : Int)) = true := by first | (with_reducible assumption) | assumption) : (0 ≤ i) = True ∧ (i < (n : Int)) = True ∧ ∃ ad, A = some ad ∧ w.cell? (ad.add (i.toNat * 2)) = some (.int .i64 (rd_T62 xs i).f0) ∧ w.cell? ⟨(ad.add (i.toNat * 2)).block, (ad.add (i.toNat * 2)).off + 1, none⟩ = some (.int .i64 (rd_T62 xs i).f1) := by
 have a := of_decide_eq_true h0
 have b := of_decide_eq_true h1
 exact ⟨eq_true a, eq_true b, at_T62 h.out i a b⟩
theorem atb62_ {w w' : World} {A : Option Addr} {n : Nat} {xs : List S62} (h : Aside0 (Kd.C k62 w A n xs)) (hb : Aside0 (Below w.heap.size w w')) (i : Int) (h0 : decide (0 ≤ i) = true := by first | (with_reducible assumption) | assumption) (h1 : decide (i < (n : Int)) = true := by first | (with_reducible assumption) | assumption) : (0 ≤ i) = True ∧ (i < (n : Int)) = True ∧ ∃ ad, A = some ad ∧ w'.cell? (ad.add (i.toNat * 2)) = some (.int .i64 (rd_T62 xs i).f0) ∧ w'.cell? ⟨(ad.add (i.toNat * 2)).block, (ad.add (i.toNat * 2)).off + 1, none⟩ = some (.int .i64 (rd_T62 xs i).f1) := by
 have a := of_decide_eq_true h0
 have b := of_decide_eq_true h1
 obtain ⟨ad, e, x0, x1⟩ := at_T62 h.out i a b
 exact ⟨eq_true a, eq_true b, ad, e, (hb.out.cell (World.block_lt_of_cell? w _ x0)).trans x0, (hb.out.cell (World.block_lt_of_cell? w _ x1)).trans x1⟩
theorem atw62_ {w w' : World} {A : Option Addr} {n : Nat} {xs : List S62} (h : Aside0 (Kd.C k62 w A n xs)) (hb : Aside0 (Below w.heap.size w w')) (i : Int) (h0 : decide (0 ≤ i) = true := by first | (with_reducible assumption) | assumption) (h1 : decide (i < (n : Int)) = true := by first | (with_reducible assumption) | assumption) : (0 ≤ i) = True ∧ (i < (n : Int)) = True ∧ ∃ ad, A = some ad ∧ w.cell? (ad.add (i.toNat * 2)) = some (.int .i64 (rd_T62 xs i).f0) ∧ w.cell? ⟨(ad.add (i.toNat * 2)).block, (ad.add (i.toNat * 2)).off + 1, none⟩ = some (.int .i64 (rd_T62 xs i).f1) ∧ w'.cell? (ad.add (i.toNat * 2)) = some (.int .i64 (rd_T62 xs i).f0) ∧ w'.cell? ⟨(ad.add (i.toNat * 2)).block, (ad.add (i.toNat * 2)).off + 1, none⟩ = some (.int .i64 (rd_T62 xs i).f1) := by
 have a := of_decide_eq_true h0
 have b := of_decide_eq_true h1
 obtain ⟨ad, e, x0, x1⟩ := at_T62 h.out i a b
 exact ⟨eq_true a, eq_true b, ad, e, x0, x1, (hb.out.cell (World.block_lt_of_cell? w _ x0)).trans x0, (hb.out.cell (World.block_lt_of_cell? w _ x1)).trans x1⟩

end Go.Proofs.Ytdapeboajjidmab.PFnExactDomDelete
