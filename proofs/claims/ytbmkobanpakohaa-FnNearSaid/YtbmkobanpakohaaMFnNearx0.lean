/- Walks of functions of FnNear, laid anew out of the kit's print. -/
import Derived.Test.YtbmkobanpakohaaProg
import Derived.Below
import Derived.Deep.Draws
import Derived.Deep.AppendLies
import Derived.Maps.AppendAt
import Derived.OwnWalk
import Derived.Laws.BytesArg
import Derived.Laws.MakeOwn
import Derived.Laws.OwnMore
import Derived.Deep.OwnRows
import Derived.Tactics
import Derived.Lib.ConvBytes
import Derived.Laws.Slices
import Derived.WalkKit
import Derived.KernelRfl
import Derived.RowKit3
import Derived.Deep.LoopGhost
import Derived.Deep.QuietTactic
import Derived.BigQuiet
import Derived.WideLaws
import Derived.Deep.DeepCutAuto
import Derived.Deep.CutBlock
import Derived.Deep.RegionHeld3
import Derived.Laws.Rows
import Derived.Lib.AppendStr
import Derived.ArgAppend
import Derived.Laws.IdiomCopy
import Derived.OrdersHeld
import Derived.Laws.BitsLemmas
import Derived.RowKit
import Derived.Test.YtbmkobanpakohaaMFnNearw0
namespace Go.Proofs.Ytbmkobanpakohaa.PFnNear
open Go.RowKit Go.Proofs.YtbmkobanpakohaaW.PrintWords Go.Proofs.YtbmkobanpakohaaW.PrintLast Go.Proofs.YtbmkobanpakohaaW.PrintMore Go.Proofs.YtbmkobanpakohaaW.PrintWords.Kd Go.Proofs.YtbmkobanpakohaaW.PrintMore.Kd
set_option maxHeartbeats 8000000
set_option maxRecDepth 100000
abbrev bc_:=@World.block_lt_of_cell?
theorem be_ {α β:Type} {o:Option α} {f:α→Option β} {b:β} (h:o.bind f=some b):∃a,o=some a∧f a=some b:=Option.bind_eq_some_iff.mp h
abbrev nb1_ (a0:Value):Nat→Prop:=fun k_=>some k_≠a0.ownBlock
abbrev nb2_ (a0 a1:Value):Nat→Prop:=fun k_=>some k_≠a0.ownBlock∧some k_≠a1.ownBlock
abbrev nb3_ (a0 a1 a2:Value):Nat→Prop:=fun k_=>some k_≠a0.ownBlock∧some k_≠a1.ownBlock∧some k_≠a2.ownBlock
abbrev nb4_ (a0 a1 a2 a3:Value):Nat→Prop:=fun k_=>some k_≠a0.ownBlock∧some k_≠a1.ownBlock∧some k_≠a2.ownBlock∧some k_≠a3.ownBlock
abbrev nb5_ (a0 a1 a2 a3 a4:Value):Nat→Prop:=fun k_=>some k_≠a0.ownBlock∧some k_≠a1.ownBlock∧some k_≠a2.ownBlock∧some k_≠a3.ownBlock∧some k_≠a4.ownBlock
abbrev nb6_ (a0 a1 a2 a3 a4 a5:Value):Nat→Prop:=fun k_=>some k_≠a0.ownBlock∧some k_≠a1.ownBlock∧some k_≠a2.ownBlock∧some k_≠a3.ownBlock∧some k_≠a4.ownBlock∧some k_≠a5.ownBlock
abbrev nb7_ (a0 a1 a2 a3 a4 a5 a6:Value):Nat→Prop:=fun k_=>some k_≠a0.ownBlock∧some k_≠a1.ownBlock∧some k_≠a2.ownBlock∧some k_≠a3.ownBlock∧some k_≠a4.ownBlock∧some k_≠a5.ownBlock∧some k_≠a6.ownBlock
abbrev nb8_ (a0 a1 a2 a3 a4 a5 a6 a7:Value):Nat→Prop:=fun k_=>some k_≠a0.ownBlock∧some k_≠a1.ownBlock∧some k_≠a2.ownBlock∧some k_≠a3.ownBlock∧some k_≠a4.ownBlock∧some k_≠a5.ownBlock∧some k_≠a6.ownBlock∧some k_≠a7.ownBlock
abbrev nb9_ (a0 a1 a2 a3 a4 a5 a6 a7 a8:Value):Nat→Prop:=fun k_=>some k_≠a0.ownBlock∧some k_≠a1.ownBlock∧some k_≠a2.ownBlock∧some k_≠a3.ownBlock∧some k_≠a4.ownBlock∧some k_≠a5.ownBlock∧some k_≠a6.ownBlock∧some k_≠a7.ownBlock∧some k_≠a8.ownBlock
abbrev QI_:=Kd.Q (Kd.int .i64) 3
abbrev RI_:=Kd.R (Kd.int .i64) 3
theorem ur_ {α:Type} {d:Kd α} {e:Nat} {W W':World} {base:Nat} {ok:Nat→Prop} {v:Value} {xs:List α} (x:Kd.R d e W base ok v xs) (h:Kd.R d e W base ok v xs→Kd.R d e W' base ok v xs:=by intro hx_;(with_reducible repeat(first|apply R_alloc|apply R_drewN|apply R_drew));exact hx_):Kd.R d e W' base ok v xs:=h x
theorem uq_ {α:Type} {d:Kd α} {e:Nat} {W W':World} {base:Nat} {ok:Nat→Prop} {v:Value} {xs:List α} (x:Kd.Q d e W base ok v xs) (h:Kd.Q d e W base ok v xs→Kd.Q d e W' base ok v xs:=by intro hx_;(with_reducible repeat(first|apply Q_alloc|apply Q_drewN|apply Q_drew));exact hx_):Kd.Q d e W' base ok v xs:=h x
theorem us_ {α:Type} {d:Kd α} {e:Nat} {W W':World} {base:Nat} {ok:Nat→Prop} {v:Value} {xs:List α} (x:Kd.S d e W base ok v xs) (h:Kd.S d e W base ok v xs→Kd.S d e W' base ok v xs:=by intro hx_;(with_reducible repeat(first|apply S_alloc|apply S_drewN|apply S_drew));exact hx_):Kd.S d e W' base ok v xs:=h x
theorem ub_ {W W':World} {g:Nat} {o:Obj} (x:W.heap[g]? =some o) (h:W.heap[g]? =some o→W'.heap[g]? =some o:=by intro hx_;(with_reducible repeat(first|refine blk_drewN ?_ _|refine blk_drew ?_|refine blk_alloc ?_ _));exact hx_):W'.heap[g]? =some o:=h x
attribute [local go_sem] max2_int min2_int max_two min_two max_three min_three max_four min_four
set_option linter.unusedVariables false
set_option linter.unusedSimpArgs false
theorem z0_ {P:Prop} (h:P:=by repeat(first|(with_reducible first|exact HB.out|apply below_alloc|apply pw_below_drewN|apply below_drew1)|exact HB.out)):P:=h
theorem z1_ {P:Prop} (h:P:=by (try simp only[List.map_toArray,List.map_cons,List.map_nil]);first|done|rfl|(simp only[List.length_drop,List.length_take];rfl)):P:=h
theorem z2_ {P:Prop} (h:P:=by repeat(first|(with_reducible first|exact HK.out|apply KeepBut.set_|apply keep_drewN|apply keep_drew|apply keep_alloc)|exact HK.out)):P:=h
theorem z3_ {P:Prop} (h:P:=by repeat(first|(with_reducible first|exact HI0.out|apply IsS86.alloc|apply IsS86.drewN|apply IsS86.drew|apply IsS86.set_1|apply IsS86.set_2)|exact HI0.out)):P:=h
theorem z4_ {P:Prop} (h:P:=by repeat(first|(with_reducible first|exact HB.out|apply below_alloc|apply pw_below_drewN|apply below_drew1|refine below_set ?_ (IsS86.ge HI0.out))|exact HB.out)):P:=h
theorem z5_ {P:Prop} (h:P:=by repeat(first|(with_reducible first|exact HB.out|apply below_alloc|apply pw_below_drewN|apply below_drew1|refine below_set ?_ GEp.out)|exact HB.out)):P:=h
theorem z6_ {P:Prop} (h:P:=by repeat(first|exact(C_below HR0.out HB.out)|(with_reducible refine C_alloc ?_ _)|(with_reducible refine C_drewN ?_ _)|(with_reducible refine C_drew ?_))):P:=h
theorem z7_ {P:Prop} (h:P:=by first|rfl|(simp[errW_none,errW_some]<;>rfl)|(simp[*,errW_none,errW_some]<;>rfl)):P:=h
theorem z8_ {P:Prop} (h:P:=by exact ur_ HO_5.out):P:=h
theorem z9_ {P:Prop} (h:P:=by first|rfl|(simp;done)|(simp[*];done)):P:=h
theorem z10_ {P:Prop} (h:P:=by repeat(first|(with_reducible first|exact HB.out|apply below_alloc|apply pw_below_drewN|apply below_drew1|refine below_set ?_ GEG.out|refine below_set ?_ GEe.out)|exact HB.out)):P:=h
theorem z11_ {P:Prop} (h:P:=by repeat(first|(with_reducible first|exact HB.out|apply below_alloc|apply pw_below_drewN|apply below_drew1|refine below_set ?_ GEb.out|refine below_set ?_ GEa.out)|exact HB.out)):P:=h
theorem z12_ {P:Prop} (h:P:=by exact ub_ BKb.out):P:=h
theorem z13_ {P:Prop} (h:P:=by repeat(first|(with_reducible first|exact HB.out|apply below_alloc|apply pw_below_drewN|apply below_drew1|refine below_set ?_ GEb.out)|exact HB.out)):P:=h
theorem z14_ {P:Prop} (h:P:=by first|(go_simp;done)|(go_simp;rfl)):P:=h
theorem z15_ {P:Prop} (h:P:=by repeat(first|(with_reducible first|exact HK.out|apply KeepBut.set_|apply keep_drewN|apply keep_drew|apply keep_alloc|refine keep_far ?_ GWm.out _)|exact HK.out)):P:=h
theorem z16_ {P:Prop} (h:P:=by repeat(first|exact(C_below HR1.out HB.out)|(with_reducible refine C_alloc ?_ _)|(with_reducible refine C_drewN ?_ _)|(with_reducible refine C_drew ?_))):P:=h
theorem z17_ {P:Prop} (h:P:=by rintro w' ⟨s0,s1,s2,s3,s4,s5,s6,s7,s8,s9,s10,s11,s12⟩;go_simp;with_reducible rfl):P:=h
theorem z18_ {P:Prop} (h:P:=by repeat(first|(with_reducible first|exact HB.out|apply below_alloc|apply pw_below_drewN|apply below_drew1|refine below_set ?_ GEq.out|refine below_set ?_ GEj.out)|exact HB.out)):P:=h
theorem z19_ {P:Prop} (h:P:=by repeat(first|(with_reducible first|exact HB.out|apply below_alloc|apply pw_below_drewN|apply below_drew1|refine below_set ?_ GEk.out)|exact HB.out)):P:=h
theorem z20_ {P:Prop} (h:P:=by repeat(first|(with_reducible first|exact HB.out|apply below_alloc|apply pw_below_drewN|apply below_drew1|refine below_set ?_ GEq.out|refine below_set ?_ GEj.out|refine below_set ?_ GEd.out)|exact HB.out)):P:=h
theorem z21_ {P:Prop} (h:P:=by repeat(first|(with_reducible first|exact HI0.out|apply IsS86.alloc|apply IsS86.drewN|apply IsS86.drew|apply IsS86.set_1|apply IsS86.set_2|refine IsS86.far ?_ NB0_m.out _|refine IsS86.far ?_ NB0_s.out _)|exact HI0.out)):P:=h
theorem z22_ {P:Prop} (h:P:=by repeat(first|(with_reducible first|exact HK.out|apply KeepBut.set_|apply keep_drewN|apply keep_drew|apply keep_alloc|refine keep_far ?_ GWm.out _|refine keep_far ?_ GWs.out _)|exact HK.out)):P:=h
theorem z23_ {P:Prop} (h:P:=by repeat(first|(with_reducible first|exact HB.out|apply below_alloc|apply pw_below_drewN|apply below_drew1|refine below_set ?_ (IsS86.ge HI0.out)|refine below_set ?_ GEm.out|refine below_set ?_ GEs.out)|exact HB.out)):P:=h
theorem z24_ {P:Prop} (h:P:=by repeat(first|(with_reducible first|exact HK.out|apply KeepBut.set_|apply keep_drewN|apply keep_drew|apply keep_alloc|refine keep_far ?_ GWr.out _)|exact HK.out)):P:=h
theorem z25_ {P:Prop} (h:P:=by repeat(first|(with_reducible first|exact HI0.out|apply IsS86.alloc|apply IsS86.drewN|apply IsS86.drew|apply IsS86.set_1|apply IsS86.set_2|refine IsS86.far ?_ NB0_r.out _|refine IsS86.far ?_ NB0_n.out _)|exact HI0.out)):P:=h
theorem z26_ {P:Prop} (h:P:=by repeat(first|(with_reducible first|exact HB.out|apply below_alloc|apply pw_below_drewN|apply below_drew1|refine below_set ?_ (IsS86.ge HI0.out)|refine below_set ?_ GEr.out|refine below_set ?_ GEn.out)|exact HB.out)):P:=h
theorem z27_ {P:Prop} (h:P:=by exact ur_ HO_4.out):P:=h
theorem z28_ {P:Prop} (h:P:=by exact ub_ BKp.out):P:=h
theorem z29_ {P:Prop} (h:P:=by repeat(first|(with_reducible first|exact HK.out|apply KeepBut.set_|apply keep_drewN|apply keep_drew|apply keep_alloc|refine keep_far ?_ GWr.out _|refine keep_far ?_ GWn.out _)|exact HK.out)):P:=h
theorem z30_ {P:Prop} (h:P:=by exact ur_ HOaD.out):P:=h
theorem z31_ {P:Prop} (h:P:=by repeat(first|(with_reducible exact HRz_0.out)|(with_reducible refine C_alloc ?_ _)|(with_reducible refine C_drewN ?_ _)|(with_reducible refine C_drew ?_)|exact HRz_0.out)):P:=h
theorem z32_ {P:Prop} (h:P:=by exact ub_ BKq.out):P:=h
theorem z33_ {P:Prop} (h:P:=by repeat(first|exact(C_below HR2_0.out HB.out)|(with_reducible refine C_alloc ?_ _)|(with_reducible refine C_drewN ?_ _)|(with_reducible refine C_drew ?_))):P:=h
theorem z34_ {P:Prop} (h:P:=by repeat(first|exact(C_below HR2_1.out HB.out)|(with_reducible refine C_alloc ?_ _)|(with_reducible refine C_drewN ?_ _)|(with_reducible refine C_drew ?_))):P:=h
theorem z35_ {P:Prop} (h:P:=by repeat(first|exact(C_below HR2_2.out HB.out)|(with_reducible refine C_alloc ?_ _)|(with_reducible refine C_drewN ?_ _)|(with_reducible refine C_drew ?_))):P:=h
theorem z36_ {P:Prop} (h:P:=by exact ur_ HOaF.out):P:=h
theorem z37_ {P:Prop} (h:P:=by first|(simp only[putAll,Act.put,List.setIfInBounds_toArray,List.set_cons_zero,List.set_cons_succ];done)|(simp only[putAll,Act.put,List.setIfInBounds_toArray,List.set_cons_zero,List.set_cons_succ];rfl)):P:=h
theorem z38_ {P:Prop} (h:P:=by exact ub_ BKm.out):P:=h
theorem z39_ {P:Prop} (h:P:=by repeat(first|exact HK.out|apply Kept.alloc|apply Kept.drewN|apply Kept.drew)):P:=h
theorem z40_ {P:Prop} (h:P:=by exact ur_ HO_3.out):P:=h
theorem z41_ {P:Prop} (h:P:=by repeat(first|(with_reducible first|exact HB.out|apply below_alloc|apply pw_below_drewN|apply below_drew1|refine below_set ?_ GEZ.out|refine below_set ?_ GEJ.out)|exact HB.out)):P:=h
theorem z42_ {P:Prop} (h:P:=by exact ub_ BKj.out):P:=h
theorem z43_ {P:Prop} (h:P:=by repeat(first|exact HR0.out|(with_reducible refine C_alloc ?_ _)|(with_reducible refine C_drewN ?_ _)|(with_reducible refine C_drew ?_))):P:=h
theorem z44_ {P:Prop} (h:P:=by repeat(first|exact(C_below HR0_0.out HB.out)|(with_reducible refine C_alloc ?_ _)|(with_reducible refine C_drewN ?_ _)|(with_reducible refine C_drew ?_))):P:=h
theorem z45_ {P:Prop} (h:P:=by exact ur_ HObT.out):P:=h
theorem z46_ {P:Prop} (h:P:=by repeat(first|(with_reducible first|exact HK.out|apply Kept.alloc|apply Kept.drewN|apply Kept.drew|refine Kept.setCell ?_ (.inr GWl.out) _)|exact HK.out)):P:=h
theorem z47_ {P:Prop} (h:P:=by exact ub_ BKG.out):P:=h
theorem z48_ {P:Prop} (h:P:=by exact ub_ BKr.out):P:=h
theorem z49_ {P:Prop} (h:P:=by exact ur_ HObd.out):P:=h
theorem z50_ {P:Prop} (h:P:=by exact(fun k_ hk=>⟨Kd.fresh' (R_lt (by exact ur_ HO_62.out)) k_ hk,Kd.fresh' (R_lt (by exact ur_ HO_84.out)) k_ hk,Kd.fresh' (R_lt (by exact ur_ HO_aN.out)) k_ hk,Kd.fresh' (R_lt (by exact ur_ HO_aO.out)) k_ hk,Kd.fresh' (R_lt (by exact ur_ HO_a0.out)) k_ hk,Kd.fresh' (R_lt (by exact ur_ HO_a1.out)) k_ hk,Kd.fresh' (R_lt (by exact ur_ HO_ag.out)) k_ hk,Kd.fresh' (R_lt (by exact ur_ HO_w.out)) k_ hk⟩)):P:=h
theorem z51_ {P:Prop} (h:P:=by repeat(first|(with_reducible first|exact HB.out|apply below_alloc|apply pw_below_drewN|apply below_drew1|refine below_set ?_ (IsS86.ge HIbv.out))|exact HB.out)):P:=h
theorem z52_ {P:Prop} (h:P:=by rintro w' ⟨s0,s1,s2,s3⟩;go_simp;with_reducible rfl):P:=h
theorem z53_ {P:Prop} (h:P:=by exact ub_ BKa.out):P:=h
theorem z54_ {P:Prop} (h:P:=by exact ub_ BKk.out):P:=h
theorem z55_ {P:Prop} (h:P:=by exact(below_size y6_)):P:=h
theorem z56_ {P:Prop} (h:P:=by exact ur_ HO_E.out):P:=h
theorem z57_ {P:Prop} (h:P:=by repeat(first|exact Drawn0.refl _|apply Drawn0.step)):P:=h
theorem z58_ {P:Prop} (h:P:=by refine ub_ (blk_far ?_ NBm_s.out _);refine ub_ (blk_far ?_ NBm_s.out _);refine ub_ (blk_far ?_ NBm_s.out _);exact ub_ BKm.out):P:=h
theorem z59_ {P:Prop} (h:P:=by exact ur_ HO_t.out):P:=h
theorem z60_ {P:Prop} (h:P:=by exact y6_):P:=h
theorem z61_ {P:Prop} (h:P:=by exact ub_ BKe.out):P:=h
theorem z62_ {P:Prop} (h:P:=by rintro w' ⟨s0,s1,s2,s3,s4,s5,s6,s7,s8,s9,s10,s11,s12,s13,s14⟩;go_simp;with_reducible rfl):P:=h
theorem z63_ {P:Prop} (h:P:=by first|exact R_nil _ _ _ _ _|exact N_nil _ _ _ _ _|exact V_nil _ _ _ _ _|exact Q_nil _ _ _ _ _|exact S_nil _ _ _ _ _):P:=h
theorem z64_ {P:Prop} (h:P:=by repeat(first|exact(R_reads' HO_aP.out).2.2|(with_reducible refine C_alloc ?_ _)|(with_reducible refine C_drewN ?_ _)|(with_reducible refine C_drew ?_))):P:=h
theorem z65_ {P:Prop} (h:P:=by repeat(first|exact(Q_reads' HO_aQ.out).2.2|(with_reducible refine C_alloc ?_ _)|(with_reducible refine C_drewN ?_ _)|(with_reducible refine C_drew ?_))):P:=h
theorem z66_ {P:Prop} (h:P:=by repeat(first|exact(R_reads' HO_aR.out).2.2|(with_reducible refine C_alloc ?_ _)|(with_reducible refine C_drewN ?_ _)|(with_reducible refine C_drew ?_))):P:=h
theorem z67_ {P:Prop} (h:P:=by repeat(first|(with_reducible exact HRc_0.out)|(with_reducible refine C_alloc ?_ _)|(with_reducible refine C_drewN ?_ _)|(with_reducible refine C_drew ?_)|exact HRc_0.out)):P:=h
theorem z68_ {P:Prop} (h:P:=by repeat(first|exact(Q_reads' HO_7.out).2.2|(with_reducible refine C_alloc ?_ _)|(with_reducible refine C_drewN ?_ _)|(with_reducible refine C_drew ?_))):P:=h
theorem z69_ {P:Prop} (h:P:=by repeat(first|(with_reducible first|exact HB.out|apply below_alloc|apply pw_below_drewN|apply below_drew1|refine below_set ?_ (IsS86.ge HIbx.out)|refine below_set ?_ GEaE.out)|exact HB.out)):P:=h
theorem z70_ {P:Prop} (h:P:=by exact(keep_size (w:=w) (g:=g) (row:=none) (by repeat(first|(with_reducible first|exact HK.out|apply KeepBut.set_|apply keep_drewN|apply keep_drew|apply keep_alloc)|exact HK.out)))):P:=h
theorem z71_ {P:Prop} (h:P:=by repeat(first|(with_reducible first|exact HB.out|apply below_alloc|apply pw_below_drewN|apply below_drew1|refine below_set ?_ GEbQ.out)|exact HB.out)):P:=h
theorem z72_ {P:Prop} (h:P:=by repeat(first|(with_reducible first|exact HB.out|apply below_alloc|apply pw_below_drewN|apply below_drew1|refine below_set ?_ GEcr.out)|exact HB.out)):P:=h
theorem z73_ {P:Prop} (h:P:=by repeat(first|(with_reducible first|exact HB.out|apply below_alloc|apply pw_below_drewN|apply below_drew1|refine below_set ?_ GEl.out)|exact HB.out)):P:=h
theorem z74_ {P:Prop} (h:P:=by exact ur_ HO_aP.out):P:=h
theorem z75_ {P:Prop} (h:P:=by exact uq_ HO_aQ.out):P:=h
theorem z76_ {P:Prop} (h:P:=by exact ur_ HO_aR.out):P:=h
theorem z77_ {P:Prop} (h:P:=by repeat(first|exact(by repeat(first|(with_reducible exact HRz_0.out)|(with_reducible refine C_alloc ?_ _)|(with_reducible refine C_drewN ?_ _)|(with_reducible refine C_drew ?_)|exact HRz_0.out))|(with_reducible refine C_alloc ?_ _)|(with_reducible refine C_drewN ?_ _)|(with_reducible refine C_drew ?_))):P:=h
theorem z78_ {P:Prop} (h:P:=by exact ur_ HObI.out):P:=h
theorem z79_ {P:Prop} (h:P:=by repeat(first|(with_reducible first|exact HI0.out|apply IsS86.alloc|apply IsS86.drewN|apply IsS86.drew|apply IsS86.set_1|apply IsS86.set_2|refine IsS86.far ?_ NB0_m.out _)|exact HI0.out)):P:=h
theorem z80_ {P:Prop} (h:P:=by exact us_ HO_6.out):P:=h
theorem z81_ {P:Prop} (h:P:=by exact uq_ HO_7.out):P:=h
theorem z82_ {P:Prop} (h:P:=by repeat(first|(with_reducible first|exact HB.out|apply below_alloc|apply pw_below_drewN|apply below_drew1|refine below_set ?_ GEW.out)|exact HB.out)):P:=h
theorem z83_ {P:Prop} (h:P:=by repeat(first|(with_reducible first|exact HB.out|apply below_alloc|apply pw_below_drewN|apply below_drew1|refine below_set ?_ GEcs.out)|exact HB.out)):P:=h
theorem z84_ {P:Prop} (h:P:=by repeat(first|(with_reducible first|exact HB.out|apply below_alloc|apply pw_below_drewN|apply below_drew1|refine below_set ?_ (IsS86.ge HI0.out)|refine below_set ?_ GEm.out)|exact HB.out)):P:=h
theorem z85_ {P:Prop} (h:P:=by exact ur_ HO_L.out):P:=h
theorem z86_ {P:Prop} (h:P:=by refine ub_ (blk_far ?_ NBr_n.out _);refine ub_ (blk_far ?_ NBr_n.out _);refine ub_ (blk_far ?_ NBr_n.out _);exact ub_ BKr.out):P:=h
theorem z87_ {P:Prop} (h:P:=by exact ur_ (R_mono (R_far (p:=⟨gbd,6,none⟩) (R_far (p:=⟨gbd,5,none⟩) (R_far (p:=⟨gbd,4,none⟩) (R_far (p:=⟨gbd,3,none⟩) (R_far (p:=⟨gbd,2,none⟩) (R_far (p:=⟨gbd,1,none⟩) (R_far (p:=⟨gbd,0,none⟩) (R_types HOfW.out BKd.out (by decide)) (fun _ hk=>hk.2) (.slice Ao34 tg.length co34)) (fun _ hk=>hk.2) (.slice Ao33 ti.length co33)) (fun _ hk=>hk.2) (.slice Ao32 tH.length co32)) (fun _ hk=>hk.2) (.slice Ao31 tI.length co31)) (fun _ hk=>hk.2) (.slice none 0 0)) (fun _ hk=>hk.2) (.slice none 0 0)) (fun _ hk=>hk.2) (.slice none 0 0)) (fun _ hk=>⟨hk.1.1.1.2,⟨hk.1.1.2,⟨hk.1.2,(by simp[Value.ownBlock])⟩⟩⟩))):P:=h
theorem z88_ {P:Prop} (h:P:=by repeat(first|exact(Q_reads' HO_3.out).2.2|(with_reducible refine C_alloc ?_ _)|(with_reducible refine C_drewN ?_ _)|(with_reducible refine C_drew ?_))):P:=h
theorem z89_ {P:Prop} (h:P:=by repeat(first|exact(R_reads' HO_4.out).2.2|(with_reducible refine C_alloc ?_ _)|(with_reducible refine C_drewN ?_ _)|(with_reducible refine C_drew ?_))):P:=h
theorem z90_ {P:Prop} (h:P:=by exact ur_ (R_mono (R_far (p:=⟨gba,6,none⟩) (R_far (p:=⟨gba,5,none⟩) (R_far (p:=⟨gba,4,none⟩) (R_far (p:=⟨gba,3,none⟩) (R_far (p:=⟨gba,2,none⟩) (R_far (p:=⟨gba,1,none⟩) (R_far (p:=⟨gba,0,none⟩) (R_types HOaD.out BKa.out (by decide)) (fun _ hk=>hk.2) (.slice Ao32 tM.length co32)) (fun _ hk=>hk.2) (.slice Ao31 tS.length co31)) (fun _ hk=>hk.2) (.slice Ao30 taa.length co30)) (fun _ hk=>hk.2) (.slice Ao29 tah.length co29)) (fun _ hk=>hk.2) (.slice A2_0 l2_0.length c2_0)) (fun _ hk=>hk.2) (.slice A2_1 l2_1.length c2_1)) (fun _ hk=>hk.2) (.slice A2_2 l2_2.length c2_2)) (fun _ h_=>h_.1))):P:=h
theorem z91_ {P:Prop} (h:P:=by exact ur_ (R_mono (R_far (p:=⟨gba,6,none⟩) (R_far (p:=⟨gba,5,none⟩) (R_far (p:=⟨gba,4,none⟩) (R_far (p:=⟨gba,3,none⟩) (R_far (p:=⟨gba,2,none⟩) (R_far (p:=⟨gba,1,none⟩) (R_far (p:=⟨gba,0,none⟩) (R_types HOaF.out BKa.out (by decide)) (fun _ hk=>hk.2) (.slice Ao32 tM.length co32)) (fun _ hk=>hk.2) (.slice Ao31 tS.length co31)) (fun _ hk=>hk.2) (.slice Ao30 taa.length co30)) (fun _ hk=>hk.2) (.slice Ao29 tah.length co29)) (fun _ hk=>hk.2) (.slice A2_0 l2_0.length c2_0)) (fun _ hk=>hk.2) (.slice A2_1 l2_1.length c2_1)) (fun _ hk=>hk.2) (.slice A2_2 l2_2.length c2_2)) (fun _ h_=>h_.1))):P:=h
theorem z92_ {P:Prop} (h:P:=by exact ur_ (R_mono (R_far (p:=⟨gba,6,none⟩) (R_far (p:=⟨gba,5,none⟩) (R_far (p:=⟨gba,4,none⟩) (R_far (p:=⟨gba,3,none⟩) (R_far (p:=⟨gba,2,none⟩) (R_far (p:=⟨gba,1,none⟩) (R_far (p:=⟨gba,0,none⟩) (R_types HObd.out BKa.out (by decide)) (fun _ hk=>hk.2) (.slice Ao32 tM.length co32)) (fun _ hk=>hk.2) (.slice Ao31 tS.length co31)) (fun _ hk=>hk.2) (.slice Ao30 taa.length co30)) (fun _ hk=>hk.2) (.slice Ao29 tah.length co29)) (fun _ hk=>hk.2) (.slice A2_0 l2_0.length c2_0)) (fun _ hk=>hk.2) (.slice A2_1 l2_1.length c2_1)) (fun _ hk=>hk.2) (.slice A2_2 l2_2.length c2_2)) (fun _ h_=>h_.1))):P:=h
theorem z93_ {P:Prop} (h:P:=by exact ur_ (R_mono (R_far (p:=⟨gba,6,none⟩) (R_far (p:=⟨gba,5,none⟩) (R_far (p:=⟨gba,4,none⟩) (R_far (p:=⟨gba,3,none⟩) (R_far (p:=⟨gba,2,none⟩) (R_far (p:=⟨gba,1,none⟩) (R_far (p:=⟨gba,0,none⟩) (R_types HObI.out BKa.out (by decide)) (fun _ hk=>hk.2) (.slice Ao32 tM.length co32)) (fun _ hk=>hk.2) (.slice Ao31 tS.length co31)) (fun _ hk=>hk.2) (.slice Ao30 taa.length co30)) (fun _ hk=>hk.2) (.slice Ao29 tah.length co29)) (fun _ hk=>hk.2) (.slice A2_0 l2_0.length c2_0)) (fun _ hk=>hk.2) (.slice A2_1 l2_1.length c2_1)) (fun _ hk=>hk.2) (.slice A2_2 l2_2.length c2_2)) (fun _ h_=>h_.1))):P:=h
theorem z94_ {P:Prop} (h:P:=by exact ur_ (R_mono (R_far (p:=⟨gba,6,none⟩) (R_far (p:=⟨gba,5,none⟩) (R_far (p:=⟨gba,4,none⟩) (R_far (p:=⟨gba,3,none⟩) (R_far (p:=⟨gba,2,none⟩) (R_far (p:=⟨gba,1,none⟩) (R_far (p:=⟨gba,0,none⟩) (R_types HOcb.out BKa.out (by decide)) (fun _ hk=>hk.2) (.slice Ao32 tM.length co32)) (fun _ hk=>hk.2) (.slice Ao31 tS.length co31)) (fun _ hk=>hk.2) (.slice Ao30 taa.length co30)) (fun _ hk=>hk.2) (.slice Ao29 tah.length co29)) (fun _ hk=>hk.2) (.slice A2_0 l2_0.length c2_0)) (fun _ hk=>hk.2) (.slice A2_1 l2_1.length c2_1)) (fun _ hk=>hk.2) (.slice A2_2 l2_2.length c2_2)) (fun _ h_=>h_.1))):P:=h
theorem z95_ {P:Prop} (h:P:=by exact ur_ (R_mono (R_far (p:=⟨gba,6,none⟩) (R_far (p:=⟨gba,5,none⟩) (R_far (p:=⟨gba,4,none⟩) (R_far (p:=⟨gba,3,none⟩) (R_far (p:=⟨gba,2,none⟩) (R_far (p:=⟨gba,1,none⟩) (R_far (p:=⟨gba,0,none⟩) (R_types HOdm.out BKa.out (by decide)) (fun _ hk=>hk.2) (.slice Ao32 tM.length co32)) (fun _ hk=>hk.2) (.slice Ao31 tS.length co31)) (fun _ hk=>hk.2) (.slice Ao30 taa.length co30)) (fun _ hk=>hk.2) (.slice Ao29 tah.length co29)) (fun _ hk=>hk.2) (.slice A2_0 l2_0.length c2_0)) (fun _ hk=>hk.2) (.slice A2_1 l2_1.length c2_1)) (fun _ hk=>hk.2) (.slice A2_2 l2_2.length c2_2)) (fun _ h_=>h_.1))):P:=h
theorem z96_ {P:Prop} (h:P:=by exact ub_ BKl.out):P:=h
theorem z97_ {P:Prop} (h:P:=by repeat(first|(with_reducible first|exact HB.out|apply below_alloc|apply pw_below_drewN|apply below_drew1|refine below_set ?_ GEbJ.out)|exact HB.out)):P:=h
theorem z98_ {P:Prop} (h:P:=by rintro w' ⟨s0,s1,s2,s3,s4,s5,s6,s7,s8,s9,s10,s11⟩;go_simp;with_reducible rfl):P:=h
theorem z99_ {P:Prop} (h:P:=by repeat(first|exact(C_below HR6_0.out HB.out)|(with_reducible refine C_alloc ?_ _)|(with_reducible refine C_drewN ?_ _)|(with_reducible refine C_drew ?_))):P:=h
theorem z100_ {P:Prop} (h:P:=by repeat(first|exact(C_below HR6_1.out HB.out)|(with_reducible refine C_alloc ?_ _)|(with_reducible refine C_drewN ?_ _)|(with_reducible refine C_drew ?_))):P:=h
theorem z101_ {P:Prop} (h:P:=by repeat(first|exact(C_below HR6_2.out HB.out)|(with_reducible refine C_alloc ?_ _)|(with_reducible refine C_drewN ?_ _)|(with_reducible refine C_drew ?_))):P:=h
theorem z102_ {P:Prop} (h:P:=by repeat(first|exact(C_below HR0_1.out HB.out)|(with_reducible refine C_alloc ?_ _)|(with_reducible refine C_drewN ?_ _)|(with_reducible refine C_drew ?_))):P:=h
theorem z103_ {P:Prop} (h:P:=by repeat(first|exact(C_below HR0_2.out HB.out)|(with_reducible refine C_alloc ?_ _)|(with_reducible refine C_drewN ?_ _)|(with_reducible refine C_drew ?_))):P:=h
theorem z104_ {P:Prop} (h:P:=by repeat(first|(with_reducible first|exact HIbv.out|apply IsS86.alloc|apply IsS86.drewN|apply IsS86.drew|apply IsS86.set_1|apply IsS86.set_2)|exact HIbv.out)):P:=h
theorem z105_ {P:Prop} (h:P:=by repeat(first|exact(C_below HR3.out HB.out)|(with_reducible refine C_alloc ?_ _)|(with_reducible refine C_drewN ?_ _)|(with_reducible refine C_drew ?_))):P:=h
theorem z106_ {P:Prop} (h:P:=by repeat(first|exact(by repeat(first|(with_reducible exact HRc_0.out)|(with_reducible refine C_alloc ?_ _)|(with_reducible refine C_drewN ?_ _)|(with_reducible refine C_drew ?_)|exact HRc_0.out))|(with_reducible refine C_alloc ?_ _)|(with_reducible refine C_drewN ?_ _)|(with_reducible refine C_drew ?_))):P:=h
theorem z107_ {P:Prop} (h:P:=by repeat(first|(with_reducible first|exact HB.out|apply below_alloc|apply pw_below_drewN|apply below_drew1|refine below_set ?_ GEp.out|refine below_set ?_ GEo.out)|exact HB.out)):P:=h
theorem z108_ {P:Prop} (h:P:=by exact(below_size y4_)):P:=h
theorem z109_ {P:Prop} (h:P:=by repeat(first|(with_reducible first|exact HB.out|apply below_alloc|apply pw_below_drewN|apply below_drew1|refine below_set ?_ GEdK.out)|exact HB.out)):P:=h
theorem z110_ {P:Prop} (h:P:=by repeat(first|(with_reducible first|exact HB.out|apply below_alloc|apply pw_below_drewN|apply below_drew1|refine below_set ?_ GEdL.out)|exact HB.out)):P:=h
theorem z111_ {P:Prop} (h:P:=by repeat(first|(with_reducible first|exact HB.out|apply below_alloc|apply pw_below_drewN|apply below_drew1|refine below_set ?_ GEbe.out)|exact HB.out)):P:=h
theorem z112_ {P:Prop} (h:P:=by exact(by exact ur_ HO_5.out)):P:=h
theorem z113_ {P:Prop} (h:P:=by exact ur_ HOaU.out):P:=h
theorem z114_ {P:Prop} (h:P:=by exact ur_ HObg.out):P:=h
theorem z115_ {P:Prop} (h:P:=by exact ur_ HOaV.out):P:=h
theorem z116_ {P:Prop} (h:P:=by exact y4_):P:=h
theorem z117_ {P:Prop} (h:P:=by repeat(first|(with_reducible first|exact HI0.out|apply IsS86.alloc|apply IsS86.drewN|apply IsS86.drew|apply IsS86.set_1|apply IsS86.set_2|refine IsS86.far ?_ NB0_r.out _)|exact HI0.out)):P:=h
theorem z118_ {P:Prop} (h:P:=by repeat(first|(with_reducible first|exact HB.out|apply below_alloc|apply pw_below_drewN|apply below_drew1|refine below_set ?_ (IsS86.ge HI0.out)|refine below_set ?_ GEr.out)|exact HB.out)):P:=h
theorem z119_ {P:Prop} (h:P:=by exact uq_ HLz_0.out):P:=h
theorem z120_ {P:Prop} (h:P:=by exact ub_ BKW.out):P:=h
theorem z121_ {P:Prop} (h:P:=by exact ub_ BKcs.out):P:=h
theorem z122_ {P:Prop} (h:P:=by first|(rw[add_block];exact Kd.own_blk (IsS86.own_ne HI0.out HO_5.out (by decide)))|(show (Addr.add _ _).block≠_;rw[add_block];exact Kd.own_blk (IsS86.own_ne HI0.out HO_5.out (by decide)))|exact Kd.own_blk (IsS86.own_ne HI0.out HO_5.out (by decide))):P:=h
theorem z123_ {P:Prop} (h:P:=by exact ur_ HO_13.out):P:=h
theorem z124_ {P:Prop} (h:P:=by exact ur_ HOcb.out):P:=h
theorem z125_ {P:Prop} (h:P:=by refine ub_ (blk_far ?_ NBZ_J.out _);exact ub_ BKZ.out):P:=h
theorem z126_ {P:Prop} (h:P:=by exact(below_size y3_)):P:=h
theorem z127_ {P:Prop} (h:P:=by repeat(first|(with_reducible first|exact HB.out|apply below_alloc|apply pw_below_drewN|apply below_drew1|refine below_set ?_ GEa4.out)|exact HB.out)):P:=h
theorem z128_ {P:Prop} (h:P:=by exact y3_):P:=h
theorem z129_ {P:Prop} (h:P:=by exact ub_ BKn.out):P:=h
theorem z130_ {P:Prop} (h:P:=by exact ub_ BKs.out):P:=h
theorem z131_ {P:Prop} (h:P:=by exact(by exact ur_ HO_3.out)):P:=h
theorem z132_ {P:Prop} (h:P:=by exact(below_size y5_)):P:=h
theorem z133_ {P:Prop} (h:P:=by exact us_ HO_X.out):P:=h
theorem z134_ {P:Prop} (h:P:=by exact us_ (S_mono (S_far (p:=⟨gbk,2,none⟩) (S_far (p:=⟨gbk,1,none⟩) (S_far (p:=⟨gbk,0,none⟩) (S_types HOdn.out BKk.out (by decide)) (fun _ hk=>hk.2) (.slice Ao39 tU.length co39)) (fun _ hk=>hk.2) (.slice Ao41 tY.length co41)) (fun _ hk=>hk.2) (.slice Ao42 tac.length co42)) (fun _ h_=>h_.1))):P:=h
theorem z135_ {P:Prop} (h:P:=by exact uq_ (Q_mono (Q_far (p:=⟨gbk,2,none⟩) (Q_far (p:=⟨gbk,1,none⟩) (Q_far (p:=⟨gbk,0,none⟩) (Q_types HOdo.out BKk.out (by decide)) (fun _ hk=>hk.2) (.slice Ao39 tU.length co39)) (fun _ hk=>hk.2) (.slice Ao41 tY.length co41)) (fun _ hk=>hk.2) (.slice Ao42 tac.length co42)) (fun _ h_=>h_.1))):P:=h
theorem z136_ {P:Prop} (h:P:=by exact ur_ (R_mono (R_far (p:=⟨gbk,2,none⟩) (R_far (p:=⟨gbk,1,none⟩) (R_far (p:=⟨gbk,0,none⟩) (R_types HOdp.out BKk.out (by decide)) (fun _ hk=>hk.2) (.slice Ao39 tU.length co39)) (fun _ hk=>hk.2) (.slice Ao41 tY.length co41)) (fun _ hk=>hk.2) (.slice Ao42 tac.length co42)) (fun _ h_=>h_.1))):P:=h
theorem z137_ {P:Prop} (h:P:=by exact uq_ (Q_mono (Q_far (p:=⟨gbk,2,none⟩) (Q_far (p:=⟨gbk,1,none⟩) (Q_far (p:=⟨gbk,0,none⟩) (Q_types HOdq.out BKk.out (by decide)) (fun _ hk=>hk.2) (.slice Ao39 tU.length co39)) (fun _ hk=>hk.2) (.slice Ao41 tY.length co41)) (fun _ hk=>hk.2) (.slice Ao42 tac.length co42)) (fun _ h_=>h_.1))):P:=h
theorem z138_ {P:Prop} (h:P:=by exact ur_ (R_mono (R_far (p:=⟨gbk,2,none⟩) (R_far (p:=⟨gbk,1,none⟩) (R_far (p:=⟨gbk,0,none⟩) (R_types HOdr.out BKk.out (by decide)) (fun _ hk=>hk.2) (.slice Ao39 tU.length co39)) (fun _ hk=>hk.2) (.slice Ao41 tY.length co41)) (fun _ hk=>hk.2) (.slice Ao42 tac.length co42)) (fun _ h_=>h_.1))):P:=h
theorem z139_ {P:Prop} (h:P:=by exact us_ (S_mono (S_far (p:=⟨gbk,2,none⟩) (S_far (p:=⟨gbk,1,none⟩) (S_far (p:=⟨gbk,0,none⟩) (S_types HOdn.out BKk.out (by decide)) (fun _ hk=>hk.2) (.slice Ao85 tU.length co85)) (fun _ hk=>hk.2) (.slice Ao87 tY.length co87)) (fun _ hk=>hk.2) (.slice Ao88 tac.length co88)) (fun _ h_=>h_.1))):P:=h
theorem z140_ {P:Prop} (h:P:=by exact uq_ (Q_mono (Q_far (p:=⟨gbk,2,none⟩) (Q_far (p:=⟨gbk,1,none⟩) (Q_far (p:=⟨gbk,0,none⟩) (Q_types HOdo.out BKk.out (by decide)) (fun _ hk=>hk.2) (.slice Ao85 tU.length co85)) (fun _ hk=>hk.2) (.slice Ao87 tY.length co87)) (fun _ hk=>hk.2) (.slice Ao88 tac.length co88)) (fun _ h_=>h_.1))):P:=h
theorem z141_ {P:Prop} (h:P:=by exact ur_ (R_mono (R_far (p:=⟨gbk,2,none⟩) (R_far (p:=⟨gbk,1,none⟩) (R_far (p:=⟨gbk,0,none⟩) (R_types HOdp.out BKk.out (by decide)) (fun _ hk=>hk.2) (.slice Ao85 tU.length co85)) (fun _ hk=>hk.2) (.slice Ao87 tY.length co87)) (fun _ hk=>hk.2) (.slice Ao88 tac.length co88)) (fun _ h_=>h_.1))):P:=h
theorem z142_ {P:Prop} (h:P:=by exact uq_ (Q_mono (Q_far (p:=⟨gbk,2,none⟩) (Q_far (p:=⟨gbk,1,none⟩) (Q_far (p:=⟨gbk,0,none⟩) (Q_types HOdq.out BKk.out (by decide)) (fun _ hk=>hk.2) (.slice Ao85 tU.length co85)) (fun _ hk=>hk.2) (.slice Ao87 tY.length co87)) (fun _ hk=>hk.2) (.slice Ao88 tac.length co88)) (fun _ h_=>h_.1))):P:=h
theorem z143_ {P:Prop} (h:P:=by exact ur_ (R_mono (R_far (p:=⟨gbk,2,none⟩) (R_far (p:=⟨gbk,1,none⟩) (R_far (p:=⟨gbk,0,none⟩) (R_types HOdr.out BKk.out (by decide)) (fun _ hk=>hk.2) (.slice Ao85 tU.length co85)) (fun _ hk=>hk.2) (.slice Ao87 tY.length co87)) (fun _ hk=>hk.2) (.slice Ao88 tac.length co88)) (fun _ h_=>h_.1))):P:=h
theorem z144_ {P:Prop} (h:P:=by exact ur_ (R_mono HO_4.out (fun _ hk=>⟨hk.2,hk.1⟩))):P:=h
theorem z145_ {P:Prop} (h:P:=by exact ur_ HOci.out):P:=h
theorem z146_ {P:Prop} (h:P:=by exact y5_):P:=h
theorem z147_ {P:Prop} (h:P:=by repeat(first|(with_reducible first|exact HB.out|apply below_alloc|apply pw_below_drewN|apply below_drew1|refine below_set ?_ GEbi.out)|exact HB.out)):P:=h
theorem z148_ {P:Prop} (h:P:=by exact ub_ BKd.out):P:=h
theorem z149_ {P:Prop} (h:P:=by exact ub_ BKZ.out):P:=h
theorem z150_ {P:Prop} (h:P:=by repeat(first|(with_reducible first|exact HBW.out|apply below_alloc|apply pw_below_drewN|apply below_drew1)|exact HBW.out)):P:=h
theorem z151_ {P:Prop} (h:P:=by repeat(first|(with_reducible exact HRu_0.out)|(with_reducible refine C_alloc ?_ _)|(with_reducible refine C_drewN ?_ _)|(with_reducible refine C_drew ?_)|exact HRu_0.out)):P:=h
theorem z152_ {P:Prop} (h:P:=by exact(fun k_ hk=>Kd.fresh' (R_lt (by exact ur_ HO_4.out)) k_ hk)):P:=h
theorem z153_ {P:Prop} (h:P:=by repeat(first|exact HR2.out|(with_reducible refine C_alloc ?_ _)|(with_reducible refine C_drewN ?_ _)|(with_reducible refine C_drew ?_))):P:=h
theorem z154_ {P:Prop} (h:P:=by refine ub_ (blk_far ?_ NBq_d.out _);exact ub_ BKq.out):P:=h
theorem z155_ {P:Prop} (h:P:=by refine ub_ (blk_far ?_ NBj_d.out _);exact ub_ BKj.out):P:=h
theorem z156_ {P:Prop} (h:P:=by rintro w' ⟨s0,s1,s2,s3,s4,s5,s6,s7,s8,s9,s10⟩;go_simp;with_reducible rfl):P:=h
theorem z157_ {P:Prop} (h:P:=by rintro w' ⟨s0,s1,s2,s3,s4,s5⟩;go_simp;with_reducible rfl):P:=h
theorem z158_ {P:Prop} (h:P:=by exact ur_ HO_x.out):P:=h
theorem z159_ {P:Prop} (h:P:=by exact ur_ HO_y.out):P:=h
theorem z160_ {P:Prop} (h:P:=by exact ur_ HO_v.out):P:=h
theorem z161_ {P:Prop} (h:P:=by have:=HK1.out;have:=HK2.out;omega):P:=h
theorem z162_ {P:Prop} (h:P:=by exact ur_ HOfw.out):P:=h
theorem z163_ {P:Prop} (h:P:=by exact ur_ HObV.out):P:=h
theorem z164_ {P:Prop} (h:P:=by exact ur_ HObW.out):P:=h
theorem z165_ {P:Prop} (h:P:=by exact ur_ HObM.out):P:=h
theorem z166_ {P:Prop} (h:P:=by exact ur_ HObX.out):P:=h
theorem z167_ {P:Prop} (h:P:=by exact ur_ HObY.out):P:=h
theorem z168_ {P:Prop} (h:P:=by exact ur_ HObZ.out):P:=h
theorem z169_ {P:Prop} (h:P:=by exact us_ HOb0.out):P:=h
theorem z170_ {P:Prop} (h:P:=by have:=HK1.out;omega):P:=h
theorem z171_ {P:Prop} (h:P:=by repeat(first|exact(C_below HRh_0.out HB.out)|(with_reducible refine C_alloc ?_ _)|(with_reducible refine C_drewN ?_ _)|(with_reducible refine C_drew ?_))):P:=h
theorem z172_ {P:Prop} (h:P:=by repeat(first|exact(C_below HRA_0.out HB.out)|(with_reducible refine C_alloc ?_ _)|(with_reducible refine C_drewN ?_ _)|(with_reducible refine C_drew ?_))):P:=h
theorem z173_ {P:Prop} (h:P:=by exact ub_ BKbJ.out):P:=h
theorem z174_ {P:Prop} (h:P:=by exact ub_ BKaE.out):P:=h
theorem z175_ {P:Prop} (h:P:=by exact ub_ BKi.out):P:=h
theorem z176_ {P:Prop} (h:P:=by repeat(first|exact(by repeat(first|(with_reducible exact HRu_0.out)|(with_reducible refine C_alloc ?_ _)|(with_reducible refine C_drewN ?_ _)|(with_reducible refine C_drew ?_)|exact HRu_0.out))|(with_reducible refine C_alloc ?_ _)|(with_reducible refine C_drewN ?_ _)|(with_reducible refine C_drew ?_))):P:=h
theorem z177_ {P:Prop} (h:P:=by repeat(first|exact(C_below HR0_1.out (by repeat(first|(with_reducible first|exact HB.out|apply below_alloc|apply pw_below_drewN|apply below_drew1|refine below_set ?_ GEbQ.out)|exact HB.out)))|(with_reducible refine C_alloc ?_ _)|(with_reducible refine C_drewN ?_ _)|(with_reducible refine C_drew ?_))):P:=h
theorem z178_ {P:Prop} (h:P:=by repeat(first|exact(C_below HR0_1.out (by repeat(first|(with_reducible first|exact HB.out|apply below_alloc|apply pw_below_drewN|apply below_drew1|refine below_set ?_ GEcr.out)|exact HB.out)))|(with_reducible refine C_alloc ?_ _)|(with_reducible refine C_drewN ?_ _)|(with_reducible refine C_drew ?_))):P:=h
theorem z179_ {P:Prop} (h:P:=by (with_reducible repeat(first|refine blk_drewN ?_ _|refine blk_drew ?_|refine blk_alloc ?_ _));refine blk_far ?_ (by have h_:=R_ne HO_v.out BKr.out (by decide);intro e_;exact h_ (by rw[e_];rfl)) _;exact ub_ BKr.out):P:=h
theorem z180_ {P:Prop} (h:P:=by (with_reducible repeat(first|refine blk_drewN ?_ _|refine blk_drew ?_|refine blk_alloc ?_ _));refine blk_far ?_ (by have h_:=R_ne HO_v.out BKn.out (by decide);intro e_;exact h_ (by rw[e_];rfl)) _;exact ub_ BKn.out):P:=h
theorem z181_ {P:Prop} (h:P:=by (with_reducible repeat(first|refine blk_drewN ?_ _|refine blk_drew ?_|refine blk_alloc ?_ _));refine blk_far ?_ (by have h_:=R_ne HO_13.out BKl.out (by decide);intro e_;exact h_ (by rw[e_];rfl)) _;exact ub_ BKl.out):P:=h
theorem z182_ {P:Prop} (h:P:=by (try simp only[List.map_toArray,List.map_cons,List.map_nil]);first|done|(simp only[hji10];rfl)|rfl|(simp only[List.length_drop,List.length_take];rfl)):P:=h
theorem z183_ {P:Prop} (h:P:=by refine ub_ (blk_put (cs:=#[.slice Ao20 yaH.length co20,.slice Ao22 ya7.length co22,ut]) ?_ 2 _ rfl);exact ub_ BKe.out):P:=h
theorem z184_ {P:Prop} (h:P:=by refine ub_ (blk_put (cs:=#[.slice Ao11 ybN.length co11,.slice Ao14 ycj.length co14,uP]) ?_ 2 _ rfl);exact ub_ BKJ.out):P:=h
theorem z185_ {P:Prop} (h:P:=by exact ur_ HO_aC.out):P:=h
theorem z186_ {P:Prop} (h:P:=by exact ur_ HO_aL.out):P:=h
theorem z187_ {P:Prop} (h:P:=by repeat(first|(with_reducible first|exact HIbx.out|apply IsS86.alloc|apply IsS86.drewN|apply IsS86.drew|apply IsS86.set_1|apply IsS86.set_2|refine IsS86.far ?_ NBbx_aE.out _)|exact HIbx.out)):P:=h
theorem z188_ {P:Prop} (h:P:=by exact uq_ HLc_0.out):P:=h
theorem z189_ {P:Prop} (h:P:=by first|omega|exact Nat.le_refl _):P:=h
theorem z190_ {P:Prop} (h:P:=by exact ur_ HOhE.out):P:=h
theorem z191_ {P:Prop} (h:P:=by exact uq_ HOeA.out):P:=h
theorem z192_ {P:Prop} (h:P:=by exact ur_ HOeJ.out):P:=h
theorem z193_ {P:Prop} (h:P:=by exact(fun k_ hk=>⟨Kd.fresh' (R_lt (by exact ur_ HO_aL.out)) k_ hk,Kd.fresh' (R_lt (by exact ur_ HO_aC.out)) k_ hk⟩)):P:=h
theorem z194_ {P:Prop} (h:P:=by rintro w' ⟨s0,s1,s2,s3,s4,s5,s6,s7,s9,s10,s11⟩;go_simp;with_reducible rfl):P:=h
theorem z195_ {P:Prop} (h:P:=by exact(fun k_ hk=>⟨Kd.fresh' (R_lt (by exact ur_ HO_4.out)) k_ hk,Kd.fresh' (R_lt (by exact ur_ HO_5.out)) k_ hk⟩)):P:=h
theorem z196_ {P:Prop} (h:P:=by exact ub_ BKbQ.out):P:=h
theorem z197_ {P:Prop} (h:P:=by exact ub_ BKcr.out):P:=h
theorem z198_ {P:Prop} (h:P:=by rintro w' ⟨s0,s1,s2,s3,s4,s5,s6,s7⟩;go_simp;with_reducible rfl):P:=h
theorem z199_ {P:Prop} (h:P:=by rintro w' ⟨s0,s1⟩;go_simp;with_reducible rfl):P:=h
theorem z200_ {P:Prop} (h:P:=by exact ur_ (R_mono HO_4.out (fun _ hk=>⟨trivial,hk⟩))):P:=h
theorem z201_ {P:Prop} (h:P:=by exact ur_ (R_mono HO_5.out (fun _ hk=>⟨hk.2,hk.1⟩))):P:=h
theorem z202_ {P:Prop} (h:P:=by rintro w' ⟨s0,s1,s8,s9⟩;go_simp;with_reducible rfl):P:=h
theorem z203_ {P:Prop} (h:P:=by exact ur_ (R_mono HO_3.out (fun _ hk=>trivial))):P:=h
theorem z204_ {P:Prop} (h:P:=by exact ur_ HO_aN.out):P:=h
theorem z205_ {P:Prop} (h:P:=by exact ur_ HO_aO.out):P:=h
theorem z206_ {P:Prop} (h:P:=by exact ur_ HO_a0.out):P:=h
theorem z207_ {P:Prop} (h:P:=by exact ur_ HO_a1.out):P:=h
theorem z208_ {P:Prop} (h:P:=by exact ur_ HO_w.out):P:=h
theorem z209_ {P:Prop} (h:P:=by exact(Reps.one (show Kd.M (Kd.int .i64) _ _ _ 1 [.int .i64 1] from rfl) (Reps.none _ _))):P:=h
theorem z210_ {P:Prop} (h:P:=by exact ur_ HOfW.out):P:=h
theorem z211_ {P:Prop} (h:P:=by exact ur_ HOds.out):P:=h
theorem z212_ {P:Prop} (h:P:=by exact uq_ HOfx.out):P:=h
theorem z213_ {P:Prop} (h:P:=by exact ur_ HOeK.out):P:=h
theorem z214_ {P:Prop} (h:P:=by exact ur_ HOfX.out):P:=h
theorem z215_ {P:Prop} (h:P:=by exact ur_ HOfY.out):P:=h
theorem z216_ {P:Prop} (h:P:=by exact us_ HOdn.out):P:=h
theorem z217_ {P:Prop} (h:P:=by exact uq_ HOdo.out):P:=h
theorem z218_ {P:Prop} (h:P:=by exact ur_ HOdp.out):P:=h
theorem z219_ {P:Prop} (h:P:=by exact uq_ HOdq.out):P:=h
theorem z220_ {P:Prop} (h:P:=by exact ur_ HOdr.out):P:=h
theorem z221_ {P:Prop} (h:P:=by repeat(first|exact(R_reads' HOci.out).2.2|(with_reducible refine C_alloc ?_ _)|(with_reducible refine C_drewN ?_ _)|(with_reducible refine C_drew ?_))):P:=h
theorem z222_ {P:Prop} (h:P:=by repeat(first|exact(Q_reads' HOeA.out).2.2|(with_reducible refine C_alloc ?_ _)|(with_reducible refine C_drewN ?_ _)|(with_reducible refine C_drew ?_))):P:=h
theorem z223_ {P:Prop} (h:P:=by exact ur_ (R_mono (R_far (p:=⟨gbd,4,none⟩) (R_types HO_aN.out BKd.out (by decide)) (fun _ hk=>hk.2) (.slice Ao64 yaS.length co64)) (fun _ h_=>h_.1))):P:=h
theorem z224_ {P:Prop} (h:P:=by exact ur_ (R_mono (R_far (p:=⟨gbd,4,none⟩) (R_types HO_aO.out BKd.out (by decide)) (fun _ hk=>hk.2) (.slice Ao64 yaS.length co64)) (fun _ h_=>h_.1))):P:=h
theorem z225_ {P:Prop} (h:P:=by exact ur_ (R_mono (R_far (p:=⟨gbd,4,none⟩) (R_types HO_a0.out BKd.out (by decide)) (fun _ hk=>hk.2) (.slice Ao64 yaS.length co64)) (fun _ h_=>h_.1))):P:=h
theorem z226_ {P:Prop} (h:P:=by exact ur_ (R_mono (R_far (p:=⟨gbd,4,none⟩) (R_types HO_a1.out BKd.out (by decide)) (fun _ hk=>hk.2) (.slice Ao64 yaS.length co64)) (fun _ h_=>h_.1))):P:=h
theorem z227_ {P:Prop} (h:P:=by exact ur_ (R_mono (R_far (p:=⟨gbd,4,none⟩) (R_types HO_w.out BKd.out (by decide)) (fun _ hk=>hk.2) (.slice Ao64 yaS.length co64)) (fun _ h_=>h_.1))):P:=h
theorem z228_ {P:Prop} (h:P:=by repeat(first|exact(R_reads' HO_5.out).2.2|(with_reducible refine C_alloc ?_ _)|(with_reducible refine C_drewN ?_ _)|(with_reducible refine C_drew ?_))):P:=h
theorem z229_ {P:Prop} (h:P:=by exact uq_ HO_5.out):P:=h
theorem z230_ {P:Prop} (h:P:=by exact us_ HO_3.out):P:=h
theorem z231_ {P:Prop} (h:P:=by exact ur_ (R_mono (R_far (p:=⟨gbd,4,none⟩) (R_types HO_62.out BKd.out (by decide)) (fun _ hk=>hk.2) (.slice Ao64 yaS.length co64)) (fun _ h_=>h_.1))):P:=h
theorem z232_ {P:Prop} (h:P:=by exact ur_ (R_mono (R_far (p:=⟨gbd,4,none⟩) (R_types HOg8.out BKd.out (by decide)) (fun _ hk=>hk.2) (.slice Ao64 yaS.length co64)) (fun _ h_=>h_.1))):P:=h
theorem z233_ {P:Prop} (h:P:=by refine ub_ (blk_far ?_ NBG_e.out _);exact ub_ BKG.out):P:=h
theorem z234_ {P:Prop} (h:P:=by repeat(first|(with_reducible first|exact HB.out|apply below_alloc|apply pw_below_drewN|apply below_drew1|refine below_set ?_ GEq.out)|exact HB.out)):P:=h
theorem z235_ {P:Prop} (h:P:=by repeat(first|(with_reducible first|exact HB.out|apply below_alloc|apply pw_below_drewN|apply below_drew1|refine below_set ?_ GEG.out)|exact HB.out)):P:=h
theorem z236_ {P:Prop} (h:P:=by repeat(first|(with_reducible first|exact HB.out|apply below_alloc|apply pw_below_drewN|apply below_drew1|refine below_set ?_ GEZ.out)|exact HB.out)):P:=h
theorem z237_ {P:Prop} (h:P:=by exact(Reps.one (show Kd.M (Kd.int .i64) _ _ _ (-1) [.int .i64 (-1)] from rfl) (Reps.one (show Kd.M (Kd.int .i64) _ _ _ 1001 [.int .i64 1001] from rfl) (Reps.one (show Kd.M (Kd.int .i64) _ _ _ 1000 [.int .i64 1000] from rfl) (Reps.none _ _))))):P:=h
theorem z238_ {P:Prop} (h:P:=by simp only[putAll,Act.put,List.setIfInBounds_toArray,List.set_cons_zero,List.set_cons_succ]):P:=h
theorem z239_ {P:Prop} (h:P:=by exact ub_ BKdK.out):P:=h
theorem z240_ {P:Prop} (h:P:=by exact ub_ BKdL.out):P:=h
theorem z241_ {P:Prop} (h:P:=by exact ub_ BKbe.out):P:=h
theorem z242_ {P:Prop} (h:P:=by exact ub_ BKJ.out):P:=h
theorem z243_ {P:Prop} (h:P:=by exact ur_ (R_mono HO_aO.out (fun _ hk=>⟨hk.2,⟨hk.1.1.1,⟨hk.1.1.2.1,⟨hk.1.1.2.2.1,⟨hk.1.1.2.2.2.1,⟨hk.1.2,hk.1.1.2.2.2.2⟩⟩⟩⟩⟩⟩))):P:=h
theorem z244_ {P:Prop} (h:P:=by rw[e_];rfl):P:=h
theorem z245_ {P:Prop} (h:P:=by exact ur_ HO_ag.out):P:=h
theorem z246_ {P:Prop} (h:P:=by exact ur_ HO_P.out):P:=h
theorem z247_ {P:Prop} (h:P:=by exact ur_ (R_mono HO_aN.out (fun _ hk=>⟨hk.2.1,⟨hk.2.2.1,⟨hk.2.2.2.1,⟨(by simp[Value.ownBlock]),hk.2.2.2.2⟩⟩⟩⟩))):P:=h
theorem z248_ {P:Prop} (h:P:=by exact ur_ HOdM.out):P:=h
theorem z249_ {P:Prop} (h:P:=by exact ur_ HOg9.out):P:=h
theorem z250_ {P:Prop} (h:P:=by exact ur_ HO_11.out):P:=h
theorem z251_ {P:Prop} (h:P:=by exact ur_ HO_62.out):P:=h
theorem z252_ {P:Prop} (h:P:=by exact ur_ HOha.out):P:=h
theorem z253_ {P:Prop} (h:P:=by exact ur_ HOdm.out):P:=h
theorem z254_ {P:Prop} (h:P:=by exact ur_ HO_6.out):P:=h
theorem z255_ {P:Prop} (h:P:=by exact uq_ HO_3.out):P:=h
theorem z256_ {P:Prop} (h:P:=by exact ur_ HO3.out):P:=h
theorem z257_ {P:Prop} (h:P:=by exact(R_reads' HO_aP.out).2.1):P:=h
theorem z258_ {P:Prop} (h:P:=by exact(Q_reads' HO_aQ.out).2.1):P:=h
theorem z259_ {P:Prop} (h:P:=by exact(R_reads' HO_aR.out).2.1):P:=h
theorem z260_ {P:Prop} (h:P:=by exact ur_ (R_mono HO_4.out (fun _ hk=>trivial))):P:=h
theorem z261_ {P:Prop} (h:P:=by exact us_ (S_mono HO_3.out (fun _ hk=>trivial))):P:=h
theorem z262_ {P:Prop} (h:P:=by rintro w' ⟨s0,s1,s2,s3,s4,s5,s6,s7,s8,s9⟩;go_simp;with_reducible rfl):P:=h
theorem z263_ {P:Prop} (h:P:=by first|exact qz|exact odt_|(have e_:=(S_reads' HO_6.out).1;omega)):P:=h
theorem z264_ {P:Prop} (h:P:=by exact C_below HR0.out (by repeat(first|(with_reducible first|exact HB.out|apply below_alloc|apply pw_below_drewN|apply below_drew1|refine below_set ?_ GEa4.out)|exact HB.out))):P:=h
theorem z265_ {P:Prop} (h:P:=by repeat(first|(with_reducible exact HRfy.out)|(with_reducible refine C_alloc ?_ _)|(with_reducible refine C_drewN ?_ _)|(with_reducible refine C_drew ?_)|exact HRfy.out)):P:=h
theorem z266_ {P:Prop} (h:P:=by repeat(first|(with_reducible exact HRfZ.out)|(with_reducible refine C_alloc ?_ _)|(with_reducible refine C_drewN ?_ _)|(with_reducible refine C_drew ?_)|exact HRfZ.out)):P:=h
theorem z267_ {P:Prop} (h:P:=by simp only[List.map_toArray,List.map_cons,List.map_nil];rfl):P:=h
theorem z268_ {P:Prop} (h:P:=by exact ur_ (R_mono HOdm.out (fun _ hk=>⟨hk.1.1.1.1.2,⟨hk.1.1.1.2,⟨hk.1.1.2,⟨hk.1.2,hk.2⟩⟩⟩⟩))):P:=h
theorem z269_ {P:Prop} (h:P:=by repeat(first|exact HK.out|apply Kept.alloc|apply Kept.drewN|apply Kept.drew|refine Kept.setCell ?_ HMgo48.out _)):P:=h
theorem z270_ {P:Prop} (h:P:=by exact ur_ (R_mono HOaD.out (fun _ hk=>⟨hk.1.1,⟨hk.1.2.1,⟨hk.1.2.2.1,⟨hk.1.2.2.2,hk.2⟩⟩⟩⟩))):P:=h
theorem z271_ {P:Prop} (h:P:=by exact ur_ (R_mono HOaF.out (fun _ hk=>⟨hk.1.1,⟨hk.1.2.1,⟨hk.1.2.2.1,⟨hk.1.2.2.2,hk.2⟩⟩⟩⟩))):P:=h
theorem z272_ {P:Prop} (h:P:=by exact ur_ (R_mono HObd.out (fun _ hk=>⟨hk.1.1,⟨hk.1.2.1,⟨hk.1.2.2.1,⟨hk.1.2.2.2,hk.2⟩⟩⟩⟩))):P:=h
theorem z273_ {P:Prop} (h:P:=by exact ur_ (R_mono HObI.out (fun _ hk=>⟨hk.1.1,⟨hk.1.2.1,⟨hk.1.2.2.1,⟨hk.1.2.2.2,hk.2⟩⟩⟩⟩))):P:=h
theorem z274_ {P:Prop} (h:P:=by exact ur_ (R_mono HOcb.out (fun _ hk=>⟨hk.1.1,⟨hk.1.2.1,⟨hk.1.2.2.1,⟨hk.1.2.2.2,hk.2⟩⟩⟩⟩))):P:=h
theorem z275_ {P:Prop} (h:P:=by exact(by exact ur_ (R_mono HO_L.out (fun _ hk=>⟨hk.1.1.1,⟨hk.1.1.2,⟨hk.1.2,hk.2⟩⟩⟩)))):P:=h
theorem z276_ {P:Prop} (h:P:=by exact(Reps.none _ _)):P:=h
theorem z277_ {P:Prop} (h:P:=by rintro w' ⟨s0,s1,s2,s3,s4⟩;go_simp;with_reducible rfl):P:=h
theorem z278_ {P:Prop} (h:P:=by exact(Q_reads' HO_7.out).2.1):P:=h
theorem z279_ {P:Prop} (h:P:=by exact ub_ BKbi.out):P:=h
theorem z280_ {P:Prop} (h:P:=by repeat(first|exact(R_reads' HOeL.out).2.2|(with_reducible refine C_alloc ?_ _)|(with_reducible refine C_drewN ?_ _)|(with_reducible refine C_drew ?_))):P:=h
theorem z281_ {P:Prop} (h:P:=by repeat(first|exact(R_reads' HOeM.out).2.2|(with_reducible refine C_alloc ?_ _)|(with_reducible refine C_drewN ?_ _)|(with_reducible refine C_drew ?_))):P:=h
theorem z282_ {P:Prop} (h:P:=by repeat(first|exact(R_reads' HOeN.out).2.2|(with_reducible refine C_alloc ?_ _)|(with_reducible refine C_drewN ?_ _)|(with_reducible refine C_drew ?_))):P:=h
theorem z283_ {P:Prop} (h:P:=by repeat(first|exact(R_reads' HOeJ.out).2.2|(with_reducible refine C_alloc ?_ _)|(with_reducible refine C_drewN ?_ _)|(with_reducible refine C_drew ?_))):P:=h
theorem z284_ {P:Prop} (h:P:=by repeat(first|exact(S_reads' HOdn.out).2.2|(with_reducible refine C_alloc ?_ _)|(with_reducible refine C_drewN ?_ _)|(with_reducible refine C_drew ?_))):P:=h
theorem z285_ {P:Prop} (h:P:=by repeat(first|exact(Q_reads' HOdo.out).2.2|(with_reducible refine C_alloc ?_ _)|(with_reducible refine C_drewN ?_ _)|(with_reducible refine C_drew ?_))):P:=h
theorem z286_ {P:Prop} (h:P:=by repeat(first|exact(R_reads' HOdp.out).2.2|(with_reducible refine C_alloc ?_ _)|(with_reducible refine C_drewN ?_ _)|(with_reducible refine C_drew ?_))):P:=h
theorem z287_ {P:Prop} (h:P:=by repeat(first|exact(Q_reads' HOdq.out).2.2|(with_reducible refine C_alloc ?_ _)|(with_reducible refine C_drewN ?_ _)|(with_reducible refine C_drew ?_))):P:=h
theorem z288_ {P:Prop} (h:P:=by repeat(first|exact(R_reads' HOdr.out).2.2|(with_reducible refine C_alloc ?_ _)|(with_reducible refine C_drewN ?_ _)|(with_reducible refine C_drew ?_))):P:=h
theorem z289_ {P:Prop} (h:P:=by first|rfl|(simp[errW_none,errW_some]<;>rfl)|(simp only[←hji14];first|rfl|(simp[errW_none,errW_some]<;>rfl))|(simp[*,errW_none,errW_some]<;>rfl)):P:=h
theorem z290_ {P:Prop} (h:P:=by first|rfl|(simp[errW_none,errW_some]<;>rfl)|(simp only[←hji10];first|rfl|(simp[errW_none,errW_some]<;>rfl))|(simp[*,errW_none,errW_some]<;>rfl)):P:=h
theorem z292_ {P:Prop} (h:P:=by exact ur_ (R_mono HO_E.out (fun _ hk=>⟨⟨hk.1.1.2,⟨hk.1.2,hk.2⟩⟩,hk.1.1.1⟩))):P:=h
theorem z293_ {P:Prop} (h:P:=by exact ur_ (R_mono HO_t.out (fun _ hk=>⟨⟨hk.1.1.2,⟨hk.1.2,hk.2⟩⟩,hk.1.1.1⟩))):P:=h
theorem z294_ {P:Prop} (h:P:=by exact ur_ (R_mono HOci.out (fun _ hk=>⟨⟨hk.1.1.2,⟨hk.1.2,hk.2⟩⟩,hk.1.1.1.2⟩))):P:=h
theorem z295_ {P:Prop} (h:P:=by exact ur_ (R_mono HOds.out (fun _ hk=>⟨⟨hk.1.1.2,⟨hk.1.2,hk.2⟩⟩,hk.1.1.1.2⟩))):P:=h
theorem z296_ {P:Prop} (h:P:=by exact ur_ (R_mono HOcb.out (fun _ hk=>⟨hk.1.1.1.2,⟨hk.1.1.2,⟨hk.1.2,hk.2⟩⟩⟩))):P:=h
theorem z297_ {P:Prop} (h:P:=by exact(by exact ur_ (R_mono HO_t.out (fun _ hk=>⟨hk.1.1,⟨hk.1.2,hk.2⟩⟩)))):P:=h
theorem z298_ {P:Prop} (h:P:=by exact ur_ (R_mono HOci.out (fun _ hk=>⟨hk.2,⟨hk.1.2.2,⟨hk.1.1,hk.1.2.1⟩⟩⟩))):P:=h
theorem z299_ {P:Prop} (h:P:=by exact ur_ (R_mono HOds.out (fun _ hk=>⟨hk.1.2.2,⟨hk.2,⟨hk.1.1,hk.1.2.1⟩⟩⟩))):P:=h
theorem z300_ {P:Prop} (h:P:=by exact ur_ (R_mono HOaD.out (fun _ hk=>⟨hk.1.1,⟨hk.1.2.1,⟨hk.1.2.2,hk.2⟩⟩⟩))):P:=h
theorem z301_ {P:Prop} (h:P:=by exact ur_ (R_mono HOaF.out (fun _ hk=>⟨hk.1.1,⟨hk.1.2.1,⟨hk.1.2.2,hk.2⟩⟩⟩))):P:=h
theorem z302_ {P:Prop} (h:P:=by exact ur_ (R_mono HObd.out (fun _ hk=>⟨hk.1.1,⟨hk.1.2.1,⟨hk.1.2.2,hk.2⟩⟩⟩))):P:=h
theorem z303_ {P:Prop} (h:P:=by exact ur_ (R_mono HObI.out (fun _ hk=>⟨hk.1.1,⟨hk.1.2.1,⟨hk.1.2.2,hk.2⟩⟩⟩))):P:=h
theorem z304_ {P:Prop} (h:P:=by exact ur_ HO_ct.out):P:=h
theorem z305_ {P:Prop} (h:P:=by exact ur_ HO_cu.out):P:=h
theorem z306_ {P:Prop} (h:P:=by exact ur_ HO_cv.out):P:=h
theorem z307_ {P:Prop} (h:P:=by exact ur_ HO_cw.out):P:=h
theorem z308_ {P:Prop} (h:P:=by exact(R_reads' HO_4.out).2.1):P:=h
theorem z310_ {P:Prop} (h:P:=by exact ur_ (R_mono HO_L.out (fun _ hk=>⟨⟨hk.1.1,hk.2⟩,hk.1.2⟩))):P:=h
theorem z311_ {P:Prop} (h:P:=by exact ur_ (R_mono HO_E.out (fun _ hk=>⟨⟨hk.1.1,hk.2⟩,hk.1.2⟩))):P:=h
theorem z312_ {P:Prop} (h:P:=by exact ur_ HOgn.out):P:=h
theorem z313_ {P:Prop} (h:P:=by exact ur_ HO_84.out):P:=h
theorem z314_ {P:Prop} (h:P:=by exact ur_ HOd3.out):P:=h
theorem z315_ {P:Prop} (h:P:=by exact ur_ HO_12.out):P:=h
theorem z316_ {P:Prop} (h:P:=by first|exact qc|exact odt_|(have e_:=(S_reads' HO_6.out).1;omega)):P:=h
theorem z317_ {P:Prop} (h:P:=by exact ur_ (R_mono HObI.out (fun _ hk=>⟨hk.1.1.2,⟨hk.1.2,hk.2⟩⟩))):P:=h
theorem z318_ {P:Prop} (h:P:=by exact(fun k_ hk=>Kd.fresh' (R_lt (by exact ur_ HO_5.out)) k_ hk)):P:=h
theorem z319_ {P:Prop} (h:P:=by exact ur_ (R_mono HOdN.out (fun _ hk=>⟨hk.1.1.2,⟨hk.1.2,hk.2⟩⟩))):P:=h
theorem z320_ {P:Prop} (h:P:=by exact ur_ HO_9.out):P:=h
theorem z321_ {P:Prop} (h:P:=by exact us_ (S_mono HO_3.out (fun k_ hk=>⟨hk.1,fun e_=>hk.2 e_⟩))):P:=h
theorem z322_ {P:Prop} (h:P:=by exact ur_ (R_mono HOaD.out (fun _ hk=>⟨hk.1.1,⟨hk.1.2,hk.2⟩⟩))):P:=h
theorem z323_ {P:Prop} (h:P:=by exact ur_ (R_mono HOaF.out (fun _ hk=>⟨hk.1.1,⟨hk.1.2,hk.2⟩⟩))):P:=h
theorem z324_ {P:Prop} (h:P:=by exact ur_ (R_mono HObd.out (fun _ hk=>⟨hk.1.1,⟨hk.1.2,hk.2⟩⟩))):P:=h
theorem z325_ {P:Prop} (h:P:=by exact ur_ (R_mono HOaU.out (fun _ hk=>⟨hk.1.1,⟨hk.1.2,hk.2⟩⟩))):P:=h
theorem z326_ {P:Prop} (h:P:=by exact ur_ (R_mono HObg.out (fun _ hk=>⟨hk.1.1,⟨hk.1.2,hk.2⟩⟩))):P:=h
theorem z327_ {P:Prop} (h:P:=by exact ur_ (R_mono HOaV.out (fun _ hk=>⟨hk.1.1,⟨hk.1.2,hk.2⟩⟩))):P:=h
theorem z328_ {P:Prop} (h:P:=by have:=HK1.out;have:=HK2.out;have:=HK3.out;have:=HK4.out;omega):P:=h
theorem z329_ {P:Prop} (h:P:=by exact(Q_reads' HO_3.out).2.1):P:=h
theorem z330_ {P:Prop} (h:P:=by exact(fun _ _=>trivial)):P:=h
theorem z331_ {P:Prop} (h:P:=by exact ur_ (R_mono HObd.out (fun _ hk=>⟨hk.1.2,hk.2⟩))):P:=h
theorem z332_ {P:Prop} (h:P:=by exact ur_ (R_mono HO_11.out (fun _ hk=>⟨hk.2,hk.1⟩))):P:=h
theorem z333_ {P:Prop} (h:P:=by first|exact S_nil _ _ _ _ _|exact N_nil _ _ _ _ _|exact V_nil _ _ _ _ _|exact Q_nil _ _ _ _ _|exact R_nil _ _ _ _ _):P:=h
theorem z334_ {P:Prop} (h:P:=by exact ur_ (R_mono HO_4.out (fun _ hk=>hk.2))):P:=h
theorem z335_ {P:Prop} (h:P:=by exact uq_ (Q_mono HO_5.out (fun _ hk=>hk.2))):P:=h
theorem z336_ {P:Prop} (h:P:=by rintro w' ⟨s0,s1,s2⟩;go_simp;with_reducible rfl):P:=h
theorem z337_ {P:Prop} (h:P:=by repeat(first|exact HK.out|apply Kept.alloc|apply Kept.drewN|apply Kept.drew|refine Kept.setCell ?_ HMgo29.out _)):P:=h
theorem z338_ {P:Prop} (h:P:=by exact(by exact ur_ HO_P.out)):P:=h
theorem z339_ {P:Prop} (h:P:=by simp[Value.ownBlock]):P:=h
theorem z340_ {P:Prop} (h:P:=by rintro w' ⟨s0,s1,s2,s3,s4,s5,s6,s7,s8⟩;go_simp;with_reducible rfl):P:=h
theorem z341_ {P:Prop} (h:P:=by have:=HJ5.out;have:=HJ16.out;have:=HK3.out;have:=HJ47.out;omega):P:=h
theorem z342_ {P:Prop} (h:P:=by exact uq_ HLu_0.out):P:=h
theorem z343_ {P:Prop} (h:P:=by exact ur_ HOfz.out):P:=h
theorem z344_ {P:Prop} (h:P:=by exact ur_ HOhF.out):P:=h
theorem z345_ {P:Prop} (h:P:=by exact ur_ HOeL.out):P:=h
theorem z346_ {P:Prop} (h:P:=by exact ur_ HOeM.out):P:=h
theorem z347_ {P:Prop} (h:P:=by exact ur_ HOeN.out):P:=h
theorem z348_ {P:Prop} (h:P:=by exact ur_ HOhG.out):P:=h
theorem z349_ {P:Prop} (h:P:=by exact ur_ HOhH.out):P:=h
theorem z350_ {P:Prop} (h:P:=by exact ur_ HOhb.out):P:=h
theorem z351_ {P:Prop} (h:P:=by have:=HK1.out;first|omega|exact Nat.le_refl _):P:=h
theorem z352_ {P:Prop} (h:P:=by exact ur_ HOhI.out):P:=h
theorem z353_ {P:Prop} (h:P:=by exact ur_ HOhJ.out):P:=h
theorem z354_ {P:Prop} (h:P:=by exact ur_ HOiU.out):P:=h
theorem z355_ {P:Prop} (h:P:=by exact ur_ HOfA.out):P:=h
theorem z356_ {P:Prop} (h:P:=by exact ur_ HOiV.out):P:=h
theorem z357_ {P:Prop} (h:P:=by exact ur_ HOfB.out):P:=h
theorem z358_ {P:Prop} (h:P:=by exact us_ HOhc.out):P:=h
theorem z359_ {P:Prop} (h:P:=by exact ur_ HOiW.out):P:=h
theorem z360_ {P:Prop} (h:P:=by exact ur_ HOdN.out):P:=h
theorem z361_ {P:Prop} (h:P:=by exact us_ HOhd.out):P:=h
theorem z362_ {P:Prop} (h:P:=by exact ur_ HO_8.out):P:=h
theorem z363_ {P:Prop} (h:P:=by simpa only[Option.some.injEq,Value.slice.injEq,true_and,eq_self] using hxc_0.symm.trans hxc_0):P:=h
theorem z364_ {P:Prop} (h:P:=by simpa only[Option.some.injEq,Value.slice.injEq,true_and,eq_self] using hxc_0.symm.trans hxu_0):P:=h
theorem z365_ {P:Prop} (h:P:=by simpa only[Option.some.injEq,Value.slice.injEq,true_and,eq_self] using hxu_0.symm.trans hxc_0):P:=h
theorem z366_ {P:Prop} (h:P:=by rintro w' ⟨s0,s1,s2,s3,s4,s5,s6⟩;go_simp;with_reducible rfl):P:=h
theorem z367_ {P:Prop} (h:P:=by have:=HK1.out;have:=HJ6.out;omega):P:=h
theorem z371_ {P:Prop} (h:P:=by have:=HJ5.out;have:=HJ16.out;have:=HK3.out;first|omega|exact Nat.le_refl _):P:=h
theorem z372_ {P:Prop} (h:P:=by (refine MeasAt.keep ?_ HS2.out;exact fun _ _ h_=>h_)):P:=h
theorem z373_ {P:Prop} (h:P:=by have:=HJ5.out;first|omega|exact Nat.le_refl _):P:=h
theorem z374_ {P:Prop} (h:P:=by exact(S_reads' HOdn.out).2.1):P:=h
theorem z375_ {P:Prop} (h:P:=by exact(Q_reads' HOdo.out).2.1):P:=h
theorem z376_ {P:Prop} (h:P:=by exact(R_reads' HOdp.out).2.1):P:=h
theorem z377_ {P:Prop} (h:P:=by exact(Q_reads' HOdq.out).2.1):P:=h
theorem z378_ {P:Prop} (h:P:=by exact(R_reads' HOdr.out).2.1):P:=h
theorem z379_ {P:Prop} (h:P:=by have:=LMc18.out;omega):P:=h
theorem y0_ {P:Prop} (h:P:=by kernel_rfl):P:=h
theorem y1_ {P:Prop} (h:P:=by repeat((with_reducible exact HI0.out))):P:=h
theorem y2_ {P:Prop} (h:P:=by refine ub_ (blk_put (cs:=#[.slice Ao13 tD.length co13,.slice Ao17 tak.length co17,.slice none 0 0]) ?_ 2 _ rfl);refine ub_ (blk_put (cs:=#[.slice Ao13 tD.length co13,.slice none 0 0,.slice none 0 0]) ?_ 1 _ rfl);refine ub_ (blk_put (cs:=#[.slice none 0 0,.slice none 0 0,.slice none 0 0]) ?_ 0 _ rfl);exact ub_ BKm.out):P:=h
theorem y3_ {P:Prop} (h:P:=by repeat(first|(with_reducible first|exact HB.out|apply below_alloc|apply pw_below_drewN|apply below_drew1|refine below_set ?_ GEq.out|refine below_set ?_ GEj.out|refine below_set ?_ GEd.out)|exact HB.out)):P:=h
theorem y4_ {P:Prop} (h:P:=by repeat(first|(with_reducible first|exact HB.out|apply below_alloc|apply pw_below_drewN|apply below_drew1|refine below_set ?_ GEG.out|refine below_set ?_ GEe.out)|exact HB.out)):P:=h
theorem y5_ {P:Prop} (h:P:=by repeat(first|(with_reducible first|exact HB.out|apply below_alloc|apply pw_below_drewN|apply below_drew1|refine below_set ?_ GEZ.out|refine below_set ?_ GEJ.out)|exact HB.out)):P:=h
theorem y6_ {P:Prop} (h:P:=by repeat(first|(with_reducible first|exact HB.out|apply below_alloc|apply pw_below_drewN|apply below_drew1)|exact HB.out)):P:=h
theorem y7_ {P:Prop} (h:P:=by repeat((with_reducible first|exact HI0.out|refine IsS86.far ?_ NB0_n.out _))):P:=h
theorem y8_ {P:Prop} (h:P:=by repeat((with_reducible first|exact HI0.out|refine IsS86.far ?_ NB0_s.out _))):P:=h
theorem y9_ {P:Prop} (h:P:=by repeat((with_reducible exact HIbv.out))):P:=h

theorem bnd_ {α β:Type} {o:Option α} {f:α→Option β} {r:β} (h:o.bind f=some r):∃t,Aside0 (o=some t)∧f t=some r:=by
 obtain⟨t,h1,h2⟩:=be_ h;exact⟨t,⟨h1⟩,h2⟩
theorem ifs_ {α:Type} {p:Prop} [Decidable p] {a:Option α} {r:α} (h:(if p then a else none)=some r):p∧a=some r:=by
 by_cases c:p
 ·rw[if_pos c] at h;exact⟨c,h⟩
 ·rw[if_neg c] at h;cases h
theorem ifd_ {α:Type} {p:Prop} [Decidable p] {a:Option α} {r:α} (h:(if p then a else none)=some r):decide p=true∧a=some r:=⟨decide_eq_true (ifs_ h).1,(ifs_ h).2⟩
theorem ife_ {α:Type} {p:Prop} [Decidable p] {a:Option α} {r:α} (h:(if p then a else none)=some r):p=True∧decide p=true∧a=some r:=⟨eq_true (ifs_ h).1,decide_eq_true (ifs_ h).1,(ifs_ h).2⟩
theorem ift_ {α:Type} {a b r:α} (h:(if true=true then a else b)=r):a=r:=h
theorem iff_ {α:Type} {a b r:α} (h:(if false=true then a else b)=r):b=r:=h
theorem odt_ {p:Prop} [Decidable p] (h:decide p=true:=by first|(with_reducible assumption)|assumption):p:=of_decide_eq_true h
def fl_ (n k:Nat):Array Bool:=(List.replicate k true++List.replicate (n-k) false).toArray
def rl_ (b:Bool):List Nat→List Bool
 | []=>[]
 |n::r=>List.replicate n b++rl_ (!b) r
def ra_ (r:List Nat):Array Bool:=(rl_ true r).toArray
theorem fl_zero (n:Nat):Array.replicate n false=fl_ n 0:=by simp[fl_]
theorem am_ {P:Prop} (h:P):Aside0 P:=⟨h⟩
section
variable {P:Program} {md:Region.Mode} {ops:Array Oper} {Q:Exit→Act→World→Prop} {S:World→Prop} {ds:List Nat} {T:Bool×List (List Nat×List Nat)} {n i fuel:Nat} {oi:Oper} {M:Tmp} {v:Value} {a a':Act} {w:World}
theorem fl_start {id:Nat} (hm:P.follows .mixedOrders=true) (hn:ops.size=n) (hS:S w.drew) (h:S w.drew→wpAnyLast P .any ops Q S ds n (fl_ n 0) a w.drew):(Code.region id ops true).wp P Q a w:=start_ _ hm hn (fl_zero n) hS h
theorem zp_ (hT:Aside0 (rtab md ops=T)) (hi:ops[i]? =some oi) (hN:oi.dst=some M) (hc:anyT T (fl_ n i).toList (fl_ n (i+1)).toList i=true) (hQ:∀c a w,Q (.panic c) (a.put oi.dst v) w→Q (.panic c) a w) (hw:Region.wanted oi (yielded ops a.tmps)=true)
  (h:wpAnyLast P md ops Q S ds fuel (fl_ n (i+1)) a' w) (hy:∀w,(execOp a.eval oi).run P w= .ok (.value v) w:=by intro w';go_simp;with_reducible rfl) (ha:a.put (some M) v=a':=by simp only[Act.put,List.setIfInBounds_toArray,List.set_cons_zero,List.set_cons_succ,i64_w,i32_w];rfl):wpAnyLast P md ops Q S ds (fuel+1) (fl_ n i) a w:=pure_ _ hi hN (any_of hT.out hc) hQ (Or.inl ⟨hw,hy⟩) ha h
theorem yp_ (hT:Aside0 (rtab md ops=T))  (h:wpAnyLast P md ops Q S ds fuel (fl_ n (i+1)) a' w) (hi:ops[i]? =some oi:=by rfl) (hN:oi.dst=some M:=by rfl) (hc:anyT T (fl_ n i).toList (fl_ n (i+1)).toList i=true:=by kernel_rfl) (hQ:∀c a w,Q (.panic c) (a.put oi.dst v) w→Q (.panic c) a w:=by exact fun _ _ _ h=>h) (hw:Region.wanted oi (yielded ops a.tmps)=true:=by rfl) (hy:∀w,(execOp a.eval oi).run P w= .ok (.value v) w:=by intro w';go_simp;with_reducible rfl) (ha:a.put (some M) v=a':=by simp only[Act.put,List.setIfInBounds_toArray,List.set_cons_zero,List.set_cons_succ,i64_w,i32_w];rfl):wpAnyLast P md ops Q S ds (fuel+1) (fl_ n i) a w:=zp_ hT hi hN hc hQ hw h hy ha
theorem zu_ (hT:Aside0 (rtab md ops=T)) (hi:ops[i]? =some oi) (hN:oi.dst=some M) (hc:anyT T (fl_ n i).toList (fl_ n (i+1)).toList i=true) (hQ:∀c a w,Q (.panic c) (a.put oi.dst undef) w→Q (.panic c) a w) (hw:Region.wanted oi (yielded ops a.tmps)=false)
  (h:wpAnyLast P md ops Q S ds fuel (fl_ n (i+1)) a' w) (ha:a.put (some M) undef=a':=by simp only[Act.put,List.setIfInBounds_toArray,List.set_cons_zero,List.set_cons_succ,i64_w,i32_w];rfl):wpAnyLast P md ops Q S ds (fuel+1) (fl_ n i) a w:=pure_ _ hi hN (any_of hT.out hc) hQ (Or.inr ⟨hw,rfl⟩) ha h
theorem zt_ {B:List Nat} (hT:Aside0 (rtab md ops=T)) (hB:Aside0 (waitsOk T.2 B=true)) (hi:ops[i]? =some oi) (hN:oi.dst=some M) (hc:takeW T B ds (fl_ n i).toList (fl_ n (i+1)).toList i=true) (hQ:∀c a w,Q (.panic c) (a.put oi.dst v) w→Q (.panic c) a w) (hw:Region.wanted oi (yielded ops a.tmps)=true) (hS:S w)
  (h:wpAnyLast P md ops Q S ds fuel (fl_ n (i+1)) a' w) (hy:∀w,S w→(execOp a.eval oi).run P w= .ok (.value v) w) (ha:a.put (some M) v=a':=by simp only[Act.put,List.setIfInBounds_toArray,List.set_cons_zero,List.set_cons_succ,i64_w,i32_w];rfl):wpAnyLast P md ops Q S ds (fuel+1) (fl_ n i) a w:=take_ _ hi hN (take_ofW hT.out hB.out hc) hQ (Or.inl ⟨hw,hy⟩) hS ha h
theorem yt_ {B:List Nat} (hT:Aside0 (rtab md ops=T)) (hB:Aside0 (waitsOk T.2 B=true)) (hS:S w) (h:wpAnyLast P md ops Q S ds fuel (fl_ n (i+1)) a' w) (hi:ops[i]? =some oi:=by rfl) (hN:oi.dst=some M:=by rfl) (hc:takeW T B ds (fl_ n i).toList (fl_ n (i+1)).toList i=true:=by kernel_rfl) (hQ:∀c a w,Q (.panic c) (a.put oi.dst v) w→Q (.panic c) a w:=by exact fun _ _ _ h=>h) (hw:Region.wanted oi (yielded ops a.tmps)=true:=by rfl) (hy:∀w,S w→(execOp a.eval oi).run P w= .ok (.value v) w) (ha:a.put (some M) v=a':=by simp only[Act.put,List.setIfInBounds_toArray,List.set_cons_zero,List.set_cons_succ,i64_w,i32_w];rfl):wpAnyLast P md ops Q S ds (fuel+1) (fl_ n i) a w:=zt_ hT hB hi hN hc hQ hw hS h hy ha
theorem zpg_ {l:Array Bool} (l':Array Bool) (hT:Aside0 (rtab md ops=T)) (hi:ops[i]? =some oi) (hN:oi.dst=some M) (hc:anyT T l.toList l'.toList i=true) (hQ:∀c a w,Q (.panic c) (a.put oi.dst v) w→Q (.panic c) a w) (hw:Region.wanted oi (yielded ops a.tmps)=true)
  (h:wpAnyLast P md ops Q S ds fuel l' a' w) (hy:∀w,(execOp a.eval oi).run P w= .ok (.value v) w:=by intro w';go_simp;with_reducible rfl) (ha:a.put (some M) v=a':=by simp only[Act.put,List.setIfInBounds_toArray,List.set_cons_zero,List.set_cons_succ,i64_w,i32_w];rfl):wpAnyLast P md ops Q S ds (fuel+1) l a w:=pure_ _ hi hN (any_of hT.out hc) hQ (Or.inl ⟨hw,hy⟩) ha h
theorem ypg_ {l:Array Bool} (l':Array Bool) (hT:Aside0 (rtab md ops=T))  (h:wpAnyLast P md ops Q S ds fuel l' a' w) (hi:ops[i]? =some oi:=by rfl) (hN:oi.dst=some M:=by rfl) (hc:anyT T l.toList l'.toList i=true:=by kernel_rfl) (hQ:∀c a w,Q (.panic c) (a.put oi.dst v) w→Q (.panic c) a w:=by exact fun _ _ _ h=>h) (hw:Region.wanted oi (yielded ops a.tmps)=true:=by rfl) (hy:∀w,(execOp a.eval oi).run P w= .ok (.value v) w:=by intro w';go_simp;with_reducible rfl) (ha:a.put (some M) v=a':=by simp only[Act.put,List.setIfInBounds_toArray,List.set_cons_zero,List.set_cons_succ,i64_w,i32_w];rfl):wpAnyLast P md ops Q S ds (fuel+1) l a w:=zpg_ l' hT hi hN hc hQ hw h hy ha
theorem zug_ {l:Array Bool} (l':Array Bool) (hT:Aside0 (rtab md ops=T)) (hi:ops[i]? =some oi) (hN:oi.dst=some M) (hc:anyT T l.toList l'.toList i=true) (hQ:∀c a w,Q (.panic c) (a.put oi.dst undef) w→Q (.panic c) a w) (hw:Region.wanted oi (yielded ops a.tmps)=false)
  (h:wpAnyLast P md ops Q S ds fuel l' a' w) (ha:a.put (some M) undef=a':=by simp only[Act.put,List.setIfInBounds_toArray,List.set_cons_zero,List.set_cons_succ,i64_w,i32_w];rfl):wpAnyLast P md ops Q S ds (fuel+1) l a w:=pure_ _ hi hN (any_of hT.out hc) hQ (Or.inr ⟨hw,rfl⟩) ha h
theorem ztg_ {B:List Nat} {l:Array Bool} (l':Array Bool) (hT:Aside0 (rtab md ops=T)) (hB:Aside0 (waitsOk T.2 B=true)) (hi:ops[i]? =some oi) (hN:oi.dst=some M) (hc:takeW T B ds l.toList l'.toList i=true) (hQ:∀c a w,Q (.panic c) (a.put oi.dst v) w→Q (.panic c) a w) (hw:Region.wanted oi (yielded ops a.tmps)=true) (hS:S w)
  (h:wpAnyLast P md ops Q S ds fuel l' a' w) (hy:∀w,S w→(execOp a.eval oi).run P w= .ok (.value v) w) (ha:a.put (some M) v=a':=by simp only[Act.put,List.setIfInBounds_toArray,List.set_cons_zero,List.set_cons_succ,i64_w,i32_w];rfl):wpAnyLast P md ops Q S ds (fuel+1) l a w:=take_ _ hi hN (take_ofW hT.out hB.out hc) hQ (Or.inl ⟨hw,hy⟩) hS ha h
theorem ytg_ {B:List Nat} {l:Array Bool} (l':Array Bool) (hT:Aside0 (rtab md ops=T)) (hB:Aside0 (waitsOk T.2 B=true)) (hS:S w) (h:wpAnyLast P md ops Q S ds fuel l' a' w) (hi:ops[i]? =some oi:=by rfl) (hN:oi.dst=some M:=by rfl) (hc:takeW T B ds l.toList l'.toList i=true:=by kernel_rfl) (hQ:∀c a w,Q (.panic c) (a.put oi.dst v) w→Q (.panic c) a w:=by exact fun _ _ _ h=>h) (hw:Region.wanted oi (yielded ops a.tmps)=true:=by rfl) (hy:∀w,S w→(execOp a.eval oi).run P w= .ok (.value v) w) (ha:a.put (some M) v=a':=by simp only[Act.put,List.setIfInBounds_toArray,List.set_cons_zero,List.set_cons_succ,i64_w,i32_w];rfl):wpAnyLast P md ops Q S ds (fuel+1) l a w:=ztg_ l' hT hB hi hN hc hQ hw hS h hy ha
theorem zn_ {l:Array Bool} {a0:Act} {N:Option Tmp} (hN:N=some M) (h:wpAnyLast P md ops Q S ds fuel l a' w) (ha:a0.put (some M) v=a':=by simp only[Act.put,List.setIfInBounds_toArray,List.set_cons_zero,List.set_cons_succ,i64_w,i32_w];rfl):wpAnyLast P md ops Q S ds fuel l (a0.put N v) w:=norm_ (hN▸ha) h
end



def errW:Option Int→Value
 |none=> .nilIface
 |some c=> .iface 0 (.int .i64 c)
theorem errW_none:errW none= .nilIface:=rfl
theorem errW_some (c:Int):errW (some c)= .iface 0 (.int .i64 c):=rfl

theorem info3:(Try.prog.info? 3).map (fun i=>(i.zero,i.size,i.bytes))=some (some (.int .i64 0),1,8):=by kernel_rfl
theorem info25:(Try.prog.info? 25).map (fun i=>(i.zero,i.size,i.bytes))=some (some (.slice none 0 0),1,24):=by kernel_rfl
theorem info30:(Try.prog.info? 30).map (fun i=>(i.zero,i.size,i.bytes))=some (some (.slice none 0 0),1,24):=by kernel_rfl
theorem info61:(Try.prog.info? 61).map (fun i=>(i.zero,i.size,i.bytes))=some (some (.agg #[(.int .i64 0),(.int .i64 0)]),2,16):=by kernel_rfl
-- the values' own types
/-! #### struct type 61 -/
structure S61 where
 f0:Int
 f1:Int
def z61:S61:=⟨(0:Int),(0:Int)⟩
def k61:Kd S61:=Kd.iso (Kd.pair (Kd.int .i64) (Kd.int .i64)) (fun x:S61=>(x.f0,x.f1))
theorem k61_heap:Kd.Heap k61:=heap_iso _ (heap_pair (heap_int .i64) (heap_int .i64))
theorem k61_open {w:World} {x:S61} {cs:List Value} (h:k61.K w x cs):cs=[.int .i64 x.f0,.int .i64 x.f1]:=by
 obtain⟨_,_,rfl,rfl,rfl⟩:=h;exact rfl
theorem k61_openM {w:World} {base:Nat} {ok:Nat→Prop} {x:S61} {cs:List Value} (h:k61.M w base ok x cs):cs=[.int .i64 x.f0,.int .i64 x.f1]:=by
 obtain⟨_,_,rfl,rfl,rfl⟩:=h;exact rfl
theorem k61_mk (w:World) (x:S61)  :k61.K w x [.int .i64 x.f0,.int .i64 x.f1]:=⟨[.int .i64 x.f0],[.int .i64 x.f1],rfl,rfl,rfl⟩
theorem k61_mkM (w:World) (base:Nat) (ok:Nat→Prop) (x:S61)  :k61.M w base ok x [.int .i64 x.f0,.int .i64 x.f1]:=⟨[.int .i64 x.f0],[.int .i64 x.f1],rfl,rfl,rfl⟩
def rd_T61 (xs:List S61) (i:Int):S61:=xs.getD i.toNat z61
theorem at_T61 {w:World} {A:Option Addr} {n:Nat} {xs:List S61} (h:Kd.C k61 w A n xs) (i:Int) (h0:0≤i) (h1:i<n):∃ad,A=some ad∧w.cell? (ad.add (i.toNat*2))=some (.int .i64 (rd_T61 xs i).f0)∧w.cell? ⟨(ad.add (i.toNat*2)).block,(ad.add (i.toNat*2)).off+1,none⟩=some (.int .i64 (rd_T61 xs i).f1):=by
 obtain⟨ad,c,e,_,hK,hc0⟩:=C_get h z61 i h0 h1;have hc:∀j u,c[j]? =some u→w.cell? (ad.add (i.toNat*2+j))=some u:=hc0;obtain rfl:=k61_open hK;exact⟨ad,e,hc 0 _ rfl,by rw[←add_field _ _ 1 (by omega)];exact hc 1 _ rfl⟩

def rd_L2 (xs:List (List Int)) (i:Int):(List Int):=xs.getD i.toNat ([]:List Int)
theorem at_L2 {w:World} {A:Option Addr} {n:Nat} {xs:List (List Int)} (h:Kd.C (Kd.slice 3 (Kd.int .i64)) w A n xs) (i:Int) (h0:0≤i) (h1:i<n):∃ad A0 c0,A=some ad∧w.cell? (ad.add i.toNat)=some (.slice A0 (rd_L2 xs i).length c0)∧(rd_L2 xs i).length≤c0∧(Kd.int .i64).C w A0 (rd_L2 xs i).length (rd_L2 xs i):=by
 obtain⟨ad,c,e,_,hK,hc0⟩:=C_get h ([]:List Int) i h0 h1;have hc:∀j u,c[j]? =some u→w.cell? (ad.add (i.toNat*1+j))=some u:=hc0;obtain⟨A0,c0,rfl,l0,g0⟩:=hK;exact⟨ad,A0,c0,e,by have hq:=hc 0 _ rfl;rwa[Nat.mul_one,Nat.add_zero] at hq,l0,g0⟩

def rd_L3 (xs:List (List S61)) (i:Int):(List S61):=xs.getD i.toNat ([]:List S61)
theorem at_L3 {w:World} {A:Option Addr} {n:Nat} {xs:List (List S61)} (h:Kd.C (Kd.slice 61 k61) w A n xs) (i:Int) (h0:0≤i) (h1:i<n):∃ad A0 c0,A=some ad∧w.cell? (ad.add i.toNat)=some (.slice A0 (rd_L3 xs i).length c0)∧(rd_L3 xs i).length≤c0∧k61.C w A0 (rd_L3 xs i).length (rd_L3 xs i):=by
 obtain⟨ad,c,e,_,hK,hc0⟩:=C_get h ([]:List S61) i h0 h1;have hc:∀j u,c[j]? =some u→w.cell? (ad.add (i.toNat*1+j))=some u:=hc0;obtain⟨A0,c0,rfl,l0,g0⟩:=hK;exact⟨ad,A0,c0,e,by have hq:=hc 0 _ rfl;rwa[Nat.mul_one,Nat.add_zero] at hq,l0,g0⟩

theorem ato61_ {w:World} {A:Option Addr} {n:Nat} {xs:List S61} (h:Aside0 (Kd.C k61 w A n xs)) (i:Int) (h0:decide (0≤i)=true:=by first|(with_reducible assumption)|assumption) (h1:decide (i<(n:Int))=true:=by first|(with_reducible assumption)|assumption):(0≤i)=True∧(i<(n:Int))=True∧∃ad,A=some ad∧w.cell? (ad.add (i.toNat*2))=some (.int .i64 (rd_T61 xs i).f0)∧w.cell? ⟨(ad.add (i.toNat*2)).block,(ad.add (i.toNat*2)).off+1,none⟩=some (.int .i64 (rd_T61 xs i).f1):=by
 have a:=of_decide_eq_true h0;have b:=of_decide_eq_true h1;exact⟨eq_true a,eq_true b,at_T61 h.out i a b⟩
theorem atb61_ {w w':World} {A:Option Addr} {n:Nat} {xs:List S61} (h:Aside0 (Kd.C k61 w A n xs)) (hb:Aside0 (Below w.heap.size w w')) (i:Int) (h0:decide (0≤i)=true:=by first|(with_reducible assumption)|assumption) (h1:decide (i<(n:Int))=true:=by first|(with_reducible assumption)|assumption):(0≤i)=True∧(i<(n:Int))=True∧∃ad,A=some ad∧w'.cell? (ad.add (i.toNat*2))=some (.int .i64 (rd_T61 xs i).f0)∧w'.cell? ⟨(ad.add (i.toNat*2)).block,(ad.add (i.toNat*2)).off+1,none⟩=some (.int .i64 (rd_T61 xs i).f1):=by
 have a:=of_decide_eq_true h0;have b:=of_decide_eq_true h1;obtain⟨ad,e,x0,x1⟩:=at_T61 h.out i a b;exact⟨eq_true a,eq_true b,ad,e,(hb.out.cell (bc_ w _ x0)).trans x0,(hb.out.cell (bc_ w _ x1)).trans x1⟩
theorem atw61_ {w w':World} {A:Option Addr} {n:Nat} {xs:List S61} (h:Aside0 (Kd.C k61 w A n xs)) (hb:Aside0 (Below w.heap.size w w')) (i:Int) (h0:decide (0≤i)=true:=by first|(with_reducible assumption)|assumption) (h1:decide (i<(n:Int))=true:=by first|(with_reducible assumption)|assumption):(0≤i)=True∧(i<(n:Int))=True∧∃ad,A=some ad∧w.cell? (ad.add (i.toNat*2))=some (.int .i64 (rd_T61 xs i).f0)∧w.cell? ⟨(ad.add (i.toNat*2)).block,(ad.add (i.toNat*2)).off+1,none⟩=some (.int .i64 (rd_T61 xs i).f1)∧w'.cell? (ad.add (i.toNat*2))=some (.int .i64 (rd_T61 xs i).f0)∧w'.cell? ⟨(ad.add (i.toNat*2)).block,(ad.add (i.toNat*2)).off+1,none⟩=some (.int .i64 (rd_T61 xs i).f1):=by
 have a:=of_decide_eq_true h0;have b:=of_decide_eq_true h1;obtain⟨ad,e,x0,x1⟩:=at_T61 h.out i a b;exact⟨eq_true a,eq_true b,ad,e,x0,x1,(hb.out.cell (bc_ w _ x0)).trans x0,(hb.out.cell (bc_ w _ x1)).trans x1⟩

theorem gy_ {α β:Type} {e:α} {f:α→Option β} {r:Option β} (H:(some e).bind f=r):∃y,Aside0 (y=e)∧f y=r:=⟨e,⟨rfl⟩,H⟩
theorem bx2_ {w:World} {g:Nat} {t:TypeId} {a0 a1:Value} (h:w.heap[g]? =some (.cells #[a0,a1] t (0,0))):w.cell? ⟨g,0,none⟩=some a0∧w.cell? ⟨g,1,none⟩=some a1∧w.frozen? ⟨g,0,none⟩=false∧w.frozen? ⟨g,1,none⟩=false:=⟨(blk_cell h 0).trans rfl,(blk_cell h 1).trans rfl,blk_frozen h 0,blk_frozen h 1⟩
theorem bx3_ {w:World} {g:Nat} {t:TypeId} {a0 a1 a2:Value} (h:w.heap[g]? =some (.cells #[a0,a1,a2] t (0,0))):w.cell? ⟨g,0,none⟩=some a0∧w.cell? ⟨g,1,none⟩=some a1∧w.cell? ⟨g,2,none⟩=some a2∧w.frozen? ⟨g,0,none⟩=false∧w.frozen? ⟨g,1,none⟩=false∧w.frozen? ⟨g,2,none⟩=false:=⟨(blk_cell h 0).trans rfl,(blk_cell h 1).trans rfl,(blk_cell h 2).trans rfl,blk_frozen h 0,blk_frozen h 1,blk_frozen h 2⟩
theorem bx4_ {w:World} {g:Nat} {t:TypeId} {a0 a1 a2 a3:Value} (h:w.heap[g]? =some (.cells #[a0,a1,a2,a3] t (0,0))):w.cell? ⟨g,0,none⟩=some a0∧w.cell? ⟨g,1,none⟩=some a1∧w.cell? ⟨g,2,none⟩=some a2∧w.cell? ⟨g,3,none⟩=some a3∧w.frozen? ⟨g,0,none⟩=false∧w.frozen? ⟨g,1,none⟩=false∧w.frozen? ⟨g,2,none⟩=false∧w.frozen? ⟨g,3,none⟩=false:=⟨(blk_cell h 0).trans rfl,(blk_cell h 1).trans rfl,(blk_cell h 2).trans rfl,(blk_cell h 3).trans rfl,blk_frozen h 0,blk_frozen h 1,blk_frozen h 2,blk_frozen h 3⟩
theorem bx5_ {w:World} {g:Nat} {t:TypeId} {a0 a1 a2 a3 a4:Value} (h:w.heap[g]? =some (.cells #[a0,a1,a2,a3,a4] t (0,0))):w.cell? ⟨g,0,none⟩=some a0∧w.cell? ⟨g,1,none⟩=some a1∧w.cell? ⟨g,2,none⟩=some a2∧w.cell? ⟨g,3,none⟩=some a3∧w.cell? ⟨g,4,none⟩=some a4∧w.frozen? ⟨g,0,none⟩=false∧w.frozen? ⟨g,1,none⟩=false∧w.frozen? ⟨g,2,none⟩=false∧w.frozen? ⟨g,3,none⟩=false∧w.frozen? ⟨g,4,none⟩=false:=⟨(blk_cell h 0).trans rfl,(blk_cell h 1).trans rfl,(blk_cell h 2).trans rfl,(blk_cell h 3).trans rfl,(blk_cell h 4).trans rfl,blk_frozen h 0,blk_frozen h 1,blk_frozen h 2,blk_frozen h 3,blk_frozen h 4⟩
theorem bx6_ {w:World} {g:Nat} {t:TypeId} {a0 a1 a2 a3 a4 a5:Value} (h:w.heap[g]? =some (.cells #[a0,a1,a2,a3,a4,a5] t (0,0))):w.cell? ⟨g,0,none⟩=some a0∧w.cell? ⟨g,1,none⟩=some a1∧w.cell? ⟨g,2,none⟩=some a2∧w.cell? ⟨g,3,none⟩=some a3∧w.cell? ⟨g,4,none⟩=some a4∧w.cell? ⟨g,5,none⟩=some a5∧w.frozen? ⟨g,0,none⟩=false∧w.frozen? ⟨g,1,none⟩=false∧w.frozen? ⟨g,2,none⟩=false∧w.frozen? ⟨g,3,none⟩=false∧w.frozen? ⟨g,4,none⟩=false∧w.frozen? ⟨g,5,none⟩=false:=⟨(blk_cell h 0).trans rfl,(blk_cell h 1).trans rfl,(blk_cell h 2).trans rfl,(blk_cell h 3).trans rfl,(blk_cell h 4).trans rfl,(blk_cell h 5).trans rfl,blk_frozen h 0,blk_frozen h 1,blk_frozen h 2,blk_frozen h 3,blk_frozen h 4,blk_frozen h 5⟩
theorem bx7_ {w:World} {g:Nat} {t:TypeId} {a0 a1 a2 a3 a4 a5 a6:Value} (h:w.heap[g]? =some (.cells #[a0,a1,a2,a3,a4,a5,a6] t (0,0))):w.cell? ⟨g,0,none⟩=some a0∧w.cell? ⟨g,1,none⟩=some a1∧w.cell? ⟨g,2,none⟩=some a2∧w.cell? ⟨g,3,none⟩=some a3∧w.cell? ⟨g,4,none⟩=some a4∧w.cell? ⟨g,5,none⟩=some a5∧w.cell? ⟨g,6,none⟩=some a6∧w.frozen? ⟨g,0,none⟩=false∧w.frozen? ⟨g,1,none⟩=false∧w.frozen? ⟨g,2,none⟩=false∧w.frozen? ⟨g,3,none⟩=false∧w.frozen? ⟨g,4,none⟩=false∧w.frozen? ⟨g,5,none⟩=false∧w.frozen? ⟨g,6,none⟩=false:=⟨(blk_cell h 0).trans rfl,(blk_cell h 1).trans rfl,(blk_cell h 2).trans rfl,(blk_cell h 3).trans rfl,(blk_cell h 4).trans rfl,(blk_cell h 5).trans rfl,(blk_cell h 6).trans rfl,blk_frozen h 0,blk_frozen h 1,blk_frozen h 2,blk_frozen h 3,blk_frozen h 4,blk_frozen h 5,blk_frozen h 6⟩
theorem bx8_ {w:World} {g:Nat} {t:TypeId} {a0 a1 a2 a3 a4 a5 a6 a7:Value} (h:w.heap[g]? =some (.cells #[a0,a1,a2,a3,a4,a5,a6,a7] t (0,0))):w.cell? ⟨g,0,none⟩=some a0∧w.cell? ⟨g,1,none⟩=some a1∧w.cell? ⟨g,2,none⟩=some a2∧w.cell? ⟨g,3,none⟩=some a3∧w.cell? ⟨g,4,none⟩=some a4∧w.cell? ⟨g,5,none⟩=some a5∧w.cell? ⟨g,6,none⟩=some a6∧w.cell? ⟨g,7,none⟩=some a7∧w.frozen? ⟨g,0,none⟩=false∧w.frozen? ⟨g,1,none⟩=false∧w.frozen? ⟨g,2,none⟩=false∧w.frozen? ⟨g,3,none⟩=false∧w.frozen? ⟨g,4,none⟩=false∧w.frozen? ⟨g,5,none⟩=false∧w.frozen? ⟨g,6,none⟩=false∧w.frozen? ⟨g,7,none⟩=false:=⟨(blk_cell h 0).trans rfl,(blk_cell h 1).trans rfl,(blk_cell h 2).trans rfl,(blk_cell h 3).trans rfl,(blk_cell h 4).trans rfl,(blk_cell h 5).trans rfl,(blk_cell h 6).trans rfl,(blk_cell h 7).trans rfl,blk_frozen h 0,blk_frozen h 1,blk_frozen h 2,blk_frozen h 3,blk_frozen h 4,blk_frozen h 5,blk_frozen h 6,blk_frozen h 7⟩

end Go.Proofs.Ytbmkobanpakohaa.PFnNear
