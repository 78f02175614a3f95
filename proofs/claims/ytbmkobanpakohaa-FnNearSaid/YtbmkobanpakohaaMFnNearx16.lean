/- Walks of functions of FnNear, laid anew out of the kit's print. -/
import Derived.Test.YtbmkobanpakohaaMFnNearx0
import Derived.Test.YtbmkobanpakohaaMFnNearx6
import Derived.Test.YtbmkobanpakohaaMFnNearx15
namespace Go.Proofs.Ytbmkobanpakohaa.PFnNear
open Go.RowKit Go.Proofs.YtbmkobanpakohaaW.PrintWords Go.Proofs.YtbmkobanpakohaaW.PrintLast Go.Proofs.YtbmkobanpakohaaW.PrintMore Go.Proofs.YtbmkobanpakohaaW.PrintWords.Kd Go.Proofs.YtbmkobanpakohaaW.PrintMore.Kd
set_option maxHeartbeats 8000000
set_option maxRecDepth 100000
attribute [local go_sem] max2_int min2_int max_two min_two max_three min_three max_four min_four
set_option linter.unusedVariables false
set_option linter.unusedSimpArgs false

/-! ### spec_Nearest: function 16 -/
def spec_Nearest.l0:Nat→List (List (S61))→List (S61)→Int→Int→Int→List Int→List Int→List Int→Option (Int)
 |0,_,_,_,_,_,_,_,_=>none
 |k+1,x0,x1,x7,x8,x9,xgC,xgD,xgE=>if x9<(x0.length:Int) then (if 0≤x9 then ((spec_RootDist.f k (rd_L3 x0 x9) x1 xgC xgD xgE).bind fun tdS=>(if tdS≥0 then (if x7<0 then (spec_Nearest.l0 k x0 x1 x9 tdS (wrap64 (x9+1)) xgC xgD xgE) else (if tdS<x8 then (spec_Nearest.l0 k x0 x1 x9 tdS (wrap64 (x9+1)) xgC xgD xgE) else (spec_Nearest.l0 k x0 x1 x7 x8 (wrap64 (x9+1)) xgC xgD xgE))) else (spec_Nearest.l0 k x0 x1 x7 x8 (wrap64 (x9+1)) xgC xgD xgE))) else (none)) else (some x7)
def spec_Nearest.f (k:Nat) (l0:List (List (S61))) (l1:List (S61)) (l2_0:List Int) (l2_1:List Int) (l2_2:List Int):Option (Int):=spec_Nearest.l0 k l0 l1 (-1) 0 0 l2_0 l2_1 l2_2
def spec_Nearest.T6:Bool×List (List Nat×List Nat):=(true,[([],[]),([],[]),([0,1],[0,1]),([2],[2]),([],[]),([],[]),([3,4,5],[3,4,5]),([6,6,0,1,2,3,4,5,6],[6])])
def spec_Nearest.B6:List Nat:=[0,0,3,7,0,0,63,127]
theorem spec_Nearest.tab6:rtab .any (opsOf Try.f16 6)=spec_Nearest.T6:=by kernel_rfl
theorem spec_Nearest.bits6:waitsOk spec_Nearest.T6.2 spec_Nearest.B6=true:=by kernel_rfl
theorem spec_Nearest.calls (k:Nat) (A0:Option Addr) (c0:Nat) (l0:List (List (S61))) (A1:Option Addr) (c1:Nat) (l1:List (S61)) (A2_0:Option Addr) (c2_0:Nat) (l2_0:List Int) (A2_1:Option Addr) (c2_1:Nat) (l2_1:List Int) (A2_2:Option Addr) (c2_2:Nat) (l2_2:List Int) (r:Int) (w:World) (hr0:Kd.C (Kd.slice 61 k61) w A0 l0.length l0) (hc0:l0.length≤c0) (hr1:Kd.C k61 w A1 l1.length l1) (hc1:l1.length≤c1) (hr2_0:Kd.C (Kd.int .i64) w A2_0 l2_0.length l2_0) (hc2_0:l2_0.length≤c2_0) (hr2_1:Kd.C (Kd.int .i64) w A2_1 l2_1.length l2_1) (hc2_1:l2_1.length≤c2_1) (hr2_2:Kd.C (Kd.int .i64) w A2_2 l2_2.length l2_2) (hc2_2:l2_2.length≤c2_2) (h:spec_Nearest.f k l0 l1 l2_0 l2_1 l2_2=some r):
  Calls Try.prog 16 #[.slice A0 l0.length c0,.slice A1 l1.length c1,.agg #[.slice A2_0 l2_0.length c2_0,.slice A2_1 l2_1.length c2_1,.slice A2_2 l2_2.length c2_2]] w fun e w'=>e= .returned (.int .i64 r)∧Below w.heap.size w w':=by
 have hu38:=Try.underlying38;have HR0:=am_ hr0;have HC0:=am_ hc0;clear hr0 hc0;have HR1:=am_ hr1;have HC1:=am_ hc1;clear hr1 hc1;have HR2_0:=am_ hr2_0;have HC2_0:=am_ hc2_0;clear hr2_0 hc2_0;have HR2_1:=am_ hr2_1;have HC2_1:=am_ hc2_1;clear hr2_1 hc2_1;have HR2_2:=am_ hr2_2;have HC2_2:=am_ hc2_2;clear hr2_2 hc2_2;have HB:=am_ (Below.refl w.heap.size w);have H:(spec_Nearest.l0 k l0 l1 (-1) 0 0 l2_0 l2_1 l2_2)=some r:=h;clear h;have H':=am_ H;clear H;go_enter Try.func16,Try.ntmps16
 go_wp2_with (((with_reducible refine gate_dst (N:=5) rfl ?_);refine box_event ?hg (N:=5) ?hd (cs:=#[.slice A2_0 l2_0.length c2_0,.slice A2_1 l2_1.length c2_1,.slice A2_2 l2_2.length c2_2]) (t:=38) ?hr ?_;(case hd=>rfl);(case hg=>rfl);(case hr=>exact z14_);intro gbW hg w4 hbox hb;have BKW:=am_ (hbox);have GWW:=am_ ((by rw[hg];exact(below_size z0_):w.heap.size≤gbW));have GEW:=am_ ((by rw[hg];exact(below_size z0_):w.heap.size≤gbW));replace HB:=am_ (below_step z0_ hb);clear hb hbox hg))
 go_loopg [7,8,9] k (fun kq v7 v8 v9 w'=>∃(x7_1:Int) (x8_1:Int) (x9_1:Int),v7= .int .i64 x7_1∧v8= .int .i64 x8_1∧v9= .int .i64 x9_1∧Aside0 (spec_Nearest.l0 kq l0 l1 x7_1 x8_1 x9_1 l2_0 l2_1 l2_2=some r)∧Aside0 (kq≤k)∧Aside0 (w'.heap[gbW]? =some (.cells #[(.slice A2_0 l2_0.length c2_0),(.slice A2_1 l2_1.length c2_1),(.slice A2_2 l2_2.length c2_2)] 38 (0,0)))∧Aside0 (Below w.heap.size w w'))
 case atStart=>exact⟨((-1)),(0),(0),z9_,z9_,z9_,H',⟨Nat.le_refl _⟩,⟨z120_⟩,⟨z82_⟩⟩
 case round=>
  clear H';obtain⟨x7_1,x8_1,x9_1,rfl,rfl,rfl,HA,HK1,BKW,HB⟩:=hrel;cases gk with
  |zero=>exact absurd HA.out (by simp[spec_Nearest.l0])
  | succ k1=>
   have H:=HA.out;clear HA;simp only[spec_Nearest.l0] at H;by_cases c5:x9_1<(l0.length:Int)
   ·rw [if_pos c5] at H;have c5b0:=decide_eq_true c5;clear c5;obtain⟨c6b0,H⟩:=ifd_ H;obtain⟨tdS,A7,H⟩:=bnd_ H;by_cases c8:tdS≥0
    ·rw[if_pos c8] at H;have c8b0:=decide_eq_true c8;clear c8;by_cases c9:x7_1<0
     ·rw[if_pos c9] at H;have c9b0:=decide_eq_true c9;clear c9;have H':=am_ H;clear H
      try go_wp2
      replace BKW:=am_ (blk_drew BKW.out);replace HB:=am_ (below_drew1 HB.out);have ph:0≤(x9_1:Int):=odt_;have qh:x9_1<(l0.length:Int):=odt_;obtain⟨adh,Ah_0,ch_0,eh,hxh_0,hlh_0,hih_0⟩:=at_L3 HR0.out x9_1 ph qh;have hwh_0:=hxh_0;cases eh;replace hxh_0:=(HB.out.cell (bc_ w _ hxh_0)).trans hxh_0;have HRh_0:=am_ hih_0;have HCh_0:=am_ hlh_0;clear hih_0 hlh_0;replace ph:=eq_true ph;replace qh:=eq_true qh;refine start_ (n:=8) (S:=fun w'=>w'.cell? ⟨gbW,0,none⟩=some (.slice A2_0 l2_0.length c2_0)∧w'.cell? ⟨gbW,1,none⟩=some (.slice A2_1 l2_1.length c2_1)∧w'.cell? ⟨gbW,2,none⟩=some (.slice A2_2 l2_2.length c2_2)∧w'.cell? (adh.add (x9_1).toNat)=some (.slice Ah_0 (rd_L3 l0 x9_1).length ch_0)) (ds:=[]) (fl_ 8 0) y0_ rfl (fl_zero _) ⟨(blk_cell BKW.out 0).trans rfl,(blk_cell BKW.out 1).trans rfl,(blk_cell BKW.out 2).trans rfl,((HB.out.cell (bc_ w _ hwh_0)).trans hwh_0)⟩ (fun hh=>?_);refine with_tabW spec_Nearest.tab6 spec_Nearest.bits6 (fun HT_ HW_=>?_);generalize wr.drew=w10 at BKW HB HRh_0 hxh_0 hh⊢
      iterate 3 refine yp_ HT_ ?_
      refine ypg_ (i:=4) (ra_ [3,1,1,3]) HT_ ?_;refine ytg_ (i:=3) (fl_ 8 5) HT_ HW_ hh ?_ (hy:=z52_);refine yt_ HT_ HW_ hh ?_ (hy:=z52_);refine one_ (i:=6) (N:=some 23) (fl_ 8 7) rfl rfl (one_of HT_.out y0_) (by decide) (fun K hK=>?_);refine goes_ Try.func37 y0_ rfl #[.slice Ah_0 (rd_L3 l0 x9_1).length ch_0,.slice A1 l1.length c1,.agg #[.slice A2_0 l2_0.length c2_0,.slice A2_1 l2_1.length c2_1,.slice A2_2 l2_2.length c2_2]] (by rfl) rfl rfl z1_ ?_
      with_reducible refine(spec_RootDist.calls k1 _ _ (rd_L3 l0 x9_1) _ _ l1 _ _ l2_0 _ _ l2_1 _ _ l2_2 tdS _ ?s1 ?s2 ?s3 ?s4 ?s5 ?s6 ?s7 ?s8 ?s9 ?s10 A7.out).mono ?_
      (case s1=>exact z171_)
      (case s2=>exact HCh_0.out)
      (case s3=>exact z16_)
      (case s4=>exact HC1.out)
      (case s5=>exact z33_)
      (case s6=>exact HC2_0.out)
      (case s7=>exact z34_)
      (case s8=>exact HC2_1.out)
      (case s9=>exact z35_)
      (case s10=>exact HC2_2.out)
      rintro e w11 ⟨rfl,hb⟩;refine⟨_,rfl,?_⟩;replace BKW:=am_ (blk_below z120_ hb);replace HB:=am_ (below_step z82_ hb)
      (try clear hb)
      refine hK.out _ _ ⟨(blk_cell BKW.out 0).trans rfl,(blk_cell BKW.out 1).trans rfl,(blk_cell BKW.out 2).trans rfl,((HB.out.cell (bc_ w _ hwh_0)).trans hwh_0)⟩ (fun hh=>?_);clear hK K;refine zn_ rfl ?_;refine yp_ HT_ ?_;refine done_ (done_of HT_.out y0_) ?_
      try go_wp2
      go_roundg k1
      case measure=>have:=HK1.out;omega
      case rel=>exact⟨(x9_1),(tdS),(wrap64 (x9_1+1)),z9_,z9_,z9_,H',⟨z170_⟩,⟨z120_⟩,⟨z82_⟩⟩
     ·rw[if_neg c9] at H;have c9b0:=decide_eq_false c9;clear c9;by_cases c12:tdS<x8_1
      ·rw[if_pos c12] at H;have c12b0:=decide_eq_true c12;clear c12;have H':=am_ H;clear H
       try go_wp2
       replace BKW:=am_ (blk_drew BKW.out);replace HB:=am_ (below_drew1 HB.out);have ph:0≤(x9_1:Int):=odt_;have qh:x9_1<(l0.length:Int):=odt_;obtain⟨adh,Ah_0,ch_0,eh,hxh_0,hlh_0,hih_0⟩:=at_L3 HR0.out x9_1 ph qh;have hwh_0:=hxh_0;cases eh;replace hxh_0:=(HB.out.cell (bc_ w _ hxh_0)).trans hxh_0;have HRh_0:=am_ hih_0;have HCh_0:=am_ hlh_0;clear hih_0 hlh_0;replace ph:=eq_true ph;replace qh:=eq_true qh;refine start_ (n:=8) (S:=fun w'=>w'.cell? ⟨gbW,0,none⟩=some (.slice A2_0 l2_0.length c2_0)∧w'.cell? ⟨gbW,1,none⟩=some (.slice A2_1 l2_1.length c2_1)∧w'.cell? ⟨gbW,2,none⟩=some (.slice A2_2 l2_2.length c2_2)∧w'.cell? (adh.add (x9_1).toNat)=some (.slice Ah_0 (rd_L3 l0 x9_1).length ch_0)) (ds:=[]) (fl_ 8 0) y0_ rfl (fl_zero _) ⟨(blk_cell BKW.out 0).trans rfl,(blk_cell BKW.out 1).trans rfl,(blk_cell BKW.out 2).trans rfl,((HB.out.cell (bc_ w _ hwh_0)).trans hwh_0)⟩ (fun hh=>?_);refine with_tabW spec_Nearest.tab6 spec_Nearest.bits6 (fun HT_ HW_=>?_);generalize wr.drew=w13 at BKW HB HRh_0 hxh_0 hh⊢
       iterate 3 refine yp_ HT_ ?_
       refine ypg_ (i:=4) (ra_ [3,1,1,3]) HT_ ?_;refine ytg_ (i:=3) (fl_ 8 5) HT_ HW_ hh ?_ (hy:=z52_);refine yt_ HT_ HW_ hh ?_ (hy:=z52_);refine one_ (i:=6) (N:=some 23) (fl_ 8 7) rfl rfl (one_of HT_.out y0_) (by decide) (fun K hK=>?_);refine goes_ Try.func37 y0_ rfl #[.slice Ah_0 (rd_L3 l0 x9_1).length ch_0,.slice A1 l1.length c1,.agg #[.slice A2_0 l2_0.length c2_0,.slice A2_1 l2_1.length c2_1,.slice A2_2 l2_2.length c2_2]] (by rfl) rfl rfl z1_ ?_
       with_reducible refine(spec_RootDist.calls k1 _ _ (rd_L3 l0 x9_1) _ _ l1 _ _ l2_0 _ _ l2_1 _ _ l2_2 tdS _ ?s1 ?s2 ?s3 ?s4 ?s5 ?s6 ?s7 ?s8 ?s9 ?s10 A7.out).mono ?_
       (case s1=>exact z171_)
       (case s2=>exact HCh_0.out)
       (case s3=>exact z16_)
       (case s4=>exact HC1.out)
       (case s5=>exact z33_)
       (case s6=>exact HC2_0.out)
       (case s7=>exact z34_)
       (case s8=>exact HC2_1.out)
       (case s9=>exact z35_)
       (case s10=>exact HC2_2.out)
       rintro e w14 ⟨rfl,hb⟩;refine⟨_,rfl,?_⟩;replace BKW:=am_ (blk_below z120_ hb);replace HB:=am_ (below_step z82_ hb)
       (try clear hb)
       refine hK.out _ _ ⟨(blk_cell BKW.out 0).trans rfl,(blk_cell BKW.out 1).trans rfl,(blk_cell BKW.out 2).trans rfl,((HB.out.cell (bc_ w _ hwh_0)).trans hwh_0)⟩ (fun hh=>?_);clear hK K;refine zn_ rfl ?_;refine yp_ HT_ ?_;refine done_ (done_of HT_.out y0_) ?_
       try go_wp2
       go_roundg k1
       case measure=>have:=HK1.out;omega
       case rel=>exact⟨(x9_1),(tdS),(wrap64 (x9_1+1)),z9_,z9_,z9_,H',⟨z170_⟩,⟨z120_⟩,⟨z82_⟩⟩
      ·rw[if_neg c12] at H;have c12b0:=decide_eq_false c12;clear c12;have H':=am_ H;clear H
       try go_wp2
       replace BKW:=am_ (blk_drew BKW.out);replace HB:=am_ (below_drew1 HB.out);have ph:0≤(x9_1:Int):=odt_;have qh:x9_1<(l0.length:Int):=odt_;obtain⟨adh,Ah_0,ch_0,eh,hxh_0,hlh_0,hih_0⟩:=at_L3 HR0.out x9_1 ph qh;have hwh_0:=hxh_0;cases eh;replace hxh_0:=(HB.out.cell (bc_ w _ hxh_0)).trans hxh_0;have HRh_0:=am_ hih_0;have HCh_0:=am_ hlh_0;clear hih_0 hlh_0;replace ph:=eq_true ph;replace qh:=eq_true qh;refine start_ (n:=8) (S:=fun w'=>w'.cell? ⟨gbW,0,none⟩=some (.slice A2_0 l2_0.length c2_0)∧w'.cell? ⟨gbW,1,none⟩=some (.slice A2_1 l2_1.length c2_1)∧w'.cell? ⟨gbW,2,none⟩=some (.slice A2_2 l2_2.length c2_2)∧w'.cell? (adh.add (x9_1).toNat)=some (.slice Ah_0 (rd_L3 l0 x9_1).length ch_0)) (ds:=[]) (fl_ 8 0) y0_ rfl (fl_zero _) ⟨(blk_cell BKW.out 0).trans rfl,(blk_cell BKW.out 1).trans rfl,(blk_cell BKW.out 2).trans rfl,((HB.out.cell (bc_ w _ hwh_0)).trans hwh_0)⟩ (fun hh=>?_);refine with_tabW spec_Nearest.tab6 spec_Nearest.bits6 (fun HT_ HW_=>?_);generalize wr.drew=w15 at BKW HB HRh_0 hxh_0 hh⊢
       iterate 3 refine yp_ HT_ ?_
       refine ypg_ (i:=4) (ra_ [3,1,1,3]) HT_ ?_;refine ytg_ (i:=3) (fl_ 8 5) HT_ HW_ hh ?_ (hy:=z52_);refine yt_ HT_ HW_ hh ?_ (hy:=z52_);refine one_ (i:=6) (N:=some 23) (fl_ 8 7) rfl rfl (one_of HT_.out y0_) (by decide) (fun K hK=>?_);refine goes_ Try.func37 y0_ rfl #[.slice Ah_0 (rd_L3 l0 x9_1).length ch_0,.slice A1 l1.length c1,.agg #[.slice A2_0 l2_0.length c2_0,.slice A2_1 l2_1.length c2_1,.slice A2_2 l2_2.length c2_2]] (by rfl) rfl rfl z1_ ?_
       with_reducible refine(spec_RootDist.calls k1 _ _ (rd_L3 l0 x9_1) _ _ l1 _ _ l2_0 _ _ l2_1 _ _ l2_2 tdS _ ?s1 ?s2 ?s3 ?s4 ?s5 ?s6 ?s7 ?s8 ?s9 ?s10 A7.out).mono ?_
       (case s1=>exact z171_)
       (case s2=>exact HCh_0.out)
       (case s3=>exact z16_)
       (case s4=>exact HC1.out)
       (case s5=>exact z33_)
       (case s6=>exact HC2_0.out)
       (case s7=>exact z34_)
       (case s8=>exact HC2_1.out)
       (case s9=>exact z35_)
       (case s10=>exact HC2_2.out)
       rintro e w16 ⟨rfl,hb⟩;refine⟨_,rfl,?_⟩;replace BKW:=am_ (blk_below z120_ hb);replace HB:=am_ (below_step z82_ hb)
       (try clear hb)
       refine hK.out _ _ ⟨(blk_cell BKW.out 0).trans rfl,(blk_cell BKW.out 1).trans rfl,(blk_cell BKW.out 2).trans rfl,((HB.out.cell (bc_ w _ hwh_0)).trans hwh_0)⟩ (fun hh=>?_);clear hK K;refine zn_ rfl ?_;refine yp_ HT_ ?_;refine done_ (done_of HT_.out y0_) ?_
       try go_wp2
       go_roundg k1
       case measure=>have:=HK1.out;omega
       case rel=>exact⟨(x7_1),(x8_1),(wrap64 (x9_1+1)),z9_,z9_,z9_,H',⟨z170_⟩,⟨z120_⟩,⟨z82_⟩⟩
    ·rw[if_neg c8] at H;have c8b0:=decide_eq_false c8;clear c8;have H':=am_ H;clear H
     try go_wp2
     replace BKW:=am_ (blk_drew BKW.out);replace HB:=am_ (below_drew1 HB.out);have ph:0≤(x9_1:Int):=odt_;have qh:x9_1<(l0.length:Int):=odt_;obtain⟨adh,Ah_0,ch_0,eh,hxh_0,hlh_0,hih_0⟩:=at_L3 HR0.out x9_1 ph qh;have hwh_0:=hxh_0;cases eh;replace hxh_0:=(HB.out.cell (bc_ w _ hxh_0)).trans hxh_0;have HRh_0:=am_ hih_0;have HCh_0:=am_ hlh_0;clear hih_0 hlh_0;replace ph:=eq_true ph;replace qh:=eq_true qh;refine start_ (n:=8) (S:=fun w'=>w'.cell? ⟨gbW,0,none⟩=some (.slice A2_0 l2_0.length c2_0)∧w'.cell? ⟨gbW,1,none⟩=some (.slice A2_1 l2_1.length c2_1)∧w'.cell? ⟨gbW,2,none⟩=some (.slice A2_2 l2_2.length c2_2)∧w'.cell? (adh.add (x9_1).toNat)=some (.slice Ah_0 (rd_L3 l0 x9_1).length ch_0)) (ds:=[]) (fl_ 8 0) y0_ rfl (fl_zero _) ⟨(blk_cell BKW.out 0).trans rfl,(blk_cell BKW.out 1).trans rfl,(blk_cell BKW.out 2).trans rfl,((HB.out.cell (bc_ w _ hwh_0)).trans hwh_0)⟩ (fun hh=>?_);refine with_tabW spec_Nearest.tab6 spec_Nearest.bits6 (fun HT_ HW_=>?_);generalize wr.drew=w17 at BKW HB HRh_0 hxh_0 hh⊢
     iterate 3 refine yp_ HT_ ?_
     refine ypg_ (i:=4) (ra_ [3,1,1,3]) HT_ ?_;refine ytg_ (i:=3) (fl_ 8 5) HT_ HW_ hh ?_ (hy:=z52_);refine yt_ HT_ HW_ hh ?_ (hy:=z52_);refine one_ (i:=6) (N:=some 23) (fl_ 8 7) rfl rfl (one_of HT_.out y0_) (by decide) (fun K hK=>?_);refine goes_ Try.func37 y0_ rfl #[.slice Ah_0 (rd_L3 l0 x9_1).length ch_0,.slice A1 l1.length c1,.agg #[.slice A2_0 l2_0.length c2_0,.slice A2_1 l2_1.length c2_1,.slice A2_2 l2_2.length c2_2]] (by rfl) rfl rfl z1_ ?_
     with_reducible refine(spec_RootDist.calls k1 _ _ (rd_L3 l0 x9_1) _ _ l1 _ _ l2_0 _ _ l2_1 _ _ l2_2 tdS _ ?s1 ?s2 ?s3 ?s4 ?s5 ?s6 ?s7 ?s8 ?s9 ?s10 A7.out).mono ?_
     (case s1=>exact z171_)
     (case s2=>exact HCh_0.out)
     (case s3=>exact z16_)
     (case s4=>exact HC1.out)
     (case s5=>exact z33_)
     (case s6=>exact HC2_0.out)
     (case s7=>exact z34_)
     (case s8=>exact HC2_1.out)
     (case s9=>exact z35_)
     (case s10=>exact HC2_2.out)
     rintro e w18 ⟨rfl,hb⟩;refine⟨_,rfl,?_⟩;replace BKW:=am_ (blk_below z120_ hb);replace HB:=am_ (below_step z82_ hb)
     (try clear hb)
     refine hK.out _ _ ⟨(blk_cell BKW.out 0).trans rfl,(blk_cell BKW.out 1).trans rfl,(blk_cell BKW.out 2).trans rfl,((HB.out.cell (bc_ w _ hwh_0)).trans hwh_0)⟩ (fun hh=>?_);clear hK K;refine zn_ rfl ?_;refine yp_ HT_ ?_;refine done_ (done_of HT_.out y0_) ?_
     try go_wp2
     go_roundg k1
     case measure=>have:=HK1.out;omega
     case rel=>exact⟨(x7_1),(x8_1),(wrap64 (x9_1+1)),z9_,z9_,z9_,H',⟨z170_⟩,⟨z120_⟩,⟨z82_⟩⟩
   ·rw[if_neg c5] at H;have c5b0:=decide_eq_false c5;clear c5;obtain rfl:=Option.some.inj H;go_wp2;go_ret;exact⟨z7_,z82_⟩

/-! ### impl_Nearest: function 19 -/
def impl_Nearest.l0:Nat→List (S61)→Int→Int→List (List (S61))→Int→Int→List Int→List Int→List Int→Option (Int)
 |0,_,_,_,_,_,_,_,_,_=>none
 |k+1,x1,x7,x8,x12,x13,x14,xgF,xgG,xgH=>if x14<x13 then (if 0≤x14 then (if x14<(x12.length:Int) then ((impl_RootDist.f k (rd_L3 x12 x14) x1 xgF xgG xgH).bind fun tdT=>(if tdT≥0 then (if x7<0 then (impl_Nearest.l0 k x1 x14 tdT x12 x13 (wrap64 (x14+1)) xgF xgG xgH) else (if tdT<x8 then (impl_Nearest.l0 k x1 x14 tdT x12 x13 (wrap64 (x14+1)) xgF xgG xgH) else (impl_Nearest.l0 k x1 x7 x8 x12 x13 (wrap64 (x14+1)) xgF xgG xgH))) else (impl_Nearest.l0 k x1 x7 x8 x12 x13 (wrap64 (x14+1)) xgF xgG xgH))) else (none)) else (none)) else (some x7)
def impl_Nearest.f (k:Nat) (l0:List (List (S61))) (l1:List (S61)) (l2_0:List Int) (l2_1:List Int) (l2_2:List Int):Option (Int):=impl_Nearest.l0 k l1 (-1) 0 l0 (l0.length:Int) 0 l2_0 l2_1 l2_2
theorem impl_Nearest.calls (k:Nat) (A0:Option Addr) (c0:Nat) (l0:List (List (S61))) (A1:Option Addr) (c1:Nat) (l1:List (S61)) (A2_0:Option Addr) (c2_0:Nat) (l2_0:List Int) (A2_1:Option Addr) (c2_1:Nat) (l2_1:List Int) (A2_2:Option Addr) (c2_2:Nat) (l2_2:List Int) (r:Int) (w:World) (hr0:Kd.C (Kd.slice 61 k61) w A0 l0.length l0) (hc0:l0.length≤c0) (hr1:Kd.C k61 w A1 l1.length l1) (hc1:l1.length≤c1) (hr2_0:Kd.C (Kd.int .i64) w A2_0 l2_0.length l2_0) (hc2_0:l2_0.length≤c2_0) (hr2_1:Kd.C (Kd.int .i64) w A2_1 l2_1.length l2_1) (hc2_1:l2_1.length≤c2_1) (hr2_2:Kd.C (Kd.int .i64) w A2_2 l2_2.length l2_2) (hc2_2:l2_2.length≤c2_2) (h:impl_Nearest.f k l0 l1 l2_0 l2_1 l2_2=some r):
  Calls Try.prog 19 #[.slice A0 l0.length c0,.slice A1 l1.length c1,.agg #[.slice A2_0 l2_0.length c2_0,.slice A2_1 l2_1.length c2_1,.slice A2_2 l2_2.length c2_2]] w fun e w'=>e= .returned (.int .i64 r)∧Below w.heap.size w w':=by
 have hu38:=Try.underlying38;have HR0:=am_ hr0;have HC0:=am_ hc0;clear hr0 hc0;have HR1:=am_ hr1;have HC1:=am_ hc1;clear hr1 hc1;have HR2_0:=am_ hr2_0;have HC2_0:=am_ hc2_0;clear hr2_0 hc2_0;have HR2_1:=am_ hr2_1;have HC2_1:=am_ hc2_1;clear hr2_1 hc2_1;have HR2_2:=am_ hr2_2;have HC2_2:=am_ hc2_2;clear hr2_2 hc2_2;have HB:=am_ (Below.refl w.heap.size w);have H:(impl_Nearest.l0 k l1 (-1) 0 l0 (l0.length:Int) 0 l2_0 l2_1 l2_2)=some r:=h;clear h;have H':=am_ H;clear H;go_enter Try.func19,Try.ntmps19
 go_wp2_with (((with_reducible refine gate_dst (N:=5) rfl ?_);refine box_event ?hg (N:=5) ?hd (cs:=#[.slice A2_0 l2_0.length c2_0,.slice A2_1 l2_1.length c2_1,.slice A2_2 l2_2.length c2_2]) (t:=38) ?hr ?_;(case hd=>rfl);(case hg=>rfl);(case hr=>exact z14_);intro gbcs hg w4 hbox hb;have BKcs:=am_ (hbox);have GWcs:=am_ ((by rw[hg];exact(below_size z0_):w.heap.size≤gbcs));have GEcs:=am_ ((by rw[hg];exact(below_size z0_):w.heap.size≤gbcs));replace HB:=am_ (below_step z0_ hb);clear hb hbox hg))
 go_loopg [7,8,14] k (fun kq v7 v8 v14 w'=>∃(x7_1:Int) (x8_1:Int) (x14_1:Int),v7= .int .i64 x7_1∧v8= .int .i64 x8_1∧v14= .int .i64 x14_1∧Aside0 (impl_Nearest.l0 kq l1 x7_1 x8_1 l0 (l0.length:Int) x14_1 l2_0 l2_1 l2_2=some r)∧Aside0 (kq≤k)∧Aside0 (w'.heap[gbcs]? =some (.cells #[(.slice A2_0 l2_0.length c2_0),(.slice A2_1 l2_1.length c2_1),(.slice A2_2 l2_2.length c2_2)] 38 (0,0)))∧Aside0 (Below w.heap.size w w'))
 case atStart=>exact⟨((-1)),(0),(0),z9_,z9_,z9_,H',⟨Nat.le_refl _⟩,⟨z121_⟩,⟨z83_⟩⟩
 case round=>
  clear H';obtain⟨x7_1,x8_1,x14_1,rfl,rfl,rfl,HA,HK1,BKcs,HB⟩:=hrel;cases gk with
  |zero=>exact absurd HA.out (by simp[impl_Nearest.l0])
  | succ k1=>
   have H:=HA.out;clear HA;simp only[impl_Nearest.l0] at H;by_cases c5:x14_1<(l0.length:Int)
   ·rw [if_pos c5] at H;have c5b0:=decide_eq_true c5;clear c5;obtain⟨c6b0,H⟩:=ifd_ H;obtain⟨c7b0,H⟩:=ifd_ H;obtain⟨tdT,A8,H⟩:=bnd_ H;by_cases c9:tdT≥0
    ·rw[if_pos c9] at H;have c9b0:=decide_eq_true c9;clear c9;by_cases c10:x7_1<0
     ·rw[if_pos c10] at H;have c10b0:=decide_eq_true c10;clear c10;have H':=am_ H;clear H;have pA:0≤(x14_1:Int):=odt_;have qA:x14_1<(l0.length:Int):=odt_;obtain⟨adA,AA_0,cA_0,eA,hxA_0,hlA_0,hiA_0⟩:=at_L3 HR0.out x14_1 pA qA;cases eA;replace hxA_0:=(HB.out.cell (bc_ w _ hxA_0)).trans hxA_0;have HRA_0:=am_ hiA_0;have HCA_0:=am_ hlA_0;clear hiA_0 hlA_0;replace pA:=eq_true pA;replace qA:=eq_true qA;obtain⟨hcz11_0,hcz11_1,hcz11_2,hfz11_0,hfz11_1,hfz11_2⟩:=bx3_ BKcs.out
      go_wp2_with (((with_reducible refine gate_callee (f:=26) rfl ?_);refine goesL_ (some 22) rfl rfl Try.func26 y0_ rfl #[.slice AA_0 (rd_L3 l0 x14_1).length cA_0,.slice A1 l1.length c1,.agg #[.slice A2_0 l2_0.length c2_0,.slice A2_1 l2_1.length c2_1,.slice A2_2 l2_2.length c2_2]] rfl z1_ ?_;(with_reducible refine(impl_RootDist.calls k1 _ _ (rd_L3 l0 x14_1) _ _ l1 _ _ l2_0 _ _ l2_1 _ _ l2_2 tdT _ ?s1 ?s2 ?s3 ?s4 ?s5 ?s6 ?s7 ?s8 ?s9 ?s10 A8.out).mono ?_);(case s1=>exact z172_);(case s2=>exact HCA_0.out);(case s3=>exact z16_);(case s4=>exact HC1.out);(case s5=>exact z33_);(case s6=>exact HC2_0.out);(case s7=>exact z34_);(case s8=>exact HC2_1.out);(case s9=>exact z35_);(case s10=>exact HC2_2.out);rintro e w12 ⟨rfl,hb⟩;refine⟨_,rfl,?_⟩;replace BKcs:=am_ (blk_below z121_ hb);replace HB:=am_ (below_step z83_ hb);(try clear hb)))
      go_roundg k1
      case measure=>have:=HK1.out;omega
      case rel=>exact⟨(x14_1),(tdT),(wrap64 (x14_1+1)),z9_,z9_,z9_,H',⟨z170_⟩,⟨z121_⟩,⟨z83_⟩⟩
     ·rw[if_neg c10] at H;have c10b0:=decide_eq_false c10;clear c10;by_cases c13:tdT<x8_1
      ·rw[if_pos c13] at H;have c13b0:=decide_eq_true c13;clear c13;have H':=am_ H;clear H;have pA:0≤(x14_1:Int):=odt_;have qA:x14_1<(l0.length:Int):=odt_;obtain⟨adA,AA_0,cA_0,eA,hxA_0,hlA_0,hiA_0⟩:=at_L3 HR0.out x14_1 pA qA;cases eA;replace hxA_0:=(HB.out.cell (bc_ w _ hxA_0)).trans hxA_0;have HRA_0:=am_ hiA_0;have HCA_0:=am_ hlA_0;clear hiA_0 hlA_0;replace pA:=eq_true pA;replace qA:=eq_true qA;obtain⟨hcz14_0,hcz14_1,hcz14_2,hfz14_0,hfz14_1,hfz14_2⟩:=bx3_ BKcs.out
       go_wp2_with (((with_reducible refine gate_callee (f:=26) rfl ?_);refine goesL_ (some 22) rfl rfl Try.func26 y0_ rfl #[.slice AA_0 (rd_L3 l0 x14_1).length cA_0,.slice A1 l1.length c1,.agg #[.slice A2_0 l2_0.length c2_0,.slice A2_1 l2_1.length c2_1,.slice A2_2 l2_2.length c2_2]] rfl z1_ ?_;(with_reducible refine(impl_RootDist.calls k1 _ _ (rd_L3 l0 x14_1) _ _ l1 _ _ l2_0 _ _ l2_1 _ _ l2_2 tdT _ ?s1 ?s2 ?s3 ?s4 ?s5 ?s6 ?s7 ?s8 ?s9 ?s10 A8.out).mono ?_);(case s1=>exact z172_);(case s2=>exact HCA_0.out);(case s3=>exact z16_);(case s4=>exact HC1.out);(case s5=>exact z33_);(case s6=>exact HC2_0.out);(case s7=>exact z34_);(case s8=>exact HC2_1.out);(case s9=>exact z35_);(case s10=>exact HC2_2.out);rintro e w15 ⟨rfl,hb⟩;refine⟨_,rfl,?_⟩;replace BKcs:=am_ (blk_below z121_ hb);replace HB:=am_ (below_step z83_ hb);(try clear hb)))
       go_roundg k1
       case measure=>have:=HK1.out;omega
       case rel=>exact⟨(x14_1),(tdT),(wrap64 (x14_1+1)),z9_,z9_,z9_,H',⟨z170_⟩,⟨z121_⟩,⟨z83_⟩⟩
      ·rw[if_neg c13] at H;have c13b0:=decide_eq_false c13;clear c13;have H':=am_ H;clear H;have pA:0≤(x14_1:Int):=odt_;have qA:x14_1<(l0.length:Int):=odt_;obtain⟨adA,AA_0,cA_0,eA,hxA_0,hlA_0,hiA_0⟩:=at_L3 HR0.out x14_1 pA qA;cases eA;replace hxA_0:=(HB.out.cell (bc_ w _ hxA_0)).trans hxA_0;have HRA_0:=am_ hiA_0;have HCA_0:=am_ hlA_0;clear hiA_0 hlA_0;replace pA:=eq_true pA;replace qA:=eq_true qA;obtain⟨hcz16_0,hcz16_1,hcz16_2,hfz16_0,hfz16_1,hfz16_2⟩:=bx3_ BKcs.out
       go_wp2_with (((with_reducible refine gate_callee (f:=26) rfl ?_);refine goesL_ (some 22) rfl rfl Try.func26 y0_ rfl #[.slice AA_0 (rd_L3 l0 x14_1).length cA_0,.slice A1 l1.length c1,.agg #[.slice A2_0 l2_0.length c2_0,.slice A2_1 l2_1.length c2_1,.slice A2_2 l2_2.length c2_2]] rfl z1_ ?_;(with_reducible refine(impl_RootDist.calls k1 _ _ (rd_L3 l0 x14_1) _ _ l1 _ _ l2_0 _ _ l2_1 _ _ l2_2 tdT _ ?s1 ?s2 ?s3 ?s4 ?s5 ?s6 ?s7 ?s8 ?s9 ?s10 A8.out).mono ?_);(case s1=>exact z172_);(case s2=>exact HCA_0.out);(case s3=>exact z16_);(case s4=>exact HC1.out);(case s5=>exact z33_);(case s6=>exact HC2_0.out);(case s7=>exact z34_);(case s8=>exact HC2_1.out);(case s9=>exact z35_);(case s10=>exact HC2_2.out);rintro e w17 ⟨rfl,hb⟩;refine⟨_,rfl,?_⟩;replace BKcs:=am_ (blk_below z121_ hb);replace HB:=am_ (below_step z83_ hb);(try clear hb)))
       go_roundg k1
       case measure=>have:=HK1.out;omega
       case rel=>exact⟨(x7_1),(x8_1),(wrap64 (x14_1+1)),z9_,z9_,z9_,H',⟨z170_⟩,⟨z121_⟩,⟨z83_⟩⟩
    ·rw[if_neg c9] at H;have c9b0:=decide_eq_false c9;clear c9;have H':=am_ H;clear H;have pA:0≤(x14_1:Int):=odt_;have qA:x14_1<(l0.length:Int):=odt_;obtain⟨adA,AA_0,cA_0,eA,hxA_0,hlA_0,hiA_0⟩:=at_L3 HR0.out x14_1 pA qA;cases eA;replace hxA_0:=(HB.out.cell (bc_ w _ hxA_0)).trans hxA_0;have HRA_0:=am_ hiA_0;have HCA_0:=am_ hlA_0;clear hiA_0 hlA_0;replace pA:=eq_true pA;replace qA:=eq_true qA;obtain⟨hcz18_0,hcz18_1,hcz18_2,hfz18_0,hfz18_1,hfz18_2⟩:=bx3_ BKcs.out
     go_wp2_with (((with_reducible refine gate_callee (f:=26) rfl ?_);refine goesL_ (some 22) rfl rfl Try.func26 y0_ rfl #[.slice AA_0 (rd_L3 l0 x14_1).length cA_0,.slice A1 l1.length c1,.agg #[.slice A2_0 l2_0.length c2_0,.slice A2_1 l2_1.length c2_1,.slice A2_2 l2_2.length c2_2]] rfl z1_ ?_;(with_reducible refine(impl_RootDist.calls k1 _ _ (rd_L3 l0 x14_1) _ _ l1 _ _ l2_0 _ _ l2_1 _ _ l2_2 tdT _ ?s1 ?s2 ?s3 ?s4 ?s5 ?s6 ?s7 ?s8 ?s9 ?s10 A8.out).mono ?_);(case s1=>exact z172_);(case s2=>exact HCA_0.out);(case s3=>exact z16_);(case s4=>exact HC1.out);(case s5=>exact z33_);(case s6=>exact HC2_0.out);(case s7=>exact z34_);(case s8=>exact HC2_1.out);(case s9=>exact z35_);(case s10=>exact HC2_2.out);rintro e w19 ⟨rfl,hb⟩;refine⟨_,rfl,?_⟩;replace BKcs:=am_ (blk_below z121_ hb);replace HB:=am_ (below_step z83_ hb);(try clear hb)))
     go_roundg k1
     case measure=>have:=HK1.out;omega
     case rel=>exact⟨(x7_1),(x8_1),(wrap64 (x14_1+1)),z9_,z9_,z9_,H',⟨z170_⟩,⟨z121_⟩,⟨z83_⟩⟩
   ·rw[if_neg c5] at H;have c5b0:=decide_eq_false c5;clear c5;obtain rfl:=Option.some.inj H;go_wp2;go_ret;exact⟨z7_,z83_⟩

/-! ### laws_big: function 24 -/
def laws_big.f (l0:List Int):Option (Bool):=some (decide ((l0.length:Int)>1048576))
theorem laws_big.calls (A0:Option Addr) (c0:Nat) (l0:List Int) (r:Bool) (w:World) (hr0:Kd.C (Kd.int .u8) w A0 l0.length l0) (hc0:l0.length≤c0) (h:laws_big.f l0=some r):
  Calls Try.prog 24 #[.slice A0 l0.length c0] w fun e w'=>e= .returned (.bool r)∧Drawn0 w w':=by
 have HR0:=am_ hr0;have HC0:=am_ hc0;clear hr0 hc0;have H:(some (decide ((l0.length:Int)>1048576)))=some r:=h;clear h;obtain rfl:=Option.some.inj H;go_enter Try.func24,Try.ntmps24;go_wp2;go_ret;exact⟨z9_,z57_⟩

end Go.Proofs.Ytbmkobanpakohaa.PFnNear
