/- The walks of the law FnMedian. -/
import Derived.Test.YtbmkobanpakohaaMFnMedianx0
import Derived.Test.YtbmkobanpakohaaMFnMedianx1
namespace Go.Proofs.Ytbmkobanpakohaa.PFnMedian
open Go.RowKit Go.Proofs.YtbmkobanpakohaaW.PrintWords Go.Proofs.YtbmkobanpakohaaW.PrintLast Go.Proofs.YtbmkobanpakohaaW.PrintMore
attribute [local go_sem] max2_int min2_int max_two min_two max_three min_three max_four min_four
set_option linter.unusedVariables false
set_option linter.unusedSimpArgs false

/-! ### spec_TreeOk: function 28 -/
def spec_TreeOk.l0:Nat→List (S61)→Int→Option (Bool)
 |0,_,_=>none
 |k+1,x0,x3=>if x3<(x0.length:Int) then (if 0≤x3 then ((spec_LabelOk.f ((rd_T61 x0 x3).f0)).bind fun t104=>(if t104=true then ((spec_l1In.f ((rd_T61 x0 x3).f1) 0 12).bind fun t106=>(if t106=true then (if ((((rd_T61 x0 x3).f1)==0) != (x3==0))=true then (some false) else (if x3>0 then (if 0≤(wrap64 (x3-1)) then (if (wrap64 (x3-1))<(x0.length:Int) then (if ((rd_T61 x0 x3).f1)>(wrap64 (((rd_T61 x0 (wrap64 (x3-1))).f1)+1)) then (some false) else (spec_TreeOk.l0 k x0 (wrap64 (x3+1)))) else (none)) else (none)) else (spec_TreeOk.l0 k x0 (wrap64 (x3+1))))) else (some false))) else (some false))) else (none)) else ((spec_l1In.f (x0.length:Int) 1 24).bind fun t102=>(some t102))
def spec_TreeOk.f (k:Nat) (l0:List (S61)):Option (Bool):=spec_TreeOk.l0 k l0 0
def spec_TreeOk.T4:Bool×List (List Nat×List Nat):=(true,[([],[]),([],[]),([0,1],[0,1]),([2],[2]),([3],[3]),([4],[4]),([5],[5]),([6,5],[6]),([7],[7]),([7],[7]),([8,9,7],[7,8,9]),([10,7],[7,10]),([11,7],[7,11]),([12,7,7],[7,12]),([13,7],[7,13]),([7,14],[7,14]),([15,13],[15]),([16],[16]),([16],[16]),([17,18,16],[16,17,18]),([19,16],[16,19]),([20,16],[16,20]),([21,16],[16,21]),([16],[16]),([23,16],[16,23]),([22,24,16],[16,22,24]),([16,25],[16,25]),([26,16],[26]),([27],[27]),([28,27],[27,28]),([29,27,27],[27,29]),([30],[30]),([30],[30]),([31,32,30],[30,31,32]),([33,30],[30,33]),([34,30],[30,34]),([30],[30]),([30],[30]),([37,30],[30,37]),([36,38,30],[30,36,38]),([39,30],[30,39]),([40,30],[30,40]),([41,30],[30,41]),([35,42,30],[30,35,42]),([30,43,27],[27,30,43]),([27,44],[27,44])])
def spec_TreeOk.B4:List Nat:=[0,0,3,7,15,31,63,127,255,255,1023,2047,4095,8191,16383,32767,65535,131071,131071,524287,1048575,2097151,4194303,131071,8519679,33554431,67108863,134217727,268435455,536870911,1073741823,2147483647,2147483647,8589934591,17179869183,34359738367,2147483647,2147483647,139586437119,483183820799,1032939634687,2132451262463,4331474518015,8796093022207,17592186044415,35184372088831]
theorem spec_TreeOk.tab4:rtab .any (opsOf Try.f28 4)=spec_TreeOk.T4:=by kernel_rfl
theorem spec_TreeOk.bits4:waitsOk spec_TreeOk.T4.2 spec_TreeOk.B4=true:=by kernel_rfl
set_option maxHeartbeats 8000000 in
set_option maxRecDepth 100000 in
theorem spec_TreeOk.calls (k:Nat) (A0:Option Addr) (c0:Nat) (l0:List (S61)) (r:Bool) (w:World) (hr0:Kd.C k61 w A0 l0.length l0) (hc0:l0.length≤c0) (h:spec_TreeOk.f k l0=some r):
  Calls Try.prog 28 #[.slice A0 l0.length c0] w fun e w'=>e= .returned (.bool r)∧Below w.heap.size w w':=by
 have HR0:=Aside0.mk hr0;have HC0:=Aside0.mk hc0;clear hr0 hc0;have HB:=am_ (Below.refl w.heap.size w);have H:(spec_TreeOk.l0 k l0 0)=some r:=h;clear h;have H':=Aside0.mk H;clear H;go_enter Try.func28,Try.ntmps28;go_wp2
 go_loopg [3] k (fun kq v3 w'=>∃(x3_1:Int),v3= .int .i64 x3_1∧Aside0 (spec_TreeOk.l0 kq l0 x3_1=some r)∧Aside0 (kq≤k)∧Aside0 (Below w.heap.size w w'))
 case atStart=>exact⟨(0),z9_,H',⟨Nat.le_refl _⟩,⟨z0_⟩⟩
 case round=>
  clear H';obtain⟨x3_1,rfl,HA,HK1,HB⟩:=hrel;cases gk with
  |zero=>exact absurd HA.out (by simp[spec_TreeOk.l0])
  | succ k1=>
   have H:=HA.out;clear HA;simp only[spec_TreeOk.l0] at H;by_cases c2:x3_1<(l0.length:Int)
   ·rw [if_pos c2] at H;have c2b0:=decide_eq_true c2;clear c2;obtain⟨c3b0,H⟩:=ifd_ H;obtain⟨t104,A4,H⟩:=bnd_ H;by_cases c5:t104=true
    ·subst c5;replace H:=ift_ H;obtain⟨t106,A6,H⟩:=bnd_ H;by_cases c7:t106=true
     ·subst c7;replace H:=ift_ H;by_cases c8:((((rd_T61 l0 x3_1).f1)==0) != (x3_1==0))=true
      ·rw[if_pos c8] at H;have c8b0:((((rd_T61 l0 x3_1).f1)==0) != (x3_1==0))=true:=c8
       (try(have c8b1:decide ((((rd_T61 l0 x3_1).f1)==0)=(x3_1==0))=false:=by simpa using c8))
       (try(have c8b2:((((rd_T61 l0 x3_1).f1)==0)==(x3_1==0))=false:=by simpa using c8))
       (try(have c8b3:¬((((rd_T61 l0 x3_1).f1)==0)=(x3_1==0)):=by simpa using c8))
       clear c8;obtain rfl:=Option.some.inj H
       try go_wp2
       replace HB:=am_ (below_drew1 HB.out);obtain⟨p103,q103,ad103,e103,hw103_0,hw103_1,hx103_0,hx103_1⟩:=atw61_ HR0 HB x3_1;cases e103;obtain⟨p105,q105,ad105,e105,hw105_0,hw105_1,hx105_0,hx105_1⟩:=atw61_ HR0 HB x3_1;obtain rfl:ad103=ad105:=(by injection e105)
       obtain⟨p107,q107,ad107,e107,hw107_0,hw107_1,hx107_0,hx107_1⟩:=atw61_ HR0 HB x3_1;obtain rfl:ad103=ad107:=(by injection e107)
       refine start_ (n:=46) (S:=fun w'=>w'.cell? (ad103.add ((x3_1).toNat*2))=some (.int .i64 ((rd_T61 l0 x3_1).f0))∧w'.cell? ⟨(ad103.add ((x3_1).toNat*2)).block,(ad103.add ((x3_1).toNat*2)).off+1,none⟩=some (.int .i64 ((rd_T61 l0 x3_1).f1))) (ds:=[]) (fl_ 46 0) y0_ rfl (fl_zero _) ⟨((HB.out.cell (World.block_lt_of_cell? w _ hw103_0)).trans hw103_0),((HB.out.cell (World.block_lt_of_cell? w _ hw103_1)).trans hw103_1)⟩ (fun hHeld=>?_);refine with_tabW spec_TreeOk.tab4 spec_TreeOk.bits4 (fun HT_ HW_=>?_);generalize wr.drew=w9 at HB hx103_0 hx103_1 hx105_0 hx105_1 hx107_0 hx107_1 hHeld⊢
       iterate 4 refine yp_ HT_ ?_
       refine yt_ HT_ HW_ hHeld ?_ (hy:=z165_);refine one_ (i:=5) (N:=some 15) (fl_ 46 6) rfl rfl (one_of HT_.out y0_) (by decide) (fun K hK=>?_);refine goes_ Try.func54 y0_ rfl #[.int .i64 ((rd_T61 l0 x3_1).f0)] (by rfl) rfl rfl z1_ ?_
       with_reducible refine(spec_LabelOk.calls ((rd_T61 l0 x3_1).f0) true _ A4.out).mono ?_
       rintro e w' ⟨rfl,⟨nd,rfl⟩⟩;refine⟨_,rfl,?_⟩;refine hK.out _ _ ⟨((HB.out.cell (World.block_lt_of_cell? w _ hw103_0)).trans hw103_0),((HB.out.cell (World.block_lt_of_cell? w _ hw103_1)).trans hw103_1)⟩ (fun hHeld=>?_);clear hK K;refine zn_ rfl ?_
       iterate 6 refine yp_ HT_ ?_
       refine yt_ HT_ HW_ hHeld ?_ (hy:=z165_);refine one_ (i:=13) (N:=some 23) (fl_ 46 14) rfl rfl (one_of HT_.out y0_) (by decide) (fun K hK=>?_);refine goes_ Try.func55 y0_ rfl #[.int .i64 ((rd_T61 l0 x3_1).f1),.int .i64 0,.int .i64 12] (by rfl) rfl rfl z1_ ?_
       with_reducible refine(spec_l1In.calls ((rd_T61 l0 x3_1).f1) 0 12 true _ A6.out).mono ?_
       rintro e w' ⟨rfl,⟨nd,rfl⟩⟩;refine⟨_,rfl,?_⟩;refine hK.out _ _ ⟨((HB.out.cell (World.block_lt_of_cell? w _ hw103_0)).trans hw103_0),((HB.out.cell (World.block_lt_of_cell? w _ hw103_1)).trans hw103_1)⟩ (fun hHeld=>?_);clear hK K;refine zn_ rfl ?_
       iterate 7 refine yp_ HT_ ?_
       refine ypg_ (i:=23) (ra_ [21,2,1,22]) HT_ ?_;refine ypg_ (i:=24) (ra_ [21,2,2,21]) HT_ ?_;refine ytg_ (i:=21) (ra_ [22,1,2,21]) HT_ HW_ hHeld ?_ (hy:=z165_);refine ypg_ (i:=22) (fl_ 46 25) HT_ ?_
       iterate 3 refine yp_ HT_ ?_
       iterate 17 refine zu_ HT_ rfl rfl y0_ (fun _ _ _ h=>h) (by rfl) ?_
       refine yp_ HT_ ?_;refine done_ (done_of HT_.out y0_) ?_
       try go_wp2
       go_ret;exact⟨z8_,z0_⟩
      ·rw[if_neg c8] at H;have c8b0:((((rd_T61 l0 x3_1).f1)==0) != (x3_1==0))=false:=by simpa using c8
       (try(have c8b1:decide ((((rd_T61 l0 x3_1).f1)==0)=(x3_1==0))=true:=by simpa using c8))
       (try(have c8b2:((((rd_T61 l0 x3_1).f1)==0)==(x3_1==0))=true:=by simpa using c8))
       clear c8;by_cases c10:x3_1>0
       ·rw[if_pos c10] at H;have c10b0:=decide_eq_true c10;clear c10;obtain⟨ji11,hji11⟩:∃j_:Int,(wrap64 (x3_1-1))=j_:=⟨_,rfl⟩
        rw[hji11] at H;have hji11w:(IntKind.i64.wrap (x3_1-1))=ji11:=(i64_w _).trans hji11;obtain⟨c12b0,H⟩:=ifd_ H;obtain⟨c13b0,H⟩:=ifd_ H;by_cases c14:((rd_T61 l0 x3_1).f1)>(wrap64 (((rd_T61 l0 (ji11)).f1)+1))
        ·rw[if_pos c14] at H;have c14b0:=decide_eq_true c14;clear c14;obtain rfl:=Option.some.inj H
         try go_wp2
         replace HB:=am_ (below_drew1 HB.out);obtain⟨p103,q103,ad103,e103,hw103_0,hw103_1,hx103_0,hx103_1⟩:=atw61_ HR0 HB x3_1;cases e103;obtain⟨p105,q105,ad105,e105,hw105_0,hw105_1,hx105_0,hx105_1⟩:=atw61_ HR0 HB x3_1;obtain rfl:ad103=ad105:=(by injection e105)
         obtain⟨p107,q107,ad107,e107,hw107_0,hw107_1,hx107_0,hx107_1⟩:=atw61_ HR0 HB x3_1;obtain rfl:ad103=ad107:=(by injection e107)
         obtain⟨p108,q108,ad108,e108,hw108_0,hw108_1,hx108_0,hx108_1⟩:=atw61_ HR0 HB x3_1;obtain rfl:ad103=ad108:=(by injection e108)
         obtain⟨p109,q109,ad109,e109,hw109_0,hw109_1,hx109_0,hx109_1⟩:=atw61_ HR0 HB (ji11);obtain rfl:ad103=ad109:=(by injection e109)
         refine start_ (n:=46) (S:=fun w'=>w'.cell? (ad103.add ((x3_1).toNat*2))=some (.int .i64 ((rd_T61 l0 x3_1).f0))∧w'.cell? ⟨(ad103.add ((x3_1).toNat*2)).block,(ad103.add ((x3_1).toNat*2)).off+1,none⟩=some (.int .i64 ((rd_T61 l0 x3_1).f1))∧w'.cell? (ad103.add (((ji11)).toNat*2))=some (.int .i64 ((rd_T61 l0 (ji11)).f0))∧w'.cell? ⟨(ad103.add (((ji11)).toNat*2)).block,(ad103.add (((ji11)).toNat*2)).off+1,none⟩=some (.int .i64 ((rd_T61 l0 (ji11)).f1))) (ds:=[]) (fl_ 46 0) y0_ rfl (fl_zero _) ⟨((HB.out.cell (World.block_lt_of_cell? w _ hw103_0)).trans hw103_0),((HB.out.cell (World.block_lt_of_cell? w _ hw103_1)).trans hw103_1),((HB.out.cell (World.block_lt_of_cell? w _ hw109_0)).trans hw109_0),((HB.out.cell (World.block_lt_of_cell? w _ hw109_1)).trans hw109_1)⟩ (fun hHeld=>?_);refine with_tabW spec_TreeOk.tab4 spec_TreeOk.bits4 (fun HT_ HW_=>?_);generalize wr.drew=w15 at HB hx103_0 hx103_1 hx105_0 hx105_1 hx107_0 hx107_1 hx108_0 hx108_1 hx109_0 hx109_1 hHeld⊢
         iterate 4 refine yp_ HT_ ?_
         refine yt_ HT_ HW_ hHeld ?_ (hy:=z169_);refine one_ (i:=5) (N:=some 15) (fl_ 46 6) rfl rfl (one_of HT_.out y0_) (by decide) (fun K hK=>?_);refine goes_ Try.func54 y0_ rfl #[.int .i64 ((rd_T61 l0 x3_1).f0)] (by rfl) rfl rfl z1_ ?_
         with_reducible refine(spec_LabelOk.calls ((rd_T61 l0 x3_1).f0) true _ A4.out).mono ?_
         rintro e w' ⟨rfl,⟨nd,rfl⟩⟩;refine⟨_,rfl,?_⟩;refine hK.out _ _ ⟨((HB.out.cell (World.block_lt_of_cell? w _ hw103_0)).trans hw103_0),((HB.out.cell (World.block_lt_of_cell? w _ hw103_1)).trans hw103_1),((HB.out.cell (World.block_lt_of_cell? w _ hw109_0)).trans hw109_0),((HB.out.cell (World.block_lt_of_cell? w _ hw109_1)).trans hw109_1)⟩ (fun hHeld=>?_);clear hK K;refine zn_ rfl ?_
         iterate 6 refine yp_ HT_ ?_
         refine yt_ HT_ HW_ hHeld ?_ (hy:=z169_);refine one_ (i:=13) (N:=some 23) (fl_ 46 14) rfl rfl (one_of HT_.out y0_) (by decide) (fun K hK=>?_);refine goes_ Try.func55 y0_ rfl #[.int .i64 ((rd_T61 l0 x3_1).f1),.int .i64 0,.int .i64 12] (by rfl) rfl rfl z1_ ?_
         with_reducible refine(spec_l1In.calls ((rd_T61 l0 x3_1).f1) 0 12 true _ A6.out).mono ?_
         rintro e w' ⟨rfl,⟨nd,rfl⟩⟩;refine⟨_,rfl,?_⟩;refine hK.out _ _ ⟨((HB.out.cell (World.block_lt_of_cell? w _ hw103_0)).trans hw103_0),((HB.out.cell (World.block_lt_of_cell? w _ hw103_1)).trans hw103_1),((HB.out.cell (World.block_lt_of_cell? w _ hw109_0)).trans hw109_0),((HB.out.cell (World.block_lt_of_cell? w _ hw109_1)).trans hw109_1)⟩ (fun hHeld=>?_);clear hK K;refine zn_ rfl ?_
         iterate 7 refine yp_ HT_ ?_
         refine ypg_ (i:=23) (ra_ [21,2,1,22]) HT_ ?_;refine ypg_ (i:=24) (ra_ [21,2,2,21]) HT_ ?_;refine ytg_ (i:=21) (ra_ [22,1,2,21]) HT_ HW_ hHeld ?_ (hy:=z169_);refine ypg_ (i:=22) (fl_ 46 25) HT_ ?_
         iterate 10 refine yp_ HT_ ?_
         refine ypg_ (i:=36) (ra_ [35,1,1,9]) HT_ ?_;refine ypg_ (i:=37) (ra_ [35,1,2,8]) HT_ ?_;refine ypg_ (i:=38) (ra_ [35,1,3,7]) HT_ ?_;refine ypg_ (i:=39) (ra_ [35,1,4,6]) HT_ ?_;refine ypg_ (i:=40) (ra_ [35,1,5,5]) HT_ ?_;refine ytg_ (i:=35) (fl_ 46 41) HT_ HW_ hHeld ?_ (hy:=z169_);refine yt_ HT_ HW_ hHeld ?_ (hy:=z169_)
         iterate 4 refine yp_ HT_ ?_
         refine done_ (done_of HT_.out y0_) ?_
         try go_wp2
         go_ret;exact⟨by rfl,z0_⟩
        ·rw[if_neg c14] at H;have c14b0:=decide_eq_false c14;clear c14;have H':=Aside0.mk H;clear H
         try go_wp2
         replace HB:=am_ (below_drew1 HB.out);obtain⟨p103,q103,ad103,e103,hw103_0,hw103_1,hx103_0,hx103_1⟩:=atw61_ HR0 HB x3_1;cases e103;obtain⟨p105,q105,ad105,e105,hw105_0,hw105_1,hx105_0,hx105_1⟩:=atw61_ HR0 HB x3_1;obtain rfl:ad103=ad105:=(by injection e105)
         obtain⟨p107,q107,ad107,e107,hw107_0,hw107_1,hx107_0,hx107_1⟩:=atw61_ HR0 HB x3_1;obtain rfl:ad103=ad107:=(by injection e107)
         obtain⟨p108,q108,ad108,e108,hw108_0,hw108_1,hx108_0,hx108_1⟩:=atw61_ HR0 HB x3_1;obtain rfl:ad103=ad108:=(by injection e108)
         obtain⟨p109,q109,ad109,e109,hw109_0,hw109_1,hx109_0,hx109_1⟩:=atw61_ HR0 HB (ji11);obtain rfl:ad103=ad109:=(by injection e109)
         refine start_ (n:=46) (S:=fun w'=>w'.cell? (ad103.add ((x3_1).toNat*2))=some (.int .i64 ((rd_T61 l0 x3_1).f0))∧w'.cell? ⟨(ad103.add ((x3_1).toNat*2)).block,(ad103.add ((x3_1).toNat*2)).off+1,none⟩=some (.int .i64 ((rd_T61 l0 x3_1).f1))∧w'.cell? (ad103.add (((ji11)).toNat*2))=some (.int .i64 ((rd_T61 l0 (ji11)).f0))∧w'.cell? ⟨(ad103.add (((ji11)).toNat*2)).block,(ad103.add (((ji11)).toNat*2)).off+1,none⟩=some (.int .i64 ((rd_T61 l0 (ji11)).f1))) (ds:=[]) (fl_ 46 0) y0_ rfl (fl_zero _) ⟨((HB.out.cell (World.block_lt_of_cell? w _ hw103_0)).trans hw103_0),((HB.out.cell (World.block_lt_of_cell? w _ hw103_1)).trans hw103_1),((HB.out.cell (World.block_lt_of_cell? w _ hw109_0)).trans hw109_0),((HB.out.cell (World.block_lt_of_cell? w _ hw109_1)).trans hw109_1)⟩ (fun hHeld=>?_);refine with_tabW spec_TreeOk.tab4 spec_TreeOk.bits4 (fun HT_ HW_=>?_);generalize wr.drew=w16 at HB hx103_0 hx103_1 hx105_0 hx105_1 hx107_0 hx107_1 hx108_0 hx108_1 hx109_0 hx109_1 hHeld⊢
         iterate 4 refine yp_ HT_ ?_
         refine yt_ HT_ HW_ hHeld ?_ (hy:=z169_);refine one_ (i:=5) (N:=some 15) (fl_ 46 6) rfl rfl (one_of HT_.out y0_) (by decide) (fun K hK=>?_);refine goes_ Try.func54 y0_ rfl #[.int .i64 ((rd_T61 l0 x3_1).f0)] (by rfl) rfl rfl z1_ ?_
         with_reducible refine(spec_LabelOk.calls ((rd_T61 l0 x3_1).f0) true _ A4.out).mono ?_
         rintro e w' ⟨rfl,⟨nd,rfl⟩⟩;refine⟨_,rfl,?_⟩;refine hK.out _ _ ⟨((HB.out.cell (World.block_lt_of_cell? w _ hw103_0)).trans hw103_0),((HB.out.cell (World.block_lt_of_cell? w _ hw103_1)).trans hw103_1),((HB.out.cell (World.block_lt_of_cell? w _ hw109_0)).trans hw109_0),((HB.out.cell (World.block_lt_of_cell? w _ hw109_1)).trans hw109_1)⟩ (fun hHeld=>?_);clear hK K;refine zn_ rfl ?_
         iterate 6 refine yp_ HT_ ?_
         refine yt_ HT_ HW_ hHeld ?_ (hy:=z169_);refine one_ (i:=13) (N:=some 23) (fl_ 46 14) rfl rfl (one_of HT_.out y0_) (by decide) (fun K hK=>?_);refine goes_ Try.func55 y0_ rfl #[.int .i64 ((rd_T61 l0 x3_1).f1),.int .i64 0,.int .i64 12] (by rfl) rfl rfl z1_ ?_
         with_reducible refine(spec_l1In.calls ((rd_T61 l0 x3_1).f1) 0 12 true _ A6.out).mono ?_
         rintro e w' ⟨rfl,⟨nd,rfl⟩⟩;refine⟨_,rfl,?_⟩;refine hK.out _ _ ⟨((HB.out.cell (World.block_lt_of_cell? w _ hw103_0)).trans hw103_0),((HB.out.cell (World.block_lt_of_cell? w _ hw103_1)).trans hw103_1),((HB.out.cell (World.block_lt_of_cell? w _ hw109_0)).trans hw109_0),((HB.out.cell (World.block_lt_of_cell? w _ hw109_1)).trans hw109_1)⟩ (fun hHeld=>?_);clear hK K;refine zn_ rfl ?_
         iterate 7 refine yp_ HT_ ?_
         refine ypg_ (i:=23) (ra_ [21,2,1,22]) HT_ ?_;refine ypg_ (i:=24) (ra_ [21,2,2,21]) HT_ ?_;refine ytg_ (i:=21) (ra_ [22,1,2,21]) HT_ HW_ hHeld ?_ (hy:=z169_);refine ypg_ (i:=22) (fl_ 46 25) HT_ ?_
         iterate 10 refine yp_ HT_ ?_
         refine ypg_ (i:=36) (ra_ [35,1,1,9]) HT_ ?_;refine ypg_ (i:=37) (ra_ [35,1,2,8]) HT_ ?_;refine ypg_ (i:=38) (ra_ [35,1,3,7]) HT_ ?_;refine ypg_ (i:=39) (ra_ [35,1,4,6]) HT_ ?_;refine ypg_ (i:=40) (ra_ [35,1,5,5]) HT_ ?_;refine ytg_ (i:=35) (fl_ 46 41) HT_ HW_ hHeld ?_ (hy:=z169_);refine yt_ HT_ HW_ hHeld ?_ (hy:=z169_)
         iterate 4 refine yp_ HT_ ?_
         refine done_ (done_of HT_.out y0_) ?_
         try go_wp2
         go_roundg k1
         case measure=>have:=HK1.out;omega
         case rel=>exact⟨(wrap64 (x3_1+1)),z9_,H',⟨z176_⟩,⟨z0_⟩⟩
       ·rw[if_neg c10] at H;have c10b0:=decide_eq_false c10;clear c10;have H':=Aside0.mk H;clear H
        try go_wp2
        replace HB:=am_ (below_drew1 HB.out);obtain⟨p103,q103,ad103,e103,hw103_0,hw103_1,hx103_0,hx103_1⟩:=atw61_ HR0 HB x3_1;cases e103;obtain⟨p105,q105,ad105,e105,hw105_0,hw105_1,hx105_0,hx105_1⟩:=atw61_ HR0 HB x3_1;obtain rfl:ad103=ad105:=(by injection e105)
        obtain⟨p107,q107,ad107,e107,hw107_0,hw107_1,hx107_0,hx107_1⟩:=atw61_ HR0 HB x3_1;obtain rfl:ad103=ad107:=(by injection e107)
        refine start_ (n:=46) (S:=fun w'=>w'.cell? (ad103.add ((x3_1).toNat*2))=some (.int .i64 ((rd_T61 l0 x3_1).f0))∧w'.cell? ⟨(ad103.add ((x3_1).toNat*2)).block,(ad103.add ((x3_1).toNat*2)).off+1,none⟩=some (.int .i64 ((rd_T61 l0 x3_1).f1))) (ds:=[]) (fl_ 46 0) y0_ rfl (fl_zero _) ⟨((HB.out.cell (World.block_lt_of_cell? w _ hw103_0)).trans hw103_0),((HB.out.cell (World.block_lt_of_cell? w _ hw103_1)).trans hw103_1)⟩ (fun hHeld=>?_);refine with_tabW spec_TreeOk.tab4 spec_TreeOk.bits4 (fun HT_ HW_=>?_);generalize wr.drew=w17 at HB hx103_0 hx103_1 hx105_0 hx105_1 hx107_0 hx107_1 hHeld⊢
        iterate 4 refine yp_ HT_ ?_
        refine yt_ HT_ HW_ hHeld ?_ (hy:=z165_);refine one_ (i:=5) (N:=some 15) (fl_ 46 6) rfl rfl (one_of HT_.out y0_) (by decide) (fun K hK=>?_);refine goes_ Try.func54 y0_ rfl #[.int .i64 ((rd_T61 l0 x3_1).f0)] (by rfl) rfl rfl z1_ ?_
        with_reducible refine(spec_LabelOk.calls ((rd_T61 l0 x3_1).f0) true _ A4.out).mono ?_
        rintro e w' ⟨rfl,⟨nd,rfl⟩⟩;refine⟨_,rfl,?_⟩;refine hK.out _ _ ⟨((HB.out.cell (World.block_lt_of_cell? w _ hw103_0)).trans hw103_0),((HB.out.cell (World.block_lt_of_cell? w _ hw103_1)).trans hw103_1)⟩ (fun hHeld=>?_);clear hK K;refine zn_ rfl ?_
        iterate 6 refine yp_ HT_ ?_
        refine yt_ HT_ HW_ hHeld ?_ (hy:=z165_);refine one_ (i:=13) (N:=some 23) (fl_ 46 14) rfl rfl (one_of HT_.out y0_) (by decide) (fun K hK=>?_);refine goes_ Try.func55 y0_ rfl #[.int .i64 ((rd_T61 l0 x3_1).f1),.int .i64 0,.int .i64 12] (by rfl) rfl rfl z1_ ?_
        with_reducible refine(spec_l1In.calls ((rd_T61 l0 x3_1).f1) 0 12 true _ A6.out).mono ?_
        rintro e w' ⟨rfl,⟨nd,rfl⟩⟩;refine⟨_,rfl,?_⟩;refine hK.out _ _ ⟨((HB.out.cell (World.block_lt_of_cell? w _ hw103_0)).trans hw103_0),((HB.out.cell (World.block_lt_of_cell? w _ hw103_1)).trans hw103_1)⟩ (fun hHeld=>?_);clear hK K;refine zn_ rfl ?_
        iterate 7 refine yp_ HT_ ?_
        refine ypg_ (i:=23) (ra_ [21,2,1,22]) HT_ ?_;refine ypg_ (i:=24) (ra_ [21,2,2,21]) HT_ ?_;refine ytg_ (i:=21) (ra_ [22,1,2,21]) HT_ HW_ hHeld ?_ (hy:=z165_);refine ypg_ (i:=22) (fl_ 46 25) HT_ ?_
        iterate 6 refine yp_ HT_ ?_
        iterate 13 refine zu_ HT_ rfl rfl y0_ (fun _ _ _ h=>h) (by rfl) ?_
        iterate 2 refine yp_ HT_ ?_
        refine done_ (done_of HT_.out y0_) ?_
        try go_wp2
        go_roundg k1
        case measure=>have:=HK1.out;omega
        case rel=>exact⟨(wrap64 (x3_1+1)),z9_,H',⟨z176_⟩,⟨z0_⟩⟩
     ·replace c7:=Bool.eq_false_iff.mpr c7;subst c7;replace H:=iff_ H;obtain rfl:=Option.some.inj H
      try go_wp2
      replace HB:=am_ (below_drew1 HB.out);obtain⟨p103,q103,ad103,e103,hw103_0,hw103_1,hx103_0,hx103_1⟩:=atw61_ HR0 HB x3_1;cases e103;obtain⟨p105,q105,ad105,e105,hw105_0,hw105_1,hx105_0,hx105_1⟩:=atw61_ HR0 HB x3_1;obtain rfl:ad103=ad105:=(by injection e105)
      refine start_ (n:=46) (S:=fun w'=>w'.cell? (ad103.add ((x3_1).toNat*2))=some (.int .i64 ((rd_T61 l0 x3_1).f0))∧w'.cell? ⟨(ad103.add ((x3_1).toNat*2)).block,(ad103.add ((x3_1).toNat*2)).off+1,none⟩=some (.int .i64 ((rd_T61 l0 x3_1).f1))) (ds:=[]) (fl_ 46 0) y0_ rfl (fl_zero _) ⟨((HB.out.cell (World.block_lt_of_cell? w _ hw103_0)).trans hw103_0),((HB.out.cell (World.block_lt_of_cell? w _ hw103_1)).trans hw103_1)⟩ (fun hHeld=>?_);refine with_tabW spec_TreeOk.tab4 spec_TreeOk.bits4 (fun HT_ HW_=>?_);generalize wr.drew=w18 at HB hx103_0 hx103_1 hx105_0 hx105_1 hHeld⊢
      iterate 4 refine yp_ HT_ ?_
      refine yt_ HT_ HW_ hHeld ?_ (hy:=z165_);refine one_ (i:=5) (N:=some 15) (fl_ 46 6) rfl rfl (one_of HT_.out y0_) (by decide) (fun K hK=>?_);refine goes_ Try.func54 y0_ rfl #[.int .i64 ((rd_T61 l0 x3_1).f0)] (by rfl) rfl rfl z1_ ?_
      with_reducible refine(spec_LabelOk.calls ((rd_T61 l0 x3_1).f0) true _ A4.out).mono ?_
      rintro e w' ⟨rfl,⟨nd,rfl⟩⟩;refine⟨_,rfl,?_⟩;refine hK.out _ _ ⟨((HB.out.cell (World.block_lt_of_cell? w _ hw103_0)).trans hw103_0),((HB.out.cell (World.block_lt_of_cell? w _ hw103_1)).trans hw103_1)⟩ (fun hHeld=>?_);clear hK K;refine zn_ rfl ?_
      iterate 6 refine yp_ HT_ ?_
      refine yt_ HT_ HW_ hHeld ?_ (hy:=z165_);refine one_ (i:=13) (N:=some 23) (fl_ 46 14) rfl rfl (one_of HT_.out y0_) (by decide) (fun K hK=>?_);refine goes_ Try.func55 y0_ rfl #[.int .i64 ((rd_T61 l0 x3_1).f1),.int .i64 0,.int .i64 12] (by rfl) rfl rfl z1_ ?_
      with_reducible refine(spec_l1In.calls ((rd_T61 l0 x3_1).f1) 0 12 false _ A6.out).mono ?_
      rintro e w' ⟨rfl,⟨nd,rfl⟩⟩;refine⟨_,rfl,?_⟩;refine hK.out _ _ ⟨((HB.out.cell (World.block_lt_of_cell? w _ hw103_0)).trans hw103_0),((HB.out.cell (World.block_lt_of_cell? w _ hw103_1)).trans hw103_1)⟩ (fun hHeld=>?_);clear hK K;refine zn_ rfl ?_
      iterate 3 refine yp_ HT_ ?_
      iterate 9 refine zu_ HT_ rfl rfl y0_ (fun _ _ _ h=>h) (by rfl) ?_
      iterate 2 refine yp_ HT_ ?_
      iterate 17 refine zu_ HT_ rfl rfl y0_ (fun _ _ _ h=>h) (by rfl) ?_
      refine yp_ HT_ ?_;refine done_ (done_of HT_.out y0_) ?_
      try go_wp2
      go_ret;exact⟨z8_,z0_⟩
    ·replace c5:=Bool.eq_false_iff.mpr c5;subst c5;replace H:=iff_ H;obtain rfl:=Option.some.inj H
     try go_wp2
     replace HB:=am_ (below_drew1 HB.out);obtain⟨p103,q103,ad103,e103,hw103_0,hw103_1,hx103_0,hx103_1⟩:=atw61_ HR0 HB x3_1;cases e103;refine start_ (n:=46) (S:=fun w'=>w'.cell? (ad103.add ((x3_1).toNat*2))=some (.int .i64 ((rd_T61 l0 x3_1).f0))∧w'.cell? ⟨(ad103.add ((x3_1).toNat*2)).block,(ad103.add ((x3_1).toNat*2)).off+1,none⟩=some (.int .i64 ((rd_T61 l0 x3_1).f1))) (ds:=[]) (fl_ 46 0) y0_ rfl (fl_zero _) ⟨((HB.out.cell (World.block_lt_of_cell? w _ hw103_0)).trans hw103_0),((HB.out.cell (World.block_lt_of_cell? w _ hw103_1)).trans hw103_1)⟩ (fun hHeld=>?_);refine with_tabW spec_TreeOk.tab4 spec_TreeOk.bits4 (fun HT_ HW_=>?_);generalize wr.drew=w19 at HB hx103_0 hx103_1 hHeld⊢
     iterate 4 refine yp_ HT_ ?_
     refine yt_ HT_ HW_ hHeld ?_ (hy:=z165_);refine one_ (i:=5) (N:=some 15) (fl_ 46 6) rfl rfl (one_of HT_.out y0_) (by decide) (fun K hK=>?_);refine goes_ Try.func54 y0_ rfl #[.int .i64 ((rd_T61 l0 x3_1).f0)] (by rfl) rfl rfl z1_ ?_
     with_reducible refine(spec_LabelOk.calls ((rd_T61 l0 x3_1).f0) false _ A4.out).mono ?_
     rintro e w' ⟨rfl,⟨nd,rfl⟩⟩;refine⟨_,rfl,?_⟩;refine hK.out _ _ ⟨((HB.out.cell (World.block_lt_of_cell? w _ hw103_0)).trans hw103_0),((HB.out.cell (World.block_lt_of_cell? w _ hw103_1)).trans hw103_1)⟩ (fun hHeld=>?_);clear hK K;refine zn_ rfl ?_
     iterate 2 refine yp_ HT_ ?_
     iterate 7 refine zu_ HT_ rfl rfl y0_ (fun _ _ _ h=>h) (by rfl) ?_
     iterate 2 refine yp_ HT_ ?_
     iterate 9 refine zu_ HT_ rfl rfl y0_ (fun _ _ _ h=>h) (by rfl) ?_
     iterate 2 refine yp_ HT_ ?_
     iterate 17 refine zu_ HT_ rfl rfl y0_ (fun _ _ _ h=>h) (by rfl) ?_
     refine yp_ HT_ ?_;refine done_ (done_of HT_.out y0_) ?_
     try go_wp2
     go_ret;exact⟨z8_,z0_⟩
   ·rw[if_neg c2] at H;have c2b0:=decide_eq_false c2;clear c2;obtain⟨t102,A20,H⟩:=bnd_ H;obtain rfl:=Option.some.inj H
    go_wp2_with (((with_reducible refine gate_callee (f:=55) rfl ?_);refine goesL_ (some 58) rfl rfl Try.func55 y0_ rfl #[.int .i64 (l0.length:Int),.int .i64 1,.int .i64 24] rfl z1_ ?_;(with_reducible refine(spec_l1In.calls (l0.length:Int) 1 24 t102 _ A20.out).mono ?_);rintro e w' ⟨rfl,⟨nd,rfl⟩⟩;refine⟨_,rfl,?_⟩))
    go_ret;exact⟨z8_,z0_⟩

end Go.Proofs.Ytbmkobanpakohaa.PFnMedian
