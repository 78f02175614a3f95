/- Walks of functions of FnNear, laid anew out of the kit's print. -/
import Derived.Test.YtbmkobanpakohaaMFnNearx0
import Derived.Test.YtbmkobanpakohaaMFnNearx7
namespace Go.Proofs.Ytbmkobanpakohaa.PFnNear
open Go.RowKit Go.Proofs.YtbmkobanpakohaaW.PrintWords Go.Proofs.YtbmkobanpakohaaW.PrintLast Go.Proofs.YtbmkobanpakohaaW.PrintMore Go.Proofs.YtbmkobanpakohaaW.PrintWords.Kd Go.Proofs.YtbmkobanpakohaaW.PrintMore.Kd
set_option maxHeartbeats 8000000
set_option maxRecDepth 100000
attribute [local go_sem] max2_int min2_int max_two min_two max_three min_three max_four min_four
set_option linter.unusedVariables false
set_option linter.unusedSimpArgs false

/-! ### spec_TreeOk: function 28 -/
def spec_TreeOk.l0:Nat→List (S61)→Int→Option (Bool)
 |0,_,_=>none
 |k+1,x0,x3=>if x3<(x0.length:Int) then (if 0≤x3 then ((spec_LabelOk.f ((rd_T61 x0 x3).f0)).bind fun tiO=>(if tiO=true then ((spec_l1In.f ((rd_T61 x0 x3).f1) 0 12).bind fun tiP=>(if tiP=true then (if ((((rd_T61 x0 x3).f1)==0) != (x3==0))=true then (some false) else (if x3>0 then (if 0≤(wrap64 (x3-1)) then (if (wrap64 (x3-1))<(x0.length:Int) then (if ((rd_T61 x0 x3).f1)>(wrap64 (((rd_T61 x0 (wrap64 (x3-1))).f1)+1)) then (some false) else (spec_TreeOk.l0 k x0 (wrap64 (x3+1)))) else (none)) else (none)) else (spec_TreeOk.l0 k x0 (wrap64 (x3+1))))) else (some false))) else (some false))) else (none)) else ((spec_l1In.f (x0.length:Int) 1 24).bind fun tiQ=>(some tiQ))
def spec_TreeOk.f (k:Nat) (l0:List (S61)):Option (Bool):=spec_TreeOk.l0 k l0 0
def spec_TreeOk.T4:Bool×List (List Nat×List Nat):=(true,[([],[]),([],[]),([0,1],[0,1]),([2],[2]),([3],[3]),([4],[4]),([5],[5]),([6,5],[6]),([7],[7]),([7],[7]),([8,9,7],[7,8,9]),([10,7],[7,10]),([11,7],[7,11]),([12,7,7],[7,12]),([13,7],[7,13]),([7,14],[7,14]),([15,13],[15]),([16],[16]),([16],[16]),([17,18,16],[16,17,18]),([19,16],[16,19]),([20,16],[16,20]),([21,16],[16,21]),([16],[16]),([23,16],[16,23]),([22,24,16],[16,22,24]),([16,25],[16,25]),([26,16],[26]),([27],[27]),([28,27],[27,28]),([29,27,27],[27,29]),([30],[30]),([30],[30]),([31,32,30],[30,31,32]),([33,30],[30,33]),([34,30],[30,34]),([30],[30]),([30],[30]),([37,30],[30,37]),([36,38,30],[30,36,38]),([39,30],[30,39]),([40,30],[30,40]),([41,30],[30,41]),([35,42,30],[30,35,42]),([30,43,27],[27,30,43]),([27,44],[27,44])])
def spec_TreeOk.B4:List Nat:=[0,0,3,7,15,31,63,127,255,255,1023,2047,4095,8191,16383,32767,65535,131071,131071,524287,1048575,2097151,4194303,131071,8519679,33554431,67108863,134217727,268435455,536870911,1073741823,2147483647,2147483647,8589934591,17179869183,34359738367,2147483647,2147483647,139586437119,483183820799,1032939634687,2132451262463,4331474518015,8796093022207,17592186044415,35184372088831]
theorem spec_TreeOk.tab4:rtab .any (opsOf Try.f28 4)=spec_TreeOk.T4:=by kernel_rfl
theorem spec_TreeOk.bits4:waitsOk spec_TreeOk.T4.2 spec_TreeOk.B4=true:=by kernel_rfl
theorem spec_TreeOk.calls (k:Nat) (A0:Option Addr) (c0:Nat) (l0:List (S61)) (r:Bool) (w:World) (hr0:Kd.C k61 w A0 l0.length l0) (hc0:l0.length≤c0) (h:spec_TreeOk.f k l0=some r):
  Calls Try.prog 28 #[.slice A0 l0.length c0] w fun e w'=>e= .returned (.bool r)∧Below w.heap.size w w':=by
 have HR0:=am_ hr0;have HC0:=am_ hc0;clear hr0 hc0;have HB:=am_ (Below.refl w.heap.size w);have H:(spec_TreeOk.l0 k l0 0)=some r:=h;clear h;have H':=am_ H;clear H;go_enter Try.func28,Try.ntmps28;go_wp2
 go_loopg [3] k (fun kq v3 w'=>∃(x3_1:Int),v3= .int .i64 x3_1∧Aside0 (spec_TreeOk.l0 kq l0 x3_1=some r)∧Aside0 (kq≤k)∧Aside0 (Below w.heap.size w w'))
 case atStart=>exact⟨(0),z9_,H',⟨Nat.le_refl _⟩,⟨z0_⟩⟩
 case round=>
  clear H';obtain⟨x3_1,rfl,HA,HK1,HB⟩:=hrel;cases gk with
  |zero=>exact absurd HA.out (by simp[spec_TreeOk.l0])
  | succ k1=>
   have H:=HA.out;clear HA;simp only[spec_TreeOk.l0] at H;by_cases c2:x3_1<(l0.length:Int)
   ·rw [if_pos c2] at H;have c2b0:=decide_eq_true c2;clear c2;obtain⟨c3b0,H⟩:=ifd_ H;obtain⟨tiO,A4,H⟩:=bnd_ H;by_cases c5:tiO=true
    ·subst c5;replace H:=ift_ H;obtain⟨tiP,A6,H⟩:=bnd_ H;by_cases c7:tiP=true
     ·subst c7;replace H:=ift_ H;by_cases c8:((((rd_T61 l0 x3_1).f1)==0) != (x3_1==0))=true
      ·rw[if_pos c8] at H;have c8b0:((((rd_T61 l0 x3_1).f1)==0) != (x3_1==0))=true:=c8
       (try(have c8b1:decide ((((rd_T61 l0 x3_1).f1)==0)=(x3_1==0))=false:=by simpa using c8))
       (try(have c8b2:((((rd_T61 l0 x3_1).f1)==0)==(x3_1==0))=false:=by simpa using c8))
       (try(have c8b3:¬((((rd_T61 l0 x3_1).f1)==0)=(x3_1==0)):=by simpa using c8))
       clear c8;obtain rfl:=Option.some.inj H
       try go_wp2
       replace HB:=am_ (below_drew1 HB.out);obtain⟨pf,qf,adf,ef,hwf_0,hwf_1,hxf_0,hxf_1⟩:=atw61_ HR0 HB x3_1;cases ef;obtain⟨paf,qaf,adaf,eaf,hwaf_0,hwaf_1,hxaf_0,hxaf_1⟩:=atw61_ HR0 HB x3_1;obtain rfl:adf=adaf:=(by injection eaf)
       obtain⟨paA,qaA,adaA,eaA,hwaA_0,hwaA_1,hxaA_0,hxaA_1⟩:=atw61_ HR0 HB x3_1;obtain rfl:adf=adaA:=(by injection eaA)
       refine start_ (n:=46) (S:=fun w'=>w'.cell? (adf.add ((x3_1).toNat*2))=some (.int .i64 ((rd_T61 l0 x3_1).f0))∧w'.cell? ⟨(adf.add ((x3_1).toNat*2)).block,(adf.add ((x3_1).toNat*2)).off+1,none⟩=some (.int .i64 ((rd_T61 l0 x3_1).f1))) (ds:=[]) (fl_ 46 0) y0_ rfl (fl_zero _) ⟨((HB.out.cell (bc_ w _ hwf_0)).trans hwf_0),((HB.out.cell (bc_ w _ hwf_1)).trans hwf_1)⟩ (fun hh=>?_);refine with_tabW spec_TreeOk.tab4 spec_TreeOk.bits4 (fun HT_ HW_=>?_);generalize wr.drew=w9 at HB hxf_0 hxf_1 hxaf_0 hxaf_1 hxaA_0 hxaA_1 hh⊢
       iterate 4 refine yp_ HT_ ?_
       refine yt_ HT_ HW_ hh ?_ (hy:=z199_);refine one_ (i:=5) (N:=some 15) (fl_ 46 6) rfl rfl (one_of HT_.out y0_) (by decide) (fun K hK=>?_);refine goes_ Try.func54 y0_ rfl #[.int .i64 ((rd_T61 l0 x3_1).f0)] (by rfl) rfl rfl z1_ ?_
       with_reducible refine(spec_LabelOk.calls ((rd_T61 l0 x3_1).f0) true _ A4.out).mono ?_
       rintro e w' ⟨rfl,⟨nd,rfl⟩⟩;refine⟨_,rfl,?_⟩;refine hK.out _ _ ⟨((HB.out.cell (bc_ w _ hwf_0)).trans hwf_0),((HB.out.cell (bc_ w _ hwf_1)).trans hwf_1)⟩ (fun hh=>?_);clear hK K;refine zn_ rfl ?_
       iterate 6 refine yp_ HT_ ?_
       refine yt_ HT_ HW_ hh ?_ (hy:=z199_);refine one_ (i:=13) (N:=some 23) (fl_ 46 14) rfl rfl (one_of HT_.out y0_) (by decide) (fun K hK=>?_);refine goes_ Try.func55 y0_ rfl #[.int .i64 ((rd_T61 l0 x3_1).f1),.int .i64 0,.int .i64 12] (by rfl) rfl rfl z1_ ?_
       with_reducible refine(spec_l1In.calls ((rd_T61 l0 x3_1).f1) 0 12 true _ A6.out).mono ?_
       rintro e w' ⟨rfl,⟨nd,rfl⟩⟩;refine⟨_,rfl,?_⟩;refine hK.out _ _ ⟨((HB.out.cell (bc_ w _ hwf_0)).trans hwf_0),((HB.out.cell (bc_ w _ hwf_1)).trans hwf_1)⟩ (fun hh=>?_);clear hK K;refine zn_ rfl ?_
       iterate 7 refine yp_ HT_ ?_
       refine ypg_ (i:=23) (ra_ [21,2,1,22]) HT_ ?_;refine ypg_ (i:=24) (ra_ [21,2,2,21]) HT_ ?_;refine ytg_ (i:=21) (ra_ [22,1,2,21]) HT_ HW_ hh ?_ (hy:=z199_);refine ypg_ (i:=22) (fl_ 46 25) HT_ ?_
       iterate 3 refine yp_ HT_ ?_
       iterate 17 refine zu_ HT_ rfl rfl y0_ (fun _ _ _ h=>h) (by rfl) ?_
       refine yp_ HT_ ?_;refine done_ (done_of HT_.out y0_) ?_
       try go_wp2
       go_ret;exact⟨z7_,z0_⟩
      ·rw[if_neg c8] at H;have c8b0:((((rd_T61 l0 x3_1).f1)==0) != (x3_1==0))=false:=by simpa using c8
       (try(have c8b1:decide ((((rd_T61 l0 x3_1).f1)==0)=(x3_1==0))=true:=by simpa using c8))
       (try(have c8b2:((((rd_T61 l0 x3_1).f1)==0)==(x3_1==0))=true:=by simpa using c8))
       clear c8;by_cases c10:x3_1>0
       ·rw[if_pos c10] at H;have c10b0:=decide_eq_true c10;clear c10;obtain⟨ji11,hji11⟩:∃j_:Int,(wrap64 (x3_1-1))=j_:=⟨_,rfl⟩
        rw[hji11] at H;have hji11w:(IntKind.i64.wrap (x3_1-1))=ji11:=(i64_w _).trans hji11;obtain⟨c12b0,H⟩:=ifd_ H;obtain⟨c13b0,H⟩:=ifd_ H;by_cases c14:((rd_T61 l0 x3_1).f1)>(wrap64 (((rd_T61 l0 (ji11)).f1)+1))
        ·rw[if_pos c14] at H;have c14b0:=decide_eq_true c14;clear c14;obtain rfl:=Option.some.inj H
         try go_wp2
         replace HB:=am_ (below_drew1 HB.out);obtain⟨pf,qf,adf,ef,hwf_0,hwf_1,hxf_0,hxf_1⟩:=atw61_ HR0 HB x3_1;cases ef;obtain⟨paf,qaf,adaf,eaf,hwaf_0,hwaf_1,hxaf_0,hxaf_1⟩:=atw61_ HR0 HB x3_1;obtain rfl:adf=adaf:=(by injection eaf)
         obtain⟨paA,qaA,adaA,eaA,hwaA_0,hwaA_1,hxaA_0,hxaA_1⟩:=atw61_ HR0 HB x3_1;obtain rfl:adf=adaA:=(by injection eaA)
         obtain⟨pbR,qbR,adbR,ebR,hwbR_0,hwbR_1,hxbR_0,hxbR_1⟩:=atw61_ HR0 HB x3_1;obtain rfl:adf=adbR:=(by injection ebR)
         obtain⟨paB,qaB,adaB,eaB,hwaB_0,hwaB_1,hxaB_0,hxaB_1⟩:=atw61_ HR0 HB (ji11);obtain rfl:adf=adaB:=(by injection eaB)
         refine start_ (n:=46) (S:=fun w'=>w'.cell? (adf.add ((x3_1).toNat*2))=some (.int .i64 ((rd_T61 l0 x3_1).f0))∧w'.cell? ⟨(adf.add ((x3_1).toNat*2)).block,(adf.add ((x3_1).toNat*2)).off+1,none⟩=some (.int .i64 ((rd_T61 l0 x3_1).f1))∧w'.cell? (adf.add (((ji11)).toNat*2))=some (.int .i64 ((rd_T61 l0 (ji11)).f0))∧w'.cell? ⟨(adf.add (((ji11)).toNat*2)).block,(adf.add (((ji11)).toNat*2)).off+1,none⟩=some (.int .i64 ((rd_T61 l0 (ji11)).f1))) (ds:=[]) (fl_ 46 0) y0_ rfl (fl_zero _) ⟨((HB.out.cell (bc_ w _ hwf_0)).trans hwf_0),((HB.out.cell (bc_ w _ hwf_1)).trans hwf_1),((HB.out.cell (bc_ w _ hwaB_0)).trans hwaB_0),((HB.out.cell (bc_ w _ hwaB_1)).trans hwaB_1)⟩ (fun hh=>?_);refine with_tabW spec_TreeOk.tab4 spec_TreeOk.bits4 (fun HT_ HW_=>?_);generalize wr.drew=w15 at HB hxf_0 hxf_1 hxaf_0 hxaf_1 hxaA_0 hxaA_1 hxbR_0 hxbR_1 hxaB_0 hxaB_1 hh⊢
         iterate 4 refine yp_ HT_ ?_
         refine yt_ HT_ HW_ hh ?_ (hy:=z202_);refine one_ (i:=5) (N:=some 15) (fl_ 46 6) rfl rfl (one_of HT_.out y0_) (by decide) (fun K hK=>?_);refine goes_ Try.func54 y0_ rfl #[.int .i64 ((rd_T61 l0 x3_1).f0)] (by rfl) rfl rfl z1_ ?_
         with_reducible refine(spec_LabelOk.calls ((rd_T61 l0 x3_1).f0) true _ A4.out).mono ?_
         rintro e w' ⟨rfl,⟨nd,rfl⟩⟩;refine⟨_,rfl,?_⟩;refine hK.out _ _ ⟨((HB.out.cell (bc_ w _ hwf_0)).trans hwf_0),((HB.out.cell (bc_ w _ hwf_1)).trans hwf_1),((HB.out.cell (bc_ w _ hwaB_0)).trans hwaB_0),((HB.out.cell (bc_ w _ hwaB_1)).trans hwaB_1)⟩ (fun hh=>?_);clear hK K;refine zn_ rfl ?_
         iterate 6 refine yp_ HT_ ?_
         refine yt_ HT_ HW_ hh ?_ (hy:=z202_);refine one_ (i:=13) (N:=some 23) (fl_ 46 14) rfl rfl (one_of HT_.out y0_) (by decide) (fun K hK=>?_);refine goes_ Try.func55 y0_ rfl #[.int .i64 ((rd_T61 l0 x3_1).f1),.int .i64 0,.int .i64 12] (by rfl) rfl rfl z1_ ?_
         with_reducible refine(spec_l1In.calls ((rd_T61 l0 x3_1).f1) 0 12 true _ A6.out).mono ?_
         rintro e w' ⟨rfl,⟨nd,rfl⟩⟩;refine⟨_,rfl,?_⟩;refine hK.out _ _ ⟨((HB.out.cell (bc_ w _ hwf_0)).trans hwf_0),((HB.out.cell (bc_ w _ hwf_1)).trans hwf_1),((HB.out.cell (bc_ w _ hwaB_0)).trans hwaB_0),((HB.out.cell (bc_ w _ hwaB_1)).trans hwaB_1)⟩ (fun hh=>?_);clear hK K;refine zn_ rfl ?_
         iterate 7 refine yp_ HT_ ?_
         refine ypg_ (i:=23) (ra_ [21,2,1,22]) HT_ ?_;refine ypg_ (i:=24) (ra_ [21,2,2,21]) HT_ ?_;refine ytg_ (i:=21) (ra_ [22,1,2,21]) HT_ HW_ hh ?_ (hy:=z202_);refine ypg_ (i:=22) (fl_ 46 25) HT_ ?_
         iterate 10 refine yp_ HT_ ?_
         refine ypg_ (i:=36) (ra_ [35,1,1,9]) HT_ ?_;refine ypg_ (i:=37) (ra_ [35,1,2,8]) HT_ ?_;refine ypg_ (i:=38) (ra_ [35,1,3,7]) HT_ ?_;refine ypg_ (i:=39) (ra_ [35,1,4,6]) HT_ ?_;refine ypg_ (i:=40) (ra_ [35,1,5,5]) HT_ ?_;refine ytg_ (i:=35) (fl_ 46 41) HT_ HW_ hh ?_ (hy:=z202_);refine yt_ HT_ HW_ hh ?_ (hy:=z202_)
         iterate 4 refine yp_ HT_ ?_
         refine done_ (done_of HT_.out y0_) ?_
         try go_wp2
         go_ret;exact⟨by rfl,z0_⟩
        ·rw[if_neg c14] at H;have c14b0:=decide_eq_false c14;clear c14;have H':=am_ H;clear H
         try go_wp2
         replace HB:=am_ (below_drew1 HB.out);obtain⟨pf,qf,adf,ef,hwf_0,hwf_1,hxf_0,hxf_1⟩:=atw61_ HR0 HB x3_1;cases ef;obtain⟨paf,qaf,adaf,eaf,hwaf_0,hwaf_1,hxaf_0,hxaf_1⟩:=atw61_ HR0 HB x3_1;obtain rfl:adf=adaf:=(by injection eaf)
         obtain⟨paA,qaA,adaA,eaA,hwaA_0,hwaA_1,hxaA_0,hxaA_1⟩:=atw61_ HR0 HB x3_1;obtain rfl:adf=adaA:=(by injection eaA)
         obtain⟨pbR,qbR,adbR,ebR,hwbR_0,hwbR_1,hxbR_0,hxbR_1⟩:=atw61_ HR0 HB x3_1;obtain rfl:adf=adbR:=(by injection ebR)
         obtain⟨paB,qaB,adaB,eaB,hwaB_0,hwaB_1,hxaB_0,hxaB_1⟩:=atw61_ HR0 HB (ji11);obtain rfl:adf=adaB:=(by injection eaB)
         refine start_ (n:=46) (S:=fun w'=>w'.cell? (adf.add ((x3_1).toNat*2))=some (.int .i64 ((rd_T61 l0 x3_1).f0))∧w'.cell? ⟨(adf.add ((x3_1).toNat*2)).block,(adf.add ((x3_1).toNat*2)).off+1,none⟩=some (.int .i64 ((rd_T61 l0 x3_1).f1))∧w'.cell? (adf.add (((ji11)).toNat*2))=some (.int .i64 ((rd_T61 l0 (ji11)).f0))∧w'.cell? ⟨(adf.add (((ji11)).toNat*2)).block,(adf.add (((ji11)).toNat*2)).off+1,none⟩=some (.int .i64 ((rd_T61 l0 (ji11)).f1))) (ds:=[]) (fl_ 46 0) y0_ rfl (fl_zero _) ⟨((HB.out.cell (bc_ w _ hwf_0)).trans hwf_0),((HB.out.cell (bc_ w _ hwf_1)).trans hwf_1),((HB.out.cell (bc_ w _ hwaB_0)).trans hwaB_0),((HB.out.cell (bc_ w _ hwaB_1)).trans hwaB_1)⟩ (fun hh=>?_);refine with_tabW spec_TreeOk.tab4 spec_TreeOk.bits4 (fun HT_ HW_=>?_);generalize wr.drew=w16 at HB hxf_0 hxf_1 hxaf_0 hxaf_1 hxaA_0 hxaA_1 hxbR_0 hxbR_1 hxaB_0 hxaB_1 hh⊢
         iterate 4 refine yp_ HT_ ?_
         refine yt_ HT_ HW_ hh ?_ (hy:=z202_);refine one_ (i:=5) (N:=some 15) (fl_ 46 6) rfl rfl (one_of HT_.out y0_) (by decide) (fun K hK=>?_);refine goes_ Try.func54 y0_ rfl #[.int .i64 ((rd_T61 l0 x3_1).f0)] (by rfl) rfl rfl z1_ ?_
         with_reducible refine(spec_LabelOk.calls ((rd_T61 l0 x3_1).f0) true _ A4.out).mono ?_
         rintro e w' ⟨rfl,⟨nd,rfl⟩⟩;refine⟨_,rfl,?_⟩;refine hK.out _ _ ⟨((HB.out.cell (bc_ w _ hwf_0)).trans hwf_0),((HB.out.cell (bc_ w _ hwf_1)).trans hwf_1),((HB.out.cell (bc_ w _ hwaB_0)).trans hwaB_0),((HB.out.cell (bc_ w _ hwaB_1)).trans hwaB_1)⟩ (fun hh=>?_);clear hK K;refine zn_ rfl ?_
         iterate 6 refine yp_ HT_ ?_
         refine yt_ HT_ HW_ hh ?_ (hy:=z202_);refine one_ (i:=13) (N:=some 23) (fl_ 46 14) rfl rfl (one_of HT_.out y0_) (by decide) (fun K hK=>?_);refine goes_ Try.func55 y0_ rfl #[.int .i64 ((rd_T61 l0 x3_1).f1),.int .i64 0,.int .i64 12] (by rfl) rfl rfl z1_ ?_
         with_reducible refine(spec_l1In.calls ((rd_T61 l0 x3_1).f1) 0 12 true _ A6.out).mono ?_
         rintro e w' ⟨rfl,⟨nd,rfl⟩⟩;refine⟨_,rfl,?_⟩;refine hK.out _ _ ⟨((HB.out.cell (bc_ w _ hwf_0)).trans hwf_0),((HB.out.cell (bc_ w _ hwf_1)).trans hwf_1),((HB.out.cell (bc_ w _ hwaB_0)).trans hwaB_0),((HB.out.cell (bc_ w _ hwaB_1)).trans hwaB_1)⟩ (fun hh=>?_);clear hK K;refine zn_ rfl ?_
         iterate 7 refine yp_ HT_ ?_
         refine ypg_ (i:=23) (ra_ [21,2,1,22]) HT_ ?_;refine ypg_ (i:=24) (ra_ [21,2,2,21]) HT_ ?_;refine ytg_ (i:=21) (ra_ [22,1,2,21]) HT_ HW_ hh ?_ (hy:=z202_);refine ypg_ (i:=22) (fl_ 46 25) HT_ ?_
         iterate 10 refine yp_ HT_ ?_
         refine ypg_ (i:=36) (ra_ [35,1,1,9]) HT_ ?_;refine ypg_ (i:=37) (ra_ [35,1,2,8]) HT_ ?_;refine ypg_ (i:=38) (ra_ [35,1,3,7]) HT_ ?_;refine ypg_ (i:=39) (ra_ [35,1,4,6]) HT_ ?_;refine ypg_ (i:=40) (ra_ [35,1,5,5]) HT_ ?_;refine ytg_ (i:=35) (fl_ 46 41) HT_ HW_ hh ?_ (hy:=z202_);refine yt_ HT_ HW_ hh ?_ (hy:=z202_)
         iterate 4 refine yp_ HT_ ?_
         refine done_ (done_of HT_.out y0_) ?_
         try go_wp2
         go_roundg k1
         case measure=>have:=HK1.out;omega
         case rel=>exact⟨(wrap64 (x3_1+1)),z9_,H',⟨z170_⟩,⟨z0_⟩⟩
       ·rw[if_neg c10] at H;have c10b0:=decide_eq_false c10;clear c10;have H':=am_ H;clear H
        try go_wp2
        replace HB:=am_ (below_drew1 HB.out);obtain⟨pf,qf,adf,ef,hwf_0,hwf_1,hxf_0,hxf_1⟩:=atw61_ HR0 HB x3_1;cases ef;obtain⟨paf,qaf,adaf,eaf,hwaf_0,hwaf_1,hxaf_0,hxaf_1⟩:=atw61_ HR0 HB x3_1;obtain rfl:adf=adaf:=(by injection eaf)
        obtain⟨paA,qaA,adaA,eaA,hwaA_0,hwaA_1,hxaA_0,hxaA_1⟩:=atw61_ HR0 HB x3_1;obtain rfl:adf=adaA:=(by injection eaA)
        refine start_ (n:=46) (S:=fun w'=>w'.cell? (adf.add ((x3_1).toNat*2))=some (.int .i64 ((rd_T61 l0 x3_1).f0))∧w'.cell? ⟨(adf.add ((x3_1).toNat*2)).block,(adf.add ((x3_1).toNat*2)).off+1,none⟩=some (.int .i64 ((rd_T61 l0 x3_1).f1))) (ds:=[]) (fl_ 46 0) y0_ rfl (fl_zero _) ⟨((HB.out.cell (bc_ w _ hwf_0)).trans hwf_0),((HB.out.cell (bc_ w _ hwf_1)).trans hwf_1)⟩ (fun hh=>?_);refine with_tabW spec_TreeOk.tab4 spec_TreeOk.bits4 (fun HT_ HW_=>?_);generalize wr.drew=w17 at HB hxf_0 hxf_1 hxaf_0 hxaf_1 hxaA_0 hxaA_1 hh⊢
        iterate 4 refine yp_ HT_ ?_
        refine yt_ HT_ HW_ hh ?_ (hy:=z199_);refine one_ (i:=5) (N:=some 15) (fl_ 46 6) rfl rfl (one_of HT_.out y0_) (by decide) (fun K hK=>?_);refine goes_ Try.func54 y0_ rfl #[.int .i64 ((rd_T61 l0 x3_1).f0)] (by rfl) rfl rfl z1_ ?_
        with_reducible refine(spec_LabelOk.calls ((rd_T61 l0 x3_1).f0) true _ A4.out).mono ?_
        rintro e w' ⟨rfl,⟨nd,rfl⟩⟩;refine⟨_,rfl,?_⟩;refine hK.out _ _ ⟨((HB.out.cell (bc_ w _ hwf_0)).trans hwf_0),((HB.out.cell (bc_ w _ hwf_1)).trans hwf_1)⟩ (fun hh=>?_);clear hK K;refine zn_ rfl ?_
        iterate 6 refine yp_ HT_ ?_
        refine yt_ HT_ HW_ hh ?_ (hy:=z199_);refine one_ (i:=13) (N:=some 23) (fl_ 46 14) rfl rfl (one_of HT_.out y0_) (by decide) (fun K hK=>?_);refine goes_ Try.func55 y0_ rfl #[.int .i64 ((rd_T61 l0 x3_1).f1),.int .i64 0,.int .i64 12] (by rfl) rfl rfl z1_ ?_
        with_reducible refine(spec_l1In.calls ((rd_T61 l0 x3_1).f1) 0 12 true _ A6.out).mono ?_
        rintro e w' ⟨rfl,⟨nd,rfl⟩⟩;refine⟨_,rfl,?_⟩;refine hK.out _ _ ⟨((HB.out.cell (bc_ w _ hwf_0)).trans hwf_0),((HB.out.cell (bc_ w _ hwf_1)).trans hwf_1)⟩ (fun hh=>?_);clear hK K;refine zn_ rfl ?_
        iterate 7 refine yp_ HT_ ?_
        refine ypg_ (i:=23) (ra_ [21,2,1,22]) HT_ ?_;refine ypg_ (i:=24) (ra_ [21,2,2,21]) HT_ ?_;refine ytg_ (i:=21) (ra_ [22,1,2,21]) HT_ HW_ hh ?_ (hy:=z199_);refine ypg_ (i:=22) (fl_ 46 25) HT_ ?_
        iterate 6 refine yp_ HT_ ?_
        iterate 13 refine zu_ HT_ rfl rfl y0_ (fun _ _ _ h=>h) (by rfl) ?_
        iterate 2 refine yp_ HT_ ?_
        refine done_ (done_of HT_.out y0_) ?_
        try go_wp2
        go_roundg k1
        case measure=>have:=HK1.out;omega
        case rel=>exact⟨(wrap64 (x3_1+1)),z9_,H',⟨z170_⟩,⟨z0_⟩⟩
     ·replace c7:=Bool.eq_false_iff.mpr c7;subst c7;replace H:=iff_ H;obtain rfl:=Option.some.inj H
      try go_wp2
      replace HB:=am_ (below_drew1 HB.out);obtain⟨pf,qf,adf,ef,hwf_0,hwf_1,hxf_0,hxf_1⟩:=atw61_ HR0 HB x3_1;cases ef;obtain⟨paf,qaf,adaf,eaf,hwaf_0,hwaf_1,hxaf_0,hxaf_1⟩:=atw61_ HR0 HB x3_1;obtain rfl:adf=adaf:=(by injection eaf)
      refine start_ (n:=46) (S:=fun w'=>w'.cell? (adf.add ((x3_1).toNat*2))=some (.int .i64 ((rd_T61 l0 x3_1).f0))∧w'.cell? ⟨(adf.add ((x3_1).toNat*2)).block,(adf.add ((x3_1).toNat*2)).off+1,none⟩=some (.int .i64 ((rd_T61 l0 x3_1).f1))) (ds:=[]) (fl_ 46 0) y0_ rfl (fl_zero _) ⟨((HB.out.cell (bc_ w _ hwf_0)).trans hwf_0),((HB.out.cell (bc_ w _ hwf_1)).trans hwf_1)⟩ (fun hh=>?_);refine with_tabW spec_TreeOk.tab4 spec_TreeOk.bits4 (fun HT_ HW_=>?_);generalize wr.drew=w18 at HB hxf_0 hxf_1 hxaf_0 hxaf_1 hh⊢
      iterate 4 refine yp_ HT_ ?_
      refine yt_ HT_ HW_ hh ?_ (hy:=z199_);refine one_ (i:=5) (N:=some 15) (fl_ 46 6) rfl rfl (one_of HT_.out y0_) (by decide) (fun K hK=>?_);refine goes_ Try.func54 y0_ rfl #[.int .i64 ((rd_T61 l0 x3_1).f0)] (by rfl) rfl rfl z1_ ?_
      with_reducible refine(spec_LabelOk.calls ((rd_T61 l0 x3_1).f0) true _ A4.out).mono ?_
      rintro e w' ⟨rfl,⟨nd,rfl⟩⟩;refine⟨_,rfl,?_⟩;refine hK.out _ _ ⟨((HB.out.cell (bc_ w _ hwf_0)).trans hwf_0),((HB.out.cell (bc_ w _ hwf_1)).trans hwf_1)⟩ (fun hh=>?_);clear hK K;refine zn_ rfl ?_
      iterate 6 refine yp_ HT_ ?_
      refine yt_ HT_ HW_ hh ?_ (hy:=z199_);refine one_ (i:=13) (N:=some 23) (fl_ 46 14) rfl rfl (one_of HT_.out y0_) (by decide) (fun K hK=>?_);refine goes_ Try.func55 y0_ rfl #[.int .i64 ((rd_T61 l0 x3_1).f1),.int .i64 0,.int .i64 12] (by rfl) rfl rfl z1_ ?_
      with_reducible refine(spec_l1In.calls ((rd_T61 l0 x3_1).f1) 0 12 false _ A6.out).mono ?_
      rintro e w' ⟨rfl,⟨nd,rfl⟩⟩;refine⟨_,rfl,?_⟩;refine hK.out _ _ ⟨((HB.out.cell (bc_ w _ hwf_0)).trans hwf_0),((HB.out.cell (bc_ w _ hwf_1)).trans hwf_1)⟩ (fun hh=>?_);clear hK K;refine zn_ rfl ?_
      iterate 3 refine yp_ HT_ ?_
      iterate 9 refine zu_ HT_ rfl rfl y0_ (fun _ _ _ h=>h) (by rfl) ?_
      iterate 2 refine yp_ HT_ ?_
      iterate 17 refine zu_ HT_ rfl rfl y0_ (fun _ _ _ h=>h) (by rfl) ?_
      refine yp_ HT_ ?_;refine done_ (done_of HT_.out y0_) ?_
      try go_wp2
      go_ret;exact⟨z7_,z0_⟩
    ·replace c5:=Bool.eq_false_iff.mpr c5;subst c5;replace H:=iff_ H;obtain rfl:=Option.some.inj H
     try go_wp2
     replace HB:=am_ (below_drew1 HB.out);obtain⟨pf,qf,adf,ef,hwf_0,hwf_1,hxf_0,hxf_1⟩:=atw61_ HR0 HB x3_1;cases ef;refine start_ (n:=46) (S:=fun w'=>w'.cell? (adf.add ((x3_1).toNat*2))=some (.int .i64 ((rd_T61 l0 x3_1).f0))∧w'.cell? ⟨(adf.add ((x3_1).toNat*2)).block,(adf.add ((x3_1).toNat*2)).off+1,none⟩=some (.int .i64 ((rd_T61 l0 x3_1).f1))) (ds:=[]) (fl_ 46 0) y0_ rfl (fl_zero _) ⟨((HB.out.cell (bc_ w _ hwf_0)).trans hwf_0),((HB.out.cell (bc_ w _ hwf_1)).trans hwf_1)⟩ (fun hh=>?_);refine with_tabW spec_TreeOk.tab4 spec_TreeOk.bits4 (fun HT_ HW_=>?_);generalize wr.drew=w19 at HB hxf_0 hxf_1 hh⊢
     iterate 4 refine yp_ HT_ ?_
     refine yt_ HT_ HW_ hh ?_ (hy:=z199_);refine one_ (i:=5) (N:=some 15) (fl_ 46 6) rfl rfl (one_of HT_.out y0_) (by decide) (fun K hK=>?_);refine goes_ Try.func54 y0_ rfl #[.int .i64 ((rd_T61 l0 x3_1).f0)] (by rfl) rfl rfl z1_ ?_
     with_reducible refine(spec_LabelOk.calls ((rd_T61 l0 x3_1).f0) false _ A4.out).mono ?_
     rintro e w' ⟨rfl,⟨nd,rfl⟩⟩;refine⟨_,rfl,?_⟩;refine hK.out _ _ ⟨((HB.out.cell (bc_ w _ hwf_0)).trans hwf_0),((HB.out.cell (bc_ w _ hwf_1)).trans hwf_1)⟩ (fun hh=>?_);clear hK K;refine zn_ rfl ?_
     iterate 2 refine yp_ HT_ ?_
     iterate 7 refine zu_ HT_ rfl rfl y0_ (fun _ _ _ h=>h) (by rfl) ?_
     iterate 2 refine yp_ HT_ ?_
     iterate 9 refine zu_ HT_ rfl rfl y0_ (fun _ _ _ h=>h) (by rfl) ?_
     iterate 2 refine yp_ HT_ ?_
     iterate 17 refine zu_ HT_ rfl rfl y0_ (fun _ _ _ h=>h) (by rfl) ?_
     refine yp_ HT_ ?_;refine done_ (done_of HT_.out y0_) ?_
     try go_wp2
     go_ret;exact⟨z7_,z0_⟩
   ·rw[if_neg c2] at H;have c2b0:=decide_eq_false c2;clear c2;obtain⟨tiQ,A20,H⟩:=bnd_ H;obtain rfl:=Option.some.inj H
    go_wp2_with (((with_reducible refine gate_callee (f:=55) rfl ?_);refine goesL_ (some 58) rfl rfl Try.func55 y0_ rfl #[.int .i64 (l0.length:Int),.int .i64 1,.int .i64 24] rfl z1_ ?_;(with_reducible refine(spec_l1In.calls (l0.length:Int) 1 24 tiQ _ A20.out).mono ?_);rintro e w' ⟨rfl,⟨nd,rfl⟩⟩;refine⟨_,rfl,?_⟩))
    go_ret;exact⟨z7_,z0_⟩

end Go.Proofs.Ytbmkobanpakohaa.PFnNear
