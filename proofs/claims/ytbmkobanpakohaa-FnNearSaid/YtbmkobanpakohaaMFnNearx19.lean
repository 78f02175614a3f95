/- Walks of functions of FnNear, laid anew out of the kit's print. -/
import Derived.Test.YtbmkobanpakohaaMFnNearx0
import Derived.Test.YtbmkobanpakohaaMFnNearx8
import Derived.Test.YtbmkobanpakohaaMFnNearx17
import Derived.Test.YtbmkobanpakohaaMFnNearx18
namespace Go.Proofs.Ytbmkobanpakohaa.PFnNear
open Go.RowKit Go.Proofs.YtbmkobanpakohaaW.PrintWords Go.Proofs.YtbmkobanpakohaaW.PrintLast Go.Proofs.YtbmkobanpakohaaW.PrintMore Go.Proofs.YtbmkobanpakohaaW.PrintWords.Kd Go.Proofs.YtbmkobanpakohaaW.PrintMore.Kd
set_option maxHeartbeats 8000000
set_option maxRecDepth 100000
attribute [local go_sem] max2_int min2_int max_two min_two max_three min_three max_four min_four
set_option linter.unusedVariables false
set_option linter.unusedSimpArgs false

/-! ### spec_l3Near: function 52 -/
mutual
def spec_l3Near.l0:Nat→List (S61)→Int→List Int→Int→Int→Option ((List (S61))×Int×Int)
 |0,_,_,_,_,_=>none
 |k+1,x5,x6,xar,xB,xC=>if x6>0 then (spec_l3Near.j1 k x5 x6 (decide ((x5.length:Int)>0)) xar xB xC) else (spec_l3Near.j1 k x5 x6 false xar xB xC)
def spec_l3Near.j1:Nat→List (S61)→Int→Bool→List Int→Int→Int→Option ((List (S61))×Int×Int)
 |0,_,_,_,_,_,_=>none
 |k+1,x5,x6,x19,xar,xB,xC=>if x19=true then ((spec_l1Below.f xar xB xC (x5.length:Int)).bind fun btaz=>((spec_l1Below.f xar btaz.2.1 btaz.2.2 3).bind fun btbw=>(if btbw.1=0 then ((spec_l2Label.f xar btbw.2.1 btbw.2.2).bind fun bteD=>(if 0≤btaz.1 then (if btaz.1<(x5.length:Int) then (spec_l3Near.l0 k (x5.set (btaz.1:Int).toNat (⟨bteD.1,(rd_T61 x5 btaz.1).f1⟩:S61)) (wrap64 (x6-1)) xar bteD.2.1 bteD.2.2) else (none)) else (none))) else (if btbw.1=1 then (if btaz.1>0 then (if (x5.length:Int)>1 then (if 0≤btaz.1 then (if btaz.1≤(x5.length:Int) then ((spec_l3Copy.f (x5.take (btaz.1:Int).toNat)).bind fun tf8=>(if 0≤(wrap64 (btaz.1+1)) then (if (wrap64 (btaz.1+1))≤(x5.length:Int) then ((some (x5.drop ((wrap64 (btaz.1+1)):Int).toNat:List (S61))).bind fun ycU=>(if tf8.length+ycU.length<8796093022208 then (spec_l3Near.l0 k (tf8++ycU) (wrap64 (x6-1)) xar btbw.2.1 btbw.2.2) else (none))) else (none)) else (none))) else (none)) else (none)) else (spec_l3Near.l0 k x5 (wrap64 (x6-1)) xar btbw.2.1 btbw.2.2)) else (spec_l3Near.l0 k x5 (wrap64 (x6-1)) xar btbw.2.1 btbw.2.2)) else ((spec_l3Copy.f x5).bind fun tf9=>((spec_l2Label.f xar btbw.2.1 btbw.2.2).bind fun bte4=>(if 0≤(wrap64 ((x5.length:Int)-1)) then (if (wrap64 ((x5.length:Int)-1))<(x5.length:Int) then ((spec_l1Below.f xar bte4.2.1 bte4.2.2 (wrap64 (((rd_T61 x5 (wrap64 ((x5.length:Int)-1))).f1)+1))).bind fun bte5=>(if tf9.length<8796093022208 then (spec_l3Near.l0 k (tf9++[(⟨bte4.1,wrap64 (1+bte5.1)⟩:S61)]) (wrap64 (x6-1)) xar bte5.2.1 bte5.2.2) else (none))) else (none)) else (none)))))))) else ((spec_TreeOk.f k x5).bind fun tim=>(if tim=true then (some (x5,xB,xC)) else ((spec_l3Tree.f k xar xB xC 8).bind fun btgI=>(some (btgI.1,btgI.2.1,btgI.2.2)))))
end
def spec_l3Near.f (k:Nat) (s0_0:List Int) (s0_1:Int) (s0_2:Int) (l1:List (S61)):Option ((List (S61))×Int×Int):=(spec_l3Copy.f l1).bind fun tga=>((spec_l1Below.f s0_0 s0_1 s0_2 3).bind fun bteE=>(spec_l3Near.l0 k tga (wrap64 (1+bteE.1)) s0_0 bteE.2.1 bteE.2.2))
def spec_l3Near.T7:Bool×List (List Nat×List Nat):=(true,[([],[]),([0],[0]),([],[]),([2,1],[2]),([],[]),([],[]),([],[]),([6],[6]),([7],[7]),([5,8],[5,8]),([9],[9]),([10],[10]),([11],[11]),([4,12,3],[4,12]),([13],[13]),([3,14],[3,14]),([15],[15]),([1,16,13],[1,16]),([17,17,0,1,2,3,4,5,6,7,8,9,10,11,12,13,14,15,16,17],[0,5,6,17])])
def spec_l3Near.B7:List Nat:=[0,1,0,7,0,0,0,64,192,480,992,2016,4064,8191,16383,32767,65535,131071,262143]
theorem spec_l3Near.tab7:rtab .any (opsOf Try.f52 7)=spec_l3Near.T7:=by kernel_rfl
theorem spec_l3Near.bits7:waitsOk spec_l3Near.T7.2 spec_l3Near.B7=true:=by kernel_rfl
def spec_l3Near.T12:Bool×List (List Nat×List Nat):=(true,[([],[]),([],[]),([0,1],[0,1]),([2],[2]),([],[]),([],[]),([5],[5]),([4,6],[4,6]),([3,7,3],[3,7]),([8,8,0,1,2,3,4,5,6,7,8],[0,4,8])])
def spec_l3Near.B12:List Nat:=[0,0,3,7,0,0,32,112,255,511]
theorem spec_l3Near.tab12:rtab .any (opsOf Try.f52 12)=spec_l3Near.T12:=by kernel_rfl
theorem spec_l3Near.bits12:waitsOk spec_l3Near.T12.2 spec_l3Near.B12=true:=by kernel_rfl
theorem spec_l3Near.calls (k:Nat) (g:Nat) (s0_0:List Int) (s0_1:Int) (s0_2:Int) (A1:Option Addr) (c1:Nat) (l1:List (S61)) (r1:List (S61)) (r2:Int) (r3:Int) (w0 w:World) (hI:IsS86 w0 w g s0_0 s0_1 s0_2) (hB:Below w0.heap.size w0 w) (hr1:∀W_,KeepBut w W_ g none→Kd.C k61 W_ A1 l1.length l1) (hc1:l1.length≤c1) (h:spec_l3Near.f k s0_0 s0_1 s0_2 l1=some (r1,r2,r3)):
  Calls Try.prog 52 #[.pointer (some ⟨g,0,none⟩),.slice A1 l1.length c1] w fun e w'=>∃v0_:Value,e= .returned (v0_)∧Kd.R k61 61 w' w.heap.size (fun _=>True) v0_ r1∧IsS86 w0 w' g s0_0 r2 r3∧Below w0.heap.size w0 w'∧KeepBut w w' g none:=by
 have hu61:=Try.underlying61;have HR1:=am_ hr1;have HC1:=am_ hc1;clear hr1 hc1;have HI0:=am_ hI;have HK:=am_ (KeepBut.refl w g none);have HL:=am_ hB.size;clear hI;have HW0:=am_ hB.size;have HB:=am_ hB;clear hB;have H:((spec_l3Copy.f l1).bind fun tga=>((spec_l1Below.f s0_0 s0_1 s0_2 3).bind fun bteE=>(spec_l3Near.l0 k tga (wrap64 (1+bteE.1)) s0_0 bteE.2.1 bteE.2.2)))=some (r1,r2,r3):=h;clear h;obtain⟨tga,A3,H⟩:=bnd_ H;replace H:=be_ H;obtain⟨⟨teE,tjp,tjq⟩,A40,H⟩:=H
 try dsimp only at H
 have A4:=am_ A40;clear A40;have H':=am_ H;clear H;go_enter Try.func52,Try.ntmps52
 go_wp2_with (first|((with_reducible refine gate_callee (f:=72) rfl ?_);refine goesL_ (some 9) rfl rfl Try.func72 y0_ rfl #[.slice A1 l1.length c1] rfl z1_ ?_;(with_reducible refine(spec_l3Copy.calls _ _ l1 tga _ ?s1 ?s2 A3.out).mono ?_);(case s1=>exact C_foot_now HR1.out z2_);(case s2=>exact HC1.out);rintro e w5 ⟨vlE,rfl,ho0,hb⟩;refine⟨_,rfl,?_⟩;have HOiV:=am_ (R_lower ho0 (keep_size (w:=w) (g:=g) (row:=none) z2_));replace HK:=am_ (KeepBut.trans z2_ (KeepBut.of_below hb g none) (.inl rfl));replace HB:=am_ (below_step z4_ hb);replace HI0:=am_ (IsS86.below z3_ hb);(try clear hb ho0))|((with_reducible refine gate_callee (f:=64) rfl ?_);refine goesL_ (some 11) rfl rfl Try.func64 y0_ rfl #[.pointer (some ⟨g,0,none⟩),.int .i64 3] rfl z1_ ?_;(with_reducible refine(spec_l1Below.calls g s0_0 s0_1 s0_2 3 teE tjp tjq w0 _ ?s1 ?s2 A4.out).mono ?_);(case s1=>exact z3_);(case s2=>exact z4_);rintro e w6 ⟨rfl,hi,hb,hk⟩;refine⟨_,rfl,?_⟩;replace HOiV:=am_ (R_mono (R_keep (IsS86.apart (y1_:IsS86 w0 _ g s0_0 s0_1 s0_2) z356_ (by decide)) hk (fun _ h=>h.2)) (fun _ h=>h.1));replace HK:=am_ (KeepBut.trans z2_ hk (.inl rfl));replace HB:=am_ (hb);replace HI0:=am_ (hi);(try clear hb hk hi)))
 go_loopg [5,6] k (fun kq v5 v6 w'=>∃(x5_1:List (S61)) (x6_1:Int) (xB_1:Int) (xC_1:Int),v6= .int .i64 x6_1∧Aside0 (spec_l3Near.l0 kq x5_1 x6_1 s0_0 xB_1 xC_1=some (r1,r2,r3))∧Aside0 (kq≤k)∧Aside0 (Kd.R k61 61 w' w.heap.size (fun _=>True) v5 x5_1)∧Aside0 (IsS86 w0 w' g s0_0 xB_1 xC_1)∧Aside0 (KeepBut w w' g none)∧Aside0 (Below w0.heap.size w0 w'))
 case atStart=>exact⟨(tga),(wrap64 (1+teE)),(tjp),(tjq),z9_,H',⟨Nat.le_refl _⟩,⟨z356_⟩,⟨z3_⟩,⟨z2_⟩,⟨z4_⟩⟩
 case round=>
  clear H';obtain⟨x5_1,x6_1,xB_1,xC_1,rfl,HA,HK1,HO_5,HI0,HK,HB⟩:=hrel;cases gk with
  |zero=>exact absurd HA.out (by simp[spec_l3Near.l0])
  | succ k1=>
   have H:=HA.out;clear HA;simp only[spec_l3Near.l0] at H;have HC7:=am_ H;clear H
   go_upto_region 3 with (fail)
   go_cut [19] (fun v19 wc=>∃(kq:Nat) (x19_6:Bool),v19= .bool x19_6∧Aside0 (spec_l3Near.j1 kq x5_1 x6_1 x19_6 s0_0 xB_1 xC_1=some (r1,r2,r3))∧Aside0 (kq≤k1)∧Aside0 (Kd.R k61 61 wc w.heap.size (fun _=>True) u5 x5_1)∧Aside0 (IsS86 w0 wc g s0_0 xB_1 xC_1)∧Aside0 (KeepBut w wc g none)∧Aside0 (Below w0.heap.size w0 wc))
   case first=>
    have H:=HC7.out;clear HC7;by_cases c8:x6_1>0
    ·rw[if_pos c8] at H;have c8b0:=decide_eq_true c8;clear c8;have H':=am_ H;clear H;obtain⟨Ao9,co9,eo9⟩:=R_slice HO_5.out;subst eo9;go_wp2;go_meet
     case rel=>exact⟨_,(decide ((x5_1.length:Int)>0)),z9_,H',⟨z351_⟩,⟨z8_⟩,⟨z3_⟩,⟨z2_⟩,⟨z4_⟩⟩
    ·rw[if_neg c8] at H;have c8b0:=decide_eq_false c8;clear c8;have H':=am_ H;clear H;go_wp2;go_meet
     case rel=>exact⟨_,(false),z9_,H',⟨z351_⟩,⟨z8_⟩,⟨z3_⟩,⟨z2_⟩,⟨z4_⟩⟩
   case rest=>
    clear HC7;obtain⟨kq,x19_6,rfl,HA,HJ6,HO_5,HI0,HK,HB⟩:=hcut;cases kq with
    |zero=>exact absurd HA.out (by simp[spec_l3Near.j1])
    | succ kj6=>
     have H:=HA.out;clear HA;simp only[spec_l3Near.j1] at H;by_cases c10:x19_6=true
     ·subst c10;replace H:=ift_ H;replace H:=be_ H;obtain⟨⟨taz,tdf,tdg⟩,Acf,H⟩:=H
      try dsimp only at H
      have A11:=am_ Acf;clear Acf;replace H:=be_ H;obtain⟨⟨tbw,tdW,tdX⟩,Ada,H⟩:=H
      try dsimp only at H
      have A12:=am_ Ada;clear Ada;by_cases c13:tbw=0
      ·rw[if_pos c13] at H;have c13b0:(tbw==0)=true:=beq_iff_eq.mpr c13;have c13b1:(tbw != 0)=false:=bne_eq_false_iff_eq.mpr c13;clear c13;replace H:=be_ H;obtain⟨⟨teD,tjr,tjs⟩,Aes,H⟩:=H
       try dsimp only at H
       have A14:=am_ Aes;clear Aes;obtain⟨c15b0,H⟩:=ifd_ H;obtain⟨c16b0,H⟩:=ifd_ H
       (generalize hy_:((x5_1.set (taz:Int).toNat (⟨teD,(rd_T61 x5_1 taz).f1⟩:S61)):List (S61))=yho at H;have Nyho:=am_ hy_.symm;clear hy_)
       have H':=am_ H;clear H;obtain⟨Ao18,co18,eo18⟩:=R_slice HO_5.out;subst eo18
       go_wp2_with (first|((with_reducible refine gate_callee (f:=64) rfl ?_);refine goesL_ (some 25) rfl rfl Try.func64 y0_ rfl #[.pointer (some ⟨g,0,none⟩),.int .i64 (x5_1.length:Int)] rfl z1_ ?_;(with_reducible refine(spec_l1Below.calls g s0_0 xB_1 xC_1 (x5_1.length:Int) taz tdf tdg w0 _ ?s1 ?s2 A11.out).mono ?_);(case s1=>exact z3_);(case s2=>exact z4_);rintro e w19 ⟨rfl,hi,hb,hk⟩;refine⟨_,rfl,?_⟩;replace HO_5:=am_ (R_mono (R_keep (IsS86.apart (y1_:IsS86 w0 _ g s0_0 xB_1 xC_1) z8_ (by decide)) hk (fun _ h=>h.2)) (fun _ h=>h.1));replace HK:=am_ (KeepBut.trans z2_ hk (.inl rfl));replace HB:=am_ (hb);replace HI0:=am_ (hi);(try clear hb hk hi))|((with_reducible refine gate_callee (f:=64) rfl ?_);refine goesL_ (some 27) rfl rfl Try.func64 y0_ rfl #[.pointer (some ⟨g,0,none⟩),.int .i64 3] rfl z1_ ?_;(with_reducible refine(spec_l1Below.calls g s0_0 tdf tdg 3 tbw tdW tdX w0 _ ?s1 ?s2 A12.out).mono ?_);(case s1=>exact z3_);(case s2=>exact z4_);rintro e w20 ⟨rfl,hi,hb,hk⟩;refine⟨_,rfl,?_⟩;replace HO_5:=am_ (R_mono (R_keep (IsS86.apart (y1_:IsS86 w0 _ g s0_0 tdf tdg) z8_ (by decide)) hk (fun _ h=>h.2)) (fun _ h=>h.1));replace HK:=am_ (KeepBut.trans z2_ hk (.inl rfl));replace HB:=am_ (hb);replace HI0:=am_ (hi);(try clear hb hk hi))|((with_reducible refine gate_callee (f:=73) rfl ?_);refine goesL_ (some 51) rfl rfl Try.func73 y0_ rfl #[.pointer (some ⟨g,0,none⟩)] rfl z1_ ?_;(with_reducible refine(spec_l2Label.calls g s0_0 tdW tdX teD tjr tjs w0 _ ?s1 ?s2 A14.out).mono ?_);(case s1=>exact z3_);(case s2=>exact z4_);rintro e w21 ⟨rfl,hi,hb,hk⟩;refine⟨_,rfl,?_⟩;replace HO_5:=am_ (R_mono (R_keep (IsS86.apart (y1_:IsS86 w0 _ g s0_0 tdW tdX) z8_ (by decide)) hk (fun _ h=>h.2)) (fun _ h=>h.1));replace HK:=am_ (KeepBut.trans z2_ hk (.inl rfl));replace HB:=am_ (hb);replace HI0:=am_ (hi);(try clear hb hk hi);have p17:0≤(taz:Int):=odt_;have q17:(taz:Int)<((x5_1.length:Int):Int):=odt_;obtain⟨go17,co17,eo17,gb17,gl17,cl17,HG17⟩:=R_form HO_5.out (by omega);(cases eo17);have GB17:=am_ gb17;have GG17:=am_ HG17;clear gb17 gl17 HG17;obtain⟨ce17,hcl17,hM17,hcc17,hfr17⟩:=R_elem HO_5.out z61 (taz:Int) p17 q17;obtain rfl:=k61_openM hM17;have hx17_0:w21.cell? ⟨go17,(taz:Int).toNat*2,none⟩=some (.int .i64 ((rd_T61 x5_1 taz).f0)):=hcc17 0 _ rfl;have hx17_1:w21.cell? ⟨go17,(taz:Int).toNat*2+1,none⟩=some (.int .i64 ((rd_T61 x5_1 taz).f1)):=hcc17 1 _ rfl;have hf17_0:w21.frozen? ⟨go17,(taz:Int).toNat*2,none⟩=false:=hfr17 0;have hf17_1:w21.frozen? ⟨go17,(taz:Int).toNat*2+1,none⟩=false:=hfr17 1;clear hcl17 hcc17 hfr17 hM17;replace p17:=eq_true p17;replace q17:=eq_true q17;have HX22:=am_ (show Kd.R k61 61 w21 w.heap.size (fun _=>True) (.slice (some ⟨go17,0,none⟩) x5_1.length co18) x5_1 from z8_);obtain⟨ce22,hcl22,hM22,hcc22,hfr22⟩:=R_elem HX22.out z61 (taz:Int) (odt_) (by have h_:(taz:Int)<((x5_1.length:Int):Int):=odt_;exact h_);obtain rfl:=k61_openM hM22;have HP22:=R_seg HX22.out (taz:Int) (odt_) (by have h_:(taz:Int)<((x5_1.length:Int):Int):=odt_;exact h_) (seg:=[.int .i64 teD]) (j:=0) hcl22 hcc22 ((by decide):1≤2) (x':=(⟨teD,(rd_T61 x5_1 taz).f1⟩:S61)) (k61_mkM _ _ _ (⟨teD,(rd_T61 x5_1 taz).f1⟩:S61)) (fun _ hk=>hk);have hx22_0:=hcc22 0 _ rfl;(try simp only[show (k61).sz=2 from rfl,Nat.mul_one,Nat.add_zero] at hx22_0);have hf22_0:=hfr22 0;(try simp only[show (k61).sz=2 from rfl,Nat.mul_one,Nat.add_zero] at hf22_0);clear hcl22 hcc22 hfr22 hM22)|((with_reducible refine gate_store (t:=3) (p:=53) rfl ?_);refine store_event (t:=3) (p:=53) (v:=?vo_w23) (w1:=(w21.setCell ⟨go17,(taz:Int).toNat*2,none⟩ (.int .i64 teD))) ?hg ?ho ?hn ?hr ?_;(case ho=>rfl);(case hg=>rfl);(case hn=>rfl);(case hr=>exact z14_);intro w23 hw;have hg:w21.grownBy w23 (some go17):=(by rw[hw];exact HP22.2);have hp_:Kd.R k61 61 w23 w.heap.size (fun _=>True) (.slice (some ⟨go17,0,none⟩) x5_1.length co18) yho:=(by rw[hw,Nyho.out];exact HP22.1);clear HP22;replace HI0:=am_ (IsS86.grown z3_ hg (IsS86.own_ne HI0.out HO_5.out (by decide)));replace HB:=am_ ((by rw[hw];exact below_set (HB.out) (Nat.le_trans HL.out GB17.out):Below w0.heap.size w0 w23));replace HK:=am_ (KeepBut.trans z2_ (KeepBut.of_grown hg g) (R_base2 HO_5.out));replace HO_5:=am_ (hp_);clear hg hw hp_))
       go_roundg kj6
       case measure=>have:=HK1.out;have:=HJ6.out;omega
       case rel=>exact⟨(yho),(wrap64 (x6_1-1)),(tjr),(tjs),z9_,H',⟨z367_⟩,⟨z8_⟩,⟨z3_⟩,⟨z2_⟩,⟨z4_⟩⟩
      ·rw [if_neg c13] at H;have c13b0:(tbw==0)=false:=beq_eq_false_iff_ne.mpr c13;have c13b1:(tbw != 0)=true:=bne_iff_ne.mpr c13;by_cases c24:tbw=1
       ·rw[if_pos c24] at H;have c24b0:(tbw==1)=true:=beq_iff_eq.mpr c24;have c24b1:(tbw != 1)=false:=bne_eq_false_iff_eq.mpr c24;clear c24;by_cases c25:taz>0
        ·rw[if_pos c25] at H;have c25b0:=decide_eq_true c25;clear c25;by_cases c26:(x5_1.length:Int)>1
         ·rw[if_pos c26] at H;have c26b0:=decide_eq_true c26;have c26b1:decide (1<x5_1.length)=true:=decide_eq_true (by omega);clear c26;obtain⟨c27b0,c27b1,H⟩:=ife_ H;obtain⟨c28b0,c28b1,H⟩:=ife_ H
          (generalize hy_:((x5_1.take (taz:Int).toNat):List (S61))=yeF at H;have NyeF:=am_ hy_.symm;clear hy_)
          obtain⟨tf8,A29,H⟩:=bnd_ H;obtain⟨ji30,hji30⟩:∃j_:Int,(wrap64 (taz+1))=j_:=⟨_,rfl⟩
          rw[hji30] at H;have hji30w:(IntKind.i64.wrap (taz+1))=ji30:=(i64_w _).trans hji30;obtain⟨c31b0,c31b1,H⟩:=ife_ H;obtain⟨c32b0,c32b1,H⟩:=ife_ H
          ((with_reducible have hz_:=gy_ H);obtain⟨ycU,NycU,H⟩:=hz_)
          obtain⟨c33,H⟩:=ifs_ H;have LMc33:=am_ c33;clear c33
          (generalize hy_:((tf8++ycU):List (S61))=yin at H;have Nyin:=am_ hy_.symm;clear hy_)
          have H':=am_ H;clear H;obtain⟨Ao34,co34,eo34⟩:=R_slice HO_5.out;subst eo34
          try go_wp2_with (first|((with_reducible refine gate_callee (f:=64) rfl ?_);refine goesL_ (some 25) rfl rfl Try.func64 y0_ rfl #[.pointer (some ⟨g,0,none⟩),.int .i64 (x5_1.length:Int)] rfl z1_ ?_;(with_reducible refine(spec_l1Below.calls g s0_0 xB_1 xC_1 (x5_1.length:Int) taz tdf tdg w0 _ ?s1 ?s2 A11.out).mono ?_);(case s1=>exact z3_);(case s2=>exact z4_);rintro e w35 ⟨rfl,hi,hb,hk⟩;refine⟨_,rfl,?_⟩;replace HO_5:=am_ (R_mono (R_keep (IsS86.apart (y1_:IsS86 w0 _ g s0_0 xB_1 xC_1) z8_ (by decide)) hk (fun _ h=>h.2)) (fun _ h=>h.1));replace HK:=am_ (KeepBut.trans z2_ hk (.inl rfl));replace HB:=am_ (hb);replace HI0:=am_ (hi);(try clear hb hk hi))|((with_reducible refine gate_callee (f:=64) rfl ?_);refine goesL_ (some 27) rfl rfl Try.func64 y0_ rfl #[.pointer (some ⟨g,0,none⟩),.int .i64 3] rfl z1_ ?_;(with_reducible refine(spec_l1Below.calls g s0_0 tdf tdg 3 tbw tdW tdX w0 _ ?s1 ?s2 A12.out).mono ?_);(case s1=>exact z3_);(case s2=>exact z4_);rintro e w36 ⟨rfl,hi,hb,hk⟩;refine⟨_,rfl,?_⟩;replace HO_5:=am_ (R_mono (R_keep (IsS86.apart (y1_:IsS86 w0 _ g s0_0 tdf tdg) z8_ (by decide)) hk (fun _ h=>h.2)) (fun _ h=>h.1));replace HK:=am_ (KeepBut.trans z2_ hk (.inl rfl));replace HB:=am_ (hb);replace HI0:=am_ (hi);(try clear hb hk hi)))
          replace HO_5:=am_ (R_drew HO_5.out);replace HI0:=am_ (IsS86.drew HI0.out);replace HK:=am_ (keep_drew HK.out);replace HB:=am_ (below_drew1 HB.out);have q38:(taz:Int)≤((x5_1.length:Int):Int):=odt_;obtain⟨iio,hiio,_,hsz38,_⟩:=info_parts info61;have hroom38:x5_1.length≤co34:=(R_reads' HO_5.out).2.1;have hC38:Kd.C k61 _ Ao34 x5_1.length x5_1:=(R_reads' HO_5.out).2.2;have hcut38:=cut_to (P:=Try.prog) 25 61 .i64 Try.underlying25 hiio Ao34 x5_1.length co34 taz (odt_) q38 hroom38;have hr38:=C_take (m:=(taz:Int).toNat) hC38 (by omega);have hy38:yeF.length=(taz:Int).toNat:=(by rw[NyeF.out,List.length_take];omega)
          rw[←NyeF.out] at hr38;rw[←hy38] at hcut38;have HRfy:=am_ hr38;have HCfy:=am_ ((by omega):yeF.length≤co34);clear hr38 hC38 hroom38 hiio hsz38;have KY38:=am_ hy38;clear hy38;have KL38:=am_ ((by omega):(taz:Int).toNat≤x5_1.length);replace q38:=eq_true q38;have q39:((ji30):Int)≤((x5_1.length:Int):Int):=odt_;obtain⟨ie3,hie3,_,hsz39,_⟩:=info_parts info61;have hroom39:x5_1.length≤co34:=(R_reads' HO_5.out).2.1;have hC39:Kd.C k61 _ Ao34 x5_1.length x5_1:=(R_reads' HO_5.out).2.2;have qe3:(0:Int)≤((ji30):Int):=odt_;have hcut39:=cut_from (P:=Try.prog) 25 61 .i64 Try.underlying25 hie3 2 hsz39 Ao34 x5_1.length co34 (ji30) qe3 q39;have hr39:=C_drop (m:=((ji30):Int).toNat) (c:=co34) hC39 (by omega) hroom39;obtain⟨A39,hA39⟩:∃A1,A1=(if co34=((ji30):Int).toNat then Ao34 else (Ao34:Option Addr).map (·.add (((ji30):Int).toNat*2))):=⟨_,rfl⟩
          obtain⟨c39,hc39⟩:∃c1,c1=co34-((ji30):Int).toNat:=⟨_,rfl⟩
          have hy39:ycU.length=x5_1.length-((ji30):Int).toNat:=(by rw[NycU.out,List.length_drop]<;>omega)
          rw[show (x5_1).drop ((ji30):Int).toNat=ycU from NycU.out.symm] at hr39;replace hr39:Kd.C k61 _ A39 ycU.length ycU:=(by rw[hA39];exact hr39)
          rw[←hy39,←hA39,←hc39] at hcut39;have HRfZ:=am_ hr39;have HCfZ:=am_ ((by rw[hy39,hc39];exact Nat.sub_le_sub_right hroom39 _):ycU.length≤c39);clear hr39 hC39 hroom39 hie3 hsz39 hc39;have KY39:=am_ hy39;have KA39:=am_ hA39;clear hy39 hA39;have KL39:=am_ ((by omega):((ji30):Int).toNat≤x5_1.length);replace q39:=eq_true q39;refine start_ (n:=10) (S:=fun w'=>True) (ds:=[]) (fl_ 10 0) y0_ rfl (fl_zero _) trivial (fun hh=>?_);refine with_tabW spec_l3Near.tab12 spec_l3Near.bits12 (fun HT_ HW_=>?_);generalize w36.drew=w37 at HO_5 HI0 HK HB HRfy HRfZ hh⊢
          iterate 3 refine yp_ HT_ ?_
          refine ypg_ (i:=4) (ra_ [3,1,1,5]) HT_ ?_;refine ypg_ (i:=5) (ra_ [3,1,2,4]) HT_ ?_;refine ypg_ (i:=6) (ra_ [3,1,3,3]) HT_ ?_;refine ypg_ (i:=7) (ra_ [3,1,4,2]) HT_ ?_;refine one_ (i:=3) (N:=some 66) (fl_ 10 8) rfl rfl (one_of HT_.out y0_) (by decide) (fun K hK=>?_);refine goes_ Try.func72 y0_ rfl #[.slice Ao34 yeF.length co34] (by rfl) rfl rfl z1_ ?_
          with_reducible refine(spec_l3Copy.calls _ _ yeF tf8 _ ?s1 ?s2 A29.out).mono ?_
          (case s1=>repeat(exact z265_))
          (case s2=>exact HCfy.out)
          rintro e w40 ⟨vkG,rfl,ho0,hb⟩;refine⟨_,rfl,?_⟩;have HOhp:=am_ (R_lower (R_new' ho0 (R_lt z8_)) (keep_size (w:=w) (g:=g) (row:=none) z2_));replace HO_5:=am_ (R_elder' z8_ (R_base ho0) hb);replace HRfy:=am_ (C_below z265_ hb);replace HRfZ:=am_ (C_below z266_ hb);replace HK:=am_ (KeepBut.trans z2_ (KeepBut.of_below hb g none) (.inl rfl));replace HB:=am_ (below_step z4_ hb);replace HI0:=am_ (IsS86.below z3_ hb)
          (try clear hb)
          (try clear ho0)
          refine hK.out _ _ trivial (fun hh=>?_);clear hK K;refine zn_ rfl ?_;refine one_ (i:=8) (N:=some 71) (fl_ 10 9) rfl rfl (one_of HT_.out y0_) (by decide) (fun K hK=>?_);refine R_append_rows_step k61 w.heap.size (by rfl) (.tmp 66) (.tmp 70) 25 61 (.agg #[(.int .i64 0),(.int .i64 0)]) 16 rfl Try.underlying25 info61 rfl (by decide) (by omega) vkG tf8 ycU _ _ _ (nb1_ (.slice Ao34 x5_1.length co34)) (fun _=>False) rfl rfl ?aO ?aR (fun _ _ h=>h) (fun _ h=>h.elim) ?aF (Below.refl _ _) ?aS ?aL ?_
          (case aR=>repeat(exact z266_))
          (case aF=>exact z318_)
          (case aO=>exact(by exact ur_ (R_mono HOhp.out (fun _ hk=>hk.2))))
          (case aS=>exact z70_)
          (case aL=>have:=LMc33.out;omega)
          intro vlF w41 ho hb hg hat;rw[←Nyin.out] at ho;replace HB:=am_ (below_weaken z4_ HL.out hb);replace HI0:=am_ (IsS86.grown z3_ hg (IsS86.own_ne HI0.out HOhp.out (by decide)));replace HK:=am_ (KeepBut.trans z2_ (KeepBut.of_grown hg g) (R_base2 HOhp.out));replace HRfy:=am_ (((by rw[NyeF.out];exact C_take (m:=(taz:Int).toNat) ((R_reads' (R_after (ok:=(fun _=>True)) z8_ hg hat)).2.2) KL38.out):Kd.C k61 w41 Ao34 yeF.length yeF));replace HRfZ:=am_ (((by rw[NycU.out,KA39.out];exact C_drop (m:=((ji30):Int).toNat) (c:=co34) ((R_reads' (R_after (ok:=(fun _=>True)) z8_ hg hat)).2.2) KL39.out ((R_reads' (R_after (ok:=(fun _=>True)) z8_ hg hat)).2.1)):Kd.C k61 w41 A39 ycU.length ycU));replace HO_5:=am_ (R_after (ok:=(fun _=>True)) z8_ hg hat);have HOkH:=am_ (ho);clear HOhp ho hb hg hat;refine hK.out _ _ trivial (fun hh=>?_);clear hK K;refine zn_ rfl ?_;refine yp_ HT_ ?_;refine done_ (done_of HT_.out y0_) ?_
          try go_wp2
          go_roundg kj6
          case measure=>have:=HK1.out;have:=HJ6.out;omega
          case rel=>exact⟨(yin),(wrap64 (x6_1-1)),(tdW),(tdX),z9_,H',⟨z367_⟩,⟨by exact ur_ (R_mono HOkH.out (fun _ hk=>trivial))⟩,⟨z3_⟩,⟨z2_⟩,⟨z4_⟩⟩
         ·rw[if_neg c26] at H;have c26b0:=decide_eq_false c26;have c26b1:decide (1<x5_1.length)=false:=decide_eq_false (by omega);clear c26;have H':=am_ H;clear H;obtain⟨Ao42,co42,eo42⟩:=R_slice HO_5.out;subst eo42
          go_wp2_with (first|((with_reducible refine gate_callee (f:=64) rfl ?_);refine goesL_ (some 25) rfl rfl Try.func64 y0_ rfl #[.pointer (some ⟨g,0,none⟩),.int .i64 (x5_1.length:Int)] rfl z1_ ?_;(with_reducible refine(spec_l1Below.calls g s0_0 xB_1 xC_1 (x5_1.length:Int) taz tdf tdg w0 _ ?s1 ?s2 A11.out).mono ?_);(case s1=>exact z3_);(case s2=>exact z4_);rintro e w43 ⟨rfl,hi,hb,hk⟩;refine⟨_,rfl,?_⟩;replace HO_5:=am_ (R_mono (R_keep (IsS86.apart (y1_:IsS86 w0 _ g s0_0 xB_1 xC_1) z8_ (by decide)) hk (fun _ h=>h.2)) (fun _ h=>h.1));replace HK:=am_ (KeepBut.trans z2_ hk (.inl rfl));replace HB:=am_ (hb);replace HI0:=am_ (hi);(try clear hb hk hi))|((with_reducible refine gate_callee (f:=64) rfl ?_);refine goesL_ (some 27) rfl rfl Try.func64 y0_ rfl #[.pointer (some ⟨g,0,none⟩),.int .i64 3] rfl z1_ ?_;(with_reducible refine(spec_l1Below.calls g s0_0 tdf tdg 3 tbw tdW tdX w0 _ ?s1 ?s2 A12.out).mono ?_);(case s1=>exact z3_);(case s2=>exact z4_);rintro e w44 ⟨rfl,hi,hb,hk⟩;refine⟨_,rfl,?_⟩;replace HO_5:=am_ (R_mono (R_keep (IsS86.apart (y1_:IsS86 w0 _ g s0_0 tdf tdg) z8_ (by decide)) hk (fun _ h=>h.2)) (fun _ h=>h.1));replace HK:=am_ (KeepBut.trans z2_ hk (.inl rfl));replace HB:=am_ (hb);replace HI0:=am_ (hi);(try clear hb hk hi)))
          go_roundg kj6
          case measure=>have:=HK1.out;have:=HJ6.out;omega
          case rel=>exact⟨(x5_1),(wrap64 (x6_1-1)),(tdW),(tdX),z9_,H',⟨z367_⟩,⟨z8_⟩,⟨z3_⟩,⟨z2_⟩,⟨z4_⟩⟩
        ·rw[if_neg c25] at H;have c25b0:=decide_eq_false c25;clear c25;have H':=am_ H;clear H;obtain⟨Ao45,co45,eo45⟩:=R_slice HO_5.out;subst eo45
         go_wp2_with (first|((with_reducible refine gate_callee (f:=64) rfl ?_);refine goesL_ (some 25) rfl rfl Try.func64 y0_ rfl #[.pointer (some ⟨g,0,none⟩),.int .i64 (x5_1.length:Int)] rfl z1_ ?_;(with_reducible refine(spec_l1Below.calls g s0_0 xB_1 xC_1 (x5_1.length:Int) taz tdf tdg w0 _ ?s1 ?s2 A11.out).mono ?_);(case s1=>exact z3_);(case s2=>exact z4_);rintro e w46 ⟨rfl,hi,hb,hk⟩;refine⟨_,rfl,?_⟩;replace HO_5:=am_ (R_mono (R_keep (IsS86.apart (y1_:IsS86 w0 _ g s0_0 xB_1 xC_1) z8_ (by decide)) hk (fun _ h=>h.2)) (fun _ h=>h.1));replace HK:=am_ (KeepBut.trans z2_ hk (.inl rfl));replace HB:=am_ (hb);replace HI0:=am_ (hi);(try clear hb hk hi))|((with_reducible refine gate_callee (f:=64) rfl ?_);refine goesL_ (some 27) rfl rfl Try.func64 y0_ rfl #[.pointer (some ⟨g,0,none⟩),.int .i64 3] rfl z1_ ?_;(with_reducible refine(spec_l1Below.calls g s0_0 tdf tdg 3 tbw tdW tdX w0 _ ?s1 ?s2 A12.out).mono ?_);(case s1=>exact z3_);(case s2=>exact z4_);rintro e w47 ⟨rfl,hi,hb,hk⟩;refine⟨_,rfl,?_⟩;replace HO_5:=am_ (R_mono (R_keep (IsS86.apart (y1_:IsS86 w0 _ g s0_0 tdf tdg) z8_ (by decide)) hk (fun _ h=>h.2)) (fun _ h=>h.1));replace HK:=am_ (KeepBut.trans z2_ hk (.inl rfl));replace HB:=am_ (hb);replace HI0:=am_ (hi);(try clear hb hk hi)))
         go_roundg kj6
         case measure=>have:=HK1.out;have:=HJ6.out;omega
         case rel=>exact⟨(x5_1),(wrap64 (x6_1-1)),(tdW),(tdX),z9_,H',⟨z367_⟩,⟨z8_⟩,⟨z3_⟩,⟨z2_⟩,⟨z4_⟩⟩
       ·rw[if_neg c24] at H;have c24b0:(tbw==1)=false:=beq_eq_false_iff_ne.mpr c24;have c24b1:(tbw != 1)=true:=bne_iff_ne.mpr c24;obtain⟨tf9,A48,H⟩:=bnd_ H;replace H:=be_ H;obtain⟨⟨te4,thq,thr⟩,Aec,H⟩:=H
        try dsimp only at H
        have A49:=am_ Aec;clear Aec;obtain⟨ji50,hji50⟩:∃j_:Int,(wrap64 ((x5_1.length:Int)-1))=j_:=⟨_,rfl⟩
        rw[hji50] at H;have hji50w:(IntKind.i64.wrap ((x5_1.length:Int)-1))=ji50:=(i64_w _).trans hji50;obtain⟨c51b0,H⟩:=ifd_ H;obtain⟨c52b0,H⟩:=ifd_ H;replace H:=be_ H;obtain⟨⟨te5,tjt,tju⟩,Aed,H⟩:=H
        try dsimp only at H
        have A53:=am_ Aed;clear Aed;obtain⟨c54,H⟩:=ifs_ H;have LMc54:=am_ c54;clear c54
        (generalize hy_:((tf9++[(⟨te4,wrap64 (1+te5)⟩:S61)]):List (S61))=yip at H;have Nyip:=am_ hy_.symm;clear hy_)
        have H':=am_ H;clear H;obtain⟨Ao55,co55,eo55⟩:=R_slice HO_5.out;subst eo55
        try go_wp2_with (first|((with_reducible refine gate_callee (f:=64) rfl ?_);refine goesL_ (some 25) rfl rfl Try.func64 y0_ rfl #[.pointer (some ⟨g,0,none⟩),.int .i64 (x5_1.length:Int)] rfl z1_ ?_;(with_reducible refine(spec_l1Below.calls g s0_0 xB_1 xC_1 (x5_1.length:Int) taz tdf tdg w0 _ ?s1 ?s2 A11.out).mono ?_);(case s1=>exact z3_);(case s2=>exact z4_);rintro e w56 ⟨rfl,hi,hb,hk⟩;refine⟨_,rfl,?_⟩;replace HO_5:=am_ (R_mono (R_keep (IsS86.apart (y1_:IsS86 w0 _ g s0_0 xB_1 xC_1) z8_ (by decide)) hk (fun _ h=>h.2)) (fun _ h=>h.1));replace HK:=am_ (KeepBut.trans z2_ hk (.inl rfl));replace HB:=am_ (hb);replace HI0:=am_ (hi);(try clear hb hk hi))|((with_reducible refine gate_callee (f:=64) rfl ?_);refine goesL_ (some 27) rfl rfl Try.func64 y0_ rfl #[.pointer (some ⟨g,0,none⟩),.int .i64 3] rfl z1_ ?_;(with_reducible refine(spec_l1Below.calls g s0_0 tdf tdg 3 tbw tdW tdX w0 _ ?s1 ?s2 A12.out).mono ?_);(case s1=>exact z3_);(case s2=>exact z4_);rintro e w57 ⟨rfl,hi,hb,hk⟩;refine⟨_,rfl,?_⟩;replace HO_5:=am_ (R_mono (R_keep (IsS86.apart (y1_:IsS86 w0 _ g s0_0 tdf tdg) z8_ (by decide)) hk (fun _ h=>h.2)) (fun _ h=>h.1));replace HK:=am_ (KeepBut.trans z2_ hk (.inl rfl));replace HB:=am_ (hb);replace HI0:=am_ (hi);(try clear hb hk hi)))
        replace HO_5:=am_ (R_drew HO_5.out);replace HI0:=am_ (IsS86.drew HI0.out);replace HK:=am_ (keep_drew HK.out);replace HB:=am_ (below_drew1 HB.out);have pb9:0≤((ji50):Int):=odt_;have qb9:(ji50)<(x5_1.length:Int):=odt_;obtain⟨adb9,eb9,hxb9_0,hxb9_1⟩:=at_T61 (R_reads' HO_5.out).2.2 (ji50) pb9 qb9;cases eb9;replace pb9:=eq_true pb9;replace qb9:=eq_true qb9;refine start_ (n:=19) (S:=fun w'=>w'.cell? (adb9.add (((ji50)).toNat*2))=some (.int .i64 ((rd_T61 x5_1 (ji50)).f0))∧w'.cell? ⟨(adb9.add (((ji50)).toNat*2)).block,(adb9.add (((ji50)).toNat*2)).off+1,none⟩=some (.int .i64 ((rd_T61 x5_1 (ji50)).f1))) (ds:=[16,17]) (fl_ 19 0) y0_ rfl (fl_zero _) ⟨hxb9_0,hxb9_1⟩ (fun hh=>?_);refine with_tabW spec_l3Near.tab7 spec_l3Near.bits7 (fun HT_ HW_=>?_);generalize w57.drew=w58 at HO_5 HI0 HK HB hxb9_0 hxb9_1 hh⊢;refine yp_ HT_ ?_;refine ypg_ (i:=2) (ra_ [1,1,1,16]) HT_ ?_;refine ypg_ (i:=4) (ra_ [1,1,1,1,1,14]) HT_ ?_;refine ypg_ (i:=5) (ra_ [1,1,1,1,2,13]) HT_ ?_;refine ypg_ (i:=6) (ra_ [1,1,1,1,3,12]) HT_ ?_;refine ypg_ (i:=7) (ra_ [1,1,1,1,4,11]) HT_ ?_;refine ypg_ (i:=8) (ra_ [1,1,1,1,5,10]) HT_ ?_;refine ypg_ (i:=9) (ra_ [1,1,1,1,6,9]) HT_ ?_;refine ypg_ (i:=10) (ra_ [1,1,1,1,7,8]) HT_ ?_;refine ytg_ (i:=11) (ra_ [1,1,1,1,8,7]) HT_ HW_ hh ?_ (hy:=z199_);refine ypg_ (i:=12) (ra_ [1,1,1,1,9,6]) HT_ ?_;refine one_ (i:=1) (N:=some 29) (ra_ [3,1,9,6]) rfl rfl (one_of HT_.out y0_) (by decide) (fun K hK=>?_);refine goes_ Try.func72 y0_ rfl #[.slice (some adb9) x5_1.length co55] (by rfl) rfl rfl z1_ ?_
        with_reducible refine(spec_l3Copy.calls _ _ x5_1 tf9 _ ?s1 ?s2 A48.out).mono ?_
        (case s1=>exact z228_)
        (case s2=>exact(R_reads' HO_5.out).2.1)
        rintro e w59 ⟨vkI,rfl,ho0,hb⟩;have HS0_:=(hb.cell (bc_ _ _ (hh.1))).trans (hh.1);have HS1_:=(hb.cell (bc_ _ _ (hh.2))).trans (hh.2);refine⟨_,rfl,?_⟩;have HOfB:=am_ (R_lower (R_new' ho0 (R_lt z8_)) (keep_size (w:=w) (g:=g) (row:=none) z2_));replace HO_5:=am_ (R_elder' z8_ (R_base ho0) hb);replace HK:=am_ (KeepBut.trans z2_ (KeepBut.of_below hb g none) (.inl rfl));replace HB:=am_ (below_step z4_ hb);replace HI0:=am_ (IsS86.below z3_ hb)
        (try clear hb)
        (try clear ho0)
        refine hK.out _ _ ⟨HS0_,HS1_⟩ (fun hh=>?_);clear hK K;refine zn_ rfl ?_;refine one_ (i:=3) (N:=some 31) (fl_ 19 13) rfl rfl (one_of HT_.out y0_) (by decide) (fun K hK=>?_);refine goes_ Try.func73 y0_ rfl #[.pointer (some ⟨g,0,none⟩)] (by rfl) rfl rfl z1_ ?_
        with_reducible refine(spec_l2Label.calls g s0_0 tdW tdX te4 thq thr w0 _ ?s1 ?s2 A49.out).mono ?_
        (case s1=>exact z3_)
        (case s2=>exact z4_)
        rintro e w60 ⟨rfl,hi,hb,hk⟩;have HS0_:=keep_cell hk (hh.1) z122_;have HS1_:=keep_cell hk (hh.2) z122_;refine⟨_,rfl,?_⟩;replace HO_5:=am_ (R_mono (R_keep (IsS86.apart (y1_:IsS86 w0 _ g s0_0 tdW tdX) z8_ (by decide)) hk (fun _ h=>h.2)) (fun _ h=>h.1));replace HOfB:=am_ (R_mono (R_keep (IsS86.apart (y1_:IsS86 w0 _ g s0_0 tdW tdX) z357_ (by decide)) hk (fun _ h=>h.2)) (fun _ h=>h.1));replace HK:=am_ (KeepBut.trans z2_ hk (.inl rfl));replace HB:=am_ (hb);replace HI0:=am_ (hi)
        (try clear hb)
        (try clear hk)
        (try clear hi)
        refine hK.out _ _ ⟨HS0_,HS1_⟩ (fun hh=>?_);clear hK K;refine zn_ rfl ?_;refine one_ (i:=13) (N:=some 41) (fl_ 19 14) rfl rfl (one_of HT_.out y0_) (by decide) (fun K hK=>?_);refine goes_ Try.func64 y0_ rfl #[.pointer (some ⟨g,0,none⟩),.int .i64 (wrap64 (((rd_T61 x5_1 (ji50)).f1)+1))] (by rfl) rfl rfl (by (try simp only[List.map_toArray,List.map_cons,List.map_nil]);rfl) ?_
        with_reducible refine(spec_l1Below.calls g s0_0 thq thr (wrap64 (((rd_T61 x5_1 (ji50)).f1)+1)) te5 tjt tju w0 _ ?s1 ?s2 A53.out).mono ?_
        (case s1=>exact z3_)
        (case s2=>exact z4_)
        rintro e w61 ⟨rfl,hi,hb,hk⟩;have HS0_:=keep_cell hk (hh.1) z122_;have HS1_:=keep_cell hk (hh.2) z122_;refine⟨_,rfl,?_⟩;replace HO_5:=am_ (R_mono (R_keep (IsS86.apart (y1_:IsS86 w0 _ g s0_0 thq thr) z8_ (by decide)) hk (fun _ h=>h.2)) (fun _ h=>h.1));replace HOfB:=am_ (R_mono (R_keep (IsS86.apart (y1_:IsS86 w0 _ g s0_0 thq thr) z357_ (by decide)) hk (fun _ h=>h.2)) (fun _ h=>h.1));replace HK:=am_ (KeepBut.trans z2_ hk (.inl rfl));replace HB:=am_ (hb);replace HI0:=am_ (hi)
        (try clear hb)
        (try clear hk)
        (try clear hi)
        refine hK.out _ _ ⟨HS0_,HS1_⟩ (fun hh=>?_);clear hK K;refine zn_ rfl ?_
        iterate 2 refine yp_ HT_ ?_
        refine last_ (i:=16) (N:=some 44) (fl_ 19 17) rfl rfl (one_of HT_.out y0_) (by decide) (fun K hK=>?_);refine value_ (w1:=?_) (v:=?_) (by rfl) rfl ?_ ?_;rotate_left 2
        ·go_simp;constructor
         ·rfl
         ·rfl
        refine hK.out _ _ ?_;clear hK K;refine zn_ rfl ?_;refine last_ (i:=17) (N:=some 45) (fl_ 19 18) rfl rfl (one_of HT_.out y0_) (by decide) (fun K hK=>?_);refine R_append_step k61 w.heap.size (by rfl) (.tmp 29) (.tmp 44) 25 61 (.agg #[(.int .i64 0),(.int .i64 0)]) 16 rfl Try.underlying25 info61 rfl (by decide) (by omega) vkI tf9 (⟨te4,wrap64 (1+te5)⟩:S61) [.int .i64 te4,.int .i64 (wrap64 (1+te5))] (nb1_ (.slice (some adb9) x5_1.length co55)) (fun _=>False) rfl rfl ?aP (fun _ hk=>hk.elim) ?aF ?aO (Below.refl _ _) ?aS ?aL ?_
        (case aP=>exact k61_mkM _ _ _ (⟨te4,wrap64 (1+te5)⟩:S61))
        (case aF=>exact z318_)
        (case aO=>exact(by exact ur_ (R_mono HOfB.out (fun _ hk=>hk.2))))
        (case aS=>exact z70_)
        (case aL=>have:=LMc54.out;omega)
        intro vlG w62 ho hb hg hat;rw[←Nyip.out] at ho;replace HO_5:=am_ (R_after (ok:=(fun _=>True)) z8_ hg hat);replace HB:=am_ (below_weaken z4_ HL.out hb);replace HI0:=am_ (IsS86.grown z3_ hg (IsS86.own_ne HI0.out HOfB.out (by decide)));replace HK:=am_ (KeepBut.trans z2_ (KeepBut.of_grown hg g) (R_base2 HOfB.out));have HOkJ:=am_ (ho);clear HOfB ho hb hg hat;refine hK.out _ _ ?_;clear hK K;refine zn_ rfl ?_;refine yp_ HT_ ?_;refine done_ (done_of HT_.out y0_) ?_
        try go_wp2
        go_roundg kj6
        case measure=>have:=HK1.out;have:=HJ6.out;omega
        case rel=>exact⟨(yip),(wrap64 (x6_1-1)),(tjt),(tju),z9_,H',⟨z367_⟩,⟨by exact ur_ (R_mono HOkJ.out (fun _ hk=>trivial))⟩,⟨z3_⟩,⟨z2_⟩,⟨z4_⟩⟩
     ·replace c10:=Bool.eq_false_iff.mpr c10;subst c10;replace H:=iff_ H;obtain⟨tim,A63,H⟩:=bnd_ H;by_cases c64:tim=true
      ·subst c64;replace H:=ift_ H;simp only[Option.some.injEq,Prod.mk.injEq] at H;obtain⟨rfl,rfl,rfl⟩:=H;obtain⟨Ao65,co65,eo65⟩:=R_slice HO_5.out;subst eo65
       go_wp2_with (((with_reducible refine gate_callee (f:=28) rfl ?_);refine goesL_ (some 73) rfl rfl Try.func28 y0_ rfl #[.slice Ao65 x5_1.length co65] rfl z1_ ?_;(with_reducible refine(spec_TreeOk.calls kj6 _ _ x5_1 true _ ?s1 ?s2 A63.out).mono ?_);(case s1=>exact z228_);(case s2=>exact(R_reads' HO_5.out).2.1);rintro e w66 ⟨rfl,hb⟩;refine⟨_,rfl,?_⟩;replace HO_5:=am_ (R_below z8_ hb);replace HK:=am_ (KeepBut.trans z2_ (KeepBut.of_below hb g none) (.inl rfl));replace HB:=am_ (below_step z4_ hb);replace HI0:=am_ (IsS86.below z3_ hb);(try clear hb)))
       go_ret;exact⟨_,z7_,z8_,z3_,z4_,z2_⟩
      ·replace c64:=Bool.eq_false_iff.mpr c64;subst c64;replace H:=iff_ H;replace H:=be_ H;obtain⟨⟨tgI,tkK,tkL⟩,AfH,H⟩:=H
       try dsimp only at H
       have A67:=am_ AfH;clear AfH;simp only[Option.some.injEq,Prod.mk.injEq] at H;obtain⟨rfl,rfl,rfl⟩:=H;obtain⟨Ao68,co68,eo68⟩:=R_slice HO_5.out;subst eo68
       go_wp2_with (first|((with_reducible refine gate_callee (f:=28) rfl ?_);refine goesL_ (some 73) rfl rfl Try.func28 y0_ rfl #[.slice Ao68 x5_1.length co68] rfl z1_ ?_;(with_reducible refine(spec_TreeOk.calls kj6 _ _ x5_1 false _ ?s1 ?s2 A63.out).mono ?_);(case s1=>exact z228_);(case s2=>exact(R_reads' HO_5.out).2.1);rintro e w69 ⟨rfl,hb⟩;refine⟨_,rfl,?_⟩;replace HO_5:=am_ (R_below z8_ hb);replace HK:=am_ (KeepBut.trans z2_ (KeepBut.of_below hb g none) (.inl rfl));replace HB:=am_ (below_step z4_ hb);replace HI0:=am_ (IsS86.below z3_ hb);(try clear hb))|((with_reducible refine gate_callee (f:=53) rfl ?_);refine goesL_ (some 76) rfl rfl Try.func53 y0_ rfl #[.pointer (some ⟨g,0,none⟩),.int .i64 8] rfl z1_ ?_;(with_reducible refine(spec_l3Tree.calls kj6 g s0_0 xB_1 xC_1 8 tgI tkK tkL w0 _ ?s1 ?s2 A67.out).mono ?_);(case s1=>exact z3_);(case s2=>exact z4_);rintro e w70 ⟨vlH,rfl,ho0,hi,hb,hk⟩;refine⟨_,rfl,?_⟩;have HOkM:=am_ (R_lower (R_new' ho0 (R_lt z8_)) (keep_size (w:=w) (g:=g) (row:=none) z2_));replace HO_5:=am_ (R_mono (R_told (R_oldK (IsS86.apart (y1_:IsS86 w0 _ g s0_0 xB_1 xC_1) z8_ (by decide)) hk) (R_base ho0)) (fun _ h_=>h_.1));replace HK:=am_ (KeepBut.trans z2_ hk (.inl rfl));replace HB:=am_ (hb);replace HI0:=am_ (hi);(try clear hb hk hi ho0)))
       go_ret;exact⟨_,z7_,by exact ur_ (R_mono HOkM.out (fun _ hk=>trivial)),z3_,z4_,z2_⟩

end Go.Proofs.Ytbmkobanpakohaa.PFnNear
