/- Walks of functions of FnNear, laid anew out of the kit's print. -/
import Derived.Test.YtbmkobanpakohaaMFnNearx0
import Derived.Test.YtbmkobanpakohaaMFnNearx9
import Derived.Test.YtbmkobanpakohaaMFnNearx10
namespace Go.Proofs.Ytbmkobanpakohaa.PFnNear
open Go.RowKit Go.Proofs.YtbmkobanpakohaaW.PrintWords Go.Proofs.YtbmkobanpakohaaW.PrintLast Go.Proofs.YtbmkobanpakohaaW.PrintMore Go.Proofs.YtbmkobanpakohaaW.PrintWords.Kd Go.Proofs.YtbmkobanpakohaaW.PrintMore.Kd
set_option maxHeartbeats 8000000
set_option maxRecDepth 100000
attribute [local go_sem] max2_int min2_int max_two min_two max_three min_three max_four min_four
set_option linter.unusedVariables false
set_option linter.unusedSimpArgs false

/-! ### spec_LeftLeaf: function 81 -/
mutual
def spec_LeftLeaf.l0:Nat→List (S61)→List Int→List Int→List Int→Int→Option (List Int)
 |0,_,_,_,_,_=>none
 |k+1,x0,x3,x4,x5,x6=>if x6<(x4.length:Int) then (if 0≤x6 then (spec_LeftLeaf.l1 k x0 x3 x4 x5 x6 (rd x4 x6)) else (none)) else (some x3)
def spec_LeftLeaf.l1:Nat→List (S61)→List Int→List Int→List Int→Int→Int→Option (List Int)
 |0,_,_,_,_,_,_=>none
 |k+1,x0,x3,x4,x5,x6,x7=>if 0≤x6 then (if x6<(x4.length:Int) then ((spec_EndOf.f k x0 (rd x4 x6)).bind fun tf2=>(if (wrap64 (x7+1))<tf2 then (if 0≤(wrap64 (x7+1)) then (if (wrap64 (x7+1))<(x0.length:Int) then (if 0≤x7 then (if x7<(x0.length:Int) then (if ((rd_T61 x0 (wrap64 (x7+1))).f1)=(wrap64 (((rd_T61 x0 x7).f1)+1)) then (spec_LeftLeaf.l1 k x0 x3 x4 x5 x6 (wrap64 (x7+1))) else (if x7<(x5.length:Int) then (if x3.length<17592186044416 then (spec_LeftLeaf.l0 k x0 (x3++[rd x5 x7]) x4 x5 (wrap64 (x6+1))) else (none)) else (none))) else (none)) else (none)) else (none)) else (none)) else (if 0≤x7 then (if x7<(x5.length:Int) then (if x3.length<17592186044416 then (spec_LeftLeaf.l0 k x0 (x3++[rd x5 x7]) x4 x5 (wrap64 (x6+1))) else (none)) else (none)) else (none)))) else (none)) else (none)
end
def spec_LeftLeaf.f (k:Nat) (l0:List (S61)):Option (List Int):=(spec_PostOrder.f k l0).bind fun tbh=>((spec_RankOf.f k l0).bind fun tb1=>(spec_LeftLeaf.l0 k l0 (([]:List Int)) tbh tb1 0))
def spec_LeftLeaf.T8:Bool×List (List Nat×List Nat):=(true,[([],[]),([0],[0]),([],[]),([],[]),([],[]),([3,4],[3,4]),([5],[5]),([2,6],[2,6]),([1,7],[1,7]),([8,7],[8]),([9],[9]),([9],[9]),([11,9],[9,11]),([10,12,9],[9,10,12]),([13,9],[9,13]),([14,9],[9,14]),([9],[9]),([9],[9]),([16,17,9],[9,16,17]),([18,9],[9,18]),([19,9],[9,19]),([20,9],[9,20]),([15,21,9],[9,15,21]),([9,22],[9,22])])
def spec_LeftLeaf.B8:List Nat:=[0,1,0,0,0,24,56,124,255,511,1023,1023,3071,8191,16383,32767,1023,1023,197631,459775,984063,2032639,4194303,8388607]
theorem spec_LeftLeaf.tab8:rtab .any (opsOf Try.f81 8)=spec_LeftLeaf.T8:=by kernel_rfl
theorem spec_LeftLeaf.bits8:waitsOk spec_LeftLeaf.T8.2 spec_LeftLeaf.B8=true:=by kernel_rfl
theorem spec_LeftLeaf.calls (k:Nat) (A0:Option Addr) (c0:Nat) (l0:List (S61)) (r:List Int) (w:World) (hr0:Kd.C k61 w A0 l0.length l0) (hc0:l0.length≤c0) (h:spec_LeftLeaf.f k l0=some r):
  Calls Try.prog 81 #[.slice A0 l0.length c0] w fun e w'=>∃v0_:Value,e= .returned (v0_)∧RI_ w' w.heap.size (fun _=>True) v0_ r∧Below w.heap.size w w':=by
 have HR0:=am_ hr0;have HC0:=am_ hc0;clear hr0 hc0;have HB:=am_ (Below.refl w.heap.size w);have H:((spec_PostOrder.f k l0).bind fun tbh=>((spec_RankOf.f k l0).bind fun tb1=>(spec_LeftLeaf.l0 k l0 (([]:List Int)) tbh tb1 0)))=some r:=h;clear h
 (generalize hy_:((([]:List Int)):List Int)=yhT at H;have NyhT:=am_ hy_.symm;clear hy_)
 obtain⟨tbh,A2,H⟩:=bnd_ H;obtain⟨tb1,A3,H⟩:=bnd_ H;have H':=am_ H;clear H;go_enter Try.func81,Try.ntmps81
 go_wp2_with (first|((with_reducible refine gate_dst (N:=8) rfl ?_);refine R_lit (Kd.int .i64) _ 3 ?hg (N:=8) ?hd (xs:=([]:List Int)) (inner:=[]) (ok:=fun _=>True) (okp:=fun _=>True) ?hr ?hp (fun _ hk=>hk) trivial (Below.refl _ _) (Nat.le_refl _) (by simp) ?_;(case hd=>rfl);(case hg=>rfl);(case hr=>exact z14_);(case hp=>exact z276_);intro vll w4 ho5 hb hg_ hnew_;clear hg_ hnew_;(rw[←NyhT.out] at ho5);have HOha:=am_ (R_lower ho5 (below_size z0_));replace HB:=am_ (below_step z0_ hb);clear hb ho5)|((with_reducible refine gate_callee (f:=90) rfl ?_);refine goesL_ (some 10) rfl rfl Try.func90 y0_ rfl #[.slice A0 l0.length c0] rfl z1_ ?_;(with_reducible refine(spec_PostOrder.calls k _ _ l0 tbh _ ?s1 ?s2 A2.out).mono ?_);(case s1=>exact z6_);(case s2=>exact HC0.out);rintro e w6 ⟨vhU,rfl,ho0,hb⟩;refine⟨_,rfl,?_⟩;have HOhI:=am_ (R_lower (R_new' ho0 (R_lt z252_)) (below_size z0_));replace HOha:=am_ (R_elder' z252_ (R_base ho0) hb);replace HB:=am_ (below_step z0_ hb);(try clear hb ho0))|((with_reducible refine gate_callee (f:=91) rfl ?_);refine goesL_ (some 12) rfl rfl Try.func91 y0_ rfl #[.slice A0 l0.length c0] rfl z1_ ?_;(with_reducible refine(spec_RankOf.calls k _ _ l0 tb1 _ ?s1 ?s2 A3.out).mono ?_);(case s1=>exact z6_);(case s2=>exact HC0.out);rintro e w7 ⟨vf3,rfl,ho0,hb⟩;refine⟨_,rfl,?_⟩;have HOj8:=am_ (R_lower (R_new' (R_new' ho0 (R_lt z252_)) (R_lt z352_)) (below_size z0_));replace HOha:=am_ (R_elder' z252_ (R_base ho0) hb);replace HOhI:=am_ (R_elder' z352_ (R_base ho0) hb);replace HB:=am_ (below_step z0_ hb);(try clear hb ho0)))
 go_loopg [3,6] k (fun kq v3 v6 w'=>∃(x3_1:List Int) (x6_1:Int),v6= .int .i64 x6_1∧Aside0 (spec_LeftLeaf.l0 kq l0 x3_1 tbh tb1 x6_1=some r)∧Aside0 (kq≤k)∧Aside0 (RI_ w' w.heap.size (nb2_ vhU vf3) v3 x3_1)∧Aside0 (RI_ w' w.heap.size (nb2_ v3 vf3) vhU tbh)∧Aside0 (RI_ w' w.heap.size (nb2_ v3 vhU) vf3 tb1)∧Aside0 (Below w.heap.size w w'))
 case atStart=>exact⟨(yhT),(0),z9_,H',⟨Nat.le_refl _⟩,⟨by exact ur_ (R_mono HOha.out (fun _ hk=>⟨hk.1.2,hk.2⟩))⟩,⟨by exact ur_ (R_mono HOhI.out (fun _ hk=>⟨hk.1.2,hk.2⟩))⟩,⟨by exact ur_ (R_mono HOj8.out (fun _ hk=>⟨hk.1.2,hk.2⟩))⟩,⟨z0_⟩⟩
 case round=>
  clear H';obtain⟨x3_1,x6_1,rfl,HA,HK1,HO_3,HO_4,HO_5,HB⟩:=hrel;cases gk with
  |zero=>exact absurd HA.out (by simp[spec_LeftLeaf.l0])
  | succ k1=>
   have H:=HA.out;clear HA;simp only[spec_LeftLeaf.l0] at H;by_cases c8:x6_1<(tbh.length:Int)
   ·rw [if_pos c8] at H;have c8b0:=decide_eq_true c8;clear c8;obtain⟨c9b0,H⟩:=ifd_ H;have H':=am_ H;clear H;obtain⟨Ao10,co10,eo10⟩:=R_slice HO_4.out;subst eo10;have pbO:0≤(x6_1:Int):=odt_;have qbO:x6_1<(tbh.length:Int):=odt_;obtain⟨adbO,ebO,hxbO_0⟩:=at_int (R_reads' HO_4.out).2.2 x6_1 pbO qbO;cases ebO;replace pbO:=eq_true pbO;replace qbO:=eq_true qbO;go_wp2
    go_loopg [7] k1 (fun kq v7 w'=>∃(x7_2:Int),v7= .int .i64 x7_2∧Aside0 (spec_LeftLeaf.l1 kq l0 x3_1 tbh tb1 x6_1 x7_2=some r)∧Aside0 (kq≤k1)∧Aside0 (RI_ w' w.heap.size (nb2_ (.slice (some adbO) tbh.length co10) vf3) u3 x3_1)∧Aside0 (RI_ w' w.heap.size (nb2_ u3 vf3) (.slice (some adbO) tbh.length co10) tbh)∧Aside0 (RI_ w' w.heap.size (nb2_ u3 (.slice (some adbO) tbh.length co10)) vf3 tb1)∧Aside0 (Below w.heap.size w w'))
    case atStart=>exact⟨(rd tbh x6_1),z9_,H',⟨Nat.le_refl _⟩,⟨z40_⟩,⟨z27_⟩,⟨z8_⟩,⟨z0_⟩⟩
    case round=>
     clear H';obtain⟨x7_2,rfl,HA,HK2,HO_3,HO_4,HO_5,HB⟩:=hrel;cases gk with
     |zero=>exact absurd HA.out (by simp[spec_LeftLeaf.l1])
     | succ k2=>
      have H:=HA.out;clear HA;simp only[spec_LeftLeaf.l1] at H;obtain⟨c11b0,H⟩:=ifd_ H;obtain⟨c12b0,H⟩:=ifd_ H;obtain⟨tf2,A13,H⟩:=bnd_ H;by_cases c14:(wrap64 (x7_2+1))<tf2
      ·rw[if_pos c14] at H;have c14b0:=decide_eq_true c14;clear c14;obtain⟨ji15,hji15⟩:∃j_:Int,(wrap64 (x7_2+1))=j_:=⟨_,rfl⟩
       rw[hji15] at H
       (try rw[hji15] at c14b0)
       have hji15w:(IntKind.i64.wrap (x7_2+1))=ji15:=(i64_w _).trans hji15;obtain⟨c16b0,H⟩:=ifd_ H;obtain⟨c17b0,H⟩:=ifd_ H;obtain⟨c18b0,H⟩:=ifd_ H;obtain⟨c19b0,H⟩:=ifd_ H;by_cases c20:((rd_T61 l0 (ji15)).f1)=(wrap64 (((rd_T61 l0 x7_2).f1)+1))
       ·rw[if_pos c20] at H;have c20b0:(((rd_T61 l0 (ji15)).f1)==(wrap64 (((rd_T61 l0 x7_2).f1)+1)))=true:=beq_iff_eq.mpr c20;have c20b1:(((rd_T61 l0 (ji15)).f1) != (wrap64 (((rd_T61 l0 x7_2).f1)+1)))=false:=bne_eq_false_iff_eq.mpr c20;clear c20;have H':=am_ H;clear H
        try go_wp2
        replace HO_3:=am_ (R_drew HO_3.out);replace HO_4:=am_ (R_drew HO_4.out);replace HO_5:=am_ (R_drew HO_5.out);replace HB:=am_ (below_drew1 HB.out);have paG:0≤(x6_1:Int):=odt_;have qaG:x6_1<(tbh.length:Int):=odt_;obtain⟨adaG,eaG,hxaG_0⟩:=at_int (R_reads' HO_4.out).2.2 x6_1 paG qaG;obtain rfl:adbO=adaG:=(by injection eaG)
        replace paG:=eq_true paG;replace qaG:=eq_true qaG;obtain⟨pao,qao,adao,eao,hwao_0,hwao_1,hxao_0,hxao_1⟩:=atw61_ HR0 HB (ji15);cases eao;obtain⟨paT,qaT,adaT,eaT,hwaT_0,hwaT_1,hxaT_0,hxaT_1⟩:=atw61_ HR0 HB x7_2;obtain rfl:adao=adaT:=(by injection eaT)
        refine start_ (n:=24) (S:=fun w'=>w'.cell? (adbO.add (x6_1).toNat)=some (.int .i64 (rd tbh x6_1))∧w'.cell? (adao.add (((ji15)).toNat*2))=some (.int .i64 ((rd_T61 l0 (ji15)).f0))∧w'.cell? ⟨(adao.add (((ji15)).toNat*2)).block,(adao.add (((ji15)).toNat*2)).off+1,none⟩=some (.int .i64 ((rd_T61 l0 (ji15)).f1))∧w'.cell? (adao.add ((x7_2).toNat*2))=some (.int .i64 ((rd_T61 l0 x7_2).f0))∧w'.cell? ⟨(adao.add ((x7_2).toNat*2)).block,(adao.add ((x7_2).toNat*2)).off+1,none⟩=some (.int .i64 ((rd_T61 l0 x7_2).f1))) (ds:=[]) (fl_ 24 0) y0_ rfl (fl_zero _) ⟨hxaG_0,((HB.out.cell (bc_ w _ hwao_0)).trans hwao_0),((HB.out.cell (bc_ w _ hwao_1)).trans hwao_1),((HB.out.cell (bc_ w _ hwaT_0)).trans hwaT_0),((HB.out.cell (bc_ w _ hwaT_1)).trans hwaT_1)⟩ (fun hh=>?_);refine with_tabW spec_LeftLeaf.tab8 spec_LeftLeaf.bits8 (fun HT_ HW_=>?_);generalize wr.drew=w21 at HO_3 HO_4 HO_5 HB hxaG_0 hxao_0 hxao_1 hxaT_0 hxaT_1 hh⊢
        iterate 6 refine yp_ HT_ ?_
        refine yt_ HT_ HW_ hh ?_ (hy:=z277_);refine one_ (i:=7) (N:=some 30) (fl_ 24 8) rfl rfl (one_of HT_.out y0_) (by decide) (fun K hK=>?_);refine goes_ Try.func60 y0_ rfl #[.slice (some adao) l0.length c0,.int .i64 (rd tbh x6_1)] (by rfl) rfl rfl z1_ ?_
        with_reducible refine(spec_EndOf.calls k2 _ _ l0 (rd tbh x6_1) tf2 _ ?s1 ?s2 A13.out).mono ?_
        (case s1=>exact z6_)
        (case s2=>exact HC0.out)
        rintro e w22 ⟨rfl,hb⟩;have HS0_:=(hb.cell (bc_ _ _ (hh.1))).trans (hh.1);refine⟨_,rfl,?_⟩;replace HO_3:=am_ (R_below z40_ hb);replace HO_4:=am_ (R_below z27_ hb);replace HO_5:=am_ (R_below z8_ hb);replace HB:=am_ (below_step z0_ hb)
        (try clear hb)
        refine hK.out _ _ ⟨HS0_,((HB.out.cell (bc_ w _ hwao_0)).trans hwao_0),((HB.out.cell (bc_ w _ hwao_1)).trans hwao_1),((HB.out.cell (bc_ w _ hwaT_0)).trans hwaT_0),((HB.out.cell (bc_ w _ hwaT_1)).trans hwaT_1)⟩ (fun hh=>?_);clear hK K;refine zn_ rfl ?_
        iterate 7 refine yp_ HT_ ?_
        refine ypg_ (i:=16) (ra_ [15,1,1,7]) HT_ ?_;refine ypg_ (i:=17) (ra_ [15,1,2,6]) HT_ ?_;refine ypg_ (i:=18) (ra_ [15,1,3,5]) HT_ ?_;refine ypg_ (i:=19) (ra_ [15,1,4,4]) HT_ ?_;refine ytg_ (i:=15) (fl_ 24 20) HT_ HW_ hh ?_ (hy:=z277_);refine yt_ HT_ HW_ hh ?_ (hy:=z277_)
        iterate 3 refine yp_ HT_ ?_
        refine done_ (done_of HT_.out y0_) ?_
        try go_wp2
        go_roundg k2
        case measure=>have:=HK1.out;have:=HK2.out;omega
        case rel=>exact⟨(ji15),(by rfl),H',⟨z161_⟩,⟨z40_⟩,⟨z27_⟩,⟨z8_⟩,⟨z0_⟩⟩
       ·rw[if_neg c20] at H;have c20b0:(((rd_T61 l0 (ji15)).f1)==(wrap64 (((rd_T61 l0 x7_2).f1)+1)))=false:=beq_eq_false_iff_ne.mpr c20;have c20b1:(((rd_T61 l0 (ji15)).f1) != (wrap64 (((rd_T61 l0 x7_2).f1)+1)))=true:=bne_iff_ne.mpr c20;obtain⟨c23b0,H⟩:=ifd_ H;obtain⟨c24,H⟩:=ifs_ H;have LMc24:=am_ c24;clear c24
        (generalize hy_:((x3_1++[rd tb1 x7_2]):List Int)=yhV at H;have NyhV:=am_ hy_.symm;clear hy_)
        have H':=am_ H;clear H
        try go_wp2
        replace HO_3:=am_ (R_drew HO_3.out);replace HO_4:=am_ (R_drew HO_4.out);replace HO_5:=am_ (R_drew HO_5.out);replace HB:=am_ (below_drew1 HB.out);have paG:0≤(x6_1:Int):=odt_;have qaG:x6_1<(tbh.length:Int):=odt_;obtain⟨adaG,eaG,hxaG_0⟩:=at_int (R_reads' HO_4.out).2.2 x6_1 paG qaG;obtain rfl:adbO=adaG:=(by injection eaG)
        replace paG:=eq_true paG;replace qaG:=eq_true qaG;obtain⟨pao,qao,adao,eao,hwao_0,hwao_1,hxao_0,hxao_1⟩:=atw61_ HR0 HB (ji15);cases eao;obtain⟨paT,qaT,adaT,eaT,hwaT_0,hwaT_1,hxaT_0,hxaT_1⟩:=atw61_ HR0 HB x7_2;obtain rfl:adao=adaT:=(by injection eaT)
        refine start_ (n:=24) (S:=fun w'=>w'.cell? (adbO.add (x6_1).toNat)=some (.int .i64 (rd tbh x6_1))∧w'.cell? (adao.add (((ji15)).toNat*2))=some (.int .i64 ((rd_T61 l0 (ji15)).f0))∧w'.cell? ⟨(adao.add (((ji15)).toNat*2)).block,(adao.add (((ji15)).toNat*2)).off+1,none⟩=some (.int .i64 ((rd_T61 l0 (ji15)).f1))∧w'.cell? (adao.add ((x7_2).toNat*2))=some (.int .i64 ((rd_T61 l0 x7_2).f0))∧w'.cell? ⟨(adao.add ((x7_2).toNat*2)).block,(adao.add ((x7_2).toNat*2)).off+1,none⟩=some (.int .i64 ((rd_T61 l0 x7_2).f1))) (ds:=[]) (fl_ 24 0) y0_ rfl (fl_zero _) ⟨hxaG_0,((HB.out.cell (bc_ w _ hwao_0)).trans hwao_0),((HB.out.cell (bc_ w _ hwao_1)).trans hwao_1),((HB.out.cell (bc_ w _ hwaT_0)).trans hwaT_0),((HB.out.cell (bc_ w _ hwaT_1)).trans hwaT_1)⟩ (fun hh=>?_);refine with_tabW spec_LeftLeaf.tab8 spec_LeftLeaf.bits8 (fun HT_ HW_=>?_);generalize wr.drew=w25 at HO_3 HO_4 HO_5 HB hxaG_0 hxao_0 hxao_1 hxaT_0 hxaT_1 hh⊢
        iterate 6 refine yp_ HT_ ?_
        refine yt_ HT_ HW_ hh ?_ (hy:=z277_);refine one_ (i:=7) (N:=some 30) (fl_ 24 8) rfl rfl (one_of HT_.out y0_) (by decide) (fun K hK=>?_);refine goes_ Try.func60 y0_ rfl #[.slice (some adao) l0.length c0,.int .i64 (rd tbh x6_1)] (by rfl) rfl rfl z1_ ?_
        with_reducible refine(spec_EndOf.calls k2 _ _ l0 (rd tbh x6_1) tf2 _ ?s1 ?s2 A13.out).mono ?_
        (case s1=>exact z6_)
        (case s2=>exact HC0.out)
        rintro e w26 ⟨rfl,hb⟩;have HS0_:=(hb.cell (bc_ _ _ (hh.1))).trans (hh.1);refine⟨_,rfl,?_⟩;replace HO_3:=am_ (R_below z40_ hb);replace HO_4:=am_ (R_below z27_ hb);replace HO_5:=am_ (R_below z8_ hb);replace HB:=am_ (below_step z0_ hb)
        (try clear hb)
        refine hK.out _ _ ⟨HS0_,((HB.out.cell (bc_ w _ hwao_0)).trans hwao_0),((HB.out.cell (bc_ w _ hwao_1)).trans hwao_1),((HB.out.cell (bc_ w _ hwaT_0)).trans hwaT_0),((HB.out.cell (bc_ w _ hwaT_1)).trans hwaT_1)⟩ (fun hh=>?_);clear hK K;refine zn_ rfl ?_
        iterate 7 refine yp_ HT_ ?_
        refine ypg_ (i:=16) (ra_ [15,1,1,7]) HT_ ?_;refine ypg_ (i:=17) (ra_ [15,1,2,6]) HT_ ?_;refine ypg_ (i:=18) (ra_ [15,1,3,5]) HT_ ?_;refine ypg_ (i:=19) (ra_ [15,1,4,4]) HT_ ?_;refine ytg_ (i:=15) (fl_ 24 20) HT_ HW_ hh ?_ (hy:=z277_);refine yt_ HT_ HW_ hh ?_ (hy:=z277_)
        iterate 3 refine yp_ HT_ ?_
        refine done_ (done_of HT_.out y0_) ?_;obtain⟨Ao27,co27,eo27⟩:=R_slice HO_5.out;subst eo27;have pdP:0≤(x7_2:Int):=odt_;have qdP:x7_2<(tb1.length:Int):=odt_;obtain⟨addP,edP,hxdP_0⟩:=at_int (R_reads' HO_5.out).2.2 x7_2 pdP qdP;cases edP;replace pdP:=eq_true pdP;replace qdP:=eq_true qdP
        try go_wp2_with (((with_reducible refine gate_builtin (b:= .append) (xs:=#[.tmp 49,.tmp 54]) rfl ?_);at_builtin;refine R_append (Kd.int .i64) (w0:=w) w.heap.size rfl (.tmp 49) (.tmp 54) 30 3 (.int .i64 0) 8 rfl Try.underlying30 info3 rfl (by decide) (by omega) u3 x3_1 (rd tb1 x7_2) [.int .i64 (rd tb1 x7_2)] (nb2_ (.slice (some adbO) tbh.length co10) (.slice (some addP) tb1.length co27)) (fun _=>False) rfl rfl ?aP (fun _ hk=>hk.elim) ?aF ?aO ?aB ?aS ?aL ?_;(case aP=>exact rfl);(case aB=>exact z60_);(case aF=>exact z195_);(case aO=>exact z131_);(case aS=>exact z55_);(case aL=>have:=LMc24.out;omega);intro vlm w28 ho hb hg hat;rw[←NyhV.out] at ho;replace HO_4:=am_ (R_after (ok:=(nb1_ (.slice (some addP) tb1.length co27))) z144_ hg hat);replace HO_5:=am_ (R_after (ok:=(nb1_ (.slice (some adbO) tbh.length co10))) z201_ hg hat);replace HB:=am_ (hb);have HOj9:=am_ (ho);clear HO_3;clear ho hb hg hat))
        go_roundg k2
        case measure=>have:=HK1.out;have:=HK2.out;omega
        case rel=>exact⟨(yhV),(wrap64 (x6_1+1)),z9_,H',⟨z161_⟩,⟨by exact ur_ HOj9.out⟩,⟨z144_⟩,⟨z201_⟩,⟨z0_⟩⟩
      ·rw[if_neg c14] at H;have c14b0:=decide_eq_false c14;clear c14;obtain⟨c29b0,H⟩:=ifd_ H;obtain⟨c30b0,H⟩:=ifd_ H;obtain⟨c31,H⟩:=ifs_ H;have LMc31:=am_ c31;clear c31
       (generalize hy_:((x3_1++[rd tb1 x7_2]):List Int)=yhW at H;have NyhW:=am_ hy_.symm;clear hy_)
       have H':=am_ H;clear H
       try go_wp2
       replace HO_3:=am_ (R_drew HO_3.out);replace HO_4:=am_ (R_drew HO_4.out);replace HO_5:=am_ (R_drew HO_5.out);replace HB:=am_ (below_drew1 HB.out);have paG:0≤(x6_1:Int):=odt_;have qaG:x6_1<(tbh.length:Int):=odt_;obtain⟨adaG,eaG,hxaG_0⟩:=at_int (R_reads' HO_4.out).2.2 x6_1 paG qaG;obtain rfl:adbO=adaG:=(by injection eaG)
       replace paG:=eq_true paG;replace qaG:=eq_true qaG;refine start_ (n:=24) (S:=fun w'=>w'.cell? (adbO.add (x6_1).toNat)=some (.int .i64 (rd tbh x6_1))) (ds:=[]) (fl_ 24 0) y0_ rfl (fl_zero _) (hxaG_0) (fun hh=>?_);refine with_tabW spec_LeftLeaf.tab8 spec_LeftLeaf.bits8 (fun HT_ HW_=>?_);generalize wr.drew=w32 at HO_3 HO_4 HO_5 HB hxaG_0 hh⊢
       iterate 6 refine yp_ HT_ ?_
       refine zt_ HT_ HW_ rfl rfl y0_ (fun _ _ _ h=>h) (by rfl) hh ?_ (by intro w' s0;go_simp;with_reducible rfl);refine one_ (i:=7) (N:=some 30) (fl_ 24 8) rfl rfl (one_of HT_.out y0_) (by decide) (fun K hK=>?_);refine goes_ Try.func60 y0_ rfl #[.slice A0 l0.length c0,.int .i64 (rd tbh x6_1)] (by rfl) rfl rfl z1_ ?_
       with_reducible refine(spec_EndOf.calls k2 _ _ l0 (rd tbh x6_1) tf2 _ ?s1 ?s2 A13.out).mono ?_
       (case s1=>exact z6_)
       (case s2=>exact HC0.out)
       rintro e w33 ⟨rfl,hb⟩;have HS0_:=(hb.cell (bc_ _ _ (hh))).trans (hh);refine⟨_,rfl,?_⟩;replace HO_3:=am_ (R_below z40_ hb);replace HO_4:=am_ (R_below z27_ hb);replace HO_5:=am_ (R_below z8_ hb);replace HB:=am_ (below_step z0_ hb)
       (try clear hb)
       refine hK.out _ _ (HS0_) (fun hh=>?_);clear hK K;refine zn_ rfl ?_
       iterate 2 refine yp_ HT_ ?_
       iterate 13 refine zu_ HT_ rfl rfl y0_ (fun _ _ _ h=>h) (by rfl) ?_
       refine yp_ HT_ ?_;refine done_ (done_of HT_.out y0_) ?_;obtain⟨Ao34,co34,eo34⟩:=R_slice HO_5.out;subst eo34;have pdQ:0≤(x7_2:Int):=odt_;have qdQ:x7_2<(tb1.length:Int):=odt_;obtain⟨addQ,edQ,hxdQ_0⟩:=at_int (R_reads' HO_5.out).2.2 x7_2 pdQ qdQ;cases edQ;replace pdQ:=eq_true pdQ;replace qdQ:=eq_true qdQ
       try go_wp2_with (((with_reducible refine gate_builtin (b:= .append) (xs:=#[.tmp 49,.tmp 54]) rfl ?_);at_builtin;refine R_append (Kd.int .i64) (w0:=w) w.heap.size rfl (.tmp 49) (.tmp 54) 30 3 (.int .i64 0) 8 rfl Try.underlying30 info3 rfl (by decide) (by omega) u3 x3_1 (rd tb1 x7_2) [.int .i64 (rd tb1 x7_2)] (nb2_ (.slice (some adbO) tbh.length co10) (.slice (some addQ) tb1.length co34)) (fun _=>False) rfl rfl ?aP (fun _ hk=>hk.elim) ?aF ?aO ?aB ?aS ?aL ?_;(case aP=>exact rfl);(case aB=>exact z60_);(case aF=>exact z195_);(case aO=>exact z131_);(case aS=>exact z55_);(case aL=>have:=LMc31.out;omega);intro vln w35 ho hb hg hat;rw[←NyhW.out] at ho;replace HO_4:=am_ (R_after (ok:=(nb1_ (.slice (some addQ) tb1.length co34))) z144_ hg hat);replace HO_5:=am_ (R_after (ok:=(nb1_ (.slice (some adbO) tbh.length co10))) z201_ hg hat);replace HB:=am_ (hb);have HOka:=am_ (ho);clear HO_3;clear ho hb hg hat))
       go_roundg k2
       case measure=>have:=HK1.out;have:=HK2.out;omega
       case rel=>exact⟨(yhW),(wrap64 (x6_1+1)),z9_,H',⟨z161_⟩,⟨by exact ur_ HOka.out⟩,⟨z144_⟩,⟨z201_⟩,⟨z0_⟩⟩
   ·rw[if_neg c8] at H;have c8b0:=decide_eq_false c8;clear c8;obtain rfl:=Option.some.inj H;obtain⟨Ao36,co36,eo36⟩:=R_slice HO_4.out;subst eo36;go_wp2;go_ret;exact⟨_,z7_,z203_,z0_⟩

end Go.Proofs.Ytbmkobanpakohaa.PFnNear
