/- The walks of the law FnMedian. -/
import Derived.Test.YtbmkobanpakohaaMFnMedianx0
import Derived.Test.YtbmkobanpakohaaMFnMedianx3
import Derived.Test.YtbmkobanpakohaaMFnMedianx4
namespace Go.Proofs.Ytbmkobanpakohaa.PFnMedian
open Go.RowKit Go.Proofs.YtbmkobanpakohaaW.PrintWords Go.Proofs.YtbmkobanpakohaaW.PrintLast Go.Proofs.YtbmkobanpakohaaW.PrintMore
attribute [local go_sem] max2_int min2_int max_two min_two max_three min_three max_four min_four
set_option linter.unusedVariables false
set_option linter.unusedSimpArgs false

/-! ### spec_LeftLeaf: function 81 -/
mutual
def spec_LeftLeaf.l0:Nat→List (S61)→List Int→List Int→List Int→Int→Option (List Int)
 |0,_,_,_,_,_=>none
 |k+1,x0,x3,x4,x5,x6=>if x6<(x4.length:Int) then (if 0≤x6 then (spec_LeftLeaf.l1 k x0 x3 x4 x5 x6 (rd x4 x6)) else (none)) else (some x3)
def spec_LeftLeaf.l1:Nat→List (S61)→List Int→List Int→List Int→Int→Int→Option (List Int)
 |0,_,_,_,_,_,_=>none
 |k+1,x0,x3,x4,x5,x6,x7=>if 0≤x6 then (if x6<(x4.length:Int) then ((spec_EndOf.f k x0 (rd x4 x6)).bind fun t189=>(if (wrap64 (x7+1))<t189 then (if 0≤(wrap64 (x7+1)) then (if (wrap64 (x7+1))<(x0.length:Int) then (if 0≤x7 then (if x7<(x0.length:Int) then (if ((rd_T61 x0 (wrap64 (x7+1))).f1)=(wrap64 (((rd_T61 x0 x7).f1)+1)) then (spec_LeftLeaf.l1 k x0 x3 x4 x5 x6 (wrap64 (x7+1))) else (if x7<(x5.length:Int) then (if x3.length<17592186044416 then (spec_LeftLeaf.l0 k x0 (x3++[rd x5 x7]) x4 x5 (wrap64 (x6+1))) else (none)) else (none))) else (none)) else (none)) else (none)) else (none)) else (if 0≤x7 then (if x7<(x5.length:Int) then (if x3.length<17592186044416 then (spec_LeftLeaf.l0 k x0 (x3++[rd x5 x7]) x4 x5 (wrap64 (x6+1))) else (none)) else (none)) else (none)))) else (none)) else (none)
end
def spec_LeftLeaf.f (k:Nat) (l0:List (S61)):Option (List Int):=(spec_PostOrder.f k l0).bind fun t181=>((spec_RankOf.f k l0).bind fun t184=>(spec_LeftLeaf.l0 k l0 (([]:List Int)) t181 t184 0))
def spec_LeftLeaf.T8:Bool×List (List Nat×List Nat):=(true,[([],[]),([0],[0]),([],[]),([],[]),([],[]),([3,4],[3,4]),([5],[5]),([2,6],[2,6]),([1,7],[1,7]),([8,7],[8]),([9],[9]),([9],[9]),([11,9],[9,11]),([10,12,9],[9,10,12]),([13,9],[9,13]),([14,9],[9,14]),([9],[9]),([9],[9]),([16,17,9],[9,16,17]),([18,9],[9,18]),([19,9],[9,19]),([20,9],[9,20]),([15,21,9],[9,15,21]),([9,22],[9,22])])
def spec_LeftLeaf.B8:List Nat:=[0,1,0,0,0,24,56,124,255,511,1023,1023,3071,8191,16383,32767,1023,1023,197631,459775,984063,2032639,4194303,8388607]
theorem spec_LeftLeaf.tab8:rtab .any (opsOf Try.f81 8)=spec_LeftLeaf.T8:=by kernel_rfl
theorem spec_LeftLeaf.bits8:waitsOk spec_LeftLeaf.T8.2 spec_LeftLeaf.B8=true:=by kernel_rfl
set_option maxHeartbeats 8000000 in
set_option maxRecDepth 100000 in
theorem spec_LeftLeaf.calls (k:Nat) (A0:Option Addr) (c0:Nat) (l0:List (S61)) (r:List Int) (w:World) (hr0:Kd.C k61 w A0 l0.length l0) (hc0:l0.length≤c0) (h:spec_LeftLeaf.f k l0=some r):
  Calls Try.prog 81 #[.slice A0 l0.length c0] w fun e w'=>∃v0_:Value,e= .returned (v0_)∧Kd.R (Kd.int .i64) 3 w' w.heap.size (fun _=>True) v0_ r∧Below w.heap.size w w':=by
 have HR0:=Aside0.mk hr0;have HC0:=Aside0.mk hc0;clear hr0 hc0;have HB:=am_ (Below.refl w.heap.size w);have H:((spec_PostOrder.f k l0).bind fun t181=>((spec_RankOf.f k l0).bind fun t184=>(spec_LeftLeaf.l0 k l0 (([]:List Int)) t181 t184 0)))=some r:=h;clear h
 (generalize hy_:((([]:List Int)):List Int)=y178 at H;have Ny178:=Aside0.mk hy_.symm;clear hy_)
 obtain⟨t181,A2,H⟩:=bnd_ H;obtain⟨t184,A3,H⟩:=bnd_ H;have H':=Aside0.mk H;clear H;go_enter Try.func81,Try.ntmps81
 go_wp2_with (first|((with_reducible refine gate_dst (N:=8) rfl ?_);refine Kd.R_lit (Kd.int .i64) _ 3 ?hg (N:=8) ?hd (xs:=([]:List Int)) (inner:=[]) (ok:=fun _=>True) (okp:=fun _=>True) ?hr ?hp (fun _ hk=>hk) trivial (Below.refl _ _) (Nat.le_refl _) (by simp) ?_;(case hd=>rfl);(case hg=>rfl);(case hr=>exact z14_);(case hp=>exact z230_);intro v179 w4 ho5 hb hg_ hnew_;clear hg_ hnew_;(rw[←Ny178.out] at ho5);have HO180:=am_ (Kd.R_lower ho5 (below_size z0_));replace HB:=am_ (below_step z0_ hb);clear hb ho5)|((with_reducible refine gate_callee (f:=90) rfl ?_);refine goesL_ (some 10) rfl rfl Try.func90 y0_ rfl #[.slice A0 l0.length c0] rfl z1_ ?_;(with_reducible refine(spec_PostOrder.calls k _ _ l0 t181 _ ?side1 ?side2 A2.out).mono ?_);(case side1=>exact z6_);(case side2=>exact HC0.out);rintro e w6 ⟨v182,rfl,ho0,hb⟩;refine⟨_,rfl,?_⟩;have HO183:=am_ (Kd.R_lower (Kd.R_new' ho0 (Kd.R_lt z206_)) (below_size z0_));replace HO180:=am_ (Kd.R_elder' z206_ (Kd.R_base ho0) hb);replace HB:=am_ (below_step z0_ hb);(try clear hb ho0))|((with_reducible refine gate_callee (f:=91) rfl ?_);refine goesL_ (some 12) rfl rfl Try.func91 y0_ rfl #[.slice A0 l0.length c0] rfl z1_ ?_;(with_reducible refine(spec_RankOf.calls k _ _ l0 t184 _ ?side1 ?side2 A3.out).mono ?_);(case side1=>exact z6_);(case side2=>exact HC0.out);rintro e w7 ⟨v185,rfl,ho0,hb⟩;refine⟨_,rfl,?_⟩;have HO186:=am_ (Kd.R_lower (Kd.R_new' (Kd.R_new' ho0 (Kd.R_lt z206_)) (Kd.R_lt z284_)) (below_size z0_));replace HO180:=am_ (Kd.R_elder' z206_ (Kd.R_base ho0) hb);replace HO183:=am_ (Kd.R_elder' z284_ (Kd.R_base ho0) hb);replace HB:=am_ (below_step z0_ hb);(try clear hb ho0)))
 go_loopg [3,6] k (fun kq v3 v6 w'=>∃(x3_1:List Int) (x6_1:Int),v6= .int .i64 x6_1∧Aside0 (spec_LeftLeaf.l0 kq l0 x3_1 t181 t184 x6_1=some r)∧Aside0 (kq≤k)∧Aside0 (Kd.R (Kd.int .i64) 3 w' w.heap.size (fun k_=>some k_≠(v182:Value).ownBlock∧some k_≠(v185:Value).ownBlock) v3 x3_1)∧Aside0 (Kd.R (Kd.int .i64) 3 w' w.heap.size (fun k_=>some k_≠(v3:Value).ownBlock∧some k_≠(v185:Value).ownBlock) v182 t181)∧Aside0 (Kd.R (Kd.int .i64) 3 w' w.heap.size (fun k_=>some k_≠(v3:Value).ownBlock∧some k_≠(v182:Value).ownBlock) v185 t184)∧Aside0 (Below w.heap.size w w'))
 case atStart=>exact⟨(y178),(0),z9_,H',⟨Nat.le_refl _⟩,⟨by exact Kd.R_mono HO180.out (fun _ hk=>⟨hk.1.2,hk.2⟩)⟩,⟨by exact Kd.R_mono HO183.out (fun _ hk=>⟨hk.1.2,hk.2⟩)⟩,⟨by exact Kd.R_mono HO186.out (fun _ hk=>⟨hk.1.2,hk.2⟩)⟩,⟨z0_⟩⟩
 case round=>
  clear H';obtain⟨x3_1,x6_1,rfl,HA,HK1,HO_3,HO_4,HO_5,HB⟩:=hrel;cases gk with
  |zero=>exact absurd HA.out (by simp[spec_LeftLeaf.l0])
  | succ k1=>
   have H:=HA.out;clear HA;simp only[spec_LeftLeaf.l0] at H;by_cases c8:x6_1<(t181.length:Int)
   ·rw [if_pos c8] at H;have c8b0:=decide_eq_true c8;clear c8;obtain⟨c9b0,H⟩:=ifd_ H;have H':=Aside0.mk H;clear H;obtain⟨Ao10,co10,eo10⟩:=Kd.R_slice HO_4.out;subst eo10;have p187:0≤(x6_1:Int):=odt_;have q187:x6_1<(t181.length:Int):=odt_;obtain⟨ad187,e187,hx187_0⟩:=Kd.at_int (Kd.R_reads' HO_4.out).2.2 x6_1 p187 q187;cases e187;replace p187:=eq_true p187;replace q187:=eq_true q187;go_wp2
    go_loopg [7] k1 (fun kq v7 w'=>∃(x7_2:Int),v7= .int .i64 x7_2∧Aside0 (spec_LeftLeaf.l1 kq l0 x3_1 t181 t184 x6_1 x7_2=some r)∧Aside0 (kq≤k1)∧Aside0 (Kd.R (Kd.int .i64) 3 w' w.heap.size (fun k_=>some k_≠((.slice (some ad187) t181.length co10):Value).ownBlock∧some k_≠(v185:Value).ownBlock) u3 x3_1)∧Aside0 (Kd.R (Kd.int .i64) 3 w' w.heap.size (fun k_=>some k_≠(u3:Value).ownBlock∧some k_≠(v185:Value).ownBlock) (.slice (some ad187) t181.length co10) t181)∧Aside0 (Kd.R (Kd.int .i64) 3 w' w.heap.size (fun k_=>some k_≠(u3:Value).ownBlock∧some k_≠((.slice (some ad187) t181.length co10):Value).ownBlock) v185 t184)∧Aside0 (Below w.heap.size w w'))
    case atStart=>exact⟨(rd t181 x6_1),z9_,H',⟨Nat.le_refl _⟩,⟨z33_⟩,⟨z29_⟩,⟨z7_⟩,⟨z0_⟩⟩
    case round=>
     clear H';obtain⟨x7_2,rfl,HA,HK2,HO_3,HO_4,HO_5,HB⟩:=hrel;cases gk with
     |zero=>exact absurd HA.out (by simp[spec_LeftLeaf.l1])
     | succ k2=>
      have H:=HA.out;clear HA;simp only[spec_LeftLeaf.l1] at H;obtain⟨c11b0,H⟩:=ifd_ H;obtain⟨c12b0,H⟩:=ifd_ H;obtain⟨t189,A13,H⟩:=bnd_ H;by_cases c14:(wrap64 (x7_2+1))<t189
      ·rw[if_pos c14] at H;have c14b0:=decide_eq_true c14;clear c14;obtain⟨ji15,hji15⟩:∃j_:Int,(wrap64 (x7_2+1))=j_:=⟨_,rfl⟩
       rw[hji15] at H
       (try rw[hji15] at c14b0)
       have hji15w:(IntKind.i64.wrap (x7_2+1))=ji15:=(i64_w _).trans hji15;obtain⟨c16b0,H⟩:=ifd_ H;obtain⟨c17b0,H⟩:=ifd_ H;obtain⟨c18b0,H⟩:=ifd_ H;obtain⟨c19b0,H⟩:=ifd_ H;by_cases c20:((rd_T61 l0 (ji15)).f1)=(wrap64 (((rd_T61 l0 x7_2).f1)+1))
       ·rw[if_pos c20] at H;have c20b0:(((rd_T61 l0 (ji15)).f1)==(wrap64 (((rd_T61 l0 x7_2).f1)+1)))=true:=beq_iff_eq.mpr c20;have c20b1:(((rd_T61 l0 (ji15)).f1) != (wrap64 (((rd_T61 l0 x7_2).f1)+1)))=false:=bne_eq_false_iff_eq.mpr c20;clear c20;have H':=Aside0.mk H;clear H
        try go_wp2
        replace HO_3:=am_ (Kd.R_drew HO_3.out);replace HO_4:=am_ (Kd.R_drew HO_4.out);replace HO_5:=am_ (Kd.R_drew HO_5.out);replace HB:=am_ (below_drew1 HB.out);have p188:0≤(x6_1:Int):=odt_;have q188:x6_1<(t181.length:Int):=odt_;obtain⟨ad188,e188,hx188_0⟩:=Kd.at_int (Kd.R_reads' HO_4.out).2.2 x6_1 p188 q188;obtain rfl:ad187=ad188:=(by injection e188)
        replace p188:=eq_true p188;replace q188:=eq_true q188;obtain⟨p190,q190,ad190,e190,hw190_0,hw190_1,hx190_0,hx190_1⟩:=atw61_ HR0 HB (ji15);cases e190;obtain⟨p191,q191,ad191,e191,hw191_0,hw191_1,hx191_0,hx191_1⟩:=atw61_ HR0 HB x7_2;obtain rfl:ad190=ad191:=(by injection e191)
        refine start_ (n:=24) (S:=fun w'=>w'.cell? (ad187.add (x6_1).toNat)=some (.int .i64 (rd t181 x6_1))∧w'.cell? (ad190.add (((ji15)).toNat*2))=some (.int .i64 ((rd_T61 l0 (ji15)).f0))∧w'.cell? ⟨(ad190.add (((ji15)).toNat*2)).block,(ad190.add (((ji15)).toNat*2)).off+1,none⟩=some (.int .i64 ((rd_T61 l0 (ji15)).f1))∧w'.cell? (ad190.add ((x7_2).toNat*2))=some (.int .i64 ((rd_T61 l0 x7_2).f0))∧w'.cell? ⟨(ad190.add ((x7_2).toNat*2)).block,(ad190.add ((x7_2).toNat*2)).off+1,none⟩=some (.int .i64 ((rd_T61 l0 x7_2).f1))) (ds:=[]) (fl_ 24 0) y0_ rfl (fl_zero _) ⟨hx188_0,((HB.out.cell (World.block_lt_of_cell? w _ hw190_0)).trans hw190_0),((HB.out.cell (World.block_lt_of_cell? w _ hw190_1)).trans hw190_1),((HB.out.cell (World.block_lt_of_cell? w _ hw191_0)).trans hw191_0),((HB.out.cell (World.block_lt_of_cell? w _ hw191_1)).trans hw191_1)⟩ (fun hHeld=>?_);refine with_tabW spec_LeftLeaf.tab8 spec_LeftLeaf.bits8 (fun HT_ HW_=>?_);generalize wr.drew=w21 at HO_3 HO_4 HO_5 HB hx188_0 hx190_0 hx190_1 hx191_0 hx191_1 hHeld⊢
        iterate 6 refine yp_ HT_ ?_
        refine yt_ HT_ HW_ hHeld ?_ (hy:=z118_);refine one_ (i:=7) (N:=some 30) (fl_ 24 8) rfl rfl (one_of HT_.out y0_) (by decide) (fun K hK=>?_);refine goes_ Try.func60 y0_ rfl #[.slice (some ad190) l0.length c0,.int .i64 (rd t181 x6_1)] (by rfl) rfl rfl z1_ ?_
        with_reducible refine(spec_EndOf.calls k2 _ _ l0 (rd t181 x6_1) t189 _ ?side1 ?side2 A13.out).mono ?_
        (case side1=>exact z6_)
        (case side2=>exact HC0.out)
        rintro e w22 ⟨rfl,hb⟩;have HS0_:=(hb.cell (World.block_lt_of_cell? _ _ (hHeld.1))).trans (hHeld.1);refine⟨_,rfl,?_⟩;replace HO_3:=am_ (Kd.R_below z33_ hb);replace HO_4:=am_ (Kd.R_below z29_ hb);replace HO_5:=am_ (Kd.R_below z7_ hb);replace HB:=am_ (below_step z0_ hb)
        (try clear hb)
        refine hK.out _ _ ⟨HS0_,((HB.out.cell (World.block_lt_of_cell? w _ hw190_0)).trans hw190_0),((HB.out.cell (World.block_lt_of_cell? w _ hw190_1)).trans hw190_1),((HB.out.cell (World.block_lt_of_cell? w _ hw191_0)).trans hw191_0),((HB.out.cell (World.block_lt_of_cell? w _ hw191_1)).trans hw191_1)⟩ (fun hHeld=>?_);clear hK K;refine zn_ rfl ?_
        iterate 7 refine yp_ HT_ ?_
        refine ypg_ (i:=16) (ra_ [15,1,1,7]) HT_ ?_;refine ypg_ (i:=17) (ra_ [15,1,2,6]) HT_ ?_;refine ypg_ (i:=18) (ra_ [15,1,3,5]) HT_ ?_;refine ypg_ (i:=19) (ra_ [15,1,4,4]) HT_ ?_;refine ytg_ (i:=15) (fl_ 24 20) HT_ HW_ hHeld ?_ (hy:=z118_);refine yt_ HT_ HW_ hHeld ?_ (hy:=z118_)
        iterate 3 refine yp_ HT_ ?_
        refine done_ (done_of HT_.out y0_) ?_
        try go_wp2
        go_roundg k2
        case measure=>have:=HK1.out;have:=HK2.out;omega
        case rel=>exact⟨(ji15),(by rfl),H',⟨z101_⟩,⟨z33_⟩,⟨z29_⟩,⟨z7_⟩,⟨z0_⟩⟩
       ·rw[if_neg c20] at H;have c20b0:(((rd_T61 l0 (ji15)).f1)==(wrap64 (((rd_T61 l0 x7_2).f1)+1)))=false:=beq_eq_false_iff_ne.mpr c20;have c20b1:(((rd_T61 l0 (ji15)).f1) != (wrap64 (((rd_T61 l0 x7_2).f1)+1)))=true:=bne_iff_ne.mpr c20;obtain⟨c23b0,H⟩:=ifd_ H;obtain⟨c24,H⟩:=ifs_ H;have LMc24:=Aside0.mk c24;clear c24
        (generalize hy_:((x3_1++[rd t184 x7_2]):List Int)=y193 at H;have Ny193:=Aside0.mk hy_.symm;clear hy_)
        have H':=Aside0.mk H;clear H
        try go_wp2
        replace HO_3:=am_ (Kd.R_drew HO_3.out);replace HO_4:=am_ (Kd.R_drew HO_4.out);replace HO_5:=am_ (Kd.R_drew HO_5.out);replace HB:=am_ (below_drew1 HB.out);have p188:0≤(x6_1:Int):=odt_;have q188:x6_1<(t181.length:Int):=odt_;obtain⟨ad188,e188,hx188_0⟩:=Kd.at_int (Kd.R_reads' HO_4.out).2.2 x6_1 p188 q188;obtain rfl:ad187=ad188:=(by injection e188)
        replace p188:=eq_true p188;replace q188:=eq_true q188;obtain⟨p190,q190,ad190,e190,hw190_0,hw190_1,hx190_0,hx190_1⟩:=atw61_ HR0 HB (ji15);cases e190;obtain⟨p191,q191,ad191,e191,hw191_0,hw191_1,hx191_0,hx191_1⟩:=atw61_ HR0 HB x7_2;obtain rfl:ad190=ad191:=(by injection e191)
        refine start_ (n:=24) (S:=fun w'=>w'.cell? (ad187.add (x6_1).toNat)=some (.int .i64 (rd t181 x6_1))∧w'.cell? (ad190.add (((ji15)).toNat*2))=some (.int .i64 ((rd_T61 l0 (ji15)).f0))∧w'.cell? ⟨(ad190.add (((ji15)).toNat*2)).block,(ad190.add (((ji15)).toNat*2)).off+1,none⟩=some (.int .i64 ((rd_T61 l0 (ji15)).f1))∧w'.cell? (ad190.add ((x7_2).toNat*2))=some (.int .i64 ((rd_T61 l0 x7_2).f0))∧w'.cell? ⟨(ad190.add ((x7_2).toNat*2)).block,(ad190.add ((x7_2).toNat*2)).off+1,none⟩=some (.int .i64 ((rd_T61 l0 x7_2).f1))) (ds:=[]) (fl_ 24 0) y0_ rfl (fl_zero _) ⟨hx188_0,((HB.out.cell (World.block_lt_of_cell? w _ hw190_0)).trans hw190_0),((HB.out.cell (World.block_lt_of_cell? w _ hw190_1)).trans hw190_1),((HB.out.cell (World.block_lt_of_cell? w _ hw191_0)).trans hw191_0),((HB.out.cell (World.block_lt_of_cell? w _ hw191_1)).trans hw191_1)⟩ (fun hHeld=>?_);refine with_tabW spec_LeftLeaf.tab8 spec_LeftLeaf.bits8 (fun HT_ HW_=>?_);generalize wr.drew=w25 at HO_3 HO_4 HO_5 HB hx188_0 hx190_0 hx190_1 hx191_0 hx191_1 hHeld⊢
        iterate 6 refine yp_ HT_ ?_
        refine yt_ HT_ HW_ hHeld ?_ (hy:=z118_);refine one_ (i:=7) (N:=some 30) (fl_ 24 8) rfl rfl (one_of HT_.out y0_) (by decide) (fun K hK=>?_);refine goes_ Try.func60 y0_ rfl #[.slice (some ad190) l0.length c0,.int .i64 (rd t181 x6_1)] (by rfl) rfl rfl z1_ ?_
        with_reducible refine(spec_EndOf.calls k2 _ _ l0 (rd t181 x6_1) t189 _ ?side1 ?side2 A13.out).mono ?_
        (case side1=>exact z6_)
        (case side2=>exact HC0.out)
        rintro e w26 ⟨rfl,hb⟩;have HS0_:=(hb.cell (World.block_lt_of_cell? _ _ (hHeld.1))).trans (hHeld.1);refine⟨_,rfl,?_⟩;replace HO_3:=am_ (Kd.R_below z33_ hb);replace HO_4:=am_ (Kd.R_below z29_ hb);replace HO_5:=am_ (Kd.R_below z7_ hb);replace HB:=am_ (below_step z0_ hb)
        (try clear hb)
        refine hK.out _ _ ⟨HS0_,((HB.out.cell (World.block_lt_of_cell? w _ hw190_0)).trans hw190_0),((HB.out.cell (World.block_lt_of_cell? w _ hw190_1)).trans hw190_1),((HB.out.cell (World.block_lt_of_cell? w _ hw191_0)).trans hw191_0),((HB.out.cell (World.block_lt_of_cell? w _ hw191_1)).trans hw191_1)⟩ (fun hHeld=>?_);clear hK K;refine zn_ rfl ?_
        iterate 7 refine yp_ HT_ ?_
        refine ypg_ (i:=16) (ra_ [15,1,1,7]) HT_ ?_;refine ypg_ (i:=17) (ra_ [15,1,2,6]) HT_ ?_;refine ypg_ (i:=18) (ra_ [15,1,3,5]) HT_ ?_;refine ypg_ (i:=19) (ra_ [15,1,4,4]) HT_ ?_;refine ytg_ (i:=15) (fl_ 24 20) HT_ HW_ hHeld ?_ (hy:=z118_);refine yt_ HT_ HW_ hHeld ?_ (hy:=z118_)
        iterate 3 refine yp_ HT_ ?_
        refine done_ (done_of HT_.out y0_) ?_;obtain⟨Ao27,co27,eo27⟩:=Kd.R_slice HO_5.out;subst eo27;have p192:0≤(x7_2:Int):=odt_;have q192:x7_2<(t184.length:Int):=odt_;obtain⟨ad192,e192,hx192_0⟩:=Kd.at_int (Kd.R_reads' HO_5.out).2.2 x7_2 p192 q192;cases e192;replace p192:=eq_true p192;replace q192:=eq_true q192
        try go_wp2_with (((with_reducible refine gate_builtin (b:= .append) (xs:=#[.tmp 49,.tmp 54]) rfl ?_);at_builtin;refine Kd.R_append (Kd.int .i64) (w0:=w) w.heap.size rfl (.tmp 49) (.tmp 54) 30 3 (.int .i64 0) 8 rfl Try.underlying30 info3 rfl (by decide) (by omega) u3 x3_1 (rd t184 x7_2) [.int .i64 (rd t184 x7_2)] (fun k_=>some k_≠(.slice (some ad187) t181.length co10:Value).ownBlock∧some k_≠(.slice (some ad192) t184.length co27:Value).ownBlock) (fun _=>False) rfl rfl ?aP (fun _ hk=>hk.elim) ?aF ?aO ?aB ?aS ?aL ?_;(case aP=>exact rfl);(case aB=>exact z48_);(case aF=>exact z158_);(case aO=>exact z106_);(case aS=>exact z46_);(case aL=>have:=LMc24.out;omega);intro v194 w28 ho hb hg hat;rw[←Ny193.out] at ho;replace HO_4:=am_ (Kd.R_after (ok:=(fun k_=>some k_≠(.slice (some ad192) t184.length co27:Value).ownBlock)) z116_ hg hat);replace HO_5:=am_ (Kd.R_after (ok:=(fun k_=>some k_≠(.slice (some ad187) t181.length co10:Value).ownBlock)) z168_ hg hat);replace HB:=am_ (hb);have HO195:=am_ (ho);clear HO_3;clear ho hb hg hat))
        go_roundg k2
        case measure=>have:=HK1.out;have:=HK2.out;omega
        case rel=>exact⟨(y193),(wrap64 (x6_1+1)),z9_,H',⟨z101_⟩,⟨by exact HO195.out⟩,⟨z116_⟩,⟨z168_⟩,⟨z0_⟩⟩
      ·rw[if_neg c14] at H;have c14b0:=decide_eq_false c14;clear c14;obtain⟨c29b0,H⟩:=ifd_ H;obtain⟨c30b0,H⟩:=ifd_ H;obtain⟨c31,H⟩:=ifs_ H;have LMc31:=Aside0.mk c31;clear c31
       (generalize hy_:((x3_1++[rd t184 x7_2]):List Int)=y197 at H;have Ny197:=Aside0.mk hy_.symm;clear hy_)
       have H':=Aside0.mk H;clear H
       try go_wp2
       replace HO_3:=am_ (Kd.R_drew HO_3.out);replace HO_4:=am_ (Kd.R_drew HO_4.out);replace HO_5:=am_ (Kd.R_drew HO_5.out);replace HB:=am_ (below_drew1 HB.out);have p188:0≤(x6_1:Int):=odt_;have q188:x6_1<(t181.length:Int):=odt_;obtain⟨ad188,e188,hx188_0⟩:=Kd.at_int (Kd.R_reads' HO_4.out).2.2 x6_1 p188 q188;obtain rfl:ad187=ad188:=(by injection e188)
       replace p188:=eq_true p188;replace q188:=eq_true q188;refine start_ (n:=24) (S:=fun w'=>w'.cell? (ad187.add (x6_1).toNat)=some (.int .i64 (rd t181 x6_1))) (ds:=[]) (fl_ 24 0) y0_ rfl (fl_zero _) (hx188_0) (fun hHeld=>?_);refine with_tabW spec_LeftLeaf.tab8 spec_LeftLeaf.bits8 (fun HT_ HW_=>?_);generalize wr.drew=w32 at HO_3 HO_4 HO_5 HB hx188_0 hHeld⊢
       iterate 6 refine yp_ HT_ ?_
       refine zt_ HT_ HW_ rfl rfl y0_ (fun _ _ _ h=>h) (by rfl) hHeld ?_ (by intro w' s0;go_simp;with_reducible rfl);refine one_ (i:=7) (N:=some 30) (fl_ 24 8) rfl rfl (one_of HT_.out y0_) (by decide) (fun K hK=>?_);refine goes_ Try.func60 y0_ rfl #[.slice A0 l0.length c0,.int .i64 (rd t181 x6_1)] (by rfl) rfl rfl z1_ ?_
       with_reducible refine(spec_EndOf.calls k2 _ _ l0 (rd t181 x6_1) t189 _ ?side1 ?side2 A13.out).mono ?_
       (case side1=>exact z6_)
       (case side2=>exact HC0.out)
       rintro e w33 ⟨rfl,hb⟩;have HS0_:=(hb.cell (World.block_lt_of_cell? _ _ (hHeld))).trans (hHeld);refine⟨_,rfl,?_⟩;replace HO_3:=am_ (Kd.R_below z33_ hb);replace HO_4:=am_ (Kd.R_below z29_ hb);replace HO_5:=am_ (Kd.R_below z7_ hb);replace HB:=am_ (below_step z0_ hb)
       (try clear hb)
       refine hK.out _ _ (HS0_) (fun hHeld=>?_);clear hK K;refine zn_ rfl ?_
       iterate 2 refine yp_ HT_ ?_
       iterate 13 refine zu_ HT_ rfl rfl y0_ (fun _ _ _ h=>h) (by rfl) ?_
       refine yp_ HT_ ?_;refine done_ (done_of HT_.out y0_) ?_;obtain⟨Ao34,co34,eo34⟩:=Kd.R_slice HO_5.out;subst eo34;have p196:0≤(x7_2:Int):=odt_;have q196:x7_2<(t184.length:Int):=odt_;obtain⟨ad196,e196,hx196_0⟩:=Kd.at_int (Kd.R_reads' HO_5.out).2.2 x7_2 p196 q196;cases e196;replace p196:=eq_true p196;replace q196:=eq_true q196
       try go_wp2_with (((with_reducible refine gate_builtin (b:= .append) (xs:=#[.tmp 49,.tmp 54]) rfl ?_);at_builtin;refine Kd.R_append (Kd.int .i64) (w0:=w) w.heap.size rfl (.tmp 49) (.tmp 54) 30 3 (.int .i64 0) 8 rfl Try.underlying30 info3 rfl (by decide) (by omega) u3 x3_1 (rd t184 x7_2) [.int .i64 (rd t184 x7_2)] (fun k_=>some k_≠(.slice (some ad187) t181.length co10:Value).ownBlock∧some k_≠(.slice (some ad196) t184.length co34:Value).ownBlock) (fun _=>False) rfl rfl ?aP (fun _ hk=>hk.elim) ?aF ?aO ?aB ?aS ?aL ?_;(case aP=>exact rfl);(case aB=>exact z48_);(case aF=>exact z158_);(case aO=>exact z106_);(case aS=>exact z46_);(case aL=>have:=LMc31.out;omega);intro v198 w35 ho hb hg hat;rw[←Ny197.out] at ho;replace HO_4:=am_ (Kd.R_after (ok:=(fun k_=>some k_≠(.slice (some ad196) t184.length co34:Value).ownBlock)) z116_ hg hat);replace HO_5:=am_ (Kd.R_after (ok:=(fun k_=>some k_≠(.slice (some ad187) t181.length co10:Value).ownBlock)) z168_ hg hat);replace HB:=am_ (hb);have HO199:=am_ (ho);clear HO_3;clear ho hb hg hat))
       go_roundg k2
       case measure=>have:=HK1.out;have:=HK2.out;omega
       case rel=>exact⟨(y197),(wrap64 (x6_1+1)),z9_,H',⟨z101_⟩,⟨by exact HO199.out⟩,⟨z116_⟩,⟨z168_⟩,⟨z0_⟩⟩
   ·rw[if_neg c8] at H;have c8b0:=decide_eq_false c8;clear c8;obtain rfl:=Option.some.inj H;obtain⟨Ao36,co36,eo36⟩:=Kd.R_slice HO_4.out;subst eo36;go_wp2;go_ret;exact⟨_,z8_,z170_,z0_⟩

end Go.Proofs.Ytbmkobanpakohaa.PFnMedian
