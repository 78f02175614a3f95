/- The walks of the law FnMedian. -/
import Derived.Test.YtbmkobanpakohaaMFnMedianx0
import Derived.Test.YtbmkobanpakohaaMFnMedianx9
namespace Go.Proofs.Ytbmkobanpakohaa.PFnMedian
open Go.RowKit Go.Proofs.YtbmkobanpakohaaW.PrintWords Go.Proofs.YtbmkobanpakohaaW.PrintLast Go.Proofs.YtbmkobanpakohaaW.PrintMore
attribute [local go_sem] max2_int min2_int max_two min_two max_three min_three max_four min_four
set_option linter.unusedVariables false
set_option linter.unusedSimpArgs false

/-! ### spec_Median: function 22 -/
mutual
def spec_Median.l0:Nat→List (List (S61))→Int→Int→Int→List Int→List Int→List Int→Option (Int)
 |0,_,_,_,_,_,_,_=>none
 |k+1,x0,x5,x6,x7,x314000,x314001,x314002=>if x7<(x0.length:Int) then (spec_Median.l1 k x0 x5 x6 x7 0 0 x314000 x314001 x314002) else (some x5)
def spec_Median.l1:Nat→List (List (S61))→Int→Int→Int→Int→Int→List Int→List Int→List Int→Option (Int)
 |0,_,_,_,_,_,_,_,_,_=>none
 |k+1,x0,x5,x6,x7,x8,x9,x314000,x314001,x314002=>if x9<(x0.length:Int) then (if 0≤x7 then (if x7<(x0.length:Int) then (if 0≤x9 then ((spec_RootDist.f k (rd_L2 x0 x7) (rd_L2 x0 x9) x314000 x314001 x314002).bind fun t316=>(if t316<0 then (some (-1)) else (spec_Median.l1 k x0 x5 x6 x7 (wrap64 (x8+t316)) (wrap64 (x9+1)) x314000 x314001 x314002))) else (none)) else (none)) else (none)) else (if x5<0 then (spec_Median.l0 k x0 x7 x8 (wrap64 (x7+1)) x314000 x314001 x314002) else (if x8<x6 then (spec_Median.l0 k x0 x7 x8 (wrap64 (x7+1)) x314000 x314001 x314002) else (spec_Median.l0 k x0 x5 x6 (wrap64 (x7+1)) x314000 x314001 x314002)))
end
def spec_Median.f (k:Nat) (l0:List (List (S61))) (l1_0:List Int) (l1_1:List Int) (l1_2:List Int):Option (Int):=spec_Median.l0 k l0 (-1) 0 0 l1_0 l1_1 l1_2
def spec_Median.T10:Bool×List (List Nat×List Nat):=(true,[([],[]),([],[]),([0,1],[0,1]),([2],[2]),([],[]),([],[]),([4,5],[4,5]),([6],[6]),([],[]),([3,7,8],[3,7,8]),([9,9,0,1,2,3,4,5,6,7,8,9],[9])])
def spec_Median.B10:List Nat:=[0,0,3,7,0,0,48,112,0,511,1023]
theorem spec_Median.tab10:rtab .any (opsOf Try.f22 10)=spec_Median.T10:=by kernel_rfl
theorem spec_Median.bits10:waitsOk spec_Median.T10.2 spec_Median.B10=true:=by kernel_rfl
set_option maxHeartbeats 8000000 in
set_option maxRecDepth 100000 in
theorem spec_Median.calls (k:Nat) (A0:Option Addr) (c0:Nat) (l0:List (List (S61))) (A1_0:Option Addr) (c1_0:Nat) (l1_0:List Int) (A1_1:Option Addr) (c1_1:Nat) (l1_1:List Int) (A1_2:Option Addr) (c1_2:Nat) (l1_2:List Int) (r:Int) (w:World) (hr0:Kd.C (Kd.slice 61 k61) w A0 l0.length l0) (hc0:l0.length≤c0) (hr1_0:Kd.C (Kd.int .i64) w A1_0 l1_0.length l1_0) (hc1_0:l1_0.length≤c1_0) (hr1_1:Kd.C (Kd.int .i64) w A1_1 l1_1.length l1_1) (hc1_1:l1_1.length≤c1_1) (hr1_2:Kd.C (Kd.int .i64) w A1_2 l1_2.length l1_2) (hc1_2:l1_2.length≤c1_2) (h:spec_Median.f k l0 l1_0 l1_1 l1_2=some r):
  Calls Try.prog 22 #[.slice A0 l0.length c0,.agg #[.slice A1_0 l1_0.length c1_0,.slice A1_1 l1_1.length c1_1,.slice A1_2 l1_2.length c1_2]] w fun e w'=>e= .returned (.int .i64 r)∧Below w.heap.size w w':=by
 have hu38:=Try.underlying38;have HR0:=Aside0.mk hr0;have HC0:=Aside0.mk hc0;clear hr0 hc0;have HR1_0:=Aside0.mk hr1_0;have HC1_0:=Aside0.mk hc1_0;clear hr1_0 hc1_0;have HR1_1:=Aside0.mk hr1_1;have HC1_1:=Aside0.mk hc1_1;clear hr1_1 hc1_1;have HR1_2:=Aside0.mk hr1_2;have HC1_2:=Aside0.mk hc1_2;clear hr1_2 hc1_2;have HB:=am_ (Below.refl w.heap.size w);have H:(spec_Median.l0 k l0 (-1) 0 0 l1_0 l1_1 l1_2)=some r:=h;clear h;have H':=Aside0.mk H;clear H;go_enter Try.func22,Try.ntmps22
 go_wp2_with (((with_reducible refine gate_dst (N:=3) rfl ?_);refine box_event ?hg (N:=3) ?hd (cs:=#[.slice A1_0 l1_0.length c1_0,.slice A1_1 l1_1.length c1_1,.slice A1_2 l1_2.length c1_2]) (t:=38) ?hr ?_;(case hd=>rfl);(case hg=>rfl);(case hr=>exact z14_);intro gb313 hg w3 hbox hb;have BK313:=am_ (hbox);have GW313:=am_ ((by rw[hg];exact(below_size z0_):w.heap.size≤gb313));have GE313:=am_ ((by rw[hg];exact(below_size z0_):w.heap.size≤gb313));replace HB:=am_ (below_step z0_ hb);clear hb hbox hg))
 go_loopg [5,6,7] k (fun kq v5 v6 v7 w'=>∃(x5_1:Int) (x6_1:Int) (x7_1:Int),v5= .int .i64 x5_1∧v6= .int .i64 x6_1∧v7= .int .i64 x7_1∧Aside0 (spec_Median.l0 kq l0 x5_1 x6_1 x7_1 l1_0 l1_1 l1_2=some r)∧Aside0 (kq≤k)∧Aside0 (w'.heap[gb313]? =some (.cells #[(.slice A1_0 l1_0.length c1_0),(.slice A1_1 l1_1.length c1_1),(.slice A1_2 l1_2.length c1_2)] 38 (0,0)))∧Aside0 (Below w.heap.size w w'))
 case atStart=>exact⟨((-1)),(0),(0),z9_,z9_,z9_,H',⟨Nat.le_refl _⟩,⟨z102_⟩,⟨z57_⟩⟩
 case round=>
  clear H';obtain⟨x5_1,x6_1,x7_1,rfl,rfl,rfl,HA,HK1,BK313,HB⟩:=hrel;cases gk with
  |zero=>exact absurd HA.out (by simp[spec_Median.l0])
  | succ k1=>
   have H:=HA.out;clear HA;simp only[spec_Median.l0] at H;by_cases c4:x7_1<(l0.length:Int)
   ·rw [if_pos c4] at H;have c4b0:=decide_eq_true c4;clear c4;have H':=Aside0.mk H;clear H;go_wp2
    go_loopg [8,9] k1 (fun kq v8 v9 w'=>∃(x8_2:Int) (x9_2:Int),v8= .int .i64 x8_2∧v9= .int .i64 x9_2∧Aside0 (spec_Median.l1 kq l0 x5_1 x6_1 x7_1 x8_2 x9_2 l1_0 l1_1 l1_2=some r)∧Aside0 (kq≤k1)∧Aside0 (w'.heap[gb313]? =some (.cells #[(.slice A1_0 l1_0.length c1_0),(.slice A1_1 l1_1.length c1_1),(.slice A1_2 l1_2.length c1_2)] 38 (0,0)))∧Aside0 (Below w.heap.size w w'))
    case atStart=>exact⟨(0),(0),z9_,z9_,H',⟨Nat.le_refl _⟩,⟨z102_⟩,⟨z57_⟩⟩
    case round=>
     clear H';obtain⟨x8_2,x9_2,rfl,rfl,HA,HK2,BK313,HB⟩:=hrel;cases gk with
     |zero=>exact absurd HA.out (by simp[spec_Median.l1])
     | succ k2=>
      have H:=HA.out;clear HA;simp only[spec_Median.l1] at H;by_cases c5:x9_2<(l0.length:Int)
      ·rw[if_pos c5] at H;have c5b0:=decide_eq_true c5;clear c5;obtain⟨c6b0,H⟩:=ifd_ H;obtain⟨c7b0,H⟩:=ifd_ H;obtain⟨c8b0,H⟩:=ifd_ H;obtain⟨t316,A9,H⟩:=bnd_ H;by_cases c10:t316<0
       ·rw[if_pos c10] at H;have c10b0:=decide_eq_true c10;clear c10;obtain rfl:=Option.some.inj H
        try go_wp2
        replace BK313:=am_ (blk_drew BK313.out);replace HB:=am_ (below_drew1 HB.out);have p314:0≤(x7_1:Int):=odt_;have q314:x7_1<(l0.length:Int):=odt_;obtain⟨ad314,A314_0,c314_0,e314,hx314_0,hl314_0,hi314_0⟩:=at_L2 HR0.out x7_1 p314 q314;have hw314_0:=hx314_0;cases e314;replace hx314_0:=(HB.out.cell (World.block_lt_of_cell? w _ hx314_0)).trans hx314_0;have HR314_0:=Aside0.mk hi314_0;have HC314_0:=Aside0.mk hl314_0;clear hi314_0 hl314_0;replace p314:=eq_true p314;replace q314:=eq_true q314;have p315:0≤(x9_2:Int):=odt_;have q315:x9_2<(l0.length:Int):=odt_;obtain⟨ad315,A315_0,c315_0,e315,hx315_0,hl315_0,hi315_0⟩:=at_L2 HR0.out x9_2 p315 q315;have hw315_0:=hx315_0;obtain rfl:ad314=ad315:=(by injection e315)
        replace hx315_0:=(HB.out.cell (World.block_lt_of_cell? w _ hx315_0)).trans hx315_0;have HR315_0:=Aside0.mk hi315_0;have HC315_0:=Aside0.mk hl315_0;clear hi315_0 hl315_0;replace p315:=eq_true p315;replace q315:=eq_true q315;refine start_ (n:=11) (S:=fun w'=>w'.cell? ⟨gb313,0,none⟩=some (.slice A1_0 l1_0.length c1_0)∧w'.cell? ⟨gb313,1,none⟩=some (.slice A1_1 l1_1.length c1_1)∧w'.cell? ⟨gb313,2,none⟩=some (.slice A1_2 l1_2.length c1_2)∧w'.cell? (ad314.add (x7_1).toNat)=some (.slice A314_0 (rd_L2 l0 x7_1).length c314_0)∧w'.cell? (ad314.add (x9_2).toNat)=some (.slice A315_0 (rd_L2 l0 x9_2).length c315_0)) (ds:=[]) (fl_ 11 0) y0_ rfl (fl_zero _) ⟨(blk_cell BK313.out 0).trans rfl,(blk_cell BK313.out 1).trans rfl,(blk_cell BK313.out 2).trans rfl,((HB.out.cell (World.block_lt_of_cell? w _ hw314_0)).trans hw314_0),((HB.out.cell (World.block_lt_of_cell? w _ hw315_0)).trans hw315_0)⟩ (fun hHeld=>?_);refine with_tabW spec_Median.tab10 spec_Median.bits10 (fun HT_ HW_=>?_);generalize wr.drew=w11 at BK313 HB HR314_0 HR315_0 hx314_0 hx315_0 hHeld⊢
        iterate 3 refine yp_ HT_ ?_
        refine ypg_ (i:=4) (ra_ [3,1,1,6]) HT_ ?_;refine ypg_ (i:=5) (ra_ [3,1,2,5]) HT_ ?_;refine ypg_ (i:=6) (ra_ [3,1,3,4]) HT_ ?_;refine ytg_ (i:=3) (fl_ 11 7) HT_ HW_ hHeld ?_ (hy:=z118_)
        iterate 2 refine yt_ HT_ HW_ hHeld ?_ (hy:=z118_)
        refine one_ (i:=9) (N:=some 32) (fl_ 11 10) rfl rfl (one_of HT_.out y0_) (by decide) (fun K hK=>?_);refine goes_ Try.func37 y0_ rfl #[.slice A314_0 (rd_L2 l0 x7_1).length c314_0,.slice A315_0 (rd_L2 l0 x9_2).length c315_0,.agg #[.slice A1_0 l1_0.length c1_0,.slice A1_1 l1_1.length c1_1,.slice A1_2 l1_2.length c1_2]] (by rfl) rfl rfl z1_ ?_
        with_reducible refine(spec_RootDist.calls k2 _ _ (rd_L2 l0 x7_1) _ _ (rd_L2 l0 x9_2) _ _ l1_0 _ _ l1_1 _ _ l1_2 t316 _ ?side1 ?side2 ?side3 ?side4 ?side5 ?side6 ?side7 ?side8 ?side9 ?side10 A9.out).mono ?_
        (case side1=>exact z231_)
        (case side2=>exact HC314_0.out)
        (case side3=>exact z232_)
        (case side4=>exact HC315_0.out)
        (case side5=>exact z141_)
        (case side6=>exact HC1_0.out)
        (case side7=>exact z142_)
        (case side8=>exact HC1_1.out)
        (case side9=>exact z143_)
        (case side10=>exact HC1_2.out)
        rintro e w12 ⟨rfl,hb⟩;refine⟨_,rfl,?_⟩;replace BK313:=am_ (blk_below z102_ hb);replace HB:=am_ (below_step z57_ hb)
        (try clear hb)
        refine hK.out _ _ ⟨(blk_cell BK313.out 0).trans rfl,(blk_cell BK313.out 1).trans rfl,(blk_cell BK313.out 2).trans rfl,((HB.out.cell (World.block_lt_of_cell? w _ hw314_0)).trans hw314_0),((HB.out.cell (World.block_lt_of_cell? w _ hw315_0)).trans hw315_0)⟩ (fun hHeld=>?_);clear hK K;refine zn_ rfl ?_;refine yp_ HT_ ?_;refine done_ (done_of HT_.out y0_) ?_
        try go_wp2
        go_ret;exact⟨z8_,z57_⟩
       ·rw[if_neg c10] at H;have c10b0:=decide_eq_false c10;clear c10;have H':=Aside0.mk H;clear H
        try go_wp2
        replace BK313:=am_ (blk_drew BK313.out);replace HB:=am_ (below_drew1 HB.out);have p314:0≤(x7_1:Int):=odt_;have q314:x7_1<(l0.length:Int):=odt_;obtain⟨ad314,A314_0,c314_0,e314,hx314_0,hl314_0,hi314_0⟩:=at_L2 HR0.out x7_1 p314 q314;have hw314_0:=hx314_0;cases e314;replace hx314_0:=(HB.out.cell (World.block_lt_of_cell? w _ hx314_0)).trans hx314_0;have HR314_0:=Aside0.mk hi314_0;have HC314_0:=Aside0.mk hl314_0;clear hi314_0 hl314_0;replace p314:=eq_true p314;replace q314:=eq_true q314;have p315:0≤(x9_2:Int):=odt_;have q315:x9_2<(l0.length:Int):=odt_;obtain⟨ad315,A315_0,c315_0,e315,hx315_0,hl315_0,hi315_0⟩:=at_L2 HR0.out x9_2 p315 q315;have hw315_0:=hx315_0;obtain rfl:ad314=ad315:=(by injection e315)
        replace hx315_0:=(HB.out.cell (World.block_lt_of_cell? w _ hx315_0)).trans hx315_0;have HR315_0:=Aside0.mk hi315_0;have HC315_0:=Aside0.mk hl315_0;clear hi315_0 hl315_0;replace p315:=eq_true p315;replace q315:=eq_true q315;refine start_ (n:=11) (S:=fun w'=>w'.cell? ⟨gb313,0,none⟩=some (.slice A1_0 l1_0.length c1_0)∧w'.cell? ⟨gb313,1,none⟩=some (.slice A1_1 l1_1.length c1_1)∧w'.cell? ⟨gb313,2,none⟩=some (.slice A1_2 l1_2.length c1_2)∧w'.cell? (ad314.add (x7_1).toNat)=some (.slice A314_0 (rd_L2 l0 x7_1).length c314_0)∧w'.cell? (ad314.add (x9_2).toNat)=some (.slice A315_0 (rd_L2 l0 x9_2).length c315_0)) (ds:=[]) (fl_ 11 0) y0_ rfl (fl_zero _) ⟨(blk_cell BK313.out 0).trans rfl,(blk_cell BK313.out 1).trans rfl,(blk_cell BK313.out 2).trans rfl,((HB.out.cell (World.block_lt_of_cell? w _ hw314_0)).trans hw314_0),((HB.out.cell (World.block_lt_of_cell? w _ hw315_0)).trans hw315_0)⟩ (fun hHeld=>?_);refine with_tabW spec_Median.tab10 spec_Median.bits10 (fun HT_ HW_=>?_);generalize wr.drew=w13 at BK313 HB HR314_0 HR315_0 hx314_0 hx315_0 hHeld⊢
        iterate 3 refine yp_ HT_ ?_
        refine ypg_ (i:=4) (ra_ [3,1,1,6]) HT_ ?_;refine ypg_ (i:=5) (ra_ [3,1,2,5]) HT_ ?_;refine ypg_ (i:=6) (ra_ [3,1,3,4]) HT_ ?_;refine ytg_ (i:=3) (fl_ 11 7) HT_ HW_ hHeld ?_ (hy:=z118_)
        iterate 2 refine yt_ HT_ HW_ hHeld ?_ (hy:=z118_)
        refine one_ (i:=9) (N:=some 32) (fl_ 11 10) rfl rfl (one_of HT_.out y0_) (by decide) (fun K hK=>?_);refine goes_ Try.func37 y0_ rfl #[.slice A314_0 (rd_L2 l0 x7_1).length c314_0,.slice A315_0 (rd_L2 l0 x9_2).length c315_0,.agg #[.slice A1_0 l1_0.length c1_0,.slice A1_1 l1_1.length c1_1,.slice A1_2 l1_2.length c1_2]] (by rfl) rfl rfl z1_ ?_
        with_reducible refine(spec_RootDist.calls k2 _ _ (rd_L2 l0 x7_1) _ _ (rd_L2 l0 x9_2) _ _ l1_0 _ _ l1_1 _ _ l1_2 t316 _ ?side1 ?side2 ?side3 ?side4 ?side5 ?side6 ?side7 ?side8 ?side9 ?side10 A9.out).mono ?_
        (case side1=>exact z231_)
        (case side2=>exact HC314_0.out)
        (case side3=>exact z232_)
        (case side4=>exact HC315_0.out)
        (case side5=>exact z141_)
        (case side6=>exact HC1_0.out)
        (case side7=>exact z142_)
        (case side8=>exact HC1_1.out)
        (case side9=>exact z143_)
        (case side10=>exact HC1_2.out)
        rintro e w14 ⟨rfl,hb⟩;refine⟨_,rfl,?_⟩;replace BK313:=am_ (blk_below z102_ hb);replace HB:=am_ (below_step z57_ hb)
        (try clear hb)
        refine hK.out _ _ ⟨(blk_cell BK313.out 0).trans rfl,(blk_cell BK313.out 1).trans rfl,(blk_cell BK313.out 2).trans rfl,((HB.out.cell (World.block_lt_of_cell? w _ hw314_0)).trans hw314_0),((HB.out.cell (World.block_lt_of_cell? w _ hw315_0)).trans hw315_0)⟩ (fun hHeld=>?_);clear hK K;refine zn_ rfl ?_;refine yp_ HT_ ?_;refine done_ (done_of HT_.out y0_) ?_
        try go_wp2
        go_roundg k2
        case measure=>have:=HK1.out;have:=HK2.out;omega
        case rel=>exact⟨(wrap64 (x8_2+t316)),(wrap64 (x9_2+1)),z9_,z9_,H',⟨z101_⟩,⟨z102_⟩,⟨z57_⟩⟩
      ·rw[if_neg c5] at H;have c5b0:=decide_eq_false c5;clear c5;by_cases c15:x5_1<0
       ·rw[if_pos c15] at H;have c15b0:=decide_eq_true c15;clear c15;have H':=Aside0.mk H;clear H;go_wp2
        go_roundg k2
        case measure=>have:=HK1.out;have:=HK2.out;omega
        case rel=>exact⟨(x7_1),(x8_2),(wrap64 (x7_1+1)),z9_,z9_,z9_,H',⟨z101_⟩,⟨z102_⟩,⟨z57_⟩⟩
       ·rw[if_neg c15] at H;have c15b0:=decide_eq_false c15;clear c15;by_cases c16:x8_2<x6_1
        ·rw[if_pos c16] at H;have c16b0:=decide_eq_true c16;clear c16;have H':=Aside0.mk H;clear H;go_wp2
         go_roundg k2
         case measure=>have:=HK1.out;have:=HK2.out;omega
         case rel=>exact⟨(x7_1),(x8_2),(wrap64 (x7_1+1)),z9_,z9_,z9_,H',⟨z101_⟩,⟨z102_⟩,⟨z57_⟩⟩
        ·rw[if_neg c16] at H;have c16b0:=decide_eq_false c16;clear c16;have H':=Aside0.mk H;clear H;go_wp2
         go_roundg k2
         case measure=>have:=HK1.out;have:=HK2.out;omega
         case rel=>exact⟨(x5_1),(x6_1),(wrap64 (x7_1+1)),z9_,z9_,z9_,H',⟨z101_⟩,⟨z102_⟩,⟨z57_⟩⟩
   ·rw[if_neg c4] at H;have c4b0:=decide_eq_false c4;clear c4;obtain rfl:=Option.some.inj H;go_wp2;go_ret;exact⟨z8_,z57_⟩

/-! ### impl_within: function 74 -/
def impl_within.f (a0:Int) (a1:Int) (a2:Int):Option (Bool):=if a1≤a0 then (some (decide (a0≤a2))) else (some false)
set_option maxHeartbeats 8000000 in
set_option maxRecDepth 100000 in
theorem impl_within.calls (a0:Int) (a1:Int) (a2:Int) (r:Bool) (w:World) (h:impl_within.f a0 a1 a2=some r):
  Calls Try.prog 74 #[.int .i64 a0,.int .i64 a1,.int .i64 a2] w fun e w'=>e= .returned (.bool r)∧Drawn0 w w':=by
 have H:(if a1≤a0 then (some (decide (a0≤a2))) else (some false))=some r:=h;clear h;by_cases c4:a1≤a0
 ·rw[if_pos c4] at H;have c4b0:=decide_eq_true c4;clear c4;obtain rfl:=Option.some.inj H;go_enter Try.func74,Try.ntmps74;go_wp2;go_ret;exact⟨z9_,z50_⟩
 ·rw[if_neg c4] at H;have c4b0:=decide_eq_false c4;clear c4;obtain rfl:=Option.some.inj H;go_enter Try.func74,Try.ntmps74;go_wp2;go_ret;exact⟨z9_,z50_⟩

/-! ### impl_LabelOk: function 70 -/
def impl_LabelOk.f (a0:Int):Option (Bool):=(impl_within.f a0 0 5).bind fun t317=>(some t317)
set_option maxHeartbeats 8000000 in
set_option maxRecDepth 100000 in
theorem impl_LabelOk.calls (a0:Int) (r:Bool) (w:World) (h:impl_LabelOk.f a0=some r):
  Calls Try.prog 70 #[.int .i64 a0] w fun e w'=>e= .returned (.bool r)∧Drawn0 w w':=by
 have H:((impl_within.f a0 0 5).bind fun t317=>(some t317))=some r:=h;clear h;obtain⟨t317,A2,H⟩:=bnd_ H;obtain rfl:=Option.some.inj H;go_enter Try.func70,Try.ntmps70
 go_wp2_with (((with_reducible refine gate_callee (f:=74) rfl ?_);refine goesL_ (some 4) rfl rfl Try.func74 y0_ rfl #[.int .i64 a0,.int .i64 0,.int .i64 5] rfl z1_ ?_;(with_reducible refine(impl_within.calls a0 0 5 t317 _ A2.out).mono ?_);rintro e w' ⟨rfl,⟨nd,rfl⟩⟩;refine⟨_,rfl,?_⟩))
 go_ret;exact⟨z9_,z50_⟩

/-! ### impl_depthOk: function 75 -/
def impl_depthOk.f (l0:List (S61)) (a1:Int):Option (Bool):=if a1=0 then (if 0<(l0.length:Int) then (some (((rd_T61 l0 0).f1)==0)) else (none)) else (if 0≤a1 then (if a1<(l0.length:Int) then (if 0≤(wrap64 (a1-1)) then (if (wrap64 (a1-1))<(l0.length:Int) then ((impl_within.f ((rd_T61 l0 a1).f1) 1 (wrap64 (((rd_T61 l0 (wrap64 (a1-1))).f1)+1))).bind fun t321=>(some t321)) else (none)) else (none)) else (none)) else (none))
set_option maxHeartbeats 8000000 in
set_option maxRecDepth 100000 in
theorem impl_depthOk.calls (A0:Option Addr) (c0:Nat) (l0:List (S61)) (a1:Int) (r:Bool) (w:World) (hr0:Kd.C k61 w A0 l0.length l0) (hc0:l0.length≤c0) (h:impl_depthOk.f l0 a1=some r):
  Calls Try.prog 75 #[.slice A0 l0.length c0,.int .i64 a1] w fun e w'=>e= .returned (.bool r)∧Drawn0 w w':=by
 have HR0:=Aside0.mk hr0;have HC0:=Aside0.mk hc0;clear hr0 hc0;have H:(if a1=0 then (if 0<(l0.length:Int) then (some (((rd_T61 l0 0).f1)==0)) else (none)) else (if 0≤a1 then (if a1<(l0.length:Int) then (if 0≤(wrap64 (a1-1)) then (if (wrap64 (a1-1))<(l0.length:Int) then ((impl_within.f ((rd_T61 l0 a1).f1) 1 (wrap64 (((rd_T61 l0 (wrap64 (a1-1))).f1)+1))).bind fun t321=>(some t321)) else (none)) else (none)) else (none)) else (none)))=some r:=h;clear h;by_cases c3:a1=0
 ·rw[if_pos c3] at H;have c3b0:(a1==0)=true:=beq_iff_eq.mpr c3;have c3b1:(a1 != 0)=false:=bne_eq_false_iff_eq.mpr c3;clear c3;obtain⟨c4,H⟩:=ifs_ H;have c4b0:=decide_eq_true c4;have c4b1:decide (0<l0.length)=true:=decide_eq_true (by omega);clear c4;obtain rfl:=Option.some.inj H;have p318:0≤(0:Int):=(by omega)
  have q318:0<(l0.length:Int):=odt_;obtain⟨ad318,e318,hx318_0,hx318_1⟩:=at_T61 HR0.out 0 p318 q318;cases e318;have qi318:(0<l0.length)=True:=eq_true (by omega)
  (try rw[show ((0:Int)).toNat=0 from rfl] at hx318_0)
  (try rw[show 0*2=0 from rfl] at hx318_0)
  (try rw[Addr.add_zero'] at hx318_0)
  (try rw[show ((0:Int)).toNat=0 from rfl] at hx318_1)
  (try rw[show 0*2=0 from rfl] at hx318_1)
  (try rw[Addr.add_zero'] at hx318_1)
  replace p318:=eq_true p318;replace q318:=eq_true q318;go_enter Try.func75,Try.ntmps75;go_wp2
  repeat(go_quiet (fail);try go_wp2)
  go_ret;exact⟨z9_,z50_⟩
 ·rw[if_neg c3] at H;have c3b0:(a1==0)=false:=beq_eq_false_iff_ne.mpr c3;have c3b1:(a1 != 0)=true:=bne_iff_ne.mpr c3;obtain⟨c5b0,H⟩:=ifd_ H;obtain⟨c6b0,H⟩:=ifd_ H;obtain⟨ji7,hji7⟩:∃j_:Int,(wrap64 (a1-1))=j_:=⟨_,rfl⟩
  first|rw[hji7] at H|simp only[hji7] at H
  have hji7w:(IntKind.i64.wrap (a1-1))=ji7:=(i64_w _).trans hji7;obtain⟨c8b0,H⟩:=ifd_ H;obtain⟨c9b0,H⟩:=ifd_ H;obtain⟨t321,A10,H⟩:=bnd_ H;obtain rfl:=Option.some.inj H;obtain⟨p319,q319,ad319,e319,hx319_0,hx319_1⟩:=ato61_ HR0 a1;cases e319;obtain⟨p320,q320,ad320,e320,hx320_0,hx320_1⟩:=ato61_ HR0 (ji7);obtain rfl:ad319=ad320:=(by injection e320)
  go_enter Try.func75,Try.ntmps75
  go_wp2_with (first|(go_at_call 74;(with_reducible refine(impl_within.calls ((rd_T61 l0 a1).f1) 1 (wrap64 (((rd_T61 l0 (ji7)).f1)+1)) t321 _ A10.out).mono ?_);rintro e w' ⟨rfl,⟨nd,rfl⟩⟩;(try first|exact⟨rfl,_,World.drewN_drewN _ _ _⟩|exact⟨rfl,_,Eq.trans (World.drewN_drewN _ _ _) (congrArg (World.drewN _) (Nat.add_assoc _ _ _))⟩)))
  repeat(go_quiet (first|(go_at_call 74;(with_reducible refine(impl_within.calls ((rd_T61 l0 a1).f1) 1 (wrap64 (((rd_T61 l0 (ji7)).f1)+1)) t321 _ A10.out).mono ?_);rintro e w' ⟨rfl,⟨nd,rfl⟩⟩;(try first|exact⟨rfl,_,World.drewN_drewN _ _ _⟩|exact⟨rfl,_,Eq.trans (World.drewN_drewN _ _ _) (congrArg (World.drewN _) (Nat.add_assoc _ _ _))⟩)));try go_wp2_with (first|(go_at_call 74;(with_reducible refine(impl_within.calls ((rd_T61 l0 a1).f1) 1 (wrap64 (((rd_T61 l0 (ji7)).f1)+1)) t321 _ A10.out).mono ?_);rintro e w' ⟨rfl,⟨nd,rfl⟩⟩;(try first|exact⟨rfl,_,World.drewN_drewN _ _ _⟩|exact⟨rfl,_,Eq.trans (World.drewN_drewN _ _ _) (congrArg (World.drewN _) (Nat.add_assoc _ _ _))⟩))))
  go_ret;exact⟨by first|rfl|(simp;done)|(simp only[←hji7]<;>(first|rfl|simp))|(simp[*];done),z50_⟩

/-! ### impl_TreeOk: function 57 -/
def impl_TreeOk.l0:Nat→List (S61)→List (S61)→Int→Int→Option (Bool)
 |0,_,_,_,_=>none
 |k+1,x0,x9,x10,x11=>if x11<x10 then (if 0≤x11 then (if x11<(x9.length:Int) then ((impl_LabelOk.f ((rd_T61 x9 x11).f0)).bind fun t325=>(if t325=true then ((impl_within.f ((rd_T61 x9 x11).f1) 0 12).bind fun t326=>(if t326=true then ((impl_depthOk.f x0 x11).bind fun t327=>(if t327=true then (impl_TreeOk.l0 k x0 x9 x10 (wrap64 (x11+1))) else (some false))) else (some false))) else (some false))) else (none)) else (none)) else (some true)
def impl_TreeOk.f (k:Nat) (l0:List (S61)):Option (Bool):=(impl_within.f (l0.length:Int) 1 24).bind fun t322=>(if t322=true then (impl_TreeOk.l0 k l0 l0 (l0.length:Int) 0) else (some false))
set_option maxHeartbeats 8000000 in
set_option maxRecDepth 100000 in
theorem impl_TreeOk.calls (k:Nat) (A0:Option Addr) (c0:Nat) (l0:List (S61)) (r:Bool) (w:World) (hr0:Kd.C k61 w A0 l0.length l0) (hc0:l0.length≤c0) (h:impl_TreeOk.f k l0=some r):
  Calls Try.prog 57 #[.slice A0 l0.length c0] w fun e w'=>e= .returned (.bool r)∧Below w.heap.size w w':=by
 have hu61:=Try.underlying61;have HR0:=Aside0.mk hr0;have HC0:=Aside0.mk hc0;clear hr0 hc0;have HB:=am_ (Below.refl w.heap.size w);have H:((impl_within.f (l0.length:Int) 1 24).bind fun t322=>(if t322=true then (impl_TreeOk.l0 k l0 l0 (l0.length:Int) 0) else (some false)))=some r:=h;clear h;obtain⟨t322,A2,H⟩:=bnd_ H;by_cases c3:t322=true
 ·subst c3;replace H:=ift_ H;have H':=Aside0.mk H;clear H;go_enter Try.func57,Try.ntmps57
  go_wp2_with (((with_reducible refine gate_callee (f:=74) rfl ?_);refine goesL_ (some 7) rfl rfl Try.func74 y0_ rfl #[.int .i64 (l0.length:Int),.int .i64 1,.int .i64 24] rfl z1_ ?_;(with_reducible refine(impl_within.calls (l0.length:Int) 1 24 true _ A2.out).mono ?_);rintro e w' ⟨rfl,⟨nd,rfl⟩⟩;refine⟨_,rfl,?_⟩))
  go_loopg [11] k (fun kq v11 w'=>∃(x11_1:Int),v11= .int .i64 x11_1∧Aside0 (impl_TreeOk.l0 kq l0 l0 (l0.length:Int) x11_1=some r)∧Aside0 (kq≤k)∧Aside0 (Below w.heap.size w w'))
  case atStart=>exact⟨(0),z9_,H',⟨Nat.le_refl _⟩,⟨z0_⟩⟩
  case round=>
   clear H';obtain⟨x11_1,rfl,HA,HK1,HB⟩:=hrel;cases gk with
   |zero=>exact absurd HA.out (by simp[impl_TreeOk.l0])
   | succ k1=>
    have H:=HA.out;clear HA;simp only[impl_TreeOk.l0] at H;by_cases c4:x11_1<(l0.length:Int)
    ·rw [if_pos c4] at H;have c4b0:=decide_eq_true c4;clear c4;obtain⟨c5b0,H⟩:=ifd_ H;obtain⟨c6b0,H⟩:=ifd_ H;obtain⟨t325,A7,H⟩:=bnd_ H;by_cases c8:t325=true
     ·subst c8;replace H:=ift_ H;obtain⟨t326,A9,H⟩:=bnd_ H;by_cases c10:t326=true
      ·subst c10;replace H:=ift_ H;obtain⟨t327,A11,H⟩:=bnd_ H;by_cases c12:t327=true
       ·subst c12;replace H:=ift_ H;have H':=Aside0.mk H;clear H;obtain⟨p323,q323,ad323,e323,hx323_0,hx323_1⟩:=atb61_ HR0 HB x11_1;cases e323
        go_wp2_with (first|((with_reducible refine gate_dst (N:=4) rfl ?_);refine box_event ?hg (N:=4) ?hd (cs:=#[.int .i64 0,.int .i64 0]) (t:=61) ?hr ?_;(case hd=>rfl);(case hg=>rfl);(case hr=>exact z14_);intro gb324 hg w13 hbox hb;have BK324:=am_ (hbox);have GW324:=am_ ((by rw[hg];exact(below_size z0_):w.heap.size≤gb324));have GE324:=am_ ((by rw[hg];exact(below_size z0_):w.heap.size≤gb324));replace HB:=am_ (below_step z0_ hb);clear hb hbox hg;obtain⟨hcz14_0,hcz14_1,hfz14_0,hfz14_1⟩:=bx2_ BK324.out)|((with_reducible refine gate_callee (f:=70) rfl ?_);refine goesL_ (some 18) rfl rfl Try.func70 y0_ rfl #[.int .i64 ((rd_T61 l0 x11_1).f0)] rfl z1_ ?_;(with_reducible refine(impl_LabelOk.calls ((rd_T61 l0 x11_1).f0) true _ A7.out).mono ?_);rintro e w' ⟨rfl,⟨nd,rfl⟩⟩;refine⟨_,rfl,?_⟩)|(go_at_call 74;(with_reducible refine(impl_within.calls ((rd_T61 l0 x11_1).f1) 0 12 true _ A9.out).mono ?_);rintro e w' ⟨rfl,⟨nd,rfl⟩⟩)|(go_at_call 75;(with_reducible refine(impl_depthOk.calls _ _ l0 x11_1 true _ ?side1 ?side2 A11.out).mono ?_);(case side1=>exact z217_);(case side2=>exact HC0.out);rintro e w' ⟨rfl,⟨nd,rfl⟩⟩))
        go_roundg k1
        case measure=>have:=HK1.out;omega
        case rel=>exact⟨(wrap64 (x11_1+1)),z9_,H',⟨z176_⟩,⟨z99_⟩⟩
       ·replace c12:=Bool.eq_false_iff.mpr c12;subst c12;replace H:=iff_ H;obtain rfl:=Option.some.inj H;obtain⟨p323,q323,ad323,e323,hx323_0,hx323_1⟩:=atb61_ HR0 HB x11_1;cases e323
        go_wp2_with (first|((with_reducible refine gate_dst (N:=4) rfl ?_);refine box_event ?hg (N:=4) ?hd (cs:=#[.int .i64 0,.int .i64 0]) (t:=61) ?hr ?_;(case hd=>rfl);(case hg=>rfl);(case hr=>exact z14_);intro gb324 hg w15 hbox hb;have BK324:=am_ (hbox);have GW324:=am_ ((by rw[hg];exact(below_size z0_):w.heap.size≤gb324));have GE324:=am_ ((by rw[hg];exact(below_size z0_):w.heap.size≤gb324));replace HB:=am_ (below_step z0_ hb);clear hb hbox hg;obtain⟨hcz16_0,hcz16_1,hfz16_0,hfz16_1⟩:=bx2_ BK324.out)|((with_reducible refine gate_callee (f:=70) rfl ?_);refine goesL_ (some 18) rfl rfl Try.func70 y0_ rfl #[.int .i64 ((rd_T61 l0 x11_1).f0)] rfl z1_ ?_;(with_reducible refine(impl_LabelOk.calls ((rd_T61 l0 x11_1).f0) true _ A7.out).mono ?_);rintro e w' ⟨rfl,⟨nd,rfl⟩⟩;refine⟨_,rfl,?_⟩)|(go_at_call 74;(with_reducible refine(impl_within.calls ((rd_T61 l0 x11_1).f1) 0 12 true _ A9.out).mono ?_);rintro e w' ⟨rfl,⟨nd,rfl⟩⟩)|(go_at_call 75;(with_reducible refine(impl_depthOk.calls _ _ l0 x11_1 false _ ?side1 ?side2 A11.out).mono ?_);(case side1=>exact z217_);(case side2=>exact HC0.out);rintro e w' ⟨rfl,⟨nd,rfl⟩⟩))
        go_ret;exact⟨z8_,z99_⟩
      ·replace c10:=Bool.eq_false_iff.mpr c10;subst c10;replace H:=iff_ H;obtain rfl:=Option.some.inj H;obtain⟨p323,q323,ad323,e323,hx323_0,hx323_1⟩:=atb61_ HR0 HB x11_1;cases e323
       go_wp2_with (first|((with_reducible refine gate_dst (N:=4) rfl ?_);refine box_event ?hg (N:=4) ?hd (cs:=#[.int .i64 0,.int .i64 0]) (t:=61) ?hr ?_;(case hd=>rfl);(case hg=>rfl);(case hr=>exact z14_);intro gb324 hg w17 hbox hb;have BK324:=am_ (hbox);have GW324:=am_ ((by rw[hg];exact(below_size z0_):w.heap.size≤gb324));have GE324:=am_ ((by rw[hg];exact(below_size z0_):w.heap.size≤gb324));replace HB:=am_ (below_step z0_ hb);clear hb hbox hg;obtain⟨hcz18_0,hcz18_1,hfz18_0,hfz18_1⟩:=bx2_ BK324.out)|((with_reducible refine gate_callee (f:=70) rfl ?_);refine goesL_ (some 18) rfl rfl Try.func70 y0_ rfl #[.int .i64 ((rd_T61 l0 x11_1).f0)] rfl z1_ ?_;(with_reducible refine(impl_LabelOk.calls ((rd_T61 l0 x11_1).f0) true _ A7.out).mono ?_);rintro e w' ⟨rfl,⟨nd,rfl⟩⟩;refine⟨_,rfl,?_⟩)|(go_at_call 74;(with_reducible refine(impl_within.calls ((rd_T61 l0 x11_1).f1) 0 12 false _ A9.out).mono ?_);rintro e w' ⟨rfl,⟨nd,rfl⟩⟩))
       go_ret;exact⟨z8_,z99_⟩
     ·replace c8:=Bool.eq_false_iff.mpr c8;subst c8;replace H:=iff_ H;obtain rfl:=Option.some.inj H;obtain⟨p323,q323,ad323,e323,hx323_0,hx323_1⟩:=atb61_ HR0 HB x11_1;cases e323
      go_wp2_with (first|((with_reducible refine gate_dst (N:=4) rfl ?_);refine box_event ?hg (N:=4) ?hd (cs:=#[.int .i64 0,.int .i64 0]) (t:=61) ?hr ?_;(case hd=>rfl);(case hg=>rfl);(case hr=>exact z14_);intro gb324 hg w19 hbox hb;have BK324:=am_ (hbox);have GW324:=am_ ((by rw[hg];exact(below_size z0_):w.heap.size≤gb324));have GE324:=am_ ((by rw[hg];exact(below_size z0_):w.heap.size≤gb324));replace HB:=am_ (below_step z0_ hb);clear hb hbox hg;obtain⟨hcz20_0,hcz20_1,hfz20_0,hfz20_1⟩:=bx2_ BK324.out)|((with_reducible refine gate_callee (f:=70) rfl ?_);refine goesL_ (some 18) rfl rfl Try.func70 y0_ rfl #[.int .i64 ((rd_T61 l0 x11_1).f0)] rfl z1_ ?_;(with_reducible refine(impl_LabelOk.calls ((rd_T61 l0 x11_1).f0) false _ A7.out).mono ?_);rintro e w' ⟨rfl,⟨nd,rfl⟩⟩;refine⟨_,rfl,?_⟩))
      go_ret;exact⟨z8_,z99_⟩
    ·rw[if_neg c4] at H;have c4b0:=decide_eq_false c4;clear c4;obtain rfl:=Option.some.inj H;go_wp2;go_ret;exact⟨z8_,z0_⟩
 ·replace c3:=Bool.eq_false_iff.mpr c3;subst c3;replace H:=iff_ H;obtain rfl:=Option.some.inj H;go_enter Try.func57,Try.ntmps57
  go_wp2_with (((with_reducible refine gate_callee (f:=74) rfl ?_);refine goesL_ (some 7) rfl rfl Try.func74 y0_ rfl #[.int .i64 (l0.length:Int),.int .i64 1,.int .i64 24] rfl z1_ ?_;(with_reducible refine(impl_within.calls (l0.length:Int) 1 24 false _ A2.out).mono ?_);rintro e w' ⟨rfl,⟨nd,rfl⟩⟩;refine⟨_,rfl,?_⟩))
  go_ret;exact⟨z8_,z0_⟩

/-! ### impl_pricesOk_lit1: function 96 -/
def impl_pricesOk_lit1.f (a0:Int):Option (Bool):=(impl_within.f a0 0 1000).bind fun t328=>(some (!t328))
set_option maxHeartbeats 8000000 in
set_option maxRecDepth 100000 in
theorem impl_pricesOk_lit1.calls (a0:Int) (r:Bool) (w:World) (h:impl_pricesOk_lit1.f a0=some r):
  Calls Try.prog 96 #[.int .i64 a0] w fun e w'=>e= .returned (.bool r)∧Drawn0 w w':=by
 have H:((impl_within.f a0 0 1000).bind fun t328=>(some (!t328)))=some r:=h;clear h;obtain⟨t328,A2,H⟩:=bnd_ H;obtain rfl:=Option.some.inj H;go_enter Try.func96,Try.ntmps96
 go_wp2_with (((with_reducible refine gate_callee (f:=74) rfl ?_);refine goesL_ (some 4) rfl rfl Try.func74 y0_ rfl #[.int .i64 a0,.int .i64 0,.int .i64 1000] rfl z1_ ?_;(with_reducible refine(impl_within.calls a0 0 1000 t328 _ A2.out).mono ?_);rintro e w' ⟨rfl,⟨nd,rfl⟩⟩;refine⟨_,rfl,?_⟩))
 go_ret;exact⟨z9_,z50_⟩

end Go.Proofs.Ytbmkobanpakohaa.PFnMedian
