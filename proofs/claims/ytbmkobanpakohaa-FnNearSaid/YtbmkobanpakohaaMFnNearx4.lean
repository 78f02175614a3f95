/- Walks of functions of FnNear, laid anew out of the kit's print. -/
import Derived.Test.YtbmkobanpakohaaMFnNearx0
import Derived.Test.YtbmkobanpakohaaMFnNearx3
namespace Go.Proofs.Ytbmkobanpakohaa.PFnNear
open Go.RowKit Go.Proofs.YtbmkobanpakohaaW.PrintWords Go.Proofs.YtbmkobanpakohaaW.PrintLast Go.Proofs.YtbmkobanpakohaaW.PrintMore Go.Proofs.YtbmkobanpakohaaW.PrintWords.Kd Go.Proofs.YtbmkobanpakohaaW.PrintMore.Kd
set_option maxHeartbeats 8000000
set_option maxRecDepth 100000
attribute [local go_sem] max2_int min2_int max_two min_two max_three min_three max_four min_four
set_option linter.unusedVariables false
set_option linter.unusedSimpArgs false

/-! ### impl_LeftLeaf: function 86 -/
def impl_LeftLeaf.l0:Nat→List (S61)→List Int→List Int→List Int→Int→Int→Option (List Int)
 |0,_,_,_,_,_,_=>none
 |k+1,x0,x3,x4,x11,x12,x13=>if x13<x12 then (if 0≤x13 then (if x13<(x11.length:Int) then (if 0≤(rd x11 x13) then (if (rd x11 x13)<(x4.length:Int) then ((impl_endOf.f k x0 (rd x11 x13)).bind fun tgi=>(if x3.length<17592186044416 then (impl_LeftLeaf.l0 k x0 (x3++[wrap64 ((rd x4 (rd x11 x13))-(wrap64 ((wrap64 (tgi-(rd x11 x13)))-1)))]) x4 x11 x12 (wrap64 (x13+1))) else (none))) else (none)) else (none)) else (none)) else (none)) else (some x3)
def impl_LeftLeaf.f (k:Nat) (l0:List (S61)):Option (List Int):=(impl_RankOf.f k l0).bind fun tdH=>((impl_PostOrder.f k l0).bind fun tbl=>(impl_LeftLeaf.l0 k l0 (([]:List Int)) tdH tbl (tbl.length:Int) 0))
def impl_LeftLeaf.T5:Bool×List (List Nat×List Nat):=(true,[([],[]),([],[]),([],[]),([1,2],[1,2]),([3],[3]),([],[]),([],[]),([5,6],[5,6]),([],[]),([7,8],[7,8]),([9],[9]),([4,10],[4,10]),([11],[11]),([0,12,7],[0,12]),([13,13,0,1,2,3,4,5,6,7,8,9,10,11,12,13],[0,13])])
def impl_LeftLeaf.B5:List Nat:=[0,0,0,6,14,0,0,96,0,480,992,2046,4094,8191,16383]
theorem impl_LeftLeaf.tab5:rtab .any (opsOf Try.f86 5)=impl_LeftLeaf.T5:=by kernel_rfl
theorem impl_LeftLeaf.bits5:waitsOk impl_LeftLeaf.T5.2 impl_LeftLeaf.B5=true:=by kernel_rfl
theorem impl_LeftLeaf.calls (k:Nat) (A0:Option Addr) (c0:Nat) (l0:List (S61)) (r:List Int) (w:World) (hr0:Kd.C k61 w A0 l0.length l0) (hc0:l0.length≤c0) (h:impl_LeftLeaf.f k l0=some r):
  Calls Try.prog 86 #[.slice A0 l0.length c0] w fun e w'=>∃v0_:Value,e= .returned (v0_)∧RI_ w' w.heap.size (fun _=>True) v0_ r∧Below w.heap.size w w':=by
 have HR0:=am_ hr0;have HC0:=am_ hc0;clear hr0 hc0;have HB:=am_ (Below.refl w.heap.size w);have H:((impl_RankOf.f k l0).bind fun tdH=>((impl_PostOrder.f k l0).bind fun tbl=>(impl_LeftLeaf.l0 k l0 (([]:List Int)) tdH tbl (tbl.length:Int) 0)))=some r:=h;clear h
 (generalize hy_:((([]:List Int)):List Int)=yiJ at H;have NyiJ:=am_ hy_.symm;clear hy_)
 obtain⟨tdH,A2,H⟩:=bnd_ H;obtain⟨tbl,A3,H⟩:=bnd_ H;have H':=am_ H;clear H;go_enter Try.func86,Try.ntmps86
 go_wp2_with (first|((with_reducible refine gate_dst (N:=7) rfl ?_);refine R_lit (Kd.int .i64) _ 3 ?hg (N:=7) ?hd (xs:=([]:List Int)) (inner:=[]) (ok:=fun _=>True) (okp:=fun _=>True) ?hr ?hp (fun _ hk=>hk) trivial (Below.refl _ _) (Nat.le_refl _) (by simp) ?_;(case hd=>rfl);(case hg=>rfl);(case hr=>exact z14_);(case hp=>exact z276_);intro vl6 w4 ho5 hb hg_ hnew_;clear hg_ hnew_;(rw[←NyiJ.out] at ho5);have HOg9:=am_ (R_lower ho5 (below_size z0_));replace HB:=am_ (below_step z0_ hb);clear hb ho5)|((with_reducible refine gate_callee (f:=94) rfl ?_);refine goesL_ (some 9) rfl rfl Try.func94 y0_ rfl #[.slice A0 l0.length c0] rfl z1_ ?_;(with_reducible refine(impl_RankOf.calls k _ _ l0 tdH _ ?s1 ?s2 A2.out).mono ?_);(case s1=>exact z6_);(case s2=>exact HC0.out);rintro e w6 ⟨viK,rfl,ho0,hb⟩;refine⟨_,rfl,?_⟩;have HOhF:=am_ (R_lower (R_new' ho0 (R_lt z249_)) (below_size z0_));replace HOg9:=am_ (R_elder' z249_ (R_base ho0) hb);replace HB:=am_ (below_step z0_ hb);(try clear hb ho0))|((with_reducible refine gate_callee (f:=85) rfl ?_);refine goesL_ (some 11) rfl rfl Try.func85 y0_ rfl #[.slice A0 l0.length c0] rfl z1_ ?_;(with_reducible refine(impl_PostOrder.calls k _ _ l0 tbl _ ?s1 ?s2 A3.out).mono ?_);(case s1=>exact z6_);(case s2=>exact HC0.out);rintro e w7 ⟨viu,rfl,ho0,hb⟩;refine⟨_,rfl,?_⟩;have HOjS:=am_ (R_lower (R_new' (R_new' ho0 (R_lt z249_)) (R_lt z344_)) (below_size z0_));replace HOg9:=am_ (R_elder' z249_ (R_base ho0) hb);replace HOhF:=am_ (R_elder' z344_ (R_base ho0) hb);replace HB:=am_ (below_step z0_ hb);(try clear hb ho0);obtain⟨Ao8,co8,eo8⟩:=R_slice HOjS.out;subst eo8))
 go_loopg [3,13] k (fun kq v3 v13 w'=>∃(x3_1:List Int) (x13_1:Int),v13= .int .i64 x13_1∧Aside0 (impl_LeftLeaf.l0 kq l0 x3_1 tdH tbl (tbl.length:Int) x13_1=some r)∧Aside0 (kq≤k)∧Aside0 (RI_ w' w.heap.size (nb2_ viK (.slice Ao8 tbl.length co8)) v3 x3_1)∧Aside0 (RI_ w' w.heap.size (nb2_ v3 (.slice Ao8 tbl.length co8)) viK tdH)∧Aside0 (RI_ w' w.heap.size (nb2_ v3 viK) (.slice Ao8 tbl.length co8) tbl)∧Aside0 (Below w.heap.size w w'))
 case atStart=>exact⟨(yiJ),(0),z9_,H',⟨Nat.le_refl _⟩,⟨by exact ur_ (R_mono HOg9.out (fun _ hk=>⟨hk.1.2,hk.2⟩))⟩,⟨by exact ur_ (R_mono HOhF.out (fun _ hk=>⟨hk.1.2,hk.2⟩))⟩,⟨by exact ur_ (R_mono HOjS.out (fun _ hk=>⟨hk.1.2,hk.2⟩))⟩,⟨z0_⟩⟩
 case round=>
  clear H';obtain⟨x3_1,x13_1,rfl,HA,HK1,HO_3,HO_4,HO_11,HB⟩:=hrel;cases gk with
  |zero=>exact absurd HA.out (by simp[impl_LeftLeaf.l0])
  | succ k1=>
   have H:=HA.out;clear HA;simp only[impl_LeftLeaf.l0] at H;by_cases c9:x13_1<(tbl.length:Int)
   ·rw[if_pos c9] at H;have c9b0:=decide_eq_true c9;clear c9;obtain⟨c10b0,H⟩:=ifd_ H;obtain⟨c11b0,H⟩:=ifd_ H;obtain⟨c12b0,H⟩:=ifd_ H;obtain⟨c13b0,H⟩:=ifd_ H;obtain⟨tgi,A14,H⟩:=bnd_ H;obtain⟨c15,H⟩:=ifs_ H;have LMc15:=am_ c15;clear c15
    (generalize hy_:((x3_1++[wrap64 ((rd tdH (rd tbl x13_1))-(wrap64 ((wrap64 (tgi-(rd tbl x13_1)))-1)))]):List Int)=yiL at H;have NyiL:=am_ hy_.symm;clear hy_)
    have H':=am_ H;clear H;have pd2:0≤(x13_1:Int):=odt_;have qd2:x13_1<(tbl.length:Int):=odt_;obtain⟨add2,ed2,hxd2_0⟩:=at_int (R_reads' HO_11.out).2.2 x13_1 pd2 qd2;cases ed2;replace pd2:=eq_true pd2;replace qd2:=eq_true qd2
    try go_wp2
    replace HO_3:=am_ (R_drew HO_3.out);replace HO_4:=am_ (R_drew HO_4.out);replace HO_11:=am_ (R_drew HO_11.out);replace HB:=am_ (below_drew1 HB.out);obtain⟨Ao17,co17,eo17⟩:=R_slice HO_4.out
    (subst eo17)
    have pcW:0≤((rd tbl x13_1):Int):=odt_;have qcW:(rd tbl x13_1)<(tdH.length:Int):=odt_;obtain⟨adcW,ecW,hxcW_0⟩:=at_int (R_reads' HO_4.out).2.2 (rd tbl x13_1) pcW qcW;cases ecW;replace pcW:=eq_true pcW;replace qcW:=eq_true qcW;refine start_ (n:=15) (S:=fun w'=>w'.cell? (adcW.add ((rd tbl x13_1)).toNat)=some (.int .i64 (rd tdH (rd tbl x13_1)))) (ds:=[12,13]) (fl_ 15 0) y0_ rfl (fl_zero _) (hxcW_0) (fun hh=>?_);refine with_tabW impl_LeftLeaf.tab5 impl_LeftLeaf.bits5 (fun HT_ HW_=>?_);generalize wr.drew=w16 at HO_3 HO_4 HO_11 HB hxcW_0 hh⊢
    iterate 4 refine yp_ HT_ ?_
    refine ypg_ (i:=5) (ra_ [4,1,1,9]) HT_ ?_;refine ypg_ (i:=6) (ra_ [4,1,2,8]) HT_ ?_;refine ypg_ (i:=8) (ra_ [4,1,2,1,1,6]) HT_ ?_;refine ztg_ (i:=4) (ra_ [7,1,1,6]) HT_ HW_ rfl rfl y0_ (fun _ _ _ h=>h) (by rfl) hh ?_ (by intro w' s0;go_simp;with_reducible rfl);refine one_ (i:=7) (N:=some 24) (fl_ 15 9) rfl rfl (one_of HT_.out y0_) (by decide) (fun K hK=>?_);refine goes_ Try.func59 y0_ rfl #[.slice A0 l0.length c0,.int .i64 (rd tbl x13_1)] (by rfl) rfl rfl z1_ ?_
    with_reducible refine(impl_endOf.calls k1 _ _ l0 (rd tbl x13_1) tgi _ ?s1 ?s2 A14.out).mono ?_
    (case s1=>exact z6_)
    (case s2=>exact HC0.out)
    rintro e w' ⟨rfl,⟨nd,rfl⟩⟩;refine⟨_,rfl,?_⟩;refine hK.out _ _ (hh) (fun hh=>?_);clear hK K;refine zn_ rfl ?_
    iterate 3 refine yp_ HT_ ?_
    refine last_ (i:=12) (N:=some 29) (fl_ 15 13) rfl rfl (one_of HT_.out y0_) (by decide) (fun K hK=>?_);refine value_ (w1:=?_) (v:=?_) (by rfl) rfl ?_ ?_;rotate_left 2
    ·go_simp;constructor
     ·rfl
     ·rfl
    refine hK.out _ _ ?_;clear hK K;refine zn_ rfl ?_;refine last_ (i:=13) (N:=some 30) (fl_ 15 14) rfl rfl (one_of HT_.out y0_) (by decide) (fun K hK=>?_);refine R_append_step (Kd.int .i64) (w0:=w) w.heap.size (by rfl) (.tmp 17) (.tmp 29) 30 3 (.int .i64 0) 8 rfl Try.underlying30 info3 rfl (by decide) (by omega) u3 x3_1 (wrap64 ((rd tdH (rd tbl x13_1))-(wrap64 ((wrap64 (tgi-(rd tbl x13_1)))-1)))) [.int .i64 (wrap64 ((rd tdH (rd tbl x13_1))-(wrap64 ((wrap64 (tgi-(rd tbl x13_1)))-1))))] (nb2_ (.slice (some adcW) tdH.length co17) (.slice (some add2) tbl.length co8)) (fun _=>False) rfl rfl ?aP (fun _ hk=>hk.elim) ?aF ?aO ?aB ?aS ?aL ?_
    (case aP=>exact rfl)
    (case aB=>exact z60_)
    (case aF=>exact(fun k_ hk=>⟨Kd.fresh' (R_lt z27_) k_ hk,Kd.fresh' (R_lt z250_) k_ hk⟩))
    (case aO=>exact z131_)
    (case aS=>exact z55_)
    (case aL=>have:=LMc15.out;omega)
    intro vl7 w18 ho hb hg hat;rw[←NyiL.out] at ho;replace HO_4:=am_ (R_after (ok:=(nb1_ (.slice (some add2) tbl.length co8))) z144_ hg hat);replace HO_11:=am_ (R_after (ok:=(nb1_ (.slice (some adcW) tdH.length co17))) z332_ hg hat);replace HB:=am_ (hb);have HOk5:=am_ (ho);clear HO_3 ho hb hg hat;refine hK.out _ _ ?_;clear hK K;refine zn_ rfl ?_;refine yp_ HT_ ?_;refine done_ (done_of HT_.out y0_) ?_
    try go_wp2
    go_roundg k1
    case measure=>have:=HK1.out;omega
    case rel=>exact⟨(yiL),(wrap64 (x13_1+1)),z9_,H',⟨z170_⟩,⟨by exact ur_ HOk5.out⟩,⟨z144_⟩,⟨z332_⟩,⟨z0_⟩⟩
   ·rw[if_neg c9] at H;have c9b0:=decide_eq_false c9;clear c9;obtain rfl:=Option.some.inj H;go_wp2;go_ret;exact⟨_,z7_,z203_,z0_⟩

end Go.Proofs.Ytbmkobanpakohaa.PFnNear
