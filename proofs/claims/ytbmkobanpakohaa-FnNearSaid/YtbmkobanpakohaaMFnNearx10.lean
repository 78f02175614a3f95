/- Walks of functions of FnNear, laid anew out of the kit's print. -/
import Derived.Test.YtbmkobanpakohaaMFnNearx0
import Derived.Test.YtbmkobanpakohaaMFnNearx8
import Derived.Test.YtbmkobanpakohaaMFnNearx9
namespace Go.Proofs.Ytbmkobanpakohaa.PFnNear
open Go.RowKit Go.Proofs.YtbmkobanpakohaaW.PrintWords Go.Proofs.YtbmkobanpakohaaW.PrintLast Go.Proofs.YtbmkobanpakohaaW.PrintMore Go.Proofs.YtbmkobanpakohaaW.PrintWords.Kd Go.Proofs.YtbmkobanpakohaaW.PrintMore.Kd
set_option maxHeartbeats 8000000
set_option maxRecDepth 100000
attribute [local go_sem] max2_int min2_int max_two min_two max_three min_three max_four min_four
set_option linter.unusedVariables false
set_option linter.unusedSimpArgs false

/-! ### spec_KidsOf: function 101 -/
mutual
def spec_KidsOf.l0:Nat→List (S61)→Int→List Int→Int→Option (List Int)
 |0,_,_,_,_=>none
 |k+1,x0,x1,x5,x6=>(spec_l3At.f k x0 x1).bind fun thK=>(if thK=true then ((spec_EndOf.f k x0 x1).bind fun thf=>(spec_KidsOf.j1 k x0 x1 x5 x6 (decide (x6<thf)))) else (spec_KidsOf.j1 k x0 x1 x5 x6 false))
def spec_KidsOf.j1:Nat→List (S61)→Int→List Int→Int→Bool→Option (List Int)
 |0,_,_,_,_,_=>none
 |k+1,x0,x1,x5,x6,x19=>if x19=true then (if 0≤x6 then (if x6<(x0.length:Int) then (if 0≤x1 then (if x1<(x0.length:Int) then (if ((rd_T61 x0 x6).f1)=(wrap64 (((rd_T61 x0 x1).f1)+1)) then (if x5.length<17592186044416 then (spec_KidsOf.l0 k x0 x1 (x5++[x6]) (wrap64 (x6+1))) else (none)) else (spec_KidsOf.l0 k x0 x1 x5 (wrap64 (x6+1)))) else (none)) else (none)) else (none)) else (none)) else (some x5)
end
def spec_KidsOf.f (k:Nat) (l0:List (S61)) (a1:Int):Option (List Int):=spec_KidsOf.l0 k l0 a1 (([]:List Int)) (wrap64 (a1+1))
theorem spec_KidsOf.calls (k:Nat) (A0:Option Addr) (c0:Nat) (l0:List (S61)) (a1:Int) (r:List Int) (w:World) (hr0:Kd.C k61 w A0 l0.length l0) (hc0:l0.length≤c0) (h:spec_KidsOf.f k l0 a1=some r):
  Calls Try.prog 101 #[.slice A0 l0.length c0,.int .i64 a1] w fun e w'=>∃v0_:Value,e= .returned (v0_)∧RI_ w' w.heap.size (fun _=>True) v0_ r∧Below w.heap.size w w':=by
 have HR0:=am_ hr0;have HC0:=am_ hc0;clear hr0 hc0;have HB:=am_ (Below.refl w.heap.size w);have H:(spec_KidsOf.l0 k l0 a1 (([]:List Int)) (wrap64 (a1+1)))=some r:=h;clear h
 (generalize hy_:((([]:List Int)):List Int)=yhL at H;have NyhL:=am_ hy_.symm;clear hy_)
 have H':=am_ H;clear H;go_enter Try.func101,Try.ntmps101
 go_wp2_with (((with_reducible refine gate_dst (N:=7) rfl ?_);refine R_lit (Kd.int .i64) _ 3 ?hg (N:=7) ?hd (xs:=([]:List Int)) (inner:=[]) (ok:=fun _=>True) (okp:=fun _=>True) ?hr ?hp (fun _ hk=>hk) trivial (Below.refl _ _) (Nat.le_refl _) (by simp) ?_;(case hd=>rfl);(case hg=>rfl);(case hr=>exact z14_);(case hp=>exact z276_);intro vlc w3 ho4 hb hg_ hnew_;clear hg_ hnew_;(rw[←NyhL.out] at ho4);have HOjY:=am_ (R_lower ho4 (below_size z0_));replace HB:=am_ (below_step z0_ hb);clear hb ho4))
 go_loopg [5,6] k (fun kq v5 v6 w'=>∃(x5_1:List Int) (x6_1:Int),v6= .int .i64 x6_1∧Aside0 (spec_KidsOf.l0 kq l0 a1 x5_1 x6_1=some r)∧Aside0 (kq≤k)∧Aside0 (RI_ w' w.heap.size (fun _=>True) v5 x5_1)∧Aside0 (Below w.heap.size w w'))
 case atStart=>exact⟨(yhL),(wrap64 (a1+1)),z9_,H',⟨Nat.le_refl _⟩,⟨by exact ur_ HOjY.out⟩,⟨z0_⟩⟩
 case round=>
  clear H';obtain⟨x5_1,x6_1,rfl,HA,HK1,HO_5,HB⟩:=hrel;cases gk with
  |zero=>exact absurd HA.out (by simp[spec_KidsOf.l0])
  | succ k1=>
   have H:=HA.out;clear HA;simp only[spec_KidsOf.l0] at H;have HC5:=am_ H;clear H
   go_upto_region 3 with (fail)
   go_cut [19] (fun v19 wc=>∃(kq:Nat) (x19_4:Bool),v19= .bool x19_4∧Aside0 (spec_KidsOf.j1 kq l0 a1 x5_1 x6_1 x19_4=some r)∧Aside0 (kq≤k1)∧Aside0 (RI_ wc w.heap.size (fun _=>True) u5 x5_1)∧Aside0 (Below w.heap.size w wc))
   case first=>
    have H:=HC5.out;clear HC5;obtain⟨thK,A6,H⟩:=bnd_ H;by_cases c7:thK=true
    ·subst c7;replace H:=ift_ H;obtain⟨thf,A8,H⟩:=bnd_ H;have H':=am_ H;clear H
     go_wp2_with (first|(go_at_call 78;(with_reducible refine(spec_l3At.calls k1 _ _ l0 a1 true _ ?s1 ?s2 A6.out).mono ?_);(case s1=>exact z6_);(case s2=>exact HC0.out);rintro e w9 ⟨rfl,hb⟩;replace HO_5:=am_ (R_below z8_ hb);replace HB:=am_ (below_step z0_ hb);(try clear hb))|(go_at_call 60;(with_reducible refine(spec_EndOf.calls k1 _ _ l0 a1 thf _ ?s1 ?s2 A8.out).mono ?_);(case s1=>exact z6_);(case s2=>exact HC0.out);rintro e w10 ⟨rfl,hb⟩;replace HO_5:=am_ (R_below z8_ hb);replace HB:=am_ (below_step z0_ hb);(try clear hb)))
     go_meet
     case rel=>exact⟨_,(decide (x6_1<thf)),z9_,H',⟨z351_⟩,⟨z8_⟩,⟨z0_⟩⟩
    ·replace c7:=Bool.eq_false_iff.mpr c7;subst c7;replace H:=iff_ H;have H':=am_ H;clear H
     go_wp2_with ((go_at_call 78;(with_reducible refine(spec_l3At.calls k1 _ _ l0 a1 false _ ?s1 ?s2 A6.out).mono ?_);(case s1=>exact z6_);(case s2=>exact HC0.out);rintro e w11 ⟨rfl,hb⟩;replace HO_5:=am_ (R_below z8_ hb);replace HB:=am_ (below_step z0_ hb);(try clear hb)))
     go_meet
     case rel=>exact⟨_,(false),z9_,H',⟨z351_⟩,⟨z8_⟩,⟨z0_⟩⟩
   case rest=>
    clear HC5;obtain⟨kq,x19_4,rfl,HA,HJ4,HO_5,HB⟩:=hcut;cases kq with
    |zero=>exact absurd HA.out (by simp[spec_KidsOf.j1])
    | succ kj4=>
     have H:=HA.out;clear HA;simp only[spec_KidsOf.j1] at H;by_cases c12:x19_4=true
     ·subst c12;replace H:=ift_ H;obtain⟨c13b0,H⟩:=ifd_ H;obtain⟨c14b0,H⟩:=ifd_ H;obtain⟨c15b0,H⟩:=ifd_ H;obtain⟨c16b0,H⟩:=ifd_ H;by_cases c17:((rd_T61 l0 x6_1).f1)=(wrap64 (((rd_T61 l0 a1).f1)+1))
      ·rw[if_pos c17] at H;have c17b0:(((rd_T61 l0 x6_1).f1)==(wrap64 (((rd_T61 l0 a1).f1)+1)))=true:=beq_iff_eq.mpr c17;have c17b1:(((rd_T61 l0 x6_1).f1) != (wrap64 (((rd_T61 l0 a1).f1)+1)))=false:=bne_eq_false_iff_eq.mpr c17;clear c17;obtain⟨c18,H⟩:=ifs_ H;have LMc18:=am_ c18;clear c18
       (generalize hy_:((x5_1++[x6_1]):List Int)=yhM at H;have NyhM:=am_ hy_.symm;clear hy_)
       have H':=am_ H;clear H;obtain⟨pcZ,qcZ,adcZ,ecZ,hxcZ_0,hxcZ_1⟩:=atb61_ HR0 HB x6_1;cases ecZ;obtain⟨pc0,qc0,adc0,ec0,hxc0_0,hxc0_1⟩:=atb61_ HR0 HB a1;obtain rfl:adcZ=adc0:=(by injection ec0)
       go_wp2
       repeat(go_quiet (fail);try go_wp2_with (((with_reducible refine gate_builtin (b:= .append) (xs:=#[.tmp 34,.tmp 36]) rfl ?_);at_builtin;refine R_append (Kd.int .i64) (w0:=w) w.heap.size rfl (.tmp 34) (.tmp 36) 30 3 (.int .i64 0) 8 rfl Try.underlying30 info3 rfl (by decide) (by omega) u5 x5_1 x6_1 [.int .i64 x6_1] (fun _=>True) (fun _=>False) rfl rfl ?aP (fun _ hk=>hk.elim) ?aF ?aO ?aB ?aS ?aL ?_;(case aP=>exact rfl);(case aB=>exact z60_);(case aF=>exact z330_);(case aO=>exact z112_);(case aS=>exact z55_);(case aL=>exact z379_);intro vld w19 ho hb hg hat;rw[←NyhM.out] at ho;replace HB:=am_ (hb);have HOjZ:=am_ (ho);clear HO_5;clear ho hb hg hat)))
       go_roundg kj4
       case measure=>have:=HK1.out;have:=HJ4.out;omega
       case rel=>exact⟨(yhM),(wrap64 (x6_1+1)),z9_,H',⟨by have:=HK1.out;have:=HJ4.out;omega⟩,⟨by exact ur_ HOjZ.out⟩,⟨z0_⟩⟩
      ·rw[if_neg c17] at H;have c17b0:(((rd_T61 l0 x6_1).f1)==(wrap64 (((rd_T61 l0 a1).f1)+1)))=false:=beq_eq_false_iff_ne.mpr c17;have c17b1:(((rd_T61 l0 x6_1).f1) != (wrap64 (((rd_T61 l0 a1).f1)+1)))=true:=bne_iff_ne.mpr c17;have H':=am_ H;clear H;obtain⟨pcZ,qcZ,adcZ,ecZ,hxcZ_0,hxcZ_1⟩:=atb61_ HR0 HB x6_1;cases ecZ;obtain⟨pc0,qc0,adc0,ec0,hxc0_0,hxc0_1⟩:=atb61_ HR0 HB a1;obtain rfl:adcZ=adc0:=(by injection ec0)
       go_wp2
       repeat(go_quiet (fail);try go_wp2)
       go_roundg kj4
       case measure=>have:=HK1.out;have:=HJ4.out;omega
       case rel=>exact⟨(x5_1),(wrap64 (x6_1+1)),z9_,H',⟨by have:=HK1.out;have:=HJ4.out;omega⟩,⟨z8_⟩,⟨z0_⟩⟩
     ·replace c12:=Bool.eq_false_iff.mpr c12;subst c12;replace H:=iff_ H;obtain rfl:=Option.some.inj H;go_wp2;go_ret;exact⟨_,z7_,z8_,z0_⟩

/-! ### spec_l6Post: function 97 -/
mutual
def spec_l6Post.l0:Nat→List (S61)→Int→List Int→List Int→Int→Option (List Int)
 |0,_,_,_,_,_=>none
 |k+1,x0,x1,x5,x6,x7=>if x7<(x6.length:Int) then (if 0≤x7 then ((spec_l6Post.f k x0 (rd x6 x7)).bind fun tfj=>(if x5.length+tfj.length<17592186044416 then (spec_l6Post.l0 k x0 x1 (x5++tfj) x6 (wrap64 (x7+1))) else (none))) else (none)) else (if x5.length<17592186044416 then (some (x5++[x1])) else (none))
def spec_l6Post.f:Nat→List (S61)→Int→Option (List Int)
 |0,_,_=>none
 |k+1,l0,a1=>(spec_KidsOf.f k l0 a1).bind fun tdt=>(spec_l6Post.l0 k l0 a1 (([]:List Int)) tdt 0)
end
theorem spec_l6Post.calls (k:Nat):∀(A0:Option Addr) (c0:Nat) (l0:List (S61)) (a1:Int) (r:List Int) (w:World) (hr0:Kd.C k61 w A0 l0.length l0) (hc0:l0.length≤c0) (h:spec_l6Post.f k l0 a1=some r),
  Calls Try.prog 97 #[.slice A0 l0.length c0,.int .i64 a1] w fun e w'=>∃v0_:Value,e= .returned (v0_)∧RI_ w' w.heap.size (fun _=>True) v0_ r∧Below w.heap.size w w':=by
 induction k using Nat.strongRecOn with
 |_ k ih=>
 intro A0 c0 l0 a1 r w hr0 hc0 h;cases k with
 |zero=>exact absurd h (by simp[spec_l6Post.f])
 |succ k=>
 simp only[spec_l6Post.f] at h;have HR0:=am_ hr0;have HC0:=am_ hc0;clear hr0 hc0;have HB:=am_ (Below.refl w.heap.size w);have H:((spec_KidsOf.f k l0 a1).bind fun tdt=>(spec_l6Post.l0 k l0 a1 (([]:List Int)) tdt 0))=some r:=h;clear h
 (generalize hy_:((([]:List Int)):List Int)=yhN at H;have NyhN:=am_ hy_.symm;clear hy_)
 obtain⟨tdt,A3,H⟩:=bnd_ H;have H':=am_ H;clear H;go_enter Try.func97,Try.ntmps97
 go_wp2_with (first|((with_reducible refine gate_dst (N:=8) rfl ?_);refine R_lit (Kd.int .i64) _ 3 ?hg (N:=8) ?hd (xs:=([]:List Int)) (inner:=[]) (ok:=fun _=>True) (okp:=fun _=>True) ?hr ?hp (fun _ hk=>hk) trivial (Below.refl _ _) (Nat.le_refl _) (by simp) ?_;(case hd=>rfl);(case hg=>rfl);(case hr=>exact z14_);(case hp=>exact z276_);intro vle w4 ho5 hb hg_ hnew_;clear hg_ hnew_;(rw[←NyhN.out] at ho5);have HOhG:=am_ (R_lower ho5 (below_size z0_));replace HB:=am_ (below_step z0_ hb);clear hb ho5)|((with_reducible refine gate_callee (f:=101) rfl ?_);refine goesL_ (some 11) rfl rfl Try.func101 y0_ rfl #[.slice A0 l0.length c0,.int .i64 a1] rfl z1_ ?_;(with_reducible refine(spec_KidsOf.calls k _ _ l0 a1 tdt _ ?s1 ?s2 A3.out).mono ?_);(case s1=>exact z6_);(case s2=>exact HC0.out);rintro e w6 ⟨viX,rfl,ho0,hb⟩;refine⟨_,rfl,?_⟩;have HOj0:=am_ (R_lower (R_new' ho0 (R_lt z348_)) (below_size z0_));replace HOhG:=am_ (R_elder' z348_ (R_base ho0) hb);replace HB:=am_ (below_step z0_ hb);(try clear hb ho0)))
 go_loopg [5,7] k (fun kq v5 v7 w'=>∃(x5_1:List Int) (x7_1:Int),v7= .int .i64 x7_1∧Aside0 (spec_l6Post.l0 kq l0 a1 x5_1 tdt x7_1=some r)∧Aside0 (kq≤k)∧Aside0 (RI_ w' w.heap.size (nb1_ viX) v5 x5_1)∧Aside0 (RI_ w' w.heap.size (nb1_ v5) viX tdt)∧Aside0 (Below w.heap.size w w'))
 case atStart=>exact⟨(yhN),(0),z9_,H',⟨Nat.le_refl _⟩,⟨by exact ur_ (R_mono HOhG.out (fun _ hk=>hk.2))⟩,⟨by exact ur_ (R_mono HOj0.out (fun _ hk=>hk.2))⟩,⟨z0_⟩⟩
 case round=>
  clear H';obtain⟨x5_1,x7_1,rfl,HA,HK1,HO_5,HO_6,HB⟩:=hrel;cases gk with
  |zero=>exact absurd HA.out (by simp[spec_l6Post.l0])
  | succ k1=>
   have H:=HA.out;clear HA;simp only[spec_l6Post.l0] at H;by_cases c7:x7_1<(tdt.length:Int)
   ·rw[if_pos c7] at H;have c7b0:=decide_eq_true c7;clear c7;obtain⟨c8b0,H⟩:=ifd_ H;obtain⟨tfj,A9,H⟩:=bnd_ H;obtain⟨c10,H⟩:=ifs_ H;have LMc10:=am_ c10;clear c10
    (generalize hy_:((x5_1++tfj):List Int)=yhO at H;have NyhO:=am_ hy_.symm;clear hy_)
    have H':=am_ H;clear H;obtain⟨Ao11,co11,eo11⟩:=R_slice HO_6.out;subst eo11;have pdO:0≤(x7_1:Int):=odt_;have qdO:x7_1<(tdt.length:Int):=odt_;obtain⟨addO,edO,hxdO_0⟩:=at_int (R_reads' HO_6.out).2.2 x7_1 pdO qdO;cases edO;replace pdO:=eq_true pdO;replace qdO:=eq_true qdO
    go_wp2_with (first|((with_reducible refine gate_callee (f:=97) rfl ?_);refine goesL_ (some 24) rfl rfl Try.func97 y0_ rfl #[.slice A0 l0.length c0,.int .i64 (rd tdt x7_1)] rfl z1_ ?_;(with_reducible refine(ih k1 z170_ _ _ l0 (rd tdt x7_1) tfj _ ?s1 ?s2 A9.out).mono ?_);(case s1=>exact z6_);(case s2=>exact HC0.out);rintro e w12 ⟨vlf,rfl,ho0,hb⟩;refine⟨_,rfl,?_⟩;have HOgo:=am_ (R_lower (R_new' (R_new' ho0 (R_lt z8_)) (R_lt z254_)) (below_size z0_));replace HO_5:=am_ (R_elder' z8_ (R_base ho0) hb);replace HO_6:=am_ (R_elder' z254_ (R_base ho0) hb);replace HB:=am_ (below_step z0_ hb);(try clear hb ho0);obtain⟨Ao14,co14,eo14⟩:=R_slice HOgo.out;subst eo14)|((with_reducible refine gate_builtin (b:= .append) (xs:=#[.tmp 18,.tmp 24]) rfl ?_);at_builtin;refine R_append_rows (Kd.int .i64) (w0:=w) w.heap.size rfl (.tmp 18) (.tmp 24) 30 3 (.int .i64 0) 8 rfl Try.underlying30 info3 rfl (by decide) (by omega) u5 x5_1 tfj _ _ _ (nb2_ (.slice (some addO) tdt.length co11) (.slice Ao14 tfj.length co14)) (fun _=>False) rfl rfl ?aO ?aR (fun _ _ h=>h) (fun _ h=>h.elim) ?aF ?aB ?aS ?aL ?_;(case aR=>repeat(exact(R_reads' HOgo.out).2.2));(case aB=>exact z60_);(case aF=>exact(fun k_ hk=>⟨Kd.fresh' (R_lt z254_) k_ hk,Kd.fresh' (R_lt (by exact ur_ HOgo.out)) k_ hk⟩));(case aO=>exact z112_);(case aS=>exact z55_);(case aL=>have:=LMc10.out;omega);intro vlg w13 ho hb hg hat;rw[←NyhO.out] at ho;replace HO_6:=am_ (R_after (ok:=(nb1_ (.slice Ao14 tfj.length co14))) (by exact ur_ (R_mono HO_6.out (fun _ hk=>⟨hk.2,hk.1⟩))) hg hat);replace HOgo:=am_ (R_after (ok:=(nb1_ (.slice (some addO) tdt.length co11))) (by exact ur_ (R_mono HOgo.out (fun _ hk=>⟨hk.2,hk.1.2⟩))) hg hat);replace HB:=am_ (hb);have HOj1:=am_ (ho);clear HO_5;clear ho hb hg hat))
    go_roundg k1
    case measure=>have:=HK1.out;omega
    case rel=>exact⟨(yhO),(wrap64 (x7_1+1)),z9_,H',⟨z170_⟩,⟨by exact ur_ (R_mono HOj1.out (fun _ hk=>hk.1))⟩,⟨by exact ur_ (R_mono HO_6.out (fun _ hk=>hk.2))⟩,⟨z0_⟩⟩
   ·rw[if_neg c7] at H;have c7b0:=decide_eq_false c7;clear c7;obtain⟨c15,H⟩:=ifs_ H;have LMc15:=am_ c15;clear c15
    (generalize hy_:((x5_1++[a1]):List Int)=yiY at H;have NyiY:=am_ hy_.symm;clear hy_)
    obtain rfl:=Option.some.inj H;obtain⟨Ao16,co16,eo16⟩:=R_slice HO_6.out;subst eo16
    go_wp2_with (((with_reducible refine gate_builtin (b:= .append) (xs:=#[.tmp 26,.tmp 28]) rfl ?_);at_builtin;refine R_append (Kd.int .i64) (w0:=w) w.heap.size rfl (.tmp 26) (.tmp 28) 30 3 (.int .i64 0) 8 rfl Try.underlying30 info3 rfl (by decide) (by omega) u5 x5_1 a1 [.int .i64 a1] (nb1_ (.slice Ao16 tdt.length co16)) (fun _=>False) rfl rfl ?aP (fun _ hk=>hk.elim) ?aF ?aO ?aB ?aS ?aL ?_;(case aP=>exact rfl);(case aB=>exact z60_);(case aF=>exact(fun k_ hk=>Kd.fresh' (R_lt z254_) k_ hk));(case aO=>exact z112_);(case aS=>exact z55_);(case aL=>have:=LMc15.out;omega);intro vhP w17 ho hb hg hat;rw[←NyiY.out] at ho;replace HO_6:=am_ (R_after (ok:=(fun _=>True)) (by exact ur_ (R_mono HO_6.out (fun _ hk=>⟨trivial,hk⟩))) hg hat);replace HB:=am_ (hb);have HOj2:=am_ (ho);clear HO_5;clear ho hb hg hat))
    go_ret;exact⟨_,z7_,by exact ur_ (R_mono HOj2.out (fun _ hk=>trivial)),z0_⟩

/-! ### spec_PostOrder: function 90 -/
def spec_PostOrder.f (k:Nat) (l0:List (S61)):Option (List Int):=(spec_TreeOk.f k l0).bind fun tgp=>(if tgp=true then ((spec_l6Post.f k l0 0).bind fun tgq=>(some tgq)) else (some (([]:List Int))))
theorem spec_PostOrder.calls (k:Nat) (A0:Option Addr) (c0:Nat) (l0:List (S61)) (r:List Int) (w:World) (hr0:Kd.C k61 w A0 l0.length l0) (hc0:l0.length≤c0) (h:spec_PostOrder.f k l0=some r):
  Calls Try.prog 90 #[.slice A0 l0.length c0] w fun e w'=>∃v0_:Value,e= .returned (v0_)∧RI_ w' w.heap.size (fun _=>True) v0_ r∧Below w.heap.size w w':=by
 have HR0:=am_ hr0;have HC0:=am_ hc0;clear hr0 hc0;have HB:=am_ (Below.refl w.heap.size w);have H:((spec_TreeOk.f k l0).bind fun tgp=>(if tgp=true then ((spec_l6Post.f k l0 0).bind fun tgq=>(some tgq)) else (some (([]:List Int)))))=some r:=h;clear h;obtain⟨tgp,A2,H⟩:=bnd_ H;by_cases c3:tgp=true
 ·subst c3;replace H:=ift_ H;obtain⟨tgq,A4,H⟩:=bnd_ H;obtain rfl:=Option.some.inj H;go_enter Try.func90,Try.ntmps90
  go_wp2_with (first|((with_reducible refine gate_callee (f:=28) rfl ?_);refine goesL_ (some 4) rfl rfl Try.func28 y0_ rfl #[.slice A0 l0.length c0] rfl z1_ ?_;(with_reducible refine(spec_TreeOk.calls k _ _ l0 true _ ?s1 ?s2 A2.out).mono ?_);(case s1=>exact z43_);(case s2=>exact HC0.out);rintro e w5 ⟨rfl,hb⟩;refine⟨_,rfl,?_⟩;replace HB:=am_ (below_step z0_ hb);(try clear hb))|((with_reducible refine gate_callee (f:=97) rfl ?_);refine goesL_ (some 8) rfl rfl Try.func97 y0_ rfl #[.slice A0 l0.length c0,.int .i64 0] rfl z1_ ?_;(with_reducible refine(spec_l6Post.calls k _ _ l0 0 tgq _ ?s1 ?s2 A4.out).mono ?_);(case s1=>exact z6_);(case s2=>exact HC0.out);rintro e w6 ⟨vlh,rfl,ho0,hb⟩;refine⟨_,rfl,?_⟩;have HOj3:=am_ (R_lower ho0 (below_size z0_));replace HB:=am_ (below_step z0_ hb);(try clear hb ho0)))
  go_ret;exact⟨_,z7_,by exact ur_ HOj3.out,z0_⟩
 ·replace c3:=Bool.eq_false_iff.mpr c3;subst c3;replace H:=iff_ H
  (generalize hy_:((([]:List Int)):List Int)=yiZ at H;have NyiZ:=am_ hy_.symm;clear hy_)
  obtain rfl:=Option.some.inj H;go_enter Try.func90,Try.ntmps90
  go_wp2_with (first|((with_reducible refine gate_callee (f:=28) rfl ?_);refine goesL_ (some 4) rfl rfl Try.func28 y0_ rfl #[.slice A0 l0.length c0] rfl z1_ ?_;(with_reducible refine(spec_TreeOk.calls k _ _ l0 false _ ?s1 ?s2 A2.out).mono ?_);(case s1=>exact z43_);(case s2=>exact HC0.out);rintro e w7 ⟨rfl,hb⟩;refine⟨_,rfl,?_⟩;replace HB:=am_ (below_step z0_ hb);(try clear hb))|((with_reducible refine gate_dst (N:=6) rfl ?_);refine R_lit (Kd.int .i64) _ 3 ?hg (N:=6) ?hd (xs:=([]:List Int)) (inner:=[]) (ok:=fun _=>True) (okp:=fun _=>True) ?hr ?hp (fun _ hk=>hk) trivial (Below.refl _ _) (Nat.le_refl _) (by simp) ?_;(case hd=>rfl);(case hg=>rfl);(case hr=>exact z14_);(case hp=>exact z276_);intro vli w8 ho9 hb hg_ hnew_;clear hg_ hnew_;(rw[←NyiZ.out] at ho9);have HOj4:=am_ (R_lower ho9 (below_size z0_));replace HB:=am_ (below_step z0_ hb);clear hb ho9))
  go_ret;exact⟨_,z7_,by exact ur_ HOj4.out,z0_⟩

/-! ### spec_l8Labels: function 80 -/
def spec_l8Labels.l0:Nat→List (S61)→List Int→List Int→Int→Option (List Int)
 |0,_,_,_,_=>none
 |k+1,x0,x3,x4,x5=>if x5<(x4.length:Int) then (if 0≤x5 then (if 0≤(rd x4 x5) then (if (rd x4 x5)<(x0.length:Int) then (if x3.length<17592186044416 then (spec_l8Labels.l0 k x0 (x3++[(rd_T61 x0 (rd x4 x5)).f0]) x4 (wrap64 (x5+1))) else (none)) else (none)) else (none)) else (none)) else (some x3)
def spec_l8Labels.f (k:Nat) (l0:List (S61)):Option (List Int):=(spec_PostOrder.f k l0).bind fun tdu=>(spec_l8Labels.l0 k l0 (([]:List Int)) tdu 0)
theorem spec_l8Labels.calls (k:Nat) (A0:Option Addr) (c0:Nat) (l0:List (S61)) (r:List Int) (w:World) (hr0:Kd.C k61 w A0 l0.length l0) (hc0:l0.length≤c0) (h:spec_l8Labels.f k l0=some r):
  Calls Try.prog 80 #[.slice A0 l0.length c0] w fun e w'=>∃v0_:Value,e= .returned (v0_)∧RI_ w' w.heap.size (fun _=>True) v0_ r∧Below w.heap.size w w':=by
 have HR0:=am_ hr0;have HC0:=am_ hc0;clear hr0 hc0;have HB:=am_ (Below.refl w.heap.size w);have H:((spec_PostOrder.f k l0).bind fun tdu=>(spec_l8Labels.l0 k l0 (([]:List Int)) tdu 0))=some r:=h;clear h
 (generalize hy_:((([]:List Int)):List Int)=yhQ at H;have NyhQ:=am_ hy_.symm;clear hy_)
 obtain⟨tdu,A2,H⟩:=bnd_ H;have H':=am_ H;clear H;go_enter Try.func80,Try.ntmps80
 go_wp2_with (first|((with_reducible refine gate_dst (N:=6) rfl ?_);refine R_lit (Kd.int .i64) _ 3 ?hg (N:=6) ?hd (xs:=([]:List Int)) (inner:=[]) (ok:=fun _=>True) (okp:=fun _=>True) ?hr ?hp (fun _ hk=>hk) trivial (Below.refl _ _) (Nat.le_refl _) (by simp) ?_;(case hd=>rfl);(case hg=>rfl);(case hr=>exact z14_);(case hp=>exact z276_);intro vf0 w3 ho4 hb hg_ hnew_;clear hg_ hnew_;(rw[←NyhQ.out] at ho4);have HOhH:=am_ (R_lower ho4 (below_size z0_));replace HB:=am_ (below_step z0_ hb);clear hb ho4)|((with_reducible refine gate_callee (f:=90) rfl ?_);refine goesL_ (some 8) rfl rfl Try.func90 y0_ rfl #[.slice A0 l0.length c0] rfl z1_ ?_;(with_reducible refine(spec_PostOrder.calls k _ _ l0 tdu _ ?s1 ?s2 A2.out).mono ?_);(case s1=>exact z6_);(case s2=>exact HC0.out);rintro e w5 ⟨vi0,rfl,ho0,hb⟩;refine⟨_,rfl,?_⟩;have HOj5:=am_ (R_lower (R_new' ho0 (R_lt z349_)) (below_size z0_));replace HOhH:=am_ (R_elder' z349_ (R_base ho0) hb);replace HB:=am_ (below_step z0_ hb);(try clear hb ho0)))
 go_loopg [3,5] k (fun kq v3 v5 w'=>∃(x3_1:List Int) (x5_1:Int),v5= .int .i64 x5_1∧Aside0 (spec_l8Labels.l0 kq l0 x3_1 tdu x5_1=some r)∧Aside0 (kq≤k)∧Aside0 (RI_ w' w.heap.size (nb1_ vi0) v3 x3_1)∧Aside0 (RI_ w' w.heap.size (nb1_ v3) vi0 tdu)∧Aside0 (Below w.heap.size w w'))
 case atStart=>exact⟨(yhQ),(0),z9_,H',⟨Nat.le_refl _⟩,⟨by exact ur_ (R_mono HOhH.out (fun _ hk=>hk.2))⟩,⟨by exact ur_ (R_mono HOj5.out (fun _ hk=>hk.2))⟩,⟨z0_⟩⟩
 case round=>
  clear H';obtain⟨x3_1,x5_1,rfl,HA,HK1,HO_3,HO_4,HB⟩:=hrel;cases gk with
  |zero=>exact absurd HA.out (by simp[spec_l8Labels.l0])
  | succ k1=>
   have H:=HA.out;clear HA;simp only[spec_l8Labels.l0] at H;by_cases c6:x5_1<(tdu.length:Int)
   ·rw[if_pos c6] at H;have c6b0:=decide_eq_true c6;clear c6;obtain⟨c7b0,H⟩:=ifd_ H;obtain⟨c8b0,H⟩:=ifd_ H;obtain⟨c9b0,H⟩:=ifd_ H;obtain⟨c10,H⟩:=ifs_ H;have LMc10:=am_ c10;clear c10
    (generalize hy_:((x3_1++[(rd_T61 l0 (rd tdu x5_1)).f0]):List Int)=yhR at H;have NyhR:=am_ hy_.symm;clear hy_)
    have H':=am_ H;clear H;obtain⟨Ao11,co11,eo11⟩:=R_slice HO_4.out;subst eo11;have pd4:0≤(x5_1:Int):=odt_;have qd4:x5_1<(tdu.length:Int):=odt_;obtain⟨add4,ed4,hxd4_0⟩:=at_int (R_reads' HO_4.out).2.2 x5_1 pd4 qd4;cases ed4;replace pd4:=eq_true pd4;replace qd4:=eq_true qd4;obtain⟨pf1,qf1,adf1,ef1,hxf1_0,hxf1_1⟩:=atb61_ HR0 HB (rd tdu x5_1);cases ef1
    go_wp2_with (((with_reducible refine gate_builtin (b:= .append) (xs:=#[.tmp 15,.tmp 24]) rfl ?_);at_builtin;refine R_append (Kd.int .i64) (w0:=w) w.heap.size rfl (.tmp 15) (.tmp 24) 30 3 (.int .i64 0) 8 rfl Try.underlying30 info3 rfl (by decide) (by omega) u3 x3_1 ((rd_T61 l0 (rd tdu x5_1)).f0) [.int .i64 ((rd_T61 l0 (rd tdu x5_1)).f0)] (nb1_ (.slice (some add4) tdu.length co11)) (fun _=>False) rfl rfl ?aP (fun _ hk=>hk.elim) ?aF ?aO ?aB ?aS ?aL ?_;(case aP=>exact rfl);(case aB=>exact z60_);(case aF=>exact z152_);(case aO=>exact z131_);(case aS=>exact z55_);(case aL=>have:=LMc10.out;omega);intro vlj w12 ho hb hg hat;rw[←NyhR.out] at ho;replace HO_4:=am_ (R_after (ok:=(fun _=>True)) z200_ hg hat);replace HB:=am_ (hb);have HOj6:=am_ (ho);clear HO_3;clear ho hb hg hat))
    go_roundg k1
    case measure=>have:=HK1.out;omega
    case rel=>exact⟨(yhR),(wrap64 (x5_1+1)),z9_,H',⟨z170_⟩,⟨by exact ur_ HOj6.out⟩,⟨z334_⟩,⟨z0_⟩⟩
   ·rw[if_neg c6] at H;have c6b0:=decide_eq_false c6;clear c6;obtain rfl:=Option.some.inj H;obtain⟨Ao13,co13,eo13⟩:=R_slice HO_4.out;subst eo13;go_wp2;go_ret;exact⟨_,z7_,z203_,z0_⟩

/-! ### spec_RankOf: function 91 -/
def spec_RankOf.l0:Nat→List Int→List Int→Int→Option (List Int)
 |0,_,_,_=>none
 |k+1,x3,x4,x5=>if x5<(x3.length:Int) then (if 0≤x5 then (if 0≤(rd x3 x5) then (if (rd x3 x5)<(x4.length:Int) then (spec_RankOf.l0 k x3 (x4.set ((rd x3 x5):Int).toNat x5) (wrap64 (x5+1))) else (none)) else (none)) else (none)) else (some x4)
def spec_RankOf.f (k:Nat) (l0:List (S61)):Option (List Int):=(spec_PostOrder.f k l0).bind fun tby=>(if 0≤(tby.length:Int) then (if ((tby.length:Int):Int).toNat≤35184372088832 then (spec_RankOf.l0 k tby (List.replicate ((tby.length:Int):Int).toNat 0) 0) else (none)) else (none))
theorem spec_RankOf.calls (k:Nat) (A0:Option Addr) (c0:Nat) (l0:List (S61)) (r:List Int) (w:World) (hr0:Kd.C k61 w A0 l0.length l0) (hc0:l0.length≤c0) (h:spec_RankOf.f k l0=some r):
  Calls Try.prog 91 #[.slice A0 l0.length c0] w fun e w'=>∃v0_:Value,e= .returned (v0_)∧RI_ w' w.heap.size (fun _=>True) v0_ r∧Below w.heap.size w w':=by
 have HR0:=am_ hr0;have HC0:=am_ hc0;clear hr0 hc0;have HB:=am_ (Below.refl w.heap.size w);have H:((spec_PostOrder.f k l0).bind fun tby=>(if 0≤(tby.length:Int) then (if ((tby.length:Int):Int).toNat≤35184372088832 then (spec_RankOf.l0 k tby (List.replicate ((tby.length:Int):Int).toNat 0) 0) else (none)) else (none)))=some r:=h;clear h;obtain⟨tby,A2,H⟩:=bnd_ H;obtain⟨c3b0,c3b1,H⟩:=ife_ H;obtain⟨c4b0,c4b1,H⟩:=ife_ H
 (generalize hy_:((List.replicate ((tby.length:Int):Int).toNat 0):List Int)=yhS at H;have NyhS:=am_ hy_.symm;clear hy_)
 have H':=am_ H;clear H;go_enter Try.func91,Try.ntmps91
 go_wp2_with (first|((with_reducible refine gate_callee (f:=90) rfl ?_);refine goesL_ (some 7) rfl rfl Try.func90 y0_ rfl #[.slice A0 l0.length c0] rfl z1_ ?_;(with_reducible refine(spec_PostOrder.calls k _ _ l0 tby _ ?s1 ?s2 A2.out).mono ?_);(case s1=>exact z43_);(case s2=>exact HC0.out);rintro e w5 ⟨vlk,rfl,ho0,hb⟩;refine⟨_,rfl,?_⟩;have HOhb:=am_ (R_lower ho0 (below_size z0_));replace HB:=am_ (below_step z0_ hb);(try clear hb ho0);obtain⟨Ao6,co6,eo6⟩:=R_slice HOhb.out;subst eo6)|((with_reducible refine gate_dst (N:=10) rfl ?_);refine R_make (Kd.int .i64) _ 3 rfl (N:=10) rfl 30 _ _ rfl (tby.length:Int) rfl rfl Try.underlying30 (.int .i64 0) 8 info3 rfl (by decide) (by omega) 0 (ok:=fun _=>True) (okp:=fun _=>True) rfl (fun _ hk=>hk) trivial (odt_) (Nat.le_trans (Nat.mul_le_mul_right _ (odt_:(tby.length:Int).toNat≤35184372088832)) (by omega)) (Below.refl _ _) (Nat.le_refl _) ?_;intro vi1 w7 ho8 hb hg_ hnew_;clear hg_ hnew_;(rw[←NyhS.out] at ho8);have HOj7:=am_ (R_lower (R_new' ho8 (R_lt z350_)) (below_size z0_));replace HOhb:=am_ (R_elder' z350_ (R_base ho8) hb);replace HB:=am_ (below_step z0_ hb);clear hb ho8))
 go_loopg [5] k (fun kq v5 w'=>∃(x4_1:List Int) (x5_1:Int),v5= .int .i64 x5_1∧Aside0 (spec_RankOf.l0 kq tby x4_1 x5_1=some r)∧Aside0 (kq≤k)∧Aside0 (RI_ w' w.heap.size (nb1_ vi1) (.slice Ao6 tby.length co6) tby)∧Aside0 (RI_ w' w.heap.size (nb1_ (.slice Ao6 tby.length co6)) vi1 x4_1)∧Aside0 (Below w.heap.size w w'))
 case atStart=>exact⟨(yhS),(0),z9_,H',⟨Nat.le_refl _⟩,⟨by exact ur_ (R_mono HOhb.out (fun _ hk=>hk.2))⟩,⟨by exact ur_ (R_mono HOj7.out (fun _ hk=>hk.2))⟩,⟨z0_⟩⟩
 case round=>
  clear H';obtain⟨x4_1,x5_1,rfl,HA,HK1,HO_3,HO_4,HB⟩:=hrel;cases gk with
  |zero=>exact absurd HA.out (by simp[spec_RankOf.l0])
  | succ k1=>
   have H:=HA.out;clear HA;simp only[spec_RankOf.l0] at H;by_cases c9:x5_1<(tby.length:Int)
   ·rw[if_pos c9] at H;have c9b0:=decide_eq_true c9;clear c9;obtain⟨c10b0,H⟩:=ifd_ H;obtain⟨c11b0,H⟩:=ifd_ H;obtain⟨c12b0,H⟩:=ifd_ H
    (generalize hy_:((x4_1.set ((rd tby x5_1):Int).toNat x5_1):List Int)=yhe at H;have Nyhe:=am_ hy_.symm;clear hy_)
    have H':=am_ H;clear H;have pd5:0≤(x5_1:Int):=odt_;have qd5:x5_1<(tby.length:Int):=odt_;obtain⟨add5,ed5,hxd5_0⟩:=at_int (R_reads' HO_3.out).2.2 x5_1 pd5 qd5;cases ed5;replace pd5:=eq_true pd5;replace qd5:=eq_true qd5;have p13:0≤((rd tby x5_1):Int):=odt_;have q13:((rd tby x5_1):Int)<((x4_1.length:Int):Int):=odt_;obtain⟨go13,co13,eo13,gb13,gl13,cl13,HG13⟩:=R_form HO_4.out (by omega)
    (cases eo13)
    have GB13:=am_ gb13;have GG13:=am_ HG13;clear gb13 gl13 HG13;obtain⟨hx13_0,hf13_0⟩:=R_celln 0 HO_4.out ((rd tby x5_1):Int) p13 q13;replace p13:=eq_true p13;replace q13:=eq_true q13;have HP14:=R_putg HO_4.out ((rd tby x5_1):Int) x5_1
    go_wp2_with (((with_reducible refine gate_store (t:=3) (p:=23) rfl ?_);refine store_event (t:=3) (p:=23) (v:=?vo_w15) (w1:=(wr.setCell ⟨go13,((rd tby x5_1):Int).toNat,none⟩ (.int .i64 x5_1))) ?hg ?ho ?hn ?hr ?_;(case ho=>rfl);(case hg=>rfl);(case hn=>rfl);(case hr=>exact z14_);intro w15 hw;have hg:wr.grownBy w15 (some go13):=(by rw[hw];exact HP14.2);have hp_:RI_ w15 w.heap.size (nb1_ (.slice (some add5) tby.length co6)) (.slice (some ⟨go13,0,none⟩) x4_1.length co13) yhe:=(by rw[hw,Nyhe.out];exact HP14.1);clear HP14;replace HO_3:=am_ (R_after (v:=(.slice (some ⟨go13,0,none⟩) x4_1.length co13)) (v1:=(.slice (some ⟨go13,0,none⟩) x4_1.length co13)) (ok:=(fun _=>True)) (by exact ur_ (R_mono HO_3.out (fun _ hk=>⟨trivial,hk⟩))) hg (.inl rfl));replace HO_4:=am_ (hp_);replace HB:=am_ ((by rw[hw];exact below_set (HB.out) GB13.out:Below w.heap.size w w15));clear hg hw hp_))
    go_roundg k1
    case measure=>have:=HK1.out;omega
    case rel=>exact⟨(yhe),(wrap64 (x5_1+1)),z9_,H',⟨z170_⟩,⟨by exact ur_ (R_mono HO_3.out (fun _ hk=>hk.2))⟩,⟨z27_⟩,⟨z0_⟩⟩
   ·rw[if_neg c9] at H;have c9b0:=decide_eq_false c9;clear c9;obtain rfl:=Option.some.inj H;go_wp2;go_ret;exact⟨_,z7_,z260_,z0_⟩

end Go.Proofs.Ytbmkobanpakohaa.PFnNear
