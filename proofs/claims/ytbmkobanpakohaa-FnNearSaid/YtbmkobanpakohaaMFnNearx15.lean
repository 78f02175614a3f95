/- Walks of functions of FnNear, laid anew out of the kit's print. -/
import Derived.Test.YtbmkobanpakohaaMFnNearx0
import Derived.Test.YtbmkobanpakohaaMFnNearx7
import Derived.Test.YtbmkobanpakohaaMFnNearx9
import Derived.Test.YtbmkobanpakohaaMFnNearx14
namespace Go.Proofs.Ytbmkobanpakohaa.PFnNear
open Go.RowKit Go.Proofs.YtbmkobanpakohaaW.PrintWords Go.Proofs.YtbmkobanpakohaaW.PrintLast Go.Proofs.YtbmkobanpakohaaW.PrintMore Go.Proofs.YtbmkobanpakohaaW.PrintWords.Kd Go.Proofs.YtbmkobanpakohaaW.PrintMore.Kd
set_option maxHeartbeats 8000000
set_option maxRecDepth 100000
attribute [local go_sem] max2_int min2_int max_two min_two max_three min_three max_four min_four
set_option linter.unusedVariables false
set_option linter.unusedSimpArgs false

/-! ### spec_RelCost: function 63 -/
def spec_RelCost.f (k:Nat) (l0_0:List Int) (l0_1:List Int) (l0_2:List Int) (a1:Int) (a2:Int):Option (Int):=(spec_CostOk.f k l0_0 l0_1 l0_2).bind fun tgw=>(if tgw=true then ((spec_LabelOk.f a1).bind fun tgx=>(if tgx=true then ((spec_LabelOk.f a2).bind fun tgy=>(if tgy=true then (if 0≤(wrap64 ((wrap64 (a1*6))+a2)) then (if (wrap64 ((wrap64 (a1*6))+a2))<(l0_2.length:Int) then (some (rd l0_2 (wrap64 ((wrap64 (a1*6))+a2)))) else (none)) else (none)) else (some 0))) else (some 0))) else (some 0))
theorem spec_RelCost.calls (k:Nat) (A0_0:Option Addr) (c0_0:Nat) (l0_0:List Int) (A0_1:Option Addr) (c0_1:Nat) (l0_1:List Int) (A0_2:Option Addr) (c0_2:Nat) (l0_2:List Int) (a1:Int) (a2:Int) (r:Int) (w:World) (hr0_0:Kd.C (Kd.int .i64) w A0_0 l0_0.length l0_0) (hc0_0:l0_0.length≤c0_0) (hr0_1:Kd.C (Kd.int .i64) w A0_1 l0_1.length l0_1) (hc0_1:l0_1.length≤c0_1) (hr0_2:Kd.C (Kd.int .i64) w A0_2 l0_2.length l0_2) (hc0_2:l0_2.length≤c0_2) (h:spec_RelCost.f k l0_0 l0_1 l0_2 a1 a2=some r):
  Calls Try.prog 63 #[.agg #[.slice A0_0 l0_0.length c0_0,.slice A0_1 l0_1.length c0_1,.slice A0_2 l0_2.length c0_2],.int .i64 a1,.int .i64 a2] w fun e w'=>e= .returned (.int .i64 r)∧Below w.heap.size w w':=by
 have hu38:=Try.underlying38;have HR0_0:=am_ hr0_0;have HC0_0:=am_ hc0_0;clear hr0_0 hc0_0;have HR0_1:=am_ hr0_1;have HC0_1:=am_ hc0_1;clear hr0_1 hc0_1;have HR0_2:=am_ hr0_2;have HC0_2:=am_ hc0_2;clear hr0_2 hc0_2;have HB:=am_ (Below.refl w.heap.size w);have H:((spec_CostOk.f k l0_0 l0_1 l0_2).bind fun tgw=>(if tgw=true then ((spec_LabelOk.f a1).bind fun tgx=>(if tgx=true then ((spec_LabelOk.f a2).bind fun tgy=>(if tgy=true then (if 0≤(wrap64 ((wrap64 (a1*6))+a2)) then (if (wrap64 ((wrap64 (a1*6))+a2))<(l0_2.length:Int) then (some (rd l0_2 (wrap64 ((wrap64 (a1*6))+a2)))) else (none)) else (none)) else (some 0))) else (some 0))) else (some 0)))=some r:=h;clear h;obtain⟨tgw,A4,H⟩:=bnd_ H;go_enter Try.func63,Try.ntmps63
 go_upto_region 1 with (((with_reducible refine gate_dst (N:=3) rfl ?_);refine box_event ?hg (N:=3) ?hd (cs:=#[.slice A0_0 l0_0.length c0_0,.slice A0_1 l0_1.length c0_1,.slice A0_2 l0_2.length c0_2]) (t:=38) ?hr ?_;(case hd=>rfl);(case hg=>rfl);(case hr=>exact z14_);intro gbdL hg w13 hbox hb;have BKdL:=am_ (hbox);have GWdL:=am_ ((by rw[hg];exact(below_size z0_):w.heap.size≤gbdL));have GEdL:=am_ ((by rw[hg];exact(below_size z0_):w.heap.size≤gbdL));replace HB:=am_ (below_step z0_ hb);clear hb hbox hg;obtain⟨hcz14_0,hcz14_1,hcz14_2,hfz14_0,hfz14_1,hfz14_2⟩:=bx3_ BKdL.out))
 by_cases c5:tgw=true
 ·subst c5;replace H:=ift_ H;obtain⟨tgx,A6,H⟩:=bnd_ H;by_cases c7:tgx=true
  ·subst c7;replace H:=ift_ H;obtain⟨tgy,A8,H⟩:=bnd_ H;by_cases c9:tgy=true
   ·subst c9;replace H:=ift_ H;obtain⟨ji10,hji10⟩:∃j_:Int,(wrap64 ((wrap64 (a1*6))+a2))=j_:=⟨_,rfl⟩
    rw[hji10] at H;have hji10w:(IntKind.i64.wrap ((wrap64 (a1*6))+a2))=ji10:=(i64_w _).trans hji10;obtain⟨c11b0,H⟩:=ifd_ H;obtain⟨c12b0,H⟩:=ifd_ H;obtain rfl:=Option.some.inj H
    go_wp2_with (first|((with_reducible refine gate_callee (f:=79) rfl ?_);refine goesL_ (some 8) rfl rfl Try.func79 y0_ rfl #[.agg #[.slice A0_0 l0_0.length c0_0,.slice A0_1 l0_1.length c0_1,.slice A0_2 l0_2.length c0_2]] rfl z1_ ?_;(with_reducible refine(spec_CostOk.calls k _ _ l0_0 _ _ l0_1 _ _ l0_2 true _ ?s1 ?s2 ?s3 ?s4 ?s5 ?s6 A4.out).mono ?_);(case s1=>exact z44_);(case s2=>exact HC0_0.out);(case s3=>exact z102_);(case s4=>exact HC0_1.out);(case s5=>exact z103_);(case s6=>exact HC0_2.out);rintro e w15 ⟨rfl,hb⟩;refine⟨_,rfl,?_⟩;replace BKdL:=am_ (blk_below z240_ hb);replace HB:=am_ (below_step z110_ hb);(try clear hb))|(go_at_call 54;(with_reducible refine(spec_LabelOk.calls a1 true _ A6.out).mono ?_);rintro e w' ⟨rfl,⟨nd,rfl⟩⟩)|(go_at_call 54;(with_reducible refine(spec_LabelOk.calls a2 true _ A8.out).mono ?_);rintro e w' ⟨rfl,⟨nd,rfl⟩⟩;obtain⟨hcz16_0,hcz16_1,hcz16_2,hfz16_0,hfz16_1,hfz16_2⟩:=bx3_ BKdL.out;have pdy:0≤((ji10):Int):=odt_;have qdy:(ji10)<(l0_2.length:Int):=odt_;obtain⟨addy,edy,hxdy_0⟩:=at_int HR0_2.out (ji10) pdy qdy;cases edy;replace hxdy_0:=(HB.out.cell (bc_ w _ hxdy_0)).trans hxdy_0;replace pdy:=eq_true pdy;replace qdy:=eq_true qdy))
    go_ret;exact⟨z290_,z110_⟩
   ·replace c9:=Bool.eq_false_iff.mpr c9;subst c9;replace H:=iff_ H;obtain rfl:=Option.some.inj H
    go_wp2_with (first|((with_reducible refine gate_callee (f:=79) rfl ?_);refine goesL_ (some 8) rfl rfl Try.func79 y0_ rfl #[.agg #[.slice A0_0 l0_0.length c0_0,.slice A0_1 l0_1.length c0_1,.slice A0_2 l0_2.length c0_2]] rfl z1_ ?_;(with_reducible refine(spec_CostOk.calls k _ _ l0_0 _ _ l0_1 _ _ l0_2 true _ ?s1 ?s2 ?s3 ?s4 ?s5 ?s6 A4.out).mono ?_);(case s1=>exact z44_);(case s2=>exact HC0_0.out);(case s3=>exact z102_);(case s4=>exact HC0_1.out);(case s5=>exact z103_);(case s6=>exact HC0_2.out);rintro e w19 ⟨rfl,hb⟩;refine⟨_,rfl,?_⟩;replace BKdL:=am_ (blk_below z240_ hb);replace HB:=am_ (below_step z110_ hb);(try clear hb))|(go_at_call 54;(with_reducible refine(spec_LabelOk.calls a1 true _ A6.out).mono ?_);rintro e w' ⟨rfl,⟨nd,rfl⟩⟩)|(go_at_call 54;(with_reducible refine(spec_LabelOk.calls a2 false _ A8.out).mono ?_);rintro e w' ⟨rfl,⟨nd,rfl⟩⟩))
    go_ret;exact⟨z7_,z110_⟩
  ·replace c7:=Bool.eq_false_iff.mpr c7;subst c7;replace H:=iff_ H;obtain rfl:=Option.some.inj H
   go_wp2_with (first|((with_reducible refine gate_callee (f:=79) rfl ?_);refine goesL_ (some 8) rfl rfl Try.func79 y0_ rfl #[.agg #[.slice A0_0 l0_0.length c0_0,.slice A0_1 l0_1.length c0_1,.slice A0_2 l0_2.length c0_2]] rfl z1_ ?_;(with_reducible refine(spec_CostOk.calls k _ _ l0_0 _ _ l0_1 _ _ l0_2 true _ ?s1 ?s2 ?s3 ?s4 ?s5 ?s6 A4.out).mono ?_);(case s1=>exact z44_);(case s2=>exact HC0_0.out);(case s3=>exact z102_);(case s4=>exact HC0_1.out);(case s5=>exact z103_);(case s6=>exact HC0_2.out);rintro e w22 ⟨rfl,hb⟩;refine⟨_,rfl,?_⟩;replace BKdL:=am_ (blk_below z240_ hb);replace HB:=am_ (below_step z110_ hb);(try clear hb))|(go_at_call 54;(with_reducible refine(spec_LabelOk.calls a1 false _ A6.out).mono ?_);rintro e w' ⟨rfl,⟨nd,rfl⟩⟩))
   go_ret;exact⟨z7_,z110_⟩
 ·replace c5:=Bool.eq_false_iff.mpr c5;subst c5;replace H:=iff_ H;obtain rfl:=Option.some.inj H
  go_wp2_with (((with_reducible refine gate_callee (f:=79) rfl ?_);refine goesL_ (some 8) rfl rfl Try.func79 y0_ rfl #[.agg #[.slice A0_0 l0_0.length c0_0,.slice A0_1 l0_1.length c0_1,.slice A0_2 l0_2.length c0_2]] rfl z1_ ?_;(with_reducible refine(spec_CostOk.calls k _ _ l0_0 _ _ l0_1 _ _ l0_2 false _ ?s1 ?s2 ?s3 ?s4 ?s5 ?s6 A4.out).mono ?_);(case s1=>exact z44_);(case s2=>exact HC0_0.out);(case s3=>exact z102_);(case s4=>exact HC0_1.out);(case s5=>exact z103_);(case s6=>exact HC0_2.out);rintro e w25 ⟨rfl,hb⟩;refine⟨_,rfl,?_⟩;replace BKdL:=am_ (blk_below z240_ hb);replace HB:=am_ (below_step z110_ hb);(try clear hb)))
  go_ret;exact⟨z7_,z110_⟩

/-! ### spec_RootDist: function 37 -/
def spec_RootDist.f (k:Nat) (l0:List (S61)) (l1:List (S61)) (l2_0:List Int) (l2_1:List Int) (l2_2:List Int):Option (Int):=(spec_l8Three.f k l0 l1 l2_0 l2_1 l2_2).bind fun tgz=>(if tgz=true then ((spec_l8All.f k l0 l1 l2_0 l2_1 l2_2).bind fun btfE=>(if 0≤(wrap64 ((wrap64 ((wrap64 ((wrap64 ((l0.length:Int)-1))*(wrap64 ((l1.length:Int)+1))))+(l1.length:Int)))-1)) then (if (wrap64 ((wrap64 ((wrap64 ((wrap64 ((l0.length:Int)-1))*(wrap64 ((l1.length:Int)+1))))+(l1.length:Int)))-1))<(btfE.2.length:Int) then (if 0<(l0.length:Int) then (if 0<(l1.length:Int) then ((spec_RelCost.f k l2_0 l2_1 l2_2 ((rd_T61 l0 0).f0) ((rd_T61 l1 0).f0)).bind fun tgA=>(some (wrap64 ((rd btfE.2 (wrap64 ((wrap64 ((wrap64 ((wrap64 ((l0.length:Int)-1))*(wrap64 ((l1.length:Int)+1))))+(l1.length:Int)))-1)))+tgA)))) else (none)) else (none)) else (none)) else (none))) else (some (-1)))
def spec_RootDist.T5:Bool×List (List Nat×List Nat):=(true,[([],[]),([],[]),([1],[1]),([2],[2]),([],[]),([3,4],[3,4]),([],[]),([6],[6]),([5,7],[5,7]),([8],[8]),([0,9],[0,9]),([10],[10]),([],[]),([],[]),([13],[13]),([14],[14]),([15],[15]),([],[]),([17],[17]),([18],[18]),([19],[19]),([12,16,20],[12,16,20]),([11,21],[11,21]),([22,21,0,1,2,3,4,5,6,7,8,9,10,11,12,13,14,15,16,17,18,19,20,21,22],[22])])
def spec_RootDist.B5:List Nat:=[0,0,2,6,0,30,0,64,254,510,1023,2047,0,0,8192,24576,57344,0,131072,393216,917504,2093056,4194303,8388607]
theorem spec_RootDist.tab5:rtab .any (opsOf Try.f37 5)=spec_RootDist.T5:=by kernel_rfl
theorem spec_RootDist.bits5:waitsOk spec_RootDist.T5.2 spec_RootDist.B5=true:=by kernel_rfl
theorem spec_RootDist.calls (k:Nat) (A0:Option Addr) (c0:Nat) (l0:List (S61)) (A1:Option Addr) (c1:Nat) (l1:List (S61)) (A2_0:Option Addr) (c2_0:Nat) (l2_0:List Int) (A2_1:Option Addr) (c2_1:Nat) (l2_1:List Int) (A2_2:Option Addr) (c2_2:Nat) (l2_2:List Int) (r:Int) (w:World) (hr0:Kd.C k61 w A0 l0.length l0) (hc0:l0.length≤c0) (hr1:Kd.C k61 w A1 l1.length l1) (hc1:l1.length≤c1) (hr2_0:Kd.C (Kd.int .i64) w A2_0 l2_0.length l2_0) (hc2_0:l2_0.length≤c2_0) (hr2_1:Kd.C (Kd.int .i64) w A2_1 l2_1.length l2_1) (hc2_1:l2_1.length≤c2_1) (hr2_2:Kd.C (Kd.int .i64) w A2_2 l2_2.length l2_2) (hc2_2:l2_2.length≤c2_2) (h:spec_RootDist.f k l0 l1 l2_0 l2_1 l2_2=some r):
  Calls Try.prog 37 #[.slice A0 l0.length c0,.slice A1 l1.length c1,.agg #[.slice A2_0 l2_0.length c2_0,.slice A2_1 l2_1.length c2_1,.slice A2_2 l2_2.length c2_2]] w fun e w'=>e= .returned (.int .i64 r)∧Below w.heap.size w w':=by
 have hu38:=Try.underlying38;have HR0:=am_ hr0;have HC0:=am_ hc0;clear hr0 hc0;have HR1:=am_ hr1;have HC1:=am_ hc1;clear hr1 hc1;have HR2_0:=am_ hr2_0;have HC2_0:=am_ hc2_0;clear hr2_0 hc2_0;have HR2_1:=am_ hr2_1;have HC2_1:=am_ hc2_1;clear hr2_1 hc2_1;have HR2_2:=am_ hr2_2;have HC2_2:=am_ hc2_2;clear hr2_2 hc2_2;have HB:=am_ (Below.refl w.heap.size w);have H:((spec_l8Three.f k l0 l1 l2_0 l2_1 l2_2).bind fun tgz=>(if tgz=true then ((spec_l8All.f k l0 l1 l2_0 l2_1 l2_2).bind fun btfE=>(if 0≤(wrap64 ((wrap64 ((wrap64 ((wrap64 ((l0.length:Int)-1))*(wrap64 ((l1.length:Int)+1))))+(l1.length:Int)))-1)) then (if (wrap64 ((wrap64 ((wrap64 ((wrap64 ((l0.length:Int)-1))*(wrap64 ((l1.length:Int)+1))))+(l1.length:Int)))-1))<(btfE.2.length:Int) then (if 0<(l0.length:Int) then (if 0<(l1.length:Int) then ((spec_RelCost.f k l2_0 l2_1 l2_2 ((rd_T61 l0 0).f0) ((rd_T61 l1 0).f0)).bind fun tgA=>(some (wrap64 ((rd btfE.2 (wrap64 ((wrap64 ((wrap64 ((wrap64 ((l0.length:Int)-1))*(wrap64 ((l1.length:Int)+1))))+(l1.length:Int)))-1)))+tgA)))) else (none)) else (none)) else (none)) else (none))) else (some (-1))))=some r:=h;clear h;obtain⟨tgz,A4,H⟩:=bnd_ H;by_cases c5:tgz=true
 ·subst c5;replace H:=ift_ H;replace H:=be_ H;obtain⟨⟨tfE,th2⟩,A60,H⟩:=H
  try dsimp only at H
  have A6:=am_ A60;clear A60;obtain⟨ji7,hji7⟩:∃j_:Int,(wrap64 ((wrap64 ((wrap64 ((wrap64 ((l0.length:Int)-1))*(wrap64 ((l1.length:Int)+1))))+(l1.length:Int)))-1))=j_:=⟨_,rfl⟩
  rw[hji7] at H;have hji7w:(IntKind.i64.wrap ((wrap64 ((wrap64 ((wrap64 ((l0.length:Int)-1))*(wrap64 ((l1.length:Int)+1))))+(l1.length:Int)))-1))=ji7:=(i64_w _).trans hji7;obtain⟨c8b0,H⟩:=ifd_ H;obtain⟨c9b0,H⟩:=ifd_ H;obtain⟨c10,H⟩:=ifs_ H;have c10b0:=decide_eq_true c10;have c10b1:decide (0<l0.length)=true:=decide_eq_true (by omega);clear c10;obtain⟨c11,H⟩:=ifs_ H;have c11b0:=decide_eq_true c11;have c11b1:decide (0<l1.length)=true:=decide_eq_true (by omega);clear c11;obtain⟨tgA,A12,H⟩:=bnd_ H;obtain rfl:=Option.some.inj H;go_enter Try.func37,Try.ntmps37
  try go_wp2_with (first|((with_reducible refine gate_dst (N:=5) rfl ?_);refine box_event ?hg (N:=5) ?hd (cs:=#[.slice A2_0 l2_0.length c2_0,.slice A2_1 l2_1.length c2_1,.slice A2_2 l2_2.length c2_2]) (t:=38) ?hr ?_;(case hd=>rfl);(case hg=>rfl);(case hr=>exact z14_);intro gbbe hg w13 hbox hb;have BKbe:=am_ (hbox);have GWbe:=am_ ((by rw[hg];exact(below_size z0_):w.heap.size≤gbbe));have GEbe:=am_ ((by rw[hg];exact(below_size z0_):w.heap.size≤gbbe));replace HB:=am_ (below_step z0_ hb);clear hb hbox hg;obtain⟨hcz14_0,hcz14_1,hcz14_2,hfz14_0,hfz14_1,hfz14_2⟩:=bx3_ BKbe.out)|((with_reducible refine gate_callee (f:=61) rfl ?_);refine goesL_ (some 13) rfl rfl Try.func61 y0_ rfl #[.slice A0 l0.length c0,.slice A1 l1.length c1,.agg #[.slice A2_0 l2_0.length c2_0,.slice A2_1 l2_1.length c2_1,.slice A2_2 l2_2.length c2_2]] rfl z1_ ?_;(with_reducible refine(spec_l8Three.calls k _ _ l0 _ _ l1 _ _ l2_0 _ _ l2_1 _ _ l2_2 true _ ?s1 ?s2 ?s3 ?s4 ?s5 ?s6 ?s7 ?s8 ?s9 ?s10 A4.out).mono ?_);(case s1=>exact z6_);(case s2=>exact HC0.out);(case s3=>exact z16_);(case s4=>exact HC1.out);(case s5=>exact z33_);(case s6=>exact HC2_0.out);(case s7=>exact z34_);(case s8=>exact HC2_1.out);(case s9=>exact z35_);(case s10=>exact HC2_2.out);rintro e w15 ⟨rfl,hb⟩;refine⟨_,rfl,?_⟩;replace BKbe:=am_ (blk_below z241_ hb);replace HB:=am_ (below_step z111_ hb);(try clear hb);obtain⟨hcz16_0,hcz16_1,hcz16_2,hfz16_0,hfz16_1,hfz16_2⟩:=bx3_ BKbe.out)|((with_reducible refine gate_callee (f:=62) rfl ?_);refine goesL_ (some 19) rfl rfl Try.func62 y0_ rfl #[.slice A0 l0.length c0,.slice A1 l1.length c1,.agg #[.slice A2_0 l2_0.length c2_0,.slice A2_1 l2_1.length c2_1,.slice A2_2 l2_2.length c2_2]] rfl z1_ ?_;(with_reducible refine(spec_l8All.calls k _ _ l0 _ _ l1 _ _ l2_0 _ _ l2_1 _ _ l2_2 tfE th2 _ ?s1 ?s2 ?s3 ?s4 ?s5 ?s6 ?s7 ?s8 ?s9 ?s10 A6.out).mono ?_);(case s1=>exact z6_);(case s2=>exact HC0.out);(case s3=>exact z16_);(case s4=>exact HC1.out);(case s5=>exact z33_);(case s6=>exact HC2_0.out);(case s7=>exact z34_);(case s8=>exact HC2_1.out);(case s9=>exact z35_);(case s10=>exact HC2_2.out);rintro e w17 ⟨vlq,vlr,rfl,ho0,ho1,hb⟩;refine⟨_,rfl,?_⟩;have HOgB:=am_ (R_lower ho0 (below_size z111_));have HOfF:=am_ (R_lower ho1 (below_size z111_));replace BKbe:=am_ (blk_below z241_ hb);replace HB:=am_ (below_step z111_ hb);(try clear hb ho0 ho1)))
  replace HOgB:=am_ (R_drew HOgB.out);replace HOfF:=am_ (R_drew HOfF.out);replace BKbe:=am_ (blk_drew BKbe.out);replace HB:=am_ (below_drew1 HB.out);obtain⟨Ao19,co19,eo19⟩:=R_slice HOfF.out
  (subst eo19)
  have pdz:0≤((ji7):Int):=odt_;have qdz:(ji7)<(th2.length:Int):=odt_;obtain⟨addz,edz,hxdz_0⟩:=at_int (R_reads' HOfF.out).2.2 (ji7) pdz qdz;cases edz;replace pdz:=eq_true pdz;replace qdz:=eq_true qdz;have pas:0≤(0:Int):=(by omega)
  have qas:0<(l0.length:Int):=odt_;obtain⟨adas,eas,hxas_0,hxas_1⟩:=at_T61 HR0.out 0 pas qas;have hwas_1:=hxas_1
  (try rw[show ((0:Int)).toNat=0 from rfl] at hwas_1)
  (try rw[show 0*2=0 from rfl] at hwas_1)
  (try rw[Addr.add_zero'] at hwas_1)
  have hwas_0:=hxas_0
  (try rw[show ((0:Int)).toNat=0 from rfl] at hwas_0)
  (try rw[show 0*2=0 from rfl] at hwas_0)
  (try rw[Addr.add_zero'] at hwas_0)
  cases eas;have qias:(0<l0.length)=True:=eq_true (by omega)
  (try rw[show ((0:Int)).toNat=0 from rfl] at hxas_0)
  (try rw[show 0*2=0 from rfl] at hxas_0)
  (try rw[Addr.add_zero'] at hxas_0)
  (try rw[show ((0:Int)).toNat=0 from rfl] at hxas_1)
  (try rw[show 0*2=0 from rfl] at hxas_1)
  (try rw[Addr.add_zero'] at hxas_1)
  replace hxas_0:=(HB.out.cell (bc_ w _ hxas_0)).trans hxas_0;replace hxas_1:=(HB.out.cell (bc_ w _ hxas_1)).trans hxas_1;replace pas:=eq_true pas;replace qas:=eq_true qas;have pav:0≤(0:Int):=(by omega)
  have qav:0<(l1.length:Int):=odt_;obtain⟨adav,eav,hxav_0,hxav_1⟩:=at_T61 HR1.out 0 pav qav;have hwav_1:=hxav_1
  (try rw[show ((0:Int)).toNat=0 from rfl] at hwav_1)
  (try rw[show 0*2=0 from rfl] at hwav_1)
  (try rw[Addr.add_zero'] at hwav_1)
  have hwav_0:=hxav_0
  (try rw[show ((0:Int)).toNat=0 from rfl] at hwav_0)
  (try rw[show 0*2=0 from rfl] at hwav_0)
  (try rw[Addr.add_zero'] at hwav_0)
  cases eav;have qiav:(0<l1.length)=True:=eq_true (by omega)
  (try rw[show ((0:Int)).toNat=0 from rfl] at hxav_0)
  (try rw[show 0*2=0 from rfl] at hxav_0)
  (try rw[Addr.add_zero'] at hxav_0)
  (try rw[show ((0:Int)).toNat=0 from rfl] at hxav_1)
  (try rw[show 0*2=0 from rfl] at hxav_1)
  (try rw[Addr.add_zero'] at hxav_1)
  replace hxav_0:=(HB.out.cell (bc_ w _ hxav_0)).trans hxav_0;replace hxav_1:=(HB.out.cell (bc_ w _ hxav_1)).trans hxav_1;replace pav:=eq_true pav;replace qav:=eq_true qav;refine start_ (n:=24) (S:=fun w'=>w'.cell? ⟨gbbe,0,none⟩=some (.slice A2_0 l2_0.length c2_0)∧w'.cell? ⟨gbbe,1,none⟩=some (.slice A2_1 l2_1.length c2_1)∧w'.cell? ⟨gbbe,2,none⟩=some (.slice A2_2 l2_2.length c2_2)∧w'.cell? (addz.add ((ji7)).toNat)=some (.int .i64 (rd th2 (ji7)))∧w'.cell? adas=some (.int .i64 ((rd_T61 l0 0).f0))∧w'.cell? ⟨adas.block,adas.off+1,none⟩=some (.int .i64 ((rd_T61 l0 0).f1))∧w'.cell? adav=some (.int .i64 ((rd_T61 l1 0).f0))∧w'.cell? ⟨adav.block,adav.off+1,none⟩=some (.int .i64 ((rd_T61 l1 0).f1))) (ds:=[]) (fl_ 24 0) y0_ rfl (fl_zero _) ⟨(blk_cell BKbe.out 0).trans rfl,(blk_cell BKbe.out 1).trans rfl,(blk_cell BKbe.out 2).trans rfl,hxdz_0,((HB.out.cell (bc_ w _ hwas_0)).trans hwas_0),((HB.out.cell (bc_ w _ hwas_1)).trans hwas_1),((HB.out.cell (bc_ w _ hwav_0)).trans hwav_0),((HB.out.cell (bc_ w _ hwav_1)).trans hwav_1)⟩ (fun hh=>?_);refine with_tabW spec_RootDist.tab5 spec_RootDist.bits5 (fun HT_ HW_=>?_);generalize w17.drew=w18 at HOgB HOfF BKbe HB hxdz_0 hxas_0 hxas_1 hxav_0 hxav_1 hh⊢
  iterate 11 refine yp_ HT_ ?_
  refine ypg_ (i:=13) (ra_ [11,2,1,10]) HT_ ?_;refine ypg_ (i:=14) (ra_ [11,2,2,9]) HT_ ?_;refine ypg_ (i:=15) (ra_ [11,2,3,8]) HT_ ?_;refine ypg_ (i:=17) (ra_ [11,2,3,1,1,6]) HT_ ?_;refine ypg_ (i:=18) (ra_ [11,2,3,1,2,5]) HT_ ?_;refine ypg_ (i:=19) (ra_ [11,2,3,1,3,4]) HT_ ?_;refine ytg_ (i:=11) (ra_ [12,1,3,1,3,4]) HT_ HW_ hh ?_ (hy:=z198_);refine ytg_ (i:=12) (ra_ [16,1,3,4]) HT_ HW_ hh ?_ (hy:=z198_);refine ytg_ (i:=16) (fl_ 24 20) HT_ HW_ hh ?_ (hy:=z198_);refine yt_ HT_ HW_ hh ?_ (hy:=z198_);refine one_ (i:=21) (N:=some 46) (fl_ 24 22) rfl rfl (one_of HT_.out y0_) (by decide) (fun K hK=>?_);refine goes_ Try.func63 y0_ rfl #[.agg #[.slice A2_0 l2_0.length c2_0,.slice A2_1 l2_1.length c2_1,.slice A2_2 l2_2.length c2_2],.int .i64 ((rd_T61 l0 0).f0),.int .i64 ((rd_T61 l1 0).f0)] (by rfl) rfl rfl z1_ ?_
  with_reducible refine(spec_RelCost.calls k _ _ l2_0 _ _ l2_1 _ _ l2_2 ((rd_T61 l0 0).f0) ((rd_T61 l1 0).f0) tgA _ ?s1 ?s2 ?s3 ?s4 ?s5 ?s6 A12.out).mono ?_
  (case s1=>exact z33_)
  (case s2=>exact HC2_0.out)
  (case s3=>exact z34_)
  (case s4=>exact HC2_1.out)
  (case s5=>exact z35_)
  (case s6=>exact HC2_2.out)
  rintro e w20 ⟨rfl,hb⟩;have HS3_:=(hb.cell (bc_ _ _ (hh.2.2.2.1))).trans (hh.2.2.2.1);refine⟨_,rfl,?_⟩;replace HOgB:=am_ (R_below (by exact ur_ HOgB.out) hb);replace HOfF:=am_ (R_below (by exact ur_ HOfF.out) hb);replace BKbe:=am_ (blk_below z241_ hb);replace HB:=am_ (below_step z111_ hb)
  (try clear hb)
  refine hK.out _ _ ⟨(blk_cell BKbe.out 0).trans rfl,(blk_cell BKbe.out 1).trans rfl,(blk_cell BKbe.out 2).trans rfl,HS3_,((HB.out.cell (bc_ w _ hwas_0)).trans hwas_0),((HB.out.cell (bc_ w _ hwas_1)).trans hwas_1),((HB.out.cell (bc_ w _ hwav_0)).trans hwav_0),((HB.out.cell (bc_ w _ hwav_1)).trans hwav_1)⟩ (fun hh=>?_);clear hK K;refine zn_ rfl ?_
  iterate 2 refine yp_ HT_ ?_
  refine done_ (done_of HT_.out y0_) ?_
  try go_wp2
  go_ret;exact⟨by rfl,z111_⟩
 ·replace c5:=Bool.eq_false_iff.mpr c5;subst c5;replace H:=iff_ H;obtain rfl:=Option.some.inj H;go_enter Try.func37,Try.ntmps37
  go_wp2_with (first|((with_reducible refine gate_dst (N:=5) rfl ?_);refine box_event ?hg (N:=5) ?hd (cs:=#[.slice A2_0 l2_0.length c2_0,.slice A2_1 l2_1.length c2_1,.slice A2_2 l2_2.length c2_2]) (t:=38) ?hr ?_;(case hd=>rfl);(case hg=>rfl);(case hr=>exact z14_);intro gbbe hg w21 hbox hb;have BKbe:=am_ (hbox);have GWbe:=am_ ((by rw[hg];exact(below_size z0_):w.heap.size≤gbbe));have GEbe:=am_ ((by rw[hg];exact(below_size z0_):w.heap.size≤gbbe));replace HB:=am_ (below_step z0_ hb);clear hb hbox hg;obtain⟨hcz22_0,hcz22_1,hcz22_2,hfz22_0,hfz22_1,hfz22_2⟩:=bx3_ BKbe.out)|((with_reducible refine gate_callee (f:=61) rfl ?_);refine goesL_ (some 13) rfl rfl Try.func61 y0_ rfl #[.slice A0 l0.length c0,.slice A1 l1.length c1,.agg #[.slice A2_0 l2_0.length c2_0,.slice A2_1 l2_1.length c2_1,.slice A2_2 l2_2.length c2_2]] rfl z1_ ?_;(with_reducible refine(spec_l8Three.calls k _ _ l0 _ _ l1 _ _ l2_0 _ _ l2_1 _ _ l2_2 false _ ?s1 ?s2 ?s3 ?s4 ?s5 ?s6 ?s7 ?s8 ?s9 ?s10 A4.out).mono ?_);(case s1=>exact z6_);(case s2=>exact HC0.out);(case s3=>exact z16_);(case s4=>exact HC1.out);(case s5=>exact z33_);(case s6=>exact HC2_0.out);(case s7=>exact z34_);(case s8=>exact HC2_1.out);(case s9=>exact z35_);(case s10=>exact HC2_2.out);rintro e w23 ⟨rfl,hb⟩;refine⟨_,rfl,?_⟩;replace BKbe:=am_ (blk_below z241_ hb);replace HB:=am_ (below_step z111_ hb);(try clear hb)))
  go_ret;exact⟨z7_,z111_⟩

end Go.Proofs.Ytbmkobanpakohaa.PFnNear
