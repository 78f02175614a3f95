/- Walks of functions of FnNear, laid anew out of the kit's print. -/
import Derived.Test.YtbmkobanpakohaaMFnNearx0
namespace Go.Proofs.Ytbmkobanpakohaa.PFnNear
open Go.RowKit Go.Proofs.YtbmkobanpakohaaW.PrintWords Go.Proofs.YtbmkobanpakohaaW.PrintLast Go.Proofs.YtbmkobanpakohaaW.PrintMore Go.Proofs.YtbmkobanpakohaaW.PrintWords.Kd Go.Proofs.YtbmkobanpakohaaW.PrintMore.Kd
set_option maxHeartbeats 8000000
set_option maxRecDepth 100000
attribute [local go_sem] max2_int min2_int max_two min_two max_three min_three max_four min_four
set_option linter.unusedVariables false
set_option linter.unusedSimpArgs false

/-! ### impl_within: function 74 -/
def impl_within.f (a0:Int) (a1:Int) (a2:Int):Option (Bool):=if a1≤a0 then (some (decide (a0≤a2))) else (some false)
theorem impl_within.calls (a0:Int) (a1:Int) (a2:Int) (r:Bool) (w:World) (h:impl_within.f a0 a1 a2=some r):
  Calls Try.prog 74 #[.int .i64 a0,.int .i64 a1,.int .i64 a2] w fun e w'=>e= .returned (.bool r)∧Drawn0 w w':=by
 have H:(if a1≤a0 then (some (decide (a0≤a2))) else (some false))=some r:=h;clear h;by_cases c4:a1≤a0
 ·rw[if_pos c4] at H;have c4b0:=decide_eq_true c4;clear c4;obtain rfl:=Option.some.inj H;go_enter Try.func74,Try.ntmps74;go_wp2;go_ret;exact⟨z9_,z57_⟩
 ·rw[if_neg c4] at H;have c4b0:=decide_eq_false c4;clear c4;obtain rfl:=Option.some.inj H;go_enter Try.func74,Try.ntmps74;go_wp2;go_ret;exact⟨z9_,z57_⟩

/-! ### impl_LabelOk: function 70 -/
def impl_LabelOk.f (a0:Int):Option (Bool):=(impl_within.f a0 0 5).bind fun teo=>(some teo)
theorem impl_LabelOk.calls (a0:Int) (r:Bool) (w:World) (h:impl_LabelOk.f a0=some r):
  Calls Try.prog 70 #[.int .i64 a0] w fun e w'=>e= .returned (.bool r)∧Drawn0 w w':=by
 have H:((impl_within.f a0 0 5).bind fun teo=>(some teo))=some r:=h;clear h;obtain⟨teo,A2,H⟩:=bnd_ H;obtain rfl:=Option.some.inj H;go_enter Try.func70,Try.ntmps70
 go_wp2_with (((with_reducible refine gate_callee (f:=74) rfl ?_);refine goesL_ (some 4) rfl rfl Try.func74 y0_ rfl #[.int .i64 a0,.int .i64 0,.int .i64 5] rfl z1_ ?_;(with_reducible refine(impl_within.calls a0 0 5 teo _ A2.out).mono ?_);rintro e w' ⟨rfl,⟨nd,rfl⟩⟩;refine⟨_,rfl,?_⟩))
 go_ret;exact⟨z9_,z57_⟩

/-! ### impl_depthOk: function 75 -/
def impl_depthOk.f (l0:List (S61)) (a1:Int):Option (Bool):=if a1=0 then (if 0<(l0.length:Int) then (some (((rd_T61 l0 0).f1)==0)) else (none)) else (if 0≤a1 then (if a1<(l0.length:Int) then (if 0≤(wrap64 (a1-1)) then (if (wrap64 (a1-1))<(l0.length:Int) then ((impl_within.f ((rd_T61 l0 a1).f1) 1 (wrap64 (((rd_T61 l0 (wrap64 (a1-1))).f1)+1))).bind fun tfm=>(some tfm)) else (none)) else (none)) else (none)) else (none))
theorem impl_depthOk.calls (A0:Option Addr) (c0:Nat) (l0:List (S61)) (a1:Int) (r:Bool) (w:World) (hr0:Kd.C k61 w A0 l0.length l0) (hc0:l0.length≤c0) (h:impl_depthOk.f l0 a1=some r):
  Calls Try.prog 75 #[.slice A0 l0.length c0,.int .i64 a1] w fun e w'=>e= .returned (.bool r)∧Drawn0 w w':=by
 have HR0:=am_ hr0;have HC0:=am_ hc0;clear hr0 hc0;have H:(if a1=0 then (if 0<(l0.length:Int) then (some (((rd_T61 l0 0).f1)==0)) else (none)) else (if 0≤a1 then (if a1<(l0.length:Int) then (if 0≤(wrap64 (a1-1)) then (if (wrap64 (a1-1))<(l0.length:Int) then ((impl_within.f ((rd_T61 l0 a1).f1) 1 (wrap64 (((rd_T61 l0 (wrap64 (a1-1))).f1)+1))).bind fun tfm=>(some tfm)) else (none)) else (none)) else (none)) else (none)))=some r:=h;clear h;by_cases c3:a1=0
 ·rw[if_pos c3] at H;have c3b0:(a1==0)=true:=beq_iff_eq.mpr c3;have c3b1:(a1 != 0)=false:=bne_eq_false_iff_eq.mpr c3;clear c3;obtain⟨c4,H⟩:=ifs_ H;have c4b0:=decide_eq_true c4;have c4b1:decide (0<l0.length)=true:=decide_eq_true (by omega);clear c4;obtain rfl:=Option.some.inj H;have pbL:0≤(0:Int):=(by omega)
  have qbL:0<(l0.length:Int):=odt_;obtain⟨adbL,ebL,hxbL_0,hxbL_1⟩:=at_T61 HR0.out 0 pbL qbL;cases ebL;have qibL:(0<l0.length)=True:=eq_true (by omega)
  (try rw[show ((0:Int)).toNat=0 from rfl] at hxbL_0)
  (try rw[show 0*2=0 from rfl] at hxbL_0)
  (try rw[Addr.add_zero'] at hxbL_0)
  (try rw[show ((0:Int)).toNat=0 from rfl] at hxbL_1)
  (try rw[show 0*2=0 from rfl] at hxbL_1)
  (try rw[Addr.add_zero'] at hxbL_1)
  replace pbL:=eq_true pbL;replace qbL:=eq_true qbL;go_enter Try.func75,Try.ntmps75;go_wp2
  repeat(go_quiet (fail);try go_wp2)
  go_ret;exact⟨z9_,z57_⟩
 ·rw[if_neg c3] at H;have c3b0:(a1==0)=false:=beq_eq_false_iff_ne.mpr c3;have c3b1:(a1 != 0)=true:=bne_iff_ne.mpr c3;obtain⟨c5b0,H⟩:=ifd_ H;obtain⟨c6b0,H⟩:=ifd_ H;obtain⟨ji7,hji7⟩:∃j_:Int,(wrap64 (a1-1))=j_:=⟨_,rfl⟩
  first|rw[hji7] at H|simp only[hji7] at H
  have hji7w:(IntKind.i64.wrap (a1-1))=ji7:=(i64_w _).trans hji7;obtain⟨c8b0,H⟩:=ifd_ H;obtain⟨c9b0,H⟩:=ifd_ H;obtain⟨tfm,A10,H⟩:=bnd_ H;obtain rfl:=Option.some.inj H;obtain⟨pep,qep,adep,eep,hxep_0,hxep_1⟩:=ato61_ HR0 a1;cases eep;obtain⟨pb3,qb3,adb3,eb3,hxb3_0,hxb3_1⟩:=ato61_ HR0 (ji7);obtain rfl:adep=adb3:=(by injection eb3)
  go_enter Try.func75,Try.ntmps75
  go_wp2_with (first|(go_at_call 74;(with_reducible refine(impl_within.calls ((rd_T61 l0 a1).f1) 1 (wrap64 (((rd_T61 l0 (ji7)).f1)+1)) tfm _ A10.out).mono ?_);rintro e w' ⟨rfl,⟨nd,rfl⟩⟩;(try first|exact⟨rfl,_,World.drewN_drewN _ _ _⟩|exact⟨rfl,_,Eq.trans (World.drewN_drewN _ _ _) (congrArg (World.drewN _) (Nat.add_assoc _ _ _))⟩)))
  repeat(go_quiet (first|(go_at_call 74;(with_reducible refine(impl_within.calls ((rd_T61 l0 a1).f1) 1 (wrap64 (((rd_T61 l0 (ji7)).f1)+1)) tfm _ A10.out).mono ?_);rintro e w' ⟨rfl,⟨nd,rfl⟩⟩;(try first|exact⟨rfl,_,World.drewN_drewN _ _ _⟩|exact⟨rfl,_,Eq.trans (World.drewN_drewN _ _ _) (congrArg (World.drewN _) (Nat.add_assoc _ _ _))⟩)));try go_wp2_with (first|(go_at_call 74;(with_reducible refine(impl_within.calls ((rd_T61 l0 a1).f1) 1 (wrap64 (((rd_T61 l0 (ji7)).f1)+1)) tfm _ A10.out).mono ?_);rintro e w' ⟨rfl,⟨nd,rfl⟩⟩;(try first|exact⟨rfl,_,World.drewN_drewN _ _ _⟩|exact⟨rfl,_,Eq.trans (World.drewN_drewN _ _ _) (congrArg (World.drewN _) (Nat.add_assoc _ _ _))⟩))))
  go_ret;exact⟨by first|rfl|(simp;done)|(simp only[←hji7]<;>(first|rfl|simp))|(simp[*];done),z57_⟩

/-! ### impl_TreeOk: function 57 -/
def impl_TreeOk.l0:Nat→List (S61)→List (S61)→Int→Int→Option (Bool)
 |0,_,_,_,_=>none
 |k+1,x0,x9,x10,x11=>if x11<x10 then (if 0≤x11 then (if x11<(x9.length:Int) then ((impl_LabelOk.f ((rd_T61 x9 x11).f0)).bind fun tgr=>(if tgr=true then ((impl_within.f ((rd_T61 x9 x11).f1) 0 12).bind fun tcf=>(if tcf=true then ((impl_depthOk.f x0 x11).bind fun tbK=>(if tbK=true then (impl_TreeOk.l0 k x0 x9 x10 (wrap64 (x11+1))) else (some false))) else (some false))) else (some false))) else (none)) else (none)) else (some true)
def impl_TreeOk.f (k:Nat) (l0:List (S61)):Option (Bool):=(impl_within.f (l0.length:Int) 1 24).bind fun tf4=>(if tf4=true then (impl_TreeOk.l0 k l0 l0 (l0.length:Int) 0) else (some false))
theorem impl_TreeOk.calls (k:Nat) (A0:Option Addr) (c0:Nat) (l0:List (S61)) (r:Bool) (w:World) (hr0:Kd.C k61 w A0 l0.length l0) (hc0:l0.length≤c0) (h:impl_TreeOk.f k l0=some r):
  Calls Try.prog 57 #[.slice A0 l0.length c0] w fun e w'=>e= .returned (.bool r)∧Below w.heap.size w w':=by
 have hu61:=Try.underlying61;have HR0:=am_ hr0;have HC0:=am_ hc0;clear hr0 hc0;have HB:=am_ (Below.refl w.heap.size w);have H:((impl_within.f (l0.length:Int) 1 24).bind fun tf4=>(if tf4=true then (impl_TreeOk.l0 k l0 l0 (l0.length:Int) 0) else (some false)))=some r:=h;clear h;obtain⟨tf4,A2,H⟩:=bnd_ H;by_cases c3:tf4=true
 ·subst c3;replace H:=ift_ H;have H':=am_ H;clear H;go_enter Try.func57,Try.ntmps57
  go_wp2_with (((with_reducible refine gate_callee (f:=74) rfl ?_);refine goesL_ (some 7) rfl rfl Try.func74 y0_ rfl #[.int .i64 (l0.length:Int),.int .i64 1,.int .i64 24] rfl z1_ ?_;(with_reducible refine(impl_within.calls (l0.length:Int) 1 24 true _ A2.out).mono ?_);rintro e w' ⟨rfl,⟨nd,rfl⟩⟩;refine⟨_,rfl,?_⟩))
  go_loopg [11] k (fun kq v11 w'=>∃(x11_1:Int),v11= .int .i64 x11_1∧Aside0 (impl_TreeOk.l0 kq l0 l0 (l0.length:Int) x11_1=some r)∧Aside0 (kq≤k)∧Aside0 (Below w.heap.size w w'))
  case atStart=>exact⟨(0),z9_,H',⟨Nat.le_refl _⟩,⟨z0_⟩⟩
  case round=>
   clear H';obtain⟨x11_1,rfl,HA,HK1,HB⟩:=hrel;cases gk with
   |zero=>exact absurd HA.out (by simp[impl_TreeOk.l0])
   | succ k1=>
    have H:=HA.out;clear HA;simp only[impl_TreeOk.l0] at H;by_cases c4:x11_1<(l0.length:Int)
    ·rw [if_pos c4] at H;have c4b0:=decide_eq_true c4;clear c4;obtain⟨c5b0,H⟩:=ifd_ H;obtain⟨c6b0,H⟩:=ifd_ H;obtain⟨tgr,A7,H⟩:=bnd_ H;by_cases c8:tgr=true
     ·subst c8;replace H:=ift_ H;obtain⟨tcf,A9,H⟩:=bnd_ H;by_cases c10:tcf=true
      ·subst c10;replace H:=ift_ H;obtain⟨tbK,A11,H⟩:=bnd_ H;by_cases c12:tbK=true
       ·subst c12;replace H:=ift_ H;have H':=am_ H;clear H;obtain⟨paJ,qaJ,adaJ,eaJ,hxaJ_0,hxaJ_1⟩:=atb61_ HR0 HB x11_1;cases eaJ
        go_wp2_with (first|((with_reducible refine gate_dst (N:=4) rfl ?_);refine box_event ?hg (N:=4) ?hd (cs:=#[.int .i64 0,.int .i64 0]) (t:=61) ?hr ?_;(case hd=>rfl);(case hg=>rfl);(case hr=>exact z14_);intro gba4 hg w13 hbox hb;have BKa4:=am_ (hbox);have GWa4:=am_ ((by rw[hg];exact(below_size z0_):w.heap.size≤gba4));have GEa4:=am_ ((by rw[hg];exact(below_size z0_):w.heap.size≤gba4));replace HB:=am_ (below_step z0_ hb);clear hb hbox hg;obtain⟨hcz14_0,hcz14_1,hfz14_0,hfz14_1⟩:=bx2_ BKa4.out)|((with_reducible refine gate_callee (f:=70) rfl ?_);refine goesL_ (some 18) rfl rfl Try.func70 y0_ rfl #[.int .i64 ((rd_T61 l0 x11_1).f0)] rfl z1_ ?_;(with_reducible refine(impl_LabelOk.calls ((rd_T61 l0 x11_1).f0) true _ A7.out).mono ?_);rintro e w' ⟨rfl,⟨nd,rfl⟩⟩;refine⟨_,rfl,?_⟩)|(go_at_call 74;(with_reducible refine(impl_within.calls ((rd_T61 l0 x11_1).f1) 0 12 true _ A9.out).mono ?_);rintro e w' ⟨rfl,⟨nd,rfl⟩⟩)|(go_at_call 75;(with_reducible refine(impl_depthOk.calls _ _ l0 x11_1 true _ ?s1 ?s2 A11.out).mono ?_);(case s1=>exact z264_);(case s2=>exact HC0.out);rintro e w' ⟨rfl,⟨nd,rfl⟩⟩))
        go_roundg k1
        case measure=>have:=HK1.out;omega
        case rel=>exact⟨(wrap64 (x11_1+1)),z9_,H',⟨z170_⟩,⟨z127_⟩⟩
       ·replace c12:=Bool.eq_false_iff.mpr c12;subst c12;replace H:=iff_ H;obtain rfl:=Option.some.inj H;obtain⟨paJ,qaJ,adaJ,eaJ,hxaJ_0,hxaJ_1⟩:=atb61_ HR0 HB x11_1;cases eaJ
        go_wp2_with (first|((with_reducible refine gate_dst (N:=4) rfl ?_);refine box_event ?hg (N:=4) ?hd (cs:=#[.int .i64 0,.int .i64 0]) (t:=61) ?hr ?_;(case hd=>rfl);(case hg=>rfl);(case hr=>exact z14_);intro gba4 hg w15 hbox hb;have BKa4:=am_ (hbox);have GWa4:=am_ ((by rw[hg];exact(below_size z0_):w.heap.size≤gba4));have GEa4:=am_ ((by rw[hg];exact(below_size z0_):w.heap.size≤gba4));replace HB:=am_ (below_step z0_ hb);clear hb hbox hg;obtain⟨hcz16_0,hcz16_1,hfz16_0,hfz16_1⟩:=bx2_ BKa4.out)|((with_reducible refine gate_callee (f:=70) rfl ?_);refine goesL_ (some 18) rfl rfl Try.func70 y0_ rfl #[.int .i64 ((rd_T61 l0 x11_1).f0)] rfl z1_ ?_;(with_reducible refine(impl_LabelOk.calls ((rd_T61 l0 x11_1).f0) true _ A7.out).mono ?_);rintro e w' ⟨rfl,⟨nd,rfl⟩⟩;refine⟨_,rfl,?_⟩)|(go_at_call 74;(with_reducible refine(impl_within.calls ((rd_T61 l0 x11_1).f1) 0 12 true _ A9.out).mono ?_);rintro e w' ⟨rfl,⟨nd,rfl⟩⟩)|(go_at_call 75;(with_reducible refine(impl_depthOk.calls _ _ l0 x11_1 false _ ?s1 ?s2 A11.out).mono ?_);(case s1=>exact z264_);(case s2=>exact HC0.out);rintro e w' ⟨rfl,⟨nd,rfl⟩⟩))
        go_ret;exact⟨z7_,z127_⟩
      ·replace c10:=Bool.eq_false_iff.mpr c10;subst c10;replace H:=iff_ H;obtain rfl:=Option.some.inj H;obtain⟨paJ,qaJ,adaJ,eaJ,hxaJ_0,hxaJ_1⟩:=atb61_ HR0 HB x11_1;cases eaJ
       go_wp2_with (first|((with_reducible refine gate_dst (N:=4) rfl ?_);refine box_event ?hg (N:=4) ?hd (cs:=#[.int .i64 0,.int .i64 0]) (t:=61) ?hr ?_;(case hd=>rfl);(case hg=>rfl);(case hr=>exact z14_);intro gba4 hg w17 hbox hb;have BKa4:=am_ (hbox);have GWa4:=am_ ((by rw[hg];exact(below_size z0_):w.heap.size≤gba4));have GEa4:=am_ ((by rw[hg];exact(below_size z0_):w.heap.size≤gba4));replace HB:=am_ (below_step z0_ hb);clear hb hbox hg;obtain⟨hcz18_0,hcz18_1,hfz18_0,hfz18_1⟩:=bx2_ BKa4.out)|((with_reducible refine gate_callee (f:=70) rfl ?_);refine goesL_ (some 18) rfl rfl Try.func70 y0_ rfl #[.int .i64 ((rd_T61 l0 x11_1).f0)] rfl z1_ ?_;(with_reducible refine(impl_LabelOk.calls ((rd_T61 l0 x11_1).f0) true _ A7.out).mono ?_);rintro e w' ⟨rfl,⟨nd,rfl⟩⟩;refine⟨_,rfl,?_⟩)|(go_at_call 74;(with_reducible refine(impl_within.calls ((rd_T61 l0 x11_1).f1) 0 12 false _ A9.out).mono ?_);rintro e w' ⟨rfl,⟨nd,rfl⟩⟩))
       go_ret;exact⟨z7_,z127_⟩
     ·replace c8:=Bool.eq_false_iff.mpr c8;subst c8;replace H:=iff_ H;obtain rfl:=Option.some.inj H;obtain⟨paJ,qaJ,adaJ,eaJ,hxaJ_0,hxaJ_1⟩:=atb61_ HR0 HB x11_1;cases eaJ
      go_wp2_with (first|((with_reducible refine gate_dst (N:=4) rfl ?_);refine box_event ?hg (N:=4) ?hd (cs:=#[.int .i64 0,.int .i64 0]) (t:=61) ?hr ?_;(case hd=>rfl);(case hg=>rfl);(case hr=>exact z14_);intro gba4 hg w19 hbox hb;have BKa4:=am_ (hbox);have GWa4:=am_ ((by rw[hg];exact(below_size z0_):w.heap.size≤gba4));have GEa4:=am_ ((by rw[hg];exact(below_size z0_):w.heap.size≤gba4));replace HB:=am_ (below_step z0_ hb);clear hb hbox hg;obtain⟨hcz20_0,hcz20_1,hfz20_0,hfz20_1⟩:=bx2_ BKa4.out)|((with_reducible refine gate_callee (f:=70) rfl ?_);refine goesL_ (some 18) rfl rfl Try.func70 y0_ rfl #[.int .i64 ((rd_T61 l0 x11_1).f0)] rfl z1_ ?_;(with_reducible refine(impl_LabelOk.calls ((rd_T61 l0 x11_1).f0) false _ A7.out).mono ?_);rintro e w' ⟨rfl,⟨nd,rfl⟩⟩;refine⟨_,rfl,?_⟩))
      go_ret;exact⟨z7_,z127_⟩
    ·rw[if_neg c4] at H;have c4b0:=decide_eq_false c4;clear c4;obtain rfl:=Option.some.inj H;go_wp2;go_ret;exact⟨z7_,z0_⟩
 ·replace c3:=Bool.eq_false_iff.mpr c3;subst c3;replace H:=iff_ H;obtain rfl:=Option.some.inj H;go_enter Try.func57,Try.ntmps57
  go_wp2_with (((with_reducible refine gate_callee (f:=74) rfl ?_);refine goesL_ (some 7) rfl rfl Try.func74 y0_ rfl #[.int .i64 (l0.length:Int),.int .i64 1,.int .i64 24] rfl z1_ ?_;(with_reducible refine(impl_within.calls (l0.length:Int) 1 24 false _ A2.out).mono ?_);rintro e w' ⟨rfl,⟨nd,rfl⟩⟩;refine⟨_,rfl,?_⟩))
  go_ret;exact⟨z7_,z0_⟩

/-! ### impl_pricesOk_lit1: function 96 -/
def impl_pricesOk_lit1.f (a0:Int):Option (Bool):=(impl_within.f a0 0 1000).bind fun tfn=>(some (!tfn))
theorem impl_pricesOk_lit1.calls (a0:Int) (r:Bool) (w:World) (h:impl_pricesOk_lit1.f a0=some r):
  Calls Try.prog 96 #[.int .i64 a0] w fun e w'=>e= .returned (.bool r)∧Drawn0 w w':=by
 have H:((impl_within.f a0 0 1000).bind fun tfn=>(some (!tfn)))=some r:=h;clear h;obtain⟨tfn,A2,H⟩:=bnd_ H;obtain rfl:=Option.some.inj H;go_enter Try.func96,Try.ntmps96
 go_wp2_with (((with_reducible refine gate_callee (f:=74) rfl ?_);refine goesL_ (some 4) rfl rfl Try.func74 y0_ rfl #[.int .i64 a0,.int .i64 0,.int .i64 1000] rfl z1_ ?_;(with_reducible refine(impl_within.calls a0 0 1000 tfn _ A2.out).mono ?_);rintro e w' ⟨rfl,⟨nd,rfl⟩⟩;refine⟨_,rfl,?_⟩))
 go_ret;exact⟨z9_,z57_⟩

/-! ### slices_IndexFunc_int_int: function 100 -/
def slices_IndexFunc_int_int.l0:Nat→List Int→Int→Int→Option (Int)
 |0,_,_,_=>none
 |k+1,x0,x7,x8=>if x8<x7 then (if 0≤x8 then (if x8<(x0.length:Int) then ((impl_pricesOk_lit1.f (rd x0 x8)).bind fun taK=>(if taK=true then (some x8) else (slices_IndexFunc_int_int.l0 k x0 x7 (wrap64 (x8+1))))) else (none)) else (none)) else (some (-1))
def slices_IndexFunc_int_int.f (k:Nat) (l0:List Int):Option (Int):=slices_IndexFunc_int_int.l0 k l0 (l0.length:Int) 0
theorem slices_IndexFunc_int_int.calls (k:Nat) (A0:Option Addr) (c0:Nat) (l0:List Int) (r:Int) (w:World) (hr0:Kd.C (Kd.int .i64) w A0 l0.length l0) (hc0:l0.length≤c0) (h:slices_IndexFunc_int_int.f k l0=some r):
  Calls Try.prog 100 #[.slice A0 l0.length c0,.func (.func 96) #[] #[]] w fun e w'=>e= .returned (.int .i64 r)∧Drawn0 w w':=by
 have HR0:=am_ hr0;have HC0:=am_ hc0;clear hr0 hc0;have H:(slices_IndexFunc_int_int.l0 k l0 (l0.length:Int) 0)=some r:=h;clear h;have H':=am_ H;clear H;go_enter Try.func100,Try.ntmps100;go_wp2
 go_loopg [8] k (fun kq v8 w'=>∃(x8_1:Int),v8= .int .i64 x8_1∧Aside0 (slices_IndexFunc_int_int.l0 kq l0 (l0.length:Int) x8_1=some r)∧Aside0 (kq≤k)∧Drawn0 w w')
 case atStart=>exact⟨(0),z9_,H',⟨Nat.le_refl _⟩,z57_⟩
 case round=>
  clear H';obtain⟨x8_1,rfl,HA,HK1,⟨m1,rfl⟩⟩:=hrel;cases gk with
  |zero=>exact absurd HA.out (by simp[slices_IndexFunc_int_int.l0])
  | succ k1=>
   have H:=HA.out;clear HA;simp only[slices_IndexFunc_int_int.l0] at H;by_cases c2:x8_1<(l0.length:Int)
   ·rw[if_pos c2] at H;have c2b0:=decide_eq_true c2;clear c2;obtain⟨c3b0,H⟩:=ifd_ H;obtain⟨c4b0,H⟩:=ifd_ H;obtain⟨taK,A5,H⟩:=bnd_ H;by_cases c6:taK=true
    ·subst c6;replace H:=ift_ H;obtain rfl:=Option.some.inj H;have paY:0≤(x8_1:Int):=odt_;have qaY:x8_1<(l0.length:Int):=odt_;obtain⟨adaY,eaY,hxaY_0⟩:=at_int HR0.out x8_1 paY qaY;cases eaY;replace paY:=eq_true paY;replace qaY:=eq_true qaY
     go_wp2_with ((go_at_call 96;(with_reducible refine(impl_pricesOk_lit1.calls (rd l0 x8_1) true _ A5.out).mono ?_);rintro e w' ⟨rfl,⟨nd,rfl⟩⟩))
     go_ret;exact⟨z9_,z57_⟩
    ·replace c6:=Bool.eq_false_iff.mpr c6;subst c6;replace H:=iff_ H;have H':=am_ H;clear H;have paY:0≤(x8_1:Int):=odt_;have qaY:x8_1<(l0.length:Int):=odt_;obtain⟨adaY,eaY,hxaY_0⟩:=at_int HR0.out x8_1 paY qaY;cases eaY;replace paY:=eq_true paY;replace qaY:=eq_true qaY
     go_wp2_with ((go_at_call 96;(with_reducible refine(impl_pricesOk_lit1.calls (rd l0 x8_1) false _ A5.out).mono ?_);rintro e w' ⟨rfl,⟨nd,rfl⟩⟩))
     go_roundg k1
     case measure=>have:=HK1.out;omega
     case rel=>exact⟨(wrap64 (x8_1+1)),z9_,H',⟨z170_⟩,z57_⟩
   ·rw[if_neg c2] at H;have c2b0:=decide_eq_false c2;clear c2;obtain rfl:=Option.some.inj H;go_wp2;go_ret;exact⟨z9_,z57_⟩

/-! ### slices_ContainsFunc_int_int: function 95 -/
def slices_ContainsFunc_int_int.f (k:Nat) (l0:List Int):Option (Bool):=(slices_IndexFunc_int_int.f k l0).bind fun teq=>(some (decide (teq≥0)))
theorem slices_ContainsFunc_int_int.calls (k:Nat) (A0:Option Addr) (c0:Nat) (l0:List Int) (r:Bool) (w:World) (hr0:Kd.C (Kd.int .i64) w A0 l0.length l0) (hc0:l0.length≤c0) (h:slices_ContainsFunc_int_int.f k l0=some r):
  Calls Try.prog 95 #[.slice A0 l0.length c0,.func (.func 96) #[] #[]] w fun e w'=>e= .returned (.bool r)∧Drawn0 w w':=by
 have HR0:=am_ hr0;have HC0:=am_ hc0;clear hr0 hc0;have H:((slices_IndexFunc_int_int.f k l0).bind fun teq=>(some (decide (teq≥0))))=some r:=h;clear h;obtain⟨teq,A2,H⟩:=bnd_ H;obtain rfl:=Option.some.inj H;go_enter Try.func95,Try.ntmps95
 go_wp2_with (((with_reducible refine gate_callee (f:=100) rfl ?_);refine goesL_ (some 7) rfl rfl Try.func100 y0_ rfl #[.slice A0 l0.length c0,.func (.func 96) #[] #[]] rfl z1_ ?_;(with_reducible refine(slices_IndexFunc_int_int.calls k _ _ l0 teq _ ?s1 ?s2 A2.out).mono ?_);(case s1=>exact z43_);(case s2=>exact HC0.out);rintro e w' ⟨rfl,⟨nd,rfl⟩⟩;refine⟨_,rfl,?_⟩))
 go_ret;exact⟨z9_,z57_⟩

/-! ### impl_pricesOk: function 87 -/
def impl_pricesOk.f (k:Nat) (l0:List Int) (a1:Int):Option (Bool):=if (l0.length:Int)=a1 then ((slices_ContainsFunc_int_int.f k l0).bind fun tcQ=>(some (!tcQ))) else (some false)
theorem impl_pricesOk.calls (k:Nat) (A0:Option Addr) (c0:Nat) (l0:List Int) (a1:Int) (r:Bool) (w:World) (hr0:Kd.C (Kd.int .i64) w A0 l0.length l0) (hc0:l0.length≤c0) (h:impl_pricesOk.f k l0 a1=some r):
  Calls Try.prog 87 #[.slice A0 l0.length c0,.int .i64 a1] w fun e w'=>e= .returned (.bool r)∧Drawn0 w w':=by
 have HR0:=am_ hr0;have HC0:=am_ hc0;clear hr0 hc0;have H:(if (l0.length:Int)=a1 then ((slices_ContainsFunc_int_int.f k l0).bind fun tcQ=>(some (!tcQ))) else (some false))=some r:=h;clear h;by_cases c3:(l0.length:Int)=a1
 ·rw[if_pos c3] at H;have c3b0:((l0.length:Int)==a1)=true:=beq_iff_eq.mpr c3;have c3b1:((l0.length:Int) != a1)=false:=bne_eq_false_iff_eq.mpr c3;clear c3;obtain⟨tcQ,A4,H⟩:=bnd_ H;obtain rfl:=Option.some.inj H;go_enter Try.func87,Try.ntmps87
  go_wp2_with ((go_at_call 95;(with_reducible refine(slices_ContainsFunc_int_int.calls k _ _ l0 tcQ _ ?s1 ?s2 A4.out).mono ?_);(case s1=>exact z43_);(case s2=>exact HC0.out);rintro e w' ⟨rfl,⟨nd,rfl⟩⟩))
  go_ret;exact⟨z9_,z57_⟩
 ·rw[if_neg c3] at H;have c3b0:((l0.length:Int)==a1)=false:=beq_eq_false_iff_ne.mpr c3;have c3b1:((l0.length:Int) != a1)=true:=bne_iff_ne.mpr c3;obtain rfl:=Option.some.inj H;go_enter Try.func87,Try.ntmps87;go_wp2;go_ret;exact⟨z9_,z57_⟩

/-! ### impl_CostOk: function 69 -/
mutual
def impl_CostOk.j0:Nat→Bool→List Int→List Int→List Int→Option (Bool)
 |0,_,_,_,_=>none
 |k+1,x19,xiq,xir,xgJ=>if x19=true then (some false) else (impl_CostOk.l0 k 0 xiq xir xgJ)
def impl_CostOk.l0:Nat→Int→List Int→List Int→List Int→Option (Bool)
 |0,_,_,_,_=>none
 |k+1,x20,xiq,xir,xgJ=>if x20<6 then (if 0≤(wrap64 ((wrap64 (x20*6))+x20)) then (if (wrap64 ((wrap64 (x20*6))+x20))<(xgJ.length:Int) then (if (rd xgJ (wrap64 ((wrap64 (x20*6))+x20)))=0 then (impl_CostOk.l0 k (wrap64 (x20+1)) xiq xir xgJ) else (some false)) else (none)) else (none)) else (some true)
end
def impl_CostOk.f (k:Nat) (l0_0:List Int) (l0_1:List Int) (l0_2:List Int):Option (Bool):=(impl_pricesOk.f k l0_0 6).bind fun teb=>(if teb=true then ((impl_pricesOk.f k l0_1 6).bind fun tdx=>(if tdx=true then ((impl_pricesOk.f k l0_2 36).bind fun tda=>(impl_CostOk.j0 k (!tda) l0_0 l0_1 l0_2)) else (impl_CostOk.j0 k true l0_0 l0_1 l0_2))) else (impl_CostOk.j0 k true l0_0 l0_1 l0_2))
theorem impl_CostOk.calls (k:Nat) (A0_0:Option Addr) (c0_0:Nat) (l0_0:List Int) (A0_1:Option Addr) (c0_1:Nat) (l0_1:List Int) (A0_2:Option Addr) (c0_2:Nat) (l0_2:List Int) (r:Bool) (w:World) (hr0_0:Kd.C (Kd.int .i64) w A0_0 l0_0.length l0_0) (hc0_0:l0_0.length≤c0_0) (hr0_1:Kd.C (Kd.int .i64) w A0_1 l0_1.length l0_1) (hc0_1:l0_1.length≤c0_1) (hr0_2:Kd.C (Kd.int .i64) w A0_2 l0_2.length l0_2) (hc0_2:l0_2.length≤c0_2) (h:impl_CostOk.f k l0_0 l0_1 l0_2=some r):
  Calls Try.prog 69 #[.agg #[.slice A0_0 l0_0.length c0_0,.slice A0_1 l0_1.length c0_1,.slice A0_2 l0_2.length c0_2]] w fun e w'=>e= .returned (.bool r)∧Below w.heap.size w w':=by
 have hu38:=Try.underlying38;have HR0_0:=am_ hr0_0;have HC0_0:=am_ hc0_0;clear hr0_0 hc0_0;have HR0_1:=am_ hr0_1;have HC0_1:=am_ hc0_1;clear hr0_1 hc0_1;have HR0_2:=am_ hr0_2;have HC0_2:=am_ hc0_2;clear hr0_2 hc0_2;have HB:=am_ (Below.refl w.heap.size w);have H:((impl_pricesOk.f k l0_0 6).bind fun teb=>(if teb=true then ((impl_pricesOk.f k l0_1 6).bind fun tdx=>(if tdx=true then ((impl_pricesOk.f k l0_2 36).bind fun tda=>(impl_CostOk.j0 k (!tda) l0_0 l0_1 l0_2)) else (impl_CostOk.j0 k true l0_0 l0_1 l0_2))) else (impl_CostOk.j0 k true l0_0 l0_1 l0_2)))=some r:=h;clear h;have HC2:=am_ H;clear H;go_enter Try.func69,Try.ntmps69
 go_upto_region 1 with (((with_reducible refine gate_dst (N:=1) rfl ?_);refine box_event ?hg (N:=1) ?hd (cs:=#[.slice A0_0 l0_0.length c0_0,.slice A0_1 l0_1.length c0_1,.slice A0_2 l0_2.length c0_2]) (t:=38) ?hr ?_;(case hd=>rfl);(case hg=>rfl);(case hr=>exact z14_);intro gbbQ hg w3 hbox hb;have BKbQ:=am_ (hbox);have GWbQ:=am_ ((by rw[hg];exact(below_size z0_):w.heap.size≤gbbQ));have GEbQ:=am_ ((by rw[hg];exact(below_size z0_):w.heap.size≤gbbQ));replace HB:=am_ (below_step z0_ hb);clear hb hbox hg))
 go_cut [19] (fun v19 wc=>∃(kq:Nat) (x19_1:Bool),v19= .bool x19_1∧Aside0 (impl_CostOk.j0 kq x19_1 l0_0 l0_1 l0_2=some r)∧Aside0 (kq≤k)∧Aside0 (wc.heap[gbbQ]? =some (.cells #[(.slice A0_0 l0_0.length c0_0),(.slice A0_1 l0_1.length c0_1),(.slice A0_2 l0_2.length c0_2)] 38 (0,0)))∧Aside0 (Below w.heap.size w wc))
 case first=>
  have H:=HC2.out;clear HC2;obtain⟨teb,A4,H⟩:=bnd_ H;by_cases c5:teb=true
  ·subst c5;replace H:=ift_ H;obtain⟨tdx,A6,H⟩:=bnd_ H;by_cases c7:tdx=true
   ·subst c7;replace H:=ift_ H;obtain⟨tda,A8,H⟩:=bnd_ H;have H':=am_ H;clear H;obtain⟨hcz9_0,hcz9_1,hcz9_2,hfz9_0,hfz9_1,hfz9_2⟩:=bx3_ BKbQ.out
    go_wp2_with (first|((with_reducible refine gate_callee (f:=87) rfl ?_);refine goesL_ (some 6) rfl rfl Try.func87 y0_ rfl #[.slice A0_0 l0_0.length c0_0,.int .i64 6] rfl z1_ ?_;(with_reducible refine(impl_pricesOk.calls k _ _ l0_0 6 true _ ?s1 ?s2 A4.out).mono ?_);(case s1=>exact z44_);(case s2=>exact HC0_0.out);rintro e w' ⟨rfl,⟨nd,rfl⟩⟩;refine⟨_,rfl,?_⟩)|(go_at_call 87;(with_reducible refine(impl_pricesOk.calls k _ _ l0_1 6 true _ ?s1 ?s2 A6.out).mono ?_);(case s1=>exact z177_);(case s2=>exact HC0_1.out);rintro e w' ⟨rfl,⟨nd,rfl⟩⟩)|(go_at_call 87;(with_reducible refine(impl_pricesOk.calls k _ _ l0_2 36 tda _ ?s1 ?s2 A8.out).mono ?_);(case s1=>repeat(exact(C_below HR0_2.out z71_)));(case s2=>exact HC0_2.out);rintro e w' ⟨rfl,⟨nd,rfl⟩⟩))
    go_meet
    case rel=>exact⟨_,(!tda),z9_,H',⟨z189_⟩,⟨z196_⟩,⟨z71_⟩⟩
   ·replace c7:=Bool.eq_false_iff.mpr c7;subst c7;replace H:=iff_ H;have H':=am_ H;clear H;obtain⟨hcz10_0,hcz10_1,hcz10_2,hfz10_0,hfz10_1,hfz10_2⟩:=bx3_ BKbQ.out
    go_wp2_with (first|((with_reducible refine gate_callee (f:=87) rfl ?_);refine goesL_ (some 6) rfl rfl Try.func87 y0_ rfl #[.slice A0_0 l0_0.length c0_0,.int .i64 6] rfl z1_ ?_;(with_reducible refine(impl_pricesOk.calls k _ _ l0_0 6 true _ ?s1 ?s2 A4.out).mono ?_);(case s1=>exact z44_);(case s2=>exact HC0_0.out);rintro e w' ⟨rfl,⟨nd,rfl⟩⟩;refine⟨_,rfl,?_⟩)|(go_at_call 87;(with_reducible refine(impl_pricesOk.calls k _ _ l0_1 6 false _ ?s1 ?s2 A6.out).mono ?_);(case s1=>exact z177_);(case s2=>exact HC0_1.out);rintro e w' ⟨rfl,⟨nd,rfl⟩⟩))
    go_meet
    case rel=>exact⟨_,(true),z9_,H',⟨z189_⟩,⟨z196_⟩,⟨z71_⟩⟩
  ·replace c5:=Bool.eq_false_iff.mpr c5;subst c5;replace H:=iff_ H;have H':=am_ H;clear H;obtain⟨hcz11_0,hcz11_1,hcz11_2,hfz11_0,hfz11_1,hfz11_2⟩:=bx3_ BKbQ.out
   go_wp2_with (((with_reducible refine gate_callee (f:=87) rfl ?_);refine goesL_ (some 6) rfl rfl Try.func87 y0_ rfl #[.slice A0_0 l0_0.length c0_0,.int .i64 6] rfl z1_ ?_;(with_reducible refine(impl_pricesOk.calls k _ _ l0_0 6 false _ ?s1 ?s2 A4.out).mono ?_);(case s1=>exact z44_);(case s2=>exact HC0_0.out);rintro e w' ⟨rfl,⟨nd,rfl⟩⟩;refine⟨_,rfl,?_⟩))
   go_meet
   case rel=>exact⟨_,(true),z9_,H',⟨z189_⟩,⟨z196_⟩,⟨z71_⟩⟩
 case rest=>
  clear HC2;obtain⟨kq,x19_1,rfl,HA,HJ1,BKbQ,HB⟩:=hcut;cases kq with
  |zero=>exact absurd HA.out (by simp[impl_CostOk.j0])
  | succ kj1=>
   have H:=HA.out;clear HA;simp only[impl_CostOk.j0] at H;by_cases c12:x19_1=true
   ·subst c12;replace H:=ift_ H;obtain rfl:=Option.some.inj H;go_wp2;go_ret;exact⟨z7_,z71_⟩
   ·replace c12:=Bool.eq_false_iff.mpr c12;subst c12;replace H:=iff_ H;have H':=am_ H;clear H;go_wp2
    go_loopg [20] kj1 (fun kq v20 w'=>∃(x20_2:Int),v20= .int .i64 x20_2∧Aside0 (impl_CostOk.l0 kq x20_2 l0_0 l0_1 l0_2=some r)∧Aside0 (kq≤kj1)∧Aside0 (w'.heap[gbbQ]? =some (.cells #[(.slice A0_0 l0_0.length c0_0),(.slice A0_1 l0_1.length c0_1),(.slice A0_2 l0_2.length c0_2)] 38 (0,0)))∧Aside0 (Below w.heap.size w w'))
    case atStart=>exact⟨(0),z9_,H',⟨Nat.le_refl _⟩,⟨z196_⟩,⟨z71_⟩⟩
    case round=>
     clear H';obtain⟨x20_2,rfl,HA,HK2,BKbQ,HB⟩:=hrel;cases gk with
     |zero=>exact absurd HA.out (by simp[impl_CostOk.l0])
     | succ k2=>
      have H:=HA.out;clear HA;simp only[impl_CostOk.l0] at H;by_cases c13:x20_2<6
      ·rw[if_pos c13] at H;have c13b0:=decide_eq_true c13;clear c13;obtain⟨ji14,hji14⟩:∃j_:Int,(wrap64 ((wrap64 (x20_2*6))+x20_2))=j_:=⟨_,rfl⟩
       rw[hji14] at H;have hji14w:(IntKind.i64.wrap ((wrap64 (x20_2*6))+x20_2))=ji14:=(i64_w _).trans hji14;obtain⟨c15b0,H⟩:=ifd_ H;obtain⟨c16b0,H⟩:=ifd_ H;by_cases c17:(rd l0_2 (ji14))=0
       ·rw[if_pos c17] at H;have c17b0:((rd l0_2 (ji14))==0)=true:=beq_iff_eq.mpr c17;have c17b1:((rd l0_2 (ji14)) != 0)=false:=bne_eq_false_iff_eq.mpr c17;clear c17;have H':=am_ H;clear H;obtain⟨hcz18_0,hcz18_1,hcz18_2,hfz18_0,hfz18_1,hfz18_2⟩:=bx3_ BKbQ.out;have pba:0≤((ji14):Int):=odt_;have qba:(ji14)<(l0_2.length:Int):=odt_;obtain⟨adba,eba,hxba_0⟩:=at_int HR0_2.out (ji14) pba qba;cases eba;replace hxba_0:=(HB.out.cell (bc_ w _ hxba_0)).trans hxba_0;replace pba:=eq_true pba;replace qba:=eq_true qba;go_wp2
        go_roundg k2
        case measure=>have:=HJ1.out;have:=HK2.out;omega
        case rel=>exact⟨(wrap64 (x20_2+1)),z9_,H',⟨by have:=HJ1.out;have:=HK2.out;omega⟩,⟨z196_⟩,⟨z71_⟩⟩
       ·rw[if_neg c17] at H;have c17b0:((rd l0_2 (ji14))==0)=false:=beq_eq_false_iff_ne.mpr c17;have c17b1:((rd l0_2 (ji14)) != 0)=true:=bne_iff_ne.mpr c17;obtain rfl:=Option.some.inj H;obtain⟨hcz19_0,hcz19_1,hcz19_2,hfz19_0,hfz19_1,hfz19_2⟩:=bx3_ BKbQ.out;have pba:0≤((ji14):Int):=odt_;have qba:(ji14)<(l0_2.length:Int):=odt_;obtain⟨adba,eba,hxba_0⟩:=at_int HR0_2.out (ji14) pba qba;cases eba;replace hxba_0:=(HB.out.cell (bc_ w _ hxba_0)).trans hxba_0;replace pba:=eq_true pba;replace qba:=eq_true qba;go_wp2;go_ret;exact⟨z289_,z71_⟩
      ·rw[if_neg c13] at H;have c13b0:=decide_eq_false c13;clear c13;obtain rfl:=Option.some.inj H;go_wp2;go_ret;exact⟨z7_,z71_⟩

end Go.Proofs.Ytbmkobanpakohaa.PFnNear
