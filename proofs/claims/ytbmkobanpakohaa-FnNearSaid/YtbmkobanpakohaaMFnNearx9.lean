/- Walks of functions of FnNear, laid anew out of the kit's print. -/
import Derived.Test.YtbmkobanpakohaaMFnNearx0
import Derived.Test.YtbmkobanpakohaaMFnNearx7
import Derived.Test.YtbmkobanpakohaaMFnNearx8
namespace Go.Proofs.Ytbmkobanpakohaa.PFnNear
open Go.RowKit Go.Proofs.YtbmkobanpakohaaW.PrintWords Go.Proofs.YtbmkobanpakohaaW.PrintLast Go.Proofs.YtbmkobanpakohaaW.PrintMore Go.Proofs.YtbmkobanpakohaaW.PrintWords.Kd Go.Proofs.YtbmkobanpakohaaW.PrintMore.Kd
set_option maxHeartbeats 8000000
set_option maxRecDepth 100000
attribute [local go_sem] max2_int min2_int max_two min_two max_three min_three max_four min_four
set_option linter.unusedVariables false
set_option linter.unusedSimpArgs false

/-! ### spec_l7In: function 89 -/
def spec_l7In.l0:Nat→List Int→Int→Int→Option (Bool)
 |0,_,_,_=>none
 |k+1,x0,x1,x5=>if x5<(x0.length:Int) then (if 0≤x5 then ((spec_l1In.f (rd x0 x5) 0 1000).bind fun tiR=>(if tiR=true then (spec_l7In.l0 k x0 x1 (wrap64 (x5+1))) else (some false))) else (none)) else (some ((x0.length:Int)==x1))
def spec_l7In.f (k:Nat) (l0:List Int) (a1:Int):Option (Bool):=spec_l7In.l0 k l0 a1 0
theorem spec_l7In.calls (k:Nat) (A0:Option Addr) (c0:Nat) (l0:List Int) (a1:Int) (r:Bool) (w:World) (hr0:Kd.C (Kd.int .i64) w A0 l0.length l0) (hc0:l0.length≤c0) (h:spec_l7In.f k l0 a1=some r):
  Calls Try.prog 89 #[.slice A0 l0.length c0,.int .i64 a1] w fun e w'=>e= .returned (.bool r)∧Drawn0 w w':=by
 have HR0:=am_ hr0;have HC0:=am_ hc0;clear hr0 hc0;have H:(spec_l7In.l0 k l0 a1 0)=some r:=h;clear h;have H':=am_ H;clear H;go_enter Try.func89,Try.ntmps89;go_wp2
 go_loopg [5] k (fun kq v5 w'=>∃(x5_1:Int),v5= .int .i64 x5_1∧Aside0 (spec_l7In.l0 kq l0 a1 x5_1=some r)∧Aside0 (kq≤k)∧Drawn0 w w')
 case atStart=>exact⟨(0),z9_,H',⟨Nat.le_refl _⟩,z57_⟩
 case round=>
  clear H';obtain⟨x5_1,rfl,HA,HK1,⟨m1,rfl⟩⟩:=hrel;cases gk with
  |zero=>exact absurd HA.out (by simp[spec_l7In.l0])
  | succ k1=>
   have H:=HA.out;clear HA;simp only[spec_l7In.l0] at H;by_cases c3:x5_1<(l0.length:Int)
   ·rw[if_pos c3] at H;have c3b0:=decide_eq_true c3;clear c3;obtain⟨c4b0,H⟩:=ifd_ H;obtain⟨tiR,A5,H⟩:=bnd_ H;by_cases c6:tiR=true
    ·subst c6;replace H:=ift_ H;have H':=am_ H;clear H;have pbS:0≤(x5_1:Int):=odt_;have qbS:x5_1<(l0.length:Int):=odt_;obtain⟨adbS,ebS,hxbS_0⟩:=at_int HR0.out x5_1 pbS qbS;cases ebS;replace pbS:=eq_true pbS;replace qbS:=eq_true qbS
     go_wp2_with (((with_reducible refine gate_callee (f:=55) rfl ?_);refine goesL_ (some 16) rfl rfl Try.func55 y0_ rfl #[.int .i64 (rd l0 x5_1),.int .i64 0,.int .i64 1000] rfl z1_ ?_;(with_reducible refine(spec_l1In.calls (rd l0 x5_1) 0 1000 true _ A5.out).mono ?_);rintro e w' ⟨rfl,⟨nd,rfl⟩⟩;refine⟨_,rfl,?_⟩))
     go_roundg k1
     case measure=>have:=HK1.out;omega
     case rel=>exact⟨(wrap64 (x5_1+1)),z9_,H',⟨z170_⟩,z57_⟩
    ·replace c6:=Bool.eq_false_iff.mpr c6;subst c6;replace H:=iff_ H;obtain rfl:=Option.some.inj H;have pbS:0≤(x5_1:Int):=odt_;have qbS:x5_1<(l0.length:Int):=odt_;obtain⟨adbS,ebS,hxbS_0⟩:=at_int HR0.out x5_1 pbS qbS;cases ebS;replace pbS:=eq_true pbS;replace qbS:=eq_true qbS
     go_wp2_with (((with_reducible refine gate_callee (f:=55) rfl ?_);refine goesL_ (some 16) rfl rfl Try.func55 y0_ rfl #[.int .i64 (rd l0 x5_1),.int .i64 0,.int .i64 1000] rfl z1_ ?_;(with_reducible refine(spec_l1In.calls (rd l0 x5_1) 0 1000 false _ A5.out).mono ?_);rintro e w' ⟨rfl,⟨nd,rfl⟩⟩;refine⟨_,rfl,?_⟩))
     go_ret;exact⟨z9_,z57_⟩
   ·rw[if_neg c3] at H;have c3b0:=decide_eq_false c3;clear c3;obtain rfl:=Option.some.inj H;go_wp2;go_ret;exact⟨z9_,z57_⟩

/-! ### spec_CostOk: function 79 -/
mutual
def spec_CostOk.j0:Nat→Bool→List Int→List Int→List Int→Option (Bool)
 |0,_,_,_,_=>none
 |k+1,x19,xiS,xiT,xgZ=>if x19=true then (some false) else (spec_CostOk.l0 k 0 xiS xiT xgZ)
def spec_CostOk.l0:Nat→Int→List Int→List Int→List Int→Option (Bool)
 |0,_,_,_,_=>none
 |k+1,x3,xiS,xiT,xgZ=>if x3<6 then (if 0≤(wrap64 ((wrap64 (x3*6))+x3)) then (if (wrap64 ((wrap64 (x3*6))+x3))<(xgZ.length:Int) then (if (rd xgZ (wrap64 ((wrap64 (x3*6))+x3)))=0 then (spec_CostOk.l0 k (wrap64 (x3+1)) xiS xiT xgZ) else (some false)) else (none)) else (none)) else (some true)
end
def spec_CostOk.f (k:Nat) (l0_0:List Int) (l0_1:List Int) (l0_2:List Int):Option (Bool):=(spec_l7In.f k l0_0 6).bind fun tg0=>(if tg0=true then ((spec_l7In.f k l0_1 6).bind fun tg1=>(if tg1=true then ((spec_l7In.f k l0_2 36).bind fun tgm=>(spec_CostOk.j0 k (!tgm) l0_0 l0_1 l0_2)) else (spec_CostOk.j0 k true l0_0 l0_1 l0_2))) else (spec_CostOk.j0 k true l0_0 l0_1 l0_2))
theorem spec_CostOk.calls (k:Nat) (A0_0:Option Addr) (c0_0:Nat) (l0_0:List Int) (A0_1:Option Addr) (c0_1:Nat) (l0_1:List Int) (A0_2:Option Addr) (c0_2:Nat) (l0_2:List Int) (r:Bool) (w:World) (hr0_0:Kd.C (Kd.int .i64) w A0_0 l0_0.length l0_0) (hc0_0:l0_0.length≤c0_0) (hr0_1:Kd.C (Kd.int .i64) w A0_1 l0_1.length l0_1) (hc0_1:l0_1.length≤c0_1) (hr0_2:Kd.C (Kd.int .i64) w A0_2 l0_2.length l0_2) (hc0_2:l0_2.length≤c0_2) (h:spec_CostOk.f k l0_0 l0_1 l0_2=some r):
  Calls Try.prog 79 #[.agg #[.slice A0_0 l0_0.length c0_0,.slice A0_1 l0_1.length c0_1,.slice A0_2 l0_2.length c0_2]] w fun e w'=>e= .returned (.bool r)∧Below w.heap.size w w':=by
 have hu38:=Try.underlying38;have HR0_0:=am_ hr0_0;have HC0_0:=am_ hc0_0;clear hr0_0 hc0_0;have HR0_1:=am_ hr0_1;have HC0_1:=am_ hc0_1;clear hr0_1 hc0_1;have HR0_2:=am_ hr0_2;have HC0_2:=am_ hc0_2;clear hr0_2 hc0_2;have HB:=am_ (Below.refl w.heap.size w);have H:((spec_l7In.f k l0_0 6).bind fun tg0=>(if tg0=true then ((spec_l7In.f k l0_1 6).bind fun tg1=>(if tg1=true then ((spec_l7In.f k l0_2 36).bind fun tgm=>(spec_CostOk.j0 k (!tgm) l0_0 l0_1 l0_2)) else (spec_CostOk.j0 k true l0_0 l0_1 l0_2))) else (spec_CostOk.j0 k true l0_0 l0_1 l0_2)))=some r:=h;clear h;have HC2:=am_ H;clear H;go_enter Try.func79,Try.ntmps79
 go_upto_region 1 with (((with_reducible refine gate_dst (N:=1) rfl ?_);refine box_event ?hg (N:=1) ?hd (cs:=#[.slice A0_0 l0_0.length c0_0,.slice A0_1 l0_1.length c0_1,.slice A0_2 l0_2.length c0_2]) (t:=38) ?hr ?_;(case hd=>rfl);(case hg=>rfl);(case hr=>exact z14_);intro gbcr hg w3 hbox hb;have BKcr:=am_ (hbox);have GWcr:=am_ ((by rw[hg];exact(below_size z0_):w.heap.size≤gbcr));have GEcr:=am_ ((by rw[hg];exact(below_size z0_):w.heap.size≤gbcr));replace HB:=am_ (below_step z0_ hb);clear hb hbox hg))
 go_cut [19] (fun v19 wc=>∃(kq:Nat) (x19_1:Bool),v19= .bool x19_1∧Aside0 (spec_CostOk.j0 kq x19_1 l0_0 l0_1 l0_2=some r)∧Aside0 (kq≤k)∧Aside0 (wc.heap[gbcr]? =some (.cells #[(.slice A0_0 l0_0.length c0_0),(.slice A0_1 l0_1.length c0_1),(.slice A0_2 l0_2.length c0_2)] 38 (0,0)))∧Aside0 (Below w.heap.size w wc))
 case first=>
  have H:=HC2.out;clear HC2;obtain⟨tg0,A4,H⟩:=bnd_ H;by_cases c5:tg0=true
  ·subst c5;replace H:=ift_ H;obtain⟨tg1,A6,H⟩:=bnd_ H;by_cases c7:tg1=true
   ·subst c7;replace H:=ift_ H;obtain⟨tgm,A8,H⟩:=bnd_ H;have H':=am_ H;clear H;obtain⟨hcz9_0,hcz9_1,hcz9_2,hfz9_0,hfz9_1,hfz9_2⟩:=bx3_ BKcr.out
    go_wp2_with (first|((with_reducible refine gate_callee (f:=89) rfl ?_);refine goesL_ (some 6) rfl rfl Try.func89 y0_ rfl #[.slice A0_0 l0_0.length c0_0,.int .i64 6] rfl z1_ ?_;(with_reducible refine(spec_l7In.calls k _ _ l0_0 6 true _ ?s1 ?s2 A4.out).mono ?_);(case s1=>exact z44_);(case s2=>exact HC0_0.out);rintro e w' ⟨rfl,⟨nd,rfl⟩⟩;refine⟨_,rfl,?_⟩)|(go_at_call 89;(with_reducible refine(spec_l7In.calls k _ _ l0_1 6 true _ ?s1 ?s2 A6.out).mono ?_);(case s1=>exact z178_);(case s2=>exact HC0_1.out);rintro e w' ⟨rfl,⟨nd,rfl⟩⟩)|(go_at_call 89;(with_reducible refine(spec_l7In.calls k _ _ l0_2 36 tgm _ ?s1 ?s2 A8.out).mono ?_);(case s1=>repeat(exact(C_below HR0_2.out z72_)));(case s2=>exact HC0_2.out);rintro e w' ⟨rfl,⟨nd,rfl⟩⟩))
    go_meet
    case rel=>exact⟨_,(!tgm),z9_,H',⟨z189_⟩,⟨z197_⟩,⟨z72_⟩⟩
   ·replace c7:=Bool.eq_false_iff.mpr c7;subst c7;replace H:=iff_ H;have H':=am_ H;clear H;obtain⟨hcz10_0,hcz10_1,hcz10_2,hfz10_0,hfz10_1,hfz10_2⟩:=bx3_ BKcr.out
    go_wp2_with (first|((with_reducible refine gate_callee (f:=89) rfl ?_);refine goesL_ (some 6) rfl rfl Try.func89 y0_ rfl #[.slice A0_0 l0_0.length c0_0,.int .i64 6] rfl z1_ ?_;(with_reducible refine(spec_l7In.calls k _ _ l0_0 6 true _ ?s1 ?s2 A4.out).mono ?_);(case s1=>exact z44_);(case s2=>exact HC0_0.out);rintro e w' ⟨rfl,⟨nd,rfl⟩⟩;refine⟨_,rfl,?_⟩)|(go_at_call 89;(with_reducible refine(spec_l7In.calls k _ _ l0_1 6 false _ ?s1 ?s2 A6.out).mono ?_);(case s1=>exact z178_);(case s2=>exact HC0_1.out);rintro e w' ⟨rfl,⟨nd,rfl⟩⟩))
    go_meet
    case rel=>exact⟨_,(true),z9_,H',⟨z189_⟩,⟨z197_⟩,⟨z72_⟩⟩
  ·replace c5:=Bool.eq_false_iff.mpr c5;subst c5;replace H:=iff_ H;have H':=am_ H;clear H;obtain⟨hcz11_0,hcz11_1,hcz11_2,hfz11_0,hfz11_1,hfz11_2⟩:=bx3_ BKcr.out
   go_wp2_with (((with_reducible refine gate_callee (f:=89) rfl ?_);refine goesL_ (some 6) rfl rfl Try.func89 y0_ rfl #[.slice A0_0 l0_0.length c0_0,.int .i64 6] rfl z1_ ?_;(with_reducible refine(spec_l7In.calls k _ _ l0_0 6 false _ ?s1 ?s2 A4.out).mono ?_);(case s1=>exact z44_);(case s2=>exact HC0_0.out);rintro e w' ⟨rfl,⟨nd,rfl⟩⟩;refine⟨_,rfl,?_⟩))
   go_meet
   case rel=>exact⟨_,(true),z9_,H',⟨z189_⟩,⟨z197_⟩,⟨z72_⟩⟩
 case rest=>
  clear HC2;obtain⟨kq,x19_1,rfl,HA,HJ1,BKcr,HB⟩:=hcut;cases kq with
  |zero=>exact absurd HA.out (by simp[spec_CostOk.j0])
  | succ kj1=>
   have H:=HA.out;clear HA;simp only[spec_CostOk.j0] at H;by_cases c12:x19_1=true
   ·subst c12;replace H:=ift_ H;obtain rfl:=Option.some.inj H;go_wp2;go_ret;exact⟨z7_,z72_⟩
   ·replace c12:=Bool.eq_false_iff.mpr c12;subst c12;replace H:=iff_ H;have H':=am_ H;clear H;go_wp2
    go_loopg [3] kj1 (fun kq v3 w'=>∃(x3_2:Int),v3= .int .i64 x3_2∧Aside0 (spec_CostOk.l0 kq x3_2 l0_0 l0_1 l0_2=some r)∧Aside0 (kq≤kj1)∧Aside0 (w'.heap[gbcr]? =some (.cells #[(.slice A0_0 l0_0.length c0_0),(.slice A0_1 l0_1.length c0_1),(.slice A0_2 l0_2.length c0_2)] 38 (0,0)))∧Aside0 (Below w.heap.size w w'))
    case atStart=>exact⟨(0),z9_,H',⟨Nat.le_refl _⟩,⟨z197_⟩,⟨z72_⟩⟩
    case round=>
     clear H';obtain⟨x3_2,rfl,HA,HK2,BKcr,HB⟩:=hrel;cases gk with
     |zero=>exact absurd HA.out (by simp[spec_CostOk.l0])
     | succ k2=>
      have H:=HA.out;clear HA;simp only[spec_CostOk.l0] at H;by_cases c13:x3_2<6
      ·rw[if_pos c13] at H;have c13b0:=decide_eq_true c13;clear c13;obtain⟨ji14,hji14⟩:∃j_:Int,(wrap64 ((wrap64 (x3_2*6))+x3_2))=j_:=⟨_,rfl⟩
       rw[hji14] at H;have hji14w:(IntKind.i64.wrap ((wrap64 (x3_2*6))+x3_2))=ji14:=(i64_w _).trans hji14;obtain⟨c15b0,H⟩:=ifd_ H;obtain⟨c16b0,H⟩:=ifd_ H;by_cases c17:(rd l0_2 (ji14))=0
       ·rw[if_pos c17] at H;have c17b0:((rd l0_2 (ji14))==0)=true:=beq_iff_eq.mpr c17;have c17b1:((rd l0_2 (ji14)) != 0)=false:=bne_eq_false_iff_eq.mpr c17;clear c17;have H':=am_ H;clear H;obtain⟨hcz18_0,hcz18_1,hcz18_2,hfz18_0,hfz18_1,hfz18_2⟩:=bx3_ BKcr.out;have pbu:0≤((ji14):Int):=odt_;have qbu:(ji14)<(l0_2.length:Int):=odt_;obtain⟨adbu,ebu,hxbu_0⟩:=at_int HR0_2.out (ji14) pbu qbu;cases ebu;replace hxbu_0:=(HB.out.cell (bc_ w _ hxbu_0)).trans hxbu_0;replace pbu:=eq_true pbu;replace qbu:=eq_true qbu;go_wp2
        go_roundg k2
        case measure=>have:=HJ1.out;have:=HK2.out;omega
        case rel=>exact⟨(wrap64 (x3_2+1)),z9_,H',⟨by have:=HJ1.out;have:=HK2.out;omega⟩,⟨z197_⟩,⟨z72_⟩⟩
       ·rw[if_neg c17] at H;have c17b0:((rd l0_2 (ji14))==0)=false:=beq_eq_false_iff_ne.mpr c17;have c17b1:((rd l0_2 (ji14)) != 0)=true:=bne_iff_ne.mpr c17;obtain rfl:=Option.some.inj H;obtain⟨hcz19_0,hcz19_1,hcz19_2,hfz19_0,hfz19_1,hfz19_2⟩:=bx3_ BKcr.out;have pbu:0≤((ji14):Int):=odt_;have qbu:(ji14)<(l0_2.length:Int):=odt_;obtain⟨adbu,ebu,hxbu_0⟩:=at_int HR0_2.out (ji14) pbu qbu;cases ebu;replace hxbu_0:=(HB.out.cell (bc_ w _ hxbu_0)).trans hxbu_0;replace pbu:=eq_true pbu;replace qbu:=eq_true qbu;go_wp2;go_ret;exact⟨z289_,z72_⟩
      ·rw[if_neg c13] at H;have c13b0:=decide_eq_false c13;clear c13;obtain rfl:=Option.some.inj H;go_wp2;go_ret;exact⟨z7_,z72_⟩

/-! ### spec_l8Three: function 61 -/
def spec_l8Three.f (k:Nat) (l0:List (S61)) (l1:List (S61)) (l2_0:List Int) (l2_1:List Int) (l2_2:List Int):Option (Bool):=(spec_TreeOk.f k l0).bind fun tg2=>(if tg2=true then ((spec_TreeOk.f k l1).bind fun tg3=>(if tg3=true then ((spec_CostOk.f k l2_0 l2_1 l2_2).bind fun tg4=>(some tg4)) else (some false))) else (some false))
theorem spec_l8Three.calls (k:Nat) (A0:Option Addr) (c0:Nat) (l0:List (S61)) (A1:Option Addr) (c1:Nat) (l1:List (S61)) (A2_0:Option Addr) (c2_0:Nat) (l2_0:List Int) (A2_1:Option Addr) (c2_1:Nat) (l2_1:List Int) (A2_2:Option Addr) (c2_2:Nat) (l2_2:List Int) (r:Bool) (w:World) (hr0:Kd.C k61 w A0 l0.length l0) (hc0:l0.length≤c0) (hr1:Kd.C k61 w A1 l1.length l1) (hc1:l1.length≤c1) (hr2_0:Kd.C (Kd.int .i64) w A2_0 l2_0.length l2_0) (hc2_0:l2_0.length≤c2_0) (hr2_1:Kd.C (Kd.int .i64) w A2_1 l2_1.length l2_1) (hc2_1:l2_1.length≤c2_1) (hr2_2:Kd.C (Kd.int .i64) w A2_2 l2_2.length l2_2) (hc2_2:l2_2.length≤c2_2) (h:spec_l8Three.f k l0 l1 l2_0 l2_1 l2_2=some r):
  Calls Try.prog 61 #[.slice A0 l0.length c0,.slice A1 l1.length c1,.agg #[.slice A2_0 l2_0.length c2_0,.slice A2_1 l2_1.length c2_1,.slice A2_2 l2_2.length c2_2]] w fun e w'=>e= .returned (.bool r)∧Below w.heap.size w w':=by
 have hu38:=Try.underlying38;have HR0:=am_ hr0;have HC0:=am_ hc0;clear hr0 hc0;have HR1:=am_ hr1;have HC1:=am_ hc1;clear hr1 hc1;have HR2_0:=am_ hr2_0;have HC2_0:=am_ hc2_0;clear hr2_0 hc2_0;have HR2_1:=am_ hr2_1;have HC2_1:=am_ hc2_1;clear hr2_1 hc2_1;have HR2_2:=am_ hr2_2;have HC2_2:=am_ hc2_2;clear hr2_2 hc2_2;have HB:=am_ (Below.refl w.heap.size w);have H:((spec_TreeOk.f k l0).bind fun tg2=>(if tg2=true then ((spec_TreeOk.f k l1).bind fun tg3=>(if tg3=true then ((spec_CostOk.f k l2_0 l2_1 l2_2).bind fun tg4=>(some tg4)) else (some false))) else (some false)))=some r:=h;clear h;obtain⟨tg2,A4,H⟩:=bnd_ H;by_cases c5:tg2=true
 ·subst c5;replace H:=ift_ H;obtain⟨tg3,A6,H⟩:=bnd_ H;by_cases c7:tg3=true
  ·subst c7;replace H:=ift_ H;obtain⟨tg4,A8,H⟩:=bnd_ H;obtain rfl:=Option.some.inj H;go_enter Try.func61,Try.ntmps61
   go_wp2_with (first|((with_reducible refine gate_dst (N:=5) rfl ?_);refine box_event ?hg (N:=5) ?hd (cs:=#[.slice A2_0 l2_0.length c2_0,.slice A2_1 l2_1.length c2_1,.slice A2_2 l2_2.length c2_2]) (t:=38) ?hr ?_;(case hd=>rfl);(case hg=>rfl);(case hr=>exact z14_);intro gbbJ hg w9 hbox hb;have BKbJ:=am_ (hbox);have GWbJ:=am_ ((by rw[hg];exact(below_size z0_):w.heap.size≤gbbJ));have GEbJ:=am_ ((by rw[hg];exact(below_size z0_):w.heap.size≤gbbJ));replace HB:=am_ (below_step z0_ hb);clear hb hbox hg)|((with_reducible refine gate_callee (f:=28) rfl ?_);refine goesL_ (some 8) rfl rfl Try.func28 y0_ rfl #[.slice A0 l0.length c0] rfl z1_ ?_;(with_reducible refine(spec_TreeOk.calls k _ _ l0 true _ ?s1 ?s2 A4.out).mono ?_);(case s1=>exact z6_);(case s2=>exact HC0.out);rintro e w10 ⟨rfl,hb⟩;refine⟨_,rfl,?_⟩;replace BKbJ:=am_ (blk_below z173_ hb);replace HB:=am_ (below_step z97_ hb);(try clear hb))|(go_at_call 28;(with_reducible refine(spec_TreeOk.calls k _ _ l1 true _ ?s1 ?s2 A6.out).mono ?_);(case s1=>exact z16_);(case s2=>exact HC1.out);rintro e w11 ⟨rfl,hb⟩;replace BKbJ:=am_ (blk_below z173_ hb);replace HB:=am_ (below_step z97_ hb);(try clear hb);obtain⟨hcz12_0,hcz12_1,hcz12_2,hfz12_0,hfz12_1,hfz12_2⟩:=bx3_ BKbJ.out)|(go_at_call 79;(with_reducible refine(spec_CostOk.calls k _ _ l2_0 _ _ l2_1 _ _ l2_2 tg4 _ ?s1 ?s2 ?s3 ?s4 ?s5 ?s6 A8.out).mono ?_);(case s1=>exact z33_);(case s2=>exact HC2_0.out);(case s3=>exact z34_);(case s4=>exact HC2_1.out);(case s5=>exact z35_);(case s6=>exact HC2_2.out);rintro e w13 ⟨rfl,hb⟩;replace BKbJ:=am_ (blk_below z173_ hb);replace HB:=am_ (below_step z97_ hb);(try clear hb)))
   go_ret;exact⟨z7_,z97_⟩
  ·replace c7:=Bool.eq_false_iff.mpr c7;subst c7;replace H:=iff_ H;obtain rfl:=Option.some.inj H;go_enter Try.func61,Try.ntmps61
   go_wp2_with (first|((with_reducible refine gate_dst (N:=5) rfl ?_);refine box_event ?hg (N:=5) ?hd (cs:=#[.slice A2_0 l2_0.length c2_0,.slice A2_1 l2_1.length c2_1,.slice A2_2 l2_2.length c2_2]) (t:=38) ?hr ?_;(case hd=>rfl);(case hg=>rfl);(case hr=>exact z14_);intro gbbJ hg w14 hbox hb;have BKbJ:=am_ (hbox);have GWbJ:=am_ ((by rw[hg];exact(below_size z0_):w.heap.size≤gbbJ));have GEbJ:=am_ ((by rw[hg];exact(below_size z0_):w.heap.size≤gbbJ));replace HB:=am_ (below_step z0_ hb);clear hb hbox hg)|((with_reducible refine gate_callee (f:=28) rfl ?_);refine goesL_ (some 8) rfl rfl Try.func28 y0_ rfl #[.slice A0 l0.length c0] rfl z1_ ?_;(with_reducible refine(spec_TreeOk.calls k _ _ l0 true _ ?s1 ?s2 A4.out).mono ?_);(case s1=>exact z6_);(case s2=>exact HC0.out);rintro e w15 ⟨rfl,hb⟩;refine⟨_,rfl,?_⟩;replace BKbJ:=am_ (blk_below z173_ hb);replace HB:=am_ (below_step z97_ hb);(try clear hb))|(go_at_call 28;(with_reducible refine(spec_TreeOk.calls k _ _ l1 false _ ?s1 ?s2 A6.out).mono ?_);(case s1=>exact z16_);(case s2=>exact HC1.out);rintro e w16 ⟨rfl,hb⟩;replace BKbJ:=am_ (blk_below z173_ hb);replace HB:=am_ (below_step z97_ hb);(try clear hb)))
   go_ret;exact⟨z7_,z97_⟩
 ·replace c5:=Bool.eq_false_iff.mpr c5;subst c5;replace H:=iff_ H;obtain rfl:=Option.some.inj H;go_enter Try.func61,Try.ntmps61
  go_wp2_with (first|((with_reducible refine gate_dst (N:=5) rfl ?_);refine box_event ?hg (N:=5) ?hd (cs:=#[.slice A2_0 l2_0.length c2_0,.slice A2_1 l2_1.length c2_1,.slice A2_2 l2_2.length c2_2]) (t:=38) ?hr ?_;(case hd=>rfl);(case hg=>rfl);(case hr=>exact z14_);intro gbbJ hg w17 hbox hb;have BKbJ:=am_ (hbox);have GWbJ:=am_ ((by rw[hg];exact(below_size z0_):w.heap.size≤gbbJ));have GEbJ:=am_ ((by rw[hg];exact(below_size z0_):w.heap.size≤gbbJ));replace HB:=am_ (below_step z0_ hb);clear hb hbox hg)|((with_reducible refine gate_callee (f:=28) rfl ?_);refine goesL_ (some 8) rfl rfl Try.func28 y0_ rfl #[.slice A0 l0.length c0] rfl z1_ ?_;(with_reducible refine(spec_TreeOk.calls k _ _ l0 false _ ?s1 ?s2 A4.out).mono ?_);(case s1=>exact z6_);(case s2=>exact HC0.out);rintro e w18 ⟨rfl,hb⟩;refine⟨_,rfl,?_⟩;replace BKbJ:=am_ (blk_below z173_ hb);replace HB:=am_ (below_step z97_ hb);(try clear hb)))
  go_ret;exact⟨z7_,z97_⟩

/-! ### spec_l3At: function 78 -/
def spec_l3At.f (k:Nat) (l0:List (S61)) (a1:Int):Option (Bool):=(spec_TreeOk.f k l0).bind fun tg5=>(if tg5=true then ((spec_l1In.f a1 0 (wrap64 ((l0.length:Int)-1))).bind fun tg6=>(some tg6)) else (some false))
theorem spec_l3At.calls (k:Nat) (A0:Option Addr) (c0:Nat) (l0:List (S61)) (a1:Int) (r:Bool) (w:World) (hr0:Kd.C k61 w A0 l0.length l0) (hc0:l0.length≤c0) (h:spec_l3At.f k l0 a1=some r):
  Calls Try.prog 78 #[.slice A0 l0.length c0,.int .i64 a1] w fun e w'=>e= .returned (.bool r)∧Below w.heap.size w w':=by
 have HR0:=am_ hr0;have HC0:=am_ hc0;clear hr0 hc0;have HB:=am_ (Below.refl w.heap.size w);have H:((spec_TreeOk.f k l0).bind fun tg5=>(if tg5=true then ((spec_l1In.f a1 0 (wrap64 ((l0.length:Int)-1))).bind fun tg6=>(some tg6)) else (some false)))=some r:=h;clear h;obtain⟨tg5,A3,H⟩:=bnd_ H;by_cases c4:tg5=true
 ·subst c4;replace H:=ift_ H;obtain⟨tg6,A5,H⟩:=bnd_ H;obtain rfl:=Option.some.inj H;go_enter Try.func78,Try.ntmps78
  go_wp2_with (first|((with_reducible refine gate_callee (f:=28) rfl ?_);refine goesL_ (some 6) rfl rfl Try.func28 y0_ rfl #[.slice A0 l0.length c0] rfl z1_ ?_;(with_reducible refine(spec_TreeOk.calls k _ _ l0 true _ ?s1 ?s2 A3.out).mono ?_);(case s1=>exact z43_);(case s2=>exact HC0.out);rintro e w6 ⟨rfl,hb⟩;refine⟨_,rfl,?_⟩;replace HB:=am_ (below_step z0_ hb);(try clear hb))|(go_at_call 55;(with_reducible refine(spec_l1In.calls a1 0 (wrap64 ((l0.length:Int)-1)) tg6 _ A5.out).mono ?_);rintro e w' ⟨rfl,⟨nd,rfl⟩⟩))
  go_ret;exact⟨z7_,z0_⟩
 ·replace c4:=Bool.eq_false_iff.mpr c4;subst c4;replace H:=iff_ H;obtain rfl:=Option.some.inj H;go_enter Try.func78,Try.ntmps78
  go_wp2_with (((with_reducible refine gate_callee (f:=28) rfl ?_);refine goesL_ (some 6) rfl rfl Try.func28 y0_ rfl #[.slice A0 l0.length c0] rfl z1_ ?_;(with_reducible refine(spec_TreeOk.calls k _ _ l0 false _ ?s1 ?s2 A3.out).mono ?_);(case s1=>exact z43_);(case s2=>exact HC0.out);rintro e w7 ⟨rfl,hb⟩;refine⟨_,rfl,?_⟩;replace HB:=am_ (below_step z0_ hb);(try clear hb)))
  go_ret;exact⟨z7_,z0_⟩

/-! ### spec_EndOf: function 60 -/
def spec_EndOf.l0:Nat→List (S61)→Int→Int→Option (Int)
 |0,_,_,_=>none
 |k+1,x0,x1,x5=>if x5<(x0.length:Int) then (if 0≤x5 then (if 0≤x1 then (if x1<(x0.length:Int) then (if ((rd_T61 x0 x5).f1)>((rd_T61 x0 x1).f1) then (spec_EndOf.l0 k x0 x1 (wrap64 (x5+1))) else (some x5)) else (none)) else (none)) else (none)) else (some x5)
def spec_EndOf.f (k:Nat) (l0:List (S61)) (a1:Int):Option (Int):=(spec_l3At.f k l0 a1).bind fun tg7=>(if tg7=true then (spec_EndOf.l0 k l0 a1 (wrap64 (a1+1))) else (some (-1)))
theorem spec_EndOf.calls (k:Nat) (A0:Option Addr) (c0:Nat) (l0:List (S61)) (a1:Int) (r:Int) (w:World) (hr0:Kd.C k61 w A0 l0.length l0) (hc0:l0.length≤c0) (h:spec_EndOf.f k l0 a1=some r):
  Calls Try.prog 60 #[.slice A0 l0.length c0,.int .i64 a1] w fun e w'=>e= .returned (.int .i64 r)∧Below w.heap.size w w':=by
 have HR0:=am_ hr0;have HC0:=am_ hc0;clear hr0 hc0;have HB:=am_ (Below.refl w.heap.size w);have H:((spec_l3At.f k l0 a1).bind fun tg7=>(if tg7=true then (spec_EndOf.l0 k l0 a1 (wrap64 (a1+1))) else (some (-1))))=some r:=h;clear h;obtain⟨tg7,A3,H⟩:=bnd_ H;by_cases c4:tg7=true
 ·subst c4;replace H:=ift_ H;have H':=am_ H;clear H;go_enter Try.func60,Try.ntmps60
  go_wp2_with ((go_at_call 78;(with_reducible refine(spec_l3At.calls k _ _ l0 a1 true _ ?s1 ?s2 A3.out).mono ?_);(case s1=>exact z43_);(case s2=>exact HC0.out);rintro e w5 ⟨rfl,hb⟩;replace HB:=am_ (below_step z0_ hb);(try clear hb)))
  go_loopg [5] k (fun kq v5 w'=>∃(x5_1:Int),v5= .int .i64 x5_1∧Aside0 (spec_EndOf.l0 kq l0 a1 x5_1=some r)∧Aside0 (kq≤k)∧Aside0 (Below w.heap.size w w'))
  case atStart=>exact⟨(wrap64 (a1+1)),z9_,H',⟨Nat.le_refl _⟩,⟨z0_⟩⟩
  case round=>
   clear H';obtain⟨x5_1,rfl,HA,HK1,HB⟩:=hrel;cases gk with
   |zero=>exact absurd HA.out (by simp[spec_EndOf.l0])
   | succ k1=>
    have H:=HA.out;clear HA;simp only[spec_EndOf.l0] at H;by_cases c6:x5_1<(l0.length:Int)
    ·rw[if_pos c6] at H;have c6b0:=decide_eq_true c6;clear c6;obtain⟨c7b0,H⟩:=ifd_ H;obtain⟨c8b0,H⟩:=ifd_ H;obtain⟨c9b0,H⟩:=ifd_ H;by_cases c10:((rd_T61 l0 x5_1).f1)>((rd_T61 l0 a1).f1)
     ·rw[if_pos c10] at H;have c10b0:=decide_eq_true c10;clear c10;have H':=am_ H;clear H;obtain⟨pdk,qdk,addk,edk,hxdk_0,hxdk_1⟩:=atb61_ HR0 HB x5_1;cases edk;obtain⟨pdl,qdl,addl,edl,hxdl_0,hxdl_1⟩:=atb61_ HR0 HB a1;obtain rfl:addk=addl:=(by injection edl)
      go_wp2
      repeat(go_quiet (fail);try go_wp2)
      go_roundg k1
      case measure=>have:=HK1.out;omega
      case rel=>exact⟨(wrap64 (x5_1+1)),z9_,H',⟨z170_⟩,⟨z0_⟩⟩
     ·rw[if_neg c10] at H;have c10b0:=decide_eq_false c10;clear c10;obtain rfl:=Option.some.inj H;obtain⟨pdk,qdk,addk,edk,hxdk_0,hxdk_1⟩:=atb61_ HR0 HB x5_1;cases edk;obtain⟨pdl,qdl,addl,edl,hxdl_0,hxdl_1⟩:=atb61_ HR0 HB a1;obtain rfl:addk=addl:=(by injection edl)
      go_wp2
      repeat(go_quiet (fail);try go_wp2)
      go_ret;exact⟨z7_,z0_⟩
    ·rw[if_neg c6] at H;have c6b0:=decide_eq_false c6;clear c6;obtain rfl:=Option.some.inj H;go_wp2
     repeat(go_quiet (fail);try go_wp2)
     go_ret;exact⟨z7_,z0_⟩
 ·replace c4:=Bool.eq_false_iff.mpr c4;subst c4;replace H:=iff_ H;obtain rfl:=Option.some.inj H;go_enter Try.func60,Try.ntmps60
  go_wp2_with ((go_at_call 78;(with_reducible refine(spec_l3At.calls k _ _ l0 a1 false _ ?s1 ?s2 A3.out).mono ?_);(case s1=>exact z43_);(case s2=>exact HC0.out);rintro e w11 ⟨rfl,hb⟩;replace HB:=am_ (below_step z0_ hb);(try clear hb)))
  go_ret;exact⟨z7_,z0_⟩

end Go.Proofs.Ytbmkobanpakohaa.PFnNear
