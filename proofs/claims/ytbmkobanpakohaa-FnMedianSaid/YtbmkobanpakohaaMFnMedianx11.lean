/- The walks of the law FnMedian. -/
import Derived.Test.YtbmkobanpakohaaMFnMedianx0
import Derived.Test.YtbmkobanpakohaaMFnMedianx10
namespace Go.Proofs.Ytbmkobanpakohaa.PFnMedian
open Go.RowKit Go.Proofs.YtbmkobanpakohaaW.PrintWords Go.Proofs.YtbmkobanpakohaaW.PrintLast Go.Proofs.YtbmkobanpakohaaW.PrintMore
attribute [local go_sem] max2_int min2_int max_two min_two max_three min_three max_four min_four
set_option linter.unusedVariables false
set_option linter.unusedSimpArgs false

/-! ### slices_IndexFunc_int_int: function 100 -/
def slices_IndexFunc_int_int.l0:Nat→List Int→Int→Int→Option (Int)
 |0,_,_,_=>none
 |k+1,x0,x7,x8=>if x8<x7 then (if 0≤x8 then (if x8<(x0.length:Int) then ((impl_pricesOk_lit1.f (rd x0 x8)).bind fun t330=>(if t330=true then (some x8) else (slices_IndexFunc_int_int.l0 k x0 x7 (wrap64 (x8+1))))) else (none)) else (none)) else (some (-1))
def slices_IndexFunc_int_int.f (k:Nat) (l0:List Int):Option (Int):=slices_IndexFunc_int_int.l0 k l0 (l0.length:Int) 0
set_option maxHeartbeats 8000000 in
set_option maxRecDepth 100000 in
theorem slices_IndexFunc_int_int.calls (k:Nat) (A0:Option Addr) (c0:Nat) (l0:List Int) (r:Int) (w:World) (hr0:Kd.C (Kd.int .i64) w A0 l0.length l0) (hc0:l0.length≤c0) (h:slices_IndexFunc_int_int.f k l0=some r):
  Calls Try.prog 100 #[.slice A0 l0.length c0,.func (.func 96) #[] #[]] w fun e w'=>e= .returned (.int .i64 r)∧Drawn0 w w':=by
 have HR0:=Aside0.mk hr0;have HC0:=Aside0.mk hc0;clear hr0 hc0;have H:(slices_IndexFunc_int_int.l0 k l0 (l0.length:Int) 0)=some r:=h;clear h;have H':=Aside0.mk H;clear H;go_enter Try.func100,Try.ntmps100;go_wp2
 go_loopg [8] k (fun kq v8 w'=>∃(x8_1:Int),v8= .int .i64 x8_1∧Aside0 (slices_IndexFunc_int_int.l0 kq l0 (l0.length:Int) x8_1=some r)∧Aside0 (kq≤k)∧Drawn0 w w')
 case atStart=>exact⟨(0),z9_,H',⟨Nat.le_refl _⟩,z50_⟩
 case round=>
  clear H';obtain⟨x8_1,rfl,HA,HK1,⟨m1,rfl⟩⟩:=hrel;cases gk with
  |zero=>exact absurd HA.out (by simp[slices_IndexFunc_int_int.l0])
  | succ k1=>
   have H:=HA.out;clear HA;simp only[slices_IndexFunc_int_int.l0] at H;by_cases c2:x8_1<(l0.length:Int)
   ·rw[if_pos c2] at H;have c2b0:=decide_eq_true c2;clear c2;obtain⟨c3b0,H⟩:=ifd_ H;obtain⟨c4b0,H⟩:=ifd_ H;obtain⟨t330,A5,H⟩:=bnd_ H;by_cases c6:t330=true
    ·subst c6;replace H:=ift_ H;obtain rfl:=Option.some.inj H;have p329:0≤(x8_1:Int):=odt_;have q329:x8_1<(l0.length:Int):=odt_;obtain⟨ad329,e329,hx329_0⟩:=Kd.at_int HR0.out x8_1 p329 q329;cases e329;replace p329:=eq_true p329;replace q329:=eq_true q329
     go_wp2_with ((go_at_call 96;(with_reducible refine(impl_pricesOk_lit1.calls (rd l0 x8_1) true _ A5.out).mono ?_);rintro e w' ⟨rfl,⟨nd,rfl⟩⟩))
     go_ret;exact⟨z9_,z50_⟩
    ·replace c6:=Bool.eq_false_iff.mpr c6;subst c6;replace H:=iff_ H;have H':=Aside0.mk H;clear H;have p329:0≤(x8_1:Int):=odt_;have q329:x8_1<(l0.length:Int):=odt_;obtain⟨ad329,e329,hx329_0⟩:=Kd.at_int HR0.out x8_1 p329 q329;cases e329;replace p329:=eq_true p329;replace q329:=eq_true q329
     go_wp2_with ((go_at_call 96;(with_reducible refine(impl_pricesOk_lit1.calls (rd l0 x8_1) false _ A5.out).mono ?_);rintro e w' ⟨rfl,⟨nd,rfl⟩⟩))
     go_roundg k1
     case measure=>have:=HK1.out;omega
     case rel=>exact⟨(wrap64 (x8_1+1)),z9_,H',⟨z176_⟩,z50_⟩
   ·rw[if_neg c2] at H;have c2b0:=decide_eq_false c2;clear c2;obtain rfl:=Option.some.inj H;go_wp2;go_ret;exact⟨z9_,z50_⟩

/-! ### slices_ContainsFunc_int_int: function 95 -/
def slices_ContainsFunc_int_int.f (k:Nat) (l0:List Int):Option (Bool):=(slices_IndexFunc_int_int.f k l0).bind fun t331=>(some (decide (t331≥0)))
set_option maxHeartbeats 8000000 in
set_option maxRecDepth 100000 in
theorem slices_ContainsFunc_int_int.calls (k:Nat) (A0:Option Addr) (c0:Nat) (l0:List Int) (r:Bool) (w:World) (hr0:Kd.C (Kd.int .i64) w A0 l0.length l0) (hc0:l0.length≤c0) (h:slices_ContainsFunc_int_int.f k l0=some r):
  Calls Try.prog 95 #[.slice A0 l0.length c0,.func (.func 96) #[] #[]] w fun e w'=>e= .returned (.bool r)∧Drawn0 w w':=by
 have HR0:=Aside0.mk hr0;have HC0:=Aside0.mk hc0;clear hr0 hc0;have H:((slices_IndexFunc_int_int.f k l0).bind fun t331=>(some (decide (t331≥0))))=some r:=h;clear h;obtain⟨t331,A2,H⟩:=bnd_ H;obtain rfl:=Option.some.inj H;go_enter Try.func95,Try.ntmps95
 go_wp2_with (((with_reducible refine gate_callee (f:=100) rfl ?_);refine goesL_ (some 7) rfl rfl Try.func100 y0_ rfl #[.slice A0 l0.length c0,.func (.func 96) #[] #[]] rfl z1_ ?_;(with_reducible refine(slices_IndexFunc_int_int.calls k _ _ l0 t331 _ ?side1 ?side2 A2.out).mono ?_);(case side1=>exact z38_);(case side2=>exact HC0.out);rintro e w' ⟨rfl,⟨nd,rfl⟩⟩;refine⟨_,rfl,?_⟩))
 go_ret;exact⟨z9_,z50_⟩

/-! ### impl_pricesOk: function 87 -/
def impl_pricesOk.f (k:Nat) (l0:List Int) (a1:Int):Option (Bool):=if (l0.length:Int)=a1 then ((slices_ContainsFunc_int_int.f k l0).bind fun t332=>(some (!t332))) else (some false)
set_option maxHeartbeats 8000000 in
set_option maxRecDepth 100000 in
theorem impl_pricesOk.calls (k:Nat) (A0:Option Addr) (c0:Nat) (l0:List Int) (a1:Int) (r:Bool) (w:World) (hr0:Kd.C (Kd.int .i64) w A0 l0.length l0) (hc0:l0.length≤c0) (h:impl_pricesOk.f k l0 a1=some r):
  Calls Try.prog 87 #[.slice A0 l0.length c0,.int .i64 a1] w fun e w'=>e= .returned (.bool r)∧Drawn0 w w':=by
 have HR0:=Aside0.mk hr0;have HC0:=Aside0.mk hc0;clear hr0 hc0;have H:(if (l0.length:Int)=a1 then ((slices_ContainsFunc_int_int.f k l0).bind fun t332=>(some (!t332))) else (some false))=some r:=h;clear h;by_cases c3:(l0.length:Int)=a1
 ·rw[if_pos c3] at H;have c3b0:((l0.length:Int)==a1)=true:=beq_iff_eq.mpr c3;have c3b1:((l0.length:Int) != a1)=false:=bne_eq_false_iff_eq.mpr c3;clear c3;obtain⟨t332,A4,H⟩:=bnd_ H;obtain rfl:=Option.some.inj H;go_enter Try.func87,Try.ntmps87
  go_wp2_with ((go_at_call 95;(with_reducible refine(slices_ContainsFunc_int_int.calls k _ _ l0 t332 _ ?side1 ?side2 A4.out).mono ?_);(case side1=>exact z38_);(case side2=>exact HC0.out);rintro e w' ⟨rfl,⟨nd,rfl⟩⟩))
  go_ret;exact⟨z9_,z50_⟩
 ·rw[if_neg c3] at H;have c3b0:((l0.length:Int)==a1)=false:=beq_eq_false_iff_ne.mpr c3;have c3b1:((l0.length:Int) != a1)=true:=bne_iff_ne.mpr c3;obtain rfl:=Option.some.inj H;go_enter Try.func87,Try.ntmps87;go_wp2;go_ret;exact⟨z9_,z50_⟩

/-! ### impl_CostOk: function 69 -/
mutual
def impl_CostOk.j0:Nat→Bool→List Int→List Int→List Int→Option (Bool)
 |0,_,_,_,_=>none
 |k+1,x19,x334000,x334001,x334002=>if x19=true then (some false) else (impl_CostOk.l0 k 0 x334000 x334001 x334002)
def impl_CostOk.l0:Nat→Int→List Int→List Int→List Int→Option (Bool)
 |0,_,_,_,_=>none
 |k+1,x20,x334000,x334001,x334002=>if x20<6 then (if 0≤(wrap64 ((wrap64 (x20*6))+x20)) then (if (wrap64 ((wrap64 (x20*6))+x20))<(x334002.length:Int) then (if (rd x334002 (wrap64 ((wrap64 (x20*6))+x20)))=0 then (impl_CostOk.l0 k (wrap64 (x20+1)) x334000 x334001 x334002) else (some false)) else (none)) else (none)) else (some true)
end
def impl_CostOk.f (k:Nat) (l0_0:List Int) (l0_1:List Int) (l0_2:List Int):Option (Bool):=(impl_pricesOk.f k l0_0 6).bind fun t334=>(if t334=true then ((impl_pricesOk.f k l0_1 6).bind fun t335=>(if t335=true then ((impl_pricesOk.f k l0_2 36).bind fun t336=>(impl_CostOk.j0 k (!t336) l0_0 l0_1 l0_2)) else (impl_CostOk.j0 k true l0_0 l0_1 l0_2))) else (impl_CostOk.j0 k true l0_0 l0_1 l0_2))
set_option maxHeartbeats 8000000 in
set_option maxRecDepth 100000 in
theorem impl_CostOk.calls (k:Nat) (A0_0:Option Addr) (c0_0:Nat) (l0_0:List Int) (A0_1:Option Addr) (c0_1:Nat) (l0_1:List Int) (A0_2:Option Addr) (c0_2:Nat) (l0_2:List Int) (r:Bool) (w:World) (hr0_0:Kd.C (Kd.int .i64) w A0_0 l0_0.length l0_0) (hc0_0:l0_0.length≤c0_0) (hr0_1:Kd.C (Kd.int .i64) w A0_1 l0_1.length l0_1) (hc0_1:l0_1.length≤c0_1) (hr0_2:Kd.C (Kd.int .i64) w A0_2 l0_2.length l0_2) (hc0_2:l0_2.length≤c0_2) (h:impl_CostOk.f k l0_0 l0_1 l0_2=some r):
  Calls Try.prog 69 #[.agg #[.slice A0_0 l0_0.length c0_0,.slice A0_1 l0_1.length c0_1,.slice A0_2 l0_2.length c0_2]] w fun e w'=>e= .returned (.bool r)∧Below w.heap.size w w':=by
 have hu38:=Try.underlying38;have HR0_0:=Aside0.mk hr0_0;have HC0_0:=Aside0.mk hc0_0;clear hr0_0 hc0_0;have HR0_1:=Aside0.mk hr0_1;have HC0_1:=Aside0.mk hc0_1;clear hr0_1 hc0_1;have HR0_2:=Aside0.mk hr0_2;have HC0_2:=Aside0.mk hc0_2;clear hr0_2 hc0_2;have HB:=am_ (Below.refl w.heap.size w);have H:((impl_pricesOk.f k l0_0 6).bind fun t334=>(if t334=true then ((impl_pricesOk.f k l0_1 6).bind fun t335=>(if t335=true then ((impl_pricesOk.f k l0_2 36).bind fun t336=>(impl_CostOk.j0 k (!t336) l0_0 l0_1 l0_2)) else (impl_CostOk.j0 k true l0_0 l0_1 l0_2))) else (impl_CostOk.j0 k true l0_0 l0_1 l0_2)))=some r:=h;clear h;have HC2:=Aside0.mk H;clear H;go_enter Try.func69,Try.ntmps69
 go_upto_region 1 with (((with_reducible refine gate_dst (N:=1) rfl ?_);refine box_event ?hg (N:=1) ?hd (cs:=#[.slice A0_0 l0_0.length c0_0,.slice A0_1 l0_1.length c0_1,.slice A0_2 l0_2.length c0_2]) (t:=38) ?hr ?_;(case hd=>rfl);(case hg=>rfl);(case hr=>exact z14_);intro gb333 hg w3 hbox hb;have BK333:=am_ (hbox);have GW333:=am_ ((by rw[hg];exact(below_size z0_):w.heap.size≤gb333));have GE333:=am_ ((by rw[hg];exact(below_size z0_):w.heap.size≤gb333));replace HB:=am_ (below_step z0_ hb);clear hb hbox hg))
 go_cut [19] (fun v19 wc=>∃(kq:Nat) (x19_1:Bool),v19= .bool x19_1∧Aside0 (impl_CostOk.j0 kq x19_1 l0_0 l0_1 l0_2=some r)∧Aside0 (kq≤k)∧Aside0 (wc.heap[gb333]? =some (.cells #[(.slice A0_0 l0_0.length c0_0),(.slice A0_1 l0_1.length c0_1),(.slice A0_2 l0_2.length c0_2)] 38 (0,0)))∧Aside0 (Below w.heap.size w wc))
 case first=>
  have H:=HC2.out;clear HC2;obtain⟨t334,A4,H⟩:=bnd_ H;by_cases c5:t334=true
  ·subst c5;replace H:=ift_ H;obtain⟨t335,A6,H⟩:=bnd_ H;by_cases c7:t335=true
   ·subst c7;replace H:=ift_ H;obtain⟨t336,A8,H⟩:=bnd_ H;have H':=Aside0.mk H;clear H;obtain⟨hcz9_0,hcz9_1,hcz9_2,hfz9_0,hfz9_1,hfz9_2⟩:=bx3_ BK333.out
    go_wp2_with (first|((with_reducible refine gate_callee (f:=87) rfl ?_);refine goesL_ (some 6) rfl rfl Try.func87 y0_ rfl #[.slice A0_0 l0_0.length c0_0,.int .i64 6] rfl z1_ ?_;(with_reducible refine(impl_pricesOk.calls k _ _ l0_0 6 true _ ?side1 ?side2 A4.out).mono ?_);(case side1=>exact z39_);(case side2=>exact HC0_0.out);rintro e w' ⟨rfl,⟨nd,rfl⟩⟩;refine⟨_,rfl,?_⟩)|(go_at_call 87;(with_reducible refine(impl_pricesOk.calls k _ _ l0_1 6 true _ ?side1 ?side2 A6.out).mono ?_);(case side1=>exact z146_);(case side2=>exact HC0_1.out);rintro e w' ⟨rfl,⟨nd,rfl⟩⟩)|(go_at_call 87;(with_reducible refine(impl_pricesOk.calls k _ _ l0_2 36 t336 _ ?side1 ?side2 A8.out).mono ?_);(case side1=>repeat(exact(Kd.C_below HR0_2.out z54_)));(case side2=>exact HC0_2.out);rintro e w' ⟨rfl,⟨nd,rfl⟩⟩))
    go_meet
    case rel=>exact⟨_,(!t336),z9_,H',⟨z167_⟩,⟨z160_⟩,⟨z54_⟩⟩
   ·replace c7:=Bool.eq_false_iff.mpr c7;subst c7;replace H:=iff_ H;have H':=Aside0.mk H;clear H;obtain⟨hcz10_0,hcz10_1,hcz10_2,hfz10_0,hfz10_1,hfz10_2⟩:=bx3_ BK333.out
    go_wp2_with (first|((with_reducible refine gate_callee (f:=87) rfl ?_);refine goesL_ (some 6) rfl rfl Try.func87 y0_ rfl #[.slice A0_0 l0_0.length c0_0,.int .i64 6] rfl z1_ ?_;(with_reducible refine(impl_pricesOk.calls k _ _ l0_0 6 true _ ?side1 ?side2 A4.out).mono ?_);(case side1=>exact z39_);(case side2=>exact HC0_0.out);rintro e w' ⟨rfl,⟨nd,rfl⟩⟩;refine⟨_,rfl,?_⟩)|(go_at_call 87;(with_reducible refine(impl_pricesOk.calls k _ _ l0_1 6 false _ ?side1 ?side2 A6.out).mono ?_);(case side1=>exact z146_);(case side2=>exact HC0_1.out);rintro e w' ⟨rfl,⟨nd,rfl⟩⟩))
    go_meet
    case rel=>exact⟨_,(true),z9_,H',⟨z167_⟩,⟨z160_⟩,⟨z54_⟩⟩
  ·replace c5:=Bool.eq_false_iff.mpr c5;subst c5;replace H:=iff_ H;have H':=Aside0.mk H;clear H;obtain⟨hcz11_0,hcz11_1,hcz11_2,hfz11_0,hfz11_1,hfz11_2⟩:=bx3_ BK333.out
   go_wp2_with (((with_reducible refine gate_callee (f:=87) rfl ?_);refine goesL_ (some 6) rfl rfl Try.func87 y0_ rfl #[.slice A0_0 l0_0.length c0_0,.int .i64 6] rfl z1_ ?_;(with_reducible refine(impl_pricesOk.calls k _ _ l0_0 6 false _ ?side1 ?side2 A4.out).mono ?_);(case side1=>exact z39_);(case side2=>exact HC0_0.out);rintro e w' ⟨rfl,⟨nd,rfl⟩⟩;refine⟨_,rfl,?_⟩))
   go_meet
   case rel=>exact⟨_,(true),z9_,H',⟨z167_⟩,⟨z160_⟩,⟨z54_⟩⟩
 case rest=>
  clear HC2;obtain⟨kq,x19_1,rfl,HA,HJ1,BK333,HB⟩:=hcut;cases kq with
  |zero=>exact absurd HA.out (by simp[impl_CostOk.j0])
  | succ kj1=>
   have H:=HA.out;clear HA;simp only[impl_CostOk.j0] at H;by_cases c12:x19_1=true
   ·subst c12;replace H:=ift_ H;obtain rfl:=Option.some.inj H;go_wp2;go_ret;exact⟨z8_,z54_⟩
   ·replace c12:=Bool.eq_false_iff.mpr c12;subst c12;replace H:=iff_ H;have H':=Aside0.mk H;clear H;go_wp2
    go_loopg [20] kj1 (fun kq v20 w'=>∃(x20_2:Int),v20= .int .i64 x20_2∧Aside0 (impl_CostOk.l0 kq x20_2 l0_0 l0_1 l0_2=some r)∧Aside0 (kq≤kj1)∧Aside0 (w'.heap[gb333]? =some (.cells #[(.slice A0_0 l0_0.length c0_0),(.slice A0_1 l0_1.length c0_1),(.slice A0_2 l0_2.length c0_2)] 38 (0,0)))∧Aside0 (Below w.heap.size w w'))
    case atStart=>exact⟨(0),z9_,H',⟨Nat.le_refl _⟩,⟨z160_⟩,⟨z54_⟩⟩
    case round=>
     clear H';obtain⟨x20_2,rfl,HA,HK2,BK333,HB⟩:=hrel;cases gk with
     |zero=>exact absurd HA.out (by simp[impl_CostOk.l0])
     | succ k2=>
      have H:=HA.out;clear HA;simp only[impl_CostOk.l0] at H;by_cases c13:x20_2<6
      ·rw[if_pos c13] at H;have c13b0:=decide_eq_true c13;clear c13;obtain⟨ji14,hji14⟩:∃j_:Int,(wrap64 ((wrap64 (x20_2*6))+x20_2))=j_:=⟨_,rfl⟩
       rw[hji14] at H;have hji14w:(IntKind.i64.wrap ((wrap64 (x20_2*6))+x20_2))=ji14:=(i64_w _).trans hji14;obtain⟨c15b0,H⟩:=ifd_ H;obtain⟨c16b0,H⟩:=ifd_ H;by_cases c17:(rd l0_2 (ji14))=0
       ·rw[if_pos c17] at H;have c17b0:((rd l0_2 (ji14))==0)=true:=beq_iff_eq.mpr c17;have c17b1:((rd l0_2 (ji14)) != 0)=false:=bne_eq_false_iff_eq.mpr c17;clear c17;have H':=Aside0.mk H;clear H;obtain⟨hcz18_0,hcz18_1,hcz18_2,hfz18_0,hfz18_1,hfz18_2⟩:=bx3_ BK333.out;have p337:0≤((ji14):Int):=odt_;have q337:(ji14)<(l0_2.length:Int):=odt_;obtain⟨ad337,e337,hx337_0⟩:=Kd.at_int HR0_2.out (ji14) p337 q337;cases e337;replace hx337_0:=(HB.out.cell (World.block_lt_of_cell? w _ hx337_0)).trans hx337_0;replace p337:=eq_true p337;replace q337:=eq_true q337;go_wp2
        go_roundg k2
        case measure=>have:=HJ1.out;have:=HK2.out;omega
        case rel=>exact⟨(wrap64 (x20_2+1)),z9_,H',⟨by have:=HJ1.out;have:=HK2.out;omega⟩,⟨z160_⟩,⟨z54_⟩⟩
       ·rw[if_neg c17] at H;have c17b0:((rd l0_2 (ji14))==0)=false:=beq_eq_false_iff_ne.mpr c17;have c17b1:((rd l0_2 (ji14)) != 0)=true:=bne_iff_ne.mpr c17;obtain rfl:=Option.some.inj H;obtain⟨hcz19_0,hcz19_1,hcz19_2,hfz19_0,hfz19_1,hfz19_2⟩:=bx3_ BK333.out;have p337:0≤((ji14):Int):=odt_;have q337:(ji14)<(l0_2.length:Int):=odt_;obtain⟨ad337,e337,hx337_0⟩:=Kd.at_int HR0_2.out (ji14) p337 q337;cases e337;replace hx337_0:=(HB.out.cell (World.block_lt_of_cell? w _ hx337_0)).trans hx337_0;replace p337:=eq_true p337;replace q337:=eq_true q337;go_wp2;go_ret;exact⟨z243_,z54_⟩
      ·rw[if_neg c13] at H;have c13b0:=decide_eq_false c13;clear c13;obtain rfl:=Option.some.inj H;go_wp2;go_ret;exact⟨z8_,z54_⟩

/-! ### impl_endOf: function 59 -/
def impl_endOf.l0:Nat→List (S61)→Int→Int→Option (Int)
 |0,_,_,_=>none
 |k+1,x0,x1,x5=>if x5<(x0.length:Int) then (if 0≤x5 then (if 0≤x1 then (if x1<(x0.length:Int) then (if ((rd_T61 x0 x5).f1)>((rd_T61 x0 x1).f1) then (impl_endOf.l0 k x0 x1 (wrap64 (x5+1))) else (some x5)) else (none)) else (none)) else (none)) else (some x5)
def impl_endOf.f (k:Nat) (l0:List (S61)) (a1:Int):Option (Int):=impl_endOf.l0 k l0 a1 (wrap64 (a1+1))
set_option maxHeartbeats 8000000 in
set_option maxRecDepth 100000 in
theorem impl_endOf.calls (k:Nat) (A0:Option Addr) (c0:Nat) (l0:List (S61)) (a1:Int) (r:Int) (w:World) (hr0:Kd.C k61 w A0 l0.length l0) (hc0:l0.length≤c0) (h:impl_endOf.f k l0 a1=some r):
  Calls Try.prog 59 #[.slice A0 l0.length c0,.int .i64 a1] w fun e w'=>e= .returned (.int .i64 r)∧Drawn0 w w':=by
 have HR0:=Aside0.mk hr0;have HC0:=Aside0.mk hc0;clear hr0 hc0;have H:(impl_endOf.l0 k l0 a1 (wrap64 (a1+1)))=some r:=h;clear h;have H':=Aside0.mk H;clear H;go_enter Try.func59,Try.ntmps59;go_wp2
 go_loopg [5] k (fun kq v5 w'=>∃(x5_1:Int),v5= .int .i64 x5_1∧Aside0 (impl_endOf.l0 kq l0 a1 x5_1=some r)∧Aside0 (kq≤k)∧Drawn0 w w')
 case atStart=>exact⟨(wrap64 (a1+1)),z9_,H',⟨Nat.le_refl _⟩,z50_⟩
 case round=>
  clear H';obtain⟨x5_1,rfl,HA,HK1,⟨m1,rfl⟩⟩:=hrel;cases gk with
  |zero=>exact absurd HA.out (by simp[impl_endOf.l0])
  | succ k1=>
   have H:=HA.out;clear HA;simp only[impl_endOf.l0] at H;by_cases c3:x5_1<(l0.length:Int)
   ·rw[if_pos c3] at H;have c3b0:=decide_eq_true c3;clear c3;obtain⟨c4b0,H⟩:=ifd_ H;obtain⟨c5b0,H⟩:=ifd_ H;obtain⟨c6b0,H⟩:=ifd_ H;by_cases c7:((rd_T61 l0 x5_1).f1)>((rd_T61 l0 a1).f1)
    ·rw[if_pos c7] at H;have c7b0:=decide_eq_true c7;clear c7;have H':=Aside0.mk H;clear H;obtain⟨p338,q338,ad338,e338,hx338_0,hx338_1⟩:=ato61_ HR0 x5_1;cases e338;obtain⟨p339,q339,ad339,e339,hx339_0,hx339_1⟩:=ato61_ HR0 a1;obtain rfl:ad338=ad339:=(by injection e339)
     go_wp2
     repeat(go_quiet (fail);try go_wp2)
     go_roundg k1
     case measure=>have:=HK1.out;omega
     case rel=>exact⟨(wrap64 (x5_1+1)),z9_,H',⟨z176_⟩,z50_⟩
    ·rw[if_neg c7] at H;have c7b0:=decide_eq_false c7;clear c7;obtain rfl:=Option.some.inj H;obtain⟨p338,q338,ad338,e338,hx338_0,hx338_1⟩:=ato61_ HR0 x5_1;cases e338;obtain⟨p339,q339,ad339,e339,hx339_0,hx339_1⟩:=ato61_ HR0 a1;obtain rfl:ad338=ad339:=(by injection e339)
     go_wp2
     repeat(go_quiet (fail);try go_wp2)
     go_ret;exact⟨z9_,z50_⟩
   ·rw[if_neg c3] at H;have c3b0:=decide_eq_false c3;clear c3;obtain rfl:=Option.some.inj H;go_wp2
    repeat(go_quiet (fail);try go_wp2)
    go_ret;exact⟨z9_,z50_⟩

/-! ### impl_PostOrder_lit1: function 93 -/
def impl_PostOrder_lit1.j0:Nat→Int→Int→Bool→Option (Int)
 |0,_,_,_=>none
 |k+1,x0,x1,x27=>if x27=true then (some 1) else (if x0=x1 then (some 0) else (some (-1)))
def impl_PostOrder_lit1.f (k:Nat) (a0:Int) (a1:Int) (l2:List (S61)):Option (Int):=if a0<a1 then ((impl_endOf.f k l2 a0).bind fun t340=>(if a1<t340 then (impl_PostOrder_lit1.j0 k a0 a1 true) else (if a1<a0 then ((impl_endOf.f k l2 a1).bind fun t341=>(impl_PostOrder_lit1.j0 k a0 a1 (decide (a0≥t341)))) else (impl_PostOrder_lit1.j0 k a0 a1 false)))) else (if a1<a0 then ((impl_endOf.f k l2 a1).bind fun t342=>(impl_PostOrder_lit1.j0 k a0 a1 (decide (a0≥t342)))) else (impl_PostOrder_lit1.j0 k a0 a1 false))
set_option maxHeartbeats 8000000 in
set_option maxRecDepth 100000 in
theorem impl_PostOrder_lit1.calls (k:Nat) (a0:Int) (a1:Int) (A2:Option Addr) (c2:Nat) (l2:List (S61)) (gi:Nat) (r:Int) (w:World) (hr2:Kd.C k61 w A2 l2.length l2) (hc2:l2.length≤c2) (hci:w.cell? ⟨gi,0,none⟩=some (.slice A2 l2.length c2)) (h:impl_PostOrder_lit1.f k a0 a1 l2=some r):
  Calls Try.prog 93 #[.int .i64 a0,.int .i64 a1,.pointer (some ⟨gi,0,none⟩)] w fun e w'=>e= .returned (.int .i64 r)∧Drawn0 w w':=by
 have HR2:=Aside0.mk hr2;have HC2:=Aside0.mk hc2;clear hr2 hc2;have H:(if a0<a1 then ((impl_endOf.f k l2 a0).bind fun t340=>(if a1<t340 then (impl_PostOrder_lit1.j0 k a0 a1 true) else (if a1<a0 then ((impl_endOf.f k l2 a1).bind fun t341=>(impl_PostOrder_lit1.j0 k a0 a1 (decide (a0≥t341)))) else (impl_PostOrder_lit1.j0 k a0 a1 false)))) else (if a1<a0 then ((impl_endOf.f k l2 a1).bind fun t342=>(impl_PostOrder_lit1.j0 k a0 a1 (decide (a0≥t342)))) else (impl_PostOrder_lit1.j0 k a0 a1 false)))=some r:=h;clear h;have HC4:=Aside0.mk H;clear H;go_enter Try.func93,Try.ntmps93
 go_upto_region 1 with (fail)
 go_cut [27] (fun v27 wc=>∃(kq:Nat) (x27_3:Bool),v27= .bool x27_3∧Aside0 (impl_PostOrder_lit1.j0 kq a0 a1 x27_3=some r)∧Aside0 (kq≤k)∧Drawn0 w wc)
 case first=>
  have H:=HC4.out;clear HC4;by_cases c5:a0<a1
  ·rw[if_pos c5] at H;have c5b0:=decide_eq_true c5;clear c5;obtain⟨t340,A6,H⟩:=bnd_ H;by_cases c7:a1<t340
   ·rw[if_pos c7] at H;have c7b0:=decide_eq_true c7;clear c7;have H':=Aside0.mk H;clear H
    go_wp2_with ((go_at_call 59;(with_reducible refine(impl_endOf.calls k _ _ l2 a0 t340 _ ?side1 ?side2 A6.out).mono ?_);(case side1=>exact z124_);(case side2=>exact HC2.out);rintro e w' ⟨rfl,⟨nd,rfl⟩⟩))
    go_meet
    case rel=>exact⟨_,(true),z9_,H',⟨z167_⟩,z50_⟩
   ·rw[if_neg c7] at H;have c7b0:=decide_eq_false c7;clear c7;by_cases c8:a1<a0
    ·rw[if_pos c8] at H;have c8b0:=decide_eq_true c8;clear c8;obtain⟨t341,A9,H⟩:=bnd_ H;have H':=Aside0.mk H;clear H
     go_wp2_with (first|(go_at_call 59;(with_reducible refine(impl_endOf.calls k _ _ l2 a0 t340 _ ?side1 ?side2 A6.out).mono ?_);(case side1=>exact z124_);(case side2=>exact HC2.out);rintro e w' ⟨rfl,⟨nd,rfl⟩⟩)|(go_at_call 59;(with_reducible refine(impl_endOf.calls k _ _ l2 a1 t341 _ ?side1 ?side2 A9.out).mono ?_);(case side1=>exact z124_);(case side2=>exact HC2.out);rintro e w' ⟨rfl,⟨nd,rfl⟩⟩))
     go_meet
     case rel=>exact⟨_,(decide (a0≥t341)),z9_,H',⟨z167_⟩,z50_⟩
    ·rw[if_neg c8] at H;have c8b0:=decide_eq_false c8;clear c8;have H':=Aside0.mk H;clear H
     go_wp2_with ((go_at_call 59;(with_reducible refine(impl_endOf.calls k _ _ l2 a0 t340 _ ?side1 ?side2 A6.out).mono ?_);(case side1=>exact z124_);(case side2=>exact HC2.out);rintro e w' ⟨rfl,⟨nd,rfl⟩⟩))
     go_meet
     case rel=>exact⟨_,(false),z9_,H',⟨z167_⟩,z50_⟩
  ·rw[if_neg c5] at H;have c5b0:=decide_eq_false c5;clear c5;by_cases c10:a1<a0
   ·rw[if_pos c10] at H;have c10b0:=decide_eq_true c10;clear c10;obtain⟨t342,A11,H⟩:=bnd_ H;have H':=Aside0.mk H;clear H
    go_wp2_with ((go_at_call 59;(with_reducible refine(impl_endOf.calls k _ _ l2 a1 t342 _ ?side1 ?side2 A11.out).mono ?_);(case side1=>exact z124_);(case side2=>exact HC2.out);rintro e w' ⟨rfl,⟨nd,rfl⟩⟩))
    go_meet
    case rel=>exact⟨_,(decide (a0≥t342)),z9_,H',⟨z167_⟩,z50_⟩
   ·rw[if_neg c10] at H;have c10b0:=decide_eq_false c10;clear c10;have H':=Aside0.mk H;clear H;go_wp2;go_meet
    case rel=>exact⟨_,(false),z9_,H',⟨z167_⟩,z50_⟩
 case rest=>
  clear HC4;obtain⟨kq,x27_3,rfl,HA,HJ3,⟨mc3,rfl⟩⟩:=hcut;cases kq with
  |zero=>exact absurd HA.out (by simp[impl_PostOrder_lit1.j0])
  | succ kj3=>
   have H:=HA.out;clear HA;simp only[impl_PostOrder_lit1.j0] at H;by_cases c12:x27_3=true
   ·subst c12;replace H:=ift_ H;obtain rfl:=Option.some.inj H;go_wp2;go_ret;exact⟨z9_,z50_⟩
   ·replace c12:=Bool.eq_false_iff.mpr c12;subst c12;replace H:=iff_ H;by_cases c13:a0=a1
    ·rw[if_pos c13] at H;have c13b0:(a0==a1)=true:=beq_iff_eq.mpr c13;have c13b1:(a0 != a1)=false:=bne_eq_false_iff_eq.mpr c13;clear c13;obtain rfl:=Option.some.inj H;go_wp2;go_ret;exact⟨z9_,z50_⟩
    ·rw[if_neg c13] at H;have c13b0:(a0==a1)=false:=beq_eq_false_iff_ne.mpr c13;have c13b1:(a0 != a1)=true:=bne_iff_ne.mpr c13;obtain rfl:=Option.some.inj H;go_wp2;go_ret;exact⟨z9_,z50_⟩

end Go.Proofs.Ytbmkobanpakohaa.PFnMedian
