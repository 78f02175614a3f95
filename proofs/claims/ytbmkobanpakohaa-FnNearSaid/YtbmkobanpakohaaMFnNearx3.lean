/- Walks of functions of FnNear, laid anew out of the kit's print. -/
import Derived.Test.YtbmkobanpakohaaMFnNearx0
import Derived.Test.YtbmkobanpakohaaMFnNearx2
import Derived.Test.YtbmkobanpakohaaShelf
import Derived.Sort.LotA
import Derived.Lib.SortBridge
import Derived.Shelf.SlSortCmp.Whole1
namespace Go.Proofs.Ytbmkobanpakohaa.PFnNear
open Go.RowKit Go.Proofs.YtbmkobanpakohaaW.PrintWords Go.Proofs.YtbmkobanpakohaaW.PrintLast Go.Proofs.YtbmkobanpakohaaW.PrintMore Go.Proofs.YtbmkobanpakohaaW.PrintWords.Kd Go.Proofs.YtbmkobanpakohaaW.PrintMore.Kd
set_option maxHeartbeats 8000000
set_option maxRecDepth 100000
attribute [local go_sem] max2_int min2_int max_two min_two max_three min_three max_four min_four
set_option linter.unusedVariables false
set_option linter.unusedSimpArgs false

/-! ### impl_endOf: function 59 -/
def impl_endOf.l0:Nat→List (S61)→Int→Int→Option (Int)
 |0,_,_,_=>none
 |k+1,x0,x1,x5=>if x5<(x0.length:Int) then (if 0≤x5 then (if 0≤x1 then (if x1<(x0.length:Int) then (if ((rd_T61 x0 x5).f1)>((rd_T61 x0 x1).f1) then (impl_endOf.l0 k x0 x1 (wrap64 (x5+1))) else (some x5)) else (none)) else (none)) else (none)) else (some x5)
def impl_endOf.f (k:Nat) (l0:List (S61)) (a1:Int):Option (Int):=impl_endOf.l0 k l0 a1 (wrap64 (a1+1))
theorem impl_endOf.calls (k:Nat) (A0:Option Addr) (c0:Nat) (l0:List (S61)) (a1:Int) (r:Int) (w:World) (hr0:Kd.C k61 w A0 l0.length l0) (hc0:l0.length≤c0) (h:impl_endOf.f k l0 a1=some r):
  Calls Try.prog 59 #[.slice A0 l0.length c0,.int .i64 a1] w fun e w'=>e= .returned (.int .i64 r)∧Drawn0 w w':=by
 have HR0:=am_ hr0;have HC0:=am_ hc0;clear hr0 hc0;have H:(impl_endOf.l0 k l0 a1 (wrap64 (a1+1)))=some r:=h;clear h;have H':=am_ H;clear H;go_enter Try.func59,Try.ntmps59;go_wp2
 go_loopg [5] k (fun kq v5 w'=>∃(x5_1:Int),v5= .int .i64 x5_1∧Aside0 (impl_endOf.l0 kq l0 a1 x5_1=some r)∧Aside0 (kq≤k)∧Drawn0 w w')
 case atStart=>exact⟨(wrap64 (a1+1)),z9_,H',⟨Nat.le_refl _⟩,z57_⟩
 case round=>
  clear H';obtain⟨x5_1,rfl,HA,HK1,⟨m1,rfl⟩⟩:=hrel;cases gk with
  |zero=>exact absurd HA.out (by simp[impl_endOf.l0])
  | succ k1=>
   have H:=HA.out;clear HA;simp only[impl_endOf.l0] at H;by_cases c3:x5_1<(l0.length:Int)
   ·rw[if_pos c3] at H;have c3b0:=decide_eq_true c3;clear c3;obtain⟨c4b0,H⟩:=ifd_ H;obtain⟨c5b0,H⟩:=ifd_ H;obtain⟨c6b0,H⟩:=ifd_ H;by_cases c7:((rd_T61 l0 x5_1).f1)>((rd_T61 l0 a1).f1)
    ·rw[if_pos c7] at H;have c7b0:=decide_eq_true c7;clear c7;have H':=am_ H;clear H;obtain⟨pcR,qcR,adcR,ecR,hxcR_0,hxcR_1⟩:=ato61_ HR0 x5_1;cases ecR;obtain⟨pbn,qbn,adbn,ebn,hxbn_0,hxbn_1⟩:=ato61_ HR0 a1;obtain rfl:adcR=adbn:=(by injection ebn)
     go_wp2
     repeat(go_quiet (fail);try go_wp2)
     go_roundg k1
     case measure=>have:=HK1.out;omega
     case rel=>exact⟨(wrap64 (x5_1+1)),z9_,H',⟨z170_⟩,z57_⟩
    ·rw[if_neg c7] at H;have c7b0:=decide_eq_false c7;clear c7;obtain rfl:=Option.some.inj H;obtain⟨pcR,qcR,adcR,ecR,hxcR_0,hxcR_1⟩:=ato61_ HR0 x5_1;cases ecR;obtain⟨pbn,qbn,adbn,ebn,hxbn_0,hxbn_1⟩:=ato61_ HR0 a1;obtain rfl:adcR=adbn:=(by injection ebn)
     go_wp2
     repeat(go_quiet (fail);try go_wp2)
     go_ret;exact⟨z9_,z57_⟩
   ·rw[if_neg c3] at H;have c3b0:=decide_eq_false c3;clear c3;obtain rfl:=Option.some.inj H;go_wp2
    repeat(go_quiet (fail);try go_wp2)
    go_ret;exact⟨z9_,z57_⟩

/-! ### impl_PostOrder_lit1: function 93 -/
def impl_PostOrder_lit1.j0:Nat→Int→Int→Bool→Option (Int)
 |0,_,_,_=>none
 |k+1,x0,x1,x27=>if x27=true then (some 1) else (if x0=x1 then (some 0) else (some (-1)))
def impl_PostOrder_lit1.f (k:Nat) (a0:Int) (a1:Int) (l2:List (S61)):Option (Int):=if a0<a1 then ((impl_endOf.f k l2 a0).bind fun teO=>(if a1<teO then (impl_PostOrder_lit1.j0 k a0 a1 true) else (if a1<a0 then ((impl_endOf.f k l2 a1).bind fun tfC=>(impl_PostOrder_lit1.j0 k a0 a1 (decide (a0≥tfC)))) else (impl_PostOrder_lit1.j0 k a0 a1 false)))) else (if a1<a0 then ((impl_endOf.f k l2 a1).bind fun tcc=>(impl_PostOrder_lit1.j0 k a0 a1 (decide (a0≥tcc)))) else (impl_PostOrder_lit1.j0 k a0 a1 false))
theorem impl_PostOrder_lit1.calls (k:Nat) (a0:Int) (a1:Int) (A2:Option Addr) (c2:Nat) (l2:List (S61)) (gi:Nat) (r:Int) (w:World) (hr2:Kd.C k61 w A2 l2.length l2) (hc2:l2.length≤c2) (hci:w.cell? ⟨gi,0,none⟩=some (.slice A2 l2.length c2)) (h:impl_PostOrder_lit1.f k a0 a1 l2=some r):
  Calls Try.prog 93 #[.int .i64 a0,.int .i64 a1,.pointer (some ⟨gi,0,none⟩)] w fun e w'=>e= .returned (.int .i64 r)∧Drawn0 w w':=by
 have HR2:=am_ hr2;have HC2:=am_ hc2;clear hr2 hc2;have H:(if a0<a1 then ((impl_endOf.f k l2 a0).bind fun teO=>(if a1<teO then (impl_PostOrder_lit1.j0 k a0 a1 true) else (if a1<a0 then ((impl_endOf.f k l2 a1).bind fun tfC=>(impl_PostOrder_lit1.j0 k a0 a1 (decide (a0≥tfC)))) else (impl_PostOrder_lit1.j0 k a0 a1 false)))) else (if a1<a0 then ((impl_endOf.f k l2 a1).bind fun tcc=>(impl_PostOrder_lit1.j0 k a0 a1 (decide (a0≥tcc)))) else (impl_PostOrder_lit1.j0 k a0 a1 false)))=some r:=h;clear h;have HC4:=am_ H;clear H;go_enter Try.func93,Try.ntmps93
 go_upto_region 1 with (fail)
 go_cut [27] (fun v27 wc=>∃(kq:Nat) (x27_3:Bool),v27= .bool x27_3∧Aside0 (impl_PostOrder_lit1.j0 kq a0 a1 x27_3=some r)∧Aside0 (kq≤k)∧Drawn0 w wc)
 case first=>
  have H:=HC4.out;clear HC4;by_cases c5:a0<a1
  ·rw[if_pos c5] at H;have c5b0:=decide_eq_true c5;clear c5;obtain⟨teO,A6,H⟩:=bnd_ H;by_cases c7:a1<teO
   ·rw[if_pos c7] at H;have c7b0:=decide_eq_true c7;clear c7;have H':=am_ H;clear H
    go_wp2_with ((go_at_call 59;(with_reducible refine(impl_endOf.calls k _ _ l2 a0 teO _ ?s1 ?s2 A6.out).mono ?_);(case s1=>exact z153_);(case s2=>exact HC2.out);rintro e w' ⟨rfl,⟨nd,rfl⟩⟩))
    go_meet
    case rel=>exact⟨_,(true),z9_,H',⟨z189_⟩,z57_⟩
   ·rw[if_neg c7] at H;have c7b0:=decide_eq_false c7;clear c7;by_cases c8:a1<a0
    ·rw[if_pos c8] at H;have c8b0:=decide_eq_true c8;clear c8;obtain⟨tfC,A9,H⟩:=bnd_ H;have H':=am_ H;clear H
     go_wp2_with (first|(go_at_call 59;(with_reducible refine(impl_endOf.calls k _ _ l2 a0 teO _ ?s1 ?s2 A6.out).mono ?_);(case s1=>exact z153_);(case s2=>exact HC2.out);rintro e w' ⟨rfl,⟨nd,rfl⟩⟩)|(go_at_call 59;(with_reducible refine(impl_endOf.calls k _ _ l2 a1 tfC _ ?s1 ?s2 A9.out).mono ?_);(case s1=>exact z153_);(case s2=>exact HC2.out);rintro e w' ⟨rfl,⟨nd,rfl⟩⟩))
     go_meet
     case rel=>exact⟨_,(decide (a0≥tfC)),z9_,H',⟨z189_⟩,z57_⟩
    ·rw[if_neg c8] at H;have c8b0:=decide_eq_false c8;clear c8;have H':=am_ H;clear H
     go_wp2_with ((go_at_call 59;(with_reducible refine(impl_endOf.calls k _ _ l2 a0 teO _ ?s1 ?s2 A6.out).mono ?_);(case s1=>exact z153_);(case s2=>exact HC2.out);rintro e w' ⟨rfl,⟨nd,rfl⟩⟩))
     go_meet
     case rel=>exact⟨_,(false),z9_,H',⟨z189_⟩,z57_⟩
  ·rw[if_neg c5] at H;have c5b0:=decide_eq_false c5;clear c5;by_cases c10:a1<a0
   ·rw[if_pos c10] at H;have c10b0:=decide_eq_true c10;clear c10;obtain⟨tcc,A11,H⟩:=bnd_ H;have H':=am_ H;clear H
    go_wp2_with ((go_at_call 59;(with_reducible refine(impl_endOf.calls k _ _ l2 a1 tcc _ ?s1 ?s2 A11.out).mono ?_);(case s1=>exact z153_);(case s2=>exact HC2.out);rintro e w' ⟨rfl,⟨nd,rfl⟩⟩))
    go_meet
    case rel=>exact⟨_,(decide (a0≥tcc)),z9_,H',⟨z189_⟩,z57_⟩
   ·rw[if_neg c10] at H;have c10b0:=decide_eq_false c10;clear c10;have H':=am_ H;clear H;go_wp2;go_meet
    case rel=>exact⟨_,(false),z9_,H',⟨z189_⟩,z57_⟩
 case rest=>
  clear HC4;obtain⟨kq,x27_3,rfl,HA,HJ3,⟨mc3,rfl⟩⟩:=hcut;cases kq with
  |zero=>exact absurd HA.out (by simp[impl_PostOrder_lit1.j0])
  | succ kj3=>
   have H:=HA.out;clear HA;simp only[impl_PostOrder_lit1.j0] at H;by_cases c12:x27_3=true
   ·subst c12;replace H:=ift_ H;obtain rfl:=Option.some.inj H;go_wp2;go_ret;exact⟨z9_,z57_⟩
   ·replace c12:=Bool.eq_false_iff.mpr c12;subst c12;replace H:=iff_ H;by_cases c13:a0=a1
    ·rw[if_pos c13] at H;have c13b0:(a0==a1)=true:=beq_iff_eq.mpr c13;have c13b1:(a0 != a1)=false:=bne_eq_false_iff_eq.mpr c13;clear c13;obtain rfl:=Option.some.inj H;go_wp2;go_ret;exact⟨z9_,z57_⟩
    ·rw[if_neg c13] at H;have c13b0:(a0==a1)=false:=beq_eq_false_iff_ne.mpr c13;have c13b1:(a0 != a1)=true:=bne_iff_ne.mpr c13;obtain rfl:=Option.some.inj H;go_wp2;go_ret;exact⟨z9_,z57_⟩

/-! ### impl_PostOrder: function 85 -/
def impl_PostOrder.cf (k:Nat) (l:List S61) (x y:Fin l.length):Int:=(impl_PostOrder_lit1.f k (x.val:Int) (y.val:Int) l).getD 0
def impl_PostOrder.lt (k:Nat) (l:List S61) (x y:Fin l.length):Bool:=decide (impl_PostOrder.cf k l x y<0)
def impl_PostOrder.Good (k:Nat) (l:List S61):Prop:=(∀x y:Fin l.length,(impl_PostOrder_lit1.f k (x.val:Int) (y.val:Int) l).isSome=true)∧(∀x:Fin l.length,impl_PostOrder.lt k l x x=false)∧
 (∀x y z:Fin l.length,impl_PostOrder.lt k l x y=true→impl_PostOrder.lt k l y z=true→impl_PostOrder.lt k l x z=true)∧(∀x y z:Fin l.length,impl_PostOrder.lt k l x y=false→impl_PostOrder.lt k l y z=false→impl_PostOrder.lt k l x z=false)∧
 (∀x y:Fin l.length,impl_PostOrder.lt k l x y=false→impl_PostOrder.lt k l y x=false→x=y)
instance impl_PostOrder.goodDec (k:Nat) (l:List S61):Decidable (impl_PostOrder.Good k l):=by unfold impl_PostOrder.Good;infer_instance
def impl_PostOrder.sort (k:Nat) (l:List S61) (x:List Int):Option (List Int):=
 if (x=(List.finRange l.length).map (fun i=>(i.val:Int))∧0<l.length∧l.length<4611686018427387904)∧impl_PostOrder.Good k l then some (((List.finRange l.length).mergeSort (fun a b=> !impl_PostOrder.lt k l b a)).map (fun i=>(i.val:Int))) else none
theorem below_grow {B:Nat} {w:World} (os:Array Obj) (hB:B≤w.heap.size):Below B w (Sort.grow w os):=⟨rfl,rfl,rfl,by rw[Sort.size_grow];omega,fun k hk=>Sort.heap_grow_old w os (by omega)⟩
theorem below_setCells {B g:Nat} (hg:B≤g):∀(vs:List Value) (o:Nat) (w0 w:World),Below B w0 w→Below B w0 (w.setCells g o vs)
 | [],_,_,_,h=>h
 |v::vs,o,w0,w,h=>below_setCells hg vs (o+1) w0 (w.setCell ⟨g,o,none⟩ v) (h.setCell hg _)
theorem blk_setCells {g b:Nat} {ob:Obj} (hne:g≠b):∀(vs:List Value) (o:Nat) (w:World),w.heap[g]? =some ob→(w.setCells b o vs).heap[g]? =some ob
 | [],_,_,h=>h
 |v::vs,o,w,h=>blk_setCells hne vs (o+1) (w.setCell ⟨b,o,none⟩ v) ((Below.heap_setCell w ⟨b,o,none⟩ v g hne).trans h)
theorem row_setCells {base g cap:Nat} {ok:Nat→Prop} :∀(ys pre xs:List Int) (w:World),xs.length=ys.length→RI_ w base ok (.slice (some ⟨g,0,none⟩) (pre++xs).length cap) (pre++xs)→
  RI_ (w.setCells g pre.length (ys.map (Value.int .i64))) base ok (.slice (some ⟨g,0,none⟩) (pre++ys).length cap) (pre++ys)
 | [],pre,xs,w,he,h=>by
  obtain rfl:=List.eq_nil_of_length_eq_zero he;exact h
 |y::ys,pre,[],w,he,h=>by cases he
 |y::ys,pre,x::xs,w,he,h=>by
  have h1:=(R_put h (pre.length:Int) y).1;rw[Int.toNat_natCast,show (pre++x::xs).set pre.length y=(pre++[y])++xs by simp,show (pre++x::xs).length=((pre++[y])++xs).length by simp] at h1;have h2:=row_setCells ys (pre++[y]) xs _ (by simpa using he) h1;rw[show (pre++[y]).length=pre.length+1 by simp,show (pre++[y])++ys=pre++y::ys by simp] at h2;exact h2
open Go.Sort (SWO Holds) in
theorem impl_PostOrder.sorts (k:Nat) (l:List S61) (A0:Option Addr) (c0:Nat) (x r:List Int) (v:Value) (gi:Nat) (w0 w:World) (hr0:Kd.C k61 w0 A0 l.length l) (hc0:l.length≤c0) (hB:Below w0.heap.size w0 w)
  (hbk:w.heap[gi]? =some (.cells #[.slice A0 l.length c0] 25 (0,0))) (hO:RI_ w w0.heap.size (fun _=>True) v x) (h:impl_PostOrder.sort k l x=some r):
  Calls Try.prog 92 #[v,.func (.func 93) #[] #[.pointer (some ⟨gi,0,none⟩)]] w fun e w'=>e= .returned (.tuple #[])∧RI_ w' w0.heap.size (fun _=>True) v r∧Below w0.heap.size w0 w':=by
 unfold impl_PostOrder.sort at h
 split at h
 ·rename_i hc;obtain⟨⟨hx,hn,hlt⟩,hg1,hg2,hg3,hg4,hg5⟩:=hc;obtain rfl:=Option.some.inj h;have hxl:x.length=l.length:=by rw[hx,List.length_map,List.length_finRange]
  obtain⟨g,cap,rfl,hbg,hgl,cs,hcs⟩:=R_form hO (by omega)
  have hne:gi≠g:=by
   rintro rfl;rw[hcs] at hbk
   injection hbk with e
   injection e with e1 e2
   exact absurd e2 (by decide)
  haveI:Inhabited (Fin l.length):=⟨⟨0,hn⟩⟩
  have hds:(List.finRange l.length).toArray.size=l.length:=by simp
  have hen:∀ys:List (Fin l.length),ys.map (fun i=>Value.int .i64 (i.val:Int))=(ys.map (fun i=>(i.val:Int))).map (Value.int .i64):=fun ys=>by rw[List.map_map];rfl
  have hH:Holds (fun i:Fin l.length=>Value.int .i64 (i.val:Int)) w g 0 (List.finRange l.length).toArray:=by
   intro j hj;rw[hds] at hj;have h1:=R_cell (0:Int) hO (j:Int) (by omega) (by omega);rw[Int.toNat_natCast] at h1;rw[Nat.zero_add];refine⟨h1.1.trans ?_,h1.2⟩
   have e:rdOf (0:Int) x (j:Int)=(j:Int):=by
    show x.getD (j:Int).toNat 0=_
    rw[Int.toNat_natCast,hx,List.getD_eq_getElem?_getD,List.getElem?_map,List.getElem?_eq_getElem (by simpa using hj)]
    simp
   rw[e]
   have e2:(List.finRange l.length).toArray[j]! =⟨j,hj⟩:=by
    rw[getElem!_pos _ _ (by simpa using hj)]
    simp
   rw[e2]
  have hcmp:CmpReads Try.prog 93 #[.pointer (some ⟨gi,0,none⟩)] (fun i:Fin l.length=>Value.int .i64 (i.val:Int)) (impl_PostOrder.cf k l) g 0 (List.finRange l.length).toArray.size w:=by
   intro m os dk hs a b
   have hw:sortWorld (fun i:Fin l.length=>Value.int .i64 (i.val:Int)) w g 0 m dk os=Sort.grow ((w.drewN m).setCells g 0 (dk.toList.map (fun i=>Value.int .i64 (i.val:Int)))) os:=by
    have:=Lib.sorted_world (fun i:Fin l.length=>Value.int .i64 (i.val:Int)) w g 0 m _ dk.toList os hH (by simpa using hs)
    simpa [sortWorld] using this
   have hB1:Below w0.heap.size w0 ((w.drewN m).setCells g 0 (dk.toList.map (fun i=>Value.int .i64 (i.val:Int)))):=below_setCells hbg _ _ _ _ ⟨hB.os,hB.tape,hB.output,hB.size,hB.block⟩;have hB2:=hB1.trans (below_grow os (below_size hB1))
   have hb2:(Sort.grow ((w.drewN m).setCells g 0 (dk.toList.map (fun i=>Value.int .i64 (i.val:Int)))) os).heap[gi]? =some (.cells #[.slice A0 l.length c0] 25 (0,0)):=by
    have h1:=blk_setCells hne (dk.toList.map (fun i=>Value.int .i64 (i.val:Int))) 0 (w.drewN m) hbk;exact(Sort.heap_grow_old _ os (blk_lt h1)).trans h1
   obtain⟨u,hu⟩:=Option.isSome_iff_exists.1 (hg1 a b);rw[hw];have h3:=impl_PostOrder_lit1.calls k (a.val:Int) (b.val:Int) A0 c0 l gi u _ (C_below hr0 hB2) hc0 ((blk_cell hb2 0).trans rfl) hu;refine h3.mono ?_;rintro e w' ⟨rfl,q,rfl⟩;refine⟨?_,q,rfl⟩
   show _=Ending.returned (.int .i64 ((impl_PostOrder_lit1.f k (a.val:Int) (b.val:Int) l).getD 0))
   rw[hu];rfl
  have hO2:SWO (ltOf (impl_PostOrder.cf k l)):=⟨hg2,hg3,hg4⟩
  have con:=Try.slices_SortFunc (fun i:Fin l.length=>Value.int .i64 (i.val:Int)) (fun _=>rfl) (impl_PostOrder.cf k l) hO2 93 #[.pointer (some ⟨gi,0,none⟩)] g 0 cap (List.finRange l.length).toArray w (enters_of Try.func93 y0_ rfl) hcmp.lays hH hgl (by rw[hds];exact hlt);rw[hds] at con;rw[hxl];refine con.mono ?_;rintro e w' ⟨rfl,d',n,os,hp,hs,rfl⟩;have hu:=Sort.sorted_unique_holds hO2 hg5 (List.finRange l.length).toArray d' (by rw[hds];exact hp) (by rw[hds];exact hs);have hd:d'.size=l.length:=by have:=hp.1;rw[hds] at this;exact this
  have hw:sortWorld (fun i:Fin l.length=>Value.int .i64 (i.val:Int)) w g 0 n d' os=Sort.grow ((w.drewN n).setCells g 0 ((d'.toList.map (fun i=>(i.val:Int))).map (Value.int .i64))) os:=by
   have:=Lib.sorted_world (fun i:Fin l.length=>Value.int .i64 (i.val:Int)) w g 0 n _ d'.toList os hH (by rw[hds];simpa using hd);rw[hen] at this
   simpa [sortWorld] using this
  rw[hw];have hB1:Below w0.heap.size w0 ((w.drewN n).setCells g 0 ((d'.toList.map (fun i=>(i.val:Int))).map (Value.int .i64))):=below_setCells hbg _ _ _ _ ⟨hB.os,hB.tape,hB.output,hB.size,hB.block⟩;have hR:=row_setCells (d'.toList.map (fun i=>(i.val:Int))) [] x (w.drewN n) (by simp[hxl,hd]) (R_drewN hO n);rw[List.nil_append,List.length_map,show d'.toList.length=l.length by rw[Array.length_toList];exact hd,List.length_nil] at hR;refine⟨rfl,?_,hB1.trans (below_grow os (below_size hB1))⟩;have hR2:=R_below hR (below_grow os (Nat.le_refl _));have hu2:(List.finRange l.length).mergeSort (fun a b=> !impl_PostOrder.lt k l b a)=d'.toList:=hu.symm;rw[hu2];exact hR2
 ·cases h
def impl_PostOrder.l0:Nat→List (S61)→List Int→Int→Int→Option (List Int)
 |0,_,_,_,_=>none
 |k+1,x1,x3,x11,x12=>if x12<x11 then (if x3.length<17592186044416 then (impl_PostOrder.l0 k x1 (x3++[x12]) x11 (wrap64 (x12+1))) else (none)) else (impl_PostOrder.sort k x1 x3)
def impl_PostOrder.f (k:Nat) (l0:List (S61)):Option (List Int):=(some (([]:List Int):List Int)).bind fun yer=>((impl_TreeOk.f k l0).bind fun tbB=>(if tbB=true then (impl_PostOrder.l0 k l0 yer (l0.length:Int) 0) else (some yer)))
theorem impl_PostOrder.calls (k:Nat) (A0:Option Addr) (c0:Nat) (l0:List (S61)) (r:List Int) (w:World) (hr0:Kd.C k61 w A0 l0.length l0) (hc0:l0.length≤c0) (h:impl_PostOrder.f k l0=some r):
  Calls Try.prog 85 #[.slice A0 l0.length c0] w fun e w'=>∃v0_:Value,e= .returned (v0_)∧RI_ w' w.heap.size (fun _=>True) v0_ r∧Below w.heap.size w w':=by
 have hu25:=Try.underlying25;have hmf:∀(fn:Fn) (first cap:Array Value) (w:World),(Instr.makeFunc fn first cap).run Try.prog w= .ok (.func fn first cap) w:=fun _ _ _ _=>rfl
 have HR0:=am_ hr0;have HC0:=am_ hc0;clear hr0 hc0;have HB:=am_ (Below.refl w.heap.size w);have H:((some (([]:List Int):List Int)).bind fun yer=>((impl_TreeOk.f k l0).bind fun tbB=>(if tbB=true then (impl_PostOrder.l0 k l0 yer (l0.length:Int) 0) else (some yer))))=some r:=h;clear h
 ((with_reducible have hz_:=gy_ H);obtain⟨yer,Nyer,H⟩:=hz_)
 obtain⟨tbB,A2,H⟩:=bnd_ H;by_cases c3:tbB=true
 ·subst c3;replace H:=ift_ H;have H':=am_ H;clear H;go_enter Try.func85,Try.ntmps85
  go_wp2_with (first|((with_reducible refine gate_dst (N:=1) rfl ?_);refine box_event ?hg (N:=1) ?hd (cs:=#[.slice A0 l0.length c0]) (t:=25) ?hr ?_;(case hd=>rfl);(case hg=>rfl);(case hr=>exact z14_);intro gi hg w1 hbox hb;have n1_:=am_ (below_step z0_ hb);have BKi:=am_ hbox;clear HB;have HB:=n1_;clear n1_;clear hb hbox hg)|((with_reducible refine gate_dst (N:=5) rfl ?_);refine R_lit (Kd.int .i64) _ 3 ?hg (N:=5) ?hd (xs:=([]:List Int)) (inner:=[]) (ok:=fun _=>True) (okp:=fun _=>True) ?hr ?hp (fun _ hk=>hk) trivial (Below.refl _ _) (Nat.le_refl _) (by simp) ?_;(case hd=>rfl);(case hg=>rfl);(case hr=>exact z14_);(case hp=>exact z276_);intro vi3 w4 ho5 hb hg_ hnew_;clear hg_ hnew_;have n9_:=am_ (blk_below (g:=gi) (o:= .cells #[.slice A0 l0.length c0] 25 (0,0)) z175_ hb);clear BKi;have BKi:=n9_;clear n9_;have hci_w4:w4.cell? ⟨gi,0,none⟩=some (.slice A0 l0.length c0):=(blk_cell BKi.out 0).trans rfl;have hfi_w4:=blk_frozen BKi.out 0;(rw[←Nyer.out] at ho5);have HOdM:=am_ (R_lower ho5 (below_size z0_));replace HB:=am_ (below_step z0_ hb);clear hb ho5)|((with_reducible refine gate_callee (f:=57) rfl ?_);refine goesL_ (some 7) rfl rfl Try.func57 y0_ rfl #[.slice A0 l0.length c0] rfl z1_ ?_;(with_reducible refine(impl_TreeOk.calls k _ _ l0 true _ ?s1 ?s2 A2.out).mono ?_);(case s1=>exact z6_);(case s2=>exact HC0.out);rintro e w6 ⟨rfl,hb⟩;refine⟨_,rfl,?_⟩;have n9_:=am_ (blk_below (g:=gi) (o:= .cells #[.slice A0 l0.length c0] 25 (0,0)) z175_ hb);clear BKi;have BKi:=n9_;clear n9_;have hci_w6:w6.cell? ⟨gi,0,none⟩=some (.slice A0 l0.length c0):=(blk_cell BKi.out 0).trans rfl;have hfi_w6:=blk_frozen BKi.out 0;replace HOdM:=am_ (R_below z248_ hb);replace HB:=am_ (below_step z0_ hb);(try clear hb)))
  go_loopg [3,12] k (fun kq v3 v12 w'=>∃(x3_1:List Int) (x12_1:Int),v12= .int .i64 x12_1∧Aside0 (impl_PostOrder.l0 kq l0 x3_1 (l0.length:Int) x12_1=some r)∧Aside0 (kq≤k)∧Aside0 (RI_ w' w.heap.size (fun _=>True) v3 x3_1)∧Aside0 (w'.heap[gi]? =some (.cells #[.slice A0 l0.length c0] 25 (0,0)))∧Aside0 (Below w.heap.size w w'))
  case atStart=>exact⟨(yer),(0),z9_,H',⟨Nat.le_refl _⟩,⟨z248_⟩,⟨z175_⟩,⟨z0_⟩⟩
  case round=>
   clear H';obtain⟨x3_1,x12_1,rfl,HA,HK1,HO_3,BKi,HB⟩:=hrel;cases gk with
   |zero=>exact absurd HA.out (by simp[impl_PostOrder.l0])
   | succ k1=>
    have H:=HA.out;clear HA;simp only[impl_PostOrder.l0] at H;by_cases c7:x12_1<(l0.length:Int)
    ·rw[if_pos c7] at H;have c7b0:=decide_eq_true c7;clear c7;obtain⟨c8,H⟩:=ifs_ H;have LMc8:=am_ c8;clear c8
     (generalize hy_:((x3_1++[x12_1]):List Int)=yhj at H;have Nyhj:=am_ hy_.symm;clear hy_)
     have H':=am_ H;clear H
     go_wp2_with (((with_reducible refine gate_builtin (b:= .append) (xs:=#[.tmp 15,.tmp 17]) rfl ?_);at_builtin;refine R_append (Kd.int .i64) (w0:=w) w.heap.size rfl (.tmp 15) (.tmp 17) 30 3 (.int .i64 0) 8 rfl Try.underlying30 info3 rfl (by decide) (by omega) u3 x3_1 x12_1 [.int .i64 x12_1] (fun _=>True) (fun _=>False) rfl rfl ?aP (fun _ hk=>hk.elim) ?aF ?aO ?aB ?aS ?aL ?_;(case aP=>exact rfl);(case aB=>exact z60_);(case aF=>exact z330_);(case aO=>exact z131_);(case aS=>exact z55_);(case aL=>have:=LMc8.out;omega);intro vke w9 ho hb hg hat;have n9_:=am_ (blk_grown BKi.out hg (R_ne HO_3.out BKi.out (by decide)));clear BKi;have BKi:=n9_;clear n9_;rw[←Nyhj.out] at ho;replace HB:=am_ (hb);have HOa6:=am_ (ho);clear HO_3;clear ho hb hg hat))
     go_roundg k1
     case measure=>have:=HK1.out;omega
     case rel=>exact⟨(yhj),(wrap64 (x12_1+1)),z9_,H',⟨z170_⟩,⟨by exact ur_ HOa6.out⟩,⟨z175_⟩,⟨z0_⟩⟩
    ·rw[if_neg c7] at H;have c7b0:=decide_eq_false c7;clear c7;have HS:=am_ H;clear H
     go_wp2_with (go_at_call 92;refine(impl_PostOrder.sorts k1 l0 A0 c0 x3_1 r _ gi w _ HR0.out HC0.out HB.out BKi.out HO_3.out HS.out).mono ?_;rintro e w8 ⟨rfl,hr8,hb8⟩)
     go_ret;exact⟨_,rfl,hr8,hb8⟩
 ·replace c3:=Bool.eq_false_iff.mpr c3;subst c3;replace H:=iff_ H;obtain rfl:=Option.some.inj H;go_enter Try.func85,Try.ntmps85
  go_wp2_with (first|((with_reducible refine gate_dst (N:=1) rfl ?_);refine box_event ?hg (N:=1) ?hd (cs:=#[.slice A0 l0.length c0]) (t:=25) ?hr ?_;(case hd=>rfl);(case hg=>rfl);(case hr=>exact z14_);intro gi hg w1 hbox hb;have n1_:=am_ (below_step z0_ hb);have BKi:=am_ hbox;clear HB;have HB:=n1_;clear n1_;clear hb hbox hg)|((with_reducible refine gate_dst (N:=5) rfl ?_);refine R_lit (Kd.int .i64) _ 3 ?hg (N:=5) ?hd (xs:=([]:List Int)) (inner:=[]) (ok:=fun _=>True) (okp:=fun _=>True) ?hr ?hp (fun _ hk=>hk) trivial (Below.refl _ _) (Nat.le_refl _) (by simp) ?_;(case hd=>rfl);(case hg=>rfl);(case hr=>exact z14_);(case hp=>exact z276_);intro vi3 w11 ho12 hb hg_ hnew_;clear hg_ hnew_;have n9_:=am_ (blk_below (g:=gi) (o:= .cells #[.slice A0 l0.length c0] 25 (0,0)) z175_ hb);clear BKi;have BKi:=n9_;clear n9_;have hci_w11:w11.cell? ⟨gi,0,none⟩=some (.slice A0 l0.length c0):=(blk_cell BKi.out 0).trans rfl;have hfi_w11:=blk_frozen BKi.out 0;(rw[←Nyer.out] at ho12);have HOdM:=am_ (R_lower ho12 (below_size z0_));replace HB:=am_ (below_step z0_ hb);clear hb ho12)|((with_reducible refine gate_callee (f:=57) rfl ?_);refine goesL_ (some 7) rfl rfl Try.func57 y0_ rfl #[.slice A0 l0.length c0] rfl z1_ ?_;(with_reducible refine(impl_TreeOk.calls k _ _ l0 false _ ?s1 ?s2 A2.out).mono ?_);(case s1=>exact z6_);(case s2=>exact HC0.out);rintro e w13 ⟨rfl,hb⟩;refine⟨_,rfl,?_⟩;have n9_:=am_ (blk_below (g:=gi) (o:= .cells #[.slice A0 l0.length c0] 25 (0,0)) z175_ hb);clear BKi;have BKi:=n9_;clear n9_;have hci_w13:w13.cell? ⟨gi,0,none⟩=some (.slice A0 l0.length c0):=(blk_cell BKi.out 0).trans rfl;have hfi_w13:=blk_frozen BKi.out 0;replace HOdM:=am_ (R_below z248_ hb);replace HB:=am_ (below_step z0_ hb);(try clear hb)))
  go_ret;exact⟨_,z7_,z248_,z0_⟩

/-! ### impl_RankOf: function 94 -/
def impl_RankOf.l0:Nat→List Int→List Int→Int→Int→Option (List Int)
 |0,_,_,_,_=>none
 |k+1,x4,x12,x13,x14=>if x14<x13 then (if 0≤x14 then (if x14<(x12.length:Int) then (if 0≤(rd x12 x14) then (if (rd x12 x14)<(x4.length:Int) then (impl_RankOf.l0 k (x4.set ((rd x12 x14):Int).toNat x14) x12 x13 (wrap64 (x14+1))) else (none)) else (none)) else (none)) else (none)) else (some x4)
def impl_RankOf.f (k:Nat) (l0:List (S61)):Option (List Int):=(impl_PostOrder.f k l0).bind fun ta2=>(if 0≤(ta2.length:Int) then (if ((ta2.length:Int):Int).toNat≤35184372088832 then (impl_RankOf.l0 k (List.replicate ((ta2.length:Int):Int).toNat 0) ta2 (ta2.length:Int) 0) else (none)) else (none))
theorem impl_RankOf.calls (k:Nat) (A0:Option Addr) (c0:Nat) (l0:List (S61)) (r:List Int) (w:World) (hr0:Kd.C k61 w A0 l0.length l0) (hc0:l0.length≤c0) (h:impl_RankOf.f k l0=some r):
  Calls Try.prog 94 #[.slice A0 l0.length c0] w fun e w'=>∃v0_:Value,e= .returned (v0_)∧RI_ w' w.heap.size (fun _=>True) v0_ r∧Below w.heap.size w w':=by
 have HR0:=am_ hr0;have HC0:=am_ hc0;clear hr0 hc0;have HB:=am_ (Below.refl w.heap.size w);have H:((impl_PostOrder.f k l0).bind fun ta2=>(if 0≤(ta2.length:Int) then (if ((ta2.length:Int):Int).toNat≤35184372088832 then (impl_RankOf.l0 k (List.replicate ((ta2.length:Int):Int).toNat 0) ta2 (ta2.length:Int) 0) else (none)) else (none)))=some r:=h;clear h;obtain⟨ta2,A2,H⟩:=bnd_ H;obtain⟨c3b0,c3b1,H⟩:=ife_ H;obtain⟨c4b0,c4b1,H⟩:=ife_ H
 (generalize hy_:((List.replicate ((ta2.length:Int):Int).toNat 0):List Int)=yfo at H;have Nyfo:=am_ hy_.symm;clear hy_)
 have H':=am_ H;clear H;go_enter Try.func94,Try.ntmps94
 go_wp2_with (first|((with_reducible refine gate_callee (f:=85) rfl ?_);refine goesL_ (some 8) rfl rfl Try.func85 y0_ rfl #[.slice A0 l0.length c0] rfl z1_ ?_;(with_reducible refine(impl_PostOrder.calls k _ _ l0 ta2 _ ?s1 ?s2 A2.out).mono ?_);(case s1=>exact z43_);(case s2=>exact HC0.out);rintro e w5 ⟨vi4,rfl,ho0,hb⟩;refine⟨_,rfl,?_⟩;have HOfz:=am_ (R_lower ho0 (below_size z0_));replace HB:=am_ (below_step z0_ hb);(try clear hb ho0);obtain⟨Ao6,co6,eo6⟩:=R_slice HOfz.out;subst eo6)|((with_reducible refine gate_dst (N:=11) rfl ?_);refine R_make (Kd.int .i64) _ 3 rfl (N:=11) rfl 30 _ _ rfl (ta2.length:Int) rfl rfl Try.underlying30 (.int .i64 0) 8 info3 rfl (by decide) (by omega) 0 (ok:=fun _=>True) (okp:=fun _=>True) rfl (fun _ hk=>hk) trivial (odt_) (Nat.le_trans (Nat.mul_le_mul_right _ (odt_:(ta2.length:Int).toNat≤35184372088832)) (by omega)) (Below.refl _ _) (Nat.le_refl _) ?_;intro vfp w7 ho8 hb hg_ hnew_;clear hg_ hnew_;(rw[←Nyfo.out] at ho8);have HOes:=am_ (R_lower (R_new' ho8 (R_lt z343_)) (below_size z0_));replace HOfz:=am_ (R_elder' z343_ (R_base ho8) hb);replace HB:=am_ (below_step z0_ hb);clear hb ho8))
 go_loopg [14] k (fun kq v14 w'=>∃(x4_1:List Int) (x14_1:Int),v14= .int .i64 x14_1∧Aside0 (impl_RankOf.l0 kq x4_1 ta2 (ta2.length:Int) x14_1=some r)∧Aside0 (kq≤k)∧Aside0 (RI_ w' w.heap.size (nb1_ (.slice Ao6 ta2.length co6)) vfp x4_1)∧Aside0 (RI_ w' w.heap.size (nb1_ vfp) (.slice Ao6 ta2.length co6) ta2)∧Aside0 (Below w.heap.size w w'))
 case atStart=>exact⟨(yfo),(0),z9_,H',⟨Nat.le_refl _⟩,⟨by exact ur_ (R_mono HOes.out (fun _ hk=>hk.2))⟩,⟨by exact ur_ (R_mono HOfz.out (fun _ hk=>hk.2))⟩,⟨z0_⟩⟩
 case round=>
  clear H';obtain⟨x4_1,x14_1,rfl,HA,HK1,HO_4,HO_12,HB⟩:=hrel;cases gk with
  |zero=>exact absurd HA.out (by simp[impl_RankOf.l0])
  | succ k1=>
   have H:=HA.out;clear HA;simp only[impl_RankOf.l0] at H;by_cases c9:x14_1<(ta2.length:Int)
   ·rw[if_pos c9] at H;have c9b0:=decide_eq_true c9;clear c9;obtain⟨c10b0,H⟩:=ifd_ H;obtain⟨c11b0,H⟩:=ifd_ H;obtain⟨c12b0,H⟩:=ifd_ H;obtain⟨c13b0,H⟩:=ifd_ H
    (generalize hy_:((x4_1.set ((rd ta2 x14_1):Int).toNat x14_1):List Int)=yhC at H;have NyhC:=am_ hy_.symm;clear hy_)
    have H':=am_ H;clear H;have pek:0≤(x14_1:Int):=odt_;have qek:x14_1<(ta2.length:Int):=odt_;obtain⟨adek,eek,hxek_0⟩:=at_int (R_reads' HO_12.out).2.2 x14_1 pek qek;cases eek;replace pek:=eq_true pek;replace qek:=eq_true qek;have p14:0≤((rd ta2 x14_1):Int):=odt_;have q14:((rd ta2 x14_1):Int)<((x4_1.length:Int):Int):=odt_;obtain⟨go14,co14,eo14,gb14,gl14,cl14,HG14⟩:=R_form HO_4.out (by omega)
    (cases eo14)
    have GB14:=am_ gb14;have GG14:=am_ HG14;clear gb14 gl14 HG14;obtain⟨hx14_0,hf14_0⟩:=R_celln 0 HO_4.out ((rd ta2 x14_1):Int) p14 q14;replace p14:=eq_true p14;replace q14:=eq_true q14;have HP15:=R_putg HO_4.out ((rd ta2 x14_1):Int) x14_1
    go_wp2_with (((with_reducible refine gate_store (t:=3) (p:=22) rfl ?_);refine store_event (t:=3) (p:=22) (v:=?vo_w16) (w1:=(wr.setCell ⟨go14,((rd ta2 x14_1):Int).toNat,none⟩ (.int .i64 x14_1))) ?hg ?ho ?hn ?hr ?_;(case ho=>rfl);(case hg=>rfl);(case hn=>rfl);(case hr=>exact z14_);intro w16 hw;have hg:wr.grownBy w16 (some go14):=(by rw[hw];exact HP15.2);have hp_:RI_ w16 w.heap.size (nb1_ (.slice (some adek) ta2.length co6)) (.slice (some ⟨go14,0,none⟩) x4_1.length co14) yhC:=(by rw[hw,NyhC.out];exact HP15.1);clear HP15;replace HO_4:=am_ (hp_);replace HO_12:=am_ (R_after (v:=(.slice (some ⟨go14,0,none⟩) x4_1.length co14)) (v1:=(.slice (some ⟨go14,0,none⟩) x4_1.length co14)) (ok:=(fun _=>True)) (by exact ur_ (R_mono HO_12.out (fun _ hk=>⟨trivial,hk⟩))) hg (.inl rfl));replace HB:=am_ ((by rw[hw];exact below_set (HB.out) GB14.out:Below w.heap.size w w16));clear hg hw hp_))
    go_roundg k1
    case measure=>have:=HK1.out;omega
    case rel=>exact⟨(yhC),(wrap64 (x14_1+1)),z9_,H',⟨z170_⟩,⟨z27_⟩,⟨by exact ur_ (R_mono HO_12.out (fun _ hk=>hk.2))⟩,⟨z0_⟩⟩
   ·rw[if_neg c9] at H;have c9b0:=decide_eq_false c9;clear c9;obtain rfl:=Option.some.inj H;go_wp2;go_ret;exact⟨_,z7_,z260_,z0_⟩

end Go.Proofs.Ytbmkobanpakohaa.PFnNear
