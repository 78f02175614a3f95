/- The walks of the law FnMedian. -/
import Derived.Test.YtbmkobanpakohaaMFnMedianx0
import Derived.Test.YtbmkobanpakohaaMFnMedianx10
import Derived.Test.YtbmkobanpakohaaMFnMedianx11
import Derived.Test.YtbmkobanpakohaaShelf
import Derived.Sort.LotA
import Derived.Lib.SortBridge
import Derived.Shelf.SlSortCmp.Whole1
namespace Go.Proofs.Ytbmkobanpakohaa.PFnMedian
open Go.RowKit Go.Proofs.YtbmkobanpakohaaW.PrintWords Go.Proofs.YtbmkobanpakohaaW.PrintLast Go.Proofs.YtbmkobanpakohaaW.PrintMore
attribute [local go_sem] max2_int min2_int max_two min_two max_three min_three max_four min_four
set_option linter.unusedVariables false
set_option linter.unusedSimpArgs false

/-! ### impl_PostOrder: function 85 -/
/-- the order that the function value tells, as a number -/
def impl_PostOrder.cf (k:Nat) (l:List S61) (x y:Fin l.length):Int:=(impl_PostOrder_lit1.f k (x.val:Int) (y.val:Int) l).getD 0
def impl_PostOrder.lt (k:Nat) (l:List S61) (x y:Fin l.length):Bool:=decide (impl_PostOrder.cf k l x y<0)
/-- it tells one order of all nodes -/
def impl_PostOrder.Good (k:Nat) (l:List S61):Prop:=(∀x y:Fin l.length,(impl_PostOrder_lit1.f k (x.val:Int) (y.val:Int) l).isSome=true)∧(∀x:Fin l.length,impl_PostOrder.lt k l x x=false)∧
 (∀x y z:Fin l.length,impl_PostOrder.lt k l x y=true→impl_PostOrder.lt k l y z=true→impl_PostOrder.lt k l x z=true)∧(∀x y z:Fin l.length,impl_PostOrder.lt k l x y=false→impl_PostOrder.lt k l y z=false→impl_PostOrder.lt k l x z=false)∧
 (∀x y:Fin l.length,impl_PostOrder.lt k l x y=false→impl_PostOrder.lt k l y x=false→x=y)
instance impl_PostOrder.goodDec (k:Nat) (l:List S61):Decidable (impl_PostOrder.Good k l):=by unfold impl_PostOrder.Good;infer_instance
def impl_PostOrder.sort (k:Nat) (l:List S61) (x:List Int):Option (List Int):=
 if (x=(List.finRange l.length).map (fun i=>(i.val:Int))∧0<l.length∧l.length<4611686018427387904)∧impl_PostOrder.Good k l then some (((List.finRange l.length).mergeSort (fun a b=> !impl_PostOrder.lt k l b a)).map (fun i=>(i.val:Int))) else none
theorem below_grow {B:Nat} {w:World} (os:Array Obj) (hB:B≤w.heap.size):Below B w (Sort.grow w os):=⟨rfl,rfl,rfl,by rw[Sort.size_grow];omega,fun k hk=>Sort.heap_grow_old w os (by omega)⟩
theorem below_setCells {B g:Nat} (hg:B≤g):∀(vs:List Value) (o:Nat) (w0 w:World),Below B w0 w→Below B w0 (w.setCells g o vs)
 | [],_,_,_,h=>h
 |v::vs,o,w0,w,h=>below_setCells hg vs (o+1) w0 (w.setCell ⟨g,o,none⟩ v) (h.setCell hg _)
theorem blk_setCells {g b:Nat} {ob:Obj} (hne:g≠b):∀(vs:List Value) (o:Nat) (w:World),w.heap[g]? =some ob→(w.setCells b o vs).heap[g]? =some ob
 | [],_,_,h=>h
 |v::vs,o,w,h=>blk_setCells hne vs (o+1) (w.setCell ⟨b,o,none⟩ v) ((Below.heap_setCell w ⟨b,o,none⟩ v g hne).trans h)
theorem row_setCells {base g cap:Nat} {ok:Nat→Prop} :∀(ys pre xs:List Int) (w:World),xs.length=ys.length→Kd.R (Kd.int .i64) 3 w base ok (.slice (some ⟨g,0,none⟩) (pre++xs).length cap) (pre++xs)→
  Kd.R (Kd.int .i64) 3 (w.setCells g pre.length (ys.map (Value.int .i64))) base ok (.slice (some ⟨g,0,none⟩) (pre++ys).length cap) (pre++ys)
 | [],pre,xs,w,he,h=>by
  obtain rfl:=List.eq_nil_of_length_eq_zero he;exact h
 |y::ys,pre,[],w,he,h=>by cases he
 |y::ys,pre,x::xs,w,he,h=>by
  have h1:=(Kd.R_put h (pre.length:Int) y).1;rw[Int.toNat_natCast,show (pre++x::xs).set pre.length y=(pre++[y])++xs by simp,show (pre++x::xs).length=((pre++[y])++xs).length by simp] at h1;have h2:=row_setCells ys (pre++[y]) xs _ (by simpa using he) h1;rw[show (pre++[y]).length=pre.length+1 by simp,show (pre++[y])++ys=pre++y::ys by simp] at h2;exact h2
open Go.Sort (SWO Holds) in
theorem impl_PostOrder.sorts (k:Nat) (l:List S61) (A0:Option Addr) (c0:Nat) (x r:List Int) (v:Value) (gi:Nat) (w0 w:World) (hr0:Kd.C k61 w0 A0 l.length l) (hc0:l.length≤c0) (hB:Below w0.heap.size w0 w)
  (hbk:w.heap[gi]? =some (.cells #[.slice A0 l.length c0] 25 (0,0))) (hO:Kd.R (Kd.int .i64) 3 w w0.heap.size (fun _=>True) v x) (h:impl_PostOrder.sort k l x=some r):
  Calls Try.prog 92 #[v,.func (.func 93) #[] #[.pointer (some ⟨gi,0,none⟩)]] w fun e w'=>e= .returned (.tuple #[])∧Kd.R (Kd.int .i64) 3 w' w0.heap.size (fun _=>True) v r∧Below w0.heap.size w0 w':=by
 unfold impl_PostOrder.sort at h
 split at h
 ·rename_i hc;obtain⟨⟨hx,hn,hlt⟩,hg1,hg2,hg3,hg4,hg5⟩:=hc;obtain rfl:=Option.some.inj h;have hxl:x.length=l.length:=by rw[hx,List.length_map,List.length_finRange]
  obtain⟨g,cap,rfl,hbg,hgl,cs,hcs⟩:=Kd.R_form hO (by omega)
  have hne:gi≠g:=by
   rintro rfl;rw[hcs] at hbk
   injection hbk with e
   injection e with e1 e2
   exact absurd e2 (by decide)
  haveI:Inhabited (Fin l.length):=⟨⟨0,hn⟩⟩
  have hds:(List.finRange l.length).toArray.size=l.length:=by simp
  have hen:∀ys:List (Fin l.length),ys.map (fun i=>Value.int .i64 (i.val:Int))=(ys.map (fun i=>(i.val:Int))).map (Value.int .i64):=fun ys=>by rw[List.map_map];rfl
  have hH:Holds (fun i:Fin l.length=>Value.int .i64 (i.val:Int)) w g 0 (List.finRange l.length).toArray:=by
   intro j hj;rw[hds] at hj;have h1:=Kd.R_cell (0:Int) hO (j:Int) (by omega) (by omega);rw[Int.toNat_natCast] at h1;rw[Nat.zero_add];refine⟨h1.1.trans ?_,h1.2⟩
   have e:rdOf (0:Int) x (j:Int)=(j:Int):=by
    show x.getD (j:Int).toNat 0=_
    rw[Int.toNat_natCast,hx,List.getD_eq_getElem?_getD,List.getElem?_map,List.getElem?_eq_getElem (by simpa using hj)]
    simp
   rw[e]
   have e2:(List.finRange l.length).toArray[j]! =⟨j,hj⟩:=by
    rw[getElem!_pos _ _ (by simpa using hj)]
    simp
   rw[e2]
  have hcmp:CmpReads Try.prog 93 #[.pointer (some ⟨gi,0,none⟩)] (fun i:Fin l.length=>Value.int .i64 (i.val:Int)) (impl_PostOrder.cf k l) g 0 (List.finRange l.length).toArray.size w:=by
   intro m os dk hs a b
   have hw:sortWorld (fun i:Fin l.length=>Value.int .i64 (i.val:Int)) w g 0 m dk os=Sort.grow ((w.drewN m).setCells g 0 (dk.toList.map (fun i=>Value.int .i64 (i.val:Int)))) os:=by
    have:=Lib.sorted_world (fun i:Fin l.length=>Value.int .i64 (i.val:Int)) w g 0 m _ dk.toList os hH (by simpa using hs)
    simpa [sortWorld] using this
   have hB1:Below w0.heap.size w0 ((w.drewN m).setCells g 0 (dk.toList.map (fun i=>Value.int .i64 (i.val:Int)))):=below_setCells hbg _ _ _ _ ⟨hB.os,hB.tape,hB.output,hB.size,hB.block⟩;have hB2:=hB1.trans (below_grow os (below_size hB1))
   have hb2:(Sort.grow ((w.drewN m).setCells g 0 (dk.toList.map (fun i=>Value.int .i64 (i.val:Int)))) os).heap[gi]? =some (.cells #[.slice A0 l.length c0] 25 (0,0)):=by
    have h1:=blk_setCells hne (dk.toList.map (fun i=>Value.int .i64 (i.val:Int))) 0 (w.drewN m) hbk;exact(Sort.heap_grow_old _ os (blk_lt h1)).trans h1
   obtain⟨u,hu⟩:=Option.isSome_iff_exists.1 (hg1 a b);rw[hw];have h3:=impl_PostOrder_lit1.calls k (a.val:Int) (b.val:Int) A0 c0 l gi u _ (Kd.C_below hr0 hB2) hc0 ((blk_cell hb2 0).trans rfl) hu;refine h3.mono ?_;rintro e w' ⟨rfl,q,rfl⟩;refine⟨?_,q,rfl⟩
   show _=Ending.returned (.int .i64 ((impl_PostOrder_lit1.f k (a.val:Int) (b.val:Int) l).getD 0))
   rw[hu];rfl
  have hO2:SWO (ltOf (impl_PostOrder.cf k l)):=⟨hg2,hg3,hg4⟩
  have con:=Try.slices_SortFunc (fun i:Fin l.length=>Value.int .i64 (i.val:Int)) (fun _=>rfl) (impl_PostOrder.cf k l) hO2 93 #[.pointer (some ⟨gi,0,none⟩)] g 0 cap (List.finRange l.length).toArray w (enters_of Try.func93 y0_ rfl) hcmp.lays hH hgl (by rw[hds];exact hlt);rw[hds] at con;rw[hxl];refine con.mono ?_;rintro e w' ⟨rfl,d',n,os,hp,hs,rfl⟩;have hu:=Sort.sorted_unique_holds hO2 hg5 (List.finRange l.length).toArray d' (by rw[hds];exact hp) (by rw[hds];exact hs);have hd:d'.size=l.length:=by have:=hp.1;rw[hds] at this;exact this
  have hw:sortWorld (fun i:Fin l.length=>Value.int .i64 (i.val:Int)) w g 0 n d' os=Sort.grow ((w.drewN n).setCells g 0 ((d'.toList.map (fun i=>(i.val:Int))).map (Value.int .i64))) os:=by
   have:=Lib.sorted_world (fun i:Fin l.length=>Value.int .i64 (i.val:Int)) w g 0 n _ d'.toList os hH (by rw[hds];simpa using hd);rw[hen] at this
   simpa [sortWorld] using this
  rw[hw];have hB1:Below w0.heap.size w0 ((w.drewN n).setCells g 0 ((d'.toList.map (fun i=>(i.val:Int))).map (Value.int .i64))):=below_setCells hbg _ _ _ _ ⟨hB.os,hB.tape,hB.output,hB.size,hB.block⟩;have hR:=row_setCells (d'.toList.map (fun i=>(i.val:Int))) [] x (w.drewN n) (by simp[hxl,hd]) (Kd.R_drewN hO n);rw[List.nil_append,List.length_map,show d'.toList.length=l.length by rw[Array.length_toList];exact hd,List.length_nil] at hR;refine⟨rfl,?_,hB1.trans (below_grow os (below_size hB1))⟩;have hR2:=Kd.R_below hR (below_grow os (Nat.le_refl _));have hu2:(List.finRange l.length).mergeSort (fun a b=> !impl_PostOrder.lt k l b a)=d'.toList:=hu.symm;rw[hu2];exact hR2
 ·cases h
def impl_PostOrder.l0:Nat→List (S61)→List Int→Int→Int→Option (List Int)
 |0,_,_,_,_=>none
 |k+1,x1,x3,x11,x12=>if x12<x11 then (if x3.length<17592186044416 then (impl_PostOrder.l0 k x1 (x3++[x12]) x11 (wrap64 (x12+1))) else (none)) else (impl_PostOrder.sort k x1 x3)
def impl_PostOrder.f (k:Nat) (l0:List (S61)):Option (List Int):=(some (([]:List Int):List Int)).bind fun y343=>((impl_TreeOk.f k l0).bind fun t346=>(if t346=true then (impl_PostOrder.l0 k l0 y343 (l0.length:Int) 0) else (some y343)))
set_option maxHeartbeats 8000000 in
set_option maxRecDepth 100000 in
theorem impl_PostOrder.calls (k:Nat) (A0:Option Addr) (c0:Nat) (l0:List (S61)) (r:List Int) (w:World) (hr0:Kd.C k61 w A0 l0.length l0) (hc0:l0.length≤c0) (h:impl_PostOrder.f k l0=some r):
  Calls Try.prog 85 #[.slice A0 l0.length c0] w fun e w'=>∃v0_:Value,e= .returned (v0_)∧Kd.R (Kd.int .i64) 3 w' w.heap.size (fun _=>True) v0_ r∧Below w.heap.size w w':=by
 have hu25:=Try.underlying25;have hmf:∀(fn:Fn) (first cap:Array Value) (w:World),(Instr.makeFunc fn first cap).run Try.prog w= .ok (.func fn first cap) w:=fun _ _ _ _=>rfl
 have HR0:=Aside0.mk hr0;have HC0:=Aside0.mk hc0;clear hr0 hc0;have HB:=am_ (Below.refl w.heap.size w);have H:((some (([]:List Int):List Int)).bind fun y343=>((impl_TreeOk.f k l0).bind fun t346=>(if t346=true then (impl_PostOrder.l0 k l0 y343 (l0.length:Int) 0) else (some y343))))=some r:=h;clear h
 ((with_reducible have hz_:=gy_ H);obtain⟨y343,Ny343,H⟩:=hz_)
 obtain⟨t346,A2,H⟩:=bnd_ H;by_cases c3:t346=true
 ·subst c3;replace H:=ift_ H;have H':=Aside0.mk H;clear H;go_enter Try.func85,Try.ntmps85
  go_wp2_with (first|((with_reducible refine gate_dst (N:=1) rfl ?_);refine box_event ?hg (N:=1) ?hd (cs:=#[.slice A0 l0.length c0]) (t:=25) ?hr ?_;(case hd=>rfl);(case hg=>rfl);(case hr=>exact z14_);intro gi hg w1 hbox hb;have n1_:=am_ (below_step z0_ hb);have BKi:=Aside0.mk hbox;clear HB;have HB:=n1_;clear n1_;clear hb hbox hg)|((with_reducible refine gate_dst (N:=5) rfl ?_);refine Kd.R_lit (Kd.int .i64) _ 3 ?hg (N:=5) ?hd (xs:=([]:List Int)) (inner:=[]) (ok:=fun _=>True) (okp:=fun _=>True) ?hr ?hp (fun _ hk=>hk) trivial (Below.refl _ _) (Nat.le_refl _) (by simp) ?_;(case hd=>rfl);(case hg=>rfl);(case hr=>exact z14_);(case hp=>exact z230_);intro v344 w4 ho5 hb hg_ hnew_;clear hg_ hnew_;have n9_:=am_ (blk_below (g:=gi) (o:= .cells #[.slice A0 l0.length c0] 25 (0,0)) z144_ hb);clear BKi;have BKi:=n9_;clear n9_;have hci_w4:w4.cell? ⟨gi,0,none⟩=some (.slice A0 l0.length c0):=(blk_cell BKi.out 0).trans rfl;have hfi_w4:=blk_frozen BKi.out 0;(rw[←Ny343.out] at ho5);have HO345:=am_ (Kd.R_lower ho5 (below_size z0_));replace HB:=am_ (below_step z0_ hb);clear hb ho5)|((with_reducible refine gate_callee (f:=57) rfl ?_);refine goesL_ (some 7) rfl rfl Try.func57 y0_ rfl #[.slice A0 l0.length c0] rfl z1_ ?_;(with_reducible refine(impl_TreeOk.calls k _ _ l0 true _ ?side1 ?side2 A2.out).mono ?_);(case side1=>exact z6_);(case side2=>exact HC0.out);rintro e w6 ⟨rfl,hb⟩;refine⟨_,rfl,?_⟩;have n9_:=am_ (blk_below (g:=gi) (o:= .cells #[.slice A0 l0.length c0] 25 (0,0)) z144_ hb);clear BKi;have BKi:=n9_;clear n9_;have hci_w6:w6.cell? ⟨gi,0,none⟩=some (.slice A0 l0.length c0):=(blk_cell BKi.out 0).trans rfl;have hfi_w6:=blk_frozen BKi.out 0;replace HO345:=am_ (Kd.R_below z209_ hb);replace HB:=am_ (below_step z0_ hb);(try clear hb)))
  go_loopg [3,12] k (fun kq v3 v12 w'=>∃(x3_1:List Int) (x12_1:Int),v12= .int .i64 x12_1∧Aside0 (impl_PostOrder.l0 kq l0 x3_1 (l0.length:Int) x12_1=some r)∧Aside0 (kq≤k)∧Aside0 (Kd.R (Kd.int .i64) 3 w' w.heap.size (fun _=>True) v3 x3_1)∧Aside0 (w'.heap[gi]? =some (.cells #[.slice A0 l0.length c0] 25 (0,0)))∧Aside0 (Below w.heap.size w w'))
  case atStart=>exact⟨(y343),(0),z9_,H',⟨Nat.le_refl _⟩,⟨z209_⟩,⟨z144_⟩,⟨z0_⟩⟩
  case round=>
   clear H';obtain⟨x3_1,x12_1,rfl,HA,HK1,HO_3,BKi,HB⟩:=hrel;cases gk with
   |zero=>exact absurd HA.out (by simp[impl_PostOrder.l0])
   | succ k1=>
    have H:=HA.out;clear HA;simp only[impl_PostOrder.l0] at H;by_cases c7:x12_1<(l0.length:Int)
    ·rw[if_pos c7] at H;have c7b0:=decide_eq_true c7;clear c7;obtain⟨c8,H⟩:=ifs_ H;have LMc8:=Aside0.mk c8;clear c8
     (generalize hy_:((x3_1++[x12_1]):List Int)=y347 at H;have Ny347:=Aside0.mk hy_.symm;clear hy_)
     have H':=Aside0.mk H;clear H
     go_wp2_with (((with_reducible refine gate_builtin (b:= .append) (xs:=#[.tmp 15,.tmp 17]) rfl ?_);at_builtin;refine Kd.R_append (Kd.int .i64) (w0:=w) w.heap.size rfl (.tmp 15) (.tmp 17) 30 3 (.int .i64 0) 8 rfl Try.underlying30 info3 rfl (by decide) (by omega) u3 x3_1 x12_1 [.int .i64 x12_1] (fun _=>True) (fun _=>False) rfl rfl ?aP (fun _ hk=>hk.elim) ?aF ?aO ?aB ?aS ?aL ?_;(case aP=>exact rfl);(case aB=>exact z48_);(case aF=>exact z269_);(case aO=>exact z106_);(case aS=>exact z46_);(case aL=>have:=LMc8.out;omega);intro v348 w9 ho hb hg hat;have n9_:=am_ (blk_grown BKi.out hg (Kd.R_ne HO_3.out BKi.out (by decide)));clear BKi;have BKi:=n9_;clear n9_;rw[←Ny347.out] at ho;replace HB:=am_ (hb);have HO349:=am_ (ho);clear HO_3;clear ho hb hg hat))
     go_roundg k1
     case measure=>have:=HK1.out;omega
     case rel=>exact⟨(y347),(wrap64 (x12_1+1)),z9_,H',⟨z176_⟩,⟨by exact HO349.out⟩,⟨z144_⟩,⟨z0_⟩⟩
    ·rw[if_neg c7] at H;have c7b0:=decide_eq_false c7;clear c7;have HS:=Aside0.mk H;clear H
     go_wp2_with (go_at_call 92;refine(impl_PostOrder.sorts k1 l0 A0 c0 x3_1 r _ gi w _ HR0.out HC0.out HB.out BKi.out HO_3.out HS.out).mono ?_;rintro e w8 ⟨rfl,hr8,hb8⟩)
     go_ret;exact⟨_,rfl,hr8,hb8⟩
 ·replace c3:=Bool.eq_false_iff.mpr c3;subst c3;replace H:=iff_ H;obtain rfl:=Option.some.inj H;go_enter Try.func85,Try.ntmps85
  go_wp2_with (first|((with_reducible refine gate_dst (N:=1) rfl ?_);refine box_event ?hg (N:=1) ?hd (cs:=#[.slice A0 l0.length c0]) (t:=25) ?hr ?_;(case hd=>rfl);(case hg=>rfl);(case hr=>exact z14_);intro gi hg w1 hbox hb;have n1_:=am_ (below_step z0_ hb);have BKi:=Aside0.mk hbox;clear HB;have HB:=n1_;clear n1_;clear hb hbox hg)|((with_reducible refine gate_dst (N:=5) rfl ?_);refine Kd.R_lit (Kd.int .i64) _ 3 ?hg (N:=5) ?hd (xs:=([]:List Int)) (inner:=[]) (ok:=fun _=>True) (okp:=fun _=>True) ?hr ?hp (fun _ hk=>hk) trivial (Below.refl _ _) (Nat.le_refl _) (by simp) ?_;(case hd=>rfl);(case hg=>rfl);(case hr=>exact z14_);(case hp=>exact z230_);intro v344 w11 ho12 hb hg_ hnew_;clear hg_ hnew_;have n9_:=am_ (blk_below (g:=gi) (o:= .cells #[.slice A0 l0.length c0] 25 (0,0)) z144_ hb);clear BKi;have BKi:=n9_;clear n9_;have hci_w11:w11.cell? ⟨gi,0,none⟩=some (.slice A0 l0.length c0):=(blk_cell BKi.out 0).trans rfl;have hfi_w11:=blk_frozen BKi.out 0;(rw[←Ny343.out] at ho12);have HO345:=am_ (Kd.R_lower ho12 (below_size z0_));replace HB:=am_ (below_step z0_ hb);clear hb ho12)|((with_reducible refine gate_callee (f:=57) rfl ?_);refine goesL_ (some 7) rfl rfl Try.func57 y0_ rfl #[.slice A0 l0.length c0] rfl z1_ ?_;(with_reducible refine(impl_TreeOk.calls k _ _ l0 false _ ?side1 ?side2 A2.out).mono ?_);(case side1=>exact z6_);(case side2=>exact HC0.out);rintro e w13 ⟨rfl,hb⟩;refine⟨_,rfl,?_⟩;have n9_:=am_ (blk_below (g:=gi) (o:= .cells #[.slice A0 l0.length c0] 25 (0,0)) z144_ hb);clear BKi;have BKi:=n9_;clear n9_;have hci_w13:w13.cell? ⟨gi,0,none⟩=some (.slice A0 l0.length c0):=(blk_cell BKi.out 0).trans rfl;have hfi_w13:=blk_frozen BKi.out 0;replace HO345:=am_ (Kd.R_below z209_ hb);replace HB:=am_ (below_step z0_ hb);(try clear hb)))
  go_ret;exact⟨_,z8_,z209_,z0_⟩

/-! ### impl_RankOf: function 94 -/
def impl_RankOf.l0:Nat→List Int→List Int→Int→Int→Option (List Int)
 |0,_,_,_,_=>none
 |k+1,x4,x12,x13,x14=>if x14<x13 then (if 0≤x14 then (if x14<(x12.length:Int) then (if 0≤(rd x12 x14) then (if (rd x12 x14)<(x4.length:Int) then (impl_RankOf.l0 k (x4.set ((rd x12 x14):Int).toNat x14) x12 x13 (wrap64 (x14+1))) else (none)) else (none)) else (none)) else (none)) else (some x4)
def impl_RankOf.f (k:Nat) (l0:List (S61)):Option (List Int):=(impl_PostOrder.f k l0).bind fun t351=>(if 0≤(t351.length:Int) then (if ((t351.length:Int):Int).toNat≤35184372088832 then (impl_RankOf.l0 k (List.replicate ((t351.length:Int):Int).toNat 0) t351 (t351.length:Int) 0) else (none)) else (none))
set_option maxHeartbeats 8000000 in
set_option maxRecDepth 100000 in
theorem impl_RankOf.calls (k:Nat) (A0:Option Addr) (c0:Nat) (l0:List (S61)) (r:List Int) (w:World) (hr0:Kd.C k61 w A0 l0.length l0) (hc0:l0.length≤c0) (h:impl_RankOf.f k l0=some r):
  Calls Try.prog 94 #[.slice A0 l0.length c0] w fun e w'=>∃v0_:Value,e= .returned (v0_)∧Kd.R (Kd.int .i64) 3 w' w.heap.size (fun _=>True) v0_ r∧Below w.heap.size w w':=by
 have HR0:=Aside0.mk hr0;have HC0:=Aside0.mk hc0;clear hr0 hc0;have HB:=am_ (Below.refl w.heap.size w);have H:((impl_PostOrder.f k l0).bind fun t351=>(if 0≤(t351.length:Int) then (if ((t351.length:Int):Int).toNat≤35184372088832 then (impl_RankOf.l0 k (List.replicate ((t351.length:Int):Int).toNat 0) t351 (t351.length:Int) 0) else (none)) else (none)))=some r:=h;clear h;obtain⟨t351,A2,H⟩:=bnd_ H;obtain⟨c3b0,c3b1,H⟩:=ife_ H;obtain⟨c4b0,c4b1,H⟩:=ife_ H
 (generalize hy_:((List.replicate ((t351.length:Int):Int).toNat 0):List Int)=y354 at H;have Ny354:=Aside0.mk hy_.symm;clear hy_)
 have H':=Aside0.mk H;clear H;go_enter Try.func94,Try.ntmps94
 go_wp2_with (first|((with_reducible refine gate_callee (f:=85) rfl ?_);refine goesL_ (some 8) rfl rfl Try.func85 y0_ rfl #[.slice A0 l0.length c0] rfl z1_ ?_;(with_reducible refine(impl_PostOrder.calls k _ _ l0 t351 _ ?side1 ?side2 A2.out).mono ?_);(case side1=>exact z38_);(case side2=>exact HC0.out);rintro e w5 ⟨v352,rfl,ho0,hb⟩;refine⟨_,rfl,?_⟩;have HO353:=am_ (Kd.R_lower ho0 (below_size z0_));replace HB:=am_ (below_step z0_ hb);(try clear hb ho0);obtain⟨Ao6,co6,eo6⟩:=Kd.R_slice HO353.out;subst eo6)|((with_reducible refine gate_dst (N:=11) rfl ?_);refine Kd.R_make (Kd.int .i64) _ 3 rfl (N:=11) rfl 30 _ _ rfl (t351.length:Int) rfl rfl Try.underlying30 (.int .i64 0) 8 info3 rfl (by decide) (by omega) 0 (ok:=fun _=>True) (okp:=fun _=>True) rfl (fun _ hk=>hk) trivial (odt_) (Nat.le_trans (Nat.mul_le_mul_right _ (odt_:(t351.length:Int).toNat≤35184372088832)) (by omega)) (Below.refl _ _) (Nat.le_refl _) ?_;intro v355 w7 ho8 hb hg_ hnew_;clear hg_ hnew_;(rw[←Ny354.out] at ho8);have HO356:=am_ (Kd.R_lower (Kd.R_new' ho8 (Kd.R_lt z286_)) (below_size z0_));replace HO353:=am_ (Kd.R_elder' z286_ (Kd.R_base ho8) hb);replace HB:=am_ (below_step z0_ hb);clear hb ho8))
 go_loopg [14] k (fun kq v14 w'=>∃(x4_1:List Int) (x14_1:Int),v14= .int .i64 x14_1∧Aside0 (impl_RankOf.l0 kq x4_1 t351 (t351.length:Int) x14_1=some r)∧Aside0 (kq≤k)∧Aside0 (Kd.R (Kd.int .i64) 3 w' w.heap.size (fun k_=>some k_≠((.slice Ao6 t351.length co6):Value).ownBlock) v355 x4_1)∧Aside0 (Kd.R (Kd.int .i64) 3 w' w.heap.size (fun k_=>some k_≠(v355:Value).ownBlock) (.slice Ao6 t351.length co6) t351)∧Aside0 (Below w.heap.size w w'))
 case atStart=>exact⟨(y354),(0),z9_,H',⟨Nat.le_refl _⟩,⟨by exact Kd.R_mono HO356.out (fun _ hk=>hk.2)⟩,⟨by exact Kd.R_mono HO353.out (fun _ hk=>hk.2)⟩,⟨z0_⟩⟩
 case round=>
  clear H';obtain⟨x4_1,x14_1,rfl,HA,HK1,HO_4,HO_12,HB⟩:=hrel;cases gk with
  |zero=>exact absurd HA.out (by simp[impl_RankOf.l0])
  | succ k1=>
   have H:=HA.out;clear HA;simp only[impl_RankOf.l0] at H;by_cases c9:x14_1<(t351.length:Int)
   ·rw[if_pos c9] at H;have c9b0:=decide_eq_true c9;clear c9;obtain⟨c10b0,H⟩:=ifd_ H;obtain⟨c11b0,H⟩:=ifd_ H;obtain⟨c12b0,H⟩:=ifd_ H;obtain⟨c13b0,H⟩:=ifd_ H
    (generalize hy_:((x4_1.set ((rd t351 x14_1):Int).toNat x14_1):List Int)=y358 at H;have Ny358:=Aside0.mk hy_.symm;clear hy_)
    have H':=Aside0.mk H;clear H;have p357:0≤(x14_1:Int):=odt_;have q357:x14_1<(t351.length:Int):=odt_;obtain⟨ad357,e357,hx357_0⟩:=Kd.at_int (Kd.R_reads' HO_12.out).2.2 x14_1 p357 q357;cases e357;replace p357:=eq_true p357;replace q357:=eq_true q357;have p14:0≤((rd t351 x14_1):Int):=odt_;have q14:((rd t351 x14_1):Int)<((x4_1.length:Int):Int):=odt_;obtain⟨go14,co14,eo14,gb14,gl14,cl14,HG14⟩:=Kd.R_form HO_4.out (by omega)
    (cases eo14)
    have GB14:=Aside0.mk gb14;have GG14:=Aside0.mk HG14;clear gb14 gl14 HG14;obtain⟨hx14_0,hf14_0⟩:=Kd.R_celln 0 HO_4.out ((rd t351 x14_1):Int) p14 q14;replace p14:=eq_true p14;replace q14:=eq_true q14;have HP15:=Kd.R_putg HO_4.out ((rd t351 x14_1):Int) x14_1
    go_wp2_with (((with_reducible refine gate_store (t:=3) (p:=22) rfl ?_);refine store_event (t:=3) (p:=22) (v:=?vo_w16) (w1:=(wr.setCell ⟨go14,((rd t351 x14_1):Int).toNat,none⟩ (.int .i64 x14_1))) ?hg ?ho ?hn ?hr ?_;(case ho=>rfl);(case hg=>rfl);(case hn=>rfl);(case hr=>exact z14_);intro w16 hw;have hg:wr.grownBy w16 (some go14):=(by rw[hw];exact HP15.2);have hp_:Kd.R (Kd.int .i64) 3 w16 w.heap.size (fun k_=>some k_≠(.slice (some ad357) t351.length co6:Value).ownBlock) (.slice (some ⟨go14,0,none⟩) x4_1.length co14) y358:=(by rw[hw,Ny358.out];exact HP15.1);clear HP15;replace HO_4:=am_ (hp_);replace HO_12:=am_ (Kd.R_after (v:=(.slice (some ⟨go14,0,none⟩) x4_1.length co14)) (v1:=(.slice (some ⟨go14,0,none⟩) x4_1.length co14)) (ok:=(fun _=>True)) (by exact Kd.R_mono HO_12.out (fun _ hk=>⟨trivial,hk⟩)) hg (.inl rfl));replace HB:=am_ ((by rw[hw];exact below_set (HB.out) GB14.out:Below w.heap.size w w16));clear hg hw hp_))
    go_roundg k1
    case measure=>have:=HK1.out;omega
    case rel=>exact⟨(y358),(wrap64 (x14_1+1)),z9_,H',⟨z176_⟩,⟨z29_⟩,⟨by exact Kd.R_mono HO_12.out (fun _ hk=>hk.2)⟩,⟨z0_⟩⟩
   ·rw[if_neg c9] at H;have c9b0:=decide_eq_false c9;clear c9;obtain rfl:=Option.some.inj H;go_wp2;go_ret;exact⟨_,z8_,z214_,z0_⟩

/-! ### impl_LeftLeaf: function 86 -/
def impl_LeftLeaf.l0:Nat→List (S61)→List Int→List Int→List Int→Int→Int→Option (List Int)
 |0,_,_,_,_,_,_=>none
 |k+1,x0,x3,x4,x11,x12,x13=>if x13<x12 then (if 0≤x13 then (if x13<(x11.length:Int) then (if 0≤(rd x11 x13) then (if (rd x11 x13)<(x4.length:Int) then ((impl_endOf.f k x0 (rd x11 x13)).bind fun t370=>(if x3.length<17592186044416 then (impl_LeftLeaf.l0 k x0 (x3++[wrap64 ((rd x4 (rd x11 x13))-(wrap64 ((wrap64 (t370-(rd x11 x13)))-1)))]) x4 x11 x12 (wrap64 (x13+1))) else (none))) else (none)) else (none)) else (none)) else (none)) else (some x3)
def impl_LeftLeaf.f (k:Nat) (l0:List (S61)):Option (List Int):=(impl_RankOf.f k l0).bind fun t362=>((impl_PostOrder.f k l0).bind fun t365=>(impl_LeftLeaf.l0 k l0 (([]:List Int)) t362 t365 (t365.length:Int) 0))
def impl_LeftLeaf.T5:Bool×List (List Nat×List Nat):=(true,[([],[]),([],[]),([],[]),([1,2],[1,2]),([3],[3]),([],[]),([],[]),([5,6],[5,6]),([],[]),([7,8],[7,8]),([9],[9]),([4,10],[4,10]),([11],[11]),([0,12,7],[0,12]),([13,13,0,1,2,3,4,5,6,7,8,9,10,11,12,13],[0,13])])
def impl_LeftLeaf.B5:List Nat:=[0,0,0,6,14,0,0,96,0,480,992,2046,4094,8191,16383]
theorem impl_LeftLeaf.tab5:rtab .any (opsOf Try.f86 5)=impl_LeftLeaf.T5:=by kernel_rfl
theorem impl_LeftLeaf.bits5:waitsOk impl_LeftLeaf.T5.2 impl_LeftLeaf.B5=true:=by kernel_rfl
set_option maxHeartbeats 8000000 in
set_option maxRecDepth 100000 in
theorem impl_LeftLeaf.calls (k:Nat) (A0:Option Addr) (c0:Nat) (l0:List (S61)) (r:List Int) (w:World) (hr0:Kd.C k61 w A0 l0.length l0) (hc0:l0.length≤c0) (h:impl_LeftLeaf.f k l0=some r):
  Calls Try.prog 86 #[.slice A0 l0.length c0] w fun e w'=>∃v0_:Value,e= .returned (v0_)∧Kd.R (Kd.int .i64) 3 w' w.heap.size (fun _=>True) v0_ r∧Below w.heap.size w w':=by
 have HR0:=Aside0.mk hr0;have HC0:=Aside0.mk hc0;clear hr0 hc0;have HB:=am_ (Below.refl w.heap.size w);have H:((impl_RankOf.f k l0).bind fun t362=>((impl_PostOrder.f k l0).bind fun t365=>(impl_LeftLeaf.l0 k l0 (([]:List Int)) t362 t365 (t365.length:Int) 0)))=some r:=h;clear h
 (generalize hy_:((([]:List Int)):List Int)=y359 at H;have Ny359:=Aside0.mk hy_.symm;clear hy_)
 obtain⟨t362,A2,H⟩:=bnd_ H;obtain⟨t365,A3,H⟩:=bnd_ H;have H':=Aside0.mk H;clear H;go_enter Try.func86,Try.ntmps86
 go_wp2_with (first|((with_reducible refine gate_dst (N:=7) rfl ?_);refine Kd.R_lit (Kd.int .i64) _ 3 ?hg (N:=7) ?hd (xs:=([]:List Int)) (inner:=[]) (ok:=fun _=>True) (okp:=fun _=>True) ?hr ?hp (fun _ hk=>hk) trivial (Below.refl _ _) (Nat.le_refl _) (by simp) ?_;(case hd=>rfl);(case hg=>rfl);(case hr=>exact z14_);(case hp=>exact z230_);intro v360 w4 ho5 hb hg_ hnew_;clear hg_ hnew_;(rw[←Ny359.out] at ho5);have HO361:=am_ (Kd.R_lower ho5 (below_size z0_));replace HB:=am_ (below_step z0_ hb);clear hb ho5)|((with_reducible refine gate_callee (f:=94) rfl ?_);refine goesL_ (some 9) rfl rfl Try.func94 y0_ rfl #[.slice A0 l0.length c0] rfl z1_ ?_;(with_reducible refine(impl_RankOf.calls k _ _ l0 t362 _ ?side1 ?side2 A2.out).mono ?_);(case side1=>exact z6_);(case side2=>exact HC0.out);rintro e w6 ⟨v363,rfl,ho0,hb⟩;refine⟨_,rfl,?_⟩;have HO364:=am_ (Kd.R_lower (Kd.R_new' ho0 (Kd.R_lt z210_)) (below_size z0_));replace HO361:=am_ (Kd.R_elder' z210_ (Kd.R_base ho0) hb);replace HB:=am_ (below_step z0_ hb);(try clear hb ho0))|((with_reducible refine gate_callee (f:=85) rfl ?_);refine goesL_ (some 11) rfl rfl Try.func85 y0_ rfl #[.slice A0 l0.length c0] rfl z1_ ?_;(with_reducible refine(impl_PostOrder.calls k _ _ l0 t365 _ ?side1 ?side2 A3.out).mono ?_);(case side1=>exact z6_);(case side2=>exact HC0.out);rintro e w7 ⟨v366,rfl,ho0,hb⟩;refine⟨_,rfl,?_⟩;have HO367:=am_ (Kd.R_lower (Kd.R_new' (Kd.R_new' ho0 (Kd.R_lt z210_)) (Kd.R_lt z287_)) (below_size z0_));replace HO361:=am_ (Kd.R_elder' z210_ (Kd.R_base ho0) hb);replace HO364:=am_ (Kd.R_elder' z287_ (Kd.R_base ho0) hb);replace HB:=am_ (below_step z0_ hb);(try clear hb ho0);obtain⟨Ao8,co8,eo8⟩:=Kd.R_slice HO367.out;subst eo8))
 go_loopg [3,13] k (fun kq v3 v13 w'=>∃(x3_1:List Int) (x13_1:Int),v13= .int .i64 x13_1∧Aside0 (impl_LeftLeaf.l0 kq l0 x3_1 t362 t365 (t365.length:Int) x13_1=some r)∧Aside0 (kq≤k)∧Aside0 (Kd.R (Kd.int .i64) 3 w' w.heap.size (fun k_=>some k_≠(v363:Value).ownBlock∧some k_≠((.slice Ao8 t365.length co8):Value).ownBlock) v3 x3_1)∧Aside0 (Kd.R (Kd.int .i64) 3 w' w.heap.size (fun k_=>some k_≠(v3:Value).ownBlock∧some k_≠((.slice Ao8 t365.length co8):Value).ownBlock) v363 t362)∧Aside0 (Kd.R (Kd.int .i64) 3 w' w.heap.size (fun k_=>some k_≠(v3:Value).ownBlock∧some k_≠(v363:Value).ownBlock) (.slice Ao8 t365.length co8) t365)∧Aside0 (Below w.heap.size w w'))
 case atStart=>exact⟨(y359),(0),z9_,H',⟨Nat.le_refl _⟩,⟨by exact Kd.R_mono HO361.out (fun _ hk=>⟨hk.1.2,hk.2⟩)⟩,⟨by exact Kd.R_mono HO364.out (fun _ hk=>⟨hk.1.2,hk.2⟩)⟩,⟨by exact Kd.R_mono HO367.out (fun _ hk=>⟨hk.1.2,hk.2⟩)⟩,⟨z0_⟩⟩
 case round=>
  clear H';obtain⟨x3_1,x13_1,rfl,HA,HK1,HO_3,HO_4,HO_11,HB⟩:=hrel;cases gk with
  |zero=>exact absurd HA.out (by simp[impl_LeftLeaf.l0])
  | succ k1=>
   have H:=HA.out;clear HA;simp only[impl_LeftLeaf.l0] at H;by_cases c9:x13_1<(t365.length:Int)
   ·rw[if_pos c9] at H;have c9b0:=decide_eq_true c9;clear c9;obtain⟨c10b0,H⟩:=ifd_ H;obtain⟨c11b0,H⟩:=ifd_ H;obtain⟨c12b0,H⟩:=ifd_ H;obtain⟨c13b0,H⟩:=ifd_ H;obtain⟨t370,A14,H⟩:=bnd_ H;obtain⟨c15,H⟩:=ifs_ H;have LMc15:=Aside0.mk c15;clear c15
    (generalize hy_:((x3_1++[wrap64 ((rd t362 (rd t365 x13_1))-(wrap64 ((wrap64 (t370-(rd t365 x13_1)))-1)))]):List Int)=y371 at H;have Ny371:=Aside0.mk hy_.symm;clear hy_)
    have H':=Aside0.mk H;clear H;have p368:0≤(x13_1:Int):=odt_;have q368:x13_1<(t365.length:Int):=odt_;obtain⟨ad368,e368,hx368_0⟩:=Kd.at_int (Kd.R_reads' HO_11.out).2.2 x13_1 p368 q368;cases e368;replace p368:=eq_true p368;replace q368:=eq_true q368
    try go_wp2
    replace HO_3:=am_ (Kd.R_drew HO_3.out);replace HO_4:=am_ (Kd.R_drew HO_4.out);replace HO_11:=am_ (Kd.R_drew HO_11.out);replace HB:=am_ (below_drew1 HB.out);obtain⟨Ao17,co17,eo17⟩:=Kd.R_slice HO_4.out
    (subst eo17)
    have p369:0≤((rd t365 x13_1):Int):=odt_;have q369:(rd t365 x13_1)<(t362.length:Int):=odt_;obtain⟨ad369,e369,hx369_0⟩:=Kd.at_int (Kd.R_reads' HO_4.out).2.2 (rd t365 x13_1) p369 q369;cases e369;replace p369:=eq_true p369;replace q369:=eq_true q369;refine start_ (n:=15) (S:=fun w'=>w'.cell? (ad369.add ((rd t365 x13_1)).toNat)=some (.int .i64 (rd t362 (rd t365 x13_1)))) (ds:=[12,13]) (fl_ 15 0) y0_ rfl (fl_zero _) (hx369_0) (fun hHeld=>?_);refine with_tabW impl_LeftLeaf.tab5 impl_LeftLeaf.bits5 (fun HT_ HW_=>?_);generalize wr.drew=w16 at HO_3 HO_4 HO_11 HB hx369_0 hHeld⊢
    iterate 4 refine yp_ HT_ ?_
    refine ypg_ (i:=5) (ra_ [4,1,1,9]) HT_ ?_;refine ypg_ (i:=6) (ra_ [4,1,2,8]) HT_ ?_;refine ypg_ (i:=8) (ra_ [4,1,2,1,1,6]) HT_ ?_;refine ztg_ (i:=4) (ra_ [7,1,1,6]) HT_ HW_ rfl rfl y0_ (fun _ _ _ h=>h) (by rfl) hHeld ?_ (by intro w' s0;go_simp;with_reducible rfl);refine one_ (i:=7) (N:=some 24) (fl_ 15 9) rfl rfl (one_of HT_.out y0_) (by decide) (fun K hK=>?_);refine goes_ Try.func59 y0_ rfl #[.slice A0 l0.length c0,.int .i64 (rd t365 x13_1)] (by rfl) rfl rfl z1_ ?_
    with_reducible refine(impl_endOf.calls k1 _ _ l0 (rd t365 x13_1) t370 _ ?side1 ?side2 A14.out).mono ?_
    (case side1=>exact z6_)
    (case side2=>exact HC0.out)
    rintro e w' ⟨rfl,⟨nd,rfl⟩⟩;refine⟨_,rfl,?_⟩;refine hK.out _ _ (hHeld) (fun hHeld=>?_);clear hK K;refine zn_ rfl ?_
    iterate 3 refine yp_ HT_ ?_
    refine last_ (i:=12) (N:=some 29) (fl_ 15 13) rfl rfl (one_of HT_.out y0_) (by decide) (fun K hK=>?_);refine value_ (w1:=?_) (v:=?_) (by rfl) rfl ?_ ?_;rotate_left 2
    ·go_simp;constructor
     ·rfl
     ·rfl
    refine hK.out _ _ ?_;clear hK K;refine zn_ rfl ?_;refine last_ (i:=13) (N:=some 30) (fl_ 15 14) rfl rfl (one_of HT_.out y0_) (by decide) (fun K hK=>?_);refine Kd.R_append_step (Kd.int .i64) (w0:=w) w.heap.size (by rfl) (.tmp 17) (.tmp 29) 30 3 (.int .i64 0) 8 rfl Try.underlying30 info3 rfl (by decide) (by omega) u3 x3_1 (wrap64 ((rd t362 (rd t365 x13_1))-(wrap64 ((wrap64 (t370-(rd t365 x13_1)))-1)))) [.int .i64 (wrap64 ((rd t362 (rd t365 x13_1))-(wrap64 ((wrap64 (t370-(rd t365 x13_1)))-1))))] (fun k_=>some k_≠(.slice (some ad369) t362.length co17:Value).ownBlock∧some k_≠(.slice (some ad368) t365.length co8:Value).ownBlock) (fun _=>False) rfl rfl ?aP (fun _ hk=>hk.elim) ?aF ?aO ?aB ?aS ?aL ?_
    (case aP=>exact rfl)
    (case aB=>exact z48_)
    (case aF=>exact(fun k_ hk=>⟨Kd.fresh' (Kd.R_lt z29_) k_ hk,Kd.fresh' (Kd.R_lt z208_) k_ hk⟩))
    (case aO=>exact z106_)
    (case aS=>exact z46_)
    (case aL=>have:=LMc15.out;omega)
    intro v372 w18 ho hb hg hat;rw[←Ny371.out] at ho;replace HO_4:=am_ (Kd.R_after (ok:=(fun k_=>some k_≠(.slice (some ad368) t365.length co8:Value).ownBlock)) z116_ hg hat);replace HO_11:=am_ (Kd.R_after (ok:=(fun k_=>some k_≠(.slice (some ad369) t362.length co17:Value).ownBlock)) z271_ hg hat);replace HB:=am_ (hb);have HO373:=am_ (ho);clear HO_3 ho hb hg hat;refine hK.out _ _ ?_;clear hK K;refine zn_ rfl ?_;refine yp_ HT_ ?_;refine done_ (done_of HT_.out y0_) ?_
    try go_wp2
    go_roundg k1
    case measure=>have:=HK1.out;omega
    case rel=>exact⟨(y371),(wrap64 (x13_1+1)),z9_,H',⟨z176_⟩,⟨by exact HO373.out⟩,⟨z116_⟩,⟨z271_⟩,⟨z0_⟩⟩
   ·rw[if_neg c9] at H;have c9b0:=decide_eq_false c9;clear c9;obtain rfl:=Option.some.inj H;go_wp2;go_ret;exact⟨_,z8_,z170_,z0_⟩

end Go.Proofs.Ytbmkobanpakohaa.PFnMedian
