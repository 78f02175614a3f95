/- The walks of the law FnMedian. -/
import Derived.Test.YtbmkobanpakohaaMFnMedianx0
import Derived.Test.YtbmkobanpakohaaMFnMedianx2
import Derived.Test.YtbmkobanpakohaaMFnMedianx3
namespace Go.Proofs.Ytbmkobanpakohaa.PFnMedian
open Go.RowKit Go.Proofs.YtbmkobanpakohaaW.PrintWords Go.Proofs.YtbmkobanpakohaaW.PrintLast Go.Proofs.YtbmkobanpakohaaW.PrintMore
attribute [local go_sem] max2_int min2_int max_two min_two max_three min_three max_four min_four
set_option linter.unusedVariables false
set_option linter.unusedSimpArgs false

/-! ### spec_KidsOf: function 101 -/
mutual
def spec_KidsOf.l0:Nat→List (S61)→Int→List Int→Int→Option (List Int)
 |0,_,_,_,_=>none
 |k+1,x0,x1,x5,x6=>(spec_l3At.f k x0 x1).bind fun t129=>(if t129=true then ((spec_EndOf.f k x0 x1).bind fun t130=>(spec_KidsOf.j1 k x0 x1 x5 x6 (decide (x6<t130)))) else (spec_KidsOf.j1 k x0 x1 x5 x6 false))
def spec_KidsOf.j1:Nat→List (S61)→Int→List Int→Int→Bool→Option (List Int)
 |0,_,_,_,_,_=>none
 |k+1,x0,x1,x5,x6,x19=>if x19=true then (if 0≤x6 then (if x6<(x0.length:Int) then (if 0≤x1 then (if x1<(x0.length:Int) then (if ((rd_T61 x0 x6).f1)=(wrap64 (((rd_T61 x0 x1).f1)+1)) then (if x5.length<17592186044416 then (spec_KidsOf.l0 k x0 x1 (x5++[x6]) (wrap64 (x6+1))) else (none)) else (spec_KidsOf.l0 k x0 x1 x5 (wrap64 (x6+1)))) else (none)) else (none)) else (none)) else (none)) else (some x5)
end
def spec_KidsOf.f (k:Nat) (l0:List (S61)) (a1:Int):Option (List Int):=spec_KidsOf.l0 k l0 a1 (([]:List Int)) (wrap64 (a1+1))
set_option maxHeartbeats 8000000 in
set_option maxRecDepth 100000 in
theorem spec_KidsOf.calls (k:Nat) (A0:Option Addr) (c0:Nat) (l0:List (S61)) (a1:Int) (r:List Int) (w:World) (hr0:Kd.C k61 w A0 l0.length l0) (hc0:l0.length≤c0) (h:spec_KidsOf.f k l0 a1=some r):
  Calls Try.prog 101 #[.slice A0 l0.length c0,.int .i64 a1] w fun e w'=>∃v0_:Value,e= .returned (v0_)∧Kd.R (Kd.int .i64) 3 w' w.heap.size (fun _=>True) v0_ r∧Below w.heap.size w w':=by
 have HR0:=Aside0.mk hr0;have HC0:=Aside0.mk hc0;clear hr0 hc0;have HB:=am_ (Below.refl w.heap.size w);have H:(spec_KidsOf.l0 k l0 a1 (([]:List Int)) (wrap64 (a1+1)))=some r:=h;clear h
 (generalize hy_:((([]:List Int)):List Int)=y126 at H;have Ny126:=Aside0.mk hy_.symm;clear hy_)
 have H':=Aside0.mk H;clear H;go_enter Try.func101,Try.ntmps101
 go_wp2_with (((with_reducible refine gate_dst (N:=7) rfl ?_);refine Kd.R_lit (Kd.int .i64) _ 3 ?hg (N:=7) ?hd (xs:=([]:List Int)) (inner:=[]) (ok:=fun _=>True) (okp:=fun _=>True) ?hr ?hp (fun _ hk=>hk) trivial (Below.refl _ _) (Nat.le_refl _) (by simp) ?_;(case hd=>rfl);(case hg=>rfl);(case hr=>exact z14_);(case hp=>exact z230_);intro v127 w3 ho4 hb hg_ hnew_;clear hg_ hnew_;(rw[←Ny126.out] at ho4);have HO128:=am_ (Kd.R_lower ho4 (below_size z0_));replace HB:=am_ (below_step z0_ hb);clear hb ho4))
 go_loopg [5,6] k (fun kq v5 v6 w'=>∃(x5_1:List Int) (x6_1:Int),v6= .int .i64 x6_1∧Aside0 (spec_KidsOf.l0 kq l0 a1 x5_1 x6_1=some r)∧Aside0 (kq≤k)∧Aside0 (Kd.R (Kd.int .i64) 3 w' w.heap.size (fun _=>True) v5 x5_1)∧Aside0 (Below w.heap.size w w'))
 case atStart=>exact⟨(y126),(wrap64 (a1+1)),z9_,H',⟨Nat.le_refl _⟩,⟨by exact HO128.out⟩,⟨z0_⟩⟩
 case round=>
  clear H';obtain⟨x5_1,x6_1,rfl,HA,HK1,HO_5,HB⟩:=hrel;cases gk with
  |zero=>exact absurd HA.out (by simp[spec_KidsOf.l0])
  | succ k1=>
   have H:=HA.out;clear HA;simp only[spec_KidsOf.l0] at H;have HC5:=Aside0.mk H;clear H
   go_upto_region 3 with (fail)
   go_cut [19] (fun v19 wc=>∃(kq:Nat) (x19_4:Bool),v19= .bool x19_4∧Aside0 (spec_KidsOf.j1 kq l0 a1 x5_1 x6_1 x19_4=some r)∧Aside0 (kq≤k1)∧Aside0 (Kd.R (Kd.int .i64) 3 wc w.heap.size (fun _=>True) u5 x5_1)∧Aside0 (Below w.heap.size w wc))
   case first=>
    have H:=HC5.out;clear HC5;obtain⟨t129,A6,H⟩:=bnd_ H;by_cases c7:t129=true
    ·subst c7;replace H:=ift_ H;obtain⟨t130,A8,H⟩:=bnd_ H;have H':=Aside0.mk H;clear H
     go_wp2_with (first|(go_at_call 78;(with_reducible refine(spec_l3At.calls k1 _ _ l0 a1 true _ ?side1 ?side2 A6.out).mono ?_);(case side1=>exact z6_);(case side2=>exact HC0.out);rintro e w9 ⟨rfl,hb⟩;replace HO_5:=am_ (Kd.R_below z7_ hb);replace HB:=am_ (below_step z0_ hb);(try clear hb))|(go_at_call 60;(with_reducible refine(spec_EndOf.calls k1 _ _ l0 a1 t130 _ ?side1 ?side2 A8.out).mono ?_);(case side1=>exact z6_);(case side2=>exact HC0.out);rintro e w10 ⟨rfl,hb⟩;replace HO_5:=am_ (Kd.R_below z7_ hb);replace HB:=am_ (below_step z0_ hb);(try clear hb)))
     go_meet
     case rel=>exact⟨_,(decide (x6_1<t130)),z9_,H',⟨z283_⟩,⟨z7_⟩,⟨z0_⟩⟩
    ·replace c7:=Bool.eq_false_iff.mpr c7;subst c7;replace H:=iff_ H;have H':=Aside0.mk H;clear H
     go_wp2_with ((go_at_call 78;(with_reducible refine(spec_l3At.calls k1 _ _ l0 a1 false _ ?side1 ?side2 A6.out).mono ?_);(case side1=>exact z6_);(case side2=>exact HC0.out);rintro e w11 ⟨rfl,hb⟩;replace HO_5:=am_ (Kd.R_below z7_ hb);replace HB:=am_ (below_step z0_ hb);(try clear hb)))
     go_meet
     case rel=>exact⟨_,(false),z9_,H',⟨z283_⟩,⟨z7_⟩,⟨z0_⟩⟩
   case rest=>
    clear HC5;obtain⟨kq,x19_4,rfl,HA,HJ4,HO_5,HB⟩:=hcut;cases kq with
    |zero=>exact absurd HA.out (by simp[spec_KidsOf.j1])
    | succ kj4=>
     have H:=HA.out;clear HA;simp only[spec_KidsOf.j1] at H;by_cases c12:x19_4=true
     ·subst c12;replace H:=ift_ H;obtain⟨c13b0,H⟩:=ifd_ H;obtain⟨c14b0,H⟩:=ifd_ H;obtain⟨c15b0,H⟩:=ifd_ H;obtain⟨c16b0,H⟩:=ifd_ H;by_cases c17:((rd_T61 l0 x6_1).f1)=(wrap64 (((rd_T61 l0 a1).f1)+1))
      ·rw[if_pos c17] at H;have c17b0:(((rd_T61 l0 x6_1).f1)==(wrap64 (((rd_T61 l0 a1).f1)+1)))=true:=beq_iff_eq.mpr c17;have c17b1:(((rd_T61 l0 x6_1).f1) != (wrap64 (((rd_T61 l0 a1).f1)+1)))=false:=bne_eq_false_iff_eq.mpr c17;clear c17;obtain⟨c18,H⟩:=ifs_ H;have LMc18:=Aside0.mk c18;clear c18
       (generalize hy_:((x5_1++[x6_1]):List Int)=y133 at H;have Ny133:=Aside0.mk hy_.symm;clear hy_)
       have H':=Aside0.mk H;clear H;obtain⟨p131,q131,ad131,e131,hx131_0,hx131_1⟩:=atb61_ HR0 HB x6_1;cases e131;obtain⟨p132,q132,ad132,e132,hx132_0,hx132_1⟩:=atb61_ HR0 HB a1;obtain rfl:ad131=ad132:=(by injection e132)
       go_wp2
       repeat(go_quiet (fail);try go_wp2_with (((with_reducible refine gate_builtin (b:= .append) (xs:=#[.tmp 34,.tmp 36]) rfl ?_);at_builtin;refine Kd.R_append (Kd.int .i64) (w0:=w) w.heap.size rfl (.tmp 34) (.tmp 36) 30 3 (.int .i64 0) 8 rfl Try.underlying30 info3 rfl (by decide) (by omega) u5 x5_1 x6_1 [.int .i64 x6_1] (fun _=>True) (fun _=>False) rfl rfl ?aP (fun _ hk=>hk.elim) ?aF ?aO ?aB ?aS ?aL ?_;(case aP=>exact rfl);(case aB=>exact z48_);(case aF=>exact z269_);(case aO=>exact z88_);(case aS=>exact z46_);(case aL=>exact z304_);intro v134 w19 ho hb hg hat;rw[←Ny133.out] at ho;replace HB:=am_ (hb);have HO135:=am_ (ho);clear HO_5;clear ho hb hg hat)))
       go_roundg kj4
       case measure=>have:=HK1.out;have:=HJ4.out;omega
       case rel=>exact⟨(y133),(wrap64 (x6_1+1)),z9_,H',⟨by have:=HK1.out;have:=HJ4.out;omega⟩,⟨by exact HO135.out⟩,⟨z0_⟩⟩
      ·rw[if_neg c17] at H;have c17b0:(((rd_T61 l0 x6_1).f1)==(wrap64 (((rd_T61 l0 a1).f1)+1)))=false:=beq_eq_false_iff_ne.mpr c17;have c17b1:(((rd_T61 l0 x6_1).f1) != (wrap64 (((rd_T61 l0 a1).f1)+1)))=true:=bne_iff_ne.mpr c17;have H':=Aside0.mk H;clear H;obtain⟨p131,q131,ad131,e131,hx131_0,hx131_1⟩:=atb61_ HR0 HB x6_1;cases e131;obtain⟨p132,q132,ad132,e132,hx132_0,hx132_1⟩:=atb61_ HR0 HB a1;obtain rfl:ad131=ad132:=(by injection e132)
       go_wp2
       repeat(go_quiet (fail);try go_wp2)
       go_roundg kj4
       case measure=>have:=HK1.out;have:=HJ4.out;omega
       case rel=>exact⟨(x5_1),(wrap64 (x6_1+1)),z9_,H',⟨by have:=HK1.out;have:=HJ4.out;omega⟩,⟨z7_⟩,⟨z0_⟩⟩
     ·replace c12:=Bool.eq_false_iff.mpr c12;subst c12;replace H:=iff_ H;obtain rfl:=Option.some.inj H;go_wp2;go_ret;exact⟨_,z8_,z7_,z0_⟩

/-! ### spec_l6Post: function 97 -/
mutual
def spec_l6Post.l0:Nat→List (S61)→Int→List Int→List Int→Int→Option (List Int)
 |0,_,_,_,_,_=>none
 |k+1,x0,x1,x5,x6,x7=>if x7<(x6.length:Int) then (if 0≤x7 then ((spec_l6Post.f k x0 (rd x6 x7)).bind fun t143=>(if x5.length+t143.length<17592186044416 then (spec_l6Post.l0 k x0 x1 (x5++t143) x6 (wrap64 (x7+1))) else (none))) else (none)) else (if x5.length<17592186044416 then (some (x5++[x1])) else (none))
def spec_l6Post.f:Nat→List (S61)→Int→Option (List Int)
 |0,_,_=>none
 |k+1,l0,a1=>(spec_KidsOf.f k l0 a1).bind fun t139=>(spec_l6Post.l0 k l0 a1 (([]:List Int)) t139 0)
end
set_option maxHeartbeats 8000000 in
set_option maxRecDepth 100000 in
theorem spec_l6Post.calls (k:Nat):∀(A0:Option Addr) (c0:Nat) (l0:List (S61)) (a1:Int) (r:List Int) (w:World) (hr0:Kd.C k61 w A0 l0.length l0) (hc0:l0.length≤c0) (h:spec_l6Post.f k l0 a1=some r),
  Calls Try.prog 97 #[.slice A0 l0.length c0,.int .i64 a1] w fun e w'=>∃v0_:Value,e= .returned (v0_)∧Kd.R (Kd.int .i64) 3 w' w.heap.size (fun _=>True) v0_ r∧Below w.heap.size w w':=by
 induction k using Nat.strongRecOn with
 |_ k ih=>
 intro A0 c0 l0 a1 r w hr0 hc0 h;cases k with
 |zero=>exact absurd h (by simp[spec_l6Post.f])
 |succ k=>
 simp only[spec_l6Post.f] at h;have HR0:=Aside0.mk hr0;have HC0:=Aside0.mk hc0;clear hr0 hc0;have HB:=am_ (Below.refl w.heap.size w);have H:((spec_KidsOf.f k l0 a1).bind fun t139=>(spec_l6Post.l0 k l0 a1 (([]:List Int)) t139 0))=some r:=h;clear h
 (generalize hy_:((([]:List Int)):List Int)=y136 at H;have Ny136:=Aside0.mk hy_.symm;clear hy_)
 obtain⟨t139,A3,H⟩:=bnd_ H;have H':=Aside0.mk H;clear H;go_enter Try.func97,Try.ntmps97
 go_wp2_with (first|((with_reducible refine gate_dst (N:=8) rfl ?_);refine Kd.R_lit (Kd.int .i64) _ 3 ?hg (N:=8) ?hd (xs:=([]:List Int)) (inner:=[]) (ok:=fun _=>True) (okp:=fun _=>True) ?hr ?hp (fun _ hk=>hk) trivial (Below.refl _ _) (Nat.le_refl _) (by simp) ?_;(case hd=>rfl);(case hg=>rfl);(case hr=>exact z14_);(case hp=>exact z230_);intro v137 w4 ho5 hb hg_ hnew_;clear hg_ hnew_;(rw[←Ny136.out] at ho5);have HO138:=am_ (Kd.R_lower ho5 (below_size z0_));replace HB:=am_ (below_step z0_ hb);clear hb ho5)|((with_reducible refine gate_callee (f:=101) rfl ?_);refine goesL_ (some 11) rfl rfl Try.func101 y0_ rfl #[.slice A0 l0.length c0,.int .i64 a1] rfl z1_ ?_;(with_reducible refine(spec_KidsOf.calls k _ _ l0 a1 t139 _ ?side1 ?side2 A3.out).mono ?_);(case side1=>exact z6_);(case side2=>exact HC0.out);rintro e w6 ⟨v140,rfl,ho0,hb⟩;refine⟨_,rfl,?_⟩;have HO141:=am_ (Kd.R_lower (Kd.R_new' ho0 (Kd.R_lt z280_)) (below_size z0_));replace HO138:=am_ (Kd.R_elder' z280_ (Kd.R_base ho0) hb);replace HB:=am_ (below_step z0_ hb);(try clear hb ho0)))
 go_loopg [5,7] k (fun kq v5 v7 w'=>∃(x5_1:List Int) (x7_1:Int),v7= .int .i64 x7_1∧Aside0 (spec_l6Post.l0 kq l0 a1 x5_1 t139 x7_1=some r)∧Aside0 (kq≤k)∧Aside0 (Kd.R (Kd.int .i64) 3 w' w.heap.size (fun k_=>some k_≠(v140:Value).ownBlock) v5 x5_1)∧Aside0 (Kd.R (Kd.int .i64) 3 w' w.heap.size (fun k_=>some k_≠(v5:Value).ownBlock) v140 t139)∧Aside0 (Below w.heap.size w w'))
 case atStart=>exact⟨(y136),(0),z9_,H',⟨Nat.le_refl _⟩,⟨by exact Kd.R_mono HO138.out (fun _ hk=>hk.2)⟩,⟨by exact Kd.R_mono HO141.out (fun _ hk=>hk.2)⟩,⟨z0_⟩⟩
 case round=>
  clear H';obtain⟨x5_1,x7_1,rfl,HA,HK1,HO_5,HO_6,HB⟩:=hrel;cases gk with
  |zero=>exact absurd HA.out (by simp[spec_l6Post.l0])
  | succ k1=>
   have H:=HA.out;clear HA;simp only[spec_l6Post.l0] at H;by_cases c7:x7_1<(t139.length:Int)
   ·rw[if_pos c7] at H;have c7b0:=decide_eq_true c7;clear c7;obtain⟨c8b0,H⟩:=ifd_ H;obtain⟨t143,A9,H⟩:=bnd_ H;obtain⟨c10,H⟩:=ifs_ H;have LMc10:=Aside0.mk c10;clear c10
    (generalize hy_:((x5_1++t143):List Int)=y146 at H;have Ny146:=Aside0.mk hy_.symm;clear hy_)
    have H':=Aside0.mk H;clear H;obtain⟨Ao11,co11,eo11⟩:=Kd.R_slice HO_6.out;subst eo11;have p142:0≤(x7_1:Int):=odt_;have q142:x7_1<(t139.length:Int):=odt_;obtain⟨ad142,e142,hx142_0⟩:=Kd.at_int (Kd.R_reads' HO_6.out).2.2 x7_1 p142 q142;cases e142;replace p142:=eq_true p142;replace q142:=eq_true q142
    go_wp2_with (first|((with_reducible refine gate_callee (f:=97) rfl ?_);refine goesL_ (some 24) rfl rfl Try.func97 y0_ rfl #[.slice A0 l0.length c0,.int .i64 (rd t139 x7_1)] rfl z1_ ?_;(with_reducible refine(ih k1 z176_ _ _ l0 (rd t139 x7_1) t143 _ ?side1 ?side2 A9.out).mono ?_);(case side1=>exact z6_);(case side2=>exact HC0.out);rintro e w12 ⟨v144,rfl,ho0,hb⟩;refine⟨_,rfl,?_⟩;have HO145:=am_ (Kd.R_lower (Kd.R_new' (Kd.R_new' ho0 (Kd.R_lt z7_)) (Kd.R_lt z212_)) (below_size z0_));replace HO_5:=am_ (Kd.R_elder' z7_ (Kd.R_base ho0) hb);replace HO_6:=am_ (Kd.R_elder' z212_ (Kd.R_base ho0) hb);replace HB:=am_ (below_step z0_ hb);(try clear hb ho0);obtain⟨Ao14,co14,eo14⟩:=Kd.R_slice HO145.out;subst eo14)|((with_reducible refine gate_builtin (b:= .append) (xs:=#[.tmp 18,.tmp 24]) rfl ?_);at_builtin;refine Kd.R_append_rows (Kd.int .i64) (w0:=w) w.heap.size rfl (.tmp 18) (.tmp 24) 30 3 (.int .i64 0) 8 rfl Try.underlying30 info3 rfl (by decide) (by omega) u5 x5_1 t143 _ _ _ (fun k_=>some k_≠(.slice (some ad142) t139.length co11:Value).ownBlock∧some k_≠(.slice Ao14 t143.length co14:Value).ownBlock) (fun _=>False) rfl rfl ?aO ?aR (fun _ _ h=>h) (fun _ h=>h.elim) ?aF ?aB ?aS ?aL ?_;(case aR=>repeat(exact(Kd.R_reads' HO145.out).2.2));(case aB=>exact z48_);(case aF=>exact(fun k_ hk=>⟨Kd.fresh' (Kd.R_lt z212_) k_ hk,Kd.fresh' (Kd.R_lt (by exact HO145.out)) k_ hk⟩));(case aO=>exact z88_);(case aS=>exact z46_);(case aL=>have:=LMc10.out;omega);intro v147 w13 ho hb hg hat;rw[←Ny146.out] at ho;replace HO_6:=am_ (Kd.R_after (ok:=(fun k_=>some k_≠(.slice Ao14 t143.length co14:Value).ownBlock)) (by exact Kd.R_mono HO_6.out (fun _ hk=>⟨hk.2,hk.1⟩)) hg hat);replace HO145:=am_ (Kd.R_after (ok:=(fun k_=>some k_≠(.slice (some ad142) t139.length co11:Value).ownBlock)) (by exact Kd.R_mono HO145.out (fun _ hk=>⟨hk.2,hk.1.2⟩)) hg hat);replace HB:=am_ (hb);have HO148:=am_ (ho);clear HO_5;clear ho hb hg hat))
    go_roundg k1
    case measure=>have:=HK1.out;omega
    case rel=>exact⟨(y146),(wrap64 (x7_1+1)),z9_,H',⟨z176_⟩,⟨by exact Kd.R_mono HO148.out (fun _ hk=>hk.1)⟩,⟨by exact Kd.R_mono HO_6.out (fun _ hk=>hk.2)⟩,⟨z0_⟩⟩
   ·rw[if_neg c7] at H;have c7b0:=decide_eq_false c7;clear c7;obtain⟨c15,H⟩:=ifs_ H;have LMc15:=Aside0.mk c15;clear c15
    (generalize hy_:((x5_1++[a1]):List Int)=y149 at H;have Ny149:=Aside0.mk hy_.symm;clear hy_)
    obtain rfl:=Option.some.inj H;obtain⟨Ao16,co16,eo16⟩:=Kd.R_slice HO_6.out;subst eo16
    go_wp2_with (((with_reducible refine gate_builtin (b:= .append) (xs:=#[.tmp 26,.tmp 28]) rfl ?_);at_builtin;refine Kd.R_append (Kd.int .i64) (w0:=w) w.heap.size rfl (.tmp 26) (.tmp 28) 30 3 (.int .i64 0) 8 rfl Try.underlying30 info3 rfl (by decide) (by omega) u5 x5_1 a1 [.int .i64 a1] (fun k_=>some k_≠(.slice Ao16 t139.length co16:Value).ownBlock) (fun _=>False) rfl rfl ?aP (fun _ hk=>hk.elim) ?aF ?aO ?aB ?aS ?aL ?_;(case aP=>exact rfl);(case aB=>exact z48_);(case aF=>exact(fun k_ hk=>Kd.fresh' (Kd.R_lt z212_) k_ hk));(case aO=>exact z88_);(case aS=>exact z46_);(case aL=>have:=LMc15.out;omega);intro v150 w17 ho hb hg hat;rw[←Ny149.out] at ho;replace HO_6:=am_ (Kd.R_after (ok:=(fun _=>True)) (by exact Kd.R_mono HO_6.out (fun _ hk=>⟨trivial,hk⟩)) hg hat);replace HB:=am_ (hb);have HO151:=am_ (ho);clear HO_5;clear ho hb hg hat))
    go_ret;exact⟨_,z8_,by exact Kd.R_mono HO151.out (fun _ hk=>trivial),z0_⟩

/-! ### spec_PostOrder: function 90 -/
def spec_PostOrder.f (k:Nat) (l0:List (S61)):Option (List Int):=(spec_TreeOk.f k l0).bind fun t152=>(if t152=true then ((spec_l6Post.f k l0 0).bind fun t153=>(some t153)) else (some (([]:List Int))))
set_option maxHeartbeats 8000000 in
set_option maxRecDepth 100000 in
theorem spec_PostOrder.calls (k:Nat) (A0:Option Addr) (c0:Nat) (l0:List (S61)) (r:List Int) (w:World) (hr0:Kd.C k61 w A0 l0.length l0) (hc0:l0.length≤c0) (h:spec_PostOrder.f k l0=some r):
  Calls Try.prog 90 #[.slice A0 l0.length c0] w fun e w'=>∃v0_:Value,e= .returned (v0_)∧Kd.R (Kd.int .i64) 3 w' w.heap.size (fun _=>True) v0_ r∧Below w.heap.size w w':=by
 have HR0:=Aside0.mk hr0;have HC0:=Aside0.mk hc0;clear hr0 hc0;have HB:=am_ (Below.refl w.heap.size w);have H:((spec_TreeOk.f k l0).bind fun t152=>(if t152=true then ((spec_l6Post.f k l0 0).bind fun t153=>(some t153)) else (some (([]:List Int)))))=some r:=h;clear h;obtain⟨t152,A2,H⟩:=bnd_ H;by_cases c3:t152=true
 ·subst c3;replace H:=ift_ H;obtain⟨t153,A4,H⟩:=bnd_ H;obtain rfl:=Option.some.inj H;go_enter Try.func90,Try.ntmps90
  go_wp2_with (first|((with_reducible refine gate_callee (f:=28) rfl ?_);refine goesL_ (some 4) rfl rfl Try.func28 y0_ rfl #[.slice A0 l0.length c0] rfl z1_ ?_;(with_reducible refine(spec_TreeOk.calls k _ _ l0 true _ ?side1 ?side2 A2.out).mono ?_);(case side1=>exact z38_);(case side2=>exact HC0.out);rintro e w5 ⟨rfl,hb⟩;refine⟨_,rfl,?_⟩;replace HB:=am_ (below_step z0_ hb);(try clear hb))|((with_reducible refine gate_callee (f:=97) rfl ?_);refine goesL_ (some 8) rfl rfl Try.func97 y0_ rfl #[.slice A0 l0.length c0,.int .i64 0] rfl z1_ ?_;(with_reducible refine(spec_l6Post.calls k _ _ l0 0 t153 _ ?side1 ?side2 A4.out).mono ?_);(case side1=>exact z6_);(case side2=>exact HC0.out);rintro e w6 ⟨v154,rfl,ho0,hb⟩;refine⟨_,rfl,?_⟩;have HO155:=am_ (Kd.R_lower ho0 (below_size z0_));replace HB:=am_ (below_step z0_ hb);(try clear hb ho0)))
  go_ret;exact⟨_,z8_,by exact HO155.out,z0_⟩
 ·replace c3:=Bool.eq_false_iff.mpr c3;subst c3;replace H:=iff_ H
  (generalize hy_:((([]:List Int)):List Int)=y156 at H;have Ny156:=Aside0.mk hy_.symm;clear hy_)
  obtain rfl:=Option.some.inj H;go_enter Try.func90,Try.ntmps90
  go_wp2_with (first|((with_reducible refine gate_callee (f:=28) rfl ?_);refine goesL_ (some 4) rfl rfl Try.func28 y0_ rfl #[.slice A0 l0.length c0] rfl z1_ ?_;(with_reducible refine(spec_TreeOk.calls k _ _ l0 false _ ?side1 ?side2 A2.out).mono ?_);(case side1=>exact z38_);(case side2=>exact HC0.out);rintro e w7 ⟨rfl,hb⟩;refine⟨_,rfl,?_⟩;replace HB:=am_ (below_step z0_ hb);(try clear hb))|((with_reducible refine gate_dst (N:=6) rfl ?_);refine Kd.R_lit (Kd.int .i64) _ 3 ?hg (N:=6) ?hd (xs:=([]:List Int)) (inner:=[]) (ok:=fun _=>True) (okp:=fun _=>True) ?hr ?hp (fun _ hk=>hk) trivial (Below.refl _ _) (Nat.le_refl _) (by simp) ?_;(case hd=>rfl);(case hg=>rfl);(case hr=>exact z14_);(case hp=>exact z230_);intro v157 w8 ho9 hb hg_ hnew_;clear hg_ hnew_;(rw[←Ny156.out] at ho9);have HO158:=am_ (Kd.R_lower ho9 (below_size z0_));replace HB:=am_ (below_step z0_ hb);clear hb ho9))
  go_ret;exact⟨_,z8_,by exact HO158.out,z0_⟩

/-! ### spec_l8Labels: function 80 -/
def spec_l8Labels.l0:Nat→List (S61)→List Int→List Int→Int→Option (List Int)
 |0,_,_,_,_=>none
 |k+1,x0,x3,x4,x5=>if x5<(x4.length:Int) then (if 0≤x5 then (if 0≤(rd x4 x5) then (if (rd x4 x5)<(x0.length:Int) then (if x3.length<17592186044416 then (spec_l8Labels.l0 k x0 (x3++[(rd_T61 x0 (rd x4 x5)).f0]) x4 (wrap64 (x5+1))) else (none)) else (none)) else (none)) else (none)) else (some x3)
def spec_l8Labels.f (k:Nat) (l0:List (S61)):Option (List Int):=(spec_PostOrder.f k l0).bind fun t162=>(spec_l8Labels.l0 k l0 (([]:List Int)) t162 0)
set_option maxHeartbeats 8000000 in
set_option maxRecDepth 100000 in
theorem spec_l8Labels.calls (k:Nat) (A0:Option Addr) (c0:Nat) (l0:List (S61)) (r:List Int) (w:World) (hr0:Kd.C k61 w A0 l0.length l0) (hc0:l0.length≤c0) (h:spec_l8Labels.f k l0=some r):
  Calls Try.prog 80 #[.slice A0 l0.length c0] w fun e w'=>∃v0_:Value,e= .returned (v0_)∧Kd.R (Kd.int .i64) 3 w' w.heap.size (fun _=>True) v0_ r∧Below w.heap.size w w':=by
 have HR0:=Aside0.mk hr0;have HC0:=Aside0.mk hc0;clear hr0 hc0;have HB:=am_ (Below.refl w.heap.size w);have H:((spec_PostOrder.f k l0).bind fun t162=>(spec_l8Labels.l0 k l0 (([]:List Int)) t162 0))=some r:=h;clear h
 (generalize hy_:((([]:List Int)):List Int)=y159 at H;have Ny159:=Aside0.mk hy_.symm;clear hy_)
 obtain⟨t162,A2,H⟩:=bnd_ H;have H':=Aside0.mk H;clear H;go_enter Try.func80,Try.ntmps80
 go_wp2_with (first|((with_reducible refine gate_dst (N:=6) rfl ?_);refine Kd.R_lit (Kd.int .i64) _ 3 ?hg (N:=6) ?hd (xs:=([]:List Int)) (inner:=[]) (ok:=fun _=>True) (okp:=fun _=>True) ?hr ?hp (fun _ hk=>hk) trivial (Below.refl _ _) (Nat.le_refl _) (by simp) ?_;(case hd=>rfl);(case hg=>rfl);(case hr=>exact z14_);(case hp=>exact z230_);intro v160 w3 ho4 hb hg_ hnew_;clear hg_ hnew_;(rw[←Ny159.out] at ho4);have HO161:=am_ (Kd.R_lower ho4 (below_size z0_));replace HB:=am_ (below_step z0_ hb);clear hb ho4)|((with_reducible refine gate_callee (f:=90) rfl ?_);refine goesL_ (some 8) rfl rfl Try.func90 y0_ rfl #[.slice A0 l0.length c0] rfl z1_ ?_;(with_reducible refine(spec_PostOrder.calls k _ _ l0 t162 _ ?side1 ?side2 A2.out).mono ?_);(case side1=>exact z6_);(case side2=>exact HC0.out);rintro e w5 ⟨v163,rfl,ho0,hb⟩;refine⟨_,rfl,?_⟩;have HO164:=am_ (Kd.R_lower (Kd.R_new' ho0 (Kd.R_lt z281_)) (below_size z0_));replace HO161:=am_ (Kd.R_elder' z281_ (Kd.R_base ho0) hb);replace HB:=am_ (below_step z0_ hb);(try clear hb ho0)))
 go_loopg [3,5] k (fun kq v3 v5 w'=>∃(x3_1:List Int) (x5_1:Int),v5= .int .i64 x5_1∧Aside0 (spec_l8Labels.l0 kq l0 x3_1 t162 x5_1=some r)∧Aside0 (kq≤k)∧Aside0 (Kd.R (Kd.int .i64) 3 w' w.heap.size (fun k_=>some k_≠(v163:Value).ownBlock) v3 x3_1)∧Aside0 (Kd.R (Kd.int .i64) 3 w' w.heap.size (fun k_=>some k_≠(v3:Value).ownBlock) v163 t162)∧Aside0 (Below w.heap.size w w'))
 case atStart=>exact⟨(y159),(0),z9_,H',⟨Nat.le_refl _⟩,⟨by exact Kd.R_mono HO161.out (fun _ hk=>hk.2)⟩,⟨by exact Kd.R_mono HO164.out (fun _ hk=>hk.2)⟩,⟨z0_⟩⟩
 case round=>
  clear H';obtain⟨x3_1,x5_1,rfl,HA,HK1,HO_3,HO_4,HB⟩:=hrel;cases gk with
  |zero=>exact absurd HA.out (by simp[spec_l8Labels.l0])
  | succ k1=>
   have H:=HA.out;clear HA;simp only[spec_l8Labels.l0] at H;by_cases c6:x5_1<(t162.length:Int)
   ·rw[if_pos c6] at H;have c6b0:=decide_eq_true c6;clear c6;obtain⟨c7b0,H⟩:=ifd_ H;obtain⟨c8b0,H⟩:=ifd_ H;obtain⟨c9b0,H⟩:=ifd_ H;obtain⟨c10,H⟩:=ifs_ H;have LMc10:=Aside0.mk c10;clear c10
    (generalize hy_:((x3_1++[(rd_T61 l0 (rd t162 x5_1)).f0]):List Int)=y167 at H;have Ny167:=Aside0.mk hy_.symm;clear hy_)
    have H':=Aside0.mk H;clear H;obtain⟨Ao11,co11,eo11⟩:=Kd.R_slice HO_4.out;subst eo11;have p165:0≤(x5_1:Int):=odt_;have q165:x5_1<(t162.length:Int):=odt_;obtain⟨ad165,e165,hx165_0⟩:=Kd.at_int (Kd.R_reads' HO_4.out).2.2 x5_1 p165 q165;cases e165;replace p165:=eq_true p165;replace q165:=eq_true q165;obtain⟨p166,q166,ad166,e166,hx166_0,hx166_1⟩:=atb61_ HR0 HB (rd t162 x5_1);cases e166
    go_wp2_with (((with_reducible refine gate_builtin (b:= .append) (xs:=#[.tmp 15,.tmp 24]) rfl ?_);at_builtin;refine Kd.R_append (Kd.int .i64) (w0:=w) w.heap.size rfl (.tmp 15) (.tmp 24) 30 3 (.int .i64 0) 8 rfl Try.underlying30 info3 rfl (by decide) (by omega) u3 x3_1 ((rd_T61 l0 (rd t162 x5_1)).f0) [.int .i64 ((rd_T61 l0 (rd t162 x5_1)).f0)] (fun k_=>some k_≠(.slice (some ad165) t162.length co11:Value).ownBlock) (fun _=>False) rfl rfl ?aP (fun _ hk=>hk.elim) ?aF ?aO ?aB ?aS ?aL ?_;(case aP=>exact rfl);(case aB=>exact z48_);(case aF=>exact z123_);(case aO=>exact z106_);(case aS=>exact z46_);(case aL=>have:=LMc10.out;omega);intro v168 w12 ho hb hg hat;rw[←Ny167.out] at ho;replace HO_4:=am_ (Kd.R_after (ok:=(fun _=>True)) z166_ hg hat);replace HB:=am_ (hb);have HO169:=am_ (ho);clear HO_3;clear ho hb hg hat))
    go_roundg k1
    case measure=>have:=HK1.out;omega
    case rel=>exact⟨(y167),(wrap64 (x5_1+1)),z9_,H',⟨z176_⟩,⟨by exact HO169.out⟩,⟨z273_⟩,⟨z0_⟩⟩
   ·rw[if_neg c6] at H;have c6b0:=decide_eq_false c6;clear c6;obtain rfl:=Option.some.inj H;obtain⟨Ao13,co13,eo13⟩:=Kd.R_slice HO_4.out;subst eo13;go_wp2;go_ret;exact⟨_,z8_,z170_,z0_⟩

/-! ### spec_RankOf: function 91 -/
def spec_RankOf.l0:Nat→List Int→List Int→Int→Option (List Int)
 |0,_,_,_=>none
 |k+1,x3,x4,x5=>if x5<(x3.length:Int) then (if 0≤x5 then (if 0≤(rd x3 x5) then (if (rd x3 x5)<(x4.length:Int) then (spec_RankOf.l0 k x3 (x4.set ((rd x3 x5):Int).toNat x5) (wrap64 (x5+1))) else (none)) else (none)) else (none)) else (some x4)
def spec_RankOf.f (k:Nat) (l0:List (S61)):Option (List Int):=(spec_PostOrder.f k l0).bind fun t170=>(if 0≤(t170.length:Int) then (if ((t170.length:Int):Int).toNat≤35184372088832 then (spec_RankOf.l0 k t170 (List.replicate ((t170.length:Int):Int).toNat 0) 0) else (none)) else (none))
set_option maxHeartbeats 8000000 in
set_option maxRecDepth 100000 in
theorem spec_RankOf.calls (k:Nat) (A0:Option Addr) (c0:Nat) (l0:List (S61)) (r:List Int) (w:World) (hr0:Kd.C k61 w A0 l0.length l0) (hc0:l0.length≤c0) (h:spec_RankOf.f k l0=some r):
  Calls Try.prog 91 #[.slice A0 l0.length c0] w fun e w'=>∃v0_:Value,e= .returned (v0_)∧Kd.R (Kd.int .i64) 3 w' w.heap.size (fun _=>True) v0_ r∧Below w.heap.size w w':=by
 have HR0:=Aside0.mk hr0;have HC0:=Aside0.mk hc0;clear hr0 hc0;have HB:=am_ (Below.refl w.heap.size w);have H:((spec_PostOrder.f k l0).bind fun t170=>(if 0≤(t170.length:Int) then (if ((t170.length:Int):Int).toNat≤35184372088832 then (spec_RankOf.l0 k t170 (List.replicate ((t170.length:Int):Int).toNat 0) 0) else (none)) else (none)))=some r:=h;clear h;obtain⟨t170,A2,H⟩:=bnd_ H;obtain⟨c3b0,c3b1,H⟩:=ife_ H;obtain⟨c4b0,c4b1,H⟩:=ife_ H
 (generalize hy_:((List.replicate ((t170.length:Int):Int).toNat 0):List Int)=y173 at H;have Ny173:=Aside0.mk hy_.symm;clear hy_)
 have H':=Aside0.mk H;clear H;go_enter Try.func91,Try.ntmps91
 go_wp2_with (first|((with_reducible refine gate_callee (f:=90) rfl ?_);refine goesL_ (some 7) rfl rfl Try.func90 y0_ rfl #[.slice A0 l0.length c0] rfl z1_ ?_;(with_reducible refine(spec_PostOrder.calls k _ _ l0 t170 _ ?side1 ?side2 A2.out).mono ?_);(case side1=>exact z38_);(case side2=>exact HC0.out);rintro e w5 ⟨v171,rfl,ho0,hb⟩;refine⟨_,rfl,?_⟩;have HO172:=am_ (Kd.R_lower ho0 (below_size z0_));replace HB:=am_ (below_step z0_ hb);(try clear hb ho0);obtain⟨Ao6,co6,eo6⟩:=Kd.R_slice HO172.out;subst eo6)|((with_reducible refine gate_dst (N:=10) rfl ?_);refine Kd.R_make (Kd.int .i64) _ 3 rfl (N:=10) rfl 30 _ _ rfl (t170.length:Int) rfl rfl Try.underlying30 (.int .i64 0) 8 info3 rfl (by decide) (by omega) 0 (ok:=fun _=>True) (okp:=fun _=>True) rfl (fun _ hk=>hk) trivial (odt_) (Nat.le_trans (Nat.mul_le_mul_right _ (odt_:(t170.length:Int).toNat≤35184372088832)) (by omega)) (Below.refl _ _) (Nat.le_refl _) ?_;intro v174 w7 ho8 hb hg_ hnew_;clear hg_ hnew_;(rw[←Ny173.out] at ho8);have HO175:=am_ (Kd.R_lower (Kd.R_new' ho8 (Kd.R_lt z282_)) (below_size z0_));replace HO172:=am_ (Kd.R_elder' z282_ (Kd.R_base ho8) hb);replace HB:=am_ (below_step z0_ hb);clear hb ho8))
 go_loopg [5] k (fun kq v5 w'=>∃(x4_1:List Int) (x5_1:Int),v5= .int .i64 x5_1∧Aside0 (spec_RankOf.l0 kq t170 x4_1 x5_1=some r)∧Aside0 (kq≤k)∧Aside0 (Kd.R (Kd.int .i64) 3 w' w.heap.size (fun k_=>some k_≠(v174:Value).ownBlock) (.slice Ao6 t170.length co6) t170)∧Aside0 (Kd.R (Kd.int .i64) 3 w' w.heap.size (fun k_=>some k_≠((.slice Ao6 t170.length co6):Value).ownBlock) v174 x4_1)∧Aside0 (Below w.heap.size w w'))
 case atStart=>exact⟨(y173),(0),z9_,H',⟨Nat.le_refl _⟩,⟨by exact Kd.R_mono HO172.out (fun _ hk=>hk.2)⟩,⟨by exact Kd.R_mono HO175.out (fun _ hk=>hk.2)⟩,⟨z0_⟩⟩
 case round=>
  clear H';obtain⟨x4_1,x5_1,rfl,HA,HK1,HO_3,HO_4,HB⟩:=hrel;cases gk with
  |zero=>exact absurd HA.out (by simp[spec_RankOf.l0])
  | succ k1=>
   have H:=HA.out;clear HA;simp only[spec_RankOf.l0] at H;by_cases c9:x5_1<(t170.length:Int)
   ·rw[if_pos c9] at H;have c9b0:=decide_eq_true c9;clear c9;obtain⟨c10b0,H⟩:=ifd_ H;obtain⟨c11b0,H⟩:=ifd_ H;obtain⟨c12b0,H⟩:=ifd_ H
    (generalize hy_:((x4_1.set ((rd t170 x5_1):Int).toNat x5_1):List Int)=y177 at H;have Ny177:=Aside0.mk hy_.symm;clear hy_)
    have H':=Aside0.mk H;clear H;have p176:0≤(x5_1:Int):=odt_;have q176:x5_1<(t170.length:Int):=odt_;obtain⟨ad176,e176,hx176_0⟩:=Kd.at_int (Kd.R_reads' HO_3.out).2.2 x5_1 p176 q176;cases e176;replace p176:=eq_true p176;replace q176:=eq_true q176;have p13:0≤((rd t170 x5_1):Int):=odt_;have q13:((rd t170 x5_1):Int)<((x4_1.length:Int):Int):=odt_;obtain⟨go13,co13,eo13,gb13,gl13,cl13,HG13⟩:=Kd.R_form HO_4.out (by omega)
    (cases eo13)
    have GB13:=Aside0.mk gb13;have GG13:=Aside0.mk HG13;clear gb13 gl13 HG13;obtain⟨hx13_0,hf13_0⟩:=Kd.R_celln 0 HO_4.out ((rd t170 x5_1):Int) p13 q13;replace p13:=eq_true p13;replace q13:=eq_true q13;have HP14:=Kd.R_putg HO_4.out ((rd t170 x5_1):Int) x5_1
    go_wp2_with (((with_reducible refine gate_store (t:=3) (p:=23) rfl ?_);refine store_event (t:=3) (p:=23) (v:=?vo_w15) (w1:=(wr.setCell ⟨go13,((rd t170 x5_1):Int).toNat,none⟩ (.int .i64 x5_1))) ?hg ?ho ?hn ?hr ?_;(case ho=>rfl);(case hg=>rfl);(case hn=>rfl);(case hr=>exact z14_);intro w15 hw;have hg:wr.grownBy w15 (some go13):=(by rw[hw];exact HP14.2);have hp_:Kd.R (Kd.int .i64) 3 w15 w.heap.size (fun k_=>some k_≠(.slice (some ad176) t170.length co6:Value).ownBlock) (.slice (some ⟨go13,0,none⟩) x4_1.length co13) y177:=(by rw[hw,Ny177.out];exact HP14.1);clear HP14;replace HO_3:=am_ (Kd.R_after (v:=(.slice (some ⟨go13,0,none⟩) x4_1.length co13)) (v1:=(.slice (some ⟨go13,0,none⟩) x4_1.length co13)) (ok:=(fun _=>True)) (by exact Kd.R_mono HO_3.out (fun _ hk=>⟨trivial,hk⟩)) hg (.inl rfl));replace HO_4:=am_ (hp_);replace HB:=am_ ((by rw[hw];exact below_set (HB.out) GB13.out:Below w.heap.size w w15));clear hg hw hp_))
    go_roundg k1
    case measure=>have:=HK1.out;omega
    case rel=>exact⟨(y177),(wrap64 (x5_1+1)),z9_,H',⟨z176_⟩,⟨by exact Kd.R_mono HO_3.out (fun _ hk=>hk.2)⟩,⟨z29_⟩,⟨z0_⟩⟩
   ·rw[if_neg c9] at H;have c9b0:=decide_eq_false c9;clear c9;obtain rfl:=Option.some.inj H;go_wp2;go_ret;exact⟨_,z8_,z214_,z0_⟩

end Go.Proofs.Ytbmkobanpakohaa.PFnMedian
