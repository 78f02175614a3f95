/- The walks of the law FnMedian. -/
import Derived.Test.YtbmkobanpakohaaMFnMedianx0
import Derived.Test.YtbmkobanpakohaaMFnMedianx10
import Derived.Test.YtbmkobanpakohaaMFnMedianx14
import Derived.Test.YtbmkobanpakohaaMFnMedianx20
namespace Go.Proofs.Ytbmkobanpakohaa.PFnMedian
open Go.RowKit Go.Proofs.YtbmkobanpakohaaW.PrintWords Go.Proofs.YtbmkobanpakohaaW.PrintLast Go.Proofs.YtbmkobanpakohaaW.PrintMore
attribute [local go_sem] max2_int min2_int max_two min_two max_three min_three max_four min_four
set_option linter.unusedVariables false
set_option linter.unusedSimpArgs false

/-! ### laws_FnMedian: function 6 -/
mutual
def laws_FnMedian.j0:Nat→List (List (S61))→Int→Bool→List Int→List Int→List Int→Option (Bool)
 |0,_,_,_,_,_,_=>none
 |k+1,x3,x5,x30,x767000,x767001,x767002=>if x30=true then (some false) else (laws_FnMedian.l0 k x3 x5 0 x767000 x767001 x767002)
def laws_FnMedian.l0:Nat→List (List (S61))→Int→Int→List Int→List Int→List Int→Option (Bool)
 |0,_,_,_,_,_,_=>none
 |k+1,x3,x5,x6,x767000,x767001,x767002=>if x6<(x3.length:Int) then (laws_FnMedian.j2 k x3 x5 x6 (decide (x5≥0)) x767000 x767001 x767002) else (laws_FnMedian.j2 k x3 x5 x6 false x767000 x767001 x767002)
def laws_FnMedian.j2:Nat→List (List (S61))→Int→Int→Bool→List Int→List Int→List Int→Option (Bool)
 |0,_,_,_,_,_,_,_=>none
 |k+1,x3,x5,x6,x38,x767000,x767001,x767002=>if x38=true then (laws_FnMedian.l1 k x3 x5 x6 0 0 0 x767000 x767001 x767002) else (some true)
def laws_FnMedian.l1:Nat→List (List (S61))→Int→Int→Int→Int→Int→List Int→List Int→List Int→Option (Bool)
 |0,_,_,_,_,_,_,_,_,_=>none
 |k+1,x3,x5,x6,x7,x8,x9,x767000,x767001,x767002=>if x9<(x3.length:Int) then (if 0≤x5 then (if x5<(x3.length:Int) then (if 0≤x9 then ((impl_RootDist.f k (rd_L2 x3 x5) (rd_L2 x3 x9) x767000 x767001 x767002).bind fun t771=>(if 0≤x6 then (if x6<(x3.length:Int) then ((impl_RootDist.f k (rd_L2 x3 x6) (rd_L2 x3 x9) x767000 x767001 x767002).bind fun t774=>(laws_FnMedian.l1 k x3 x5 x6 (wrap64 (x7+t771)) (wrap64 (x8+t774)) (wrap64 (x9+1)) x767000 x767001 x767002)) else (none)) else (none))) else (none)) else (none)) else (none)) else (if x8<x7 then (some false) else (laws_FnMedian.l0 k x3 x5 (wrap64 (x6+1)) x767000 x767001 x767002))
end
def laws_FnMedian.f (k:Nat) (l0:List Int):Option (Bool):=(laws_big.f l0).bind fun t753=>(if t753=true then (some true) else ((spec_DrawMedian.f k l0).bind fun bt754=>((impl_Median.f k bt754.1 bt754.2.1 bt754.2.2.1 bt754.2.2.2).bind fun t767=>((spec_Median.f k bt754.1 bt754.2.1 bt754.2.2.1 bt754.2.2.2).bind fun t768=>(if t767=t768 then (laws_FnMedian.j0 k bt754.1 t767 (decide (t767≥(bt754.1.length:Int))) bt754.2.1 bt754.2.2.1 bt754.2.2.2) else (laws_FnMedian.j0 k bt754.1 t767 true bt754.2.1 bt754.2.2.1 bt754.2.2.2))))))
def laws_FnMedian.T15:Bool×List (List Nat×List Nat):=(true,[([],[]),([],[]),([],[]),([1,2],[1,2]),([3],[3]),([],[]),([],[]),([5,6],[5,6]),([7],[7]),([],[]),([4,8,9],[4,8,9]),([0,10],[0,10]),([11,10,0,1,2,3,4,5,6,7,8,9,10,11],[0,11])])
def laws_FnMedian.B15:List Nat:=[0,0,0,6,14,0,0,96,224,0,1022,2047,4095]
theorem laws_FnMedian.tab15:rtab .any (opsOf Try.f6 15)=laws_FnMedian.T15:=by kernel_rfl
theorem laws_FnMedian.bits15:waitsOk laws_FnMedian.T15.2 laws_FnMedian.B15=true:=by kernel_rfl
def laws_FnMedian.T16:Bool×List (List Nat×List Nat):=(true,[([],[]),([],[]),([],[]),([1,2],[1,2]),([3],[3]),([],[]),([],[]),([5,6],[5,6]),([7],[7]),([],[]),([4,8,9],[4,8,9]),([0,10],[0,10]),([11,10,0,1,2,3,4,5,6,7,8,9,10,11],[0,11])])
def laws_FnMedian.B16:List Nat:=[0,0,0,6,14,0,0,96,224,0,1022,2047,4095]
theorem laws_FnMedian.tab16:rtab .any (opsOf Try.f6 16)=laws_FnMedian.T16:=by kernel_rfl
theorem laws_FnMedian.bits16:waitsOk laws_FnMedian.T16.2 laws_FnMedian.B16=true:=by kernel_rfl
set_option maxHeartbeats 8000000 in
set_option maxRecDepth 100000 in
theorem laws_FnMedian.calls (k:Nat) (A0:Option Addr) (c0:Nat) (l0:List Int) (r:Bool) (w:World) (hr0:Kd.C (Kd.int .u8) w A0 l0.length l0) (hc0:l0.length≤c0) (h:laws_FnMedian.f k l0=some r):
  Calls Try.prog 6 #[.slice A0 l0.length c0] w fun e w'=>e= .returned (.bool r)∧Below w.heap.size w w':=by
 have hu38:=Try.underlying38;have HR0:=Aside0.mk hr0;have HC0:=Aside0.mk hc0;clear hr0 hc0;have HB:=am_ (Below.refl w.heap.size w);have H:((laws_big.f l0).bind fun t753=>(if t753=true then (some true) else ((spec_DrawMedian.f k l0).bind fun bt754=>((impl_Median.f k bt754.1 bt754.2.1 bt754.2.2.1 bt754.2.2.2).bind fun t767=>((spec_Median.f k bt754.1 bt754.2.1 bt754.2.2.1 bt754.2.2.2).bind fun t768=>(if t767=t768 then (laws_FnMedian.j0 k bt754.1 t767 (decide (t767≥(bt754.1.length:Int))) bt754.2.1 bt754.2.2.1 bt754.2.2.2) else (laws_FnMedian.j0 k bt754.1 t767 true bt754.2.1 bt754.2.2.1 bt754.2.2.2)))))))=some r:=h;clear h;obtain⟨t753,A2,H⟩:=bnd_ H;by_cases c3:t753=true
 ·subst c3;replace H:=ift_ H;obtain rfl:=Option.some.inj H;go_enter Try.func6,Try.ntmps6
  go_wp2_with (((with_reducible refine gate_callee (f:=24) rfl ?_);refine goesL_ (some 11) rfl rfl Try.func24 y0_ rfl #[.slice A0 l0.length c0] rfl z1_ ?_;(with_reducible refine(laws_big.calls _ _ l0 true _ ?side1 ?side2 A2.out).mono ?_);(case side1=>exact z38_);(case side2=>exact HC0.out);rintro e w' ⟨rfl,⟨nd,rfl⟩⟩;refine⟨_,rfl,?_⟩))
  go_ret;exact⟨z8_,z0_⟩
 ·replace c3 :=Bool.eq_false_iff.mpr c3;subst c3;replace H:=iff_ H;replace H:=Option.bind_eq_some_iff.mp H;obtain⟨⟨t754,t757,t760,t763⟩,A40,H⟩:=H
  try dsimp only at H
  have A4:=Aside0.mk A40;clear A40;obtain⟨t767,A5,H⟩:=bnd_ H;have HC6:=Aside0.mk H;clear H;go_enter Try.func6,Try.ntmps6
  go_upto_region 5 with (first|((with_reducible refine gate_callee (f:=24) rfl ?_);refine goesL_ (some 11) rfl rfl Try.func24 y0_ rfl #[.slice A0 l0.length c0] rfl z1_ ?_;(with_reducible refine(laws_big.calls _ _ l0 false _ ?side1 ?side2 A2.out).mono ?_);(case side1=>exact z38_);(case side2=>exact HC0.out);rintro e w' ⟨rfl,⟨nd,rfl⟩⟩;refine⟨_,rfl,?_⟩)|((with_reducible refine gate_callee (f:=25) rfl ?_);refine goesL_ (some 14) rfl rfl Try.func25 y0_ rfl #[.slice A0 l0.length c0] rfl z1_ ?_;(with_reducible refine(spec_DrawMedian.calls k _ _ l0 t754 t757 t760 t763 _ ?side1 ?side2 A4.out).mono ?_);(case side1=>exact z38_);(case side2=>exact HC0.out);rintro e w7 ⟨v755,v758,v761,v764,rfl,ho0,ho1,ho2,ho3,hb⟩;refine⟨_,rfl,?_⟩;have HO756:=am_ (Kd.S_lower ho0 (below_size z0_));have HO759:=am_ (Kd.R_lower ho1 (below_size z0_));have HO762:=am_ (Kd.Q_lower ho2 (below_size z0_));have HO765:=am_ (Kd.R_lower ho3 (below_size z0_));replace HB:=am_ (below_step z0_ hb);(try clear hb ho0 ho1 ho2 ho3))|((with_reducible refine gate_dst (N:=4) rfl ?_);(try(refine gate_guard (by rfl) ?_;dsimp only));refine box_event ?hg (N:=4) ?hd (cs:=#[.slice none 0 0,.slice none 0 0,.slice none 0 0]) (t:=38) ?hr ?_;(case hd=>rfl);(case hg=>rfl);(case hr=>exact z14_);intro gb766 hg w8 hbox hb;replace HO756:=am_ (Kd.S_below z181_ hb);replace HO759:=am_ (Kd.R_below z182_ hb);replace HO762:=am_ (Kd.Q_below z183_ hb);replace HO765:=am_ (Kd.R_below z184_ hb);have BK766:=am_ (hbox);have GW766:=am_ ((by rw[hg];exact(below_size z0_):w.heap.size≤gb766));have GE766:=am_ ((by rw[hg];exact(below_size z0_):w.heap.size≤gb766));replace HB:=am_ (below_step z0_ hb);clear hb hbox hg;obtain⟨Ao9,co9,eo9⟩:=Kd.R_slice HO759.out;subst eo9;obtain⟨hcz10_0,hcz10_1,hcz10_2,hfz10_0,hfz10_1,hfz10_2⟩:=bx3_ BK766.out;obtain⟨Ao11,co11,eo11,_⟩:=Kd.Q_slice HO762.out;subst eo11;obtain⟨Ao12,co12,eo12⟩:=Kd.R_slice HO765.out;subst eo12;obtain⟨Ao13,co13,eo13⟩:=Kd.S_slice HO756.out;subst eo13)|((with_reducible refine gate_callee (f:=23) rfl ?_);refine goesL_ (some 19) rfl rfl Try.func23 y0_ rfl #[.slice Ao13 t754.length co13,.agg #[.slice Ao9 t757.length co9,.slice Ao11 t760.length co11,.slice Ao12 t763.length co12]] rfl z1_ ?_;(with_reducible refine(impl_Median.calls k _ _ t754 _ _ t757 _ _ t760 _ _ t763 t767 _ ?side1 ?side2 ?side3 ?side4 ?side5 ?side6 ?side7 ?side8 A5.out).mono ?_);(case side1=>refine qsl_C (Kd.S_reads' (e:=25) (base:=w.heap.size) (ok:=fun k_=>True) (n:=t754.length) (c:=co13) ?_).2.2;exact z112_);(case side2=>exact(Kd.S_reads' HO756.out).2.1);(case side3=>refine(Kd.R_reads' (e:=3) (base:=w.heap.size) (ok:=fun k_=>(some k_≠(.slice Ao11 t760.length co11:Value).ownBlock∧some k_≠(.slice Ao12 t763.length co12:Value).ownBlock)) (n:=t757.length) (c:=co9) ?_).2.2;exact z113_);(case side4=>exact(Kd.R_reads' HO759.out).2.1);(case side5=>refine(Kd.Q_reads' (e:=3) (base:=w.heap.size) (ok:=fun k_=>(some k_≠(.slice Ao9 t757.length co9:Value).ownBlock∧some k_≠(.slice Ao12 t763.length co12:Value).ownBlock)) (n:=t760.length) (c:=co11) ?_).2.2;exact z114_);(case side6=>exact(Kd.Q_reads' HO762.out).2.1);(case side7=>refine(Kd.R_reads' (e:=3) (base:=w.heap.size) (ok:=fun k_=>(some k_≠(.slice Ao9 t757.length co9:Value).ownBlock∧some k_≠(.slice Ao11 t760.length co11:Value).ownBlock)) (n:=t763.length) (c:=co12) ?_).2.2;exact z115_);(case side8=>exact(Kd.R_reads' HO765.out).2.1);rintro e w14 ⟨rfl,hb⟩;refine⟨_,rfl,?_⟩;replace HO756:=am_ (Kd.S_below z112_ hb);replace HO759:=am_ (Kd.R_below z113_ hb);replace HO762:=am_ (Kd.Q_below z114_ hb);replace HO765:=am_ (Kd.R_below z115_ hb);replace BK766:=am_ (blk_below (g:=gb766) (o:= .cells #[.slice Ao9 t757.length co9,.slice Ao11 t760.length co11,.slice Ao12 t763.length co12] 38 (0,0)) (by refine blk_put (cs:=#[.slice Ao9 t757.length co9,.slice Ao11 t760.length co11,.slice none 0 0]) ?_ 2 _ rfl;refine blk_put (cs:=#[.slice Ao9 t757.length co9,.slice none 0 0,.slice none 0 0]) ?_ 1 _ rfl;refine blk_put (cs:=#[.slice none 0 0,.slice none 0 0,.slice none 0 0]) ?_ 0 _ rfl;exact BK766.out) hb);replace HB:=am_ (below_step z37_ hb);(try clear hb)))
  go_cut [30] (fun v30 wc=>∃(kq:Nat) (x30_5:Bool),v30= .bool x30_5∧Aside0 (laws_FnMedian.j0 kq t754 t767 x30_5 t757 t760 t763=some r)∧Aside0 (kq≤k)∧Aside0 (Kd.S (qsl 61 k61) 25 wc w.heap.size (fun _=>True) (.slice Ao13 t754.length co13) t754)∧Aside0 (Kd.R (Kd.int .i64) 3 wc w.heap.size (fun k_=>some k_≠((.slice Ao11 t760.length co11):Value).ownBlock∧some k_≠((.slice Ao12 t763.length co12):Value).ownBlock) (.slice Ao9 t757.length co9) t757)∧Aside0 (Kd.Q (Kd.int .i64) 3 wc w.heap.size (fun k_=>some k_≠((.slice Ao9 t757.length co9):Value).ownBlock∧some k_≠((.slice Ao12 t763.length co12):Value).ownBlock) (.slice Ao11 t760.length co11) t760)∧Aside0 (Kd.R (Kd.int .i64) 3 wc w.heap.size (fun k_=>some k_≠((.slice Ao9 t757.length co9):Value).ownBlock∧some k_≠((.slice Ao11 t760.length co11):Value).ownBlock) (.slice Ao12 t763.length co12) t763)∧Aside0 (wc.heap[gb766]? =some (.cells #[(.slice Ao9 t757.length co9),(.slice Ao11 t760.length co11),(.slice Ao12 t763.length co12)] 38 (0,0)))∧Aside0 (Below w.heap.size w wc))
  case first=>
   have H:=HC6.out;clear HC6;obtain⟨t768,A15,H⟩:=bnd_ H;by_cases c16:t767=t768
   ·rw[if_pos c16] at H;have c16b0:(t767==t768)=true:=beq_iff_eq.mpr c16;have c16b1:(t767 != t768)=false:=bne_eq_false_iff_eq.mpr c16;clear c16;have H':=Aside0.mk H;clear H;obtain⟨hcz17_0,hcz17_1,hcz17_2,hfz17_0,hfz17_1,hfz17_2⟩:=bx3_ BK766.out
    go_wp2_with (((with_reducible refine gate_callee (f:=22) rfl ?_);refine goesL_ (some 23) rfl rfl Try.func22 y0_ rfl #[.slice Ao13 t754.length co13,.agg #[.slice Ao9 t757.length co9,.slice Ao11 t760.length co11,.slice Ao12 t763.length co12]] rfl z1_ ?_;(with_reducible refine(spec_Median.calls k _ _ t754 _ _ t757 _ _ t760 _ _ t763 t768 _ ?side1 ?side2 ?side3 ?side4 ?side5 ?side6 ?side7 ?side8 A15.out).mono ?_);(case side1=>exact z239_);(case side2=>exact(Kd.S_reads' HO756.out).2.1);(case side3=>exact z240_);(case side4=>exact(Kd.R_reads' HO759.out).2.1);(case side5=>exact z241_);(case side6=>exact(Kd.Q_reads' HO762.out).2.1);(case side7=>exact z242_);(case side8=>exact(Kd.R_reads' HO765.out).2.1);rintro e w18 ⟨rfl,hb⟩;refine⟨_,rfl,?_⟩;replace HO756:=am_ (Kd.S_below z181_ hb);replace HO759:=am_ (Kd.R_below z182_ hb);replace HO762:=am_ (Kd.Q_below z183_ hb);replace HO765:=am_ (Kd.R_below z184_ hb);replace BK766:=am_ (blk_below z76_ hb);replace HB:=am_ (below_step z37_ hb);(try clear hb)))
    go_meet
    case rel=>exact⟨_,(decide (t767≥(t754.length:Int))),z9_,H',⟨z167_⟩,⟨z181_⟩,⟨z182_⟩,⟨z183_⟩,⟨z184_⟩,⟨z76_⟩,⟨z37_⟩⟩
   ·rw[if_neg c16] at H;have c16b0:(t767==t768)=false:=beq_eq_false_iff_ne.mpr c16;have c16b1:(t767 != t768)=true:=bne_iff_ne.mpr c16;have H':=Aside0.mk H;clear H;obtain⟨hcz19_0,hcz19_1,hcz19_2,hfz19_0,hfz19_1,hfz19_2⟩:=bx3_ BK766.out
    go_wp2_with (((with_reducible refine gate_callee (f:=22) rfl ?_);refine goesL_ (some 23) rfl rfl Try.func22 y0_ rfl #[.slice Ao13 t754.length co13,.agg #[.slice Ao9 t757.length co9,.slice Ao11 t760.length co11,.slice Ao12 t763.length co12]] rfl z1_ ?_;(with_reducible refine(spec_Median.calls k _ _ t754 _ _ t757 _ _ t760 _ _ t763 t768 _ ?side1 ?side2 ?side3 ?side4 ?side5 ?side6 ?side7 ?side8 A15.out).mono ?_);(case side1=>exact z239_);(case side2=>exact(Kd.S_reads' HO756.out).2.1);(case side3=>exact z240_);(case side4=>exact(Kd.R_reads' HO759.out).2.1);(case side5=>exact z241_);(case side6=>exact(Kd.Q_reads' HO762.out).2.1);(case side7=>exact z242_);(case side8=>exact(Kd.R_reads' HO765.out).2.1);rintro e w20 ⟨rfl,hb⟩;refine⟨_,rfl,?_⟩;replace HO756:=am_ (Kd.S_below z181_ hb);replace HO759:=am_ (Kd.R_below z182_ hb);replace HO762:=am_ (Kd.Q_below z183_ hb);replace HO765:=am_ (Kd.R_below z184_ hb);replace BK766:=am_ (blk_below z76_ hb);replace HB:=am_ (below_step z37_ hb);(try clear hb)))
    go_meet
    case rel=>exact⟨_,(true),z9_,H',⟨z167_⟩,⟨z181_⟩,⟨z182_⟩,⟨z183_⟩,⟨z184_⟩,⟨z76_⟩,⟨z37_⟩⟩
  case rest =>
   clear HC6;obtain⟨kq,x30_5,rfl,HA,HJ5,HO_3,HO_767000,HO_767001,HO_767002,BK766,HB⟩:=hcut;cases kq with
   |zero=>exact absurd HA.out (by simp[laws_FnMedian.j0])
   | succ kj5 =>
    have H:=HA.out;clear HA;simp only[laws_FnMedian.j0] at H;by_cases c21:x30_5=true
    ·subst c21;replace H:=ift_ H;obtain rfl:=Option.some.inj H;go_wp2;go_ret;exact⟨z8_,z37_⟩
    ·replace c21:=Bool.eq_false_iff.mpr c21;subst c21;replace H:=iff_ H;have H':=Aside0.mk H;clear H;go_wp2
     go_loopg [6] kj5 (fun kq v6 w'=>∃(x6_2:Int),v6= .int .i64 x6_2∧Aside0 (laws_FnMedian.l0 kq t754 t767 x6_2 t757 t760 t763=some r)∧Aside0 (kq≤kj5)∧Aside0 (Kd.S (qsl 61 k61) 25 w' w.heap.size (fun _=>True) (.slice Ao13 t754.length co13) t754)∧Aside0 (Kd.R (Kd.int .i64) 3 w' w.heap.size (fun k_=>some k_≠((.slice Ao11 t760.length co11):Value).ownBlock∧some k_≠((.slice Ao12 t763.length co12):Value).ownBlock) (.slice Ao9 t757.length co9) t757)∧Aside0 (Kd.Q (Kd.int .i64) 3 w' w.heap.size (fun k_=>some k_≠((.slice Ao9 t757.length co9):Value).ownBlock∧some k_≠((.slice Ao12 t763.length co12):Value).ownBlock) (.slice Ao11 t760.length co11) t760)∧Aside0 (Kd.R (Kd.int .i64) 3 w' w.heap.size (fun k_=>some k_≠((.slice Ao9 t757.length co9):Value).ownBlock∧some k_≠((.slice Ao11 t760.length co11):Value).ownBlock) (.slice Ao12 t763.length co12) t763)∧Aside0 (w'.heap[gb766]? =some (.cells #[(.slice Ao9 t757.length co9),(.slice Ao11 t760.length co11),(.slice Ao12 t763.length co12)] 38 (0,0)))∧Aside0 (Below w.heap.size w w'))
     case atStart=>exact⟨(0),z9_,H',⟨Nat.le_refl _⟩,⟨z84_⟩,⟨z109_⟩,⟨z110_⟩,⟨z111_⟩,⟨z76_⟩,⟨z37_⟩⟩
     case round=>
      clear H';obtain⟨x6_2,rfl,HA,HK2,HO_3,HO_767000,HO_767001,HO_767002,BK766,HB⟩:=hrel;cases gk with
      |zero=>exact absurd HA.out (by simp[laws_FnMedian.l0])
      | succ k2=>
       have H:=HA.out;clear HA;simp only[laws_FnMedian.l0] at H;have HC22:=Aside0.mk H;clear H
       go_upto_region 8 with (fail)
       go_cut [38] (fun v38 wc=>∃(kq:Nat) (x38_21:Bool),v38= .bool x38_21∧Aside0 (laws_FnMedian.j2 kq t754 t767 x6_2 x38_21 t757 t760 t763=some r)∧Aside0 (kq≤k2)∧Aside0 (Kd.S (qsl 61 k61) 25 wc w.heap.size (fun _=>True) (.slice Ao13 t754.length co13) t754)∧Aside0 (Kd.R (Kd.int .i64) 3 wc w.heap.size (fun k_=>some k_≠((.slice Ao11 t760.length co11):Value).ownBlock∧some k_≠((.slice Ao12 t763.length co12):Value).ownBlock) (.slice Ao9 t757.length co9) t757)∧Aside0 (Kd.Q (Kd.int .i64) 3 wc w.heap.size (fun k_=>some k_≠((.slice Ao9 t757.length co9):Value).ownBlock∧some k_≠((.slice Ao12 t763.length co12):Value).ownBlock) (.slice Ao11 t760.length co11) t760)∧Aside0 (Kd.R (Kd.int .i64) 3 wc w.heap.size (fun k_=>some k_≠((.slice Ao9 t757.length co9):Value).ownBlock∧some k_≠((.slice Ao11 t760.length co11):Value).ownBlock) (.slice Ao12 t763.length co12) t763)∧Aside0 (wc.heap[gb766]? =some (.cells #[(.slice Ao9 t757.length co9),(.slice Ao11 t760.length co11),(.slice Ao12 t763.length co12)] 38 (0,0)))∧Aside0 (Below w.heap.size w wc))
       case first=>
        have H:=HC22.out;clear HC22;by_cases c23:x6_2<(t754.length:Int)
        ·rw[if_pos c23] at H;have c23b0:=decide_eq_true c23;clear c23;have H':=Aside0.mk H;clear H;go_wp2;go_meet
         case rel=>exact⟨_,(decide (t767≥0)),z9_,H',⟨by have:=HJ5.out;have:=HK2.out;omega⟩,⟨z84_⟩,⟨z109_⟩,⟨z110_⟩,⟨z111_⟩,⟨z76_⟩,⟨z37_⟩⟩
        ·rw[if_neg c23] at H;have c23b0:=decide_eq_false c23;clear c23;have H':=Aside0.mk H;clear H;go_wp2;go_meet
         case rel=>exact⟨_,(false),z9_,H',⟨by have:=HJ5.out;have:=HK2.out;omega⟩,⟨z84_⟩,⟨z109_⟩,⟨z110_⟩,⟨z111_⟩,⟨z76_⟩,⟨z37_⟩⟩
       case rest=>
        clear HC22;obtain⟨kq,x38_21,rfl,HA,HJ21,HO_3,HO_767000,HO_767001,HO_767002,BK766,HB⟩:=hcut;cases kq with
        |zero=>exact absurd HA.out (by simp[laws_FnMedian.j2])
        | succ kj21=>
         have H:=HA.out;clear HA;simp only[laws_FnMedian.j2] at H;by_cases c24:x38_21=true
         ·subst c24;replace H:=ift_ H;have H':=Aside0.mk H;clear H;go_wp2
          go_loopg [7,8,9] kj21 (fun kq v7 v8 v9 w'=>∃(x7_4:Int) (x8_4:Int) (x9_4:Int),v7= .int .i64 x7_4∧v8= .int .i64 x8_4∧v9= .int .i64 x9_4∧Aside0 (laws_FnMedian.l1 kq t754 t767 x6_2 x7_4 x8_4 x9_4 t757 t760 t763=some r)∧Aside0 (kq≤kj21)∧Aside0 (Kd.S (qsl 61 k61) 25 w' w.heap.size (fun _=>True) (.slice Ao13 t754.length co13) t754)∧Aside0 (Kd.R (Kd.int .i64) 3 w' w.heap.size (fun k_=>some k_≠((.slice Ao11 t760.length co11):Value).ownBlock∧some k_≠((.slice Ao12 t763.length co12):Value).ownBlock) (.slice Ao9 t757.length co9) t757)∧Aside0 (Kd.Q (Kd.int .i64) 3 w' w.heap.size (fun k_=>some k_≠((.slice Ao9 t757.length co9):Value).ownBlock∧some k_≠((.slice Ao12 t763.length co12):Value).ownBlock) (.slice Ao11 t760.length co11) t760)∧Aside0 (Kd.R (Kd.int .i64) 3 w' w.heap.size (fun k_=>some k_≠((.slice Ao9 t757.length co9):Value).ownBlock∧some k_≠((.slice Ao11 t760.length co11):Value).ownBlock) (.slice Ao12 t763.length co12) t763)∧Aside0 (w'.heap[gb766]? =some (.cells #[(.slice Ao9 t757.length co9),(.slice Ao11 t760.length co11),(.slice Ao12 t763.length co12)] 38 (0,0)))∧Aside0 (Below w.heap.size w w'))
          case atStart=>exact⟨(0),(0),(0),z9_,z9_,z9_,H',⟨Nat.le_refl _⟩,⟨z84_⟩,⟨z109_⟩,⟨z110_⟩,⟨z111_⟩,⟨z76_⟩,⟨z37_⟩⟩
          case round=>
           clear H';obtain⟨x7_4,x8_4,x9_4,rfl,rfl,rfl,HA,HK4,HO_3,HO_767000,HO_767001,HO_767002,BK766,HB⟩:=hrel;cases gk with
           |zero=>exact absurd HA.out (by simp[laws_FnMedian.l1])
           | succ k4=>
            have H:=HA.out;clear HA;simp only[laws_FnMedian.l1] at H;by_cases c25:x9_4<(t754.length:Int)
            ·rw[if_pos c25] at H;have c25b0:=decide_eq_true c25;clear c25;obtain⟨c26b0,H⟩:=ifd_ H;obtain⟨c27b0,H⟩:=ifd_ H;obtain⟨c28b0,H⟩:=ifd_ H;obtain⟨t771,A29,H⟩:=bnd_ H;obtain⟨c30b0,H⟩:=ifd_ H;obtain⟨c31b0,H⟩:=ifd_ H;obtain⟨t774,A32,H⟩:=bnd_ H;have H':=Aside0.mk H;clear H
             try go_wp2
             replace HO_3:=am_ (Kd.S_drew HO_3.out);replace HO_767000:=am_ (Kd.R_drew HO_767000.out);replace HO_767001:=am_ (Kd.Q_drew HO_767001.out);replace HO_767002:=am_ (Kd.R_drew HO_767002.out);replace BK766:=am_ (blk_drew BK766.out);replace HB:=am_ (below_drew1 HB.out);have p769:0≤(t767:Int):=odt_;have q769:t767<(t754.length:Int):=odt_;obtain⟨ad769,A769_0,c769_0,e769,hx769_0,hl769_0,hi769_0⟩:=at_L2 (Kd.S_reads' HO_3.out).2.2 t767 p769 q769;cases e769;obtain⟨ce769,hce769,hMe769,hcc769⟩:=Kd.S_get HO_3.out [] t767 p769 (by exact q769);obtain⟨ve769_0,rfl,ge769_0⟩:=hMe769;have hv769_0:=hcc769 0 _ rfl;rw[Nat.add_zero,show ((qsl 61 k61)).sz=1 from rfl,Nat.mul_one] at hv769_0;replace hv769_0:=Option.some.inj (hv769_0.symm.trans hx769_0);rw[hv769_0] at ge769_0;have HL769_0:=am_ (show Kd.Q k61 61 _ _ _ _ (rd_L2 t754 t767) from ge769_0);clear hv769_0 ge769_0 hcc769 hce769;have HR769_0:=Aside0.mk hi769_0;have HC769_0:=Aside0.mk hl769_0;clear hi769_0 hl769_0;replace p769:=eq_true p769;replace q769:=eq_true q769;have p770:0≤(x9_4:Int):=odt_;have q770:x9_4<(t754.length:Int):=odt_;obtain⟨ad770,A770_0,c770_0,e770,hx770_0,hl770_0,hi770_0⟩:=at_L2 (Kd.S_reads' HO_3.out).2.2 x9_4 p770 q770;obtain rfl:ad769=ad770:=(by injection e770)
             obtain⟨ce770,hce770,hMe770,hcc770⟩:=Kd.S_get HO_3.out [] x9_4 p770 (by exact q770);obtain⟨ve770_0,rfl,ge770_0⟩:=hMe770;have hv770_0:=hcc770 0 _ rfl;rw[Nat.add_zero,show ((qsl 61 k61)).sz=1 from rfl,Nat.mul_one] at hv770_0;replace hv770_0:=Option.some.inj (hv770_0.symm.trans hx770_0);rw[hv770_0] at ge770_0;have HL770_0:=am_ (show Kd.Q k61 61 _ _ _ _ (rd_L2 t754 x9_4) from ge770_0);clear hv770_0 ge770_0 hcc770 hce770;have HR770_0:=Aside0.mk hi770_0;have HC770_0:=Aside0.mk hl770_0;clear hi770_0 hl770_0;replace p770:=eq_true p770;replace q770:=eq_true q770;refine start_ (n:=13) (S:=fun w'=>w'.cell? ⟨gb766,0,none⟩=some (.slice Ao9 t757.length co9)∧w'.cell? ⟨gb766,1,none⟩=some (.slice Ao11 t760.length co11)∧w'.cell? ⟨gb766,2,none⟩=some (.slice Ao12 t763.length co12)∧w'.cell? (ad769.add (t767).toNat)=some (.slice A769_0 (rd_L2 t754 t767).length c769_0)∧w'.cell? (ad769.add (x9_4).toNat)=some (.slice A770_0 (rd_L2 t754 x9_4).length c770_0)) (ds:=[]) (fl_ 13 0) y0_ rfl (fl_zero _) ⟨(blk_cell BK766.out 0).trans rfl,(blk_cell BK766.out 1).trans rfl,(blk_cell BK766.out 2).trans rfl,hx769_0,hx770_0⟩ (fun hHeld=>?_);refine with_tabW laws_FnMedian.tab15 laws_FnMedian.bits15 (fun HT_ HW_=>?_);generalize wr.drew=w33 at HO_3 HO_767000 HO_767001 HO_767002 BK766 HB HL769_0 HL770_0 HR769_0 HR770_0 hx769_0 hx770_0 hHeld⊢
             iterate 4 refine yp_ HT_ ?_
             refine ypg_ (i:=5) (ra_ [4,1,1,7]) HT_ ?_;refine ypg_ (i:=6) (ra_ [4,1,2,6]) HT_ ?_;refine ypg_ (i:=7) (ra_ [4,1,3,5]) HT_ ?_;refine ytg_ (i:=4) (fl_ 13 8) HT_ HW_ hHeld ?_ (hy:=z118_)
             iterate 2 refine yt_ HT_ HW_ hHeld ?_ (hy:=z118_)
             refine one_ (i:=10) (N:=some 57) (fl_ 13 11) rfl rfl (one_of HT_.out y0_) (by decide) (fun K hK=>?_);refine goes_ Try.func26 y0_ rfl #[.slice A769_0 (rd_L2 t754 t767).length c769_0,.slice A770_0 (rd_L2 t754 x9_4).length c770_0,.agg #[.slice Ao9 t757.length co9,.slice Ao11 t760.length co11,.slice Ao12 t763.length co12]] (by rfl) rfl rfl z1_ ?_
             with_reducible refine(impl_RootDist.calls k4 _ _ (rd_L2 t754 t767) _ _ (rd_L2 t754 x9_4) _ _ t757 _ _ t760 _ _ t763 t771 _ ?side1 ?side2 ?side3 ?side4 ?side5 ?side6 ?side7 ?side8 ?side9 ?side10 A29.out).mono ?_
             (case side1=>repeat(exact z162_))
             (case side2=>exact HC769_0.out)
             (case side3=>repeat(exact z163_))
             (case side4=>exact HC770_0.out)
             (case side5=>exact z235_)
             (case side6=>exact(Kd.R_reads' HO_767000.out).2.1)
             (case side7=>exact z236_)
             (case side8=>exact(Kd.Q_reads' HO_767001.out).2.1)
             (case side9=>exact z237_)
             (case side10=>exact(Kd.R_reads' HO_767002.out).2.1)
             rintro e w34 ⟨rfl,hb⟩;have HS3_:=(hb.cell (World.block_lt_of_cell? _ _ (hHeld.2.2.2.1))).trans (hHeld.2.2.2.1);have HS4_:=(hb.cell (World.block_lt_of_cell? _ _ (hHeld.2.2.2.2))).trans (hHeld.2.2.2.2);refine⟨_,rfl,?_⟩;replace HO_3:=am_ (Kd.S_below z84_ hb);replace HO_767000:=am_ (Kd.R_below z109_ hb);replace HO_767001:=am_ (Kd.Q_below z110_ hb);replace HO_767002:=am_ (Kd.R_below z111_ hb);replace HL769_0:=am_ (Kd.Q_below z278_ hb);replace HL770_0:=am_ (Kd.Q_below z279_ hb);replace BK766:=am_ (blk_below z76_ hb);replace HR769_0:=am_ (Kd.C_below z162_ hb);replace HR770_0:=am_ (Kd.C_below z163_ hb);replace HB:=am_ (below_step z37_ hb)
             (try clear hb)
             refine hK.out _ _ ⟨(blk_cell BK766.out 0).trans rfl,(blk_cell BK766.out 1).trans rfl,(blk_cell BK766.out 2).trans rfl,HS3_,HS4_⟩ (fun hHeld=>?_);clear hK K;refine zn_ rfl ?_
             iterate 2 refine yp_ HT_ ?_
             refine done_ (done_of HT_.out y0_) ?_
             try go_wp2
             replace HO_3:=am_ (Kd.S_drew HO_3.out);replace HO_767000:=am_ (Kd.R_drew HO_767000.out);replace HO_767001:=am_ (Kd.Q_drew HO_767001.out);replace HO_767002:=am_ (Kd.R_drew HO_767002.out);replace HL769_0:=am_ (Kd.Q_drew HL769_0.out);replace HL770_0:=am_ (Kd.Q_drew HL770_0.out);replace BK766:=am_ (blk_drew BK766.out);replace HR769_0:=am_ (Kd.C_drew HR769_0.out);replace HR770_0:=am_ (Kd.C_drew HR770_0.out);replace HB:=am_ (below_drew1 HB.out);have p772:0≤(x6_2:Int):=odt_;have q772:x6_2<(t754.length:Int):=odt_;obtain⟨ad772,A772_0,c772_0,e772,hx772_0,hl772_0,hi772_0⟩:=at_L2 (Kd.S_reads' HO_3.out).2.2 x6_2 p772 q772;obtain rfl:ad769=ad772:=(by injection e772)
             obtain⟨ce772,hce772,hMe772,hcc772⟩:=Kd.S_get HO_3.out [] x6_2 p772 (by exact q772);obtain⟨ve772_0,rfl,ge772_0⟩:=hMe772;have hv772_0:=hcc772 0 _ rfl;rw[Nat.add_zero,show ((qsl 61 k61)).sz=1 from rfl,Nat.mul_one] at hv772_0;replace hv772_0:=Option.some.inj (hv772_0.symm.trans hx772_0);rw[hv772_0] at ge772_0;have HL772_0:=am_ (show Kd.Q k61 61 _ _ _ _ (rd_L2 t754 x6_2) from ge772_0);clear hv772_0 ge772_0 hcc772 hce772;have HR772_0:=Aside0.mk hi772_0;have HC772_0:=Aside0.mk hl772_0;clear hi772_0 hl772_0;replace p772:=eq_true p772;replace q772:=eq_true q772;have p773:0≤(x9_4:Int):=odt_;have q773:x9_4<(t754.length:Int):=odt_;obtain⟨ad773,A773_0,c773_0,e773,hx773_0,hl773_0,hi773_0⟩:=at_L2 (Kd.S_reads' HO_3.out).2.2 x9_4 p773 q773;obtain rfl:ad769=ad773:=(by injection e773)
             obtain⟨ce773,hce773,hMe773,hcc773⟩:=Kd.S_get HO_3.out [] x9_4 p773 (by exact q773);obtain⟨ve773_0,rfl,ge773_0⟩:=hMe773;have hv773_0:=hcc773 0 _ rfl;rw[Nat.add_zero,show ((qsl 61 k61)).sz=1 from rfl,Nat.mul_one] at hv773_0;replace hv773_0:=Option.some.inj (hv773_0.symm.trans hx773_0);rw[hv773_0] at ge773_0;have HL773_0:=am_ (show Kd.Q k61 61 _ _ _ _ (rd_L2 t754 x9_4) from ge773_0);clear hv773_0 ge773_0 hcc773 hce773;have HR773_0:=Aside0.mk hi773_0;have HC773_0:=Aside0.mk hl773_0;clear hi773_0 hl773_0;replace p773:=eq_true p773;replace q773:=eq_true q773;refine start_ (n:=13) (S:=fun w'=>w'.cell? ⟨gb766,0,none⟩=some (.slice Ao9 t757.length co9)∧w'.cell? ⟨gb766,1,none⟩=some (.slice Ao11 t760.length co11)∧w'.cell? ⟨gb766,2,none⟩=some (.slice Ao12 t763.length co12)∧w'.cell? (ad769.add (x6_2).toNat)=some (.slice A772_0 (rd_L2 t754 x6_2).length c772_0)∧w'.cell? (ad769.add (x9_4).toNat)=some (.slice A773_0 (rd_L2 t754 x9_4).length c773_0)) (ds:=[]) (fl_ 13 0) y0_ rfl (fl_zero _) ⟨(blk_cell BK766.out 0).trans rfl,(blk_cell BK766.out 1).trans rfl,(blk_cell BK766.out 2).trans rfl,hx772_0,hx773_0⟩ (fun hHeld=>?_);refine with_tabW laws_FnMedian.tab16 laws_FnMedian.bits16 (fun HT_ HW_=>?_);generalize w34.drew=w35 at HO_3 HO_767000 HO_767001 HO_767002 HL769_0 HL770_0 BK766 HR769_0 HR770_0 HB HL772_0 HL773_0 HR772_0 HR773_0 hx772_0 hx773_0 hHeld⊢
             iterate 4 refine yp_ HT_ ?_
             refine ypg_ (i:=5) (ra_ [4,1,1,7]) HT_ ?_;refine ypg_ (i:=6) (ra_ [4,1,2,6]) HT_ ?_;refine ypg_ (i:=7) (ra_ [4,1,3,5]) HT_ ?_;refine ytg_ (i:=4) (fl_ 13 8) HT_ HW_ hHeld ?_ (hy:=z118_)
             iterate 2 refine yt_ HT_ HW_ hHeld ?_ (hy:=z118_)
             refine one_ (i:=10) (N:=some 69) (fl_ 13 11) rfl rfl (one_of HT_.out y0_) (by decide) (fun K hK=>?_);refine goes_ Try.func26 y0_ rfl #[.slice A772_0 (rd_L2 t754 x6_2).length c772_0,.slice A773_0 (rd_L2 t754 x9_4).length c773_0,.agg #[.slice Ao9 t757.length co9,.slice Ao11 t760.length co11,.slice Ao12 t763.length co12]] (by rfl) rfl rfl z1_ ?_
             with_reducible refine(impl_RootDist.calls k4 _ _ (rd_L2 t754 x6_2) _ _ (rd_L2 t754 x9_4) _ _ t757 _ _ t760 _ _ t763 t774 _ ?side1 ?side2 ?side3 ?side4 ?side5 ?side6 ?side7 ?side8 ?side9 ?side10 A32.out).mono ?_
             (case side1=>repeat(exact z218_))
             (case side2=>exact HC772_0.out)
             (case side3=>repeat(exact z219_))
             (case side4=>exact HC773_0.out)
             (case side5=>exact z235_)
             (case side6=>exact(Kd.R_reads' HO_767000.out).2.1)
             (case side7=>exact z236_)
             (case side8=>exact(Kd.Q_reads' HO_767001.out).2.1)
             (case side9=>exact z237_)
             (case side10=>exact(Kd.R_reads' HO_767002.out).2.1)
             rintro e w36 ⟨rfl,hb⟩;have HS3_:=(hb.cell (World.block_lt_of_cell? _ _ (hHeld.2.2.2.1))).trans (hHeld.2.2.2.1);have HS4_:=(hb.cell (World.block_lt_of_cell? _ _ (hHeld.2.2.2.2))).trans (hHeld.2.2.2.2);refine⟨_,rfl,?_⟩;replace HO_3:=am_ (Kd.S_below z84_ hb);replace HO_767000:=am_ (Kd.R_below z109_ hb);replace HO_767001:=am_ (Kd.Q_below z110_ hb);replace HO_767002:=am_ (Kd.R_below z111_ hb);replace HL769_0:=am_ (Kd.Q_below z278_ hb);replace HL770_0:=am_ (Kd.Q_below z279_ hb);replace HL772_0:=am_ (Kd.Q_below (by exact HL772_0.out) hb);replace HL773_0:=am_ (Kd.Q_below (by exact HL773_0.out) hb);replace BK766:=am_ (blk_below z76_ hb);replace HR769_0:=am_ (Kd.C_below z162_ hb);replace HR770_0:=am_ (Kd.C_below z163_ hb);replace HR772_0:=am_ (Kd.C_below z218_ hb);replace HR773_0:=am_ (Kd.C_below z219_ hb);replace HB:=am_ (below_step z37_ hb)
             (try clear hb)
             refine hK.out _ _ ⟨(blk_cell BK766.out 0).trans rfl,(blk_cell BK766.out 1).trans rfl,(blk_cell BK766.out 2).trans rfl,HS3_,HS4_⟩ (fun hHeld=>?_);clear hK K;refine zn_ rfl ?_
             iterate 2 refine yp_ HT_ ?_
             refine done_ (done_of HT_.out y0_) ?_
             try go_wp2
             go_roundg k4
             case measure=>have:=HJ5.out;have:=HK2.out;have:=HJ21.out;have:=HK4.out;omega
             case rel=>exact⟨(wrap64 (x7_4+t771)),(wrap64 (x8_4+t774)),(wrap64 (x9_4+1)),z9_,z9_,z9_,H',⟨by have:=HJ5.out;have:=HK2.out;have:=HJ21.out;have:=HK4.out;omega⟩,⟨z84_⟩,⟨z109_⟩,⟨z110_⟩,⟨z111_⟩,⟨z76_⟩,⟨z37_⟩⟩
            ·rw[if_neg c25] at H;have c25b0:=decide_eq_false c25;clear c25;by_cases c37:x8_4<x7_4
             ·rw[if_pos c37] at H;have c37b0:=decide_eq_true c37;clear c37;obtain rfl:=Option.some.inj H;go_wp2;go_ret;exact⟨z8_,z37_⟩
             ·rw[if_neg c37] at H;have c37b0:=decide_eq_false c37;clear c37;have H':=Aside0.mk H;clear H;go_wp2
              go_roundg k4
              case measure=>have:=HJ5.out;have:=HK2.out;have:=HJ21.out;have:=HK4.out;omega
              case rel=>exact⟨(wrap64 (x6_2+1)),z9_,H',⟨by have:=HJ5.out;have:=HK2.out;have:=HJ21.out;have:=HK4.out;omega⟩,⟨z84_⟩,⟨z109_⟩,⟨z110_⟩,⟨z111_⟩,⟨z76_⟩,⟨z37_⟩⟩
         ·replace c24:=Bool.eq_false_iff.mpr c24;subst c24;replace H:=iff_ H;obtain rfl:=Option.some.inj H;go_wp2;go_ret;exact⟨z8_,z37_⟩

/-- THE ONE PURE STATEMENT of laws_FnMedian: yours. -/
def laws_FnMedian.Pure:Prop:=∀(l0:List Int),l0.length≤maxLen→l0.length*1≤140737488351232→(∀x ∈ l0,(Lit.int .u8 x).wf=true)→∃k,laws_FnMedian.f k l0=some true
theorem laws_FnMedian.walk (P:laws_FnMedian.Pure) (a0:Option Addr) (len0 cap0:Nat) (z0:List Int) (w:World) (w0:(a0=none∧len0=0∧cap0=0∧z0=[])∨∃x,a0=some x∧len0≤cap0∧cap0≤maxLen∧z0.length=cap0∧(∀i,i<z0.length→w.cell? (x.add i)=some (.int .u8 (z0.getD i 0)))∧∀n ∈ z0,(Lit.int .u8 n).wf=true) (y0:len0*1≤140737488351232):
  Calls Try.prog 6 #[.slice a0 len0 cap0] w fun e w'=>e= .returned (.bool true)∧Below w.heap.size w w':=by
 obtain⟨l0,rfl,hr0,hm0,hw0,hc0⟩:=ReadsInt.ofRowC w0;obtain⟨k,h⟩:=P l0 hm0 y0 hw0;refine(laws_FnMedian.calls k _ _ l0 true w (Kd.C_of_reads (d:=(0:Int)) (h1:=fun _=>rfl) hr0) hc0 h).mono ?_;rintro e w' ⟨rfl,hd⟩;exact⟨rfl,hd⟩

end Go.Proofs.Ytbmkobanpakohaa.PFnMedian
