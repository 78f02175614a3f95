/- Walks of functions of FnNear, laid anew out of the kit's print. -/
import Derived.Test.YtbmkobanpakohaaMFnNearx0
import Derived.Test.YtbmkobanpakohaaMFnNearx17
import Derived.Test.YtbmkobanpakohaaMFnNearx20
namespace Go.Proofs.Ytbmkobanpakohaa.PFnNear
open Go.RowKit Go.Proofs.YtbmkobanpakohaaW.PrintWords Go.Proofs.YtbmkobanpakohaaW.PrintLast Go.Proofs.YtbmkobanpakohaaW.PrintMore Go.Proofs.YtbmkobanpakohaaW.PrintWords.Kd Go.Proofs.YtbmkobanpakohaaW.PrintMore.Kd
set_option maxHeartbeats 8000000
set_option maxRecDepth 100000
attribute [local go_sem] max2_int min2_int max_two min_two max_three min_three max_four min_four
set_option linter.unusedVariables false
set_option linter.unusedSimpArgs false

/-! ### spec_l7Cost: function 65 -/
mutual
def spec_l7Cost.l0:Nat→Int→List Int→Int→Int→List Int→List Int→List Int→Option (List Int×List Int×List Int×Int×Int)
 |0,_,_,_,_,_,_,_=>none
 |k+1,x4,xar,xB,xC,xx,xy,xv=>if x4<(xv.length:Int) then (if 0≤x4 then (spec_l7Cost.l0 k (wrap64 (x4+1)) xar xB xC xx xy (xv.set (x4:Int).toNat (wrap64 ((rd xv x4)*3)))) else (none)) else (some (xx,xy,xv,xB,xC))
def spec_l7Cost.l1:Nat→Int→List Int→Int→Int→List Int→List Int→List Int→Option (List Int×List Int×List Int×Int×Int)
 |0,_,_,_,_,_,_,_=>none
 |k+1,x5,xar,xB,xC,xx,xy,xv=>if x5<6 then ((spec_l1Below.f xar xB xC 7).bind fun btcq=>(if 0≤x5 then (if x5<(xx.length:Int) then ((spec_l1Below.f xar btcq.2.1 btcq.2.2 7).bind fun bte7=>(if x5<(xy.length:Int) then (spec_l7Cost.l2 k x5 0 xar bte7.2.1 bte7.2.2 (xx.set (x5:Int).toNat btcq.1) (xy.set (x5:Int).toNat bte7.1) xv) else (none))) else (none)) else (none))) else (some (xx,xy,xv,xB,xC))
def spec_l7Cost.l2:Nat→Int→Int→List Int→Int→Int→List Int→List Int→List Int→Option (List Int×List Int×List Int×Int×Int)
 |0,_,_,_,_,_,_,_,_=>none
 |k+1,x5,x6,xar,xB,xC,xx,xy,xv=>if x6<6 then (if x5=x6 then (spec_l7Cost.l2 k x5 (wrap64 (x6+1)) xar xB xC xx xy xv) else ((spec_l1PickInt.f xar xB xC (([0,1,4,9,1000]:List Int))).bind fun bte8=>(if 0≤(wrap64 ((wrap64 (x5*6))+x6)) then (if (wrap64 ((wrap64 (x5*6))+x6))<(xv.length:Int) then (spec_l7Cost.l2 k x5 (wrap64 (x6+1)) xar bte8.2.1 bte8.2.2 xx xy (xv.set ((wrap64 ((wrap64 (x5*6))+x6)):Int).toNat bte8.1)) else (none)) else (none)))) else (spec_l7Cost.l1 k (wrap64 (x5+1)) xar xB xC xx xy xv)
end
def spec_l7Cost.f (k:Nat) (s0_0:List Int) (s0_1:Int) (s0_2:Int):Option (List Int×List Int×List Int×Int×Int):=(spec_UnitCost.f k).bind fun bta3=>((spec_l1Below.f s0_0 s0_1 s0_2 4).bind fun btbp=>(if btbp.1=0 then (some (bta3.1,bta3.2.1,bta3.2.2,btbp.2.1,btbp.2.2)) else (if btbp.1=1 then (spec_l7Cost.l0 k 0 s0_0 btbp.2.1 btbp.2.2 bta3.1 bta3.2.1 bta3.2.2) else (spec_l7Cost.l1 k 0 s0_0 btbp.2.1 btbp.2.2 bta3.1 bta3.2.1 bta3.2.2))))
def spec_l7Cost.T9:Bool×List (List Nat×List Nat):=(true,[([],[]),([0],[0]),([],[]),([],[]),([3],[3]),([],[]),([4,5],[4,5]),([6],[6]),([7],[7]),([1,2,0,1,2,3,4,5,6,7,8],[1,2]),([9,8,0,1,2,3,4,5,6,7,8],[8,9])])
def spec_l7Cost.B9:List Nat:=[0,1,0,0,8,0,56,120,248,511,1023]
theorem spec_l7Cost.tab9:rtab .any (opsOf Try.f65 9)=spec_l7Cost.T9:=by kernel_rfl
theorem spec_l7Cost.bits9:waitsOk spec_l7Cost.T9.2 spec_l7Cost.B9=true:=by kernel_rfl
def spec_l7Cost.T20:Bool×List (List Nat×List Nat):=(true,[([],[]),([0],[0]),([],[]),([2],[2]),([],[]),([3,4],[3,4]),([],[]),([],[]),([6,7],[6,7]),([1,5,0,1,2,3,4,5,6,7,8],[1,5]),([9,8,8,0,1,2,3,4,5,6,7,8],[8,9])])
def spec_l7Cost.B20:List Nat:=[0,1,0,4,0,28,0,0,192,511,1023]
theorem spec_l7Cost.tab20:rtab .any (opsOf Try.f65 20)=spec_l7Cost.T20:=by kernel_rfl
theorem spec_l7Cost.bits20:waitsOk spec_l7Cost.T20.2 spec_l7Cost.B20=true:=by kernel_rfl
theorem spec_l7Cost.calls (k:Nat) (g:Nat) (s0_0:List Int) (s0_1:Int) (s0_2:Int) (r1:List Int) (r2:List Int) (r3:List Int) (r4:Int) (r5:Int) (w0 w:World) (hI:IsS86 w0 w g s0_0 s0_1 s0_2) (hB:Below w0.heap.size w0 w) (h:spec_l7Cost.f k s0_0 s0_1 s0_2=some (r1,r2,r3,r4,r5)):
  Calls Try.prog 65 #[.pointer (some ⟨g,0,none⟩)] w fun e w'=>∃v0_ v1_ v2_:Value,e= .returned (.agg #[v0_,v1_,v2_])∧RI_ w' w.heap.size (nb2_ v1_ v2_) v0_ r1∧RI_ w' w.heap.size (nb2_ v0_ v2_) v1_ r2∧RI_ w' w.heap.size (nb2_ v0_ v1_) v2_ r3∧IsS86 w0 w' g s0_0 r4 r5∧Below w0.heap.size w0 w'∧KeepBut w w' g none:=by
 have hu38:=Try.underlying38;have HI0:=am_ hI;have HK:=am_ (KeepBut.refl w g none);have HL:=am_ hB.size;clear hI;have HW0:=am_ hB.size;have HB:=am_ hB;clear hB;have H:((spec_UnitCost.f k).bind fun bta3=>((spec_l1Below.f s0_0 s0_1 s0_2 4).bind fun btbp=>(if btbp.1=0 then (some (bta3.1,bta3.2.1,bta3.2.2,btbp.2.1,btbp.2.2)) else (if btbp.1=1 then (spec_l7Cost.l0 k 0 s0_0 btbp.2.1 btbp.2.2 bta3.1 bta3.2.1 bta3.2.2) else (spec_l7Cost.l1 k 0 s0_0 btbp.2.1 btbp.2.2 bta3.1 bta3.2.1 bta3.2.2)))))=some (r1,r2,r3,r4,r5):=h;clear h;replace H:=be_ H;obtain⟨⟨ta3,tdh,td1⟩,A20,H⟩:=H
 try dsimp only at H
 have A2:=am_ A20;clear A20;replace H:=be_ H;obtain⟨⟨tbp,thw,thx⟩,A30,H⟩:=H
 try dsimp only at H
 have A3:=am_ A30;clear A30;go_enter Try.func65,Try.ntmps65
 go_upto_region 3 with (first|((with_reducible refine gate_dst (N:=2) rfl ?_);refine box_event ?hg (N:=2) ?hd (cs:=#[.slice none 0 0,.slice none 0 0,.slice none 0 0]) (t:=38) ?hr ?_;(case hd=>rfl);(case hg=>rfl);(case hr=>exact z14_);intro gbr hg w5 hbox hb;replace HB:=am_ (below_step z4_ hb);have BKr:=am_ (hbox);have GWr:=am_ ((by rw[hg];exact(keep_size (w:=w) (g:=g) (row:=none) z2_):w.heap.size≤gbr));have GEr:=am_ ((Nat.le_trans HW0.out (by rw[hg];exact(keep_size (w:=w) (g:=g) (row:=none) z2_):w.heap.size≤gbr):w0.heap.size≤gbr));replace HK:=am_ (KeepBut.trans z2_ (KeepBut.of_below hb g none) (.inl rfl));have NB0_r:=am_ ((by rw[hg];exact Nat.ne_of_lt (IsS86.lt (y1_:IsS86 w0 _ g s0_0 s0_1 s0_2)):g≠gbr));have NBr_0:=am_ ((by rw[hg];exact Nat.ne_of_gt (IsS86.lt (y1_:IsS86 w0 _ g s0_0 s0_1 s0_2)):gbr≠g));replace HI0:=am_ (IsS86.below z3_ hb);clear hb hbox hg)|((with_reducible refine gate_callee (f:=38) rfl ?_);refine goesL_ (some 7) rfl rfl Try.func38 y0_ rfl #[] rfl z1_ ?_;(with_reducible refine(spec_UnitCost.calls k  ta3 tdh td1 _ A2.out).mono ?_);rintro e w6 ⟨vlS,vlT,vlU,rfl,ho0,ho1,ho2,hb⟩;refine⟨_,rfl,?_⟩;have HOeK:=am_ (R_lower ho0 (keep_size (w:=w) (g:=g) (row:=none) z24_));have HOfX:=am_ (R_lower ho1 (keep_size (w:=w) (g:=g) (row:=none) z24_));have HOfY:=am_ (R_lower ho2 (keep_size (w:=w) (g:=g) (row:=none) z24_));replace BKr:=am_ (blk_below z48_ hb);replace HK:=am_ (KeepBut.trans z24_ (KeepBut.of_below hb g none) (.inl rfl));replace HB:=am_ (below_step z118_ hb);replace HI0:=am_ (IsS86.below z117_ hb);(try clear hb ho0 ho1 ho2))|((with_reducible refine gate_dst (N:=3) rfl ?_);refine box_event ?hg (N:=3) ?hd (cs:=#[.slice none 0 0,.slice none 0 0,.slice none 0 0]) (t:=38) ?hr ?_;(case hd=>rfl);(case hg=>rfl);(case hr=>exact z14_);intro gbn hg w7 hbox hb;replace HOeK:=am_ (R_below z213_ hb);replace HOfX:=am_ (R_below z214_ hb);replace HOfY:=am_ (R_below z215_ hb);replace HB:=am_ (below_step z118_ hb);have BKn:=am_ (hbox);have GWn:=am_ ((by rw[hg];exact(keep_size (w:=w) (g:=g) (row:=none) z24_):w.heap.size≤gbn));have GEn:=am_ ((Nat.le_trans HW0.out (by rw[hg];exact(keep_size (w:=w) (g:=g) (row:=none) z24_):w.heap.size≤gbn):w0.heap.size≤gbn));replace HK:=am_ (KeepBut.trans z24_ (KeepBut.of_below hb g none) (.inl rfl));have NBr_n:=am_ ((by rw[hg];exact Nat.ne_of_lt (blk_lt (g:=gbr) (o:= .cells #[.slice none 0 0,.slice none 0 0,.slice none 0 0] 38 (0,0)) z48_):gbr≠gbn));have NBn_r:=am_ ((by rw[hg];exact Nat.ne_of_gt (blk_lt (g:=gbr) (o:= .cells #[.slice none 0 0,.slice none 0 0,.slice none 0 0] 38 (0,0)) z48_):gbn≠gbr));replace BKr:=am_ (blk_below z48_ hb);have NB0_n:=am_ ((by rw[hg];exact Nat.ne_of_lt (IsS86.lt (y1_:IsS86 w0 _ g s0_0 s0_1 s0_2)):g≠gbn));have NBn_0:=am_ ((by rw[hg];exact Nat.ne_of_gt (IsS86.lt (y1_:IsS86 w0 _ g s0_0 s0_1 s0_2)):gbn≠g));replace HI0:=am_ (IsS86.below z117_ hb);clear hb hbox hg;obtain⟨Ao8,co8,eo8⟩:=R_slice HOeK.out;subst eo8;have hnb9:=NBn_r.out;have hnc9:=NBr_n.out;have hnb10:=NBn_0.out;have hnc10:=NB0_n.out;obtain⟨hcz11_0,hcz11_1,hcz11_2,hfz11_0,hfz11_1,hfz11_2⟩:=bx3_ BKn.out;obtain⟨Ao12,co12,eo12⟩:=R_slice HOfX.out;subst eo12;obtain⟨Ao13,co13,eo13⟩:=R_slice HOfY.out;subst eo13)|((with_reducible refine gate_callee (f:=64) rfl ?_);refine goesL_ (some 9) rfl rfl Try.func64 y0_ rfl #[.pointer (some ⟨g,0,none⟩),.int .i64 4] rfl z1_ ?_;(with_reducible refine(spec_l1Below.calls g s0_0 s0_1 s0_2 4 tbp thw thx w0 _ ?s1 ?s2 A3.out).mono ?_);(case s1=>exact z25_);(case s2=>exact z26_);rintro e w14 ⟨rfl,hi,hb,hk⟩;refine⟨_,rfl,?_⟩;replace BKr:=am_ (KeepBut.blk hk (g':=gbr) (o:= .cells #[.slice none 0 0,.slice none 0 0,.slice none 0 0] 38 (0,0)) z86_ NBr_0.out (by simp));replace HOeK:=am_ (R_mono (R_keep (IsS86.apart (y7_:IsS86 w0 _ g s0_0 s0_1 s0_2) (by exact ur_ (R_mono (R_far (p:=⟨gbn,2,none⟩) (R_far (p:=⟨gbn,1,none⟩) (R_far (p:=⟨gbn,0,none⟩) (R_types HOeK.out BKn.out (by decide)) (fun _ hk=>hk.2) (.slice Ao8 ta3.length co8)) (fun _ hk=>hk.2) (.slice Ao12 tdh.length co12)) (fun _ hk=>hk.2) (.slice Ao13 td1.length co13)) (fun _ h_=>h_.1))) (by decide)) hk (fun _ h=>h.2)) (fun _ h=>h.1));replace HOfX:=am_ (R_mono (R_keep (IsS86.apart (y7_:IsS86 w0 _ g s0_0 s0_1 s0_2) (by exact ur_ (R_mono (R_far (p:=⟨gbn,2,none⟩) (R_far (p:=⟨gbn,1,none⟩) (R_far (p:=⟨gbn,0,none⟩) (R_types HOfX.out BKn.out (by decide)) (fun _ hk=>hk.2) (.slice Ao8 ta3.length co8)) (fun _ hk=>hk.2) (.slice Ao12 tdh.length co12)) (fun _ hk=>hk.2) (.slice Ao13 td1.length co13)) (fun _ h_=>h_.1))) (by decide)) hk (fun _ h=>h.2)) (fun _ h=>h.1));replace HOfY:=am_ (R_mono (R_keep (IsS86.apart (y7_:IsS86 w0 _ g s0_0 s0_1 s0_2) (by exact ur_ (R_mono (R_far (p:=⟨gbn,2,none⟩) (R_far (p:=⟨gbn,1,none⟩) (R_far (p:=⟨gbn,0,none⟩) (R_types HOfY.out BKn.out (by decide)) (fun _ hk=>hk.2) (.slice Ao8 ta3.length co8)) (fun _ hk=>hk.2) (.slice Ao12 tdh.length co12)) (fun _ hk=>hk.2) (.slice Ao13 td1.length co13)) (fun _ h_=>h_.1))) (by decide)) hk (fun _ h=>h.2)) (fun _ h=>h.1));replace BKn:=am_ (KeepBut.blk hk (g':=gbn) (o:= .cells #[.slice Ao8 ta3.length co8,.slice Ao12 tdh.length co12,.slice Ao13 td1.length co13] 38 (0,0)) (by refine ub_ (blk_put (cs:=#[.slice Ao8 ta3.length co8,.slice Ao12 tdh.length co12,.slice none 0 0]) ?_ 2 _ rfl);refine ub_ (blk_put (cs:=#[.slice Ao8 ta3.length co8,.slice none 0 0,.slice none 0 0]) ?_ 1 _ rfl);refine ub_ (blk_put (cs:=#[.slice none 0 0,.slice none 0 0,.slice none 0 0]) ?_ 0 _ rfl);exact ub_ BKn.out) NBn_0.out (by simp));replace HK:=am_ (KeepBut.trans z29_ hk (.inl rfl));replace HB:=am_ (hb);replace HI0:=am_ (hi);(try clear hb hk hi)))
 by_cases c4:tbp=0
 ·rw[if_pos c4] at H;have c4b0:(tbp==0)=true:=beq_iff_eq.mpr c4;have c4b1:(tbp != 0)=false:=bne_eq_false_iff_eq.mpr c4;clear c4;simp only[Option.some.injEq,Prod.mk.injEq] at H;obtain⟨rfl,rfl,rfl,rfl,rfl⟩:=H;obtain⟨hcz15_0,hcz15_1,hcz15_2,hfz15_0,hfz15_1,hfz15_2⟩:=bx3_ BKn.out;have hnb16:=NBr_0.out;have hnc16:=NB0_r.out;obtain⟨hcz17_0,hcz17_1,hcz17_2,hfz17_0,hfz17_1,hfz17_2⟩:=bx3_ BKr.out;go_wp2;refine bodyPost_ret (results_cell_row rfl _ _ gbr 38 #[.slice Ao8 ta3.length co8,.slice Ao12 tdh.length co12,.slice Ao13 td1.length co13] (0,0) _ rfl (by refine ub_ (blk_put (cs:=#[.slice Ao8 ta3.length co8,.slice Ao12 tdh.length co12,.slice none 0 0]) ?_ 2 _ rfl);refine ub_ (blk_put (cs:=#[.slice Ao8 ta3.length co8,.slice none 0 0,.slice none 0 0]) ?_ 1 _ rfl);refine ub_ (blk_put (cs:=#[.slice none 0 0,.slice none 0 0,.slice none 0 0]) ?_ 0 _ rfl);exact ub_ BKr.out) Try.underlying38 rfl y0_) rfl ?_;exact⟨_,_,_,z7_,by exact ur_ (R_mono (R_far (p:=⟨gbr,2,none⟩) (R_far (p:=⟨gbr,1,none⟩) (R_far (p:=⟨gbr,0,none⟩) (R_types HOeK.out BKr.out (by decide)) (fun _ hk=>hk.2) (.slice Ao8 ta3.length co8)) (fun _ hk=>hk.2) (.slice Ao12 tdh.length co12)) (fun _ hk=>hk.2) (.slice Ao13 td1.length co13)) (fun _ hk=>⟨hk.1.1,hk.1.2⟩)),by exact ur_ (R_mono (R_far (p:=⟨gbr,2,none⟩) (R_far (p:=⟨gbr,1,none⟩) (R_far (p:=⟨gbr,0,none⟩) (R_types HOfX.out BKr.out (by decide)) (fun _ hk=>hk.2) (.slice Ao8 ta3.length co8)) (fun _ hk=>hk.2) (.slice Ao12 tdh.length co12)) (fun _ hk=>hk.2) (.slice Ao13 td1.length co13)) (fun _ hk=>⟨hk.1.1,hk.1.2⟩)),by exact ur_ (R_mono (R_far (p:=⟨gbr,2,none⟩) (R_far (p:=⟨gbr,1,none⟩) (R_far (p:=⟨gbr,0,none⟩) (R_types HOfY.out BKr.out (by decide)) (fun _ hk=>hk.2) (.slice Ao8 ta3.length co8)) (fun _ hk=>hk.2) (.slice Ao12 tdh.length co12)) (fun _ hk=>hk.2) (.slice Ao13 td1.length co13)) (fun _ hk=>⟨hk.1.1,hk.1.2⟩)),z25_,z26_,z29_⟩
 ·rw [if_neg c4] at H;have c4b0:(tbp==0)=false:=beq_eq_false_iff_ne.mpr c4;have c4b1:(tbp != 0)=true:=bne_iff_ne.mpr c4;by_cases c18:tbp=1
  ·rw [if_pos c18] at H;have c18b0:(tbp==1)=true:=beq_iff_eq.mpr c18;have c18b1:(tbp != 1)=false:=bne_eq_false_iff_eq.mpr c18;clear c18;have H':=am_ H;clear H;go_wp2
   go_loopg [4] k (fun kq v4 w'=>∃(x4_1:Int) (xx_1:List Int) (xy_1:List Int) (xv_1:List Int) (ux:Value) (uy:Value) (uv:Value),v4= .int .i64 x4_1∧Aside0 (spec_l7Cost.l0 kq x4_1 s0_0 thw thx xx_1 xy_1 xv_1=some (r1,r2,r3,r4,r5))∧Aside0 (kq≤k)∧Aside0 (RI_ w' w.heap.size (nb2_ uy uv) ux xx_1)∧Aside0 (RI_ w' w.heap.size (nb2_ ux uv) uy xy_1)∧Aside0 (RI_ w' w.heap.size (nb2_ ux uy) uv xv_1)∧Aside0 (w'.heap[gbr]? =some (.cells #[(.slice none 0 0),(.slice none 0 0),(.slice none 0 0)] 38 (0,0)))∧Aside0 (w'.heap[gbn]? =some (.cells #[ux,uy,uv] 38 (0,0)))∧Aside0 (IsS86 w0 w' g s0_0 thw thx)∧Aside0 (KeepBut w w' g none)∧Aside0 (Below w0.heap.size w0 w'))
   case atStart=>exact⟨(0),(ta3),(tdh),(td1),(.slice Ao8 ta3.length co8),(.slice Ao12 tdh.length co12),(.slice Ao13 td1.length co13),z9_,H',⟨Nat.le_refl _⟩,⟨z213_⟩,⟨z214_⟩,⟨z215_⟩,⟨z48_⟩,⟨z129_⟩,⟨z25_⟩,⟨z29_⟩,⟨z26_⟩⟩
   case round=>
    clear H';obtain⟨x4_1,xx_1,xy_1,xv_1,ux,uy,uv,rfl,HA,HK1,HO_x,HO_y,HO_v,BKr,BKn,HI0,HK,HB⟩:=hrel;cases gk with
    |zero=>exact absurd HA.out (by simp[spec_l7Cost.l0])
    | succ k1=>
     have H:=HA.out;clear HA;simp only[spec_l7Cost.l0] at H;by_cases c29:x4_1<(xv_1.length:Int)
     ·rw[if_pos c29] at H;have c29b0:=decide_eq_true c29;clear c29;obtain⟨c30b0,H⟩:=ifd_ H
      (generalize hy_:((xv_1.set (x4_1:Int).toNat (wrap64 ((rd xv_1 x4_1)*3))):List Int)=yiz at H;have Nyiz:=am_ hy_.symm;clear hy_)
      have H':=am_ H;clear H;have hnb32:=NBn_r.out;have hnc32:=NBr_n.out;have hnb33:=NBn_0.out;have hnc33:=NB0_n.out;obtain⟨hcz34_0,hcz34_1,hcz34_2,hfz34_0,hfz34_1,hfz34_2⟩:=bx3_ BKn.out;obtain⟨Ao35,co35,eo35⟩:=R_slice HO_v.out;subst eo35
      try go_wp2
      replace HO_x:=am_ (R_drew HO_x.out);replace HO_y:=am_ (R_drew HO_y.out);replace HO_v:=am_ (R_drew HO_v.out);replace BKr:=am_ (blk_drew BKr.out);replace BKn:=am_ (blk_drew BKn.out);replace HI0:=am_ (IsS86.drew HI0.out);replace HK:=am_ (keep_drew HK.out);replace HB:=am_ (below_drew1 HB.out);have pdE:0≤(x4_1:Int):=odt_;have qdE:x4_1<(xv_1.length:Int):=odt_;obtain⟨addE,edE,hxdE_0⟩:=at_int (R_reads' HO_v.out).2.2 x4_1 pdE qdE;cases edE;replace pdE:=eq_true pdE;replace qdE:=eq_true qdE;have p31:0≤(x4_1:Int):=odt_;have q31:(x4_1:Int)<((xv_1.length:Int):Int):=odt_;obtain⟨go31,co31,eo31,gb31,gl31,cl31,HG31⟩:=R_form HO_v.out (by omega)
      (cases eo31)
      have GB31:=am_ gb31;have GG31:=am_ HG31;clear gb31 gl31 HG31
      (simp only[add_plain] at hxdE_0)
      obtain⟨hx31_0,hf31_0⟩:=R_celln 0 HO_v.out (x4_1:Int) p31 q31;replace p31:=eq_true p31;replace q31:=eq_true q31;have HN0_go31:=am_ ((by have h_:=IsS86.own_ne HI0.out HO_v.out (by decide);intro e_;exact h_ z244_):g≠go31);have HP37:=R_putn HO_v.out (x4_1:Int) (wrap64 ((rd xv_1 x4_1)*3));rw[←Nyiz.out] at HP37;have HQ37:=am_ HP37;clear HP37;refine start_ (n:=11) (S:=fun w'=>w'.cell? ⟨gbn,0,none⟩=some (ux)∧w'.cell? ⟨gbn,1,none⟩=some (uy)∧w'.cell? ⟨gbn,2,none⟩=some (.slice (some ⟨go31,0,none⟩) xv_1.length co35)∧w'.cell? ⟨go31,(x4_1).toNat,none⟩=some (.int .i64 (rd xv_1 x4_1))) (ds:=[10]) (fl_ 11 0) y0_ rfl (fl_zero _) ⟨(blk_cell BKn.out 0).trans rfl,(blk_cell BKn.out 1).trans rfl,(blk_cell BKn.out 2).trans rfl,hxdE_0⟩ (fun hh=>?_);refine with_tabW spec_l7Cost.tab9 spec_l7Cost.bits9 (fun HT_ HW_=>?_);generalize wr.drew=w36 at HO_x HO_y HO_v BKr BKn HI0 HK HB GG31 HQ37 hf31_0 hx31_0 hxdE_0 hh⊢;refine yp_ HT_ ?_;refine ypg_ (i:=2) (ra_ [1,1,1,8]) HT_ ?_;refine ypg_ (i:=3) (ra_ [1,1,2,7]) HT_ ?_;refine ypg_ (i:=5) (ra_ [1,1,2,1,1,5]) HT_ ?_;refine ytg_ (i:=1) (ra_ [4,1,1,5]) HT_ HW_ hh ?_ (hy:=z52_);refine ytg_ (i:=4) (fl_ 11 6) HT_ HW_ hh ?_ (hy:=z52_);refine yp_ HT_ ?_;refine yt_ HT_ HW_ hh ?_ (hy:=z52_)
      iterate 2 refine yp_ HT_ ?_
      refine last_ (i:=10) (N:=none) (fl_ 11 11) rfl rfl (one_of HT_.out y0_) (by decide) (fun K hK=>?_);refine skip_ (w1:=?_) (by rfl) rfl ?_ ?_;rotate_left
      ·go_simp;rfl
      refine hK.out _ _ ?_;clear hK K;refine done_ (done_of HT_.out y0_) ?_
      try go_wp2
      go_roundg k1
      case measure=>have:=HK1.out;omega
      case rel=>exact⟨(wrap64 (x4_1+1)),(xx_1),(xy_1),(yiz),(ux),(uy),(.slice (some ⟨go31,0,none⟩) xv_1.length co35),z9_,H',⟨z170_⟩,⟨by exact ur_ (R_mono (R_far (p:=⟨go31,(x4_1:Int).toNat,none⟩) (R_mono HO_x.out (fun k_ hk=>(⟨hk,fun e_=>hk.2 z244_⟩:_∧k_≠go31))) (fun _ hk=>hk.2) (.int .i64 (wrap64 ((rd xv_1 x4_1)*3)))) (fun _ hk=>⟨hk.1.1,hk.1.2⟩))⟩,⟨by exact ur_ (R_mono (R_far (p:=⟨go31,(x4_1:Int).toNat,none⟩) (R_mono HO_y.out (fun k_ hk=>(⟨hk,fun e_=>hk.2 z244_⟩:_∧k_≠go31))) (fun _ hk=>hk.2) (.int .i64 (wrap64 ((rd xv_1 x4_1)*3)))) (fun _ hk=>⟨hk.1.1,hk.1.2⟩))⟩,⟨by exact ur_ HQ37.out⟩,⟨z179_⟩,⟨z180_⟩,⟨by repeat((with_reducible first|exact HI0.out|refine IsS86.far ?_ HN0_go31.out _))⟩,⟨by repeat((with_reducible first|exact HK.out|refine keep_far ?_ GB31.out _))⟩,⟨by repeat((with_reducible first|exact HB.out|refine below_set ?_ (Nat.le_trans HL.out GB31.out)))⟩⟩
     ·rw[if_neg c29] at H;have c29b0:=decide_eq_false c29;clear c29;simp only[Option.some.injEq,Prod.mk.injEq] at H;obtain⟨rfl,rfl,rfl,rfl,rfl⟩:=H;have hnb38:=NBn_r.out;have hnc38:=NBr_n.out;have hnb39:=NBn_0.out;have hnc39:=NB0_n.out;obtain⟨hcz40_0,hcz40_1,hcz40_2,hfz40_0,hfz40_1,hfz40_2⟩:=bx3_ BKn.out;obtain⟨Ao41,co41,eo41⟩:=R_slice HO_v.out;subst eo41;obtain⟨Ao42,co42,eo42⟩:=R_slice HO_x.out;subst eo42;have hnb43:=NBr_0.out;have hnc43:=NB0_r.out;obtain⟨hcz44_0,hcz44_1,hcz44_2,hfz44_0,hfz44_1,hfz44_2⟩:=bx3_ BKr.out;obtain⟨Ao45,co45,eo45⟩:=R_slice HO_y.out;subst eo45;go_wp2;refine bodyPost_ret (results_cell_row rfl _ _ gbr 38 #[.slice Ao42 xx_1.length co42,.slice Ao45 xy_1.length co45,.slice Ao41 xv_1.length co41] (0,0) _ rfl (by refine ub_ (blk_put (cs:=#[.slice Ao42 xx_1.length co42,.slice Ao45 xy_1.length co45,.slice none 0 0]) ?_ 2 _ rfl);refine ub_ (blk_put (cs:=#[.slice Ao42 xx_1.length co42,.slice none 0 0,.slice none 0 0]) ?_ 1 _ rfl);refine ub_ (blk_put (cs:=#[.slice none 0 0,.slice none 0 0,.slice none 0 0]) ?_ 0 _ rfl);exact ub_ BKr.out) Try.underlying38 rfl y0_) rfl ?_;exact⟨_,_,_,z7_,by exact ur_ (R_mono (R_far (p:=⟨gbr,2,none⟩) (R_far (p:=⟨gbr,1,none⟩) (R_far (p:=⟨gbr,0,none⟩) (R_types HO_x.out BKr.out (by decide)) (fun _ hk=>hk.2) (.slice Ao42 xx_1.length co42)) (fun _ hk=>hk.2) (.slice Ao45 xy_1.length co45)) (fun _ hk=>hk.2) (.slice Ao41 xv_1.length co41)) (fun _ hk=>⟨hk.1.1,hk.1.2⟩)),by exact ur_ (R_mono (R_far (p:=⟨gbr,2,none⟩) (R_far (p:=⟨gbr,1,none⟩) (R_far (p:=⟨gbr,0,none⟩) (R_types HO_y.out BKr.out (by decide)) (fun _ hk=>hk.2) (.slice Ao42 xx_1.length co42)) (fun _ hk=>hk.2) (.slice Ao45 xy_1.length co45)) (fun _ hk=>hk.2) (.slice Ao41 xv_1.length co41)) (fun _ hk=>⟨hk.1.1,hk.1.2⟩)),by exact ur_ (R_mono (R_far (p:=⟨gbr,2,none⟩) (R_far (p:=⟨gbr,1,none⟩) (R_far (p:=⟨gbr,0,none⟩) (R_types HO_v.out BKr.out (by decide)) (fun _ hk=>hk.2) (.slice Ao42 xx_1.length co42)) (fun _ hk=>hk.2) (.slice Ao45 xy_1.length co45)) (fun _ hk=>hk.2) (.slice Ao41 xv_1.length co41)) (fun _ hk=>⟨hk.1.1,hk.1.2⟩)),z25_,z26_,z29_⟩
  ·rw [if_neg c18] at H;have c18b0:(tbp==1)=false:=beq_eq_false_iff_ne.mpr c18;have c18b1:(tbp != 1)=true:=bne_iff_ne.mpr c18;have H':=am_ H;clear H;go_wp2
   go_loopg [5] k (fun kq v5 w'=>∃(x5_1:Int) (xB_1:Int) (xC_1:Int) (xx_1:List Int) (xy_1:List Int) (xv_1:List Int) (ux:Value) (uy:Value) (uv:Value),v5= .int .i64 x5_1∧Aside0 (spec_l7Cost.l1 kq x5_1 s0_0 xB_1 xC_1 xx_1 xy_1 xv_1=some (r1,r2,r3,r4,r5))∧Aside0 (kq≤k)∧Aside0 (RI_ w' w.heap.size (nb2_ uy uv) ux xx_1)∧Aside0 (RI_ w' w.heap.size (nb2_ ux uv) uy xy_1)∧Aside0 (RI_ w' w.heap.size (nb2_ ux uy) uv xv_1)∧Aside0 (w'.heap[gbr]? =some (.cells #[(.slice none 0 0),(.slice none 0 0),(.slice none 0 0)] 38 (0,0)))∧Aside0 (w'.heap[gbn]? =some (.cells #[ux,uy,uv] 38 (0,0)))∧Aside0 (IsS86 w0 w' g s0_0 xB_1 xC_1)∧Aside0 (KeepBut w w' g none)∧Aside0 (Below w0.heap.size w0 w'))
   case atStart=>exact⟨(0),(thw),(thx),(ta3),(tdh),(td1),(.slice Ao8 ta3.length co8),(.slice Ao12 tdh.length co12),(.slice Ao13 td1.length co13),z9_,H',⟨Nat.le_refl _⟩,⟨z213_⟩,⟨z214_⟩,⟨z215_⟩,⟨z48_⟩,⟨z129_⟩,⟨z25_⟩,⟨z29_⟩,⟨z26_⟩⟩
   case round=>
    clear H';obtain⟨x5_1,xB_1,xC_1,xx_1,xy_1,xv_1,ux,uy,uv,rfl,HA,HK1,HO_x,HO_y,HO_v,BKr,BKn,HI0,HK,HB⟩:=hrel;cases gk with
    |zero=>exact absurd HA.out (by simp[spec_l7Cost.l1])
    | succ k1=>
     have H:=HA.out;clear HA;simp only[spec_l7Cost.l1] at H;by_cases c56:x5_1<6
     ·rw [if_pos c56] at H;have c56b0:=decide_eq_true c56;clear c56;replace H:=be_ H;obtain⟨⟨tcq,tge,tgf⟩,Af6,H⟩:=H
      try dsimp only at H
      have A57:=am_ Af6;clear Af6;obtain⟨c58b0,H⟩:=ifd_ H;obtain⟨c59b0,H⟩:=ifd_ H
      (generalize hy_:((xx_1.set (x5_1:Int).toNat tcq):List Int)=yhy at H;have Nyhy:=am_ hy_.symm;clear hy_)
      replace H:=be_ H;obtain⟨⟨te7,tjF,tjG⟩,Ahn,H⟩:=H
      try dsimp only at H
      have A61:=am_ Ahn;clear Ahn;obtain⟨c62b0,H⟩:=ifd_ H
      (generalize hy_:((xy_1.set (x5_1:Int).toNat te7):List Int)=yiA at H;have NyiA:=am_ hy_.symm;clear hy_)
      have H':=am_ H;clear H
      try go_wp2
      replace HO_x:=am_ (R_drew HO_x.out);replace HO_y:=am_ (R_drew HO_y.out);replace HO_v:=am_ (R_drew HO_v.out);replace BKr:=am_ (blk_drew BKr.out);replace BKn:=am_ (blk_drew BKn.out);replace HI0:=am_ (IsS86.drew HI0.out);replace HK:=am_ (keep_drew HK.out);replace HB:=am_ (below_drew1 HB.out);refine start_ (n:=7) (S:=fun w'=>w'.cell? ⟨gbn,0,none⟩=some (ux)∧w'.cell? ⟨gbn,1,none⟩=some (uy)∧w'.cell? ⟨gbn,2,none⟩=some (uv)) (ds:=[6]) (fl_ 7 0) y0_ rfl (fl_zero _) ⟨(blk_cell BKn.out 0).trans rfl,(blk_cell BKn.out 1).trans rfl,(blk_cell BKn.out 2).trans rfl⟩ (fun hh=>?_);generalize wr.drew=w64 at HO_x HO_y HO_v BKr BKn HI0 HK HB hh⊢;refine pure_ (i:=0) (N:=some 37) (v:=?_) (a':=?_) #[true,false,false,false,false,false,false] rfl rfl y0_ (fun _ _ _ h=>h) (Or.inl ⟨by rfl,?_⟩) ?_ ?_;rotate_left
      ·intro w';go_simp
       with_reducible rfl
      rotate_left
      ·simp only[Act.put,List.setIfInBounds_toArray,List.set_cons_zero,List.set_cons_succ,i64_w,i32_w];rfl
      refine pure_ (i:=2) (N:=some 39) (v:=?_) (a':=?_) #[true,false,true,false,false,false,false] rfl rfl y0_ (fun _ _ _ h=>h) (Or.inl ⟨by rfl,?_⟩) ?_ ?_;rotate_left
      ·intro w';go_simp
       with_reducible rfl
      rotate_left
      ·simp only[Act.put,List.setIfInBounds_toArray,List.set_cons_zero,List.set_cons_succ,i64_w,i32_w];rfl
      refine pure_ (i:=3) (N:=some 40) (v:=?_) (a':=?_) #[true,false,true,true,false,false,false] rfl rfl y0_ (fun _ _ _ h=>h) (Or.inl ⟨by rfl,?_⟩) ?_ ?_;rotate_left
      ·intro w';go_simp
       with_reducible rfl
      rotate_left
      ·simp only[Act.put,List.setIfInBounds_toArray,List.set_cons_zero,List.set_cons_succ,i64_w,i32_w];rfl
      refine take_ (i:=1) (N:=some 38) (v:=?_) (a':=?_) #[true,true,true,true,false,false,false] rfl rfl y0_ (fun _ _ _ h=>h) (Or.inl ⟨by rfl,?_⟩) hh ?_ ?_;rotate_left
      ·rintro w' ⟨s0,s1,s2⟩;go_simp
       with_reducible rfl
      rotate_left
      ·simp only[Act.put,List.setIfInBounds_toArray,List.set_cons_zero,List.set_cons_succ,i64_w,i32_w];rfl
      refine one_ (i:=4) (N:=some 41) (fl_ 7 5) rfl rfl y0_ (by decide) (fun K hK=>?_);refine goes_ Try.func64 y0_ rfl #[.pointer (some ⟨g,0,none⟩),.int .i64 7] (by rfl) rfl rfl z1_ ?_
      with_reducible refine(spec_l1Below.calls g s0_0 xB_1 xC_1 7 tcq tge tgf w0 _ ?s1 ?s2 A57.out).mono ?_
      (case s1=>exact z25_)
      (case s2=>exact z26_)
      rintro e w65 ⟨rfl,hi,hb,hk⟩;refine⟨_,rfl,?_⟩;replace HO_x:=am_ (R_mono (R_keep (IsS86.apart (y1_:IsS86 w0 _ g s0_0 xB_1 xC_1) z158_ (by decide)) hk (fun _ h=>h.2)) (fun _ h=>h.1));replace HO_y:=am_ (R_mono (R_keep (IsS86.apart (y1_:IsS86 w0 _ g s0_0 xB_1 xC_1) z159_ (by decide)) hk (fun _ h=>h.2)) (fun _ h=>h.1));replace HO_v:=am_ (R_mono (R_keep (IsS86.apart (y1_:IsS86 w0 _ g s0_0 xB_1 xC_1) z160_ (by decide)) hk (fun _ h=>h.2)) (fun _ h=>h.1));replace BKr:=am_ (KeepBut.blk hk (g':=gbr) (o:= .cells #[.slice none 0 0,.slice none 0 0,.slice none 0 0] 38 (0,0)) z48_ NBr_0.out (by simp));replace BKn:=am_ (KeepBut.blk hk (g':=gbn) (o:= .cells #[ux,uy,uv] 38 (0,0)) z129_ NBn_0.out (by simp));replace HK:=am_ (KeepBut.trans z29_ hk (.inl rfl));replace HB:=am_ (hb);replace HI0:=am_ (hi)
      (try clear hb)
      (try clear hk)
      (try clear hi)
      have p60:0≤(x5_1:Int):=odt_;have q60:(x5_1:Int)<((xx_1.length:Int):Int):=odt_;obtain⟨go60,co60,eo60,gb60,gl60,cl60,HG60⟩:=R_form HO_x.out (by omega)
      (cases eo60)
      have GB60:=am_ gb60;have GG60:=am_ HG60;clear gb60 gl60 HG60;obtain⟨hx60_0,hf60_0⟩:=R_celln 0 HO_x.out (x5_1:Int) p60 q60;replace p60:=eq_true p60;replace q60:=eq_true q60;have HN0_go60:=am_ ((by have h_:=IsS86.own_ne HI0.out HO_x.out (by decide);intro e_;exact h_ z244_):g≠go60);have HP66:=R_putn HO_x.out (x5_1:Int) tcq;rw[←Nyhy.out] at HP66;have HQ66:=am_ HP66;clear HP66;refine hK.out _ _ ⟨(blk_cell BKn.out 0).trans rfl,(blk_cell BKn.out 1).trans rfl,(blk_cell BKn.out 2).trans rfl⟩ (fun hh=>?_);clear hK K;refine zn_ rfl ?_;refine pure_ (i:=5) (N:=some 42) (v:=?_) (a':=?_) #[true,true,true,true,true,true,false] rfl rfl y0_ (fun _ _ _ h=>h) (Or.inl ⟨by rfl,?_⟩) ?_ ?_;rotate_left
      ·intro w';go_simp
       with_reducible rfl
      rotate_left
      ·simp only[Act.put,List.setIfInBounds_toArray,List.set_cons_zero,List.set_cons_succ,i64_w,i32_w];rfl
      refine last_ (i:=6) (N:=none) (fl_ 7 7) rfl rfl y0_ (by decide) (fun K hK=>?_);refine skip_ (w1:=?_) (by rfl) rfl ?_ ?_;rotate_left
      ·go_simp;rfl
      refine hK.out _ _ ?_;clear hK K;refine done_ y0_ ?_
      try go_wp2
      have n0_:Aside0 (RI_ (w65.setCell ⟨go60,(x5_1:Int).toNat,none⟩ (.int .i64 tcq)) w.heap.size (nb2_ uy uv) (.slice (some ⟨go60,0,none⟩) xx_1.length co60) yhy):=⟨by exact ur_ HQ66.out⟩
      have n1_:Aside0 (RI_ (w65.setCell ⟨go60,(x5_1:Int).toNat,none⟩ (.int .i64 tcq)) w.heap.size (nb2_ (.slice (some ⟨go60,0,none⟩) xx_1.length co60) uv) uy xy_1):=⟨by exact ur_ (R_mono (R_far (p:=⟨go60,(x5_1:Int).toNat,none⟩) (R_mono HO_y.out (fun k_ hk=>(⟨hk,fun e_=>hk.1 z244_⟩:_∧k_≠go60))) (fun _ hk=>hk.2) (.int .i64 tcq)) (fun _ hk=>⟨hk.1.1,hk.1.2⟩))⟩
      have n2_:Aside0 (RI_ (w65.setCell ⟨go60,(x5_1:Int).toNat,none⟩ (.int .i64 tcq)) w.heap.size (nb2_ (.slice (some ⟨go60,0,none⟩) xx_1.length co60) uy) uv xv_1):=⟨by exact ur_ (R_mono (R_far (p:=⟨go60,(x5_1:Int).toNat,none⟩) (R_mono HO_v.out (fun k_ hk=>(⟨hk,fun e_=>hk.1 z244_⟩:_∧k_≠go60))) (fun _ hk=>hk.2) (.int .i64 tcq)) (fun _ hk=>⟨hk.1.1,hk.1.2⟩))⟩
      have n3_:Aside0 ((w65.setCell ⟨go60,(x5_1:Int).toNat,none⟩ (.int .i64 tcq)).heap[gbr]? =some (.cells #[.slice none 0 0,.slice none 0 0,.slice none 0 0] 38 (0,0))):=⟨by refine blk_far ?_ (by have h_:=R_ne HO_x.out BKr.out (by decide);intro e_;exact h_ z244_) _;exact ub_ BKr.out⟩
      have n4_:Aside0 ((w65.setCell ⟨go60,(x5_1:Int).toNat,none⟩ (.int .i64 tcq)).heap[gbn]? =some (.cells #[.slice (some ⟨go60,0,none⟩) xx_1.length co60,uy,uv] 38 (0,0))):=⟨by refine blk_far ?_ (by have h_:=R_ne HO_x.out BKn.out (by decide);intro e_;exact h_ z244_) _;exact ub_ BKn.out⟩
      have n5_:Aside0 (IsS86 w0 (w65.setCell ⟨go60,(x5_1:Int).toNat,none⟩ (.int .i64 tcq)) g s0_0 tge tgf):=⟨by repeat((with_reducible first|exact HI0.out|refine IsS86.far ?_ HN0_go60.out _))⟩
      have n6_:Aside0 (KeepBut w (w65.setCell ⟨go60,(x5_1:Int).toNat,none⟩ (.int .i64 tcq)) g none):=⟨by repeat((with_reducible first|exact HK.out|refine keep_far ?_ GB60.out _))⟩
      have n7_:Aside0 (Below w0.heap.size w0 (w65.setCell ⟨go60,(x5_1:Int).toNat,none⟩ (.int .i64 tcq))):=⟨by repeat((with_reducible first|exact HB.out|refine below_set ?_ (Nat.le_trans HL.out GB60.out)))⟩
      (try clear HO_x)
      (try clear HO_y)
      (try clear HO_v)
      (try clear BKr)
      (try clear BKn)
      (try clear HI0)
      (try clear HK)
      (try clear HB)
      generalize (w65.setCell ⟨go60,(x5_1:Int).toNat,none⟩ (.int .i64 tcq))=w67 at n0_ n1_ n2_ n3_ n4_ n5_ n6_ n7_⊢;have HO_x:=n0_;have HO_y:=n1_;have HO_v:=n2_;have BKr:=n3_;have BKn:=n4_;have HI0:=n5_;have HK:=n6_;have HB:=n7_;clear n0_ n1_ n2_ n3_ n4_ n5_ n6_ n7_;replace HO_x:=am_ (R_drew HO_x.out);replace HO_y:=am_ (R_drew HO_y.out);replace HO_v:=am_ (R_drew HO_v.out);replace BKr:=am_ (blk_drew BKr.out);replace BKn:=am_ (blk_drew BKn.out);replace HI0:=am_ (IsS86.drew HI0.out);replace HK:=am_ (keep_drew HK.out);replace HB:=am_ (below_drew1 HB.out);refine start_ (n:=7) (S:=fun w'=>w'.cell? ⟨gbn,0,none⟩=some (.slice (some ⟨go60,0,none⟩) xx_1.length co60)∧w'.cell? ⟨gbn,1,none⟩=some (uy)∧w'.cell? ⟨gbn,2,none⟩=some (uv)) (ds:=[6]) (fl_ 7 0) y0_ rfl (fl_zero _) ⟨(blk_cell BKn.out 0).trans rfl,(blk_cell BKn.out 1).trans rfl,(blk_cell BKn.out 2).trans rfl⟩ (fun hh=>?_);generalize w67.drew=w68 at HO_x HO_y HO_v BKr BKn HI0 HK HB HQ66 hh⊢;refine pure_ (i:=0) (N:=some 43) (v:=?_) (a':=?_) #[true,false,false,false,false,false,false] rfl rfl y0_ (fun _ _ _ h=>h) (Or.inl ⟨by rfl,?_⟩) ?_ ?_;rotate_left
      ·intro w';go_simp
       with_reducible rfl
      rotate_left
      ·simp only[Act.put,List.setIfInBounds_toArray,List.set_cons_zero,List.set_cons_succ,i64_w,i32_w];rfl
      refine pure_ (i:=2) (N:=some 45) (v:=?_) (a':=?_) #[true,false,true,false,false,false,false] rfl rfl y0_ (fun _ _ _ h=>h) (Or.inl ⟨by rfl,?_⟩) ?_ ?_;rotate_left
      ·intro w';go_simp
       with_reducible rfl
      rotate_left
      ·simp only[Act.put,List.setIfInBounds_toArray,List.set_cons_zero,List.set_cons_succ,i64_w,i32_w];rfl
      refine pure_ (i:=3) (N:=some 46) (v:=?_) (a':=?_) #[true,false,true,true,false,false,false] rfl rfl y0_ (fun _ _ _ h=>h) (Or.inl ⟨by rfl,?_⟩) ?_ ?_;rotate_left
      ·intro w';go_simp
       with_reducible rfl
      rotate_left
      ·simp only[Act.put,List.setIfInBounds_toArray,List.set_cons_zero,List.set_cons_succ,i64_w,i32_w];rfl
      refine take_ (i:=1) (N:=some 44) (v:=?_) (a':=?_) #[true,true,true,true,false,false,false] rfl rfl y0_ (fun _ _ _ h=>h) (Or.inl ⟨by rfl,?_⟩) hh ?_ ?_;rotate_left
      ·rintro w' ⟨s0,s1,s2⟩;go_simp
       with_reducible rfl
      rotate_left
      ·simp only[Act.put,List.setIfInBounds_toArray,List.set_cons_zero,List.set_cons_succ,i64_w,i32_w];rfl
      refine one_ (i:=4) (N:=some 47) (fl_ 7 5) rfl rfl y0_ (by decide) (fun K hK=>?_);refine goes_ Try.func64 y0_ rfl #[.pointer (some ⟨g,0,none⟩),.int .i64 7] (by rfl) rfl rfl z1_ ?_
      with_reducible refine(spec_l1Below.calls g s0_0 tge tgf 7 te7 tjF tjG w0 _ ?s1 ?s2 A61.out).mono ?_
      (case s1=>exact z25_)
      (case s2=>exact z26_)
      rintro e w69 ⟨rfl,hi,hb,hk⟩;refine⟨_,rfl,?_⟩;replace HO_x:=am_ (R_mono (R_keep (IsS86.apart (y1_:IsS86 w0 _ g s0_0 tge tgf) z158_ (by decide)) hk (fun _ h=>h.2)) (fun _ h=>h.1));replace HO_y:=am_ (R_mono (R_keep (IsS86.apart (y1_:IsS86 w0 _ g s0_0 tge tgf) z159_ (by decide)) hk (fun _ h=>h.2)) (fun _ h=>h.1));replace HO_v:=am_ (R_mono (R_keep (IsS86.apart (y1_:IsS86 w0 _ g s0_0 tge tgf) z160_ (by decide)) hk (fun _ h=>h.2)) (fun _ h=>h.1));replace BKr:=am_ (KeepBut.blk hk (g':=gbr) (o:= .cells #[.slice none 0 0,.slice none 0 0,.slice none 0 0] 38 (0,0)) z48_ NBr_0.out (by simp));replace BKn:=am_ (KeepBut.blk hk (g':=gbn) (o:= .cells #[.slice (some ⟨go60,0,none⟩) xx_1.length co60,uy,uv] 38 (0,0)) z129_ NBn_0.out (by simp));replace HK:=am_ (KeepBut.trans z29_ hk (.inl rfl));replace HB:=am_ (hb);replace HI0:=am_ (hi)
      (try clear hb)
      (try clear hk)
      (try clear hi)
      have p63:0≤(x5_1:Int):=odt_;have q63:(x5_1:Int)<((xy_1.length:Int):Int):=odt_;obtain⟨go63,co63,eo63,gb63,gl63,cl63,HG63⟩:=R_form HO_y.out (by omega)
      (cases eo63)
      have GB63:=am_ gb63;have GG63:=am_ HG63;clear gb63 gl63 HG63;obtain⟨hx63_0,hf63_0⟩:=R_celln 0 HO_y.out (x5_1:Int) p63 q63;replace p63:=eq_true p63;replace q63:=eq_true q63;have HN0_go63:=am_ ((by have h_:=IsS86.own_ne HI0.out HO_y.out (by decide);intro e_;exact h_ z244_):g≠go63);have HP70:=R_putn HO_y.out (x5_1:Int) te7;rw[←NyiA.out] at HP70;have HQ70:=am_ HP70;clear HP70;refine hK.out _ _ ⟨(blk_cell BKn.out 0).trans rfl,(blk_cell BKn.out 1).trans rfl,(blk_cell BKn.out 2).trans rfl⟩ (fun hh=>?_);clear hK K;refine zn_ rfl ?_;refine pure_ (i:=5) (N:=some 48) (v:=?_) (a':=?_) #[true,true,true,true,true,true,false] rfl rfl y0_ (fun _ _ _ h=>h) (Or.inl ⟨by rfl,?_⟩) ?_ ?_;rotate_left
      ·intro w';go_simp
       with_reducible rfl
      rotate_left
      ·simp only[Act.put,List.setIfInBounds_toArray,List.set_cons_zero,List.set_cons_succ,i64_w,i32_w];rfl
      refine last_ (i:=6) (N:=none) (fl_ 7 7) rfl rfl y0_ (by decide) (fun K hK=>?_);refine skip_ (w1:=?_) (by rfl) rfl ?_ ?_;rotate_left
      ·go_simp;rfl
      refine hK.out _ _ ?_;clear hK K;refine done_ y0_ ?_
      try go_wp2
      go_loopg [6] k1 (fun kq v6 w'=>∃(x6_2:Int) (xB_2:Int) (xC_2:Int) (xx_2:List Int) (xy_2:List Int) (xv_2:List Int) (ux:Value) (uy:Value) (uv:Value),v6= .int .i64 x6_2∧Aside0 (spec_l7Cost.l2 kq x5_1 x6_2 s0_0 xB_2 xC_2 xx_2 xy_2 xv_2=some (r1,r2,r3,r4,r5))∧Aside0 (kq≤k1)∧Aside0 (RI_ w' w.heap.size (nb2_ uy uv) ux xx_2)∧Aside0 (RI_ w' w.heap.size (nb2_ ux uv) uy xy_2)∧Aside0 (RI_ w' w.heap.size (nb2_ ux uy) uv xv_2)∧Aside0 (w'.heap[gbr]? =some (.cells #[(.slice none 0 0),(.slice none 0 0),(.slice none 0 0)] 38 (0,0)))∧Aside0 (w'.heap[gbn]? =some (.cells #[ux,uy,uv] 38 (0,0)))∧Aside0 (IsS86 w0 w' g s0_0 xB_2 xC_2)∧Aside0 (KeepBut w w' g none)∧Aside0 (Below w0.heap.size w0 w'))
      case atStart=>exact⟨(0),(tjF),(tjG),(yhy),(yiA),(xv_1),(.slice (some ⟨go60,0,none⟩) xx_1.length co60),(.slice (some ⟨go63,0,none⟩) xy_1.length co63),(uv),z9_,H',⟨Nat.le_refl _⟩,⟨by exact ur_ (R_mono (R_far (p:=⟨go63,(x5_1:Int).toNat,none⟩) (R_mono HO_x.out (fun k_ hk=>(⟨hk,fun e_=>hk.1 z244_⟩:_∧k_≠go63))) (fun _ hk=>hk.2) (.int .i64 te7)) (fun _ hk=>⟨hk.1.1,hk.1.2⟩))⟩,⟨by exact ur_ HQ70.out⟩,⟨by exact ur_ (R_mono (R_far (p:=⟨go63,(x5_1:Int).toNat,none⟩) (R_mono HO_v.out (fun k_ hk=>(⟨hk,fun e_=>hk.2 z244_⟩:_∧k_≠go63))) (fun _ hk=>hk.2) (.int .i64 te7)) (fun _ hk=>⟨hk.1.1,hk.1.2⟩))⟩,⟨by refine blk_far ?_ (by have h_:=R_ne HO_y.out BKr.out (by decide);intro e_;exact h_ z244_) _;exact ub_ BKr.out⟩,⟨by refine blk_far ?_ (by have h_:=R_ne HO_y.out BKn.out (by decide);intro e_;exact h_ z244_) _;exact ub_ BKn.out⟩,⟨by repeat((with_reducible first|exact HI0.out|refine IsS86.far ?_ HN0_go63.out _))⟩,⟨by repeat((with_reducible first|exact HK.out|refine keep_far ?_ GB63.out _))⟩,⟨by repeat((with_reducible first|exact HB.out|refine below_set ?_ (Nat.le_trans HL.out GB63.out)))⟩⟩
      case round=>
       clear H';obtain⟨x6_2,xB_2,xC_2,xx_2,xy_2,xv_2,ux,uy,uv,rfl,HA,HK2,HO_x,HO_y,HO_v,BKr,BKn,HI0,HK,HB⟩:=hrel;cases gk with
       |zero=>exact absurd HA.out (by simp[spec_l7Cost.l2])
       | succ k2=>
        have H:=HA.out;clear HA;simp only[spec_l7Cost.l2] at H;by_cases c71:x6_2<6
        ·rw[if_pos c71] at H;have c71b0:=decide_eq_true c71;clear c71;by_cases c72:x5_1=x6_2
         ·rw[if_pos c72] at H;have c72b0:(x5_1==x6_2)=true:=beq_iff_eq.mpr c72;have c72b1:(x5_1 != x6_2)=false:=bne_eq_false_iff_eq.mpr c72;clear c72;have H':=am_ H;clear H;go_wp2
          go_roundg k2
          case measure=>have:=HK1.out;have:=HK2.out;omega
          case rel=>exact⟨(wrap64 (x6_2+1)),(xB_2),(xC_2),(xx_2),(xy_2),(xv_2),(ux),(uy),(uv),z9_,H',⟨z161_⟩,⟨z158_⟩,⟨z159_⟩,⟨z160_⟩,⟨z48_⟩,⟨z129_⟩,⟨z25_⟩,⟨z29_⟩,⟨z26_⟩⟩
         ·rw[if_neg c72] at H;have c72b0:(x5_1==x6_2)=false:=beq_eq_false_iff_ne.mpr c72;have c72b1:(x5_1 != x6_2)=true:=bne_iff_ne.mpr c72
          (generalize hy_:((([0,1,4,9,1000]:List Int)):List Int)=yhz at H;have Nyhz:=am_ hy_.symm;clear hy_)
          replace H:=be_ H;obtain⟨⟨te8,tjH,tjI⟩,AeK,H⟩:=H
          try dsimp only at H
          have A73:=am_ AeK;clear AeK;obtain⟨ji74,hji74⟩:∃j_:Int,(wrap64 ((wrap64 (x5_1*6))+x6_2))=j_:=⟨_,rfl⟩
          rw[hji74] at H;have hji74w:(IntKind.i64.wrap ((wrap64 (x5_1*6))+x6_2))=ji74:=(i64_w _).trans hji74;obtain⟨c75b0,H⟩:=ifd_ H;obtain⟨c76b0,H⟩:=ifd_ H
          (generalize hy_:((xv_2.set ((ji74):Int).toNat te8):List Int)=yiB at H;have NyiB:=am_ hy_.symm;clear hy_)
          have H':=am_ H;clear H
          try go_wp2
          replace HO_x:=am_ (R_drew HO_x.out);replace HO_y:=am_ (R_drew HO_y.out);replace HO_v:=am_ (R_drew HO_v.out);replace BKr:=am_ (blk_drew BKr.out);replace BKn:=am_ (blk_drew BKn.out);replace HI0:=am_ (IsS86.drew HI0.out);replace HK:=am_ (keep_drew HK.out);replace HB:=am_ (below_drew1 HB.out);refine start_ (n:=11) (S:=fun w'=>w'.cell? ⟨gbn,0,none⟩=some (ux)∧w'.cell? ⟨gbn,1,none⟩=some (uy)∧w'.cell? ⟨gbn,2,none⟩=some (uv)) (ds:=[10]) (fl_ 11 0) y0_ rfl (fl_zero _) ⟨(blk_cell BKn.out 0).trans rfl,(blk_cell BKn.out 1).trans rfl,(blk_cell BKn.out 2).trans rfl⟩ (fun hh=>?_);refine with_tabW spec_l7Cost.tab20 spec_l7Cost.bits20 (fun HT_ HW_=>?_);generalize wr.drew=w78 at HO_x HO_y HO_v BKr BKn HI0 HK HB hh⊢;refine yp_ HT_ ?_;refine ypg_ (i:=2) (ra_ [1,1,1,8]) HT_ ?_;refine ypg_ (i:=3) (ra_ [1,1,2,7]) HT_ ?_;refine ypg_ (i:=4) (ra_ [1,1,3,6]) HT_ ?_;refine ypg_ (i:=5) (ra_ [1,1,4,5]) HT_ ?_;refine ypg_ (i:=6) (ra_ [1,1,5,4]) HT_ ?_;refine ytg_ (i:=1) (fl_ 11 7) HT_ HW_ hh ?_ (hy:=z336_);refine one_ (i:=7) (N:=some 63) (fl_ 11 8) rfl rfl (one_of HT_.out y0_) (by decide) (fun K hK=>?_);refine R_lit_step (Kd.int .i64) _ 3 ?hg (N:=63) ?hd (xs:=([0,1,4,9,1000]:List Int)) (inner:=[.int .i64 0,.int .i64 1,.int .i64 4,.int .i64 9,.int .i64 1000]) (ok:=fun _=>True) (okp:=fun _=>True) ?hr ?hp (fun _ hk=>hk) trivial (Below.refl _ _) (Nat.le_refl _) (by simp) ?_;(case hd=>rfl);(case hg=>rfl);(case hr=>exact z14_);(case hp=>exact(Reps.one (show Kd.M (Kd.int .i64) _ _ _ 0 [.int .i64 0] from rfl) (Reps.one (show Kd.M (Kd.int .i64) _ _ _ 1 [.int .i64 1] from rfl) (Reps.one (show Kd.M (Kd.int .i64) _ _ _ 4 [.int .i64 4] from rfl) (Reps.one (show Kd.M (Kd.int .i64) _ _ _ 9 [.int .i64 9] from rfl) (Reps.one (show Kd.M (Kd.int .i64) _ _ _ 1000 [.int .i64 1000] from rfl) (Reps.none _ _)))))));intro vlV w79 ho80 hb hg_ hnew_;clear hg_ hnew_
          (rw[←Nyhz.out] at ho80)
          have HOgg:=am_ (R_lower (R_new' (R_new' (R_new' ho80 (R_lt z158_)) (R_lt z159_)) (R_lt z160_)) (keep_size (w:=w) (g:=g) (row:=none) z29_));replace HO_x:=am_ (R_elder' z158_ (R_base ho80) hb);replace HO_y:=am_ (R_elder' z159_ (R_base ho80) hb);replace HO_v:=am_ (R_elder' z160_ (R_base ho80) hb);replace BKr:=am_ (blk_below z48_ hb);replace BKn:=am_ (blk_below z129_ hb);replace HK:=am_ (KeepBut.trans z29_ (KeepBut.of_below hb g none) (.inl rfl));replace HB:=am_ (below_step z26_ hb);replace HI0:=am_ (IsS86.below z25_ hb);clear hb ho80;obtain⟨Ao81,co81,eo81⟩:=R_slice HOgg.out
          (subst eo81)
          refine hK.out _ _ ⟨(blk_cell BKn.out 0).trans rfl,(blk_cell BKn.out 1).trans rfl,(blk_cell BKn.out 2).trans rfl⟩ (fun hh=>?_);clear hK K;refine zn_ rfl ?_;refine one_ (i:=8) (N:=some 64) (fl_ 11 9) rfl rfl (one_of HT_.out y0_) (by decide) (fun K hK=>?_);refine goes_ Try.func66 y0_ rfl #[.pointer (some ⟨g,0,none⟩),.slice Ao81 yhz.length co81] (by rfl) rfl rfl z1_ ?_
          with_reducible refine(spec_l1PickInt.calls g s0_0 xB_2 xC_2 _ _ yhz te8 tjH tjI w0 _ ?s1 ?s2 ?s3 ?s4 ?s5 A73.out).mono ?_
          (case s1=>exact z25_)
          (case s2=>exact z26_)
          (case s3=>repeat(exact(R_reads' HOgg.out).2.2))
          (case s4=>exact(R_reads' HOgg.out).2.1)
          (case s5=>exact far_slice (IsS86.own_ne HI0.out HOgg.out (by decide)))
          rintro e w82 ⟨rfl,hi,hb,hk⟩;refine⟨_,rfl,?_⟩;replace HO_x:=am_ (R_mono (R_keep (IsS86.apart (y1_:IsS86 w0 _ g s0_0 xB_2 xC_2) z158_ (by decide)) hk (fun _ h=>h.2)) (fun _ h=>h.1));replace HO_y:=am_ (R_mono (R_keep (IsS86.apart (y1_:IsS86 w0 _ g s0_0 xB_2 xC_2) z159_ (by decide)) hk (fun _ h=>h.2)) (fun _ h=>h.1));replace HO_v:=am_ (R_mono (R_keep (IsS86.apart (y1_:IsS86 w0 _ g s0_0 xB_2 xC_2) z160_ (by decide)) hk (fun _ h=>h.2)) (fun _ h=>h.1));replace BKr:=am_ (KeepBut.blk hk (g':=gbr) (o:= .cells #[.slice none 0 0,.slice none 0 0,.slice none 0 0] 38 (0,0)) z48_ NBr_0.out (by simp));replace BKn:=am_ (KeepBut.blk hk (g':=gbn) (o:= .cells #[ux,uy,uv] 38 (0,0)) z129_ NBn_0.out (by simp));replace HOgg:=am_ (R_mono (R_keep (IsS86.apart (y1_:IsS86 w0 _ g s0_0 xB_2 xC_2) (by exact ur_ HOgg.out) (by decide)) hk (fun _ h=>h.2)) (fun _ h=>h.1));replace HK:=am_ (KeepBut.trans z29_ hk (.inl rfl));replace HB:=am_ (hb);replace HI0:=am_ (hi)
          (try clear hb)
          (try clear hk)
          (try clear hi)
          have p77:0≤((ji74):Int):=odt_;have q77:((ji74):Int)<((xv_2.length:Int):Int):=odt_;obtain⟨go77,co77,eo77,gb77,gl77,cl77,HG77⟩:=R_form HO_v.out (by omega)
          (cases eo77)
          have GB77:=am_ gb77;have GG77:=am_ HG77;clear gb77 gl77 HG77;obtain⟨hx77_0,hf77_0⟩:=R_celln 0 HO_v.out ((ji74):Int) p77 q77;replace p77:=eq_true p77;replace q77:=eq_true q77;have HN0_go77:=am_ ((by have h_:=IsS86.own_ne HI0.out HO_v.out (by decide);intro e_;exact h_ z244_):g≠go77);have HP83:=R_putn HO_v.out ((ji74):Int) te8;rw[←NyiB.out] at HP83;have HQ83:=am_ HP83;clear HP83;refine hK.out _ _ ⟨(blk_cell BKn.out 0).trans rfl,(blk_cell BKn.out 1).trans rfl,(blk_cell BKn.out 2).trans rfl⟩ (fun hh=>?_);clear hK K;refine zn_ rfl ?_;refine yp_ HT_ ?_;refine last_ (i:=10) (N:=none) (fl_ 11 11) rfl rfl (one_of HT_.out y0_) (by decide) (fun K hK=>?_);refine skip_ (w1:=?_) (by rfl) rfl ?_ ?_;rotate_left
          ·go_simp;rfl
          refine hK.out _ _ ?_;clear hK K;refine done_ (done_of HT_.out y0_) ?_
          try go_wp2
          go_roundg k2
          case measure=>have:=HK1.out;have:=HK2.out;omega
          case rel=>exact⟨(wrap64 (x6_2+1)),(tjH),(tjI),(xx_2),(xy_2),(yiB),(ux),(uy),(.slice (some ⟨go77,0,none⟩) xv_2.length co77),z9_,H',⟨z161_⟩,⟨by exact ur_ (R_mono (R_far (p:=⟨go77,((ji74):Int).toNat,none⟩) (R_mono HO_x.out (fun k_ hk=>(⟨hk,fun e_=>hk.1.2 z244_⟩:_∧k_≠go77))) (fun _ hk=>hk.2) (.int .i64 te8)) (fun _ hk=>⟨hk.1.1.1,hk.1.1.2⟩))⟩,⟨by exact ur_ (R_mono (R_far (p:=⟨go77,((ji74):Int).toNat,none⟩) (R_mono HO_y.out (fun k_ hk=>(⟨hk,fun e_=>hk.1.2 z244_⟩:_∧k_≠go77))) (fun _ hk=>hk.2) (.int .i64 te8)) (fun _ hk=>⟨hk.1.1.1,hk.1.1.2⟩))⟩,⟨by exact ur_ (R_mono HQ83.out (fun _ hk=>⟨hk.1.1,hk.1.2⟩))⟩,⟨z179_⟩,⟨z180_⟩,⟨by repeat((with_reducible first|exact HI0.out|refine IsS86.far ?_ HN0_go77.out _))⟩,⟨by repeat((with_reducible first|exact HK.out|refine keep_far ?_ GB77.out _))⟩,⟨by repeat((with_reducible first|exact HB.out|refine below_set ?_ (Nat.le_trans HL.out GB77.out)))⟩⟩
        ·rw[if_neg c71] at H;have c71b0:=decide_eq_false c71;clear c71;have H':=am_ H;clear H;go_wp2
         go_roundg k2
         case measure=>have:=HK1.out;have:=HK2.out;omega
         case rel=>exact⟨(wrap64 (x5_1+1)),(xB_2),(xC_2),(xx_2),(xy_2),(xv_2),(ux),(uy),(uv),z9_,H',⟨z161_⟩,⟨z158_⟩,⟨z159_⟩,⟨z160_⟩,⟨z48_⟩,⟨z129_⟩,⟨z25_⟩,⟨z29_⟩,⟨z26_⟩⟩
     ·rw[if_neg c56] at H;have c56b0:=decide_eq_false c56;clear c56;simp only[Option.some.injEq,Prod.mk.injEq] at H;obtain⟨rfl,rfl,rfl,rfl,rfl⟩:=H;have hnb84:=NBn_r.out;have hnc84:=NBr_n.out;have hnb85:=NBn_0.out;have hnc85:=NB0_n.out;obtain⟨hcz86_0,hcz86_1,hcz86_2,hfz86_0,hfz86_1,hfz86_2⟩:=bx3_ BKn.out;obtain⟨Ao87,co87,eo87⟩:=R_slice HO_x.out;subst eo87;have hnb88:=NBr_0.out;have hnc88:=NB0_r.out;obtain⟨hcz89_0,hcz89_1,hcz89_2,hfz89_0,hfz89_1,hfz89_2⟩:=bx3_ BKr.out;obtain⟨Ao90,co90,eo90⟩:=R_slice HO_y.out;subst eo90;obtain⟨Ao91,co91,eo91⟩:=R_slice HO_v.out;subst eo91;go_wp2;refine bodyPost_ret (results_cell_row rfl _ _ gbr 38 #[.slice Ao87 xx_1.length co87,.slice Ao90 xy_1.length co90,.slice Ao91 xv_1.length co91] (0,0) _ rfl (by refine ub_ (blk_put (cs:=#[.slice Ao87 xx_1.length co87,.slice Ao90 xy_1.length co90,.slice none 0 0]) ?_ 2 _ rfl);refine ub_ (blk_put (cs:=#[.slice Ao87 xx_1.length co87,.slice none 0 0,.slice none 0 0]) ?_ 1 _ rfl);refine ub_ (blk_put (cs:=#[.slice none 0 0,.slice none 0 0,.slice none 0 0]) ?_ 0 _ rfl);exact ub_ BKr.out) Try.underlying38 rfl y0_) rfl ?_;exact⟨_,_,_,z7_,by exact ur_ (R_mono (R_far (p:=⟨gbr,2,none⟩) (R_far (p:=⟨gbr,1,none⟩) (R_far (p:=⟨gbr,0,none⟩) (R_types HO_x.out BKr.out (by decide)) (fun _ hk=>hk.2) (.slice Ao87 xx_1.length co87)) (fun _ hk=>hk.2) (.slice Ao90 xy_1.length co90)) (fun _ hk=>hk.2) (.slice Ao91 xv_1.length co91)) (fun _ hk=>⟨hk.1.1,hk.1.2⟩)),by exact ur_ (R_mono (R_far (p:=⟨gbr,2,none⟩) (R_far (p:=⟨gbr,1,none⟩) (R_far (p:=⟨gbr,0,none⟩) (R_types HO_y.out BKr.out (by decide)) (fun _ hk=>hk.2) (.slice Ao87 xx_1.length co87)) (fun _ hk=>hk.2) (.slice Ao90 xy_1.length co90)) (fun _ hk=>hk.2) (.slice Ao91 xv_1.length co91)) (fun _ hk=>⟨hk.1.1,hk.1.2⟩)),by exact ur_ (R_mono (R_far (p:=⟨gbr,2,none⟩) (R_far (p:=⟨gbr,1,none⟩) (R_far (p:=⟨gbr,0,none⟩) (R_types HO_v.out BKr.out (by decide)) (fun _ hk=>hk.2) (.slice Ao87 xx_1.length co87)) (fun _ hk=>hk.2) (.slice Ao90 xy_1.length co90)) (fun _ hk=>hk.2) (.slice Ao91 xv_1.length co91)) (fun _ hk=>⟨hk.1.1,hk.1.2⟩)),z25_,z26_,z29_⟩

end Go.Proofs.Ytbmkobanpakohaa.PFnNear
