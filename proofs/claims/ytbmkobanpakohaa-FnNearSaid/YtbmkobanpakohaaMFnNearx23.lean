/- Walks of functions of FnNear, laid anew out of the kit's print. -/
import Derived.Test.YtbmkobanpakohaaMFnNearx0
import Derived.Test.YtbmkobanpakohaaMFnNearx6
import Derived.Test.YtbmkobanpakohaaMFnNearx7
import Derived.Test.YtbmkobanpakohaaMFnNearx8
import Derived.Test.YtbmkobanpakohaaMFnNearx16
import Derived.Test.YtbmkobanpakohaaMFnNearx20
import Derived.Test.YtbmkobanpakohaaMFnNearx22
namespace Go.Proofs.Ytbmkobanpakohaa.PFnNear
open Go.RowKit Go.Proofs.YtbmkobanpakohaaW.PrintWords Go.Proofs.YtbmkobanpakohaaW.PrintLast Go.Proofs.YtbmkobanpakohaaW.PrintMore Go.Proofs.YtbmkobanpakohaaW.PrintWords.Kd Go.Proofs.YtbmkobanpakohaaW.PrintMore.Kd
set_option maxHeartbeats 8000000
set_option maxRecDepth 100000
attribute [local go_sem] max2_int min2_int max_two min_two max_three min_three max_four min_four
set_option linter.unusedVariables false
set_option linter.unusedSimpArgs false

/-! ### laws_FnNear: function 7 -/
mutual
def laws_FnNear.j0:Nat→List Int→List (S61)→List (S61)→Int→Bool→Option (Bool)
 |0,_,_,_,_,_=>none
 |k+1,x0,x3,x4,x5,x27=>if x27=true then (if x5<1 then (some false) else (if x5>100 then (some false) else ((spec_SameTree.f k x3 x4).bind fun tiI=>(if tiI=true then (if x5=100 then ((impl_Similarity.f k x4 x3).bind fun tfd=>(if x5=tfd then (laws_FnNear.j1 k x0) else (some false))) else (some false)) else ((impl_Similarity.f k x4 x3).bind fun tfe=>(if x5=tfe then (laws_FnNear.j1 k x0) else (some false))))))) else (if x5=(-1) then (laws_FnNear.j1 k x0) else (some false))
def laws_FnNear.j1:Nat→List Int→Option (Bool)
 |0,_=>none
 |k+1,x0=>(spec_DrawNearest.f k x0).bind fun btQ=>((impl_Nearest.f k btQ.1 btQ.2.1 btQ.2.2.1 btQ.2.2.2.1 btQ.2.2.2.2).bind fun tT=>((spec_Nearest.f k btQ.1 btQ.2.1 btQ.2.2.1 btQ.2.2.2.1 btQ.2.2.2.2).bind fun tff=>(if tT=tff then (laws_FnNear.l0 k btQ.1 btQ.2.1 tT 0 btQ.2.2.1 btQ.2.2.2.1 btQ.2.2.2.2) else (some false))))
def laws_FnNear.l0:Nat→List (List (S61))→List (S61)→Int→Int→List Int→List Int→List Int→Option (Bool)
 |0,_,_,_,_,_,_,_=>none
 |k+1,x6,x7,x9,x10,xaP,xaQ,xaR=>if x10<(x6.length:Int) then (laws_FnNear.j3 k x6 x7 x9 x10 (decide (x9≥0)) xaP xaQ xaR) else (laws_FnNear.j3 k x6 x7 x9 x10 false xaP xaQ xaR)
def laws_FnNear.j3:Nat→List (List (S61))→List (S61)→Int→Int→Bool→List Int→List Int→List Int→Option (Bool)
 |0,_,_,_,_,_,_,_,_=>none
 |k+1,x6,x7,x9,x10,x75,xaP,xaQ,xaR=>if x75=true then (if 0≤x10 then (if x10<(x6.length:Int) then ((impl_RootDist.f k (rd_L3 x6 x10) x7 xaP xaQ xaR).bind fun tej=>(if tej≥0 then (if 0≤x9 then (if x9<(x6.length:Int) then ((impl_RootDist.f k (rd_L3 x6 x9) x7 xaP xaQ xaR).bind fun tfO=>(if tej<tfO then (some false) else (if x10<x9 then ((impl_RootDist.f k (rd_L3 x6 x9) x7 xaP xaQ xaR).bind fun tfg=>(if tej=tfg then (some false) else (laws_FnNear.l0 k x6 x7 x9 (wrap64 (x10+1)) xaP xaQ xaR))) else (laws_FnNear.l0 k x6 x7 x9 (wrap64 (x10+1)) xaP xaQ xaR)))) else (none)) else (none)) else (laws_FnNear.l0 k x6 x7 x9 (wrap64 (x10+1)) xaP xaQ xaR))) else (none)) else (none)) else (some true)
end
def laws_FnNear.f (k:Nat) (l0:List Int):Option (Bool):=(laws_big.f l0).bind fun tgP=>(if tgP=true then (some true) else ((spec_DrawSimilarity.f k l0).bind fun btaZ=>((impl_Similarity.f k btaZ.1 btaZ.2).bind fun tbk=>((spec_TreeOk.f k btaZ.1).bind fun tgQ=>(if tgQ=true then ((spec_TreeOk.f k btaZ.2).bind fun tgh=>(laws_FnNear.j0 k l0 btaZ.1 btaZ.2 tbk tgh)) else (laws_FnNear.j0 k l0 btaZ.1 btaZ.2 tbk false))))))
def laws_FnNear.T17:Bool×List (List Nat×List Nat):=(true,[([],[]),([],[]),([0,1],[0,1]),([2],[2]),([],[]),([],[]),([3,4,5],[3,4,5]),([6,6,0,1,2,3,4,5,6],[6])])
def laws_FnNear.B17:List Nat:=[0,0,3,7,0,0,63,127]
theorem laws_FnNear.tab17:rtab .any (opsOf Try.f7 17)=laws_FnNear.T17:=by kernel_rfl
theorem laws_FnNear.bits17:waitsOk laws_FnNear.T17.2 laws_FnNear.B17=true:=by kernel_rfl
def laws_FnNear.T18:Bool×List (List Nat×List Nat):=(true,[([],[]),([0],[0]),([1],[1]),([2],[2]),([2],[2]),([2],[2]),([4,5,2],[2,4,5]),([6,2],[2,6]),([2],[2]),([2],[2]),([7,8,9,2,2],[2,7,8,9]),([3,10,2],[2,3,10]),([11,10,2],[2,11]),([12],[12]),([12],[12]),([13,14,12],[12,13,14]),([15,12,12],[12,15]),([16],[16]),([16],[16]),([16],[16]),([18,19,16],[16,18,19]),([20,16],[16,20]),([16],[16]),([16],[16]),([21,22,23,16,16],[16,21,22,23]),([17,24,16],[16,17,24]),([16,25,12],[12,16,25]),([12,26,2],[2,12,26]),([2,27],[2,27])])
def laws_FnNear.B18:List Nat:=[0,1,3,7,7,7,55,119,7,7,1015,2047,4095,8191,8191,32767,65535,131071,131071,131071,917503,1966079,131071,131071,16646143,33554431,67108863,134217727,268435455]
theorem laws_FnNear.tab18:rtab .any (opsOf Try.f7 18)=laws_FnNear.T18:=by kernel_rfl
theorem laws_FnNear.bits18:waitsOk laws_FnNear.T18.2 laws_FnNear.B18=true:=by kernel_rfl
theorem laws_FnNear.calls (k:Nat) (A0:Option Addr) (c0:Nat) (l0:List Int) (r:Bool) (w:World) (hr0:Kd.C (Kd.int .u8) w A0 l0.length l0) (hc0:l0.length≤c0) (h:laws_FnNear.f k l0=some r):
  Calls Try.prog 7 #[.slice A0 l0.length c0] w fun e w'=>e= .returned (.bool r)∧Below w.heap.size w w':=by
 have hu38:=Try.underlying38;have HR0:=am_ hr0;have HC0:=am_ hc0;clear hr0 hc0;have HB:=am_ (Below.refl w.heap.size w);have H:((laws_big.f l0).bind fun tgP=>(if tgP=true then (some true) else ((spec_DrawSimilarity.f k l0).bind fun btaZ=>((impl_Similarity.f k btaZ.1 btaZ.2).bind fun tbk=>((spec_TreeOk.f k btaZ.1).bind fun tgQ=>(if tgQ=true then ((spec_TreeOk.f k btaZ.2).bind fun tgh=>(laws_FnNear.j0 k l0 btaZ.1 btaZ.2 tbk tgh)) else (laws_FnNear.j0 k l0 btaZ.1 btaZ.2 tbk false)))))))=some r:=h;clear h;obtain⟨tgP,A2,H⟩:=bnd_ H;by_cases c3:tgP=true
 ·subst c3;replace H:=ift_ H;obtain rfl:=Option.some.inj H;go_enter Try.func7,Try.ntmps7
  go_wp2_with (first|((with_reducible refine gate_callee (f:=24) rfl ?_);refine goesL_ (some 13) rfl rfl Try.func24 y0_ rfl #[.slice A0 l0.length c0] rfl z1_ ?_;(with_reducible refine(laws_big.calls _ _ l0 true _ ?s1 ?s2 A2.out).mono ?_);(case s1=>exact z43_);(case s2=>exact HC0.out);rintro e w' ⟨rfl,⟨nd,rfl⟩⟩;refine⟨_,rfl,?_⟩))
  go_ret;exact⟨z7_,z0_⟩
 ·replace c3 := Bool.eq_false_iff.mpr c3;subst c3;replace H:=iff_ H;replace H:=be_ H;obtain⟨⟨taZ,tcK⟩,A40,H⟩:=H
  try dsimp only at H
  have A4:=am_ A40;clear A40;obtain⟨tbk,A5,H⟩:=bnd_ H;have HC6:=am_ H;clear H;go_enter Try.func7,Try.ntmps7
  go_upto_region 5 with (first|((with_reducible refine gate_callee (f:=24) rfl ?_);refine goesL_ (some 13) rfl rfl Try.func24 y0_ rfl #[.slice A0 l0.length c0] rfl z1_ ?_;(with_reducible refine(laws_big.calls _ _ l0 false _ ?s1 ?s2 A2.out).mono ?_);(case s1=>exact z43_);(case s2=>exact HC0.out);rintro e w' ⟨rfl,⟨nd,rfl⟩⟩;refine⟨_,rfl,?_⟩)|((with_reducible refine gate_callee (f:=27) rfl ?_);refine goesL_ (some 16) rfl rfl Try.func27 y0_ rfl #[.slice A0 l0.length c0] rfl z1_ ?_;(with_reducible refine(spec_DrawSimilarity.calls k _ _ l0 taZ tcK _ ?s1 ?s2 A4.out).mono ?_);(case s1=>exact z43_);(case s2=>exact HC0.out);rintro e w7 ⟨vl4,vl5,rfl,ho0,ho1,hb⟩;refine⟨_,rfl,?_⟩;have HOeA:=am_ (Q_lower ho0 (below_size z0_));have HOeJ:=am_ (R_lower ho1 (below_size z0_));replace HB:=am_ (below_step z0_ hb);(try clear hb ho0 ho1);obtain⟨Ao8,co8,eo8,_⟩:=Q_slice HOeA.out;subst eo8;obtain⟨Ao9,co9,eo9⟩:=R_slice HOeJ.out;subst eo9)|((with_reducible refine gate_callee (f:=12) rfl ?_);refine goesL_ (some 21) rfl rfl Try.func12 y0_ rfl #[.slice Ao8 taZ.length co8,.slice Ao9 tcK.length co9] rfl z1_ ?_;(with_reducible refine(impl_Similarity.calls k _ _ taZ _ _ tcK tbk _ ?s1 ?s2 ?s3 ?s4 A5.out).mono ?_);(case s1=>exact z222_);(case s2=>exact(Q_reads' HOeA.out).2.1);(case s3=>exact z283_);(case s4=>exact(R_reads' HOeJ.out).2.1);rintro e w10 ⟨rfl,hb⟩;refine⟨_,rfl,?_⟩;replace HOeA:=am_ (Q_below z191_ hb);replace HOeJ:=am_ (R_below z192_ hb);replace HB:=am_ (below_step z0_ hb);(try clear hb)))
  (try simp only[Act.put,List.setIfInBounds_toArray,List.set_cons_zero,List.set_cons_succ])
  go_cut [27] (fun v27 wc=>∃(kq:Nat) (x27_5:Bool),v27= .bool x27_5∧Aside0 (laws_FnNear.j0 kq l0 taZ tcK tbk x27_5=some r)∧Aside0 (kq≤k)∧Aside0 (Kd.Q k61 61 wc w.heap.size (nb1_ (.slice Ao9 tcK.length co9)) (.slice Ao8 taZ.length co8) taZ)∧Aside0 (Kd.R k61 61 wc w.heap.size (nb1_ (.slice Ao8 taZ.length co8)) (.slice Ao9 tcK.length co9) tcK)∧Aside0 (Below w.heap.size w wc))
  case first=>
   have H:=HC6.out;clear HC6;obtain⟨tgQ,A11,H⟩:=bnd_ H;by_cases c12:tgQ=true
   ·subst c12;replace H:=ift_ H;obtain⟨tgh,A13,H⟩:=bnd_ H;have H':=am_ H;clear H
    go_wp2_with (first|((with_reducible refine gate_callee (f:=28) rfl ?_);refine goesL_ (some 23) rfl rfl Try.func28 y0_ rfl #[.slice Ao8 taZ.length co8] rfl z1_ ?_;(with_reducible refine(spec_TreeOk.calls k _ _ taZ true _ ?s1 ?s2 A11.out).mono ?_);(case s1=>exact z222_);(case s2=>exact(Q_reads' HOeA.out).2.1);rintro e w14 ⟨rfl,hb⟩;refine⟨_,rfl,?_⟩;replace HOeA:=am_ (Q_below z191_ hb);replace HOeJ:=am_ (R_below z192_ hb);replace HB:=am_ (below_step z0_ hb);(try clear hb))|(go_at_call 28;(with_reducible refine(spec_TreeOk.calls k _ _ tcK tgh _ ?s1 ?s2 A13.out).mono ?_);(case s1=>exact z283_);(case s2=>exact(R_reads' HOeJ.out).2.1);rintro e w15 ⟨rfl,hb⟩;replace HOeA:=am_ (Q_below z191_ hb);replace HOeJ:=am_ (R_below z192_ hb);replace HB:=am_ (below_step z0_ hb);(try clear hb)))
    go_meet
    case rel=>exact⟨_,(tgh),z9_,H',⟨z189_⟩,⟨z191_⟩,⟨z192_⟩,⟨z0_⟩⟩
   ·replace c12:=Bool.eq_false_iff.mpr c12;subst c12;replace H:=iff_ H;have H':=am_ H;clear H
    go_wp2_with (first|((with_reducible refine gate_callee (f:=28) rfl ?_);refine goesL_ (some 23) rfl rfl Try.func28 y0_ rfl #[.slice Ao8 taZ.length co8] rfl z1_ ?_;(with_reducible refine(spec_TreeOk.calls k _ _ taZ false _ ?s1 ?s2 A11.out).mono ?_);(case s1=>exact z222_);(case s2=>exact(Q_reads' HOeA.out).2.1);rintro e w16 ⟨rfl,hb⟩;refine⟨_,rfl,?_⟩;replace HOeA:=am_ (Q_below z191_ hb);replace HOeJ:=am_ (R_below z192_ hb);replace HB:=am_ (below_step z0_ hb);(try clear hb)))
    go_meet
    case rel=>exact⟨_,(false),z9_,H',⟨z189_⟩,⟨z191_⟩,⟨z192_⟩,⟨z0_⟩⟩
  case rest =>
   clear HC6;obtain⟨kq,x27_5,rfl,HA,HJ5,HO_3,HO_4,HB⟩:=hcut;cases kq with
   |zero=>exact absurd HA.out (by simp[laws_FnNear.j0])
   | succ kj5 =>
    have H:=HA.out;clear HA;simp only[laws_FnNear.j0] at H;have HC17:=am_ H;clear H
    go_upto_if 27 with (fail)
    go_cut [] (fun wc=>∃(kq:Nat),Aside0 (laws_FnNear.j1 kq l0=some r)∧Aside0 (kq≤kj5)∧Aside0 (Below w.heap.size w wc))
    case first=>
     have H:=HC17.out;clear HC17;by_cases c18:x27_5=true
     ·subst c18;replace H:=ift_ H;by_cases c19:tbk<1
      ·rw[if_pos c19] at H;have c19b0:=decide_eq_true c19;clear c19
       (first|rw[c19b0]|rw[c19b1]|(simp only[i64_w,i32_w];rw[c19b0])|skip)
       obtain rfl:=Option.some.inj H;go_wp2;go_ret;exact⟨z7_,z0_⟩
      ·rw [if_neg c19] at H;have c19b0:=decide_eq_false c19;clear c19
       (first|rw[c19b0]|rw[c19b1]|(simp only[i64_w,i32_w];rw[c19b0])|skip)
       by_cases c20:tbk>100
       ·rw[if_pos c20] at H;have c20b0:=decide_eq_true c20;clear c20;obtain rfl:=Option.some.inj H;go_wp2;go_ret;exact⟨z7_,z0_⟩
       ·rw [if_neg c20] at H;have c20b0:=decide_eq_false c20;clear c20;obtain⟨tiI,A21,H⟩:=bnd_ H;by_cases c22:tiI=true
        ·subst c22;replace H:=ift_ H;by_cases c23:tbk=100
         ·rw[if_pos c23] at H;have c23b0:(tbk==100)=true:=beq_iff_eq.mpr c23;have c23b1:(tbk != 100)=false:=bne_eq_false_iff_eq.mpr c23;clear c23;obtain⟨tfd,A24,H⟩:=bnd_ H;by_cases c25:tbk=tfd
          ·rw[if_pos c25] at H;have c25b0:(tbk==tfd)=true:=beq_iff_eq.mpr c25;have c25b1:(tbk != tfd)=false:=bne_eq_false_iff_eq.mpr c25;clear c25;have H':=am_ H;clear H
           go_wp2_with (first|(go_at_call 29;(with_reducible refine(spec_SameTree.calls kj5 _ _ taZ _ _ tcK true _ ?s1 ?s2 ?s3 ?s4 A21.out).mono ?_);(case s1=>exact z88_);(case s2=>exact z329_);(case s3=>exact z89_);(case s4=>exact z308_);rintro e w' ⟨rfl,⟨nd,rfl⟩⟩)|(go_at_call 12;(with_reducible refine(impl_Similarity.calls kj5 _ _ tcK _ _ taZ tfd _ ?s1 ?s2 ?s3 ?s4 A24.out).mono ?_);(case s1=>exact z89_);(case s2=>exact z308_);(case s3=>exact z88_);(case s4=>exact z329_);rintro e w26 ⟨rfl,hb⟩;replace HO_3:=am_ (Q_below z255_ hb);replace HO_4:=am_ (R_below z27_ hb);replace HB:=am_ (below_step z0_ hb);(try clear hb)))
           go_meet
           case rel=>exact⟨_,H',⟨z373_⟩,⟨z0_⟩⟩
          ·rw[if_neg c25] at H;have c25b0:(tbk==tfd)=false:=beq_eq_false_iff_ne.mpr c25;have c25b1:(tbk != tfd)=true:=bne_iff_ne.mpr c25;obtain rfl:=Option.some.inj H
           go_wp2_with (first|(go_at_call 29;(with_reducible refine(spec_SameTree.calls kj5 _ _ taZ _ _ tcK true _ ?s1 ?s2 ?s3 ?s4 A21.out).mono ?_);(case s1=>exact z88_);(case s2=>exact z329_);(case s3=>exact z89_);(case s4=>exact z308_);rintro e w' ⟨rfl,⟨nd,rfl⟩⟩)|(go_at_call 12;(with_reducible refine(impl_Similarity.calls kj5 _ _ tcK _ _ taZ tfd _ ?s1 ?s2 ?s3 ?s4 A24.out).mono ?_);(case s1=>exact z89_);(case s2=>exact z308_);(case s3=>exact z88_);(case s4=>exact z329_);rintro e w27 ⟨rfl,hb⟩;replace HO_3:=am_ (Q_below z255_ hb);replace HO_4:=am_ (R_below z27_ hb);replace HB:=am_ (below_step z0_ hb);(try clear hb)))
           go_ret;exact⟨z7_,z0_⟩
         ·rw[if_neg c23] at H;have c23b0:(tbk==100)=false:=beq_eq_false_iff_ne.mpr c23;have c23b1:(tbk != 100)=true:=bne_iff_ne.mpr c23;obtain rfl:=Option.some.inj H
          go_wp2_with (first|(go_at_call 29;(with_reducible refine(spec_SameTree.calls kj5 _ _ taZ _ _ tcK true _ ?s1 ?s2 ?s3 ?s4 A21.out).mono ?_);(case s1=>exact z88_);(case s2=>exact z329_);(case s3=>exact z89_);(case s4=>exact z308_);rintro e w' ⟨rfl,⟨nd,rfl⟩⟩))
          go_ret;exact⟨z7_,z0_⟩
        ·replace c22:=Bool.eq_false_iff.mpr c22;subst c22;replace H:=iff_ H;obtain⟨tfe,A28,H⟩:=bnd_ H;by_cases c29:tbk=tfe
         ·rw[if_pos c29] at H;have c29b0:(tbk==tfe)=true:=beq_iff_eq.mpr c29;have c29b1:(tbk != tfe)=false:=bne_eq_false_iff_eq.mpr c29;clear c29;have H':=am_ H;clear H
          go_wp2_with (first|(go_at_call 29;(with_reducible refine(spec_SameTree.calls kj5 _ _ taZ _ _ tcK false _ ?s1 ?s2 ?s3 ?s4 A21.out).mono ?_);(case s1=>exact z88_);(case s2=>exact z329_);(case s3=>exact z89_);(case s4=>exact z308_);rintro e w' ⟨rfl,⟨nd,rfl⟩⟩)|(go_at_call 12;(with_reducible refine(impl_Similarity.calls kj5 _ _ tcK _ _ taZ tfe _ ?s1 ?s2 ?s3 ?s4 A28.out).mono ?_);(case s1=>exact z89_);(case s2=>exact z308_);(case s3=>exact z88_);(case s4=>exact z329_);rintro e w30 ⟨rfl,hb⟩;replace HO_3:=am_ (Q_below z255_ hb);replace HO_4:=am_ (R_below z27_ hb);replace HB:=am_ (below_step z0_ hb);(try clear hb)))
          go_meet
          case rel=>exact⟨_,H',⟨z373_⟩,⟨z0_⟩⟩
         ·rw[if_neg c29] at H;have c29b0:(tbk==tfe)=false:=beq_eq_false_iff_ne.mpr c29;have c29b1:(tbk != tfe)=true:=bne_iff_ne.mpr c29;obtain rfl:=Option.some.inj H
          go_wp2_with (first|(go_at_call 29;(with_reducible refine(spec_SameTree.calls kj5 _ _ taZ _ _ tcK false _ ?s1 ?s2 ?s3 ?s4 A21.out).mono ?_);(case s1=>exact z88_);(case s2=>exact z329_);(case s3=>exact z89_);(case s4=>exact z308_);rintro e w' ⟨rfl,⟨nd,rfl⟩⟩)|(go_at_call 12;(with_reducible refine(impl_Similarity.calls kj5 _ _ tcK _ _ taZ tfe _ ?s1 ?s2 ?s3 ?s4 A28.out).mono ?_);(case s1=>exact z89_);(case s2=>exact z308_);(case s3=>exact z88_);(case s4=>exact z329_);rintro e w31 ⟨rfl,hb⟩;replace HO_3:=am_ (Q_below z255_ hb);replace HO_4:=am_ (R_below z27_ hb);replace HB:=am_ (below_step z0_ hb);(try clear hb)))
          go_ret;exact⟨z7_,z0_⟩
     ·replace c18:=Bool.eq_false_iff.mpr c18;subst c18;replace H:=iff_ H;by_cases c32:tbk=(-1)
      ·rw[if_pos c32] at H;have c32b0:(tbk==(-1))=true:=beq_iff_eq.mpr c32;have c32b1:(tbk != (-1))=false:=bne_eq_false_iff_eq.mpr c32;clear c32;have H':=am_ H;clear H;go_wp2;go_meet
       case rel=>exact⟨_,H',⟨z373_⟩,⟨z0_⟩⟩
      ·rw[if_neg c32] at H;have c32b0:(tbk==(-1))=false:=beq_eq_false_iff_ne.mpr c32;have c32b1:(tbk != (-1))=true:=bne_iff_ne.mpr c32;obtain rfl:=Option.some.inj H;go_wp2;go_ret;exact⟨z7_,z0_⟩
    case rest =>
     clear HC17;obtain⟨kq,HA,HJ16,HB⟩:=hcut;cases kq with
     |zero=>exact absurd HA.out (by simp[laws_FnNear.j1])
     | succ kj16=>
      have H:=HA.out;clear HA;simp only[laws_FnNear.j1] at H;replace H:=be_ H;obtain⟨⟨tQ,ta5,tU,tY,tac⟩,Af0,H⟩:=H
      try dsimp only at H
      have A33:=am_ Af0;clear Af0;obtain⟨tT,A34,H⟩:=bnd_ H;obtain⟨tff,A35,H⟩:=bnd_ H;by_cases c36:tT=tff
      ·rw [if_pos c36] at H;have c36b0:(tT==tff)=true:=beq_iff_eq.mpr c36;have c36b1:(tT != tff)=false:=bne_eq_false_iff_eq.mpr c36;clear c36;have H':=am_ H;clear H
       go_wp2_with (first|((with_reducible refine gate_callee (f:=30) rfl ?_);refine goesL_ (some 54) rfl rfl Try.func30 y0_ rfl #[.slice A0 l0.length c0] rfl z1_ ?_;(with_reducible refine(spec_DrawNearest.calls kj16 _ _ l0 tQ ta5 tU tY tac _ ?s1 ?s2 A33.out).mono ?_);(case s1=>exact z6_);(case s2=>exact HC0.out);rintro e w37 ⟨vk0,vk1,vk2,vk3,vk4,rfl,ho0,ho1,ho2,ho3,ho4,hb⟩;refine⟨_,rfl,?_⟩;have HOdn:=am_ (S_lower ho0 (below_size z0_));have HOdo:=am_ (Q_lower ho1 (below_size z0_));have HOdp:=am_ (R_lower ho2 (below_size z0_));have HOdq:=am_ (Q_lower ho3 (below_size z0_));have HOdr:=am_ (R_lower ho4 (below_size z0_));replace HB:=am_ (below_step z0_ hb);(try clear hb ho0 ho1 ho2 ho3 ho4))|((with_reducible refine gate_dst (N:=8) rfl ?_);refine box_event ?hg (N:=8) ?hd (cs:=#[.slice none 0 0,.slice none 0 0,.slice none 0 0]) (t:=38) ?hr ?_;(case hd=>rfl);(case hg=>rfl);(case hr=>exact z14_);intro gbk hg w38 hbox hb;replace HOdn:=am_ (S_below z216_ hb);replace HOdo:=am_ (Q_below z217_ hb);replace HOdp:=am_ (R_below z218_ hb);replace HOdq:=am_ (Q_below z219_ hb);replace HOdr:=am_ (R_below z220_ hb);have BKk:=am_ (hbox);have GWk:=am_ ((by rw[hg];exact(below_size z0_):w.heap.size≤gbk));have GEk:=am_ ((by rw[hg];exact(below_size z0_):w.heap.size≤gbk));replace HB:=am_ (below_step z0_ hb);clear hb hbox hg;obtain⟨Ao39,co39,eo39⟩:=R_slice HOdp.out;subst eo39;obtain⟨hcz40_0,hcz40_1,hcz40_2,hfz40_0,hfz40_1,hfz40_2⟩:=bx3_ BKk.out;obtain⟨Ao41,co41,eo41,_⟩:=Q_slice HOdq.out;subst eo41;obtain⟨Ao42,co42,eo42⟩:=R_slice HOdr.out;subst eo42;obtain⟨Ao43,co43,eo43⟩:=S_slice HOdn.out;subst eo43;obtain⟨Ao44,co44,eo44,_⟩:=Q_slice HOdo.out;subst eo44)|((with_reducible refine gate_callee (f:=19) rfl ?_);refine goesL_ (some 61) rfl rfl Try.func19 y0_ rfl #[.slice Ao43 tQ.length co43,.slice Ao44 ta5.length co44,.agg #[.slice Ao39 tU.length co39,.slice Ao41 tY.length co41,.slice Ao42 tac.length co42]] rfl z1_ ?_;(with_reducible refine(impl_Nearest.calls kj16 _ _ tQ _ _ ta5 _ _ tU _ _ tY _ _ tac tT _ ?s1 ?s2 ?s3 ?s4 ?s5 ?s6 ?s7 ?s8 ?s9 ?s10 A34.out).mono ?_);(case s1=>refine qsl_C (S_reads' (e:=25) (base:=w.heap.size) (ok:=fun k_=>some k_≠(.slice Ao44 ta5.length co44:Value).ownBlock) (n:=tQ.length) (c:=co43) ?_).2.2;exact z134_);(case s2=>exact z374_);(case s3=>refine(Q_reads' (e:=61) (base:=w.heap.size) (ok:=fun k_=>True) (n:=ta5.length) (c:=co44) ?_).2.2;exact z135_);(case s4=>exact z375_);(case s5=>refine(R_reads' (e:=3) (base:=w.heap.size) (ok:=fun k_=>(some k_≠(.slice Ao41 tY.length co41:Value).ownBlock∧some k_≠(.slice Ao42 tac.length co42:Value).ownBlock)) (n:=tU.length) (c:=co39) ?_).2.2;exact z136_);(case s6=>exact z376_);(case s7=>refine(Q_reads' (e:=3) (base:=w.heap.size) (ok:=fun k_=>(some k_≠(.slice Ao39 tU.length co39:Value).ownBlock∧some k_≠(.slice Ao42 tac.length co42:Value).ownBlock)) (n:=tY.length) (c:=co41) ?_).2.2;exact z137_);(case s8=>exact z377_);(case s9=>refine(R_reads' (e:=3) (base:=w.heap.size) (ok:=fun k_=>(some k_≠(.slice Ao39 tU.length co39:Value).ownBlock∧some k_≠(.slice Ao41 tY.length co41:Value).ownBlock)) (n:=tac.length) (c:=co42) ?_).2.2;exact z138_);(case s10=>exact z378_);rintro e w45 ⟨rfl,hb⟩;refine⟨_,rfl,?_⟩;replace HOdn:=am_ (S_below z134_ hb);replace HOdo:=am_ (Q_below z135_ hb);replace HOdp:=am_ (R_below z136_ hb);replace HOdq:=am_ (Q_below z137_ hb);replace HOdr:=am_ (R_below z138_ hb);replace BKk:=am_ (blk_below (g:=gbk) (o:= .cells #[.slice Ao39 tU.length co39,.slice Ao41 tY.length co41,.slice Ao42 tac.length co42] 38 (0,0)) (by refine ub_ (blk_put (cs:=#[.slice Ao39 tU.length co39,.slice Ao41 tY.length co41,.slice none 0 0]) ?_ 2 _ rfl);refine ub_ (blk_put (cs:=#[.slice Ao39 tU.length co39,.slice none 0 0,.slice none 0 0]) ?_ 1 _ rfl);refine ub_ (blk_put (cs:=#[.slice none 0 0,.slice none 0 0,.slice none 0 0]) ?_ 0 _ rfl);exact ub_ BKk.out) hb);replace HB:=am_ (below_step z19_ hb);(try clear hb);obtain⟨hcz46_0,hcz46_1,hcz46_2,hfz46_0,hfz46_1,hfz46_2⟩:=bx3_ BKk.out)|((with_reducible refine gate_callee (f:=16) rfl ?_);refine goesL_ (some 66) rfl rfl Try.func16 y0_ rfl #[.slice Ao43 tQ.length co43,.slice Ao44 ta5.length co44,.agg #[.slice Ao39 tU.length co39,.slice Ao41 tY.length co41,.slice Ao42 tac.length co42]] rfl z1_ ?_;(with_reducible refine(spec_Nearest.calls kj16 _ _ tQ _ _ ta5 _ _ tU _ _ tY _ _ tac tff _ ?s1 ?s2 ?s3 ?s4 ?s5 ?s6 ?s7 ?s8 ?s9 ?s10 A35.out).mono ?_);(case s1=>exact z284_);(case s2=>exact z374_);(case s3=>exact z285_);(case s4=>exact z375_);(case s5=>exact z286_);(case s6=>exact z376_);(case s7=>exact z287_);(case s8=>exact z377_);(case s9=>exact z288_);(case s10=>exact z378_);rintro e w47 ⟨rfl,hb⟩;refine⟨_,rfl,?_⟩;replace HOdn:=am_ (S_below z216_ hb);replace HOdo:=am_ (Q_below z217_ hb);replace HOdp:=am_ (R_below z218_ hb);replace HOdq:=am_ (Q_below z219_ hb);replace HOdr:=am_ (R_below z220_ hb);replace BKk:=am_ (blk_below z54_ hb);replace HB:=am_ (below_step z19_ hb);(try clear hb)))
       go_loopg [10] kj16 (fun kq v10 w'=>∃(x10_3:Int),v10= .int .i64 x10_3∧Aside0 (laws_FnNear.l0 kq tQ ta5 tT x10_3 tU tY tac=some r)∧Aside0 (kq≤kj16)∧Aside0 (Kd.S (qsl 61 k61) 25 w' w.heap.size (nb1_ (.slice Ao44 ta5.length co44)) (.slice Ao43 tQ.length co43) tQ)∧Aside0 (Kd.Q k61 61 w' w.heap.size (fun _=>True) (.slice Ao44 ta5.length co44) ta5)∧Aside0 (RI_ w' w.heap.size (nb2_ (.slice Ao41 tY.length co41) (.slice Ao42 tac.length co42)) (.slice Ao39 tU.length co39) tU)∧Aside0 (QI_ w' w.heap.size (nb2_ (.slice Ao39 tU.length co39) (.slice Ao42 tac.length co42)) (.slice Ao41 tY.length co41) tY)∧Aside0 (RI_ w' w.heap.size (nb2_ (.slice Ao39 tU.length co39) (.slice Ao41 tY.length co41)) (.slice Ao42 tac.length co42) tac)∧Aside0 (w'.heap[gbk]? =some (.cells #[(.slice Ao39 tU.length co39),(.slice Ao41 tY.length co41),(.slice Ao42 tac.length co42)] 38 (0,0)))∧Aside0 (Below w.heap.size w w'))
       case atStart=>exact⟨(0),z9_,H',⟨Nat.le_refl _⟩,⟨z216_⟩,⟨z217_⟩,⟨z218_⟩,⟨z219_⟩,⟨z220_⟩,⟨z54_⟩,⟨z19_⟩⟩
       case round=>
        clear H';obtain⟨x10_3,rfl,HA,HK3,HO_6,HO_7,HO_aP,HO_aQ,HO_aR,BKk,HB⟩:=hrel;cases gk with
        |zero=>exact absurd HA.out (by simp[laws_FnNear.l0])
        | succ k3=>
         have H:=HA.out;clear HA;simp only[laws_FnNear.l0] at H;have HC48:=am_ H;clear H
         go_upto_region 15 with (fail)
         go_cut [75] (fun v75 wc=>∃(kq:Nat) (x75_47:Bool),v75= .bool x75_47∧Aside0 (laws_FnNear.j3 kq tQ ta5 tT x10_3 x75_47 tU tY tac=some r)∧Aside0 (kq≤k3)∧Aside0 (Kd.S (qsl 61 k61) 25 wc w.heap.size (nb1_ (.slice Ao44 ta5.length co44)) (.slice Ao43 tQ.length co43) tQ)∧Aside0 (Kd.Q k61 61 wc w.heap.size (fun _=>True) (.slice Ao44 ta5.length co44) ta5)∧Aside0 (RI_ wc w.heap.size (nb2_ (.slice Ao41 tY.length co41) (.slice Ao42 tac.length co42)) (.slice Ao39 tU.length co39) tU)∧Aside0 (QI_ wc w.heap.size (nb2_ (.slice Ao39 tU.length co39) (.slice Ao42 tac.length co42)) (.slice Ao41 tY.length co41) tY)∧Aside0 (RI_ wc w.heap.size (nb2_ (.slice Ao39 tU.length co39) (.slice Ao41 tY.length co41)) (.slice Ao42 tac.length co42) tac)∧Aside0 (wc.heap[gbk]? =some (.cells #[(.slice Ao39 tU.length co39),(.slice Ao41 tY.length co41),(.slice Ao42 tac.length co42)] 38 (0,0)))∧Aside0 (Below w.heap.size w wc))
         case first=>
          have H:=HC48.out;clear HC48;by_cases c49:x10_3<(tQ.length:Int)
          ·rw[if_pos c49] at H;have c49b0:=decide_eq_true c49;clear c49
           (first|rw[c49b0]|rw[c49b1]|(simp only[i64_w,i32_w];rw[c49b0])|skip)
           have H':=am_ H;clear H;go_wp2;go_meet
           case rel=>exact⟨_,(decide (tT≥0)),z9_,H',⟨z371_⟩,⟨z80_⟩,⟨z81_⟩,⟨z74_⟩,⟨z75_⟩,⟨z76_⟩,⟨z54_⟩,⟨z19_⟩⟩
          ·rw[if_neg c49] at H;have c49b0:=decide_eq_false c49;clear c49
           (first|rw[c49b0]|rw[c49b1]|(simp only[i64_w,i32_w];rw[c49b0])|skip)
           have H':=am_ H;clear H;go_wp2;go_meet
           case rel=>exact⟨_,(false),z9_,H',⟨z371_⟩,⟨z80_⟩,⟨z81_⟩,⟨z74_⟩,⟨z75_⟩,⟨z76_⟩,⟨z54_⟩,⟨z19_⟩⟩
         case rest=>
          clear HC48;obtain⟨kq,x75_47,rfl,HA,HJ47,HO_6,HO_7,HO_aP,HO_aQ,HO_aR,BKk,HB⟩:=hcut;cases kq with
          |zero=>exact absurd HA.out (by simp[laws_FnNear.j3])
          | succ kj47=>
           have H:=HA.out;clear HA;simp only[laws_FnNear.j3] at H;by_cases c50:x75_47=true
           ·subst c50;replace H:=ift_ H;obtain⟨c51b0,H⟩:=ifd_ H;obtain⟨c52b0,H⟩:=ifd_ H;obtain⟨tej,A53,H⟩:=bnd_ H;have H':=am_ H;clear H
            try go_wp2
            replace HO_6:=am_ (S_drew HO_6.out);replace HO_7:=am_ (Q_drew HO_7.out);replace HO_aP:=am_ (R_drew HO_aP.out);replace HO_aQ:=am_ (Q_drew HO_aQ.out);replace HO_aR:=am_ (R_drew HO_aR.out);replace BKk:=am_ (blk_drew BKk.out);replace HB:=am_ (below_drew1 HB.out);have pz:0≤(x10_3:Int):=odt_;have qz:x10_3<(tQ.length:Int):=odt_;obtain⟨adz,Az_0,cz_0,ez,hxz_0,hlz_0,hiz_0⟩:=at_L3 (S_reads' HO_6.out).2.2 x10_3 pz qz;cases ez;obtain⟨cez,hcez,hMez,hccz⟩:=S_get HO_6.out [] x10_3 pz z263_;obtain⟨vez_0,rfl,gez_0⟩:=hMez;have hvz_0:=hccz 0 _ rfl;rw[Nat.add_zero,show ((qsl 61 k61)).sz=1 from rfl,Nat.mul_one] at hvz_0;replace hvz_0:=Option.some.inj (hvz_0.symm.trans hxz_0);rw[hvz_0] at gez_0;have HLz_0:=am_ (show Kd.Q k61 61 _ _ _ _ (rd_L3 tQ x10_3) from gez_0);clear hvz_0 gez_0 hccz hcez;have HRz_0:=am_ hiz_0;have HCz_0:=am_ hlz_0;clear hiz_0 hlz_0;replace pz:=eq_true pz;replace qz:=eq_true qz;refine start_ (n:=8) (S:=fun w'=>w'.cell? ⟨gbk,0,none⟩=some (.slice Ao39 tU.length co39)∧w'.cell? ⟨gbk,1,none⟩=some (.slice Ao41 tY.length co41)∧w'.cell? ⟨gbk,2,none⟩=some (.slice Ao42 tac.length co42)∧w'.cell? (adz.add (x10_3).toNat)=some (.slice Az_0 (rd_L3 tQ x10_3).length cz_0)) (ds:=[]) (fl_ 8 0) y0_ rfl (fl_zero _) ⟨(blk_cell BKk.out 0).trans rfl,(blk_cell BKk.out 1).trans rfl,(blk_cell BKk.out 2).trans rfl,hxz_0⟩ (fun hh=>?_);refine with_tabW laws_FnNear.tab17 laws_FnNear.bits17 (fun HT_ HW_=>?_);generalize wc.drew=w59 at HO_6 HO_7 HO_aP HO_aQ HO_aR BKk HB HLz_0 HRz_0 hxz_0 hh⊢
            iterate 3 refine yp_ HT_ ?_
            refine ypg_ (i:=4) (ra_ [3,1,1,3]) HT_ ?_;refine ytg_ (i:=3) (fl_ 8 5) HT_ HW_ hh ?_ (hy:=z52_);refine yt_ HT_ HW_ hh ?_ (hy:=z52_);refine one_ (i:=6) (N:=some 84) (fl_ 8 7) rfl rfl (one_of HT_.out y0_) (by decide) (fun K hK=>?_);refine goes_ Try.func26 y0_ rfl #[.slice Az_0 (rd_L3 tQ x10_3).length cz_0,.slice Ao44 ta5.length co44,.agg #[.slice Ao39 tU.length co39,.slice Ao41 tY.length co41,.slice Ao42 tac.length co42]] (by rfl) rfl rfl z1_ ?_
            with_reducible refine(impl_RootDist.calls kj47 _ _ (rd_L3 tQ x10_3) _ _ ta5 _ _ tU _ _ tY _ _ tac tej _ ?s1 ?s2 ?s3 ?s4 ?s5 ?s6 ?s7 ?s8 ?s9 ?s10 A53.out).mono ?_
            (case s1=>exact z77_)
            (case s2=>exact HCz_0.out)
            (case s3=>exact z68_)
            (case s4=>exact z278_)
            (case s5=>exact z64_)
            (case s6=>exact z257_)
            (case s7=>exact z65_)
            (case s8=>exact z258_)
            (case s9=>exact z66_)
            (case s10=>exact z259_)
            rintro e w60 ⟨rfl,hb⟩;have HS3_:=(hb.cell (bc_ _ _ (hh.2.2.2))).trans (hh.2.2.2);refine⟨_,rfl,?_⟩;replace HO_6:=am_ (S_below z80_ hb);replace HO_7:=am_ (Q_below z81_ hb);replace HO_aP:=am_ (R_below z74_ hb);replace HO_aQ:=am_ (Q_below z75_ hb);replace HO_aR:=am_ (R_below z76_ hb);replace HLz_0:=am_ (Q_below z119_ hb);replace BKk:=am_ (blk_below z54_ hb);replace HRz_0:=am_ (C_below z31_ hb);replace HB:=am_ (below_step z19_ hb)
            (try clear hb)
            (try clear hb2)
            (try clear hk)
            (try clear hi)
            refine hK.out _ _ ⟨(blk_cell BKk.out 0).trans rfl,(blk_cell BKk.out 1).trans rfl,(blk_cell BKk.out 2).trans rfl,HS3_⟩ (fun hh=>?_);clear hK K;refine zn_ rfl ?_;refine yp_ HT_ ?_;refine done_ (done_of HT_.out y0_) ?_;have H:=H'.out;clear H';by_cases c54:tej≥0
            ·rw [if_pos c54] at H;have c54b0:=decide_eq_true c54;clear c54;obtain⟨c55b0,H⟩:=ifd_ H;obtain⟨c56b0,H⟩:=ifd_ H;obtain⟨tfO,A57,H⟩:=bnd_ H;by_cases c58:tej<tfO
             ·rw[if_pos c58] at H;have c58b0:=decide_eq_true c58;clear c58;obtain rfl:=Option.some.inj H
              try go_wp2
              replace HO_6:=am_ (S_drew HO_6.out);replace HO_7:=am_ (Q_drew HO_7.out);replace HO_aP:=am_ (R_drew HO_aP.out);replace HO_aQ:=am_ (Q_drew HO_aQ.out);replace HO_aR:=am_ (R_drew HO_aR.out);replace HLz_0:=am_ (Q_drew HLz_0.out);replace BKk:=am_ (blk_drew BKk.out);replace HRz_0:=am_ (C_drew HRz_0.out);replace HB:=am_ (below_drew1 HB.out);have pc:0≤(tT:Int):=odt_;have qc:tT<(tQ.length:Int):=odt_;obtain⟨adc,Ac_0,cc_0,ec,hxc_0,hlc_0,hic_0⟩:=at_L3 (S_reads' HO_6.out).2.2 tT pc qc;obtain rfl:adz=adc:=(by injection ec)
              obtain⟨cec,hcec,hMec,hccc⟩:=S_get HO_6.out [] tT pc z316_;obtain⟨vec_0,rfl,gec_0⟩:=hMec;have hvc_0:=hccc 0 _ rfl;rw[Nat.add_zero,show ((qsl 61 k61)).sz=1 from rfl,Nat.mul_one] at hvc_0;replace hvc_0:=Option.some.inj (hvc_0.symm.trans hxc_0);rw[hvc_0] at gec_0;have HLc_0:=am_ (show Kd.Q k61 61 _ _ _ _ (rd_L3 tQ tT) from gec_0);clear hvc_0 gec_0 hccc hcec;have HRc_0:=am_ hic_0;have HCc_0:=am_ hlc_0;clear hic_0 hlc_0;replace pc:=eq_true pc;replace qc:=eq_true qc;refine start_ (n:=29) (S:=fun w'=>w'.cell? ⟨gbk,0,none⟩=some (.slice Ao39 tU.length co39)∧w'.cell? ⟨gbk,1,none⟩=some (.slice Ao41 tY.length co41)∧w'.cell? ⟨gbk,2,none⟩=some (.slice Ao42 tac.length co42)∧w'.cell? (adz.add (tT).toNat)=some (.slice Ac_0 (rd_L3 tQ tT).length cc_0)) (ds:=[]) (fl_ 29 0) y0_ rfl (fl_zero _) ⟨(blk_cell BKk.out 0).trans rfl,(blk_cell BKk.out 1).trans rfl,(blk_cell BKk.out 2).trans rfl,hxc_0⟩ (fun hh=>?_);refine with_tabW laws_FnNear.tab18 laws_FnNear.bits18 (fun HT_ HW_=>?_);generalize w60.drew=w61 at HO_6 HO_7 HO_aP HO_aQ HO_aR HLz_0 BKk HRz_0 HB HLc_0 HRc_0 hxc_0 hh⊢
              iterate 7 refine yp_ HT_ ?_
              refine ypg_ (i:=8) (ra_ [7,1,1,20]) HT_ ?_;refine ytg_ (i:=7) (fl_ 29 9) HT_ HW_ hh ?_ (hy:=z52_);refine yt_ HT_ HW_ hh ?_ (hy:=z52_);refine one_ (i:=10) (N:=some 95) (fl_ 29 11) rfl rfl (one_of HT_.out y0_) (by decide) (fun K hK=>?_);refine goes_ Try.func26 y0_ rfl #[.slice Ac_0 (rd_L3 tQ tT).length cc_0,.slice Ao44 ta5.length co44,.agg #[.slice Ao39 tU.length co39,.slice Ao41 tY.length co41,.slice Ao42 tac.length co42]] (by rfl) rfl rfl z1_ ?_
              with_reducible refine(impl_RootDist.calls kj47 _ _ (rd_L3 tQ tT) _ _ ta5 _ _ tU _ _ tY _ _ tac tfO _ ?s1 ?s2 ?s3 ?s4 ?s5 ?s6 ?s7 ?s8 ?s9 ?s10 A57.out).mono ?_
              (case s1=>exact z106_)
              (case s2=>exact HCc_0.out)
              (case s3=>exact z68_)
              (case s4=>exact z278_)
              (case s5=>exact z64_)
              (case s6=>exact z257_)
              (case s7=>exact z65_)
              (case s8=>exact z258_)
              (case s9=>exact z66_)
              (case s10=>exact z259_)
              rintro e w62 ⟨rfl,hb⟩;have HS3_:=(hb.cell (bc_ _ _ (hh.2.2.2))).trans (hh.2.2.2);refine⟨_,rfl,?_⟩;replace HO_6:=am_ (S_below z80_ hb);replace HO_7:=am_ (Q_below z81_ hb);replace HO_aP:=am_ (R_below z74_ hb);replace HO_aQ:=am_ (Q_below z75_ hb);replace HO_aR:=am_ (R_below z76_ hb);replace HLz_0:=am_ (Q_below z119_ hb);replace HLc_0:=am_ (Q_below z188_ hb);replace BKk:=am_ (blk_below z54_ hb);replace HRz_0:=am_ (C_below z31_ hb);replace HRc_0:=am_ (C_below z67_ hb);replace HB:=am_ (below_step z19_ hb)
              (try clear hb)
              (try clear hb2)
              (try clear hk)
              (try clear hi)
              refine hK.out _ _ ⟨(blk_cell BKk.out 0).trans rfl,(blk_cell BKk.out 1).trans rfl,(blk_cell BKk.out 2).trans rfl,HS3_⟩ (fun hh=>?_);clear hK K;refine zn_ rfl ?_
              iterate 2 refine yp_ HT_ ?_
              iterate 14 refine zu_ HT_ rfl rfl y0_ (fun _ _ _ h=>h) (by rfl) ?_
              iterate 2 refine yp_ HT_ ?_
              refine done_ (done_of HT_.out y0_) ?_
              try go_wp2
              go_ret;exact⟨z7_,z19_⟩
             ·rw[if_neg c58] at H;have c58b0:=decide_eq_false c58;clear c58;by_cases c63:x10_3<tT
              ·rw[if_pos c63] at H;have c63b0:=decide_eq_true c63;clear c63;obtain⟨tfg,A64,H⟩:=bnd_ H;by_cases c65:tej=tfg
               ·rw[if_pos c65] at H;have c65b0:(tej==tfg)=true:=beq_iff_eq.mpr c65;have c65b1:(tej != tfg)=false:=bne_eq_false_iff_eq.mpr c65;clear c65;obtain rfl:=Option.some.inj H
                try go_wp2
                replace HO_6:=am_ (S_drew HO_6.out);replace HO_7:=am_ (Q_drew HO_7.out);replace HO_aP:=am_ (R_drew HO_aP.out);replace HO_aQ:=am_ (Q_drew HO_aQ.out);replace HO_aR:=am_ (R_drew HO_aR.out);replace HLz_0:=am_ (Q_drew HLz_0.out);replace BKk:=am_ (blk_drew BKk.out);replace HRz_0:=am_ (C_drew HRz_0.out);replace HB:=am_ (below_drew1 HB.out);have pc:0≤(tT:Int):=odt_;have qc:tT<(tQ.length:Int):=odt_;obtain⟨adc,Ac_0,cc_0,ec,hxc_0,hlc_0,hic_0⟩:=at_L3 (S_reads' HO_6.out).2.2 tT pc qc;obtain rfl:adz=adc:=(by injection ec)
                obtain⟨cec,hcec,hMec,hccc⟩:=S_get HO_6.out [] tT pc z316_;obtain⟨vec_0,rfl,gec_0⟩:=hMec;have hvc_0:=hccc 0 _ rfl;rw[Nat.add_zero,show ((qsl 61 k61)).sz=1 from rfl,Nat.mul_one] at hvc_0;replace hvc_0:=Option.some.inj (hvc_0.symm.trans hxc_0);rw[hvc_0] at gec_0;have HLc_0:=am_ (show Kd.Q k61 61 _ _ _ _ (rd_L3 tQ tT) from gec_0);clear hvc_0 gec_0 hccc hcec;have HRc_0:=am_ hic_0;have HCc_0:=am_ hlc_0;clear hic_0 hlc_0;replace pc:=eq_true pc;replace qc:=eq_true qc;have pu:0≤(tT:Int):=odt_;have qu:tT<(tQ.length:Int):=odt_;obtain⟨adu,Au_0,cu_0,eu,hxu_0,hlu_0,hiu_0⟩:=at_L3 (S_reads' HO_6.out).2.2 tT pu qu;obtain rfl:adz=adu:=(by injection eu)
                obtain⟨rfl,rfl⟩:Ac_0=Au_0∧cc_0=cu_0:=z364_;obtain⟨ceu,hceu,hMeu,hccu⟩:=S_get HO_6.out [] tT pu (by first|exact qu|exact odt_|(have e_:=(S_reads' HO_6.out).1;omega));obtain⟨veu_0,rfl,geu_0⟩:=hMeu;have hvu_0:=hccu 0 _ rfl;rw[Nat.add_zero,show ((qsl 61 k61)).sz=1 from rfl,Nat.mul_one] at hvu_0;replace hvu_0:=Option.some.inj (hvu_0.symm.trans hxu_0);rw[hvu_0] at geu_0;have HLu_0:=am_ (show Kd.Q k61 61 _ _ _ _ (rd_L3 tQ tT) from geu_0);clear hvu_0 geu_0 hccu hceu;have HRu_0:=am_ hiu_0;have HCu_0:=am_ hlu_0;clear hiu_0 hlu_0;replace pu:=eq_true pu;replace qu:=eq_true qu;refine start_ (n:=29) (S:=fun w'=>w'.cell? ⟨gbk,0,none⟩=some (.slice Ao39 tU.length co39)∧w'.cell? ⟨gbk,1,none⟩=some (.slice Ao41 tY.length co41)∧w'.cell? ⟨gbk,2,none⟩=some (.slice Ao42 tac.length co42)∧w'.cell? (adz.add (tT).toNat)=some (.slice Ac_0 (rd_L3 tQ tT).length cc_0)) (ds:=[]) (fl_ 29 0) y0_ rfl (fl_zero _) ⟨(blk_cell BKk.out 0).trans rfl,(blk_cell BKk.out 1).trans rfl,(blk_cell BKk.out 2).trans rfl,hxc_0⟩ (fun hh=>?_);refine with_tabW laws_FnNear.tab18 laws_FnNear.bits18 (fun HT_ HW_=>?_);generalize w60.drew=w68 at HO_6 HO_7 HO_aP HO_aQ HO_aR HLz_0 BKk HRz_0 HB HLc_0 HRc_0 hxc_0 hh⊢
                iterate 7 refine yp_ HT_ ?_
                refine ypg_ (i:=8) (ra_ [7,1,1,20]) HT_ ?_;refine ytg_ (i:=7) (fl_ 29 9) HT_ HW_ hh ?_ (hy:=z52_);refine yt_ HT_ HW_ hh ?_ (hy:=z52_);refine one_ (i:=10) (N:=some 95) (fl_ 29 11) rfl rfl (one_of HT_.out y0_) (by decide) (fun K hK=>?_);refine goes_ Try.func26 y0_ rfl #[.slice Ac_0 (rd_L3 tQ tT).length cc_0,.slice Ao44 ta5.length co44,.agg #[.slice Ao39 tU.length co39,.slice Ao41 tY.length co41,.slice Ao42 tac.length co42]] (by rfl) rfl rfl z1_ ?_
                with_reducible refine(impl_RootDist.calls kj47 _ _ (rd_L3 tQ tT) _ _ ta5 _ _ tU _ _ tY _ _ tac tfO _ ?s1 ?s2 ?s3 ?s4 ?s5 ?s6 ?s7 ?s8 ?s9 ?s10 A57.out).mono ?_
                (case s1=>exact z106_)
                (case s2=>exact HCc_0.out)
                (case s3=>exact z68_)
                (case s4=>exact z278_)
                (case s5=>exact z64_)
                (case s6=>exact z257_)
                (case s7=>exact z65_)
                (case s8=>exact z258_)
                (case s9=>exact z66_)
                (case s10=>exact z259_)
                rintro e w69 ⟨rfl,hb⟩;have HS3_:=(hb.cell (bc_ _ _ (hh.2.2.2))).trans (hh.2.2.2);have HS4_:=(hb.cell (bc_ _ _ (hh.2.2.2))).trans (hh.2.2.2);refine⟨_,rfl,?_⟩;replace HO_6:=am_ (S_below z80_ hb);replace HO_7:=am_ (Q_below z81_ hb);replace HO_aP:=am_ (R_below z74_ hb);replace HO_aQ:=am_ (Q_below z75_ hb);replace HO_aR:=am_ (R_below z76_ hb);replace HLz_0:=am_ (Q_below z119_ hb);replace HLc_0:=am_ (Q_below z188_ hb);replace BKk:=am_ (blk_below z54_ hb);replace HRz_0:=am_ (C_below z31_ hb);replace HRc_0:=am_ (C_below z67_ hb);replace HB:=am_ (below_step z19_ hb)
                (try clear hb)
                (try clear hb2)
                (try clear hk)
                (try clear hi)
                refine hK.out _ _ ⟨(blk_cell BKk.out 0).trans rfl,(blk_cell BKk.out 1).trans rfl,(blk_cell BKk.out 2).trans rfl,HS3_⟩ (fun hh=>?_);clear hK K;refine zn_ rfl ?_
                iterate 10 refine yp_ HT_ ?_
                refine ypg_ (i:=22) (ra_ [21,1,1,6]) HT_ ?_;refine ytg_ (i:=21) (fl_ 29 23) HT_ HW_ hh ?_ (hy:=z52_);refine yt_ HT_ HW_ hh ?_ (hy:=z52_);refine one_ (i:=24) (N:=some 109) (fl_ 29 25) rfl rfl (one_of HT_.out y0_) (by decide) (fun K hK=>?_);refine goes_ Try.func26 y0_ rfl #[.slice Ac_0 (rd_L3 tQ tT).length cc_0,.slice Ao44 ta5.length co44,.agg #[.slice Ao39 tU.length co39,.slice Ao41 tY.length co41,.slice Ao42 tac.length co42]] (by rfl) rfl rfl z1_ ?_
                with_reducible refine(impl_RootDist.calls kj47 _ _ (rd_L3 tQ tT) _ _ ta5 _ _ tU _ _ tY _ _ tac tfg _ ?s1 ?s2 ?s3 ?s4 ?s5 ?s6 ?s7 ?s8 ?s9 ?s10 A64.out).mono ?_
                (case s1=>exact z106_)
                (case s2=>exact HCc_0.out)
                (case s3=>exact z68_)
                (case s4=>exact z278_)
                (case s5=>exact z64_)
                (case s6=>exact z257_)
                (case s7=>exact z65_)
                (case s8=>exact z258_)
                (case s9=>exact z66_)
                (case s10=>exact z259_)
                rintro e w70 ⟨rfl,hb⟩;have HS3_:=(hb.cell (bc_ _ _ (hh.2.2.2))).trans (hh.2.2.2);have HS4_:=(hb.cell (bc_ _ _ (hh.2.2.2))).trans (hh.2.2.2);refine⟨_,rfl,?_⟩;have n0_:=am_ (S_below z80_ hb);have n1_:=am_ (Q_below z81_ hb);have n2_:=am_ (R_below z74_ hb);have n3_:=am_ (Q_below z75_ hb);have n4_:=am_ (R_below z76_ hb);have n5_:=am_ (Q_below z119_ hb);have n6_:=am_ (Q_below z188_ hb);have n8_:=am_ (blk_below z54_ hb);have n9_:=am_ (C_below z31_ hb);have n10_:=am_ (C_below z67_ hb);have n12_:=am_ (below_step z19_ hb);clear HO_6 HO_7 HO_aP HO_aQ HO_aR HLz_0 HLc_0 BKk HRz_0 HRc_0 HB;have HO_6:=n0_;have HO_7:=n1_;have HO_aP:=n2_;have HO_aQ:=n3_;have HO_aR:=n4_;have HLz_0:=n5_;have HLc_0:=n6_;have BKk:=n8_;have HRz_0:=n9_;have HRc_0:=n10_;have HB:=n12_;clear n0_ n1_ n2_ n3_ n4_ n5_ n6_ n8_ n9_ n10_ n12_
                (try clear hb)
                (try clear hb2)
                (try clear hk)
                (try clear hi)
                refine hK.out _ _ ⟨(blk_cell BKk.out 0).trans rfl,(blk_cell BKk.out 1).trans rfl,(blk_cell BKk.out 2).trans rfl,HS3_⟩ (fun hh=>?_);clear hK K;refine zn_ rfl ?_
                iterate 4 refine yp_ HT_ ?_
                refine done_ (done_of HT_.out y0_) ?_
                try go_wp2
                go_ret;exact⟨z7_,z19_⟩
               ·rw[if_neg c65] at H;have c65b0:(tej==tfg)=false:=beq_eq_false_iff_ne.mpr c65;have c65b1:(tej != tfg)=true:=bne_iff_ne.mpr c65;have H':=am_ H;clear H
                try go_wp2
                replace HO_6:=am_ (S_drew HO_6.out);replace HO_7:=am_ (Q_drew HO_7.out);replace HO_aP:=am_ (R_drew HO_aP.out);replace HO_aQ:=am_ (Q_drew HO_aQ.out);replace HO_aR:=am_ (R_drew HO_aR.out);replace HLz_0:=am_ (Q_drew HLz_0.out);replace BKk:=am_ (blk_drew BKk.out);replace HRz_0:=am_ (C_drew HRz_0.out);replace HB:=am_ (below_drew1 HB.out);have pc:0≤(tT:Int):=odt_;have qc:tT<(tQ.length:Int):=odt_;obtain⟨adc,Ac_0,cc_0,ec,hxc_0,hlc_0,hic_0⟩:=at_L3 (S_reads' HO_6.out).2.2 tT pc qc;obtain rfl:adz=adc:=(by injection ec)
                obtain⟨cec,hcec,hMec,hccc⟩:=S_get HO_6.out [] tT pc z316_;obtain⟨vec_0,rfl,gec_0⟩:=hMec;have hvc_0:=hccc 0 _ rfl;rw[Nat.add_zero,show ((qsl 61 k61)).sz=1 from rfl,Nat.mul_one] at hvc_0;replace hvc_0:=Option.some.inj (hvc_0.symm.trans hxc_0);rw[hvc_0] at gec_0;have HLc_0:=am_ (show Kd.Q k61 61 _ _ _ _ (rd_L3 tQ tT) from gec_0);clear hvc_0 gec_0 hccc hcec;have HRc_0:=am_ hic_0;have HCc_0:=am_ hlc_0;clear hic_0 hlc_0;replace pc:=eq_true pc;replace qc:=eq_true qc;have pu:0≤(tT:Int):=odt_;have qu:tT<(tQ.length:Int):=odt_;obtain⟨adu,Au_0,cu_0,eu,hxu_0,hlu_0,hiu_0⟩:=at_L3 (S_reads' HO_6.out).2.2 tT pu qu;obtain rfl:adz=adu:=(by injection eu)
                obtain⟨rfl,rfl⟩:Ac_0=Au_0∧cc_0=cu_0:=z364_;obtain⟨ceu,hceu,hMeu,hccu⟩:=S_get HO_6.out [] tT pu (by first|exact qu|exact odt_|(have e_:=(S_reads' HO_6.out).1;omega));obtain⟨veu_0,rfl,geu_0⟩:=hMeu;have hvu_0:=hccu 0 _ rfl;rw[Nat.add_zero,show ((qsl 61 k61)).sz=1 from rfl,Nat.mul_one] at hvu_0;replace hvu_0:=Option.some.inj (hvu_0.symm.trans hxu_0);rw[hvu_0] at geu_0;have HLu_0:=am_ (show Kd.Q k61 61 _ _ _ _ (rd_L3 tQ tT) from geu_0);clear hvu_0 geu_0 hccu hceu;have HRu_0:=am_ hiu_0;have HCu_0:=am_ hlu_0;clear hiu_0 hlu_0;replace pu:=eq_true pu;replace qu:=eq_true qu;refine start_ (n:=29) (S:=fun w'=>w'.cell? ⟨gbk,0,none⟩=some (.slice Ao39 tU.length co39)∧w'.cell? ⟨gbk,1,none⟩=some (.slice Ao41 tY.length co41)∧w'.cell? ⟨gbk,2,none⟩=some (.slice Ao42 tac.length co42)∧w'.cell? (adz.add (tT).toNat)=some (.slice Ac_0 (rd_L3 tQ tT).length cc_0)) (ds:=[]) (fl_ 29 0) y0_ rfl (fl_zero _) ⟨(blk_cell BKk.out 0).trans rfl,(blk_cell BKk.out 1).trans rfl,(blk_cell BKk.out 2).trans rfl,hxc_0⟩ (fun hh=>?_);refine with_tabW laws_FnNear.tab18 laws_FnNear.bits18 (fun HT_ HW_=>?_);generalize w60.drew=w73 at HO_6 HO_7 HO_aP HO_aQ HO_aR HLz_0 BKk HRz_0 HB HLc_0 HRc_0 hxc_0 hh⊢
                iterate 7 refine yp_ HT_ ?_
                refine ypg_ (i:=8) (ra_ [7,1,1,20]) HT_ ?_;refine ytg_ (i:=7) (fl_ 29 9) HT_ HW_ hh ?_ (hy:=z52_);refine yt_ HT_ HW_ hh ?_ (hy:=z52_);refine one_ (i:=10) (N:=some 95) (fl_ 29 11) rfl rfl (one_of HT_.out y0_) (by decide) (fun K hK=>?_);refine goes_ Try.func26 y0_ rfl #[.slice Ac_0 (rd_L3 tQ tT).length cc_0,.slice Ao44 ta5.length co44,.agg #[.slice Ao39 tU.length co39,.slice Ao41 tY.length co41,.slice Ao42 tac.length co42]] (by rfl) rfl rfl z1_ ?_
                with_reducible refine(impl_RootDist.calls kj47 _ _ (rd_L3 tQ tT) _ _ ta5 _ _ tU _ _ tY _ _ tac tfO _ ?s1 ?s2 ?s3 ?s4 ?s5 ?s6 ?s7 ?s8 ?s9 ?s10 A57.out).mono ?_
                (case s1=>exact z106_)
                (case s2=>exact HCc_0.out)
                (case s3=>exact z68_)
                (case s4=>exact z278_)
                (case s5=>exact z64_)
                (case s6=>exact z257_)
                (case s7=>exact z65_)
                (case s8=>exact z258_)
                (case s9=>exact z66_)
                (case s10=>exact z259_)
                rintro e w74 ⟨rfl,hb⟩;have HS3_:=(hb.cell (bc_ _ _ (hh.2.2.2))).trans (hh.2.2.2);have HS4_:=(hb.cell (bc_ _ _ (hh.2.2.2))).trans (hh.2.2.2);refine⟨_,rfl,?_⟩;replace HO_6:=am_ (S_below z80_ hb);replace HO_7:=am_ (Q_below z81_ hb);replace HO_aP:=am_ (R_below z74_ hb);replace HO_aQ:=am_ (Q_below z75_ hb);replace HO_aR:=am_ (R_below z76_ hb);replace HLz_0:=am_ (Q_below z119_ hb);replace HLc_0:=am_ (Q_below z188_ hb);replace BKk:=am_ (blk_below z54_ hb);replace HRz_0:=am_ (C_below z31_ hb);replace HRc_0:=am_ (C_below z67_ hb);replace HB:=am_ (below_step z19_ hb)
                (try clear hb)
                (try clear hb2)
                (try clear hk)
                (try clear hi)
                refine hK.out _ _ ⟨(blk_cell BKk.out 0).trans rfl,(blk_cell BKk.out 1).trans rfl,(blk_cell BKk.out 2).trans rfl,HS3_⟩ (fun hh=>?_);clear hK K;refine zn_ rfl ?_
                iterate 10 refine yp_ HT_ ?_
                refine ypg_ (i:=22) (ra_ [21,1,1,6]) HT_ ?_;refine ytg_ (i:=21) (fl_ 29 23) HT_ HW_ hh ?_ (hy:=z52_);refine yt_ HT_ HW_ hh ?_ (hy:=z52_);refine one_ (i:=24) (N:=some 109) (fl_ 29 25) rfl rfl (one_of HT_.out y0_) (by decide) (fun K hK=>?_);refine goes_ Try.func26 y0_ rfl #[.slice Ac_0 (rd_L3 tQ tT).length cc_0,.slice Ao44 ta5.length co44,.agg #[.slice Ao39 tU.length co39,.slice Ao41 tY.length co41,.slice Ao42 tac.length co42]] (by rfl) rfl rfl z1_ ?_
                with_reducible refine(impl_RootDist.calls kj47 _ _ (rd_L3 tQ tT) _ _ ta5 _ _ tU _ _ tY _ _ tac tfg _ ?s1 ?s2 ?s3 ?s4 ?s5 ?s6 ?s7 ?s8 ?s9 ?s10 A64.out).mono ?_
                (case s1=>exact z106_)
                (case s2=>exact HCc_0.out)
                (case s3=>exact z68_)
                (case s4=>exact z278_)
                (case s5=>exact z64_)
                (case s6=>exact z257_)
                (case s7=>exact z65_)
                (case s8=>exact z258_)
                (case s9=>exact z66_)
                (case s10=>exact z259_)
                rintro e w75 ⟨rfl,hb⟩;have HS3_:=(hb.cell (bc_ _ _ (hh.2.2.2))).trans (hh.2.2.2);have HS4_:=(hb.cell (bc_ _ _ (hh.2.2.2))).trans (hh.2.2.2);refine⟨_,rfl,?_⟩;have n0_:=am_ (S_below z80_ hb);have n1_:=am_ (Q_below z81_ hb);have n2_:=am_ (R_below z74_ hb);have n3_:=am_ (Q_below z75_ hb);have n4_:=am_ (R_below z76_ hb);have n5_:=am_ (Q_below z119_ hb);have n6_:=am_ (Q_below z188_ hb);have n8_:=am_ (blk_below z54_ hb);have n9_:=am_ (C_below z31_ hb);have n10_:=am_ (C_below z67_ hb);have n12_:=am_ (below_step z19_ hb);clear HO_6 HO_7 HO_aP HO_aQ HO_aR HLz_0 HLc_0 BKk HRz_0 HRc_0 HB;have HO_6:=n0_;have HO_7:=n1_;have HO_aP:=n2_;have HO_aQ:=n3_;have HO_aR:=n4_;have HLz_0:=n5_;have HLc_0:=n6_;have BKk:=n8_;have HRz_0:=n9_;have HRc_0:=n10_;have HB:=n12_;clear n0_ n1_ n2_ n3_ n4_ n5_ n6_ n8_ n9_ n10_ n12_
                (try clear hb)
                (try clear hb2)
                (try clear hk)
                (try clear hi)
                refine hK.out _ _ ⟨(blk_cell BKk.out 0).trans rfl,(blk_cell BKk.out 1).trans rfl,(blk_cell BKk.out 2).trans rfl,HS3_⟩ (fun hh=>?_);clear hK K;refine zn_ rfl ?_
                iterate 4 refine yp_ HT_ ?_
                refine done_ (done_of HT_.out y0_) ?_
                try go_wp2
                go_roundg kj47
                case measure=>have:=HJ5.out;have:=HJ16.out;have:=HK3.out;have:=HJ47.out;omega
                case rel=>exact⟨(wrap64 (x10_3+1)),z9_,H',⟨z341_⟩,⟨z80_⟩,⟨z81_⟩,⟨z74_⟩,⟨z75_⟩,⟨z76_⟩,⟨z54_⟩,⟨z19_⟩⟩
              ·rw[if_neg c63] at H;have c63b0:=decide_eq_false c63;clear c63;have H':=am_ H;clear H
               try go_wp2
               replace HO_6:=am_ (S_drew HO_6.out);replace HO_7:=am_ (Q_drew HO_7.out);replace HO_aP:=am_ (R_drew HO_aP.out);replace HO_aQ:=am_ (Q_drew HO_aQ.out);replace HO_aR:=am_ (R_drew HO_aR.out);replace HLz_0:=am_ (Q_drew HLz_0.out);replace BKk:=am_ (blk_drew BKk.out);replace HRz_0:=am_ (C_drew HRz_0.out);replace HB:=am_ (below_drew1 HB.out);have pc:0≤(tT:Int):=odt_;have qc:tT<(tQ.length:Int):=odt_;obtain⟨adc,Ac_0,cc_0,ec,hxc_0,hlc_0,hic_0⟩:=at_L3 (S_reads' HO_6.out).2.2 tT pc qc;obtain rfl:adz=adc:=(by injection ec)
               obtain⟨cec,hcec,hMec,hccc⟩:=S_get HO_6.out [] tT pc z316_;obtain⟨vec_0,rfl,gec_0⟩:=hMec;have hvc_0:=hccc 0 _ rfl;rw[Nat.add_zero,show ((qsl 61 k61)).sz=1 from rfl,Nat.mul_one] at hvc_0;replace hvc_0:=Option.some.inj (hvc_0.symm.trans hxc_0);rw[hvc_0] at gec_0;have HLc_0:=am_ (show Kd.Q k61 61 _ _ _ _ (rd_L3 tQ tT) from gec_0);clear hvc_0 gec_0 hccc hcec;have HRc_0:=am_ hic_0;have HCc_0:=am_ hlc_0;clear hic_0 hlc_0;replace pc:=eq_true pc;replace qc:=eq_true qc;refine start_ (n:=29) (S:=fun w'=>w'.cell? ⟨gbk,0,none⟩=some (.slice Ao39 tU.length co39)∧w'.cell? ⟨gbk,1,none⟩=some (.slice Ao41 tY.length co41)∧w'.cell? ⟨gbk,2,none⟩=some (.slice Ao42 tac.length co42)∧w'.cell? (adz.add (tT).toNat)=some (.slice Ac_0 (rd_L3 tQ tT).length cc_0)) (ds:=[]) (fl_ 29 0) y0_ rfl (fl_zero _) ⟨(blk_cell BKk.out 0).trans rfl,(blk_cell BKk.out 1).trans rfl,(blk_cell BKk.out 2).trans rfl,hxc_0⟩ (fun hh=>?_);refine with_tabW laws_FnNear.tab18 laws_FnNear.bits18 (fun HT_ HW_=>?_);generalize w60.drew=w78 at HO_6 HO_7 HO_aP HO_aQ HO_aR HLz_0 BKk HRz_0 HB HLc_0 HRc_0 hxc_0 hh⊢
               iterate 7 refine yp_ HT_ ?_
               refine ypg_ (i:=8) (ra_ [7,1,1,20]) HT_ ?_;refine ytg_ (i:=7) (fl_ 29 9) HT_ HW_ hh ?_ (hy:=z52_);refine yt_ HT_ HW_ hh ?_ (hy:=z52_);refine one_ (i:=10) (N:=some 95) (fl_ 29 11) rfl rfl (one_of HT_.out y0_) (by decide) (fun K hK=>?_);refine goes_ Try.func26 y0_ rfl #[.slice Ac_0 (rd_L3 tQ tT).length cc_0,.slice Ao44 ta5.length co44,.agg #[.slice Ao39 tU.length co39,.slice Ao41 tY.length co41,.slice Ao42 tac.length co42]] (by rfl) rfl rfl z1_ ?_
               with_reducible refine(impl_RootDist.calls kj47 _ _ (rd_L3 tQ tT) _ _ ta5 _ _ tU _ _ tY _ _ tac tfO _ ?s1 ?s2 ?s3 ?s4 ?s5 ?s6 ?s7 ?s8 ?s9 ?s10 A57.out).mono ?_
               (case s1=>exact z106_)
               (case s2=>exact HCc_0.out)
               (case s3=>exact z68_)
               (case s4=>exact z278_)
               (case s5=>exact z64_)
               (case s6=>exact z257_)
               (case s7=>exact z65_)
               (case s8=>exact z258_)
               (case s9=>exact z66_)
               (case s10=>exact z259_)
               rintro e w79 ⟨rfl,hb⟩;have HS3_:=(hb.cell (bc_ _ _ (hh.2.2.2))).trans (hh.2.2.2);refine⟨_,rfl,?_⟩;replace HO_6:=am_ (S_below z80_ hb);replace HO_7:=am_ (Q_below z81_ hb);replace HO_aP:=am_ (R_below z74_ hb);replace HO_aQ:=am_ (Q_below z75_ hb);replace HO_aR:=am_ (R_below z76_ hb);replace HLz_0:=am_ (Q_below z119_ hb);replace HLc_0:=am_ (Q_below z188_ hb);replace BKk:=am_ (blk_below z54_ hb);replace HRz_0:=am_ (C_below z31_ hb);replace HRc_0:=am_ (C_below z67_ hb);replace HB:=am_ (below_step z19_ hb)
               (try clear hb)
               (try clear hb2)
               (try clear hk)
               (try clear hi)
               refine hK.out _ _ ⟨(blk_cell BKk.out 0).trans rfl,(blk_cell BKk.out 1).trans rfl,(blk_cell BKk.out 2).trans rfl,HS3_⟩ (fun hh=>?_);clear hK K;refine zn_ rfl ?_
               iterate 6 refine yp_ HT_ ?_
               iterate 9 refine zu_ HT_ rfl rfl y0_ (fun _ _ _ h=>h) (by rfl) ?_
               iterate 3 refine yp_ HT_ ?_
               refine done_ (done_of HT_.out y0_) ?_
               try go_wp2
               go_roundg kj47
               case measure=>have:=HJ5.out;have:=HJ16.out;have:=HK3.out;have:=HJ47.out;omega
               case rel=>exact⟨(wrap64 (x10_3+1)),z9_,H',⟨z341_⟩,⟨z80_⟩,⟨z81_⟩,⟨z74_⟩,⟨z75_⟩,⟨z76_⟩,⟨z54_⟩,⟨z19_⟩⟩
            ·rw[if_neg c54] at H;have c54b0:=decide_eq_false c54;clear c54;have H':=am_ H;clear H
             try go_wp2
             replace HO_6:=am_ (S_drew HO_6.out);replace HO_7:=am_ (Q_drew HO_7.out);replace HO_aP:=am_ (R_drew HO_aP.out);replace HO_aQ:=am_ (Q_drew HO_aQ.out);replace HO_aR:=am_ (R_drew HO_aR.out);replace HLz_0:=am_ (Q_drew HLz_0.out);replace BKk:=am_ (blk_drew BKk.out);replace HRz_0:=am_ (C_drew HRz_0.out);replace HB:=am_ (below_drew1 HB.out);refine start_ (n:=29) (S:=fun w'=>True) (ds:=[]) (fl_ 29 0) y0_ rfl (fl_zero _) trivial (fun hh=>?_);refine with_tabW laws_FnNear.tab18 laws_FnNear.bits18 (fun HT_ HW_=>?_);generalize w60.drew=w82 at HO_6 HO_7 HO_aP HO_aQ HO_aR HLz_0 BKk HRz_0 HB hh⊢
             iterate 3 refine yp_ HT_ ?_
             iterate 25 refine zu_ HT_ rfl rfl y0_ (fun _ _ _ h=>h) (by rfl) ?_
             refine yp_ HT_ ?_;refine done_ (done_of HT_.out y0_) ?_
             try go_wp2
             go_roundg kj47
             case measure=>have:=HJ5.out;have:=HJ16.out;have:=HK3.out;have:=HJ47.out;omega
             case rel=>exact⟨(wrap64 (x10_3+1)),z9_,H',⟨z341_⟩,⟨z80_⟩,⟨z81_⟩,⟨z74_⟩,⟨z75_⟩,⟨z76_⟩,⟨z54_⟩,⟨z19_⟩⟩
           ·replace c50:=Bool.eq_false_iff.mpr c50;subst c50;replace H:=iff_ H;obtain rfl:=Option.some.inj H;go_wp2;go_ret;exact⟨z7_,z19_⟩
      ·rw[if_neg c36] at H;have c36b0:(tT==tff)=false:=beq_eq_false_iff_ne.mpr c36;have c36b1:(tT != tff)=true:=bne_iff_ne.mpr c36;obtain rfl:=Option.some.inj H
       go_wp2_with (first|((with_reducible refine gate_callee (f:=30) rfl ?_);refine goesL_ (some 54) rfl rfl Try.func30 y0_ rfl #[.slice A0 l0.length c0] rfl z1_ ?_;(with_reducible refine(spec_DrawNearest.calls kj16 _ _ l0 tQ ta5 tU tY tac _ ?s1 ?s2 A33.out).mono ?_);(case s1=>exact z6_);(case s2=>exact HC0.out);rintro e w83 ⟨vk0,vk1,vk2,vk3,vk4,rfl,ho0,ho1,ho2,ho3,ho4,hb⟩;refine⟨_,rfl,?_⟩;have HOdn:=am_ (S_lower ho0 (below_size z0_));have HOdo:=am_ (Q_lower ho1 (below_size z0_));have HOdp:=am_ (R_lower ho2 (below_size z0_));have HOdq:=am_ (Q_lower ho3 (below_size z0_));have HOdr:=am_ (R_lower ho4 (below_size z0_));replace HB:=am_ (below_step z0_ hb);(try clear hb ho0 ho1 ho2 ho3 ho4))|((with_reducible refine gate_dst (N:=8) rfl ?_);refine box_event ?hg (N:=8) ?hd (cs:=#[.slice none 0 0,.slice none 0 0,.slice none 0 0]) (t:=38) ?hr ?_;(case hd=>rfl);(case hg=>rfl);(case hr=>exact z14_);intro gbk hg w84 hbox hb;replace HOdn:=am_ (S_below z216_ hb);replace HOdo:=am_ (Q_below z217_ hb);replace HOdp:=am_ (R_below z218_ hb);replace HOdq:=am_ (Q_below z219_ hb);replace HOdr:=am_ (R_below z220_ hb);have BKk:=am_ (hbox);have GWk:=am_ ((by rw[hg];exact(below_size z0_):w.heap.size≤gbk));have GEk:=am_ ((by rw[hg];exact(below_size z0_):w.heap.size≤gbk));replace HB:=am_ (below_step z0_ hb);clear hb hbox hg;obtain⟨Ao85,co85,eo85⟩:=R_slice HOdp.out;subst eo85;obtain⟨hcz86_0,hcz86_1,hcz86_2,hfz86_0,hfz86_1,hfz86_2⟩:=bx3_ BKk.out;obtain⟨Ao87,co87,eo87,_⟩:=Q_slice HOdq.out;subst eo87;obtain⟨Ao88,co88,eo88⟩:=R_slice HOdr.out;subst eo88;obtain⟨Ao89,co89,eo89⟩:=S_slice HOdn.out;subst eo89;obtain⟨Ao90,co90,eo90,_⟩:=Q_slice HOdo.out;subst eo90)|((with_reducible refine gate_callee (f:=19) rfl ?_);refine goesL_ (some 61) rfl rfl Try.func19 y0_ rfl #[.slice Ao89 tQ.length co89,.slice Ao90 ta5.length co90,.agg #[.slice Ao85 tU.length co85,.slice Ao87 tY.length co87,.slice Ao88 tac.length co88]] rfl z1_ ?_;(with_reducible refine(impl_Nearest.calls kj16 _ _ tQ _ _ ta5 _ _ tU _ _ tY _ _ tac tT _ ?s1 ?s2 ?s3 ?s4 ?s5 ?s6 ?s7 ?s8 ?s9 ?s10 A34.out).mono ?_);(case s1=>refine qsl_C (S_reads' (e:=25) (base:=w.heap.size) (ok:=fun k_=>some k_≠(.slice Ao90 ta5.length co90:Value).ownBlock) (n:=tQ.length) (c:=co89) ?_).2.2;exact z139_);(case s2=>exact z374_);(case s3=>refine(Q_reads' (e:=61) (base:=w.heap.size) (ok:=fun k_=>True) (n:=ta5.length) (c:=co90) ?_).2.2;exact z140_);(case s4=>exact z375_);(case s5=>refine(R_reads' (e:=3) (base:=w.heap.size) (ok:=fun k_=>(some k_≠(.slice Ao87 tY.length co87:Value).ownBlock∧some k_≠(.slice Ao88 tac.length co88:Value).ownBlock)) (n:=tU.length) (c:=co85) ?_).2.2;exact z141_);(case s6=>exact z376_);(case s7=>refine(Q_reads' (e:=3) (base:=w.heap.size) (ok:=fun k_=>(some k_≠(.slice Ao85 tU.length co85:Value).ownBlock∧some k_≠(.slice Ao88 tac.length co88:Value).ownBlock)) (n:=tY.length) (c:=co87) ?_).2.2;exact z142_);(case s8=>exact z377_);(case s9=>refine(R_reads' (e:=3) (base:=w.heap.size) (ok:=fun k_=>(some k_≠(.slice Ao85 tU.length co85:Value).ownBlock∧some k_≠(.slice Ao87 tY.length co87:Value).ownBlock)) (n:=tac.length) (c:=co88) ?_).2.2;exact z143_);(case s10=>exact z378_);rintro e w91 ⟨rfl,hb⟩;refine⟨_,rfl,?_⟩;replace HOdn:=am_ (S_below z139_ hb);replace HOdo:=am_ (Q_below z140_ hb);replace HOdp:=am_ (R_below z141_ hb);replace HOdq:=am_ (Q_below z142_ hb);replace HOdr:=am_ (R_below z143_ hb);replace BKk:=am_ (blk_below (g:=gbk) (o:= .cells #[.slice Ao85 tU.length co85,.slice Ao87 tY.length co87,.slice Ao88 tac.length co88] 38 (0,0)) (by refine ub_ (blk_put (cs:=#[.slice Ao85 tU.length co85,.slice Ao87 tY.length co87,.slice none 0 0]) ?_ 2 _ rfl);refine ub_ (blk_put (cs:=#[.slice Ao85 tU.length co85,.slice none 0 0,.slice none 0 0]) ?_ 1 _ rfl);refine ub_ (blk_put (cs:=#[.slice none 0 0,.slice none 0 0,.slice none 0 0]) ?_ 0 _ rfl);exact ub_ BKk.out) hb);replace HB:=am_ (below_step z19_ hb);(try clear hb);obtain⟨hcz92_0,hcz92_1,hcz92_2,hfz92_0,hfz92_1,hfz92_2⟩:=bx3_ BKk.out)|((with_reducible refine gate_callee (f:=16) rfl ?_);refine goesL_ (some 66) rfl rfl Try.func16 y0_ rfl #[.slice Ao89 tQ.length co89,.slice Ao90 ta5.length co90,.agg #[.slice Ao85 tU.length co85,.slice Ao87 tY.length co87,.slice Ao88 tac.length co88]] rfl z1_ ?_;(with_reducible refine(spec_Nearest.calls kj16 _ _ tQ _ _ ta5 _ _ tU _ _ tY _ _ tac tff _ ?s1 ?s2 ?s3 ?s4 ?s5 ?s6 ?s7 ?s8 ?s9 ?s10 A35.out).mono ?_);(case s1=>exact z284_);(case s2=>exact z374_);(case s3=>exact z285_);(case s4=>exact z375_);(case s5=>exact z286_);(case s6=>exact z376_);(case s7=>exact z287_);(case s8=>exact z377_);(case s9=>exact z288_);(case s10=>exact z378_);rintro e w93 ⟨rfl,hb⟩;refine⟨_,rfl,?_⟩;replace HOdn:=am_ (S_below z216_ hb);replace HOdo:=am_ (Q_below z217_ hb);replace HOdp:=am_ (R_below z218_ hb);replace HOdq:=am_ (Q_below z219_ hb);replace HOdr:=am_ (R_below z220_ hb);replace BKk:=am_ (blk_below z54_ hb);replace HB:=am_ (below_step z19_ hb);(try clear hb)))
       go_ret;exact⟨z7_,z19_⟩

def laws_FnNear.Pure:Prop:=∀(l0:List Int),l0.length≤maxLen→l0.length*1≤140737488351232→(∀x ∈ l0,(Lit.int .u8 x).wf=true)→∃k,laws_FnNear.f k l0=some true
theorem laws_FnNear.walk (P:laws_FnNear.Pure) (a0:Option Addr) (len0 cap0:Nat) (z0:List Int) (w:World) (w0:(a0=none∧len0=0∧cap0=0∧z0=[])∨∃x,a0=some x∧len0≤cap0∧cap0≤maxLen∧z0.length=cap0∧(∀i,i<z0.length→w.cell? (x.add i)=some (.int .u8 (z0.getD i 0)))∧∀n ∈ z0,(Lit.int .u8 n).wf=true) (y0:len0*1≤140737488351232):
  Calls Try.prog 7 #[.slice a0 len0 cap0] w fun e w'=>e= .returned (.bool true)∧Below w.heap.size w w':=by
 obtain⟨l0,rfl,hr0,hm0,hw0,hc0⟩:=ReadsInt.ofRowC w0;obtain⟨k,h⟩:=P l0 hm0 y0 hw0;refine(laws_FnNear.calls k _ _ l0 true w (C_of_reads (d:=(0:Int)) (h1:=fun _=>rfl) hr0) hc0 h).mono ?_;rintro e w' ⟨rfl,hd⟩;exact⟨rfl,hd⟩

end Go.Proofs.Ytbmkobanpakohaa.PFnNear
