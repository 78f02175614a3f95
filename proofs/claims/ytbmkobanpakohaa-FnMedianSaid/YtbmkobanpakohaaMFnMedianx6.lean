/- The walks of the law FnMedian. -/
import Derived.Test.YtbmkobanpakohaaMFnMedianx0
import Derived.Test.YtbmkobanpakohaaMFnMedianx5
namespace Go.Proofs.Ytbmkobanpakohaa.PFnMedian
open Go.RowKit Go.Proofs.YtbmkobanpakohaaW.PrintWords Go.Proofs.YtbmkobanpakohaaW.PrintLast Go.Proofs.YtbmkobanpakohaaW.PrintMore
attribute [local go_sem] max2_int min2_int max_two min_two max_three min_three max_four min_four
set_option linter.unusedVariables false
set_option linter.unusedSimpArgs false

/-! ### spec_KeyRoots: function 82 -/
mutual
def spec_KeyRoots.l0:Nat→List Int→List Int→Int→Option (List Int)
 |0,_,_,_=>none
 |k+1,x3,x4,x5=>if x5<(x4.length:Int) then (spec_KeyRoots.l1 k x3 x4 x5 true (wrap64 (x5+1))) else (some x3)
def spec_KeyRoots.l1:Nat→List Int→List Int→Int→Bool→Int→Option (List Int)
 |0,_,_,_,_,_=>none
 |k+1,x3,x4,x5,x6,x7=>if x7<(x4.length:Int) then (if x6=true then (if 0≤x7 then (if 0≤x5 then (if x5<(x4.length:Int) then (spec_KeyRoots.l1 k x3 x4 x5 ((rd x4 x7) != (rd x4 x5)) (wrap64 (x7+1))) else (none)) else (none)) else (none)) else (spec_KeyRoots.l1 k x3 x4 x5 false (wrap64 (x7+1)))) else (if x6=true then (if x3.length<17592186044416 then (spec_KeyRoots.l0 k (x3++[x5]) x4 (wrap64 (x5+1))) else (none)) else (spec_KeyRoots.l0 k x3 x4 (wrap64 (x5+1))))
end
def spec_KeyRoots.f (k:Nat) (l0:List (S61)):Option (List Int):=(spec_LeftLeaf.f k l0).bind fun t203=>(spec_KeyRoots.l0 k (([]:List Int)) t203 0)
set_option maxHeartbeats 8000000 in
set_option maxRecDepth 100000 in
theorem spec_KeyRoots.calls (k:Nat) (A0:Option Addr) (c0:Nat) (l0:List (S61)) (r:List Int) (w:World) (hr0:Kd.C k61 w A0 l0.length l0) (hc0:l0.length≤c0) (h:spec_KeyRoots.f k l0=some r):
  Calls Try.prog 82 #[.slice A0 l0.length c0] w fun e w'=>∃v0_:Value,e= .returned (v0_)∧Kd.R (Kd.int .i64) 3 w' w.heap.size (fun _=>True) v0_ r∧Below w.heap.size w w':=by
 have HR0:=Aside0.mk hr0;have HC0:=Aside0.mk hc0;clear hr0 hc0;have HB:=am_ (Below.refl w.heap.size w);have H:((spec_LeftLeaf.f k l0).bind fun t203=>(spec_KeyRoots.l0 k (([]:List Int)) t203 0))=some r:=h;clear h
 (generalize hy_:((([]:List Int)):List Int)=y200 at H;have Ny200:=Aside0.mk hy_.symm;clear hy_)
 obtain⟨t203,A2,H⟩:=bnd_ H;have H':=Aside0.mk H;clear H;go_enter Try.func82,Try.ntmps82
 go_wp2_with (first|((with_reducible refine gate_dst (N:=8) rfl ?_);refine Kd.R_lit (Kd.int .i64) _ 3 ?hg (N:=8) ?hd (xs:=([]:List Int)) (inner:=[]) (ok:=fun _=>True) (okp:=fun _=>True) ?hr ?hp (fun _ hk=>hk) trivial (Below.refl _ _) (Nat.le_refl _) (by simp) ?_;(case hd=>rfl);(case hg=>rfl);(case hr=>exact z14_);(case hp=>exact z230_);intro v201 w3 ho4 hb hg_ hnew_;clear hg_ hnew_;(rw[←Ny200.out] at ho4);have HO202:=am_ (Kd.R_lower ho4 (below_size z0_));replace HB:=am_ (below_step z0_ hb);clear hb ho4)|(go_at_call 81;(with_reducible refine(spec_LeftLeaf.calls k _ _ l0 t203 _ ?side1 ?side2 A2.out).mono ?_);(case side1=>exact z6_);(case side2=>exact HC0.out);rintro e w5 ⟨v204,rfl,ho0,hb⟩;have HO205:=am_ (Kd.R_lower (Kd.R_new' ho0 (Kd.R_lt z154_)) (below_size z0_));replace HO202:=am_ (Kd.R_elder' z154_ (Kd.R_base ho0) hb);replace HB:=am_ (below_step z0_ hb);(try clear hb ho0)))
 go_loopg [3,5] k (fun kq v3 v5 w'=>∃(x3_1:List Int) (x5_1:Int),v5= .int .i64 x5_1∧Aside0 (spec_KeyRoots.l0 kq x3_1 t203 x5_1=some r)∧Aside0 (kq≤k)∧Aside0 (Kd.R (Kd.int .i64) 3 w' w.heap.size (fun k_=>some k_≠(v204:Value).ownBlock) v3 x3_1)∧Aside0 (Kd.R (Kd.int .i64) 3 w' w.heap.size (fun k_=>some k_≠(v3:Value).ownBlock) v204 t203)∧Aside0 (Below w.heap.size w w'))
 case atStart=>exact⟨(y200),(0),z9_,H',⟨Nat.le_refl _⟩,⟨by exact Kd.R_mono HO202.out (fun _ hk=>hk.2)⟩,⟨by exact Kd.R_mono HO205.out (fun _ hk=>hk.2)⟩,⟨z0_⟩⟩
 case round=>
  clear H';obtain⟨x3_1,x5_1,rfl,HA,HK1,HO_3,HO_4,HB⟩:=hrel;cases gk with
  |zero=>exact absurd HA.out (by simp[spec_KeyRoots.l0])
  | succ k1=>
   have H:=HA.out;clear HA;simp only[spec_KeyRoots.l0] at H;by_cases c6:x5_1<(t203.length:Int)
   ·rw [if_pos c6] at H;have c6b0:=decide_eq_true c6;clear c6;have H':=Aside0.mk H;clear H;obtain⟨Ao7,co7,eo7⟩:=Kd.R_slice HO_4.out;subst eo7;go_wp2
    go_loopg [6,7] k1 (fun kq v6 v7 w'=>∃(x6_2:Bool) (x7_2:Int),v6= .bool x6_2∧v7= .int .i64 x7_2∧Aside0 (spec_KeyRoots.l1 kq x3_1 t203 x5_1 x6_2 x7_2=some r)∧Aside0 (kq≤k1)∧Aside0 (Kd.R (Kd.int .i64) 3 w' w.heap.size (fun k_=>some k_≠((.slice Ao7 t203.length co7):Value).ownBlock) u3 x3_1)∧Aside0 (Kd.R (Kd.int .i64) 3 w' w.heap.size (fun k_=>some k_≠(u3:Value).ownBlock) (.slice Ao7 t203.length co7) t203)∧Aside0 (Below w.heap.size w w'))
    case atStart=>exact⟨(true),(wrap64 (x5_1+1)),z9_,z9_,H',⟨Nat.le_refl _⟩,⟨z33_⟩,⟨z29_⟩,⟨z0_⟩⟩
    case round=>
     clear H';obtain⟨x6_2,x7_2,rfl,rfl,HA,HK2,HO_3,HO_4,HB⟩:=hrel;cases gk with
     |zero=>exact absurd HA.out (by simp[spec_KeyRoots.l1])
     | succ k2=>
      have H:=HA.out;clear HA;simp only[spec_KeyRoots.l1] at H;by_cases c8:x7_2<(t203.length:Int)
      ·rw[if_pos c8] at H;have c8b0:=decide_eq_true c8;clear c8;by_cases c9:x6_2=true
       ·subst c9;replace H:=ift_ H;obtain⟨c10b0,H⟩:=ifd_ H;obtain⟨c11b0,H⟩:=ifd_ H;obtain⟨c12b0,H⟩:=ifd_ H;have H':=Aside0.mk H;clear H;have p206:0≤(x7_2:Int):=odt_;have q206:x7_2<(t203.length:Int):=odt_;obtain⟨ad206,e206,hx206_0⟩:=Kd.at_int (Kd.R_reads' HO_4.out).2.2 x7_2 p206 q206;cases e206;replace p206:=eq_true p206;replace q206:=eq_true q206;have p207:0≤(x5_1:Int):=odt_;have q207:x5_1<(t203.length:Int):=odt_;obtain⟨ad207,e207,hx207_0⟩:=Kd.at_int (Kd.R_reads' HO_4.out).2.2 x5_1 p207 q207;obtain rfl:ad206=ad207:=(by injection e207)
        replace p207:=eq_true p207;replace q207:=eq_true q207;go_wp2
        repeat(go_quiet (fail);try go_wp2)
        go_roundg k2
        case measure=>have:=HK1.out;have:=HK2.out;omega
        case rel=>exact⟨(((rd t203 x7_2) != (rd t203 x5_1))),(wrap64 (x7_2+1)),z9_,z9_,H',⟨z101_⟩,⟨z33_⟩,⟨z29_⟩,⟨z0_⟩⟩
       ·replace c9:=Bool.eq_false_iff.mpr c9;subst c9;replace H:=iff_ H;have H':=Aside0.mk H;clear H;go_wp2
        repeat(go_quiet (fail);try go_wp2)
        go_roundg k2
        case measure=>have:=HK1.out;have:=HK2.out;omega
        case rel=>exact⟨(false),(wrap64 (x7_2+1)),z9_,z9_,H',⟨z101_⟩,⟨z33_⟩,⟨z29_⟩,⟨z0_⟩⟩
      ·rw[if_neg c8] at H;have c8b0:=decide_eq_false c8;clear c8;by_cases c13:x6_2=true
       ·subst c13;replace H:=ift_ H;obtain⟨c14,H⟩:=ifs_ H;have LMc14:=Aside0.mk c14;clear c14
        (generalize hy_:((x3_1++[x5_1]):List Int)=y208 at H;have Ny208:=Aside0.mk hy_.symm;clear hy_)
        have H':=Aside0.mk H;clear H
        go_wp2_with (((with_reducible refine gate_builtin (b:= .append) (xs:=#[.tmp 38,.tmp 40]) rfl ?_);at_builtin;refine Kd.R_append (Kd.int .i64) (w0:=w) w.heap.size rfl (.tmp 38) (.tmp 40) 30 3 (.int .i64 0) 8 rfl Try.underlying30 info3 rfl (by decide) (by omega) u3 x3_1 x5_1 [.int .i64 x5_1] (fun k_=>some k_≠(.slice Ao7 t203.length co7:Value).ownBlock) (fun _=>False) rfl rfl ?aP (fun _ hk=>hk.elim) ?aF ?aO ?aB ?aS ?aL ?_;(case aP=>exact rfl);(case aB=>exact z48_);(case aF=>exact z123_);(case aO=>exact z106_);(case aS=>exact z46_);(case aL=>have:=LMc14.out;omega);intro v209 w15 ho hb hg hat;rw[←Ny208.out] at ho;replace HO_4:=am_ (Kd.R_after (ok:=(fun _=>True)) z166_ hg hat);replace HB:=am_ (hb);have HO210:=am_ (ho);clear HO_3;clear ho hb hg hat))
        go_roundg k2
        case measure=>have:=HK1.out;have:=HK2.out;omega
        case rel=>exact⟨(y208),(wrap64 (x5_1+1)),z9_,H',⟨z101_⟩,⟨by exact HO210.out⟩,⟨z273_⟩,⟨z0_⟩⟩
       ·replace c13:=Bool.eq_false_iff.mpr c13;subst c13;replace H:=iff_ H;have H':=Aside0.mk H;clear H;go_wp2
        go_roundg k2
        case measure=>have:=HK1.out;have:=HK2.out;omega
        case rel=>exact⟨(x3_1),(wrap64 (x5_1+1)),z9_,H',⟨z101_⟩,⟨z33_⟩,⟨z29_⟩,⟨z0_⟩⟩
   ·rw[if_neg c6] at H;have c6b0:=decide_eq_false c6;clear c6;obtain rfl:=Option.some.inj H;obtain⟨Ao16,co16,eo16⟩:=Kd.R_slice HO_4.out;subst eo16;go_wp2;go_ret;exact⟨_,z8_,z170_,z0_⟩

end Go.Proofs.Ytbmkobanpakohaa.PFnMedian
