/- Walks of functions of FnNear, laid anew out of the kit's print. -/
import Derived.Test.YtbmkobanpakohaaMFnNearx0
import Derived.Test.YtbmkobanpakohaaMFnNearx11
namespace Go.Proofs.Ytbmkobanpakohaa.PFnNear
open Go.RowKit Go.Proofs.YtbmkobanpakohaaW.PrintWords Go.Proofs.YtbmkobanpakohaaW.PrintLast Go.Proofs.YtbmkobanpakohaaW.PrintMore Go.Proofs.YtbmkobanpakohaaW.PrintWords.Kd Go.Proofs.YtbmkobanpakohaaW.PrintMore.Kd
set_option maxHeartbeats 8000000
set_option maxRecDepth 100000
attribute [local go_sem] max2_int min2_int max_two min_two max_three min_three max_four min_four
set_option linter.unusedVariables false
set_option linter.unusedSimpArgs false

/-! ### spec_KeyRoots: function 82 -/
mutual
def spec_KeyRoots.l0:Nat→List Int→List Int→Int→Option (List Int)
 |0,_,_,_=>none
 |k+1,x3,x4,x5=>if x5<(x4.length:Int) then (spec_KeyRoots.l1 k x3 x4 x5 true (wrap64 (x5+1))) else (some x3)
def spec_KeyRoots.l1:Nat→List Int→List Int→Int→Bool→Int→Option (List Int)
 |0,_,_,_,_,_=>none
 |k+1,x3,x4,x5,x6,x7=>if x7<(x4.length:Int) then (if x6=true then (if 0≤x7 then (if 0≤x5 then (if x5<(x4.length:Int) then (spec_KeyRoots.l1 k x3 x4 x5 ((rd x4 x7) != (rd x4 x5)) (wrap64 (x7+1))) else (none)) else (none)) else (none)) else (spec_KeyRoots.l1 k x3 x4 x5 false (wrap64 (x7+1)))) else (if x6=true then (if x3.length<17592186044416 then (spec_KeyRoots.l0 k (x3++[x5]) x4 (wrap64 (x5+1))) else (none)) else (spec_KeyRoots.l0 k x3 x4 (wrap64 (x5+1))))
end
def spec_KeyRoots.f (k:Nat) (l0:List (S61)):Option (List Int):=(spec_LeftLeaf.f k l0).bind fun tck=>(spec_KeyRoots.l0 k (([]:List Int)) tck 0)
theorem spec_KeyRoots.calls (k:Nat) (A0:Option Addr) (c0:Nat) (l0:List (S61)) (r:List Int) (w:World) (hr0:Kd.C k61 w A0 l0.length l0) (hc0:l0.length≤c0) (h:spec_KeyRoots.f k l0=some r):
  Calls Try.prog 82 #[.slice A0 l0.length c0] w fun e w'=>∃v0_:Value,e= .returned (v0_)∧RI_ w' w.heap.size (fun _=>True) v0_ r∧Below w.heap.size w w':=by
 have HR0:=am_ hr0;have HC0:=am_ hc0;clear hr0 hc0;have HB:=am_ (Below.refl w.heap.size w);have H:((spec_LeftLeaf.f k l0).bind fun tck=>(spec_KeyRoots.l0 k (([]:List Int)) tck 0))=some r:=h;clear h
 (generalize hy_:((([]:List Int)):List Int)=yhX at H;have NyhX:=am_ hy_.symm;clear hy_)
 obtain⟨tck,A2,H⟩:=bnd_ H;have H':=am_ H;clear H;go_enter Try.func82,Try.ntmps82
 go_wp2_with (first|((with_reducible refine gate_dst (N:=8) rfl ?_);refine R_lit (Kd.int .i64) _ 3 ?hg (N:=8) ?hd (xs:=([]:List Int)) (inner:=[]) (ok:=fun _=>True) (okp:=fun _=>True) ?hr ?hp (fun _ hk=>hk) trivial (Below.refl _ _) (Nat.le_refl _) (by simp) ?_;(case hd=>rfl);(case hg=>rfl);(case hr=>exact z14_);(case hp=>exact z276_);intro vlo w3 ho4 hb hg_ hnew_;clear hg_ hnew_;(rw[←NyhX.out] at ho4);have HOhE:=am_ (R_lower ho4 (below_size z0_));replace HB:=am_ (below_step z0_ hb);clear hb ho4)|(go_at_call 81;(with_reducible refine(spec_LeftLeaf.calls k _ _ l0 tck _ ?s1 ?s2 A2.out).mono ?_);(case s1=>exact z6_);(case s2=>exact HC0.out);rintro e w5 ⟨vi2,rfl,ho0,hb⟩;have HOkb:=am_ (R_lower (R_new' ho0 (R_lt z190_)) (below_size z0_));replace HOhE:=am_ (R_elder' z190_ (R_base ho0) hb);replace HB:=am_ (below_step z0_ hb);(try clear hb ho0)))
 go_loopg [3,5] k (fun kq v3 v5 w'=>∃(x3_1:List Int) (x5_1:Int),v5= .int .i64 x5_1∧Aside0 (spec_KeyRoots.l0 kq x3_1 tck x5_1=some r)∧Aside0 (kq≤k)∧Aside0 (RI_ w' w.heap.size (nb1_ vi2) v3 x3_1)∧Aside0 (RI_ w' w.heap.size (nb1_ v3) vi2 tck)∧Aside0 (Below w.heap.size w w'))
 case atStart=>exact⟨(yhX),(0),z9_,H',⟨Nat.le_refl _⟩,⟨by exact ur_ (R_mono HOhE.out (fun _ hk=>hk.2))⟩,⟨by exact ur_ (R_mono HOkb.out (fun _ hk=>hk.2))⟩,⟨z0_⟩⟩
 case round=>
  clear H';obtain⟨x3_1,x5_1,rfl,HA,HK1,HO_3,HO_4,HB⟩:=hrel;cases gk with
  |zero=>exact absurd HA.out (by simp[spec_KeyRoots.l0])
  | succ k1=>
   have H:=HA.out;clear HA;simp only[spec_KeyRoots.l0] at H;by_cases c6:x5_1<(tck.length:Int)
   ·rw [if_pos c6] at H;have c6b0:=decide_eq_true c6;clear c6;have H':=am_ H;clear H;obtain⟨Ao7,co7,eo7⟩:=R_slice HO_4.out;subst eo7;go_wp2
    go_loopg [6,7] k1 (fun kq v6 v7 w'=>∃(x6_2:Bool) (x7_2:Int),v6= .bool x6_2∧v7= .int .i64 x7_2∧Aside0 (spec_KeyRoots.l1 kq x3_1 tck x5_1 x6_2 x7_2=some r)∧Aside0 (kq≤k1)∧Aside0 (RI_ w' w.heap.size (nb1_ (.slice Ao7 tck.length co7)) u3 x3_1)∧Aside0 (RI_ w' w.heap.size (nb1_ u3) (.slice Ao7 tck.length co7) tck)∧Aside0 (Below w.heap.size w w'))
    case atStart=>exact⟨(true),(wrap64 (x5_1+1)),z9_,z9_,H',⟨Nat.le_refl _⟩,⟨z40_⟩,⟨z27_⟩,⟨z0_⟩⟩
    case round=>
     clear H';obtain⟨x6_2,x7_2,rfl,rfl,HA,HK2,HO_3,HO_4,HB⟩:=hrel;cases gk with
     |zero=>exact absurd HA.out (by simp[spec_KeyRoots.l1])
     | succ k2=>
      have H:=HA.out;clear HA;simp only[spec_KeyRoots.l1] at H;by_cases c8:x7_2<(tck.length:Int)
      ·rw[if_pos c8] at H;have c8b0:=decide_eq_true c8;clear c8;by_cases c9:x6_2=true
       ·subst c9;replace H:=ift_ H;obtain⟨c10b0,H⟩:=ifd_ H;obtain⟨c11b0,H⟩:=ifd_ H;obtain⟨c12b0,H⟩:=ifd_ H;have H':=am_ H;clear H;have pd6:0≤(x7_2:Int):=odt_;have qd6:x7_2<(tck.length:Int):=odt_;obtain⟨add6,ed6,hxd6_0⟩:=at_int (R_reads' HO_4.out).2.2 x7_2 pd6 qd6;cases ed6;replace pd6:=eq_true pd6;replace qd6:=eq_true qd6;have pd7:0≤(x5_1:Int):=odt_;have qd7:x5_1<(tck.length:Int):=odt_;obtain⟨add7,ed7,hxd7_0⟩:=at_int (R_reads' HO_4.out).2.2 x5_1 pd7 qd7;obtain rfl:add6=add7:=(by injection ed7)
        replace pd7:=eq_true pd7;replace qd7:=eq_true qd7;go_wp2
        repeat(go_quiet (fail);try go_wp2)
        go_roundg k2
        case measure=>have:=HK1.out;have:=HK2.out;omega
        case rel=>exact⟨(((rd tck x7_2) != (rd tck x5_1))),(wrap64 (x7_2+1)),z9_,z9_,H',⟨z161_⟩,⟨z40_⟩,⟨z27_⟩,⟨z0_⟩⟩
       ·replace c9:=Bool.eq_false_iff.mpr c9;subst c9;replace H:=iff_ H;have H':=am_ H;clear H;go_wp2
        repeat(go_quiet (fail);try go_wp2)
        go_roundg k2
        case measure=>have:=HK1.out;have:=HK2.out;omega
        case rel=>exact⟨(false),(wrap64 (x7_2+1)),z9_,z9_,H',⟨z161_⟩,⟨z40_⟩,⟨z27_⟩,⟨z0_⟩⟩
      ·rw[if_neg c8] at H;have c8b0:=decide_eq_false c8;clear c8;by_cases c13:x6_2=true
       ·subst c13;replace H:=ift_ H;obtain⟨c14,H⟩:=ifs_ H;have LMc14:=am_ c14;clear c14
        (generalize hy_:((x3_1++[x5_1]):List Int)=yhY at H;have NyhY:=am_ hy_.symm;clear hy_)
        have H':=am_ H;clear H
        go_wp2_with (((with_reducible refine gate_builtin (b:= .append) (xs:=#[.tmp 38,.tmp 40]) rfl ?_);at_builtin;refine R_append (Kd.int .i64) (w0:=w) w.heap.size rfl (.tmp 38) (.tmp 40) 30 3 (.int .i64 0) 8 rfl Try.underlying30 info3 rfl (by decide) (by omega) u3 x3_1 x5_1 [.int .i64 x5_1] (nb1_ (.slice Ao7 tck.length co7)) (fun _=>False) rfl rfl ?aP (fun _ hk=>hk.elim) ?aF ?aO ?aB ?aS ?aL ?_;(case aP=>exact rfl);(case aB=>exact z60_);(case aF=>exact z152_);(case aO=>exact z131_);(case aS=>exact z55_);(case aL=>have:=LMc14.out;omega);intro vlp w15 ho hb hg hat;rw[←NyhY.out] at ho;replace HO_4:=am_ (R_after (ok:=(fun _=>True)) z200_ hg hat);replace HB:=am_ (hb);have HOkc:=am_ (ho);clear HO_3;clear ho hb hg hat))
        go_roundg k2
        case measure=>have:=HK1.out;have:=HK2.out;omega
        case rel=>exact⟨(yhY),(wrap64 (x5_1+1)),z9_,H',⟨z161_⟩,⟨by exact ur_ HOkc.out⟩,⟨z334_⟩,⟨z0_⟩⟩
       ·replace c13:=Bool.eq_false_iff.mpr c13;subst c13;replace H:=iff_ H;have H':=am_ H;clear H;go_wp2
        go_roundg k2
        case measure=>have:=HK1.out;have:=HK2.out;omega
        case rel=>exact⟨(x3_1),(wrap64 (x5_1+1)),z9_,H',⟨z161_⟩,⟨z40_⟩,⟨z27_⟩,⟨z0_⟩⟩
   ·rw[if_neg c6] at H;have c6b0:=decide_eq_false c6;clear c6;obtain rfl:=Option.some.inj H;obtain⟨Ao16,co16,eo16⟩:=R_slice HO_4.out;subst eo16;go_wp2;go_ret;exact⟨_,z7_,z203_,z0_⟩

end Go.Proofs.Ytbmkobanpakohaa.PFnNear
