/- What the printed functions of the law FnNear come to, function by function, from some number of rounds on; each under the bounds that it names. -/
import Derived.Test.YtbmkobanpakohaaQFnNearc
namespace Go.Proofs.Ytbmkobanpakohaa.QFnNear
open Go.RowKit Go.Proofs.Ytbmkobanpakohaa.PFnNear Go.Proofs.YtbmkobanpakohaaW.PrintWords Go.Proofs.YtbmkobanpakohaaW.PrintLast Go.Proofs.YtbmkobanpakohaaW.PrintMore Go.Proofs.Ytbmkobanpakohaa.EvAid Go.Proofs.Ytbmkobanpakohaa
set_option linter.unusedVariables false
set_option linter.unusedSimpArgs false

/-! #### _rootD -/
theorem zs_of {l m:List S61} (hl:treeOk l=true) (hm:treeOk m=true) {D I R:List Int} (hc:costB D I R=true):Zs D I R (ptI l hl) (ptI m hm) (labI l) (labI m) (leafI l) (leafI m):=by
  obtain⟨h1,h2,h3,_⟩:=costB_iff.1 hc
  exact {
    nA:=(treeOk_iff.1 hl).1.2
    nB:=(treeOk_iff.1 hm).1.2
    cD:=h1.1
    cI:=h2.1
    cR:=h3.1
    x:=⟨labI_len hl,fun k hk=>rd_lab hl hk⟩
    y:=⟨labI_len hm,fun k hk=>rd_lab hm hk⟩
    la:=⟨leafI_len hl,fun k hk=>rd_leaf hl hk⟩
    lb:=⟨leafI_len hm,fun k hk=>rd_leaf hm hk⟩
    labA:=fun p hp=>lb_range hl ((pol_order hl).at_ hp).1
    labB:=fun p hp=>lb_range hm ((pol_order hm).at_ hp).1
    range:=costs_range hc}
theorem pt_la_root {l:List S61} (hl:treeOk l=true):(ptI l hl).la (l.length-1)=0:=by
  have b:=(treeOk_iff.1 hl).1
  have hv:=treeOk_vd hl
  obtain⟨h1,h2⟩:=(pol_order hl).at_ (show l.length-1<l.length by omega)
  have h3:Tree.rnk l.length (dpA l) 0=l.length-1:=by
    unfold Tree.rnk
    rw[Tree.eo_root hv,hv.2.1]
    omega
  have h4:=Tree.rnk_inj hv h1 (show 0<l.length by omega) (by rw[h2,h3])
  show Tree.lft (dpA l) ((pol l).getD (l.length-1) 0)=0
  rw[h4]
  unfold Tree.lft
  omega
theorem l8All_ev {l m:List S61} (hl:treeOk l=true) (hm:treeOk m=true) {D I R:List Int} (hc:costB D I R=true):∃res,Ev (fun k=>spec_l8All.f k l m D I R) res∧LastIs D I R (ptI l hl) (ptI m hm) (l.length-1) (m.length-1) res.2:=by
  have b1:=(treeOk_iff.1 hl).1
  have b2:=(treeOk_iff.1 hm).1
  have z:=zs_of hl hm hc
  have kA:=keyN_list z.la
  have kB:=keyN_list z.lb
  have lA:(keyN (leafI l)).length≤24:=by
    have:=keysTo_len (leafI l) (leafI l).length
    unfold keysTo at this
    rw[List.length_map,leafI_len hl] at this
    unfold keyN
    rw[leafI_len hl]
    omega
  have lB:(keyN (leafI m)).length≤24:=by
    have:=keysTo_len (leafI m) (leafI m).length
    unfold keysTo at this
    rw[List.length_map,leafI_len hm] at this
    unfold keyN
    rw[leafI_len hm]
    omega
  have hmul:l.length*m.length≤576:=Nat.le_trans (Nat.mul_le_mul b1.2 b2.2) (by decide)
  obtain⟨res,h1,h2⟩:=l8All_l0 z kA kB lA lB (l.length-1) (m.length-1) (keyN_last kA (show 0<l.length by omega)) (keyN_last kB (show 0<m.length by omega)) (keyN_ne kB (show 0<m.length by omega)) (keyN (leafI l)) [] (List.replicate (l.length*m.length) 0) [] rfl (fun e=>absurd e (keyN_ne kA (show 0<l.length by omega))) ⟨List.length_replicate,fun p q _ _ h=>by
    obtain⟨k,_,h⟩:=h
    cases h⟩
  refine⟨res,?_,h2⟩
  have e1:PLift (wrap64 ((l.length:Int)*(m.length:Int))=((l.length*m.length:Nat):Int)):=⟨by rw[←Int.natCast_mul,w64 (by omega) (by omega)]⟩
  simp only[spec_l8All.f]
  simp only[e1.down,Int.toNat_natCast]
  refine ev_pos (by omega) (ev_pos (by omega) (ev_bind (spec_l8Labels_ev l (by omega)) (ev_bind (spec_l8Labels_ev m (by omega)) (ev_bind (spec_LeftLeaf_ev l (by omega)) (ev_bind (spec_LeftLeaf_ev m (by omega)) (ev_bind (KeyRoots_ev l (by omega)) (ev_bind (KeyRoots_ev m (by omega)) ?_)))))))
  rw[keyI_eq,keyI_eq]
  exact h1
theorem l8Three_ev (l m:List S61) (D I R:List Int) (h1:(l.length:Int)≤9223372036854775806) (h2:(m.length:Int)≤9223372036854775806) (hD:(D.length:Int)≤1099511627776) (hI:(I.length:Int)≤1099511627776) (hR:(R.length:Int)≤1099511627776):Ev (fun k=>spec_l8Three.f k l m D I R) (treeOk l&&(treeOk m&&costB D I R)):=by
  simp only[spec_l8Three.f]
  refine ev_bind (spec_TreeOk_ev l h1) ?_
  by_cases c1:treeOk l=true
  · refine ev_pos c1 (ev_bind (spec_TreeOk_ev m h2) ?_)
    by_cases c2:treeOk m=true
    · exact ev_pos c2 (ev_bind (spec_CostOk_ev D I R hD hI hR) (ev_some (by rw[c1,c2];rfl)))
    · exact ev_neg c2 (ev_some (by rw[c1,Bool.eq_false_iff.2 c2];rfl))
  · exact ev_neg c1 (ev_some (by rw[Bool.eq_false_iff.2 c1];rfl))
theorem spec_RelCost_ev {l m:List S61} (hl:treeOk l=true) (hm:treeOk m=true) {D I R:List Int} (hc:costB D I R=true):Ev (fun k=>spec_RelCost.f k D I R (lbA l 0) (lbA m 0)) (rd R (lbA l 0*6+lbA m 0)):=by
  obtain⟨h1,h2,h3,_⟩:=costB_iff.1 hc
  have b1:=(treeOk_iff.1 hl).1
  have b2:=(treeOk_iff.1 hm).1
  have h4:=spec_CostOk_ev D I R (by omega) (by omega) (by omega)
  rw[hc] at h4
  obtain⟨h5,h6⟩:=lab_idx hl hm (show 0<l.length by omega) (show 0<m.length by omega)
  have h7:=lb_range hl (show 0<l.length by omega)
  have h8:=lb_range hm (show 0<m.length by omega)
  simp only[spec_RelCost.f]
  rw[h6]
  clear h6
  exact ev_bind h4 (ev_pos rfl (ev_bindc (spec_LabelOk_eq _) (ev_pos (decide_eq_true h7) (ev_bindc (spec_LabelOk_eq _) (ev_pos (decide_eq_true h8) (ev_pos (by omega) (ev_pos (by omega) (Ev.now _))))))))
theorem spec_RootDist_ev (l m:List S61) (D I R:List Int) (h1:(l.length:Int)≤9223372036854775806) (h2:(m.length:Int)≤9223372036854775806) (hD:(D.length:Int)≤1099511627776) (hI:(I.length:Int)≤1099511627776) (hR:(R.length:Int)≤1099511627776):Ev (fun k=>spec_RootDist.f k l m D I R) (rootD l m D I R):=by
  simp only[spec_RootDist.f]
  refine ev_bind (l8Three_ev l m D I R h1 h2 hD hI hR) ?_
  by_cases h:treeOk l=true∧treeOk m=true∧costB D I R=true
  · obtain⟨hl,hm,hc⟩:=h
    have b1:=(treeOk_iff.1 hl).1
    have b2:=(treeOk_iff.1 hm).1
    rw[rootD_ok hl hm hc]
    have r1:=dist_range (costs_range hc) (A:=ptI l hl) (B:=ptI m hm) b1.2 b2.2 (i:=0) (k:=0) (show l.length-1≤l.length by omega) (show m.length-1≤m.length by omega)
    have r2:0≤rd R (lbA l 0*6+lbA m 0)∧rd R (lbA l 0*6+lbA m 0)≤1000:=(costs_range hc).rel (lbA l 0) (lbA m 0)
    obtain⟨res,g1,g2⟩:=l8All_ev hl hm hc
    unfold LastIs at g2
    rw[pt_la_root hl,pt_la_root hm] at g2
    have g3:=g2.1
    have g4:=g2.2 (l.length-1) (m.length-1) (by omega) (by omega) trivial
    have g5:=idx_lt (r:=l.length-1) (s:=m.length-1) (w:=m.length-1-0+2) (H:=l.length-1-0+2) (by omega) (by omega)
    have g6:(l.length-1-0+2)*(m.length-1-0+2)≤676:=Nat.le_trans (Nat.mul_le_mul (show l.length-1-0+2≤26 by omega) (show m.length-1-0+2≤26 by omega)) (by decide)
    have g7:Fz D I R (ptI l hl) (ptI m hm) 0 0 (l.length-1) (m.length-1)=Dist.dist (costs D I R) ((ptI l hl).fo 0 (l.length-1)) ((ptI m hm).fo 0 (m.length-1)):=by
      unfold Fz
      rw[Nat.zero_add,Nat.zero_add]
    rw[g7] at g4
    rw[show m.length-1-0+2=m.length+1 by omega] at g3 g4 g5 g6
    obtain⟨i0,hi0⟩:∃n,n=(l.length-1)*(m.length+1):=⟨_,rfl⟩
    rw[←hi0] at g4 g5
    have e1:PLift (wrap64 ((l.length:Int)-1)=((l.length-1:Nat):Int)):=⟨by rw[w64 (by omega) (by omega)];omega⟩
    have e2:PLift (wrap64 ((m.length:Int)+1)=((m.length+1:Nat):Int)):=⟨by rw[w64 (by omega) (by omega)];omega⟩
    have e3:PLift (wrap64 (((l.length-1:Nat):Int)*((m.length+1:Nat):Int))=(i0:Int)):=⟨by rw[←Int.natCast_mul,←hi0,w64 (by omega) (by omega)]⟩
    have e4:PLift (wrap64 ((i0:Int)+(m.length:Int))=((i0+m.length:Nat):Int)):=⟨by rw[w64 (by omega) (by omega)];omega⟩
    have e5:PLift (wrap64 (((i0+m.length:Nat):Int)-1)=((i0+(m.length-1):Nat):Int)):=⟨by rw[w64 (by omega) (by omega)];omega⟩
    simp only[e1.down,e2.down,e3.down,e4.down,e5.down]
    refine ev_pos (by rw[hl,hm,hc];rfl) (ev_bind g1 (ev_pos (by omega) (ev_pos (by omega) (ev_pos (by omega) (ev_pos (by omega) (ev_bind (spec_RelCost_ev hl hm hc) (ev_some ?_)))))))
    rw[g4]
    exact w64 (by omega) (by omega)
  · have e:rootD l m D I R= -1:=by unfold rootD;rw[dif_neg h]
    rw[e]
    refine ev_neg (fun c=>h ?_) (Ev.now _)
    simp only[Bool.and_eq_true] at c
    exact c

/-! #### _nearest -/
/-- the first with the least, from place i on -/
def nearF (f:List S61→Int):List (List S61)→Int→Int→Int→Int
  | [],_,b,_=>b
  |x::r,i,b,s=>if f x≥0 then (if b<0 then nearF f r (i+1) i (f x) else (if f x<s then nearF f r (i+1) i (f x) else nearF f r (i+1) b s)) else nearF f r (i+1) b s
theorem spec_Nearest_ev (l:List (List S61)) (t:List S61) (D I R:List Int) (hl:l.length≤1048576) (hx:∀x ∈ l,x.length≤1048576) (ht:t.length≤1048576) (hD:(D.length:Int)≤1099511627776) (hI:(I.length:Int)≤1099511627776) (hR:(R.length:Int)≤1099511627776):
    Ev (fun k=>spec_Nearest.f k l t D I R) (nearF (fun x=>rootD x t D I R) l 0 (-1) 0):=by
  have key:∀(d i:Nat) (b s:Int),i+d=l.length→Ev (fun k=>spec_Nearest.l0 k l t b s (i:Int) D I R) (nearF (fun x=>rootD x t D I R) (l.drop i) (i:Int) b s):=by
    intro d
    induction d with
    | zero=>
      intro i b s h
      refine ev_succ ?_
      simp only[spec_Nearest.l0]
      rw[List.drop_eq_nil_of_le (by omega)]
      exact ev_neg (by omega) (Ev.now _)
    | succ d ih=>
      intro i b s h
      have hi:i<l.length:=by omega
      have hlen:=hx _ (List.getElem_mem hi)
      have hs:=spec_RootDist_ev l[i] t D I R (by omega) (by omega) hD hI hR
      have eg:l.getD i []=l[i]:=by simp[hi]
      rw[←eg] at hs
      rw[List.drop_eq_getElem_cons hi,←eg,nearF]
      refine ev_succ ?_
      simp only[spec_Nearest.l0]
      have e0:wrap64 ((i:Int)+1)=((i+1:Nat):Int):=by rw[w64 (by omega) (by omega)];omega
      rw[e0]
      clear e0
      have h1:=ih (i+1) (i:Int) (rootD (l.getD i []) t D I R) (by omega)
      have h2:=ih (i+1) b s (by omega)
      rw[show ((i+1:Nat):Int)=(i:Int)+1 by omega] at h1 h2⊢
      refine ev_pos (by omega) (ev_pos (by omega) (ev_bind hs ?_))
      by_cases c1:rootD (l.getD i []) t D I R≥0
      · rw[if_pos c1]
        refine ev_pos c1 ?_
        by_cases c2:b<0
        · rw[if_pos c2];exact ev_pos c2 h1
        · rw[if_neg c2]
          refine ev_neg c2 ?_
          by_cases c3:rootD (l.getD i []) t D I R<s
          · rw[if_pos c3];exact ev_pos c3 h1
          · rw[if_neg c3];exact ev_neg c3 h2
      · rw[if_neg c1];exact ev_neg c1 h2
  simp only[spec_Nearest.f]
  exact key l.length 0 (-1) 0 (by omega)
theorem impl_Nearest_ev (l:List (List S61)) (t:List S61) (D I R:List Int) (hl:l.length≤1048576) (hx:∀x ∈ l,x.length≤1048576) (ht:t.length≤1048576) (hD:(D.length:Int)≤1099511627776) (hI:(I.length:Int)≤1099511627776) (hR:(R.length:Int)≤1099511627776):
    Ev (fun k=>impl_Nearest.f k l t D I R) (nearF (fun x=>rootD x t D I R) l 0 (-1) 0):=by
  have key:∀(d i:Nat) (b s:Int),i+d=l.length→Ev (fun k=>impl_Nearest.l0 k t b s l (l.length:Int) (i:Int) D I R) (nearF (fun x=>rootD x t D I R) (l.drop i) (i:Int) b s):=by
    intro d
    induction d with
    | zero=>
      intro i b s h
      refine ev_succ ?_
      simp only[impl_Nearest.l0]
      rw[List.drop_eq_nil_of_le (by omega)]
      exact ev_neg (by omega) (Ev.now _)
    | succ d ih=>
      intro i b s h
      have hi:i<l.length:=by omega
      have hlen:=hx _ (List.getElem_mem hi)
      have hs:=impl_RootDist_ev l[i] t D I R (by omega) (by omega) hD hI hR
      have eg:l.getD i []=l[i]:=by simp[hi]
      rw[←eg] at hs
      rw[List.drop_eq_getElem_cons hi,←eg,nearF]
      refine ev_succ ?_
      simp only[impl_Nearest.l0]
      have e0:wrap64 ((i:Int)+1)=((i+1:Nat):Int):=by rw[w64 (by omega) (by omega)];omega
      rw[e0]
      clear e0
      have h1:=ih (i+1) (i:Int) (rootD (l.getD i []) t D I R) (by omega)
      have h2:=ih (i+1) b s (by omega)
      rw[show ((i+1:Nat):Int)=(i:Int)+1 by omega] at h1 h2⊢
      refine ev_pos (by omega) (ev_pos (by omega) (ev_pos (by omega) (ev_bind hs ?_)))
      by_cases c1:rootD (l.getD i []) t D I R≥0
      · rw[if_pos c1]
        refine ev_pos c1 ?_
        by_cases c2:b<0
        · rw[if_pos c2];exact ev_pos c2 h1
        · rw[if_neg c2]
          refine ev_neg c2 ?_
          by_cases c3:rootD (l.getD i []) t D I R<s
          · rw[if_pos c3];exact ev_pos c3 h1
          · rw[if_neg c3];exact ev_neg c3 h2
      · rw[if_neg c1];exact ev_neg c1 h2
  simp only[impl_Nearest.f]
  exact key l.length 0 (-1) 0 (by omega)

/-! #### _nearLaw -/
/-- what the nearest tells of all -/
theorem nearF_law (f:List S61→Int) (l:List (List S61)):∀(r:List (List S61)) (i:Nat) (b s:Int),l.drop i=r→i≤l.length→
    (b= -1∧(∀j,j<i→f (l.getD j [])<0)∨0≤b∧b<i∧f (l.getD b.toNat [])=s∧0≤s∧∀j,j<i→f (l.getD j [])≥0→s≤f (l.getD j [])∧((j:Int)<b→f (l.getD j [])≠s))→
    nearF f r (i:Int) b s= -1∨∃b' s',nearF f r (i:Int) b s=b'∧0≤b'∧b'<l.length∧f (l.getD b'.toNat [])=s'∧∀j,j<l.length→f (l.getD j [])≥0→s'≤f (l.getD j [])∧((j:Int)<b'→f (l.getD j [])≠s'):=by
  intro r
  induction r with
  | nil=>
    intro i b s hd hi h
    have hil:l.length≤i:=List.drop_eq_nil_iff.1 hd
    rw[nearF]
    rcases h with ⟨h,_⟩| ⟨h0,h1,h2,_,h3⟩
    · exact Or.inl h
    · exact Or.inr ⟨b,s,rfl,h0,by omega,h2,fun j hj=>h3 j (by omega)⟩
  | cons x r ih=>
    intro i b s hd hi h
    have hil:i<l.length:=by
      rcases Nat.lt_or_ge i l.length with c|c
      · exact c
      · rw[List.drop_eq_nil_of_le c] at hd;cases hd
    have e:=List.drop_eq_getElem_cons hil
    rw[hd] at e
    injection e with e1 e2
    have hx:l.getD i []=x:=by rw[e1];simp[hil]
    have step:=fun(b s:Int) h=>ih (i+1) b s e2.symm (by omega) h
    rw[show ((i+1:Nat):Int)=(i:Int)+1 by omega] at step
    rw[nearF]
    by_cases c1:f x≥0
    · rw[if_pos c1]
      have take:(∀j,j<i→f (l.getD j [])≥0→f x<f (l.getD j []))→_:=fun hall=>step (i:Int) (f x) (Or.inr ⟨by omega,by omega,by rw[Int.toNat_natCast,hx],c1,fun j hj hge=>by
        rcases Nat.lt_or_ge j i with cj|cj
        · have:=hall j cj hge
          exact⟨by omega,fun _=>by omega⟩
        · obtain rfl:j=i:=by omega
          rw[hx];exact⟨by omega,fun h=>by omega⟩⟩)
      rcases h with ⟨rfl,h3⟩| ⟨h0,h1,h2,h4,h3⟩
      · rw[if_pos (by omega)]
        exact take fun j hj hge=>absurd (h3 j hj) (by omega)
      · rw[if_neg (by omega)]
        by_cases c:f x<s
        · rw[if_pos c]
          exact take fun j hj hge=>by have:=(h3 j hj hge).1;omega
        · rw[if_neg c]
          refine step _ _ (Or.inr ⟨h0,by omega,h2,h4,fun j hj hge=>?_⟩)
          rcases Nat.lt_or_ge j i with cj|cj
          · exact h3 j cj hge
          · obtain rfl:j=i:=by omega
            rw[hx];exact⟨by omega,fun h=>by omega⟩
    · rw[if_neg c1]
      refine step _ _ ?_
      rcases h with ⟨rfl,h3⟩| ⟨h0,h1,h2,h4,h3⟩
      · refine Or.inl ⟨rfl,fun j hj=>?_⟩
        rcases Nat.lt_or_ge j i with cj|cj
        · exact h3 j cj
        · obtain rfl:j=i:=by omega
          rw[hx];omega
      · refine Or.inr ⟨h0,by omega,h2,h4,fun j hj hge=>?_⟩
        rcases Nat.lt_or_ge j i with cj|cj
        · exact h3 j cj hge
        · obtain rfl:j=i:=by omega
          rw[hx] at hge;exact absurd hge c1

/-! #### _simil -/
theorem uD_take (i:Nat) (h:i<6):unitD.take i++[1]=unitD.take (i+1):=by
  have key:∀n:Fin 6,unitD.take n.1++[1]=unitD.take (n.1+1):=by decide
  exact key ⟨i,h⟩
theorem uR_take (i j:Nat) (hi:i<6) (hj:j<6):unitR.take (i*6+j)++[if i=j then (0:Int) else 1]=unitR.take (i*6+(j+1)):=by
  have key:∀n m:Fin 6,unitR.take (n.1*6+m.1)++[if n.1=m.1 then (0:Int) else 1]=unitR.take (n.1*6+(m.1+1)):=by decide
  exact key ⟨i,hi⟩ ⟨j,hj⟩
theorem implUnit_l1 (i:Nat) (hi:i<6) (a b:List Int) {r:List Int×List Int×List Int} (hnext:Ev (fun k=>impl_UnitCost.l0 k ((i+1:Nat):Int) a b (unitR.take ((i+1)*6))) r):
    ∀(d j:Nat),j+d=6→Ev (fun k=>impl_UnitCost.l1 k (i:Int) (i:Int) (j:Int) a b (unitR.take (i*6+j))) r:=by
  intro d
  induction d with
  | zero=>
    intro j hj
    refine ev_succ ?_
    simp only[impl_UnitCost.l1]
    have e0:wrap64 ((i:Int)+1)=((i+1:Nat):Int):=by rw[w64 (by omega) (by omega)];omega
    rw[e0,show i*6+j=(i+1)*6 by omega]
    exact ev_neg (by omega) hnext
  | succ d ih=>
    intro j hj
    have h2:=ih (j+1) (by omega)
    rw[←uR_take i j hi (by omega)] at h2
    have hl:(unitR.take (i*6+j)).length≤36:=Nat.le_trans (List.length_take_le' _ _) (by decide)
    refine ev_succ ?_
    simp only[impl_UnitCost.l1]
    have e0:wrap64 ((j:Int)+1)=((j+1:Nat):Int):=by rw[w64 (by omega) (by omega)];omega
    rw[e0]
    clear e0
    refine ev_pos (by omega) ?_
    by_cases c:i=j
    · rw[if_pos c] at h2
      exact ev_pos (by omega) (ev_bindc rfl (ev_pos (by rw[List.length_singleton];omega) h2))
    · rw[if_neg c] at h2
      exact ev_neg (by omega) (ev_bindc rfl (ev_pos (by rw[List.length_singleton];omega) h2))
theorem implUnit_ev:Ev (fun k=>impl_UnitCost.f k) (unitD,unitD,unitR):=by
  have key:∀(d i:Nat),i+d=6→Ev (fun k=>impl_UnitCost.l0 k (i:Int) (unitD.take i) (unitD.take i) (unitR.take (i*6))) (unitD,unitD,unitR):=by
    intro d
    induction d with
    | zero=>
      intro i hi
      have e:i=6:=by omega
      subst e
      refine ev_succ ?_
      simp only[impl_UnitCost.l0]
      exact ev_neg (by omega) (ev_some rfl)
    | succ d ih=>
      intro i hi
      have h2:=ih (i+1) (by omega)
      rw[←uD_take i (by omega)] at h2
      have h3:=implUnit_l1 i (by omega) _ _ h2 6 0 (by omega)
      have hl:(unitD.take i).length≤6:=Nat.le_trans (List.length_take_le' _ _) (by decide)
      refine ev_succ ?_
      simp only[impl_UnitCost.l0]
      exact ev_pos (by omega) (ev_bindc rfl (ev_pos (by rw[List.length_singleton];omega) (ev_bindc rfl (ev_pos (by rw[List.length_singleton];omega) h3))))
  exact key 6 0 (by omega)
def similD (l m:List S61):Int:=if rootD l m unitD unitD unitR<0 then -1 else wrap64 (100-wrap64 (Int.tdiv (wrap64 (100*rootD l m unitD unitD unitR)) (wrap64 ((l.length:Int)+(m.length:Int)))))
theorem simil_len {l m:List S61} (h:¬rootD l m unitD unitD unitR<0):wrap64 ((l.length:Int)+(m.length:Int))≠0:=by
  by_cases c:treeOk l=true∧treeOk m=true∧costB unitD unitD unitR=true
  · have b1:=(treeOk_iff.1 c.1).1
    have b2:=(treeOk_iff.1 c.2.1).1
    rw[w64 (by omega) (by omega)]
    omega
  · exfalso
    apply h
    unfold rootD
    rw[dif_neg c]
    decide
theorem impl_Similarity_ev (l m:List S61) (h1:(l.length:Int)≤9223372036854775806) (h2:(m.length:Int)≤9223372036854775806):Ev (fun k=>impl_Similarity.f k l m) (similD l m):=by
  simp only[impl_Similarity.f]
  refine ev_bind implUnit_ev (ev_bind (impl_RootDist_ev l m unitD unitD unitR h1 h2 (by decide) (by decide) (by decide)) ?_)
  by_cases c:rootD l m unitD unitD unitR<0
  · exact ev_pos c (ev_some (by unfold similD;rw[if_pos c]))
  · exact ev_neg c (ev_neg (simil_len c) (ev_some (by unfold similD;rw[if_neg c])))
/-! #### _unitD -/
/-- one for each that goes or comes, one where the label changes -/
def uC:Dist.Costs:=⟨fun _=>1,fun _=>1,fun x y=>if x=y then 0 else 1⟩
/-- all labels of a forest -/
def AllF (P:Int→Prop):Dist.Fo→Prop
  | .nil=>True
  | .snoc r v k=>AllF P r∧P v∧AllF P k
theorem allF_app {P:Int→Prop} {A:Dist.Fo} (h:AllF P A):∀B:Dist.Fo,AllF P B→AllF P (Dist.Fo.app A B)
  | .nil,_=>h
  | .snoc r v k,g=>⟨allF_app h r g.1,g.2.1,g.2.2⟩
theorem dist_congr {c c':Dist.Costs} {P:Int→Prop} (h1:∀x,P x→c.del x=c'.del x) (h2:∀x,P x→c.ins x=c'.ins x) (h3:∀x y,P x→P y→c.rel x y=c'.rel x y):
    ∀(m:Nat) (F G:Dist.Fo),F.size+G.size≤m→AllF P F→AllF P G→Dist.dist c F G=Dist.dist c' F G:=by
  intro m
  induction m with
  | zero=>
    intro F G h hF hG
    cases F with
    | nil=>cases G with
      |nil=>rw[Dist.dist_nn,Dist.dist_nn]
      |snoc r w k=>simp only[Dist.Fo.size] at h;omega
    |snoc r v k=>simp only[Dist.Fo.size] at h;omega
  | succ m ih=>
    intro F G h hF hG
    cases F with
    | nil=>cases G with
      |nil=>rw[Dist.dist_nn,Dist.dist_nn]
      | snoc r w k=>
        simp only[Dist.Fo.size] at h
        rw[Dist.dist_ns,Dist.dist_ns,ih .nil (r.app k) (by rw[Dist.Fo.size_app,Dist.Fo.size];omega) hF (allF_app hG.1 k hG.2.2),h2 w hG.2.1]
    | snoc r v k=>cases G with
      | nil=>
        simp only[Dist.Fo.size] at h
        rw[Dist.dist_sn,Dist.dist_sn,ih (r.app k) .nil (by rw[Dist.Fo.size_app,Dist.Fo.size];omega) (allF_app hF.1 k hF.2.2) hG,h1 v hF.2.1]
      | snoc r' w k'=>
        simp only[Dist.Fo.size] at h
        rw[Dist.dist_ss,Dist.dist_ss,ih (r.app k) (.snoc r' w k') (by rw[Dist.Fo.size_app,Dist.Fo.size];omega) (allF_app hF.1 k hF.2.2) hG,ih (.snoc r v k) (r'.app k') (by rw[Dist.Fo.size_app,Dist.Fo.size];omega) hF (allF_app hG.1 k' hG.2.2),
          ih k k' (by omega) hF.2.2 hG.2.2,ih r r' (by omega) hF.1 hG.1,h1 v hF.2.1,h2 w hG.2.1,h3 v w hF.2.1 hG.2.1]
theorem allF_fo {P:Int→Prop} (T:Dist.PT) (hP:∀p,p<T.n→P (T.lab p)):∀j i,i≤j→j≤T.n→AllF P (T.fo i j):=by
  intro j
  induction j using Nat.strongRecOn with
  | ind j ih=>
    intro i h hn
    by_cases h0:j=i
    · subst h0
      rw[Dist.PT.fo_nil T (Nat.le_refl j)]
      exact trivial
    · obtain⟨q,rfl⟩:∃q,j=q+1:=⟨j-1,by omega⟩
      have h1:=T.le q (by omega)
      rw[Dist.PT.fo_snoc T (by omega) (by omega)]
      exact⟨ih (max i (T.la q)) (by omega) i (by omega) (by omega),hP q (by omega),ih q (by omega) (max i (T.la q)) (by omega) (by omega)⟩
theorem unit_costB:costB unitD unitD unitR=true:=by decide
theorem lab_fo {l:List S61} (h:treeOk l=true):AllF (fun x=>0≤x∧x≤5) ((ptI l h).fo 0 (l.length-1)):=
  allF_fo (ptI l h) (fun p hp=>lb_range h ((pol_order h).at_ hp).1) _ 0 (by omega) (by show l.length-1≤l.length;omega)
/-- the distance of two trees at a price of one each -/
theorem rootD_unit {l m:List S61} (hl:treeOk l=true) (hm:treeOk m=true):rootD l m unitD unitD unitR=Dist.dist uC ((ptI l hl).fo 0 (l.length-1)) ((ptI m hm).fo 0 (m.length-1))+(if lbA l 0=lbA m 0 then 0 else 1):=by
  have b1:=(treeOk_iff.1 hl).1
  have b2:=(treeOk_iff.1 hm).1
  obtain⟨a0,a1⟩:=lb_range hl (show 0<l.length by omega)
  obtain⟨c0,c1⟩:=lb_range hm (show 0<m.length by omega)
  rw[rootD_ok hl hm unit_costB,unitR_at _ _ a0 a1 c0 c1,dist_congr (c:=costs unitD unitD unitR) (c':=uC) (P:=fun x=>0≤x∧x≤5) (fun x hx=>unitD_at x hx.1 hx.2) (fun x hx=>unitD_at x hx.1 hx.2) (fun x y hx hy=>unitR_at x y hx.1 hx.2 hy.1 hy.2) _ _ _ (Nat.le_refl _) (lab_fo hl) (lab_fo hm)]
theorem unit_range {l m:List S61} (hl:treeOk l=true) (hm:treeOk m=true):(0≤rootD l m unitD unitD unitR∧rootD l m unitD unitD unitR+1≤(l.length:Int)+(m.length:Int))∧(1≤l.length∧l.length≤24)∧(1≤m.length∧m.length≤24):=by
  have b1:=(treeOk_iff.1 hl).1
  have b2:=(treeOk_iff.1 hm).1
  have s1:Dist.Fo.size ((ptI l hl).fo 0 (l.length-1))=l.length-1:=by rw[Dist.PT.size_fo _ _ _ (by omega) (show l.length-1≤l.length by omega)];omega
  have s2:Dist.Fo.size ((ptI m hm).fo 0 (m.length-1))=m.length-1:=by rw[Dist.PT.size_fo _ _ _ (by omega) (show m.length-1≤m.length by omega)];omega
  have d1:=Dist.dist_le uC 1 (by omega) (fun _=>Int.le_refl _) (fun _=>Int.le_refl _) _ ((ptI l hl).fo 0 (l.length-1)) ((ptI m hm).fo 0 (m.length-1)) (Nat.le_refl _)
  have d2:=Dist.dist_nonneg uC (fun _=>by show (0:Int)≤1;omega) (fun _=>by show (0:Int)≤1;omega) (fun x y=>by show (0:Int)≤if x=y then 0 else 1;split<;>omega) _ ((ptI l hl).fo 0 (l.length-1)) ((ptI m hm).fo 0 (m.length-1)) (Nat.le_refl _)
  rw[s1,s2] at d1
  rw[rootD_unit hl hm]
  refine⟨?_,b1,b2⟩
  split<;>omega
theorem unit_swap {l m:List S61} (hl:treeOk l=true) (hm:treeOk m=true):rootD m l unitD unitD unitR=rootD l m unitD unitD unitR:=by
  have e:uC.swap=uC:=by
    show Dist.Costs.mk _ _ (fun a b=>if b=a then (0:Int) else 1)=Dist.Costs.mk _ _ _
    congr 1
    funext a b
    by_cases h:a=b
    · rw[if_pos h,if_pos h.symm]
    · rw[if_neg h,if_neg (fun x=>h x.symm)]
  have d:=Dist.dist_swap uC _ ((ptI l hl).fo 0 (l.length-1)) ((ptI m hm).fo 0 (m.length-1)) (Nat.le_refl _)
  rw[e] at d
  rw[rootD_unit hl hm,rootD_unit hm hl,d]
  by_cases h:lbA l 0=lbA m 0
  · rw[if_pos h,if_pos h.symm]
  · rw[if_neg h,if_neg (fun x=>h x.symm)]
theorem unit_self {l:List S61} (hl:treeOk l=true):rootD l l unitD unitD unitR=0:=by
  have d1:=(unit_range hl hl).1.1
  have d2:=Dist.dist_self uC (fun x=>if_pos rfl) ((ptI l hl).fo 0 (l.length-1))
  rw[rootD_unit hl hl,if_pos rfl] at d1⊢
  omega
/-- how alike two trees are -/
theorem simil_tree {l m:List S61} (hl:treeOk l=true) (hm:treeOk m=true):1≤similD l m∧similD l m≤100∧similD m l=similD l m∧(l=m→similD l m=100):=by
  obtain⟨⟨a0,a1⟩,⟨b0,b1⟩,c0,c1⟩:=unit_range hl hm
  have sw:=unit_swap hl hm
  have hd:∀n s:Int,0≤n→n+1≤s→s≤48→0≤Int.tdiv (100*n) s∧Int.tdiv (100*n) s≤99:=by
    intro n s h1 h2 h3
    rw[Int.tdiv_eq_ediv_of_nonneg (by omega)]
    refine⟨Int.ediv_nonneg (by omega) (by omega),?_⟩
    have:(100*n)/s<100:=Int.ediv_lt_of_lt_mul (by omega) (by omega)
    omega
  have key:∀n s:Int,0≤n→n+1≤s→s≤48→wrap64 (100-wrap64 (Int.tdiv (wrap64 (100*n)) (wrap64 s)))=100-Int.tdiv (100*n) s:=by
    intro n s h1 h2 h3
    have:=hd n s h1 h2 h3
    rw[w64 (x:=100*n) (by omega) (by omega),w64 (x:=s) (by omega) (by omega),w64 (x:=Int.tdiv (100*n) s) (by omega) (by omega),w64 (by omega) (by omega)]
  have g:=hd _ _ a0 a1 (by omega)
  have e1:similD l m=100-Int.tdiv (100*rootD l m unitD unitD unitR) ((l.length:Int)+(m.length:Int)):=by
    unfold similD
    rw[if_neg (by omega),key _ _ a0 a1 (by omega)]
  have e2:similD m l=100-Int.tdiv (100*rootD l m unitD unitD unitR) ((l.length:Int)+(m.length:Int)):=by
    unfold similD
    rw[sw,if_neg (by omega),key _ _ a0 (by omega) (by omega),Int.add_comm (m.length:Int)]
  rw[e1,e2]
  refine⟨by omega,by omega,rfl,fun e=>?_⟩
  subst e
  rw[unit_self hl]
  simp
theorem simil_no {l m:List S61} (h:¬(treeOk l=true∧treeOk m=true)):similD l m= -1:=by
  unfold similD rootD
  rw[dif_neg (fun x=>h ⟨x.1,x.2.1⟩)]
  simp

end Go.Proofs.Ytbmkobanpakohaa.QFnNear
