/- What the printed functions of the law FnNear come to, function by function, from some number of rounds on; each under the bounds that it names. -/
import Derived.Test.YtbmkobanpakohaaQFnNearb
namespace Go.Proofs.Ytbmkobanpakohaa.QFnNear
open Go.RowKit Go.Proofs.Ytbmkobanpakohaa.PFnNear Go.Proofs.YtbmkobanpakohaaW.PrintWords Go.Proofs.YtbmkobanpakohaaW.PrintLast Go.Proofs.YtbmkobanpakohaaW.PrintMore Go.Proofs.Ytbmkobanpakohaa.EvAid Go.Proofs.Ytbmkobanpakohaa
set_option linter.unusedVariables false
set_option linter.unusedSimpArgs false

/-! #### _measure -/
/-- the costs that the three lists tell -/
def costs (D I R:List Int):Dist.Costs:=⟨fun x=>rd D x,fun x=>rd I x,fun x y=>rd R (x*6+y)⟩
theorem costs_range {D I R:List Int} (h:costB D I R=true):CostR (costs D I R):=by
  obtain⟨h1,h2,h3,_⟩:=costB_iff.1 h
  exact⟨fun x=>price_at h1.2 x,fun x=>price_at h2.2 x,fun x y=>price_at h3.2 _⟩
/-- the tree by places -/
def ptI (l:List S61) (h:treeOk l=true):Dist.PT:=Tree.pt (treeOk_vd h) (pol l) (pol_order h) (lbA l)
def delI (l:List S61) (D:List Int):List Int:=(pol l).map (fun j=>rd D (lbA l j))
def rowI (l m:List S61) (R:List Int) (i:Nat):List Int:=(pol m).map (fun k=>rd R (lbA l i*6+lbA m k))
def relI (l m:List S61) (R:List Int):List (List Int):=(pol l).map (rowI l m R)
theorem meas_is {l m:List S61} (hl:treeOk l=true) (hm:treeOk m=true) (D I R:List Int):MeasIs (costs D I R) (ptI l hl) (ptI m hm) (leafI l) (leafI m) (delI l D) (delI m I) (relI l m R) where
  la:=⟨leafI_len hl,fun k hk=>rd_leaf hl hk⟩
  lb:=⟨leafI_len hm,fun k hk=>rd_leaf hm hk⟩
  del:=⟨by unfold delI;rw[List.length_map,pol_len hl];rfl,fun k hk=>by unfold delI;rw[rd_map _ _ k 0 (by rw[pol_len hl];exact hk)];rfl⟩
  ins:=⟨by unfold delI;rw[List.length_map,pol_len hm];rfl,fun k hk=>by unfold delI;rw[rd_map _ _ k 0 (by rw[pol_len hm];exact hk)];rfl⟩
  relLen:=by unfold relI;rw[List.length_map,pol_len hl];rfl
  rel :=fun p hp=>by
    have e:row4 (relI l m R) (p:Int)=rowI l m R ((pol l).getD p 0):=by
      have hp':p<(pol l).length:=by rw[pol_len hl];exact hp
      show (relI l m R).getD (p:Int).toNat []=_
      unfold relI
      rw[Int.toNat_natCast,List.getD_eq_getElem?_getD,List.getD_eq_getElem?_getD,List.getElem?_map,List.getElem?_eq_getElem hp']
      rfl
    rw[e]
    exact⟨by unfold rowI;rw[List.length_map,pol_len hm];rfl,fun q hq=>by unfold rowI;rw[rd_map _ _ q 0 (by rw[pol_len hm];exact hq)];rfl⟩
theorem lab_idx {l m:List S61} (hl:treeOk l=true) (hm:treeOk m=true) {i k:Nat} (hi:i<l.length) (hk:k<m.length):(0≤lbA l i*6+lbA m k∧lbA l i*6+lbA m k<36)∧wrap64 (wrap64 (lbA l i*6)+lbA m k)=lbA l i*6+lbA m k:=by
  have h1:=lb_range hl hi
  have h2:=lb_range hm hk
  refine⟨by omega,?_⟩
  rw[w64 (x:=lbA l i*6) (by omega) (by omega),w64 (by omega) (by omega)]
theorem take_len_le {α:Type} (p:List α) (t n:Nat) (h:p.length≤n):(p.take t).length≤n:=by rw[List.length_take];omega
theorem measureOf_l2 {l m:List S61} (hl:treeOk l=true) (hm:treeOk m=true) (D I R:List Int) (hR:R.length=36) (i:Nat) (hi:i<l.length) (p pa pb qa qb dl il:List Int) (t:Nat) (ht:t<l.length) (acc:List (List Int)) (hacc:acc.length≤24) (r:List Int×List Int×List Int×List Int×List Int×List Int×(List (List Int))×Bool)
    (hnext:Ev (fun k=>impl_measureOf.l1 k l m p (l.length:Int) ((t+1:Nat):Int) D I R pa pb qa qb dl il (acc++[rowI l m R i])) r):
    ∀(d s:Nat),s+d=m.length→Ev (fun k=>impl_measureOf.l2 k l m (i:Int) (((pol m).take s).map (fun k=>rd R (lbA l i*6+lbA m k))) p (l.length:Int) (t:Int) (postI m) (m.length:Int) (s:Int) D I R pa pb qa qb dl il acc) r:=by
  have b1:=(treeOk_iff.1 hl).1
  have b2:=(treeOk_iff.1 hm).1
  have hpl:=postI_len hm
  have hp:=pol_len hm
  intro d
  induction d with
  | zero=>
    intro s hs
    refine ev_succ ?_
    simp only[impl_measureOf.l2]
    have e0:wrap64 ((t:Int)+1)=((t+1:Nat):Int):=by rw[w64 (by omega) (by omega)];omega
    rw[e0]
    clear e0
    rw[show (pol m).take s=pol m by rw[show s=(pol m).length by omega,List.take_length]]
    exact ev_neg (by omega) (ev_pos (by omega) hnext)
  | succ d ih=>
    intro s hs
    have h2:=ih (s+1) (by omega)
    obtain⟨h3,h4⟩:=(pol_order hm).at_ (show s<m.length by omega)
    rw[←take_map_succ (pol m) (fun k=>rd R (lbA l i*6+lbA m k)) s 0 (by omega)] at h2
    obtain⟨h5,h6⟩:=lab_idx hl hm hi h3
    have h7:=take_len_le (pol m) s 24 (by omega)
    refine ev_succ ?_
    simp only[impl_measureOf.l2]
    rw[rd_post hm,rd_f0,rd_f0,h6]
    clear h6
    have e0:wrap64 ((s:Int)+1)=((s+1:Nat):Int):=by rw[w64 (by omega) (by omega)];omega
    rw[e0]
    clear e0
    exact ev_pos (by omega) (ev_pos (by omega) (ev_pos (by omega) (ev_pos (by omega) (ev_pos (by omega) (ev_pos (by omega) (ev_pos (by omega) (ev_pos (by omega) (ev_pos (by omega) (ev_pos (by rw[List.length_map];omega) h2)))))))))
theorem measureOf_l1 {l m:List S61} (hl:treeOk l=true) (hm:treeOk m=true) (D I R:List Int) (hD:D.length=6) (hR:R.length=36) (il:List Int):
    ∀ (d t:Nat),t+d=l.length→Ev (fun k=>impl_measureOf.l1 k l m (postI l) (l.length:Int) (t:Int) D I R (postI l) (postI m) (leafI l) (leafI m) (((pol l).take t).map (fun j=>rd D (lbA l j))) il (((pol l).take t).map (rowI l m R)))
      (postI l,postI m,leafI l,leafI m,delI l D,il,relI l m R,true):=by
  have b1:=(treeOk_iff.1 hl).1
  have hpl:=postI_len hl
  have hp:=pol_len hl
  intro d
  induction d with
  | zero=>
    intro t ht
    refine ev_succ ?_
    simp only[impl_measureOf.l1]
    rw[show (pol l).take t=pol l by rw[show t=(pol l).length by omega,List.take_length]]
    exact ev_neg (by omega) (Ev.now _)
  | succ d ih=>
    intro t ht
    have h2:=ih (t+1) (by omega)
    obtain⟨h3,h4⟩:=(pol_order hl).at_ (show t<l.length by omega)
    rw[←take_map_succ (pol l) (fun j=>rd D (lbA l j)) t 0 (by omega),←take_map_succ (pol l) (rowI l m R) t 0 (by omega)] at h2
    have h5:=lb_range hl h3
    have h7:=take_len_le (pol l) t 24 (by omega)
    have h8:=measureOf_l2 hl hm D I R hR ((pol l).getD t 0) h3 (postI l) (postI l) (postI m) (leafI l) (leafI m) (((pol l).take t).map (fun j=>rd D (lbA l j))++[rd D (lbA l ((pol l).getD t 0))]) il t (by omega) (((pol l).take t).map (rowI l m R)) (by rw[List.length_map];exact h7) _ h2 m.length 0 (by omega)
    refine ev_succ ?_
    simp only[impl_measureOf.l1]
    rw[rd_post hl,rd_f0,postI_len hm]
    exact ev_pos (by omega) (ev_pos (by omega) (ev_pos (by omega) (ev_pos (by omega) (ev_pos (by omega) (ev_pos (by omega) (ev_pos (by omega) (ev_pos (by rw[List.length_map];omega) h8)))))))
theorem measureOf_l0 {l m:List S61} (hl:treeOk l=true) (hm:treeOk m=true) (D I R:List Int) (hD:D.length=6) (hI:I.length=6) (hR:R.length=36):
    ∀ (d t:Nat),t+d=m.length→Ev (fun k=>impl_measureOf.l0 k l m (postI m) (m.length:Int) (t:Int) D I R (postI l) (postI m) (leafI l) (leafI m) (((pol m).take t).map (fun j=>rd I (lbA m j))))
      (postI l,postI m,leafI l,leafI m,delI l D,delI m I,relI l m R,true):=by
  have b1:=(treeOk_iff.1 hm).1
  have hpl:=postI_len hm
  have hp:=pol_len hm
  intro d
  induction d with
  | zero=>
    intro t ht
    refine ev_succ ?_
    simp only[impl_measureOf.l0]
    rw[show (pol m).take t=pol m by rw[show t=(pol m).length by omega,List.take_length],postI_len hl]
    exact ev_neg (by omega) (measureOf_l1 hl hm D I R hD hR (delI m I) l.length 0 (by omega))
  | succ d ih=>
    intro t ht
    have h2:=ih (t+1) (by omega)
    obtain⟨h3,h4⟩:=(pol_order hm).at_ (show t<m.length by omega)
    rw[←take_map_succ (pol m) (fun j=>rd I (lbA m j)) t 0 (by omega)] at h2
    have h5:=lb_range hm h3
    have h7:=take_len_le (pol m) t 24 (by omega)
    refine ev_succ ?_
    simp only[impl_measureOf.l0]
    rw[rd_post hm,rd_f0]
    have e0:wrap64 ((t:Int)+1)=((t+1:Nat):Int):=by rw[w64 (by omega) (by omega)];omega
    rw[e0]
    clear e0
    exact ev_pos (by omega) (ev_pos (by omega) (ev_pos (by omega) (ev_pos (by omega) (ev_pos (by omega) (ev_pos (by omega) (ev_pos (by omega) (ev_pos (by rw[List.length_map];omega) h2)))))))
theorem measureOf_ok {l m:List S61} (hl:treeOk l=true) (hm:treeOk m=true) {D I R:List Int} (hc:costB D I R=true):Ev (fun k=>impl_measureOf.f k l m D I R) (postI l,postI m,leafI l,leafI m,delI l D,delI m I,relI l m R,true):=by
  obtain⟨h1,h2,h3,_⟩:=costB_iff.1 hc
  simp only[impl_measureOf.f]
  have h4:=impl_CostOk_ev D I R (by omega) (by omega) (by omega)
  rw[hc] at h4
  have h5:=impl_TreeOk_ev l
  have h6:=impl_TreeOk_ev m
  rw[hl] at h5
  rw[hm] at h6
  refine ev_bind h5 (ev_pos rfl (ev_bind h6 (ev_pos rfl (ev_bind h4 (ev_succ ?_)))))
  simp only[impl_measureOf.j0]
  refine ev_neg (by simp) (ev_bind (impl_PostOrder_ev l) (ev_bind (impl_PostOrder_ev m) (ev_bind (impl_LeftLeaf_ev l) (ev_bind (impl_LeftLeaf_ev m) ?_))))
  rw[postI_len hm]
  exact measureOf_l0 hl hm D I R h1.1 h2.1 h3.1 m.length 0 (by omega)
theorem measureOf_no {l m:List S61} {D I R:List Int} (hD:(D.length:Int)≤1099511627776) (hI:(I.length:Int)≤1099511627776) (hR:(R.length:Int)≤1099511627776) (h:¬(treeOk l=true∧treeOk m=true∧costB D I R=true)):Ev (fun k=>impl_measureOf.f k l m D I R) ([],[],[],[],[],[],[],false):=by
  have stop:Ev (fun k=>impl_measureOf.j0 k l m true D I R) ([],[],[],[],[],[],[],false):=by
    refine ev_succ ?_
    simp only[impl_measureOf.j0]
    exact ev_pos (by simp) (Ev.now _)
  simp only[impl_measureOf.f]
  refine ev_bind (impl_TreeOk_ev l) ?_
  by_cases h1:treeOk l=true
  · refine ev_pos h1 (ev_bind (impl_TreeOk_ev m) ?_)
    by_cases h2:treeOk m=true
    · refine ev_pos h2 (ev_bind (impl_CostOk_ev D I R hD hI hR) ?_)
      have h3:costB D I R=false:=by rw[Bool.eq_false_iff];exact fun c=>h ⟨h1,h2,c⟩
      rw[h3]
      exact stop
    · exact ev_neg h2 stop
  · exact ev_neg h1 stop
theorem impl_RelCost_ev {l m:List S61} (hl:treeOk l=true) (hm:treeOk m=true) {D I R:List Int} (hc:costB D I R=true):Ev (fun k=>impl_RelCost.f k D I R (lbA l 0) (lbA m 0)) (rd R (lbA l 0*6+lbA m 0)):=by
  obtain⟨h1,h2,h3,_⟩:=costB_iff.1 hc
  have b1:=(treeOk_iff.1 hl).1
  have b2:=(treeOk_iff.1 hm).1
  have h4:=impl_CostOk_ev D I R (by omega) (by omega) (by omega)
  rw[hc] at h4
  obtain⟨h5,h6⟩:=lab_idx hl hm (show 0<l.length by omega) (show 0<m.length by omega)
  have h7:=lb_range hl (show 0<l.length by omega)
  have h8:=lb_range hm (show 0<m.length by omega)
  simp only[impl_RelCost.f]
  rw[h6]
  clear h6
  exact ev_bind h4 (ev_pos rfl (ev_bindc (LabelOk_eq _) (ev_pos (decide_eq_true h7) (ev_bindc (LabelOk_eq _) (ev_pos (decide_eq_true h8) (ev_pos (by omega) (ev_pos (by omega) (Ev.now _))))))))
/-- what it costs, where the roots belong together; -1 of what is no tree or no costs -/
def rootD (l m:List S61) (D I R:List Int):Int:=
  if h:treeOk l=true∧treeOk m=true∧costB D I R=true then Dist.dist (costs D I R) ((ptI l h.1).fo 0 (l.length-1)) ((ptI m h.2.1).fo 0 (m.length-1))+rd R (lbA l 0*6+lbA m 0) else -1
theorem rootD_ok {l m:List S61} {D I R:List Int} (hl:treeOk l=true) (hm:treeOk m=true) (hc:costB D I R=true):rootD l m D I R=Dist.dist (costs D I R) ((ptI l hl).fo 0 (l.length-1)) ((ptI m hm).fo 0 (m.length-1))+rd R (lbA l 0*6+lbA m 0):=by
  unfold rootD
  rw[dif_pos ⟨hl,hm,hc⟩]
theorem impl_RootDist_ev (l m:List S61) (D I R:List Int) (h1:(l.length:Int)≤9223372036854775806) (h2:(m.length:Int)≤9223372036854775806) (hD:(D.length:Int)≤1099511627776) (hI:(I.length:Int)≤1099511627776) (hR:(R.length:Int)≤1099511627776):Ev (fun k=>impl_RootDist.f k l m D I R) (rootD l m D I R):=by
  simp only[impl_RootDist.f,impl_ForestDist.f]
  by_cases h:treeOk l=true∧treeOk m=true∧costB D I R=true
  · obtain⟨hl,hm,hc⟩:=h
    have b1:=(treeOk_iff.1 hl).1
    have b2:=(treeOk_iff.1 hm).1
    rw[rootD_ok hl hm hc]
    have r1:=dist_range (costs_range hc) (A:=ptI l hl) (B:=ptI m hm) b1.2 b2.2 (i:=0) (k:=0) (show l.length-1≤l.length by omega) (show m.length-1≤m.length by omega)
    have r2:0≤rd R (lbA l 0*6+lbA m 0)∧rd R (lbA l 0*6+lbA m 0)≤1000:=(costs_range hc).rel (lbA l 0) (lbA m 0)
    have h3:=forest_ev (costs_range hc) (A:=ptI l hl) (B:=ptI m hm) b1.2 b2.2 (meas_is hl hm D I R) (l.length+m.length) 0 (l.length-1) 0 (m.length-1) (by omega) (by omega) (show l.length-1≤l.length by omega) (by omega) (show m.length-1≤m.length by omega)
    have e1:PLift (wrap64 ((l.length:Int)-1)=((l.length-1:Nat):Int)):=⟨by rw[w64 (by omega) (by omega)];omega⟩
    have e2:PLift (wrap64 ((m.length:Int)-1)=((m.length-1:Nat):Int)):=⟨by rw[w64 (by omega) (by omega)];omega⟩
    rw[e1.down,e2.down]
    refine ev_bind (ev_bind (measureOf_ok hl hm hc) (ev_pos rfl (ev_neg (by omega) (ev_neg (by omega) (ev_neg (by omega) (ev_neg (by omega) (ev_neg (by omega) (ev_neg (by omega) h3)))))))) ?_
    refine ev_neg (by omega) (ev_pos (by omega) (ev_pos (by omega) (ev_bind (impl_RelCost_ev hl hm hc) (ev_some (w64 (by omega) (by omega))))))
  · have e:rootD l m D I R= -1:=by unfold rootD;rw[dif_neg h]
    rw[e]
    exact ev_bind (ev_bind (measureOf_no hD hI hR h) (ev_neg (by decide) (Ev.now (-1)))) (ev_pos (by decide) (Ev.now _))

/-! #### _table -/
/-- a table by rows of width w: what is done holds F -/
def CellOk (f:List Int) (w H:Nat) (F:Nat→Nat→Int) (done:Nat→Nat→Prop):Prop:=f.length=H*w∧∀r s,r<H→s<w→done r s→rd f ((r*w+s:Nat):Int)=F r s
theorem idx_lt {r s w H:Nat} (hr:r<H) (hs:s<w):r*w+s<H*w:=by
  have h1:(r+1)*w≤H*w:=Nat.mul_le_mul_right w hr
  have h2:(r+1)*w=r*w+w:=Nat.succ_mul r w
  omega
theorem idx_inj {r s r' s' w:Nat} (hs:s<w) (hs':s'<w) (h:r*w+s=r'*w+s'):r=r'∧s=s':=by
  rcases Nat.lt_trichotomy r r' with c|c|c
  · have:=idx_lt c hs
    omega
  · subst c
    omega
  · have:=idx_lt c hs'
    omega
theorem rd_set (f:List Int) (a b:Nat) (v:Int) (ha:a<f.length):rd (f.set a v) (b:Int)=if a=b then v else rd f (b:Int):=by
  show (f.set a v).getD (b:Int).toNat 0=if a=b then v else f.getD (b:Int).toNat 0
  rw[Int.toNat_natCast,List.getD_eq_getElem?_getD,List.getD_eq_getElem?_getD,List.getElem?_set]
  by_cases h:a=b
  · subst h
    rw[if_pos rfl,if_pos ha,if_pos rfl]
    rfl
  · rw[if_neg h,if_neg h]
theorem CellOk.set {f:List Int} {w H:Nat} {F:Nat→Nat→Int} {done done':Nat→Nat→Prop} (h:CellOk f w H F done) {r0 s0:Nat} (hr:r0<H) (hs:s0<w) {i0:Nat} (hi:i0=r0*w+s0) {v:Int} (hv:v=F r0 s0)
    (hd:∀r s,r<H→s<w→done' r s→done r s∨(r=r0∧s=s0)):CellOk (f.set i0 v) w H F done':=by
  refine⟨by rw[List.length_set];exact h.1,fun r s h1 h2 h3=>?_⟩
  have hlt:=idx_lt hr hs
  rw[rd_set _ _ _ _ (by rw[hi,h.1];exact hlt)]
  by_cases e:i0=r*w+s
  · rw[if_pos e]
    obtain⟨rfl,rfl⟩:=idx_inj hs h2 (hi.symm.trans e)
    exact hv
  · rw[if_neg e]
    rcases hd r s h1 h2 h3 with h4| ⟨rfl,rfl⟩
    · exact h.2 r s h1 h2 h4
    · exact absurd hi e
theorem CellOk.imp {f:List Int} {w H:Nat} {F:Nat→Nat→Int} {done done':Nat→Nat→Prop} (h:CellOk f w H F done) (hd:∀r s,r<H→s<w→done' r s→done r s):CellOk f w H F done':=⟨h.1,fun r s h1 h2 h3=>h.2 r s h1 h2 (hd r s h1 h2 h3)⟩
structure Zs (D I R:List Int) (A B:Dist.PT) (x y la lb:List Int):Prop where
  nA:A.n≤24
  nB:B.n≤24
  cD:D.length=6
  cI:I.length=6
  cR:R.length=36
  x:RowIs x A.n A.lab
  y:RowIs y B.n B.lab
  la:RowIs la A.n (fun k=>(A.la k:Int))
  lb:RowIs lb B.n (fun k=>(B.la k:Int))
  labA:∀p,p<A.n→0≤A.lab p∧A.lab p≤5
  labB:∀p,p<B.n→0≤B.lab p∧B.lab p≤5
  range:CostR (costs D I R)
/-- the forests of two key roots; the trees -/
def Fz (D I R:List Int) (A B:Dist.PT) (a0 b0 r s:Nat):Int:=Dist.dist (costs D I R) (A.fo a0 (a0+r)) (B.fo b0 (b0+s))
def Tz (D I R:List Int) (A B:Dist.PT) (p q:Nat):Int:=Dist.dist (costs D I R) (A.tr p) (B.tr q)
section
variable {D I R x y la lb:List Int} {A B:Dist.PT}
theorem Fz_range (z:Zs D I R A B x y la lb) {a0 b0 r s:Nat} (h1:a0+r≤A.n) (h2:b0+s≤B.n):0≤Fz D I R A B a0 b0 r s∧Fz D I R A B a0 b0 r s≤48000:=dist_range z.range z.nA z.nB h1 h2
theorem wid {V:Nat} (h:V+1≤24) {U:Nat} (hU:U+1≤24):(U+2)*(V+2)≤676:=Nat.le_trans (Nat.mul_le_mul (show U+2≤26 by omega) (show V+2≤26 by omega)) (by decide)
theorem rows {u U w:Nat} (h:u≤U):(u+1)*w=u*w+w∧u*w+w+w≤(U+2)*w:=by
  have h1:(u+1)*w=u*w+w:=Nat.succ_mul u w
  have h2:(u+2)*w=(u+1)*w+w:=Nat.succ_mul (u+1) w
  have h3:(u+2)*w≤(U+2)*w:=Nat.mul_le_mul_right w (by omega)
  omega
theorem l8F_l0 (z:Zs D I R A B x y la lb) {i j a0 b0 U V:Nat} (hi:i<A.n) (hj:j<B.n) (ha:A.la i=a0) (hb:B.la j=b0) (hU:i=a0+U) (hV:j=b0+V) (tr:List Int) (G:List Int×List Int→Prop)
    (next:∀f,CellOk f (V+2) (U+2) (Fz D I R A B a0 b0) (fun r s=>s=0)→∃res,Ev (fun k=>spec_l8Forest.l1 k (i:Int) (j:Int) tr la lb ((V+2:Nat):Int) (B.n:Int) f (b0:Int) x y la lb D I R) res∧G res):
    ∀(d u:Nat) (f:List Int),u+d=U+1→CellOk f (V+2) (U+2) (Fz D I R A B a0 b0) (fun r s=>s=0∧r≤u)→∃res,Ev (fun k=>spec_l8Forest.l0 k (i:Int) (j:Int) tr la lb ((V+2:Nat):Int) (B.n:Int) f ((a0+u:Nat):Int) x y la lb D I R) res∧G res:=by
  have nA:=z.nA
  have nB:=z.nB
  have rla:=z.la.2 i hi
  have rlb:=z.lb.2 j hj
  simp only[ha] at rla
  simp only[hb] at rlb
  have lla:=z.la.1
  have llb:=z.lb.1
  have hwid:=wid (V:=V) (by omega) (U:=U) (by omega)
  intro d
  induction d with
  | zero=>
    intro u f hu hf
    obtain⟨res,h1,h2⟩:=next f (hf.imp (fun r s h1 h2 h3=>⟨h3,by omega⟩))
    refine⟨res,ev_succ ?_,h2⟩
    simp only[spec_l8Forest.l0]
    rw[rlb]
    exact ev_neg (by omega) (ev_pos (by omega) (ev_pos (by omega) h1))
  | succ d ih=>
    intro u f hu hf
    obtain⟨g1,g2⟩:=rows (u:=u) (U:=U) (w:=V+2) (by omega)
    have rx:=z.x.2 (a0+u) (by omega)
    have lx:=z.x.1
    have bx:=z.labA (a0+u) (by omega)
    have cD:=z.cD
    have hfl:=hf.1
    have hf0:=hf.2 u 0 (by omega) (by omega) ⟨rfl,Nat.le_refl _⟩
    rw[Nat.add_zero] at hf0
    have rF:=Fz_range z (a0:=a0) (b0:=b0) (r:=u) (s:=0) (by omega) (by omega)
    have rD:=z.range.del (A.lab (a0+u))
    have hstep:Fz D I R A B a0 b0 (u+1) 0=Fz D I R A B a0 b0 u 0+rd D (A.lab (a0+u)):=Dist.PT.d_del (costs D I R) A B (show a0≤a0+u by omega) (show a0+u<A.n by omega)
    have rD2:0≤rd D (A.lab (a0+u))∧rd D (A.lab (a0+u))≤1000:=rD
    have hset:=hf.set (done':=fun r s=>s=0∧r≤u+1) (r0:=u+1) (s0:=0) (by omega) (by omega) (i0:=(u+1)*(V+2)) rfl (v:=wrap64 (Fz D I R A B a0 b0 u 0+rd D (A.lab (a0+u)))) (by rw[hstep,w64 (by omega) (by omega)]) (fun r s _ _ h3=>by
      by_cases c:r≤u
      · exact .inl ⟨h3.1,c⟩
      · exact .inr ⟨by omega,h3.1⟩)
    obtain⟨res,h1,h2⟩:=ih (u+1) _ (by omega) hset
    refine⟨res,ev_succ ?_,h2⟩
    have e1:PLift (wrap64 (((a0+u:Nat):Int)-(a0:Int))=(u:Int)):=⟨by rw[w64 (by omega) (by omega)];omega⟩
    have e2:PLift (wrap64 ((u:Int)+1)=((u+1:Nat):Int)):=⟨by rw[w64 (by omega) (by omega)];omega⟩
    have e3:PLift (wrap64 (((u+1:Nat):Int)-1)=(u:Int)):=⟨by rw[w64 (by omega) (by omega)];omega⟩
    have e4:PLift (wrap64 ((u:Int)*((V+2:Nat):Int))=((u*(V+2):Nat):Int)):=⟨by rw[←Int.natCast_mul,w64 (by omega) (by omega)]⟩
    have e5:PLift (wrap64 (((u+1:Nat):Int)*((V+2:Nat):Int))=(((u+1)*(V+2):Nat):Int)):=⟨by rw[←Int.natCast_mul,w64 (by omega) (by omega)]⟩
    have e6:PLift (wrap64 (((a0+u:Nat):Int)+1)=((a0+(u+1):Nat):Int)):=⟨by rw[w64 (by omega) (by omega)];omega⟩
    simp only[spec_l8Forest.l0]
    simp only[rla,e1.down,e2.down,e3.down,e4.down,e5.down,e6.down,rx,hf0,Int.toNat_natCast]
    exact ev_pos (by omega) (ev_pos (by omega) (ev_pos (by omega) (ev_pos (by omega) (ev_pos (by omega) (ev_pos (by omega) (ev_pos (by omega) (ev_pos (by omega) (ev_pos (by omega) (ev_pos (by omega) (ev_pos (by omega) h1))))))))))
theorem l8F_l1 (z:Zs D I R A B x y la lb) {i j a0 b0 U V:Nat} (hi:i<A.n) (hj:j<B.n) (ha:A.la i=a0) (hb:B.la j=b0) (hU:i=a0+U) (hV:j=b0+V) (tr:List Int) (G:List Int×List Int→Prop)
    (next:∀f,CellOk f (V+2) (U+2) (Fz D I R A B a0 b0) (fun r s=>s=0∨r=0)→∃res,Ev (fun k=>spec_l8Forest.l2 k (i:Int) (j:Int) tr la lb ((V+2:Nat):Int) (B.n:Int) f (a0:Int) x y la lb D I R) res∧G res):
    ∀(d v:Nat) (f:List Int),v+d=V+1→CellOk f (V+2) (U+2) (Fz D I R A B a0 b0) (fun r s=>s=0∨(r=0∧s≤v))→∃res,Ev (fun k=>spec_l8Forest.l1 k (i:Int) (j:Int) tr la lb ((V+2:Nat):Int) (B.n:Int) f ((b0+v:Nat):Int) x y la lb D I R) res∧G res:=by
  have nA:=z.nA
  have nB:=z.nB
  have rla:=z.la.2 i hi
  have rlb:=z.lb.2 j hj
  simp only[ha] at rla
  simp only[hb] at rlb
  have lla:=z.la.1
  have llb:=z.lb.1
  intro d
  induction d with
  | zero=>
    intro v f hv hf
    obtain⟨res,h1,h2⟩:=next f (hf.imp (fun r s h1 h2 h3=>by
      rcases h3 with h3|h3
      · exact .inl h3
      · exact .inr ⟨h3,by omega⟩))
    refine⟨res,ev_succ ?_,h2⟩
    simp only[spec_l8Forest.l1]
    rw[rla]
    exact ev_neg (by omega) (ev_pos (by omega) (ev_pos (by omega) h1))
  | succ d ih=>
    intro v f hv hf
    obtain⟨g1,g2⟩:=rows (u:=0) (U:=U) (w:=V+2) (by omega)
    rw[Nat.zero_mul] at g1 g2
    have rx:=z.y.2 (b0+v) (by omega)
    have lx:=z.y.1
    have bx:=z.labB (b0+v) (by omega)
    have cD:=z.cI
    have hfl:=hf.1
    have hf0:=hf.2 0 v (by omega) (by omega) (.inr ⟨rfl,Nat.le_refl _⟩)
    rw[Nat.zero_mul,Nat.zero_add] at hf0
    have rF:=Fz_range z (a0:=a0) (b0:=b0) (r:=0) (s:=v) (by omega) (by omega)
    have rD:=z.range.ins (B.lab (b0+v))
    have hstep:Fz D I R A B a0 b0 0 (v+1)=Fz D I R A B a0 b0 0 v+rd I (B.lab (b0+v)):=Dist.PT.d_ins (costs D I R) A B (show b0≤b0+v by omega) (show b0+v<B.n by omega)
    have rD2:0≤rd I (B.lab (b0+v))∧rd I (B.lab (b0+v))≤1000:=rD
    have hset:=hf.set (done':=fun r s=>s=0∨(r=0∧s≤v+1)) (r0:=0) (s0:=v+1) (by omega) (by omega) (i0:=v+1) (by omega) (v:=wrap64 (Fz D I R A B a0 b0 0 v+rd I (B.lab (b0+v)))) (by rw[hstep,w64 (by omega) (by omega)]) (fun r s _ _ h3=>by
      rcases h3 with h3| ⟨h3,h4⟩
      · exact .inl (.inl h3)
      · by_cases c:s≤v
        · exact .inl (.inr ⟨h3,c⟩)
        · exact .inr ⟨h3,by omega⟩)
    obtain⟨res,h1,h2⟩:=ih (v+1) _ (by omega) hset
    refine⟨res,ev_succ ?_,h2⟩
    have e1:PLift (wrap64 (((b0+v:Nat):Int)-(b0:Int))=(v:Int)):=⟨by rw[w64 (by omega) (by omega)];omega⟩
    have e2:PLift (wrap64 ((v:Int)+1)=((v+1:Nat):Int)):=⟨by rw[w64 (by omega) (by omega)];omega⟩
    have e6:PLift (wrap64 (((b0+v:Nat):Int)+1)=((b0+(v+1):Nat):Int)):=⟨by rw[w64 (by omega) (by omega)];omega⟩
    simp only[spec_l8Forest.l1]
    simp only[rlb,e1.down,e2.down,e6.down,rx,hf0,Int.toNat_natCast]
    exact ev_pos (by omega) (ev_pos (by omega) (ev_pos (by omega) (ev_pos (by omega) (ev_pos (by omega) (ev_pos (by omega) (ev_pos (by omega) (ev_pos (by omega) (ev_pos (by omega) (ev_pos (by omega) (ev_pos (by omega) h1))))))))))
end

/-! #### _table2 -/
section
variable {D I R x y la lb:List Int} {A B:Dist.PT}
/-- on the left edge of both -/
def Edge (A B:Dist.PT) (a0 b0 j p q:Nat):Prop:=A.la p=a0∧B.la q=b0∧a0≤p∧b0≤q∧q≤j
def doneT (A B:Dist.PT) (S:Nat→Nat→Prop) (a0 b0 j u v p q:Nat):Prop:=S p q∨(Edge A B a0 b0 j p q∧(p<a0+u∨(p=a0+u∧q<b0+v)))
def doneF (u v r s:Nat):Prop:=s=0∨r=0∨r≤u∨(r=u+1∧s≤v)
theorem l8F_l3 (z:Zs D I R A B x y la lb) {i j a0 b0 U V:Nat} (hi:i<A.n) (hj:j<B.n) (ha:A.la i=a0) (hb:B.la j=b0) (hU:i=a0+U) (hV:j=b0+V) (S:Nat→Nat→Prop) (hS:∀p q,a0≤p→p≤i→b0≤q→q≤j→¬(A.la p=a0∧B.la q=b0)→S p q) (G:List Int×List Int→Prop)
    (u:Nat) (hu:u≤U) (next:∀f tr,CellOk f (V+2) (U+2) (Fz D I R A B a0 b0) (doneF (u+1) 0)→CellOk tr B.n A.n (Tz D I R A B) (doneT A B S a0 b0 j (u+1) 0)→∃res,Ev (fun k=>spec_l8Forest.l2 k (i:Int) (j:Int) tr la lb ((V+2:Nat):Int) (B.n:Int) f ((a0+(u+1):Nat):Int) x y la lb D I R) res∧G res):
    ∀(d v:Nat) (f tr:List Int),v+d=V+1→CellOk f (V+2) (U+2) (Fz D I R A B a0 b0) (doneF u v)→CellOk tr B.n A.n (Tz D I R A B) (doneT A B S a0 b0 j u v)→∃res,Ev (fun k=>spec_l8Forest.l3 k (i:Int) (j:Int) tr la lb ((V+2:Nat):Int) (B.n:Int) f ((a0+u:Nat):Int) ((b0+v:Nat):Int) x y la lb D I R) res∧G res:=by
  have nA:=z.nA
  have nB:=z.nB
  have rla:=z.la.2 i hi
  have rlb:=z.lb.2 j hj
  simp only[ha] at rla
  simp only[hb] at rlb
  have lla:=z.la.1
  have llb:=z.lb.1
  have hwid:=wid (V:=V) (by omega) (U:=U) (by omega)
  intro d
  induction d with
  | zero=>
    intro v f tr hv hf ht
    obtain⟨res,h1,h2⟩:=next f tr (hf.imp (fun r s h1 h2 h3=>by
      unfold doneF at h3⊢
      omega)) (ht.imp (fun p q h1 h2 h3=>by
      rcases h3 with h3| ⟨h3,h4⟩
      · exact .inl h3
      · refine .inr ⟨h3,?_⟩
        have:=h3.2.2.2
        omega))
    refine⟨res,ev_succ ?_,h2⟩
    have e6:PLift (wrap64 (((a0+u:Nat):Int)+1)=((a0+(u+1):Nat):Int)):=⟨by rw[w64 (by omega) (by omega)];omega⟩
    simp only[spec_l8Forest.l3]
    simp only[e6.down]
    exact ev_neg (by omega) h1
  | succ d ih=>
    intro v f tr hv hf ht
    obtain⟨g1,g2⟩:=rows (u:=u) (U:=U) (w:=V+2) (by omega)
    obtain⟨p,hp⟩:∃p,p=a0+u:=⟨_,rfl⟩
    obtain⟨q,hq⟩:∃q,q=b0+v:=⟨_,rfl⟩
    have hpA:p<A.n:=by omega
    have hqB:q<B.n:=by omega
    have hlp:=A.lam i p hi (by omega) (by omega)
    have hlq:=B.lam j q hj (by omega) (by omega)
    have hlp2:=A.le p hpA
    have hlq2:=B.le q hqB
    obtain⟨g,hg⟩:∃g,A.la p=a0+g:=⟨A.la p-a0,by omega⟩
    obtain⟨h,hh⟩:∃h,B.la q=b0+h:=⟨B.la q-b0,by omega⟩
    have hgu:g≤u:=by omega
    have hhv:h≤v:=by omega
    have rx:=z.x.2 p hpA
    have ry:=z.y.2 q hqB
    have rlap:=z.la.2 p hpA
    have rlbq:=z.lb.2 q hqB
    simp only[hg] at rlap
    simp only[hh] at rlbq
    have lx:=z.x.1
    have ly:=z.y.1
    have bx:=z.labA p hpA
    have byy:=z.labB q hqB
    have cD:=z.cD
    have cI:=z.cI
    have cR:=z.cR
    have hfl:=hf.1
    have htl:=ht.1
    -- the indices
    obtain⟨i1,hi1⟩:∃n,n=u*(V+2):=⟨_,rfl⟩
    obtain⟨i2,hi2⟩:∃n,n=(u+1)*(V+2):=⟨_,rfl⟩
    obtain⟨i6,hi6⟩:∃n,n=g*(V+2):=⟨_,rfl⟩
    obtain⟨i5,hi5⟩:∃n,n=p*B.n:=⟨_,rfl⟩
    have k6:i6≤i1:=by rw[hi6,hi1];exact Nat.mul_le_mul_right _ hgu
    have k5:i5+q<A.n*B.n:=by rw[hi5];exact idx_lt hpA hqB
    have k5b:A.n*B.n≤576:=Nat.le_trans (Nat.mul_le_mul nA nB) (by decide)
    have k1:=hf.2 u (v+1) (by omega) (by omega) (.inr (.inr (.inl (Nat.le_refl _))))
    have k2:=hf.2 (u+1) v (by omega) (by omega) (.inr (.inr (.inr ⟨rfl,Nat.le_refl _⟩)))
    have k3:=hf.2 u v (by omega) (by omega) (.inr (.inr (.inl (Nat.le_refl _))))
    have k4:=hf.2 g h (by omega) (by omega) (.inr (.inr (.inl hgu)))
    rw[←hi1] at k1 k3
    rw[←hi2] at k2
    rw[←hi6] at k4
    rw[←hi1] at g1 g2
    rw[←hi2] at g1
    have F1:=Fz_range z (a0:=a0) (b0:=b0) (r:=u) (s:=v+1) (by omega) (by omega)
    have F2:=Fz_range z (a0:=a0) (b0:=b0) (r:=u+1) (s:=v) (by omega) (by omega)
    have F3:=Fz_range z (a0:=a0) (b0:=b0) (r:=u) (s:=v) (by omega) (by omega)
    have F4:=Fz_range z (a0:=a0) (b0:=b0) (r:=g) (s:=h) (by omega) (by omega)
    have rD:0≤rd D (A.lab p)∧rd D (A.lab p)≤1000:=z.range.del (A.lab p)
    have rI:0≤rd I (B.lab q)∧rd I (B.lab q)≤1000:=z.range.ins (B.lab q)
    have rR:0≤rd R (A.lab p*6+B.lab q)∧rd R (A.lab p*6+B.lab q)≤1000:=z.range.rel (A.lab p) (B.lab q)
    have e1:PLift (wrap64 ((p:Int)-(a0:Int))=(u:Int)):=⟨by rw[w64 (by omega) (by omega)];omega⟩
    have e2:PLift (wrap64 ((u:Int)+1)=((u+1:Nat):Int)):=⟨by rw[w64 (by omega) (by omega)];omega⟩
    have e3:PLift (wrap64 (((u+1:Nat):Int)-1)=(u:Int)):=⟨by rw[w64 (by omega) (by omega)];omega⟩
    have e4:PLift (wrap64 ((u:Int)*((V+2:Nat):Int))=(i1:Int)):=⟨by rw[←Int.natCast_mul,←hi1,w64 (by omega) (by omega)]⟩
    have e5:PLift (wrap64 (((u+1:Nat):Int)*((V+2:Nat):Int))=(i2:Int)):=⟨by rw[←Int.natCast_mul,←hi2,w64 (by omega) (by omega)]⟩
    have e7:PLift (wrap64 ((q:Int)-(b0:Int))=(v:Int)):=⟨by rw[w64 (by omega) (by omega)];omega⟩
    have e8:PLift (wrap64 ((v:Int)+1)=((v+1:Nat):Int)):=⟨by rw[w64 (by omega) (by omega)];omega⟩
    have e9:PLift (wrap64 ((i1:Int)+((v+1:Nat):Int))=((i1+(v+1):Nat):Int)):=⟨by rw[w64 (by omega) (by omega)];omega⟩
    have e10:PLift (wrap64 ((i2:Int)+((v+1:Nat):Int))=((i2+(v+1):Nat):Int)):=⟨by rw[w64 (by omega) (by omega)];omega⟩
    have e11:PLift (wrap64 (((i2+(v+1):Nat):Int)-1)=((i2+v:Nat):Int)):=⟨by rw[w64 (by omega) (by omega)];omega⟩
    have e12:PLift (wrap64 (((i1+(v+1):Nat):Int)-1)=((i1+v:Nat):Int)):=⟨by rw[w64 (by omega) (by omega)];omega⟩
    have e13:PLift (wrap64 ((p:Int)*(B.n:Int))=(i5:Int)):=⟨by rw[←Int.natCast_mul,←hi5,w64 (by omega) (by omega)]⟩
    have e14:PLift (wrap64 ((i5:Int)+(q:Int))=((i5+q:Nat):Int)):=⟨by rw[w64 (by omega) (by omega)];omega⟩
    have e15:PLift (wrap64 (((a0+g:Nat):Int)-(a0:Int))=(g:Int)):=⟨by rw[w64 (by omega) (by omega)];omega⟩
    have e16:PLift (wrap64 ((g:Int)*((V+2:Nat):Int))=(i6:Int)):=⟨by rw[←Int.natCast_mul,←hi6,w64 (by omega) (by omega)]⟩
    have e17:PLift (wrap64 ((i6:Int)+((b0+h:Nat):Int))=((i6+(b0+h):Nat):Int)):=⟨by rw[w64 (by omega) (by omega)];omega⟩
    have e18:PLift (wrap64 (((i6+(b0+h):Nat):Int)-(b0:Int))=((i6+h:Nat):Int)):=⟨by rw[w64 (by omega) (by omega)];omega⟩
    have e19:PLift (wrap64 (A.lab p*6)=A.lab p*6):=⟨w64 (by omega) (by omega)⟩
    have e20:PLift (wrap64 (A.lab p*6+B.lab q)=A.lab p*6+B.lab q):=⟨w64 (by omega) (by omega)⟩
    have e21:PLift (wrap64 ((q:Int)+1)=((b0+(v+1):Nat):Int)):=⟨by rw[w64 (by omega) (by omega)];omega⟩
    have e22:PLift (wrap64 (Fz D I R A B a0 b0 u (v+1)+rd D (A.lab p))=Fz D I R A B a0 b0 u (v+1)+rd D (A.lab p)):=⟨w64 (by omega) (by omega)⟩
    have e23:PLift (wrap64 (Fz D I R A B a0 b0 (u+1) v+rd I (B.lab q))=Fz D I R A B a0 b0 (u+1) v+rd I (B.lab q)):=⟨w64 (by omega) (by omega)⟩
    have e24:PLift (wrap64 (Fz D I R A B a0 b0 u v+rd R (A.lab p*6+B.lab q))=Fz D I R A B a0 b0 u v+rd R (A.lab p*6+B.lab q)):=⟨w64 (by omega) (by omega)⟩
    have dF:∀r s,r<U+2→s<V+2→doneF u (v+1) r s→doneF u v r s∨(r=u+1∧s=v+1):=fun r s _ _ h3=>by
      unfold doneF at h3⊢
      omega
    by_cases c:A.la p=a0∧B.la q=b0
    · have hval:Fz D I R A B a0 b0 (u+1) (v+1)=min (min (Fz D I R A B a0 b0 u (v+1)+rd D (A.lab p)) (Fz D I R A B a0 b0 (u+1) v+rd I (B.lab q))) (Fz D I R A B a0 b0 u v+rd R (A.lab p*6+B.lab q)):=by
        have:=Dist.PT.t_same (costs D I R) A B (i:=i) (j:=j) hpA hqB (by rw[c.1,ha]) (by rw[c.2,hb])
        rw[ha,hb,hp,hq] at this
        rw[hp,hq]
        exact this
      have hT:Fz D I R A B a0 b0 (u+1) (v+1)=Tz D I R A B p q:=by
        unfold Fz Tz Dist.PT.tr
        rw[c.1,c.2,hp,hq]
        rfl
      have hset:=hf.set (done':=doneF u (v+1)) (r0:=u+1) (s0:=v+1) (by omega) (by omega) (i0:=i2+(v+1)) (by rw[hi2]) (v:=Fz D I R A B a0 b0 (u+1) (v+1)) rfl dF
      have hset2:=ht.set (done':=doneT A B S a0 b0 j u (v+1)) (r0:=p) (s0:=q) hpA hqB (i0:=i5+q) (by rw[hi5]) (v:=Fz D I R A B a0 b0 (u+1) (v+1)) hT (fun p' q' _ _ h3=>by
        rcases h3 with h3| ⟨h3,h4⟩
        · exact .inl (.inl h3)
        · by_cases c2:p'<a0+u∨(p'=a0+u∧q'<b0+v)
          · exact .inl (.inr ⟨h3,c2⟩)
          · exact .inr (by omega))
      obtain⟨res,h1,h2⟩:=ih (v+1) _ _ (by omega) hset hset2
      refine⟨res,ev_succ ?_,h2⟩
      rw[←hp] at h1⊢
      rw[←hq]
      have cg:g=0:=by omega
      have ch:h=0:=by omega
      simp only[spec_l8Forest.l3]
      simp only[rla,rlb,rlap,rlbq,rx,ry,e1.down,e2.down,e3.down,e4.down,e5.down,e7.down,e8.down,e9.down,e10.down,e11.down,e12.down,e13.down,e14.down,e19.down,e20.down,e21.down,k1,k2,k3,e22.down,e23.down,e24.down,mn_min,←hval,Int.toNat_natCast]
      clear e1 e2 e3 e4 e5 e7 e8 e9 e10 e11 e12 e13 e14 e15 e16 e17 e18 e19 e20 e21 e22 e23 e24
      refine ev_pos (by omega) (ev_pos (by omega) (ev_pos (by omega) (ev_pos (by omega) (ev_pos (by omega) (ev_pos (by omega) (ev_pos (by omega) (ev_pos (by omega) (ev_pos (by omega) (ev_pos (by omega) (ev_pos (by omega) (ev_pos (by omega) (ev_pos (by omega) (ev_pos (by omega) (ev_pos (by omega) (ev_pos (by omega) (ev_pos (by omega) ?_))))))))))))))))
      refine ev_pos (by omega) (ev_pos (by omega) (ev_pos (by omega) (ev_pos (by omega) (ev_pos (by omega) (ev_pos (by omega) (ev_pos (by omega) (ev_pos (by omega) (ev_pos (by omega) (ev_pos (by omega) (ev_pos (by omega) (ev_pos (by omega) h1)))))))))))
    · have hval:Fz D I R A B a0 b0 (u+1) (v+1)=min (min (Fz D I R A B a0 b0 u (v+1)+rd D (A.lab p)) (Fz D I R A B a0 b0 (u+1) v+rd I (B.lab q))) (Fz D I R A B a0 b0 g h+Tz D I R A B p q):=by
        have:=Dist.PT.t_other (costs D I R) A B (i:=i) (j:=j) (p:=p) (q:=q) hi hj (by omega) (by omega) (by omega) (by omega)
        rw[ha,hb,hg,hh,hp,hq] at this
        rw[hp,hq]
        exact this
      have kT:=ht.2 p q hpA hqB (.inl (hS p q (by omega) (by omega) (by omega) (by omega) c))
      rw[←hi5] at kT
      have FT:0≤Tz D I R A B p q∧Tz D I R A B p q≤48000:=dist_range z.range nA nB (show p+1≤A.n by omega) (show q+1≤B.n by omega)
      have e25:PLift (wrap64 (Fz D I R A B a0 b0 g h+Tz D I R A B p q)=Fz D I R A B a0 b0 g h+Tz D I R A B p q):=⟨w64 (by omega) (by omega)⟩
      have hset:=hf.set (done':=doneF u (v+1)) (r0:=u+1) (s0:=v+1) (by omega) (by omega) (i0:=i2+(v+1)) (by rw[hi2]) (v:=Fz D I R A B a0 b0 (u+1) (v+1)) rfl dF
      have ht2:CellOk tr B.n A.n (Tz D I R A B) (doneT A B S a0 b0 j u (v+1)):=ht.imp (fun p' q' _ _ h3=>by
        rcases h3 with h3| ⟨h3,h4⟩
        · exact .inl h3
        · refine .inr ⟨h3,?_⟩
          by_cases c2:p'=p∧q'=q
          · exact absurd (c2.1▸c2.2▸⟨h3.1,h3.2.1⟩) c
          · omega)
      obtain⟨res,h1,h2⟩:=ih (v+1) _ _ (by omega) hset ht2
      refine⟨res,ev_succ ?_,h2⟩
      rw[←hp] at h1⊢
      rw[←hq]
      simp only[spec_l8Forest.l3]
      simp only[rla,rlb,rlap,rlbq,rx,ry,e1.down,e2.down,e3.down,e4.down,e5.down,e7.down,e8.down,e9.down,e10.down,e11.down,e12.down,e13.down,e14.down,e15.down,e16.down,e17.down,e18.down,e19.down,e20.down,e21.down,k1,k2,k3,k4,kT,e22.down,e23.down,e24.down,e25.down,mn_min,←hval,Int.toNat_natCast]
      clear e1 e2 e3 e4 e5 e7 e8 e9 e10 e11 e12 e13 e14 e15 e16 e17 e18 e19 e20 e21 e22 e23 e24 e25
      refine ev_pos (by omega) (ev_pos (by omega) (ev_pos (by omega) (ev_pos (by omega) (ev_pos (by omega) (ev_pos (by omega) (ev_pos (by omega) (ev_pos (by omega) (ev_pos (by omega) (ev_pos (by omega) (ev_pos (by omega) (ev_pos (by omega) (ev_pos (by omega) (ev_pos (by omega) (ev_pos (by omega) (ev_pos (by omega) (ev_pos (by omega) ?_))))))))))))))))
      refine ev_pos (by omega) ?_
      by_cases c1:g=0
      · refine ev_pos (by omega) (ev_pos (by omega) (ev_neg (by omega) ?_))
        exact ev_pos (by omega) (ev_pos (by omega) (ev_pos (by omega) (ev_pos (by omega) (ev_pos (by omega) (ev_pos (by omega) h1)))))
      · refine ev_neg (by omega) (ev_pos (by omega) ?_)
        exact ev_pos (by omega) (ev_pos (by omega) (ev_pos (by omega) (ev_pos (by omega) (ev_pos (by omega) (ev_pos (by omega) h1)))))
end

/-! #### _keys -/
/-- the greatest places with one first place -/
def isKey (L:List Int) (k:Nat):Bool:=decide (∀j:Nat,j<L.length→k<j→rd L (j:Int)≠rd L (k:Int))
def keysTo (L:List Int) (t:Nat):List Int:=((List.range t).filter (isKey L)).map Int.ofNat
def keyI (L:List Int):List Int:=keysTo L L.length
theorem keysTo_len (L:List Int) (t:Nat):(keysTo L t).length≤t:=by
  unfold keysTo
  rw[List.length_map]
  have:=List.length_filter_le (isKey L) (List.range t)
  rw[List.length_range] at this
  exact this
theorem keysTo_step (L:List Int) (t:Nat):keysTo L (t+1)=keysTo L t++(if isKey L t=true then [(t:Int)] else []):=by
  unfold keysTo
  rw[List.range_succ,List.filter_append,List.map_append]
  congr 1
  by_cases h:isKey L t=true
  · rw[if_pos h,List.filter_cons_of_pos h];rfl
  · rw[if_neg h,List.filter_cons_of_neg h];rfl
theorem KeyRoots_l1 (L:List Int) (hL:L.length≤24) (t:Nat) (ht:t<L.length) (acc r:List Int) (hacc:acc.length≤24) (h:Ev (fun k=>spec_KeyRoots.l0 k (acc++(if isKey L t=true then [(t:Int)] else [])) L ((t+1:Nat):Int)) r):
    ∀(d j:Nat) (b:Bool),j+d=L.length→t<j→(b=true↔∀i,i<j→t<i→rd L (i:Int)≠rd L (t:Int))→Ev (fun k=>spec_KeyRoots.l1 k acc L (t:Int) b (j:Int)) r:=by
  have e0:PLift (wrap64 ((t:Int)+1)=((t+1:Nat):Int)):=⟨by rw[w64 (by omega) (by omega)];omega⟩
  intro d
  induction d with
  | zero=>
    intro j b hj htj hb
    refine ev_succ ?_
    simp only[spec_KeyRoots.l1]
    rw[e0.down]
    refine ev_neg (by omega) ?_
    have hk:isKey L t=b:=by
      unfold isKey
      cases b with
      |true=>exact decide_eq_true (fun i h1 h2=>hb.1 rfl i (by omega) h2)
      | false=>
        refine decide_eq_false (fun c=>?_)
        exact absurd (hb.2 (fun i h1 h2=>c i (by omega) h2)) (by decide)
    rw[hk] at h
    cases b with
    | true=>
      rw[if_pos rfl] at h
      exact ev_pos (by simp) (ev_pos (by omega) h)
    | false=>
      rw[if_neg (by decide),List.append_nil] at h
      exact ev_neg (by simp) h
  | succ d ih=>
    intro j b hj htj hb
    have e1:PLift (wrap64 ((j:Int)+1)=((j+1:Nat):Int)):=⟨by rw[w64 (by omega) (by omega)];omega⟩
    refine ev_succ ?_
    simp only[spec_KeyRoots.l1]
    rw[e1.down]
    refine ev_pos (by omega) ?_
    cases b with
    | true=>
      refine ev_pos (by simp) (ev_pos (by omega) (ev_pos (by omega) (ev_pos (by omega) (ih (j+1) _ (by omega) (by omega) ?_))))
      rw[bne_iff_ne]
      constructor
      · intro hne i h1 h2
        by_cases e:i=j
        · rw[e];exact hne
        · exact hb.1 rfl i (by omega) h2
      · intro hall
        exact hall j (by omega) htj
    | false=>
      refine ev_neg (by simp) (ih (j+1) false (by omega) (by omega) ?_)
      constructor
      · intro c;cases c
      · intro hall
        exact hb.2 (fun i h1 h2=>hall i (by omega) h2)
theorem KeyRoots_ev (l:List S61) (hm:(l.length:Int)≤9223372036854775806):Ev (fun k=>spec_KeyRoots.f k l) (keyI (leafI l)):=by
  simp only[spec_KeyRoots.f]
  refine ev_bind (spec_LeftLeaf_ev l hm) ?_
  have hl:(leafI l).length≤24:=by
    by_cases h:treeOk l=true
    · rw[leafI_len h];exact(treeOk_iff.1 h).1.2
    · unfold leafI;rw[if_neg h];simp
  have key:∀d t,t+d=(leafI l).length→Ev (fun k=>spec_KeyRoots.l0 k (keysTo (leafI l) t) (leafI l) (t:Int)) (keyI (leafI l)):=by
    intro d
    induction d with
    | zero=>
      intro t ht
      refine ev_succ ?_
      simp only[spec_KeyRoots.l0]
      exact ev_neg (by omega) (ev_some (by rw[show t=(leafI l).length by omega];rfl))
    | succ d ih=>
      intro t ht
      have h2:=ih (t+1) (by omega)
      rw[keysTo_step] at h2
      have h3:=keysTo_len (leafI l) t
      refine ev_succ ?_
      simp only[spec_KeyRoots.l0]
      have e0:wrap64 ((t:Int)+1)=((t+1:Nat):Int):=by rw[w64 (by omega) (by omega)];omega
      rw[e0]
      clear e0
      have hb:∀i:Nat,i<t+1→t<i→rd (leafI l) (i:Int)≠rd (leafI l) (t:Int):=fun i h1 h2=>by omega
      have h4:=KeyRoots_l1 (leafI l) hl t (by omega) (keysTo (leafI l) t) _ (by omega) h2 ((leafI l).length-(t+1)) (t+1) true (by omega) (by omega) ⟨fun _=>hb,fun _=>rfl⟩
      exact ev_pos (by omega) h4
  exact key (leafI l).length 0 (by omega)

/-! #### _table3 -/
section
variable {D I R x y la lb:List Int} {A B:Dist.PT}
theorem l8F_l2 (z:Zs D I R A B x y la lb) {i j a0 b0 U V:Nat} (hi:i<A.n) (hj:j<B.n) (ha:A.la i=a0) (hb:B.la j=b0) (hU:i=a0+U) (hV:j=b0+V) (S:Nat→Nat→Prop) (hS:∀p q,a0≤p→p≤i→b0≤q→q≤j→¬(A.la p=a0∧B.la q=b0)→S p q):
    ∀ (d u:Nat) (f tr:List Int),u+d=U+1→CellOk f (V+2) (U+2) (Fz D I R A B a0 b0) (doneF u 0)→CellOk tr B.n A.n (Tz D I R A B) (doneT A B S a0 b0 j u 0)→
      ∃res,Ev (fun k=>spec_l8Forest.l2 k (i:Int) (j:Int) tr la lb ((V+2:Nat):Int) (B.n:Int) f ((a0+u:Nat):Int) x y la lb D I R) res∧(CellOk res.1 (V+2) (U+2) (Fz D I R A B a0 b0) (fun _ _=>True)∧CellOk res.2 B.n A.n (Tz D I R A B) (doneT A B S a0 b0 j (U+1) 0)):=by
  have nA:=z.nA
  have nB:=z.nB
  have rlb:=z.lb.2 j hj
  simp only[hb] at rlb
  have llb:=z.lb.1
  intro d
  induction d with
  | zero=>
    intro u f tr hu hf ht
    have e:u=U+1:=by omega
    subst e
    refine⟨(f,tr),ev_succ ?_,hf.imp (fun r s h1 h2 _=>?_),ht⟩
    · simp only[spec_l8Forest.l2]
      exact ev_neg (by omega) (Ev.now _)
    · unfold doneF
      omega
  | succ d ih=>
    intro u f tr hu hf ht
    obtain⟨res,h1,h2⟩:=l8F_l3 z hi hj ha hb hU hV S hS _ u (by omega) (fun f tr hf ht=>ih (u+1) f tr (by omega) hf ht) (V+1) 0 f tr (by omega) hf ht
    refine⟨res,ev_succ ?_,h2⟩
    simp only[spec_l8Forest.l2]
    simp only[rlb]
    exact ev_pos (by omega) (ev_pos (by omega) (ev_pos (by omega) h1))
theorem l8Forest_ev (z:Zs D I R A B x y la lb) {i j:Nat} (hi:i<A.n) (hj:j<B.n) (S:Nat→Nat→Prop) (hS:∀p q,A.la i≤p→p≤i→B.la j≤q→q≤j→¬(A.la p=A.la i∧B.la q=B.la j)→S p q) (tr:List Int) (ht:CellOk tr B.n A.n (Tz D I R A B) S):
    ∃res,Ev (fun k=>spec_l8Forest.f k x y la lb D I R (i:Int) (j:Int) tr) res∧CellOk res.1 (j-B.la j+2) (i-A.la i+2) (Fz D I R A B (A.la i) (B.la j)) (fun _ _=>True)∧CellOk res.2 B.n A.n (Tz D I R A B) (fun p q=>S p q∨(Edge A B (A.la i) (B.la j) j p q∧p≤i)):=by
  have nA:=z.nA
  have nB:=z.nB
  obtain⟨a0,ha⟩:∃a,A.la i=a:=⟨_,rfl⟩
  obtain⟨b0,hb⟩:∃b,B.la j=b:=⟨_,rfl⟩
  have hla:=A.le i hi
  have hlb:=B.le j hj
  rw[ha] at hla hS⊢
  rw[hb] at hlb hS⊢
  obtain⟨U,hU⟩:∃U,i=a0+U:=⟨i-a0,by omega⟩
  obtain⟨V,hV⟩:∃V,j=b0+V:=⟨j-b0,by omega⟩
  rw[show j-b0+2=V+2 by omega,show i-a0+2=U+2 by omega]
  have hwid:=wid (V:=V) (by omega) (U:=U) (by omega)
  have rla:=z.la.2 i hi
  have rlb:=z.lb.2 j hj
  simp only[ha] at rla
  simp only[hb] at rlb
  have lla:=z.la.1
  have llb:=z.lb.1
  have h0:Fz D I R A B a0 b0 0 0=0:=by
    unfold Fz
    rw[Dist.PT.fo_nil A (by omega),Dist.PT.fo_nil B (by omega),Dist.dist_nn]
  have hstart:CellOk (List.replicate ((U+2)*(V+2)) 0) (V+2) (U+2) (Fz D I R A B a0 b0) (fun r s=>s=0∧r≤0):=by
    refine⟨List.length_replicate,fun r s h1 h2 h3=>?_⟩
    have e1:s=0:=h3.1
    have e2:r=0:=by omega
    subst e1
    subst e2
    rw[h0]
    show (List.replicate ((U+2)*(V+2)) (0:Int)).getD _ 0=0
    rw[List.getD_eq_getElem?_getD,List.getElem?_replicate]
    split<;>rfl
  obtain⟨res,h1,h2,h3⟩:=l8F_l0 z hi hj ha hb hU hV tr _ (fun f hf=>l8F_l1 z hi hj ha hb hU hV tr _ (fun f hf=>l8F_l2 z hi hj ha hb hU hV S hS (U+1) 0 f tr (by omega) (hf.imp (fun r s h1 h2 h3=>by
      unfold doneF at h3
      omega)) (ht.imp (fun p q _ _ h3=>by
      rcases h3 with h3| ⟨h3,h4⟩
      · exact h3
      · have:=h3.2.2
        omega))) (V+1) 0 f (by omega) (hf.imp (fun r s h1 h2 h3=>by omega))) (U+1) 0 _ (by omega) hstart
  refine⟨res,?_,h2,h3.imp (fun p q _ _ h=>?_)⟩
  · have e1:PLift (wrap64 ((i:Int)-(a0:Int))=(U:Int)):=⟨by rw[w64 (by omega) (by omega)];omega⟩
    have e2:PLift (wrap64 ((U:Int)+2)=((U+2:Nat):Int)):=⟨by rw[w64 (by omega) (by omega)];omega⟩
    have e3:PLift (wrap64 ((j:Int)-(b0:Int))=(V:Int)):=⟨by rw[w64 (by omega) (by omega)];omega⟩
    have e4:PLift (wrap64 ((V:Int)+2)=((V+2:Nat):Int)):=⟨by rw[w64 (by omega) (by omega)];omega⟩
    have e5:PLift (wrap64 (((U+2:Nat):Int)*((V+2:Nat):Int))=(((U+2)*(V+2):Nat):Int)):=⟨by rw[←Int.natCast_mul,w64 (by omega) (by omega)]⟩
    simp only[spec_l8Forest.f]
    simp only[rla,rlb,e1.down,e2.down,e3.down,e4.down,e5.down,Int.toNat_natCast]
    rw[llb]
    exact ev_pos (by omega) (ev_pos (by omega) (ev_pos (by omega) (ev_pos (by omega) (ev_pos (by omega) (ev_pos (by omega) h1)))))
  · rcases h with h| ⟨h,h4⟩
    · exact .inl h
    · exact .inr ⟨h,.inl (by omega)⟩
/-- the key root of a place -/
def KeyOf (A:Dist.PT) (p k:Nat):Prop:=p≤k∧k<A.n∧A.la k=A.la p∧∀j,k<j→j<A.n→A.la j≠A.la k
theorem keyOf_ex (A:Dist.PT):∀(d p:Nat),p+d=A.n→p<A.n→∃k,KeyOf A p k:=by
  intro d
  induction d using Nat.strongRecOn with
  | ind d ih=>
    intro p hd hp
    by_cases h:∀j,p<j→j<A.n→A.la j≠A.la p
    · exact⟨p,Nat.le_refl p,hp,rfl,h⟩
    · simp only[Classical.not_forall,Decidable.not_not] at h
      obtain⟨j,h1,h2,h3⟩:=h
      obtain⟨k,k1,k2,k3,k4⟩:=ih (A.n-j) (by omega) j (by omega) h2
      exact⟨k,by omega,k2,k3.trans h3,k4⟩
theorem keyOf_le {A:Dist.PT} {i p k:Nat} (hk:KeyOf A p k) (hi:i<A.n) (hkey:∀j,i<j→j<A.n→A.la j≠A.la i) (h1:A.la i≤p) (h2:p≤i):k≤i:=by
  obtain⟨k1,k2,k3,k4⟩:=hk
  rcases Nat.lt_or_ge i k with h|h
  · exfalso
    have a:=A.le p (by omega)
    have b:=A.lam k i k2 (by omega) (by omega)
    have c:=A.lam i p hi h1 h2
    exact hkey k h k2 (by omega)
  · exact h
end

/-! #### _table4 -/
section
variable {D I R x y la lb:List Int} {A B:Dist.PT}
def IsKeyP (A:Dist.PT) (k:Nat):Prop:=k<A.n∧∀j,k<j→j<A.n→A.la j≠A.la k
structure KeyList (A:Dist.PT) (K:List Nat):Prop where
  key:∀k,k ∈ K→IsKeyP A k
  all:∀k,IsKeyP A k→k ∈ K
  up:K.Pairwise (· < ·)
def LastIs (D I R:List Int) (A B:Dist.PT) (i j:Nat) (f:List Int):Prop:=CellOk f (j-B.la j+2) (i-A.la i+2) (Fz D I R A B (A.la i) (B.la j)) (fun _ _=>True)
def SAll (A B:Dist.PT) (doneA doneB:List Nat) (i p q:Nat):Prop:=∃k k',KeyOf A p k∧KeyOf B q k'∧(k ∈ doneA∨(k=i∧k' ∈ doneB))
theorem rd_nat (K:List Nat) (t:Nat) (k:Nat) (h:K[t]? =some k):rd (K.map Int.ofNat) (t:Int)=(k:Int):=by
  rw[rd_ofNat,List.getD_eq_getElem?_getD,h]
  rfl
theorem l8All_l1 (z:Zs D I R A B x y la lb) {KA KB:List Nat} (hA:KeyList A KA) (hB:KeyList B KB) (hKA:KA.length≤24) (hKB:KB.length≤24) (G:List Int×List Int→Prop) (doneA restA:List Nat) (i:Nat) (hKA2:KA=doneA++i::restA) (jl:Nat)
    (next:∀tr f,CellOk tr B.n A.n (Tz D I R A B) (SAll A B doneA KB i)→LastIs D I R A B i jl f→∃res,Ev (fun k=>spec_l8All.l0 k tr f (KA.map Int.ofNat) (KB.map Int.ofNat) ((doneA.length+1:Nat):Int) x y la lb D I R) res∧G res):
    ∀ (restB doneB:List Nat) (tr f:List Int),KB=doneB++restB→(restB=[]→LastIs D I R A B i jl f)→(∀b c j,KB=b++j::c→c=[]→j=jl)→CellOk tr B.n A.n (Tz D I R A B) (SAll A B doneA doneB i)→
      ∃res,Ev (fun k=>spec_l8All.l1 k tr f (KA.map Int.ofNat) (KB.map Int.ofNat) (doneA.length:Int) (doneB.length:Int) x y la lb D I R) res∧G res:=by
  have nA:=z.nA
  have nB:=z.nB
  have lKA:(KA.map Int.ofNat).length=doneA.length+(restA.length+1):=by rw[List.length_map,hKA2,List.length_append,List.length_cons]
  have lKA2:KA.length=doneA.length+(restA.length+1):=by rw[hKA2,List.length_append,List.length_cons]
  have gi:rd (KA.map Int.ofNat) (doneA.length:Int)=(i:Int):=rd_nat KA _ i (by rw[hKA2,List.getElem?_append_right (Nat.le_refl _),Nat.sub_self];rfl)
  have ki:=hA.key i (by rw[hKA2];simp)
  intro restB
  induction restB with
  | nil=>
    intro doneB tr f hK hl _ ht
    rw[List.append_nil] at hK
    subst hK
    obtain⟨res,h1,h2⟩:=next tr f ht (hl rfl)
    refine⟨res,ev_succ ?_,h2⟩
    have lKB:(KB.map Int.ofNat).length=KB.length:=List.length_map _
    simp only[spec_l8All.l1]
    have e0:PLift (wrap64 ((doneA.length:Int)+1)=((doneA.length+1:Nat):Int)):=⟨by rw[w64 (by omega) (by omega)];omega⟩
    rw[e0.down]
    exact ev_neg (by omega) h1
  | cons j restB ih=>
    intro doneB tr f hK hl hx3 ht
    have kj:=hB.key j (by rw[hK];simp)
    have lKB:(KB.map Int.ofNat).length=doneB.length+(restB.length+1):=by rw[List.length_map,hK,List.length_append,List.length_cons]
    have lKB2:KB.length=doneB.length+(restB.length+1):=by rw[hK,List.length_append,List.length_cons]
    have gj:rd (KB.map Int.ofNat) (doneB.length:Int)=(j:Int):=rd_nat KB _ j (by rw[hK,List.getElem?_append_right (Nat.le_refl _),Nat.sub_self];rfl)
    have memA:∀k,IsKeyP A k→k<i→k ∈ doneA:=by
      intro k hk hlt
      have h1:=hA.all k hk
      have h2:=hA.up
      rw[hKA2] at h1 h2
      rcases List.mem_append.1 h1 with h1|h1
      · exact h1
      · rcases List.mem_cons.1 h1 with h1|h1
        · omega
        · have:=(List.pairwise_cons.1 (List.pairwise_append.1 h2).2.1).1 k h1
          omega
    have memB:∀k,IsKeyP B k→k<j→k ∈ doneB:=by
      intro k hk hlt
      have h1:=hB.all k hk
      have h2:=hB.up
      rw[hK] at h1 h2
      rcases List.mem_append.1 h1 with h1|h1
      · exact h1
      · rcases List.mem_cons.1 h1 with h1|h1
        · omega
        · have:=(List.pairwise_cons.1 (List.pairwise_append.1 h2).2.1).1 k h1
          omega
    have hS:∀p q,A.la i≤p→p≤i→B.la j≤q→q≤j→¬(A.la p=A.la i∧B.la q=B.la j)→SAll A B doneA doneB i p q:=by
      intro p q h1 h2 h3 h4 h5
      obtain⟨k,hk⟩:=keyOf_ex A (A.n-p) p (by have:=ki.1;omega) (by have:=ki.1;omega)
      obtain⟨k',hk'⟩:=keyOf_ex B (B.n-q) q (by have:=kj.1;omega) (by have:=kj.1;omega)
      have l1:=keyOf_le hk ki.1 ki.2 h1 h2
      have l2:=keyOf_le hk' kj.1 kj.2 h3 h4
      refine⟨k,k',hk,hk',?_⟩
      by_cases e:k=i
      · refine .inr ⟨e,memB k' ⟨hk'.2.1,hk'.2.2.2⟩ ?_⟩
        have e1:A.la p=A.la i:=by rw[←e];exact hk.2.2.1.symm
        have:k'≠j:=fun e2=>h5 ⟨e1,by rw[←e2];exact hk'.2.2.1.symm⟩
        omega
      · exact .inl (memA k ⟨hk.2.1,hk.2.2.2⟩ (by omega))
    obtain⟨⟨f',tr'⟩,h1,h2,h3⟩:=l8Forest_ev z ki.1 kj.1 _ hS tr ht
    have ht':CellOk tr' B.n A.n (Tz D I R A B) (SAll A B doneA (doneB++[j]) i):=h3.imp (fun p q hp hq h=>by
      obtain⟨k,k',hk,hk',h⟩:=h
      rcases h with h| ⟨h,h'⟩
      · exact .inl ⟨k,k',hk,hk',.inl h⟩
      · rcases List.mem_append.1 h' with h'|h'
        · exact .inl ⟨k,k',hk,hk',.inr ⟨h,h'⟩⟩
        · rw[List.mem_singleton] at h'
          have a1:=A.le p hp
          have b1:=B.le q hq
          have c1:=hk.2.2.1
          have c2:=hk'.2.2.1
          rw[h] at c1
          rw[h'] at c2
          have d1:=hk.1
          have d2:=hk'.1
          exact .inr ⟨⟨c1.symm,c2.symm,by omega,by omega,by omega⟩,by omega⟩)
    obtain⟨res,g1,g2⟩:=ih (doneB++[j]) tr' f' (by rw[hK];simp) (fun e=>by
      have ej:j=jl:=hx3 doneB restB j hK e
      rw[←ej]
      exact h2) hx3 ht'
    refine⟨res,ev_succ ?_,g2⟩
    simp only[spec_l8All.l1]
    have e0:PLift (wrap64 ((doneB.length:Int)+1)=((doneB++[j]).length:Int)):=⟨by rw[w64 (by omega) (by omega),List.length_append,List.length_singleton];omega⟩
    rw[e0.down,gi,gj]
    exact ev_pos (by omega) (ev_pos (by omega) (ev_pos (by omega) (ev_pos (by omega) (ev_bind h1 g1))))
theorem l8All_l0 (z:Zs D I R A B x y la lb) {KA KB:List Nat} (hA:KeyList A KA) (hB:KeyList B KB) (hKA:KA.length≤24) (hKB:KB.length≤24) (il jl:Nat) (hil:∀b c i,KA=b++i::c→c=[]→i=il) (hjl:∀b c j,KB=b++j::c→c=[]→j=jl) (hKB0:KB≠[]):
    ∀ (restA doneA:List Nat) (tr f:List Int),KA=doneA++restA→(restA=[]→LastIs D I R A B il jl f)→CellOk tr B.n A.n (Tz D I R A B) (fun p q=>∃k,KeyOf A p k∧k ∈ doneA)→
      ∃res,Ev (fun k=>spec_l8All.l0 k tr f (KA.map Int.ofNat) (KB.map Int.ofNat) (doneA.length:Int) x y la lb D I R) res∧LastIs D I R A B il jl res.2:=by
  intro restA
  induction restA with
  | nil=>
    intro doneA tr f hK hl ht
    rw[List.append_nil] at hK
    subst hK
    refine⟨(tr,f),ev_succ ?_,hl rfl⟩
    have lKA:(KA.map Int.ofNat).length=KA.length:=List.length_map _
    simp only[spec_l8All.l0]
    exact ev_neg (by omega) (Ev.now _)
  | cons i restA ih=>
    intro doneA tr f hK hl ht
    have lKA:(KA.map Int.ofNat).length=doneA.length+(restA.length+1):=by rw[List.length_map,hK,List.length_append,List.length_cons]
    obtain⟨res,g1,g2⟩:=l8All_l1 z hA hB hKA hKB (fun res=>LastIs D I R A B il jl res.2) doneA restA i hK jl (fun tr' f' ht' hf'=>by
      have h:=ih (doneA++[i]) tr' f' (by rw[hK];simp) (fun e=>by
        have ei:i=il:=hil doneA restA i hK e
        rw[←ei]
        exact hf') (ht'.imp (fun p q hp hq h=>by
        obtain⟨k,hk,hm⟩:=h
        obtain⟨k',hk'⟩:=keyOf_ex B (B.n-q) q (by omega) hq
        rcases List.mem_append.1 hm with hm|hm
        · exact⟨k,k',hk,hk',.inl hm⟩
        · rw[List.mem_singleton] at hm
          exact⟨k,k',hk,hk',.inr ⟨hm,hB.all k' ⟨hk'.2.1,hk'.2.2.2⟩⟩⟩))
      rw[List.length_append,List.length_singleton] at h
      exact h) KB [] tr f rfl (fun e=>absurd e hKB0) hjl (ht.imp (fun p q hp hq h=>by
      obtain⟨k,k',hk,hk',h⟩:=h
      rcases h with h| ⟨_,h⟩
      · exact⟨k,hk,h⟩
      · cases h))
    refine⟨res,ev_succ ?_,g2⟩
    simp only[spec_l8All.l0]
    exact ev_pos (by omega) g1
end
/-- the key roots of a tree -/
def keyN (L:List Int):List Nat:=(List.range L.length).filter (isKey L)
theorem keyI_eq (L:List Int):keyI L=(keyN L).map Int.ofNat:=rfl
theorem keyN_list {A:Dist.PT} {L:List Int} (h:RowIs L A.n (fun k=>(A.la k:Int))):KeyList A (keyN L):=by
  have iff:∀k,k<A.n→(isKey L k=true↔∀j,k<j→j<A.n→A.la j≠A.la k):=by
    intro k hk
    unfold isKey
    rw[decide_eq_true_eq]
    constructor
    · intro g j h1 h2 e
      have:=g j (by rw[h.1];exact h2) h1
      rw[h.2 j h2,h.2 k hk] at this
      exact this (show (A.la j:Int)=(A.la k:Int) by rw[e])
    · intro g j h1 h2 e
      rw[h.1] at h1
      rw[h.2 j h1,h.2 k hk] at e
      have e':(A.la j:Int)=(A.la k:Int):=e
      exact g j h2 h1 (by omega)
  refine⟨fun k hk=>?_,fun k hk=>?_,List.Pairwise.filter _ List.pairwise_lt_range⟩
  · unfold keyN at hk
    rw[List.mem_filter,List.mem_range,h.1] at hk
    exact⟨hk.1,(iff k hk.1).1 hk.2⟩
  · unfold keyN
    rw[List.mem_filter,List.mem_range,h.1]
    exact⟨hk.1,(iff k hk.1).2 hk.2⟩
theorem keyN_last {A:Dist.PT} {K:List Nat} (h:KeyList A K) (h0:0<A.n):∀b c i,K=b++i::c→c=[]→i=A.n-1:=by
  intro b c i e e2
  subst e2
  have h1:=h.all (A.n-1) ⟨by omega,fun j a b=>by omega⟩
  have h2:=h.up
  have h3:=(h.key i (by rw[e];simp)).1
  rw[e] at h1 h2
  rcases List.mem_append.1 h1 with h1|h1
  · have:=(List.pairwise_append.1 h2).2.2 _ h1 i (by simp)
    omega
  · rw[List.mem_singleton] at h1
    exact h1.symm
theorem keyN_ne {A:Dist.PT} {K:List Nat} (h:KeyList A K) (h0:0<A.n):K≠[]:=by
  have h1:=h.all (A.n-1) ⟨by omega,fun j a b=>by omega⟩
  intro e
  rw[e] at h1
  cases h1

end Go.Proofs.Ytbmkobanpakohaa.QFnNear
