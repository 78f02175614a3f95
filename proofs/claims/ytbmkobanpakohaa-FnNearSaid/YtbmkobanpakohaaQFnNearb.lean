/- What the printed functions of the law FnNear come to, function by function, from some number of rounds on; each under the bounds that it names. -/
import Derived.Test.YtbmkobanpakohaaQFnNeara
namespace Go.Proofs.Ytbmkobanpakohaa.QFnNear
open Go.RowKit Go.Proofs.Ytbmkobanpakohaa.PFnNear Go.Proofs.YtbmkobanpakohaaW.PrintWords Go.Proofs.YtbmkobanpakohaaW.PrintLast Go.Proofs.YtbmkobanpakohaaW.PrintMore Go.Proofs.Ytbmkobanpakohaa.EvAid Go.Proofs.Ytbmkobanpakohaa
set_option linter.unusedVariables false
set_option linter.unusedSimpArgs false

/-! #### _l20Trees -/
/-- a list of drawn trees -/
def Trs (l:List (List S61)):Prop:=l.length≤8∧∀x ∈ l,x.length≤50000
theorem l20Trees_l0 (s:List Int) (t:List S61) (ht:t.length≤40000):∀(d:Nat) (l:List (List S61)) (i h0:Int),d≤6→l.length+d≤8→(∀x ∈ l,x.length≤50000)→Cur s i→
    ∃r i' h,Ev (fun k=>spec_l20Trees.l0 k l t (d:Int) s i h0) (r,i',h)∧Trs r∧Cur s i':=by
  intro d
  induction d with
  | zero=>
    intro l i h0 hd hl hx hc
    by_cases c:(l.length:Int)>0
    · obtain⟨b,i1,h1,b1,hc1⟩:=l1Once_ok s i h0 12 hc
      by_cases cb:b=true
      · obtain⟨r,i2,h2,g2,hr,hc2⟩:=l3Any_ok s i1 h1 5 (by omega) hc1
        refine⟨l.set (0:Int).toNat r,i2,h2,?_,⟨?_,?_⟩,hc2⟩
        · refine ev_succ ?_
          simp only[spec_l20Trees.l0]
          exact ev_neg (by omega) (ev_pos c (ev_bindc b1 (ev_pos cb (ev_bind g2 (ev_pos (by omega) (Ev.now _))))))
        · rw[List.length_set];omega
        · intro x h
          rcases List.mem_or_eq_of_mem_set h with h|h
          · exact hx x h
          · rw[h];omega
      · refine⟨l,i1,h1,?_,⟨by omega,hx⟩,hc1⟩
        refine ev_succ ?_
        simp only[spec_l20Trees.l0]
        exact ev_neg (by omega) (ev_pos c (ev_bindc b1 (ev_neg cb (Ev.now _))))
    · refine⟨l,i,h0,?_,⟨by omega,hx⟩,hc⟩
      refine ev_succ ?_
      simp only[spec_l20Trees.l0]
      exact ev_neg (by omega) (ev_neg c (Ev.now _))
  | succ d ih=>
    intro l i h0 hd hl hx hc
    obtain⟨r,i1,h1,g1,hr,hc1⟩:=l3Near_ok s i h0 t (by omega) hc
    obtain⟨r',i',h,g,ht',hc'⟩:=ih (l++[r]) i1 h1 (by omega) (by rw[List.length_append,List.length_singleton];omega) (fun x h=>by
      rcases List.mem_append.1 h with h|h
      · exact hx x h
      · rw[List.mem_singleton.1 h];omega) hc1
    refine⟨r',i',h,?_,ht',hc'⟩
    refine ev_succ ?_
    simp only[spec_l20Trees.l0]
    rw[w64 (x:=((d+1:Nat):Int)-1) (by omega) (by omega),show ((d+1:Nat):Int)-1=(d:Int) by omega]
    exact ev_pos (by omega) (ev_bind g1 (ev_pos (by omega) g))
theorem l20Trees_ok (s:List Int) (i h0:Int) (hc:Cur s i):∃r i' h,Ev (fun k=>spec_l20Trees.f k s i h0) (r,i',h)∧Trs r∧Cur s i':=by
  obtain⟨a,i1,h1,g1,ha,hc1⟩:=l3Tree_ok s i h0 6 (by omega) hc
  obtain⟨n,i2,h2,b2,n0,n1,_,hc2⟩:=l1Below_ok s i1 h1 5 hc1
  have ha2:=ha.2.1
  obtain⟨n,rfl⟩:∃m:Nat,n=(m:Int):=⟨n.toNat,by omega⟩
  have:=n1 (by omega)
  obtain⟨r,i',h,g,ht,hc'⟩:=l20Trees_l0 s a (by omega) n [] i2 h2 (by omega) (by simp;omega) (by simp) hc2
  simp only[spec_l20Trees.f]
  exact⟨r,i',h,ev_bind g1 (ev_bindc b2 g),ht,hc'⟩

/-! #### _forestD -/
theorem mn_min (a b:Int):mn a b=min a b:=by
  unfold mn
  by_cases h:b<a
  · rw[if_pos h];omega
  · rw[if_neg h];omega
/-- costs in range -/
structure CostR (C:Dist.Costs):Prop where
  del:∀x,0≤C.del x∧C.del x≤1000
  ins:∀x,0≤C.ins x∧C.ins x≤1000
  rel:∀x y,0≤C.rel x y∧C.rel x y≤1000
theorem dist_range {C:Dist.Costs} (hC:CostR C) {A B:Dist.PT} (hA:A.n≤24) (hB:B.n≤24) {i j k m:Nat} (hj:j≤A.n) (hm:m≤B.n):0≤Dist.dist C (A.fo i j) (B.fo k m)∧Dist.dist C (A.fo i j) (B.fo k m)≤48000:=by
  have sz:∀(T:Dist.PT) (a b:Nat),b≤T.n→Dist.Fo.size (T.fo a b)≤T.n:=by
    intro T a b hb
    by_cases h:a≤b
    · rw[Dist.PT.size_fo T b a h hb];omega
    · rw[Dist.PT.fo_nil T (by omega)];simp[Dist.Fo.size]
  have h1:=sz A i j hj
  have h2:=sz B k m hm
  have h3:=Dist.dist_nonneg C (fun x=>(hC.del x).1) (fun x=>(hC.ins x).1) (fun x y=>(hC.rel x y).1) _ (A.fo i j) (B.fo k m) (Nat.le_refl _)
  have h4:=Dist.dist_le C 1000 (by decide) (fun x=>(hC.del x).2) (fun x=>(hC.ins x).2) _ (A.fo i j) (B.fo k m) (Nat.le_refl _)
  omega
/-- a row by its places -/
def RowIs (xs:List Int) (n:Nat) (f:Nat→Int):Prop:=xs.length=n∧∀k,k<n→rd xs (k:Int)=f k
structure MeasIs (C:Dist.Costs) (A B:Dist.PT) (la lb del ins:List Int) (rel:List (List Int)):Prop where
  la:RowIs la A.n (fun k=>(A.la k:Int))
  lb:RowIs lb B.n (fun k=>(B.la k:Int))
  del:RowIs del A.n (fun k=>C.del (A.lab k))
  ins:RowIs ins B.n (fun k=>C.ins (B.lab k))
  relLen:rel.length=A.n
  rel:∀p,p<A.n→RowIs (row4 rel (p:Int)) B.n (fun q=>C.rel (A.lab p) (B.lab q))
theorem mx4_max (a b:Nat):mx4 (a:Int) (b:Int)=((max a b:Nat):Int):=by
  unfold mx4
  by_cases h:(a:Int)<(b:Int)
  · rw[if_pos h];omega
  · rw[if_neg h];omega
theorem wpred (j:Nat) (h:j≤24):wrap64 (((j+1:Nat):Int)-1)=(j:Int):=by rw[w64 (by omega) (by omega)];omega
theorem forest_ev {C:Dist.Costs} (hC:CostR C) {A B:Dist.PT} (hA:A.n≤24) (hB:B.n≤24) {la lb del ins:List Int} {rel:List (List Int)} (hM:MeasIs C A B la lb del ins rel):
    ∀(N i j k m:Nat),(j-i)+(m-k)≤N→i≤j→j≤A.n→k≤m→m≤B.n→Ev (fun f=>impl_forest.f la lb del ins rel f (i:Int) (j:Int) (k:Int) (m:Int)) (Dist.dist C (A.fo i j) (B.fo k m)):=by
  intro N
  induction N with
  | zero=>
    intro i j k m h hij hj hkm hm
    refine ev_succ ?_
    simp only[impl_forest.f]
    refine ev_pos (by omega) (ev_pos (by omega) (ev_some ?_))
    rw[Dist.PT.fo_nil A (by omega),Dist.PT.fo_nil B (by omega),Dist.dist_nn]
  | succ N ih=>
    intro i j k m h hij hj hkm hm
    by_cases e1:i=j
    · by_cases e2:k=m
      · refine ev_succ ?_
        simp only[impl_forest.f]
        refine ev_pos (by omega) (ev_pos (by omega) (ev_some ?_))
        rw[Dist.PT.fo_nil A (by omega),Dist.PT.fo_nil B (by omega),Dist.dist_nn]
      · obtain⟨m,rfl⟩:∃m',m=m'+1:=⟨m-1,by omega⟩
        subst e1
        have h1:=ih i i k m (by omega) (Nat.le_refl _) hj (by omega) (by omega)
        have h2:=hM.ins.2 m (by omega)
        have h3:=hM.ins.1
        have h4:=dist_range hC hA hB (i:=i) (k:=k) hj (show m≤B.n by omega)
        have h5:=hC.ins (B.lab m)
        refine ev_succ ?_
        simp only[impl_forest.f]
        rw[wpred m (by omega),h2]
        refine ev_pos (by simp) (ev_neg (by omega) (ev_pos (by omega) (ev_bind h1 (ev_some ?_))))
        dsimp only
        rw[w64 (by omega) (by omega),Dist.PT.d_ins C A B (by omega) (by omega)]
    · obtain⟨j,rfl⟩:∃j',j=j'+1:=⟨j-1,by omega⟩
      by_cases e2:k=m
      · subst e2
        have h1:=ih i j k k (by omega) (by omega) (by omega) (Nat.le_refl _) hm
        have h2:=hM.del.2 j (by omega)
        have h3:=hM.del.1
        have h4:=dist_range hC hA hB (i:=i) (k:=k) (show j≤A.n by omega) hm
        have h5:=hC.del (A.lab j)
        refine ev_succ ?_
        simp only[impl_forest.f]
        rw[wpred j (by omega),h2]
        refine ev_neg (by omega) (ev_pos (by simp) (ev_pos (by omega) (ev_bind h1 (ev_some ?_))))
        dsimp only
        rw[w64 (by omega) (by omega),Dist.PT.d_del C A B (by omega) (by omega)]
      · obtain⟨m,rfl⟩:∃m',m=m'+1:=⟨m-1,by omega⟩
        have lA:=A.le j (by omega)
        have lB:=B.le m (by omega)
        have h1:=ih i j k (m+1) (by omega) (by omega) (by omega) hkm hm
        have h2:=ih i (j+1) k m (by omega) hij hj (by omega) (by omega)
        have h3:=ih (max i (A.la j)) j (max k (B.la m)) m (by omega) (by omega) (by omega) (by omega) (by omega)
        have h4:=ih i (max i (A.la j)) k (max k (B.la m)) (by omega) (by omega) (by omega) (by omega) (by omega)
        have b1:=dist_range hC hA hB (i:=i) (k:=k) (show j≤A.n by omega) hm
        have b2:=dist_range hC hA hB (i:=i) (k:=k) hj (show m≤B.n by omega)
        have b3:=dist_range hC hA hB (i:=max i (A.la j)) (k:=max k (B.la m)) (show j≤A.n by omega) (show m≤B.n by omega)
        have b4:=dist_range hC hA hB (i:=i) (k:=k) (show max i (A.la j)≤A.n by omega) (show max k (B.la m)≤B.n by omega)
        have d1:=hM.del.2 j (by omega)
        have d2:=hM.ins.2 m (by omega)
        have d3:=(hM.rel j (by omega)).2 m (by omega)
        have d4:=hM.la.2 j (by omega)
        have d5:=hM.lb.2 m (by omega)
        have g1:=hM.del.1
        have g2:=hM.ins.1
        have g3:=(hM.rel j (by omega)).1
        have g4:=hM.la.1
        have g5:=hM.lb.1
        have g6:=hM.relLen
        have c1:=hC.del (A.lab j)
        have c2:=hC.ins (B.lab m)
        have c3:=hC.rel (A.lab j) (B.lab m)
        refine ev_succ ?_
        simp only[impl_forest.f]
        rw[wpred j (by omega),wpred m (by omega),d1,d2,d3,d4,d5,mx4_max,mx4_max]
        refine ev_neg (by omega) (ev_neg (by omega) (ev_pos ⟨by omega,by omega⟩ (ev_bind h1 (ev_bind h2 (ev_bind h3 (ev_bind h4 (ev_some ?_)))))))
        dsimp only
        rw[Dist.PT.d_step C A B (by omega) (by omega) (by omega) (by omega),mn_min,mn_min,w64 (x:=_+C.del (A.lab j)) (by omega) (by omega),w64 (x:=_+C.ins (B.lab m)) (by omega) (by omega),w64 (x:=Dist.dist C (A.fo (max i (A.la j)) j) (B.fo (max k (B.la m)) m)+Dist.dist C (A.fo i (max i (A.la j))) (B.fo k (max k (B.la m)))) (by omega) (by omega),w64 (by omega) (by omega)]

/-! #### _pol -/
/-- the nodes of a tree, each behind what is under it -/
def pol (l:List S61):List Nat:=Tree.post l.length (dpA l) l.length 0
def postI (l:List S61):List Int:=if treeOk l=true then (pol l).map Int.ofNat else []
theorem pol_order {l:List S61} (h:treeOk l=true):Tree.Order l.length (dpA l) (pol l):=Tree.post_order (treeOk_vd h)
theorem pol_len {l:List S61} (h:treeOk l=true):(pol l).length=l.length:=(pol_order h).len
theorem postI_ok {l:List S61} (h:treeOk l=true):postI l=(pol l).map Int.ofNat:=if_pos h
theorem postI_len {l:List S61} (h:treeOk l=true):(postI l).length=l.length:=by rw[postI_ok h,List.length_map,pol_len h]
theorem rd_ofNat (p:List Nat) (k:Nat):rd (p.map Int.ofNat) (k:Int)=((p.getD k 0:Nat):Int):=by
  show (p.map Int.ofNat).getD (k:Int).toNat _=_
  rw[Int.toNat_natCast,List.getD_eq_getElem?_getD,List.getD_eq_getElem?_getD,List.getElem?_map]
  cases p[k]? <;>rfl
theorem l6P_loop (l:List S61) (i:Nat) (g:Nat→List Nat) (K:List Nat) (hKl:K.length≤24) (hb:(K.flatMap g).length≤24) (hk:∀c ∈ K,Ev (fun k=>spec_l6Post.f k l (c:Int)) ((g c).map Int.ofNat)):
    ∀(rest done:List Nat),K=done++rest→Ev (fun k=>spec_l6Post.l0 k l (i:Int) ((done.flatMap g).map Int.ofNat) (K.map Int.ofNat) (done.length:Int)) ((K.flatMap g++[i]).map Int.ofNat):=by
  intro rest
  induction rest with
  | nil=>
    intro done hK
    have hl:(K.map Int.ofNat).length=done.length:=by rw[hK,List.append_nil,List.length_map]
    have hd:done=K:=by rw[hK,List.append_nil]
    refine ev_succ ?_
    simp only[spec_l6Post.l0]
    refine ev_neg (by omega) (ev_pos (by rw[List.length_map,hd];omega) (ev_some ?_))
    rw[List.map_append,hd]
    rfl
  | cons c rest ih=>
    intro done hK
    have h1:=hk c (by rw[hK];simp)
    have h2:(done.flatMap g).length+(g c).length≤24:=by
      rw[hK,List.flatMap_append,List.flatMap_cons,List.length_append,List.length_append] at hb
      omega
    have h3:=ih (done++[c]) (by rw[hK];simp)
    have hl:(K.map Int.ofNat).length=done.length+(rest.length+1):=by rw[hK,List.length_map,List.length_append,List.length_cons]
    have hl2:K.length=done.length+(rest.length+1):=by rw[hK,List.length_append,List.length_cons]
    have hget:rd (K.map Int.ofNat) (done.length:Int)=(c:Int):=by
      rw[rd_ofNat,hK,List.getD_eq_getElem?_getD,List.getElem?_append_right (Nat.le_refl _),Nat.sub_self]
      rfl
    refine ev_succ ?_
    simp only[spec_l6Post.l0]
    rw[hget]
    have e0:wrap64 ((done.length:Int)+1)=((done++[c]).length:Int):=by rw[w64 (by omega) (by omega),List.length_append,List.length_singleton];omega
    rw[e0]
    clear e0
    have e1:((done++[c]).flatMap g).map Int.ofNat=(done.flatMap g).map Int.ofNat++(g c).map Int.ofNat:=by rw[List.flatMap_append,List.map_append,List.flatMap_cons,List.flatMap_nil,List.append_nil]
    rw[e1] at h3
    refine ev_pos (by omega) (ev_pos (by omega) (ev_bind h1 (ev_pos (by rw[List.length_map,List.length_map];omega) h3)))
theorem l6Post_ev (l:List S61) (ht:treeOk l=true):∀(f i:Nat),i<l.length→l.length-i≤f→Ev (fun k=>spec_l6Post.f k l (i:Int)) ((Tree.post l.length (dpA l) f i).map Int.ofNat):=by
  have hv:=treeOk_vd ht
  have h24:=(treeOk_iff.1 ht).1.2
  intro f
  induction f with
  |zero=>intro i hi hf;omega
  | succ f ih=>
    intro i hi hf
    have hh:hasB l (i:Int)=true:=hasB_iff.2 ⟨ht,by omega,by omega⟩
    have he:=Tree.eo_le (D:=dpA l) hi
    have hlen:=Tree.kids_length (n:=l.length) (D:=dpA l) (i:=i)
    have hk:∀c ∈ Tree.kids l.length (dpA l) i,i<c∧c<l.length:=fun c hc=>by
      obtain⟨a,b,_⟩:=Tree.mem_kids.1 hc
      exact⟨a,by omega⟩
    have hb:=congrArg List.length (Tree.kids_post hv hi (Tree.post l.length (dpA l) f) (fun c hc=>Tree.post_rnk hv f c (hk c hc).2 (by have:=(hk c hc).1;omega)))
    rw[List.length_map,List.length_range'] at hb
    have h1:=l6P_loop l i (Tree.post l.length (dpA l) f) (Tree.kids l.length (dpA l) i) (by omega) (by omega) (fun c hc=>ih c (hk c hc).2 (by have:=(hk c hc).1;omega)) _ [] rfl
    refine ev_succ ?_
    simp only[spec_l6Post.f]
    have hko:=spec_KidsOf_ev l (i:Int) (by omega)
    rw[kidsI_nat hh] at hko
    exact ev_bind hko h1
theorem spec_PostOrder_ev (l:List S61) (hm:(l.length:Int)≤9223372036854775806):Ev (fun k=>spec_PostOrder.f k l) (postI l):=by
  simp only[spec_PostOrder.f]
  by_cases ht:treeOk l=true
  · rw[postI_ok ht]
    have h1:=(treeOk_iff.1 ht).1
    exact ev_bind (spec_TreeOk_ev l hm) (ev_pos ht (ev_bind (l6Post_ev l ht l.length 0 (by omega) (by omega)) (Ev.now _)))
  · exact ev_bind (spec_TreeOk_ev l hm) (ev_neg ht (ev_some (by unfold postI;rw[if_neg ht])))
/-- what the order tells of two nodes -/
def litV (l:List S61) (x y:Nat):Int:=if Tree.rnk l.length (dpA l) x<Tree.rnk l.length (dpA l) y then -1 else if x=y then 0 else 1
theorem lit_ev (l:List S61) (ht:treeOk l=true) (x y:Nat) (hx:x<l.length) (hy:y<l.length):Ev (fun k=>impl_PostOrder_lit1.f k (x:Int) (y:Int) l) (litV l x y):=by
  have hv:=treeOk_vd ht
  have h24:=(treeOk_iff.1 ht).1.2
  have ex:=endOf_ev l x hx h24
  have ey:=endOf_ev l y hy h24
  have hw:∀v:Int,litV l x y=v→Ev (fun k=>impl_PostOrder_lit1.f k (x:Int) (y:Int) l) v→Ev (fun k=>impl_PostOrder_lit1.f k (x:Int) (y:Int) l) (litV l x y):=fun v e h=>by rw[e];exact h
  by_cases h1:x<y
  · by_cases h2:y<Tree.eo l.length (dpA l) x
    · have:=Tree.rnk_under hv hx h1 h2
      refine hw 1 (by unfold litV;rw[if_neg (by omega),if_neg (by omega)]) ?_
      simp only[impl_PostOrder_lit1.f]
      refine ev_pos (by omega) (ev_bind ex (ev_pos (by omega) (ev_succ ?_)))
      simp only[impl_PostOrder_lit1.j0]
      exact ev_pos (by simp) (Ev.now _)
    · have:=Tree.rnk_left hv hy (show Tree.eo l.length (dpA l) x≤y by omega)
      have:=Tree.lft_rnk hv hy
      refine hw (-1) (by unfold litV;rw[if_pos (by omega)]) ?_
      simp only[impl_PostOrder_lit1.f]
      refine ev_pos (by omega) (ev_bind ex (ev_neg (by omega) (ev_neg (by omega) (ev_succ ?_))))
      simp only[impl_PostOrder_lit1.j0]
      exact ev_neg (by decide) (ev_neg (by omega) (Ev.now _))
  · by_cases h2:y<x
    · by_cases h3:x<Tree.eo l.length (dpA l) y
      · have:=Tree.rnk_under hv hy h2 h3
        refine hw (-1) (by unfold litV;rw[if_pos (by omega)]) ?_
        simp only[impl_PostOrder_lit1.f]
        refine ev_neg (by omega) (ev_pos (by omega) (ev_bind ey (ev_succ ?_)))
        simp only[impl_PostOrder_lit1.j0]
        exact ev_neg (by simp only[decide_eq_true_eq];omega) (ev_neg (by omega) (Ev.now _))
      · have:=Tree.rnk_left hv hx (show Tree.eo l.length (dpA l) y≤x by omega)
        have:=Tree.lft_rnk hv hx
        refine hw 1 (by unfold litV;rw[if_neg (by omega),if_neg (by omega)]) ?_
        simp only[impl_PostOrder_lit1.f]
        refine ev_neg (by omega) (ev_pos (by omega) (ev_bind ey (ev_succ ?_)))
        simp only[impl_PostOrder_lit1.j0]
        exact ev_pos (by simp only[decide_eq_true_eq];omega) (Ev.now _)
    · have e:x=y:=by omega
      refine hw 0 (by unfold litV;rw[if_neg (by rw[e];exact Nat.lt_irrefl _),if_pos e]) ?_
      simp only[impl_PostOrder_lit1.f]
      refine ev_neg (by omega) (ev_neg (by omega) (ev_succ ?_))
      simp only[impl_PostOrder_lit1.j0]
      exact ev_neg (by decide) (ev_pos (by omega) (Ev.now _))
theorem unif {α:Type} (P:Nat→α→Prop):∀(L:List α),(∀x ∈ L,∃K,∀k,K≤k→P k x)→∃K,∀k,K≤k→∀x ∈ L,P k x
  | [],_=>⟨0,fun _ _ x hx=>by cases hx⟩
  | a::L,h=>by
    obtain⟨K1,h1⟩:=h a List.mem_cons_self
    obtain⟨K2,h2⟩:=unif P L (fun x hx=>h x (List.mem_cons_of_mem _ hx))
    refine⟨max K1 K2,fun k hk x hx=>?_⟩
    rcases List.mem_cons.1 hx with rfl|hx
    · exact h1 k (by omega)
    · exact h2 k (by omega) x hx
theorem lt_range (xs:List Nat) (n:Nat) (hl:xs.length=n) (hp:xs.Pairwise (· < ·)) (hn:∀x ∈ xs,x<n):xs=List.range n:=by
  rw[List.pairwise_iff_getElem] at hp
  have up:∀d i (h:i+d<xs.length),xs[i]'(by omega)+d≤xs[i+d]:=by
    intro d
    induction d with
    |zero=>intro i h;exact Nat.le_refl _
    | succ d ih=>
      intro i h
      have h1:=ih i (by omega)
      have h2:=hp (i+d) (i+d+1) (by omega) (by omega) (by omega)
      have h3:xs[i+(d+1)]=xs[i+d+1]:=rfl
      omega
  apply List.ext_getElem
  · rw[hl,List.length_range]
  · intro k h1 h2
    rw[List.getElem_range]
    have a:=up k 0 (by omega)
    simp only[Nat.zero_add] at a
    have b:=up (n-1-k) k (by omega)
    have c:=hn _ (List.getElem_mem (show k+(n-1-k)<xs.length by omega))
    omega
theorem sort_ev (l:List S61) (ht:treeOk l=true):Ev (fun k=>impl_PostOrder.sort k l ((List.finRange l.length).map (fun i=>(i.val:Int)))) ((pol l).map Int.ofNat):=by
  have hv:=treeOk_vd ht
  have h1:=(treeOk_iff.1 ht).1
  obtain⟨K,hK⟩:=unif (fun k (x:Fin l.length)=>∀y ∈ List.finRange l.length,impl_PostOrder_lit1.f k (x.val:Int) (y.val:Int) l=some (litV l x.val y.val)) (List.finRange l.length) (fun x _=>unif (fun k (y:Fin l.length)=>impl_PostOrder_lit1.f k (x.val:Int) (y.val:Int) l=some (litV l x.val y.val)) (List.finRange l.length) (fun y _=>lit_ev l ht x.val y.val x.isLt y.isLt))
  refine⟨K,fun k hk=>?_⟩
  have hf:∀x y:Fin l.length,impl_PostOrder_lit1.f k (x.val:Int) (y.val:Int) l=some (litV l x.val y.val):=fun x y=>hK k hk x (List.mem_finRange x) y (List.mem_finRange y)
  have hlt:∀x y:Fin l.length,impl_PostOrder.lt k l x y=decide (Tree.rnk l.length (dpA l) x.val<Tree.rnk l.length (dpA l) y.val):=by
    intro x y
    unfold impl_PostOrder.lt impl_PostOrder.cf
    rw[hf x y,Option.getD_some]
    unfold litV
    by_cases c:Tree.rnk l.length (dpA l) x.val<Tree.rnk l.length (dpA l) y.val
    · rw[if_pos c];simp[c]
    · rw[if_neg c]
      by_cases e:x.val=y.val
      · rw[if_pos e];simp[c]
      · rw[if_neg e];simp[c]
  have hg:impl_PostOrder.Good k l:=by
    refine⟨fun x y=>by rw[hf];rfl,fun x=>by rw[hlt];simp,fun x y z a b=>?_,fun x y z a b=>?_,fun x y a b=>?_⟩
    · rw[hlt,decide_eq_true_eq] at a b⊢;omega
    · rw[hlt,decide_eq_false_iff_not] at a b⊢;omega
    · rw[hlt,decide_eq_false_iff_not] at a b
      exact Fin.ext (Tree.rnk_inj hv x.isLt y.isLt (by omega))
  show impl_PostOrder.sort k l _=some _
  unfold impl_PostOrder.sort
  rw[if_pos ⟨⟨rfl,by omega,by omega⟩,hg⟩]
  refine congrArg some ?_
  obtain⟨L,hL⟩:∃L,L=(List.finRange l.length).mergeSort (fun a b=> !impl_PostOrder.lt k l b a):=⟨_,rfl⟩
  rw[←hL]
  have hperm:L.Perm (List.finRange l.length):=by rw[hL];exact List.mergeSort_perm _ _
  have hsort:L.Pairwise (fun a b=>(!impl_PostOrder.lt k l b a)=true):=by
    rw[hL]
    refine List.pairwise_mergeSort (fun a b c x y=>?_) (fun a b=>?_) _
    · simp only[hlt,Bool.not_eq_true',decide_eq_false_iff_not] at x y⊢;omega
    · simp only[hlt,Bool.or_eq_true,Bool.not_eq_true',decide_eq_false_iff_not];omega
  have hnd:L.Pairwise (· ≠ ·):=(hperm.nodup_iff).2 (List.nodup_finRange _)
  have hord:Tree.Order l.length (dpA l) (L.map Fin.val):=⟨by
    refine lt_range _ _ ?_ ?_ ?_
    · rw[List.length_map,List.length_map,hperm.length_eq,List.length_finRange]
    · rw[List.pairwise_map,List.pairwise_map]
      refine(hsort.and hnd).imp (fun {a b} h=>?_)
      have h2:=h.1
      simp only[hlt,Bool.not_eq_true',decide_eq_false_iff_not] at h2
      have h3:Tree.rnk l.length (dpA l) a.val≠Tree.rnk l.length (dpA l) b.val:=fun e=>h.2 (Fin.ext (Tree.rnk_inj hv a.isLt b.isLt e))
      omega
    · intro x hx
      obtain⟨y,hy,rfl⟩:=List.mem_map.1 hx
      obtain⟨z,_,rfl⟩:=List.mem_map.1 hy
      exact Tree.rnk_lt hv z.isLt,fun x hx=>by
    obtain⟨z,_,rfl⟩:=List.mem_map.1 hx
    exact z.isLt⟩
  rw[show L.map (fun i=>(i.val:Int))=(L.map Fin.val).map Int.ofNat by rw[List.map_map];rfl,Tree.Order.one hv hord (pol_order ht)]
theorem impl_PostOrder_ev (l:List S61):Ev (fun k=>impl_PostOrder.f k l) (postI l):=by
  simp only[impl_PostOrder.f]
  refine ev_bindc rfl ?_
  by_cases ht:treeOk l=true
  · rw[postI_ok ht]
    have h1:=(treeOk_iff.1 ht).1
    refine ev_bind (impl_TreeOk_ev l) (ev_pos ht ?_)
    have key:∀d i,i+d=l.length→Ev (fun k=>impl_PostOrder.l0 k l ((List.range i).map Int.ofNat) (l.length:Int) (i:Int)) ((pol l).map Int.ofNat):=by
      intro d
      induction d with
      | zero=>
        intro i h
        refine ev_succ ?_
        simp only[impl_PostOrder.l0]
        refine ev_neg (by omega) ?_
        have e:(List.range i).map Int.ofNat=(List.finRange l.length).map (fun i=>(i.val:Int)):=by
          apply List.ext_getElem
          · simp;omega
          · intro j h1 h2;simp
        rw[e]
        exact sort_ev l ht
      | succ d ih=>
        intro i h
        have h2:=ih (i+1) (by omega)
        refine ev_succ ?_
        simp only[impl_PostOrder.l0]
        have e0:wrap64 ((i:Int)+1)=((i+1:Nat):Int):=by rw[w64 (by omega) (by omega)];omega
        rw[e0]
        clear e0
        rw[List.range_succ,List.map_append] at h2
        exact ev_pos (by omega) (ev_pos (by rw[List.length_map,List.length_range];omega) h2)
    exact key l.length 0 (by omega)
  · exact ev_bind (impl_TreeOk_ev l) (ev_neg ht (ev_some (by unfold postI;rw[if_neg ht])))

/-! #### _ranks -/
/-- each node's place; the first place under each; the labels in turn -/
def rankI (l:List S61):List Int:=if treeOk l=true then (List.range l.length).map (fun j=>(Tree.rnk l.length (dpA l) j:Int)) else []
def leafI (l:List S61):List Int:=if treeOk l=true then (pol l).map (fun j=>(Tree.lft (dpA l) j:Int)) else []
def labI (l:List S61):List Int:=if treeOk l=true then (pol l).map (lbA l) else []
theorem rankI_len {l:List S61} (h:treeOk l=true):(rankI l).length=l.length:=by unfold rankI;rw[if_pos h,List.length_map,List.length_range]
theorem leafI_len {l:List S61} (h:treeOk l=true):(leafI l).length=l.length:=by unfold leafI;rw[if_pos h,List.length_map,pol_len h]
theorem labI_len {l:List S61} (h:treeOk l=true):(labI l).length=l.length:=by unfold labI;rw[if_pos h,List.length_map,pol_len h]
theorem rd_map {α:Type} (p:List α) (f:α→Int) (k:Nat) (d:α) (hk:k<p.length):rd (p.map f) (k:Int)=f (p.getD k d):=by
  show (p.map f).getD (k:Int).toNat _=_
  rw[Int.toNat_natCast,List.getD_eq_getElem?_getD,List.getD_eq_getElem?_getD,List.getElem?_map,List.getElem?_eq_getElem hk]
  rfl
theorem rd_rank {l:List S61} (h:treeOk l=true) {j:Nat} (hj:j<l.length):rd (rankI l) (j:Int)=(Tree.rnk l.length (dpA l) j:Int):=by
  unfold rankI
  rw[if_pos h,rd_map _ _ j 0 (by simpa using hj),List.getD_eq_getElem?_getD,List.getElem?_range hj]
  rfl
theorem rd_post {l:List S61} (h:treeOk l=true) (k:Nat):rd (postI l) (k:Int)=((pol l).getD k 0:Nat):=by rw[postI_ok h,rd_ofNat]
theorem rd_leaf {l:List S61} (h:treeOk l=true) {k:Nat} (hk:k<l.length):rd (leafI l) (k:Int)=(Tree.lft (dpA l) ((pol l).getD k 0):Int):=by
  unfold leafI
  rw[if_pos h,rd_map _ _ k 0 (by rw[pol_len h];exact hk)]
theorem rd_lab {l:List S61} (h:treeOk l=true) {k:Nat} (hk:k<l.length):rd (labI l) (k:Int)=lbA l ((pol l).getD k 0):=by
  unfold labI
  rw[if_pos h,rd_map _ _ k 0 (by rw[pol_len h];exact hk)]
def rkTo (l:List S61) (t:Nat):List Int:=(List.range l.length).map (fun j=>if Tree.rnk l.length (dpA l) j<t then (Tree.rnk l.length (dpA l) j:Int) else 0)
theorem rkTo_len (l:List S61) (t:Nat):(rkTo l t).length=l.length:=by unfold rkTo;rw[List.length_map,List.length_range]
theorem rkTo_zero (l:List S61):List.replicate l.length 0=rkTo l 0:=by
  unfold rkTo
  apply List.ext_getElem
  · simp
  · intro j h1 h2;simp
theorem rkTo_end {l:List S61} (h:treeOk l=true):rkTo l l.length=rankI l:=by
  unfold rkTo rankI
  rw[if_pos h]
  refine List.map_congr_left (fun j hj=>?_)
  rw[if_pos (Tree.rnk_lt (treeOk_vd h) (List.mem_range.1 hj))]
theorem rkTo_step {l:List S61} (h:treeOk l=true) {t:Nat} (ht:t<l.length):(rkTo l t).set ((pol l).getD t 0) (t:Int)=rkTo l (t+1):=by
  obtain⟨h1,h2⟩:=(pol_order h).at_ ht
  unfold rkTo
  apply List.ext_getElem
  · simp
  · intro j g1 g2
    have hj:j<l.length:=by simpa using g2
    rw[List.getElem_set]
    simp only[List.getElem_map,List.getElem_range]
    by_cases e:(pol l).getD t 0=j
    · rw[if_pos e]
      rw[e] at h2
      rw[if_pos (by omega),h2]
    · rw[if_neg e]
      have h3:Tree.rnk l.length (dpA l) j≠t:=fun c=>e (Tree.rnk_inj (treeOk_vd h) h1 hj (by rw[h2,c]))
      by_cases c:Tree.rnk l.length (dpA l) j<t
      · rw[if_pos c,if_pos (by omega)]
      · rw[if_neg c,if_neg (by omega)]
theorem spec_RankOf_ev (l:List S61) (hm:(l.length:Int)≤9223372036854775806):Ev (fun k=>spec_RankOf.f k l) (rankI l):=by
  simp only[spec_RankOf.f]
  refine ev_bind (spec_PostOrder_ev l hm) ?_
  by_cases h:treeOk l=true
  · have hb:=(treeOk_iff.1 h).1
    have hl:=postI_len h
    refine ev_pos (by omega) (ev_pos (by omega) ?_)
    rw[hl,Int.toNat_natCast,rkTo_zero,←rkTo_end h]
    have key:∀d t,t+d=l.length→Ev (fun k=>spec_RankOf.l0 k (postI l) (rkTo l t) (t:Int)) (rkTo l l.length):=by
      intro d
      induction d with
      | zero=>
        intro t ht
        refine ev_succ ?_
        simp only[spec_RankOf.l0]
        exact ev_neg (by omega) (ev_some (by rw[show t=l.length by omega]))
      | succ d ih=>
        intro t ht
        have h2:=ih (t+1) (by omega)
        have h3:=(pol_order h).at_ (show t<l.length by omega)
        refine ev_succ ?_
        simp only[spec_RankOf.l0]
        rw[rd_post h,Int.toNat_natCast,rkTo_step h (by omega),rkTo_len]
        have e0:wrap64 ((t:Int)+1)=((t+1:Nat):Int):=by rw[w64 (by omega) (by omega)];omega
        rw[e0]
        clear e0
        exact ev_pos (by omega) (ev_pos (by omega) (ev_pos (by omega) (ev_pos (by omega) h2)))
    exact key l.length 0 (by omega)
  · have e1:postI l=[]:=if_neg h
    have e2:rankI l=[]:=if_neg h
    rw[e1,e2]
    refine ev_pos (by simp) (ev_pos (by simp) (ev_succ ?_))
    simp only[spec_RankOf.l0]
    exact ev_neg (by simp) (Ev.now _)
theorem impl_RankOf_ev (l:List S61):Ev (fun k=>impl_RankOf.f k l) (rankI l):=by
  simp only[impl_RankOf.f]
  refine ev_bind (impl_PostOrder_ev l) ?_
  by_cases h:treeOk l=true
  · have hb:=(treeOk_iff.1 h).1
    have hl:=postI_len h
    refine ev_pos (by omega) (ev_pos (by omega) ?_)
    rw[hl,Int.toNat_natCast,rkTo_zero,←rkTo_end h]
    have key:∀d t,t+d=l.length→Ev (fun k=>impl_RankOf.l0 k (rkTo l t) (postI l) (l.length:Int) (t:Int)) (rkTo l l.length):=by
      intro d
      induction d with
      | zero=>
        intro t ht
        refine ev_succ ?_
        simp only[impl_RankOf.l0]
        exact ev_neg (by omega) (ev_some (by rw[show t=l.length by omega]))
      | succ d ih=>
        intro t ht
        have h2:=ih (t+1) (by omega)
        have h3:=(pol_order h).at_ (show t<l.length by omega)
        refine ev_succ ?_
        simp only[impl_RankOf.l0]
        rw[rd_post h,Int.toNat_natCast,rkTo_step h (by omega),rkTo_len]
        have e0:wrap64 ((t:Int)+1)=((t+1:Nat):Int):=by rw[w64 (by omega) (by omega)];omega
        rw[e0]
        clear e0
        exact ev_pos (by omega) (ev_pos (by omega) (ev_pos (by omega) (ev_pos (by omega) (ev_pos (by omega) h2))))
    exact key l.length 0 (by omega)
  · have e1:postI l=[]:=if_neg h
    have e2:rankI l=[]:=if_neg h
    rw[e1,e2]
    refine ev_pos (by simp) (ev_pos (by simp) (ev_succ ?_))
    simp only[impl_RankOf.l0]
    exact ev_neg (by simp) (Ev.now _)
theorem take_map_succ {α β:Type} (p:List α) (f:α→β) (t:Nat) (d:α) (ht:t<p.length):(p.take t).map f++[f (p.getD t d)]=(p.take (t+1)).map f:=by
  rw[List.take_add_one,List.map_append,List.getD_eq_getElem?_getD,List.getElem?_eq_getElem ht]
  rfl
theorem impl_LeftLeaf_ev (l:List S61):Ev (fun k=>impl_LeftLeaf.f k l) (leafI l):=by
  simp only[impl_LeftLeaf.f]
  refine ev_bind (impl_RankOf_ev l) (ev_bind (impl_PostOrder_ev l) ?_)
  by_cases h:treeOk l=true
  · have hv:=treeOk_vd h
    have hb:=(treeOk_iff.1 h).1
    have hl:=postI_len h
    have hr:=rankI_len h
    have hp:=pol_len h
    have e:leafI l=((pol l).take l.length).map (fun j=>(Tree.lft (dpA l) j:Int)):=by unfold leafI;rw[if_pos h,←hp,List.take_length]
    rw[hl,e]
    have key:∀d t,t+d=l.length→Ev (fun k=>impl_LeftLeaf.l0 k l (((pol l).take t).map (fun j=>(Tree.lft (dpA l) j:Int))) (rankI l) (postI l) (l.length:Int) (t:Int)) (((pol l).take l.length).map (fun j=>(Tree.lft (dpA l) j:Int))):=by
      intro d
      induction d with
      | zero=>
        intro t ht
        refine ev_succ ?_
        simp only[impl_LeftLeaf.l0]
        exact ev_neg (by omega) (ev_some (by rw[show t=l.length by omega]))
      | succ d ih=>
        intro t ht
        have h2:=ih (t+1) (by omega)
        have h3:=(pol_order h).at_ (show t<l.length by omega)
        rw[←take_map_succ (pol l) (fun j=>(Tree.lft (dpA l) j:Int)) t 0 (by omega)] at h2
        have h4:=endOf_ev l _ h3.1 hb.2
        have g1:=Tree.eo_gt (n:=l.length) (D:=dpA l) (i:=(pol l).getD t 0)
        have g2:=Tree.eo_le (n:=l.length) (D:=dpA l) h3.1
        have g3:=Tree.dep_le hv _ h3.1
        have g4:=h3.2
        refine ev_succ ?_
        simp only[impl_LeftLeaf.l0]
        rw[rd_post h,rd_rank h h3.1]
        have hlen:(((pol l).take t).map (fun j=>(Tree.lft (dpA l) j:Int))).length≤24:=by rw[List.length_map,List.length_take];omega
        refine ev_pos (by omega) (ev_pos (by omega) (ev_pos (by omega) (ev_pos (by omega) (ev_pos (by omega) (ev_bind h4 (ev_pos (by omega) ?_))))))
        have e1:wrap64 ((Tree.rnk l.length (dpA l) ((pol l).getD t 0):Int)-wrap64 (wrap64 ((Tree.eo l.length (dpA l) ((pol l).getD t 0):Int)-((pol l).getD t 0:Nat))-1))=(Tree.lft (dpA l) ((pol l).getD t 0):Int):=by
          unfold Tree.rnk Tree.lft
          rw[w64 (x:=(Tree.eo l.length (dpA l) ((pol l).getD t 0):Int)-((pol l).getD t 0:Nat)) (by omega) (by omega),w64 (x:=(Tree.eo l.length (dpA l) ((pol l).getD t 0):Int)-((pol l).getD t 0:Nat)-1) (by omega) (by omega),w64 (by omega) (by omega)]
          omega
        have e0:wrap64 ((t:Int)+1)=((t+1:Nat):Int):=by rw[w64 (by omega) (by omega)];omega
        rw[e0,e1]
        exact h2
    exact key l.length 0 (by omega)
  · have e1:postI l=[]:=if_neg h
    have e2:leafI l=[]:=if_neg h
    rw[e1,e2]
    refine ev_succ ?_
    simp only[impl_LeftLeaf.l0]
    exact ev_neg (by simp) (Ev.now _)
theorem spec_LeftLeaf_ev (l:List S61) (hm:(l.length:Int)≤9223372036854775806):Ev (fun k=>spec_LeftLeaf.f k l) (leafI l):=by
  simp only[spec_LeftLeaf.f]
  refine ev_bind (spec_PostOrder_ev l hm) (ev_bind (spec_RankOf_ev l hm) ?_)
  by_cases h:treeOk l=true
  · have hv :=treeOk_vd h
    have hb:=(treeOk_iff.1 h).1
    have hl:=postI_len h
    have hr:=rankI_len h
    have hp:=pol_len h
    have e:leafI l=((pol l).take l.length).map (fun j=>(Tree.lft (dpA l) j:Int)):=by unfold leafI;rw[if_pos h,←hp,List.take_length]
    rw[e]
    have key:∀d t,t+d=l.length→Ev (fun k=>spec_LeftLeaf.l0 k l (((pol l).take t).map (fun j=>(Tree.lft (dpA l) j:Int))) (postI l) (rankI l) (t:Int)) (((pol l).take l.length).map (fun j=>(Tree.lft (dpA l) j:Int))):=by
      intro d
      induction d with
      | zero=>
        intro t ht
        refine ev_succ ?_
        simp only[spec_LeftLeaf.l0]
        exact ev_neg (by omega) (ev_some (by rw[show t=l.length by omega]))
      | succ d ih=>
        intro t ht
        have h2:=ih (t+1) (by omega)
        obtain⟨h3,h4⟩:=(pol_order h).at_ (show t<l.length by omega)
        rw[←take_map_succ (pol l) (fun j=>(Tree.lft (dpA l) j:Int)) t 0 (by omega)] at h2
        obtain⟨i,hi⟩:∃i,i=(pol l).getD t 0:=⟨_,rfl⟩
        rw[←hi] at h2 h3 h4
        have hh:hasB l (i:Int)=true:=hasB_iff.2 ⟨h,by omega,by omega⟩
        have h5:=spec_EndOf_ev l (i:Int) hm
        have e5:endI l (i:Int)=(Tree.eo l.length (dpA l) i:Int):=by unfold endI;rw[if_pos hh,Int.toNat_natCast]
        rw[e5] at h5
        have g1:=Tree.eo_gt (n:=l.length) (D:=dpA l) (i:=i)
        have g2:=Tree.eo_le (n:=l.length) (D:=dpA l) h3
        have g3:=Tree.dep_le hv _ h3
        refine ev_succ ?_
        simp only[spec_LeftLeaf.l0]
        have hlen:(((pol l).take t).map (fun j=>(Tree.lft (dpA l) j:Int))).length≤24:=by rw[List.length_map,List.length_take];omega
        refine ev_pos (by omega) (ev_pos (by omega) ?_)
        rw[rd_post h,←hi]
        have down:∀f s,i+s<Tree.eo l.length (dpA l) i→Tree.eo l.length (dpA l) i≤i+s+f→dpA l (i+s)=dpA l i+(s:Int)→Ev (fun k=>spec_LeftLeaf.l1 k l (((pol l).take t).map (fun j=>(Tree.lft (dpA l) j:Int))) (postI l) (rankI l) (t:Int) ((i+s:Nat):Int)) (((pol l).take l.length).map (fun j=>(Tree.lft (dpA l) j:Int))):=by
          intro f
          induction f with
          |zero=>intro s a b;omega
          | succ f ihf=>
            intro s a b c
            refine ev_succ ?_
            simp only[spec_LeftLeaf.l1]
            rw[rd_post h,←hi]
            have e6:wrap64 (((i+s:Nat):Int)+1)=((i+s+1:Nat):Int):=by rw[w64 (by omega) (by omega)];omega
            have e0:wrap64 ((t:Int)+1)=((t+1:Nat):Int):=by rw[w64 (by omega) (by omega)];omega
            rw[e6,e0,rd_f1,rd_f1]
            clear e6 e0
            have dr:=dp_range h (show i+s<l.length by omega)
            have e7:wrap64 (dpA l (i+s)+1)=dpA l (i+s)+1:=w64 (by omega) (by omega)
            rw[e7]
            clear e7
            have stop:¬(i+s+1<Tree.eo l.length (dpA l) i∧dpA l (i+s+1)=dpA l (i+s)+1)→rd (rankI l) ((i+s:Nat):Int)=(Tree.lft (dpA l) i:Int):=fun c2=>by
              rw[rd_rank h (by omega),Tree.leaf_rnk hv h3 a c c2]
            refine ev_pos (by omega) (ev_pos (by omega) (ev_bind h5 ?_))
            by_cases c1:i+s+1<Tree.eo l.length (dpA l) i
            · refine ev_pos (by omega) (ev_pos (by omega) (ev_pos (by omega) (ev_pos (by omega) (ev_pos (by omega) ?_))))
              by_cases c2:dpA l (i+s+1)=dpA l (i+s)+1
              · refine ev_pos c2 ?_
                exact ihf (s+1) (by omega) (by omega) (by rw[←Nat.add_assoc,c2,c];omega)
              · rw[stop (fun x=>c2 x.2)]
                exact ev_neg c2 (ev_pos (by omega) (ev_pos (by omega) h2))
            · rw[stop (fun x=>c1 x.1)]
              exact ev_neg (by omega) (ev_pos (by omega) (ev_pos (by omega) (ev_pos (by omega) h2)))
        exact down (Tree.eo l.length (dpA l) i) 0 (by omega) (by omega) (by simp)
    exact key l.length 0 (by omega)
  · have e1:postI l=[]:=if_neg h
    have e2:leafI l=[]:=if_neg h
    rw[e1,e2]
    refine ev_succ ?_
    simp only[spec_LeftLeaf.l0]
    exact ev_neg (by simp) (Ev.now _)
theorem spec_l8Labels_ev (l:List S61) (hm:(l.length:Int)≤9223372036854775806):Ev (fun k=>spec_l8Labels.f k l) (labI l):=by
  simp only[spec_l8Labels.f]
  refine ev_bind (spec_PostOrder_ev l hm) ?_
  by_cases h:treeOk l=true
  · have hb:=(treeOk_iff.1 h).1
    have hl:=postI_len h
    have hp:=pol_len h
    have e:labI l=((pol l).take l.length).map (lbA l):=by unfold labI;rw[if_pos h,←hp,List.take_length]
    rw[e]
    have key:∀d t,t+d=l.length→Ev (fun k=>spec_l8Labels.l0 k l (((pol l).take t).map (lbA l)) (postI l) (t:Int)) (((pol l).take l.length).map (lbA l)):=by
      intro d
      induction d with
      | zero=>
        intro t ht
        refine ev_succ ?_
        simp only[spec_l8Labels.l0]
        exact ev_neg (by omega) (ev_some (by rw[show t=l.length by omega]))
      | succ d ih=>
        intro t ht
        have h2:=ih (t+1) (by omega)
        obtain⟨h3,h4⟩:=(pol_order h).at_ (show t<l.length by omega)
        rw[←take_map_succ (pol l) (lbA l) t 0 (by omega)] at h2
        have hlen:(((pol l).take t).map (lbA l)).length≤24:=by rw[List.length_map,List.length_take];omega
        refine ev_succ ?_
        simp only[spec_l8Labels.l0]
        rw[rd_post h,rd_f0]
        have e0:wrap64 ((t:Int)+1)=((t+1:Nat):Int):=by rw[w64 (by omega) (by omega)];omega
        rw[e0]
        clear e0
        exact ev_pos (by omega) (ev_pos (by omega) (ev_pos (by omega) (ev_pos (by omega) (ev_pos (by omega) h2))))
    exact key l.length 0 (by omega)
  · have e1:postI l=[]:=if_neg h
    have e2:labI l=[]:=if_neg h
    rw[e1,e2]
    refine ev_succ ?_
    simp only[spec_l8Labels.l0]
    exact ev_neg (by simp) (Ev.now _)

/-! #### _costB -/
/-- costs are in range, and keeping a label is free -/
def costB (D I R:List Int):Bool:=(decide (D.length=6)&&D.all inPrice)&&(decide (I.length=6)&&I.all inPrice)&&(decide (R.length=36)&&R.all inPrice)&&decide (∀a:Nat,a<6→rd R ((a*6+a:Nat):Int)=0)
theorem costB_iff {D I R:List Int} :costB D I R=true↔(D.length=6∧D.all inPrice=true)∧(I.length=6∧I.all inPrice=true)∧(R.length=36∧R.all inPrice=true)∧∀a:Nat,a<6→rd R ((a*6+a:Nat):Int)=0:=by
  simp only[costB,Bool.and_eq_true,decide_eq_true_eq]
  constructor
  · rintro⟨⟨⟨a,b⟩,c⟩,d⟩;exact⟨a,b,c,d⟩
  · rintro⟨a,b,c,d⟩;exact⟨⟨⟨a,b⟩,c⟩,d⟩
theorem price_at {p:List Int} (h:p.all inPrice=true) (j:Int):0≤rd p j∧rd p j≤1000:=by
  have h0:∀x,x ∈ p→0≤x∧x≤1000:=fun x hx=>by
    have:=List.all_eq_true.1 h x hx
    simpa [inPrice] using this
  show 0≤p.getD j.toNat 0∧p.getD j.toNat 0≤1000
  rw[List.getD_eq_getElem?_getD]
  cases e:p[j.toNat]? with
  |none=>simp
  |some x=>exact h0 x (List.mem_of_getElem? e)
theorem l7In_l0 (p:List Int) (hp:(p.length:Int)≤9223372036854775806) (n:Int):∀(d i:Nat),i+d=p.length→Ev (fun k=>spec_l7In.l0 k p n (i:Int)) (decide ((p.length:Int)=n)&&(p.drop i).all inPrice):=by
  intro d
  induction d with
  | zero=>
    intro i h
    refine ev_succ ?_
    simp only[spec_l7In.l0]
    refine ev_neg (by omega) (ev_some ?_)
    rw[List.drop_eq_nil_of_le (by omega)]
    simp only[List.all_nil,Bool.and_true]
    rfl
  | succ d ih=>
    intro i h
    have hi:i<p.length:=by omega
    have e:rd p (i:Int)=p[i]:=by simp[rd,hi]
    have h2:=ih (i+1) (by omega)
    refine ev_succ ?_
    simp only[spec_l7In.l0]
    have e0:wrap64 ((i:Int)+1)=((i+1:Nat):Int):=by rw[w64 (by omega) (by omega)];omega
    rw[e0,e,all_drop p inPrice i hi]
    clear e0
    refine ev_pos (by omega) (ev_pos (by omega) (ev_bindc (l1In_eq _ _ _) ?_))
    by_cases c:inPrice p[i]=true
    · rw[c,Bool.true_and]
      exact ev_pos c h2
    · have c':inPrice p[i]=false:=by simpa using c
      rw[c',Bool.false_and,Bool.and_false]
      exact ev_neg c (Ev.now _)
theorem l7In_ev (p:List Int) (hp:(p.length:Int)≤9223372036854775806) (n:Int):Ev (fun k=>spec_l7In.f k p n) (decide ((p.length:Int)=n)&&p.all inPrice):=l7In_l0 p hp n p.length 0 (by omega)
def diagFrom (R:List Int) (i:Nat):Bool:=decide (∀a:Nat,a<6→i≤a→rd R ((a*6+a:Nat):Int)=0)
theorem diag_step (R:List Int) (i:Nat) (h:i<6):diagFrom R i=(decide (rd R ((i*6+i:Nat):Int)=0)&&diagFrom R (i+1)):=by
  rw[Bool.eq_iff_iff,Bool.and_eq_true]
  simp only[diagFrom,decide_eq_true_eq]
  constructor
  · exact fun g=>⟨g i h (Nat.le_refl _),fun a h1 h2=>g a h1 (by omega)⟩
  · rintro⟨g1,g2⟩ a h1 h2
    by_cases e:a=i
    · rw[e];exact g1
    · exact g2 a h1 (by omega)
theorem diag_end (R:List Int):diagFrom R 6=true:=by
  simp only[diagFrom,decide_eq_true_eq]
  intro a h1 h2
  omega
theorem spec_CostOk_l0 (D I R:List Int) (hR:R.length=36):∀(d i:Nat),i+d=6→Ev (fun k=>spec_CostOk.l0 k (i:Int) D I R) (diagFrom R i):=by
  intro d
  induction d with
  | zero=>
    intro i h
    refine ev_succ ?_
    simp only[spec_CostOk.l0]
    exact ev_neg (by omega) (ev_some (by rw[show i=6 by omega,diag_end]))
  | succ d ih=>
    intro i h
    have h2:=ih (i+1) (by omega)
    refine ev_succ ?_
    simp only[spec_CostOk.l0]
    rw[w64 (x:=(i:Int)*6) (by omega) (by omega),w64 (x:=(i:Int)*6+(i:Int)) (by omega) (by omega),w64 (x:=(i:Int)+1) (by omega) (by omega),show (i:Int)*6+(i:Int)=((i*6+i:Nat):Int) by omega,diag_step R i (by omega)]
    refine ev_pos (by omega) (ev_pos (by omega) (ev_pos (by omega) ?_))
    by_cases c:rd R ((i*6+i:Nat):Int)=0
    · rw[decide_eq_true c,Bool.true_and]
      exact ev_pos c h2
    · rw[decide_eq_false c,Bool.false_and]
      exact ev_neg c (Ev.now _)
theorem spec_CostOk_ev (D I R:List Int) (hD:(D.length:Int)≤1099511627776) (hI:(I.length:Int)≤1099511627776) (hR:(R.length:Int)≤1099511627776):Ev (fun k=>spec_CostOk.f k D I R) (costB D I R):=by
  simp only[spec_CostOk.f]
  have a:=l7In_ev D (by omega) 6
  have b:=l7In_ev I (by omega) 6
  have c:=l7In_ev R (by omega) 36
  have stop:∀r:Bool,r=false→Ev (fun k=>spec_CostOk.j0 k true D I R) r:=fun r e=>by
    refine ev_succ ?_
    simp only[spec_CostOk.j0]
    exact ev_pos (by simp) (ev_some e.symm)
  refine ev_bind a ?_
  by_cases h1:(decide ((D.length:Int)=6)&&D.all inPrice)=true
  · refine ev_pos h1 (ev_bind b ?_)
    by_cases h2:(decide ((I.length:Int)=6)&&I.all inPrice)=true
    · refine ev_pos h2 (ev_bind c ?_)
      by_cases h3:(decide ((R.length:Int)=36)&&R.all inPrice)=true
      · rw[h3]
        refine ev_succ ?_
        simp only[spec_CostOk.j0]
        simp only[Bool.and_eq_true,decide_eq_true_eq] at h1 h2 h3
        refine ev_neg (by simp) ?_
        have e:costB D I R=diagFrom R 0:=by
          unfold costB diagFrom
          rw[h1.2,h2.2,h3.2,decide_eq_true (show D.length=6 by omega),decide_eq_true (show I.length=6 by omega),decide_eq_true (show R.length=36 by omega)]
          simp
        rw[e]
        exact spec_CostOk_l0 D I R (by omega) 6 0 (by omega)
      · have h3':(decide ((R.length:Int)=36)&&R.all inPrice)=false:=by simpa using h3
        rw[h3']
        refine stop _ ?_
        rw[Bool.eq_false_iff]
        intro h
        have:=(costB_iff.1 h).2.2.1
        exact h3 (by simp only[Bool.and_eq_true,decide_eq_true_eq];exact⟨by omega,this.2⟩)
    · refine ev_neg h2 (stop _ ?_)
      rw[Bool.eq_false_iff]
      intro h
      have:=(costB_iff.1 h).2.1
      exact h2 (by simp only[Bool.and_eq_true,decide_eq_true_eq];exact⟨by omega,this.2⟩)
  · refine ev_neg h1 (stop _ ?_)
    rw[Bool.eq_false_iff]
    intro h
    have:=(costB_iff.1 h).1
    exact h1 (by simp only[Bool.and_eq_true,decide_eq_true_eq];exact⟨by omega,this.2⟩)
theorem impl_CostOk_l0 (D I R:List Int) (hR:R.length=36):∀(d i:Nat),i+d=6→Ev (fun k=>impl_CostOk.l0 k (i:Int) D I R) (diagFrom R i):=by
  intro d
  induction d with
  | zero=>
    intro i h
    refine ev_succ ?_
    simp only[impl_CostOk.l0]
    exact ev_neg (by omega) (ev_some (by rw[show i=6 by omega,diag_end]))
  | succ d ih=>
    intro i h
    have h2:=ih (i+1) (by omega)
    refine ev_succ ?_
    simp only[impl_CostOk.l0]
    rw[w64 (x:=(i:Int)*6) (by omega) (by omega),w64 (x:=(i:Int)*6+(i:Int)) (by omega) (by omega),w64 (x:=(i:Int)+1) (by omega) (by omega),show (i:Int)*6+(i:Int)=((i*6+i:Nat):Int) by omega,diag_step R i (by omega)]
    refine ev_pos (by omega) (ev_pos (by omega) (ev_pos (by omega) ?_))
    by_cases c:rd R ((i*6+i:Nat):Int)=0
    · rw[decide_eq_true c,Bool.true_and]
      exact ev_pos c h2
    · rw[decide_eq_false c,Bool.false_and]
      exact ev_neg c (Ev.now _)
theorem impl_CostOk_ev (D I R:List Int) (hD:(D.length:Int)≤1099511627776) (hI:(I.length:Int)≤1099511627776) (hR:(R.length:Int)≤1099511627776):Ev (fun k=>impl_CostOk.f k D I R) (costB D I R):=by
  simp only[impl_CostOk.f]
  have a:=pricesOk_ev D hD 6
  have b:=pricesOk_ev I hI 6
  have c:=pricesOk_ev R hR 36
  have stop:∀r:Bool,r=false→Ev (fun k=>impl_CostOk.j0 k true D I R) r:=fun r e=>by
    refine ev_succ ?_
    simp only[impl_CostOk.j0]
    exact ev_pos (by simp) (ev_some e.symm)
  refine ev_bind a ?_
  by_cases h1:(decide ((D.length:Int)=6)&&D.all inPrice)=true
  · refine ev_pos h1 (ev_bind b ?_)
    by_cases h2:(decide ((I.length:Int)=6)&&I.all inPrice)=true
    · refine ev_pos h2 (ev_bind c ?_)
      by_cases h3:(decide ((R.length:Int)=36)&&R.all inPrice)=true
      · rw[h3]
        refine ev_succ ?_
        simp only[impl_CostOk.j0]
        simp only[Bool.and_eq_true,decide_eq_true_eq] at h1 h2 h3
        refine ev_neg (by simp) ?_
        have e:costB D I R=diagFrom R 0:=by
          unfold costB diagFrom
          rw[h1.2,h2.2,h3.2,decide_eq_true (show D.length=6 by omega),decide_eq_true (show I.length=6 by omega),decide_eq_true (show R.length=36 by omega)]
          simp
        rw[e]
        exact impl_CostOk_l0 D I R (by omega) 6 0 (by omega)
      · have h3':(decide ((R.length:Int)=36)&&R.all inPrice)=false:=by simpa using h3
        rw[h3']
        refine stop _ ?_
        rw[Bool.eq_false_iff]
        intro h
        have:=(costB_iff.1 h).2.2.1
        exact h3 (by simp only[Bool.and_eq_true,decide_eq_true_eq];exact⟨by omega,this.2⟩)
    · refine ev_neg h2 (stop _ ?_)
      rw[Bool.eq_false_iff]
      intro h
      have:=(costB_iff.1 h).2.1
      exact h2 (by simp only[Bool.and_eq_true,decide_eq_true_eq];exact⟨by omega,this.2⟩)
  · refine ev_neg h1 (stop _ ?_)
    rw[Bool.eq_false_iff]
    intro h
    have:=(costB_iff.1 h).1
    exact h1 (by simp only[Bool.and_eq_true,decide_eq_true_eq];exact⟨by omega,this.2⟩)

end Go.Proofs.Ytbmkobanpakohaa.QFnNear
