/- The law FnNear, as a pure statement: how alike two trees are is told in 1 to 100, the same from both sides, 100 for the same tree; the nearest is the first from which it costs least; for every code; no condition. -/
import Derived.Test.YtbmkobanpakohaaQFnNeard
namespace Go.Proofs.Ytbmkobanpakohaa.Pure
open Go.RowKit Go.Proofs.Ytbmkobanpakohaa.PFnNear Go.Proofs.YtbmkobanpakohaaW.PrintWords Go.Proofs.YtbmkobanpakohaaW.PrintLast Go.Proofs.YtbmkobanpakohaaW.PrintMore Go.Proofs.Ytbmkobanpakohaa.EvAid Go.Proofs.Ytbmkobanpakohaa Go.Proofs.Ytbmkobanpakohaa.QFnNear
set_option linter.unusedVariables false
set_option linter.unusedSimpArgs false

theorem near_draw (s:List Int) (hl:(s.length:Int)≤1048576):∃a b,Ev (fun k=>spec_DrawSimilarity.f k s) (a,b)∧a.length≤50000∧b.length≤50000:=by
  obtain⟨h0,g0⟩:=l1New_ev s (by omega)
  have hc:Cur s 0:=⟨⟨by omega,by omega⟩,by omega⟩
  obtain⟨a,i1,h1,g1,ha,hc1⟩:=l3Any_ok s 0 h0 9 (by omega) hc
  obtain⟨t,i2,h2,b2,hc2⟩:=l1Once_ok s i1 h1 2 hc1
  obtain⟨r,i3,h3,g3,hr,hc3⟩:=l3Near_ok s i2 h2 a (by omega) hc2
  obtain⟨q,i4,h4,g4,hq,hc4⟩:=l3Tree_ok s i2 h2 9 (by omega) hc2
  have hq2:=hq.2.1
  have hj:∀x,∃b,Ev (fun k=>spec_DrawSimilarity.j0 k a x s i2 h2) (a,b)∧b.length≤50000:=by
    intro x
    by_cases c:x=true
    · refine⟨r,ev_succ ?_,by omega⟩
      simp only[spec_DrawSimilarity.j0]
      exact ev_pos c (ev_bind g3 (Ev.now _))
    · refine⟨q,ev_succ ?_,by omega⟩
      simp only[spec_DrawSimilarity.j0]
      exact ev_neg c (ev_bind g4 (Ev.now _))
  simp only[spec_DrawSimilarity.f]
  by_cases c:t=true
  · obtain⟨b,gb,hb⟩:=hj (treeOk a)
    exact⟨a,b,ev_bind g0 (ev_bind g1 (ev_bindc b2 (ev_pos c (ev_bind (spec_TreeOk_ev a (by omega)) gb)))),by omega,hb⟩
  · obtain⟨b,gb,hb⟩:=hj false
    exact⟨a,b,ev_bind g0 (ev_bind g1 (ev_bindc b2 (ev_neg c gb))),by omega,hb⟩
theorem near_law (t:List (List S61)) (q:List S61) (D I R:List Int) (ht:t.length≤8) (hx:∀x ∈ t,x.length≤50000) (hq:q.length≤1000) (hD:D.length≤40) (hI:I.length≤40) (hR:R.length≤40) (K:Int) (hK:nearF (fun x=>rootD x q D I R) t 0 (-1) 0=K):
    Ev (fun k=>laws_FnNear.l0 k t q K 0 D I R) true:=by
  have h:=nearF_law (fun x=>rootD x q D I R) t t 0 (-1) 0 rfl (by omega) (Or.inl ⟨rfl,fun j hj=>absurd hj (by omega)⟩)
  rw[show ((0:Nat):Int)=0 from rfl,hK] at h
  have hj:∀(i:Int) (c:Bool),c=false→Ev (fun k=>laws_FnNear.j3 k t q K i c D I R) true:=fun i c e=>by
    refine ev_succ ?_
    simp only[laws_FnNear.j3]
    exact ev_neg (by rw[e];simp) (Ev.now _)
  rcases h with rfl| ⟨b,s,rfl,b0,b1,hb,hall⟩
  · refine ev_succ ?_
    simp only[laws_FnNear.l0]
    by_cases c:0<(t.length:Int)
    · exact ev_pos c (hj _ _ (by simp))
    · exact ev_neg c (hj _ _ rfl)
  · obtain⟨a,rfl⟩:∃a:Nat,K=(a:Int):=⟨K.toNat,by omega⟩
    rw[Int.toNat_natCast] at hb
    have ha:a<t.length:=by omega
    have ea:t.getD a []=t[a]:=by simp[ha]
    have la:=hx _ (List.getElem_mem ha)
    have ra:=impl_RootDist_ev (t.getD a []) q D I R (by rw[ea];omega) (by omega) (by omega) (by omega) (by omega)
    have key:∀d i,i+d=t.length→Ev (fun k=>laws_FnNear.l0 k t q (a:Int) (i:Int) D I R) true:=by
      intro d
      induction d with
      | zero=>
        intro i h
        refine ev_succ ?_
        simp only[laws_FnNear.l0]
        exact ev_neg (by omega) (hj _ _ rfl)
      | succ d ih=>
        intro i h
        have hn:=ih (i+1) (by omega)
        have hi:i<t.length:=by omega
        have ei:t.getD i []=t[i]:=by simp[hi]
        have li:=hx _ (List.getElem_mem hi)
        have ri:=impl_RootDist_ev (t.getD i []) q D I R (by rw[ei];omega) (by omega) (by omega) (by omega) (by omega)
        have g:=hall i hi
        refine ev_succ ?_
        simp only[laws_FnNear.l0]
        have e0:wrap64 ((i:Int)+1)=((i+1:Nat):Int):=by rw[w64 (by omega) (by omega)];omega
        refine ev_pos (by omega) (ev_succ ?_)
        simp only[laws_FnNear.j3]
        rw[e0]
        clear e0
        refine ev_pos (by simp) (ev_pos (by omega) (ev_pos (by omega) (ev_bind ri ?_)))
        by_cases c0:rootD (t.getD i []) q D I R≥0
        · obtain⟨g1,g2⟩:=g c0
          refine ev_pos c0 (ev_pos (by omega) (ev_pos (by omega) (ev_bind ra (ev_neg (by omega) ?_))))
          by_cases c1:(i:Int)<(a:Int)
          · have:=g2 c1
            exact ev_pos c1 (ev_bind ra (ev_neg (by omega) hn))
          · exact ev_neg c1 hn
        · exact ev_neg c0 hn
    exact key t.length 0 (by omega)
theorem FnNear:laws_FnNear.Pure:=by
  intro l hl hl2 hlg
  refine Ev.rounds ?_
  simp only[laws_FnNear.f]
  refine ev_bindc (big_eq l) ?_
  by_cases hbig:(decide ((l.length:Int)>1048576))=true
  · exact ev_pos hbig (Ev.now _)
  · refine ev_neg hbig ?_
    have hlen:(l.length:Int)≤1048576:=by simpa using hbig
    obtain⟨a,b,gd,ha,hb⟩:=near_draw l hlen
    have hj1:Ev (fun k=>laws_FnNear.j1 k l) true:=by
      obtain⟨h0,g0⟩:=l1New_ev l (by omega)
      have hc:Cur l 0:=⟨⟨by omega,by omega⟩,by omega⟩
      obtain⟨t,i1,h1,g1,⟨ht,hx⟩,hc1⟩:=l20Trees_ok l 0 h0 hc
      obtain⟨q,i2,h2,g2,hq,hc2⟩:=l3Any_ok l i1 h1 6 (by omega) hc1
      obtain⟨D,I,R,i3,h3,g3,⟨hD,hI,hR⟩,hc3⟩:=l7Any_ok l i2 h2 hc2
      have gn:Ev (fun k=>spec_DrawNearest.f k l) (t,q,D,I,R):=by
        simp only[spec_DrawNearest.f]
        exact ev_bind g0 (ev_bind g1 (ev_bind g2 (ev_bind g3 (Ev.now _))))
      have hx':∀x ∈ t,x.length≤1048576:=fun x h=>by have:=hx x h;omega
      have hi:=impl_Nearest_ev t q D I R (by omega) hx' (by omega) (by omega) (by omega) (by omega)
      have hs:=spec_Nearest_ev t q D I R (by omega) hx' (by omega) (by omega) (by omega) (by omega)
      refine ev_succ ?_
      simp only[laws_FnNear.j1]
      exact ev_bind gn (ev_bind hi (ev_bind hs (ev_pos rfl (near_law t q D I R ht hx hq hD hI hR _ rfl))))
    have s1:=impl_Similarity_ev a b (by omega) (by omega)
    have s2:=impl_Similarity_ev b a (by omega) (by omega)
    have t1:=spec_TreeOk_ev a (by omega)
    have t2:=spec_TreeOk_ev b (by omega)
    have j0no:¬(treeOk a=true∧treeOk b=true)→∀x,x=false→Ev (fun k=>laws_FnNear.j0 k l a b (similD a b) x) true:=fun h x e=>by
      refine ev_succ ?_
      simp only[laws_FnNear.j0]
      exact ev_neg (by rw[e];simp) (ev_pos (simil_no h) hj1)
    refine ev_bind gd (ev_bind s1 (ev_bind t1 ?_))
    by_cases c1:treeOk a=true
    · refine ev_pos c1 (ev_bind t2 ?_)
      by_cases c2:treeOk b=true
      · obtain⟨f1,f2,f3,f4⟩:=simil_tree c1 c2
        have g:=spec_SameTree_ev a b (by omega)
        refine ev_succ ?_
        simp only[laws_FnNear.j0]
        refine ev_pos c2 (ev_neg (by omega) (ev_neg (by omega) (ev_bind g ?_)))
        by_cases c3:sameT a b=true
        · exact ev_pos c3 (ev_pos (f4 (sameT_iff.1 c3)) (ev_bind s2 (ev_pos f3.symm hj1)))
        · exact ev_neg c3 (ev_bind s2 (ev_pos f3.symm hj1))
      · exact j0no (fun h=>c2 h.2) _ (Bool.eq_false_iff.2 c2)
    · exact ev_neg c1 (j0no (fun h=>c1 h.1) _ rfl)

end Go.Proofs.Ytbmkobanpakohaa.Pure
