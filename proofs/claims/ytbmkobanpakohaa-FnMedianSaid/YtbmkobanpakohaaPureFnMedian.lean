/- The law FnMedian, as a pure statement: from the one in the middle it costs no more to all together than from any; for every code; no condition. -/
import Derived.Test.YtbmkobanpakohaaQFnMediand
namespace Go.Proofs.Ytbmkobanpakohaa.Pure
open Go.RowKit Go.Proofs.Ytbmkobanpakohaa.PFnMedian Go.Proofs.YtbmkobanpakohaaW.PrintWords Go.Proofs.YtbmkobanpakohaaW.PrintLast Go.Proofs.YtbmkobanpakohaaW.PrintMore Go.Proofs.Ytbmkobanpakohaa.EvAid Go.Proofs.Ytbmkobanpakohaa Go.Proofs.Ytbmkobanpakohaa.QFnMedian
set_option linter.unusedVariables false
set_option linter.unusedSimpArgs false

theorem med_inner (t:List (List S61)) (D I R:List Int) (ht:t.length≤8) (hx:∀x ∈ t,x.length≤50000) (hD:D.length≤40) (hI:I.length≤40) (hR:R.length≤40) (a i:Nat) (ha:a<t.length) (hi:i<t.length)
    (hn:Ev (fun k=>laws_FnMedian.l0 k t (a:Int) (wrap64 ((i:Int)+1)) D I R) true):∀(d j:Nat) (x y X Y:Int),j+d=t.length→0≤x→x≤49000*(j:Int)→0≤y→y≤49000*(j:Int)→
    medS (fun y=>rootD (t.getD a []) y D I R) (t.drop j) x=some X→medS (fun y=>rootD (t.getD i []) y D I R) (t.drop j) y=some Y→X≤Y→Ev (fun k=>laws_FnMedian.l1 k t (a:Int) (i:Int) x y (j:Int) D I R) true:=by
  intro d
  induction d with
  | zero=>
    intro j x y X Y h x0 x1 y0 y1 hX hY hle
    rw[List.drop_eq_nil_of_le (by omega),medS] at hX hY
    have:=Option.some.inj hX
    have:=Option.some.inj hY
    refine ev_succ ?_
    simp only[laws_FnMedian.l1]
    exact ev_neg (by omega) (ev_neg (by omega) hn)
  | succ d ih=>
    intro j x y X Y h x0 x1 y0 y1 hX hY hle
    have hj:j<t.length:=by omega
    have eg:t.getD j []=t[j]:=by simp[hj]
    have ea:t.getD a []=t[a]:=by simp[ha]
    have ei:t.getD i []=t[i]:=by simp[hi]
    have lj:=hx _ (List.getElem_mem hj)
    have la:=hx _ (List.getElem_mem ha)
    have li:=hx _ (List.getElem_mem hi)
    rw[List.drop_eq_getElem_cons hj,←eg,medS] at hX hY
    have r1:=impl_RootDist_ev (t.getD a []) (t.getD j []) D I R (by rw[ea];omega) (by rw[eg];omega) (by omega) (by omega) (by omega)
    have r2:=impl_RootDist_ev (t.getD i []) (t.getD j []) D I R (by rw[ei];omega) (by rw[eg];omega) (by omega) (by omega) (by omega)
    have b1:=rootD_range (l:=t.getD a []) (m:=t.getD j []) (D:=D) (I:=I) (R:=R)
    have b2:=rootD_range (l:=t.getD i []) (m:=t.getD j []) (D:=D) (I:=I) (R:=R)
    by_cases c1:rootD (t.getD a []) (t.getD j []) D I R<0
    · rw[if_pos c1] at hX;cases hX
    by_cases c2:rootD (t.getD i []) (t.getD j []) D I R<0
    · rw[if_pos c2] at hY;cases hY
    rw[if_neg c1] at hX
    rw[if_neg c2] at hY
    have g:=ih (j+1) _ _ X Y (by omega) (by omega) (by omega) (by omega) (by omega) hX hY hle
    refine ev_succ ?_
    simp only[laws_FnMedian.l1]
    refine ev_pos (by omega) (ev_pos (by omega) (ev_pos (by omega) (ev_pos (by omega) (ev_bind r1 (ev_pos (by omega) (ev_pos (by omega) (ev_bind r2 ?_)))))))
    have e0:wrap64 ((j:Int)+1)=((j+1:Nat):Int):=by rw[w64 (by omega) (by omega)];omega
    rw[e0]
    clear e0 hX hY
    rw[w64 (x:=x+rootD (t.getD a []) (t.getD j []) D I R) (by omega) (by omega),w64 (x:=y+rootD (t.getD i []) (t.getD j []) D I R) (by omega) (by omega)]
    exact g
theorem med_law (t:List (List S61)) (D I R:List Int) (ht:t.length≤8) (hx:∀x ∈ t,x.length≤50000) (hD:D.length≤40) (hI:I.length≤40) (hR:R.length≤40) (K:Int) (hK:medF (fun x y=>rootD x y D I R) t t 0 (-1) 0=K):
    Ev (fun k=>laws_FnMedian.j0 k t K (decide (K≥(t.length:Int))) D I R) true:=by
  have h:=medF_law (fun x y=>rootD x y D I R) t t 0 (-1) 0 rfl (by omega) (Or.inl ⟨rfl,rfl⟩)
  rw[show ((0:Nat):Int)=0 from rfl,hK] at h
  rcases h with rfl| ⟨b,s,rfl,b0,b1,hb,hall⟩
  · refine ev_succ ?_
    simp only[laws_FnMedian.j0]
    refine ev_neg (by simp;omega) (ev_succ ?_)
    simp only[laws_FnMedian.l0]
    have hj:∀c:Bool,c=false→Ev (fun k=>laws_FnMedian.j2 k t (-1) 0 c D I R) true:=fun c e=>by
      refine ev_succ ?_
      simp only[laws_FnMedian.j2]
      exact ev_neg (by rw[e];simp) (Ev.now _)
    by_cases c:0<(t.length:Int)
    · exact ev_pos c (hj _ (by simp))
    · exact ev_neg c (hj _ rfl)
  · obtain⟨a,rfl⟩:∃a:Nat,K=(a:Int):=⟨K.toNat,by omega⟩
    rw[Int.toNat_natCast] at hb
    have key:∀d i,i+d=t.length→Ev (fun k=>laws_FnMedian.l0 k t (a:Int) (i:Int) D I R) true:=by
      intro d
      induction d with
      | zero=>
        intro i h
        refine ev_succ ?_
        simp only[laws_FnMedian.l0]
        refine ev_neg (by omega) (ev_succ ?_)
        simp only[laws_FnMedian.j2]
        exact ev_neg (by simp) (Ev.now _)
      | succ d ih=>
        intro i h
        have hn:=ih (i+1) (by omega)
        have e0:wrap64 ((i:Int)+1)=((i+1:Nat):Int):=by rw[w64 (by omega) (by omega)];omega
        rw[←e0] at hn
        obtain⟨n,hn2,hle⟩:=hall i (by omega)
        have g:=med_inner t D I R ht hx hD hI hR a i (by omega) (by omega) hn t.length 0 0 0 s n (by omega) (by omega) (by omega) (by omega) (by omega) (by rw[List.drop_zero];exact hb) (by rw[List.drop_zero];exact hn2) hle
        refine ev_succ ?_
        simp only[laws_FnMedian.l0]
        refine ev_pos (by omega) (ev_succ ?_)
        simp only[laws_FnMedian.j2]
        exact ev_pos (by simp) g
    refine ev_succ ?_
    simp only[laws_FnMedian.j0]
    exact ev_neg (by simp;omega) (key t.length 0 (by omega))
theorem FnMedian:laws_FnMedian.Pure:=by
  intro l hl hl2 hlg
  refine Ev.rounds ?_
  simp only[laws_FnMedian.f]
  refine ev_bindc (big_eq l) ?_
  by_cases hbig:(decide ((l.length:Int)>1048576))=true
  · exact ev_pos hbig (Ev.now _)
  · refine ev_neg hbig ?_
    have hlen:(l.length:Int)≤1048576:=by simpa using hbig
    obtain⟨h0,g0⟩:=l1New_ev l (by omega)
    have hc:Cur l 0:=⟨⟨by omega,by omega⟩,by omega⟩
    obtain⟨t,i1,h1,g1,⟨ht,hx⟩,hc1⟩:=l20Trees_ok l 0 h0 hc
    obtain⟨D,I,R,i2,h2,g2,⟨hD,hI,hR⟩,hc2⟩:=l7Any_ok l i1 h1 hc1
    have gd:Ev (fun k=>spec_DrawMedian.f k l) (t,D,I,R):=by
      simp only[spec_DrawMedian.f]
      exact ev_bind g0 (ev_bind g1 (ev_bind g2 (Ev.now _)))
    have hx':∀x ∈ t,x.length≤1048576:=fun x h=>by have:=hx x h;omega
    have hi:=impl_Median_ev t D I R (by omega) hx' (by omega) (by omega) (by omega)
    have hs:=spec_Median_ev t D I R (by omega) hx' (by omega) (by omega) (by omega)
    refine ev_bind gd (ev_bind hi (ev_bind hs (ev_pos rfl ?_)))
    exact med_law t D I R ht hx hD hI hR _ rfl

end Go.Proofs.Ytbmkobanpakohaa.Pure
