/- What the printed functions of the law FnMedian come to, function by function, from some number of rounds on; each under the bounds that it names. -/
import Derived.Test.YtbmkobanpakohaaQFnMedianc
namespace Go.Proofs.Ytbmkobanpakohaa.QFnMedian
open Go.RowKit Go.Proofs.Ytbmkobanpakohaa.PFnMedian Go.Proofs.YtbmkobanpakohaaW.PrintWords Go.Proofs.YtbmkobanpakohaaW.PrintLast Go.Proofs.YtbmkobanpakohaaW.PrintMore Go.Proofs.Ytbmkobanpakohaa.EvAid Go.Proofs.Ytbmkobanpakohaa
set_option linter.unusedVariables false
set_option linter.unusedSimpArgs false

/-! #### _median -/
/-- what it costs from one to all; none where one is no tree -/
def medS (g:List S61→Int):List (List S61)→Int→Option Int
  | [],n=>some n
  |y::r,n=>if g y<0 then none else medS g r (n+g y)
/-- the first with the least sum, from place i on -/
def medF (f:List S61→List S61→Int) (l:List (List S61)):List (List S61)→Int→Int→Int→Int
  | [],_,b,_=>b
  | x::r,i,b,s=>match medS (f x) l 0 with
    |none=> -1
    |some n=>if b<0 then medF f l r (i+1) i n else (if n<s then medF f l r (i+1) i n else medF f l r (i+1) b s)
theorem spec_Median_ev (l:List (List S61)) (D I R:List Int) (hl:l.length≤1048576) (hx:∀x ∈ l,x.length≤1048576) (hD:(D.length:Int)≤1099511627776) (hI:(I.length:Int)≤1099511627776) (hR:(R.length:Int)≤1099511627776):
    Ev (fun k=>spec_Median.f k l D I R) (medF (fun x y=>rootD x y D I R) l l 0 (-1) 0):=by
  have inner:∀(i:Nat) (hi:i<l.length) (b s:Int) (res:Int),(∀n,Ev (fun k=>if b<0 then (spec_Median.l0 k l (i:Int) n (wrap64 ((i:Int)+1)) D I R) else (if n<s then (spec_Median.l0 k l (i:Int) n (wrap64 ((i:Int)+1)) D I R) else (spec_Median.l0 k l b s (wrap64 ((i:Int)+1)) D I R))) (if b<0 then medF (fun x y=>rootD x y D I R) l (l.drop (i+1)) ((i:Int)+1) (i:Int) n else (if n<s then medF (fun x y=>rootD x y D I R) l (l.drop (i+1)) ((i:Int)+1) (i:Int) n else medF (fun x y=>rootD x y D I R) l (l.drop (i+1)) ((i:Int)+1) b s)))→
      ∀ (d j:Nat) (n:Int),j+d=l.length→0≤n→n≤49000*(j:Int)→Ev (fun k=>spec_Median.l1 k l b s (i:Int) n (j:Int) D I R) (match medS (fun y=>rootD (l.getD i []) y D I R) (l.drop j) n with
        |none=> -1
        |some n=>if b<0 then medF (fun x y=>rootD x y D I R) l (l.drop (i+1)) ((i:Int)+1) (i:Int) n else (if n<s then medF (fun x y=>rootD x y D I R) l (l.drop (i+1)) ((i:Int)+1) (i:Int) n else medF (fun x y=>rootD x y D I R) l (l.drop (i+1)) ((i:Int)+1) b s)):=by
    intro i hi b s res hnext d
    induction d with
    | zero=>
      intro j n h h0 hn
      refine ev_succ ?_
      simp only[spec_Median.l1]
      rw[List.drop_eq_nil_of_le (show l.length≤j by omega),medS]
      exact ev_neg (by omega) (hnext n)
    | succ d ih=>
      intro j n h h0 hn
      have hj:j<l.length:=by omega
      have hlen:=hx _ (List.getElem_mem hj)
      have hlen2:=hx _ (List.getElem_mem hi)
      have hs:=spec_RootDist_ev l[i] l[j] D I R (by omega) (by omega) hD hI hR
      have ei:l.getD i []=l[i]:=by simp[hi]
      have eg:l.getD j []=l[j]:=by simp[hj]
      rw[←eg,←ei] at hs
      rw[List.drop_eq_getElem_cons hj,←eg,medS]
      have hr:=rootD_range (l:=l.getD i []) (m:=l.getD j []) (D:=D) (I:=I) (R:=R)
      refine ev_succ ?_
      simp only[spec_Median.l1]
      have e0:wrap64 ((j:Int)+1)=((j+1:Nat):Int):=by rw[w64 (by omega) (by omega)];omega
      rw[e0]
      clear e0
      refine ev_pos (by omega) (ev_pos (by omega) (ev_pos (by omega) (ev_pos (by omega) (ev_bind hs ?_))))
      by_cases c:rootD (l.getD i []) (l.getD j []) D I R<0
      · rw[if_pos c];exact ev_pos c (Ev.now _)
      · rw[if_neg c]
        refine ev_neg c ?_
        rw[w64 (x:=n+rootD (l.getD i []) (l.getD j []) D I R) (by omega) (by omega)]
        exact ih (j+1) _ (by omega) (by omega) (by omega)
  have key:∀(d i:Nat) (b s:Int),i+d=l.length→Ev (fun k=>spec_Median.l0 k l b s (i:Int) D I R) (medF (fun x y=>rootD x y D I R) l (l.drop i) (i:Int) b s):=by
    intro d
    induction d with
    | zero=>
      intro i b s h
      refine ev_succ ?_
      simp only[spec_Median.l0]
      rw[List.drop_eq_nil_of_le (by omega)]
      exact ev_neg (by omega) (Ev.now _)
    | succ d ih=>
      intro i b s h
      have hi:i<l.length:=by omega
      have eg:l.getD i []=l[i]:=by simp[hi]
      rw[List.drop_eq_getElem_cons hi,←eg,medF]
      refine ev_succ ?_
      simp only[spec_Median.l0]
      refine ev_pos (by omega) ?_
      have h3:=inner i hi b s 0 (fun n=>by
        have h1:=ih (i+1) (i:Int) n (by omega)
        have h2:=ih (i+1) b s (by omega)
        have e0:wrap64 ((i:Int)+1)=((i+1:Nat):Int):=by rw[w64 (by omega) (by omega)];omega
        rw[e0]
        clear e0
        rw[show ((i+1:Nat):Int)=(i:Int)+1 by omega] at h1 h2⊢
        by_cases c2:b<0
        · rw[if_pos c2];exact ev_pos c2 h1
        · rw[if_neg c2]
          refine ev_neg c2 ?_
          by_cases c3:n<s
          · rw[if_pos c3];exact ev_pos c3 h1
          · rw[if_neg c3];exact ev_neg c3 h2) l.length 0 0 (by omega) (by omega) (by omega)
      rw[List.drop_zero] at h3
      exact h3
  simp only[spec_Median.f]
  exact key l.length 0 (-1) 0 (by omega)
theorem impl_Median_ev (l:List (List S61)) (D I R:List Int) (hl:l.length≤1048576) (hx:∀x ∈ l,x.length≤1048576) (hD:(D.length:Int)≤1099511627776) (hI:(I.length:Int)≤1099511627776) (hR:(R.length:Int)≤1099511627776):
    Ev (fun k=>impl_Median.f k l D I R) (medF (fun x y=>rootD x y D I R) l l 0 (-1) 0):=by
  have inner:∀(i:Nat) (hi:i<l.length) (b s:Int),(∀n,Ev (fun k=>if b<0 then (impl_Median.l0 k l (i:Int) n l (l.length:Int) (wrap64 ((i:Int)+1)) D I R) else (if n<s then (impl_Median.l0 k l (i:Int) n l (l.length:Int) (wrap64 ((i:Int)+1)) D I R) else (impl_Median.l0 k l b s l (l.length:Int) (wrap64 ((i:Int)+1)) D I R))) (if b<0 then medF (fun x y=>rootD x y D I R) l (l.drop (i+1)) ((i:Int)+1) (i:Int) n else (if n<s then medF (fun x y=>rootD x y D I R) l (l.drop (i+1)) ((i:Int)+1) (i:Int) n else medF (fun x y=>rootD x y D I R) l (l.drop (i+1)) ((i:Int)+1) b s)))→
      ∀ (d j:Nat) (n:Int),j+d=l.length→0≤n→n≤49000*(j:Int)→Ev (fun k=>impl_Median.l1 k l b s (i:Int) (l.getD i []) n l (l.length:Int) (i:Int) l (l.length:Int) (j:Int) D I R) (match medS (fun y=>rootD (l.getD i []) y D I R) (l.drop j) n with
        |none=> -1
        |some n=>if b<0 then medF (fun x y=>rootD x y D I R) l (l.drop (i+1)) ((i:Int)+1) (i:Int) n else (if n<s then medF (fun x y=>rootD x y D I R) l (l.drop (i+1)) ((i:Int)+1) (i:Int) n else medF (fun x y=>rootD x y D I R) l (l.drop (i+1)) ((i:Int)+1) b s)):=by
    intro i hi b s hnext d
    induction d with
    | zero=>
      intro j n h h0 hn
      refine ev_succ ?_
      simp only[impl_Median.l1]
      rw[List.drop_eq_nil_of_le (show l.length≤j by omega),medS]
      exact ev_neg (by omega) (hnext n)
    | succ d ih=>
      intro j n h h0 hn
      have hj:j<l.length:=by omega
      have hlen:=hx _ (List.getElem_mem hj)
      have hlen2:=hx _ (List.getElem_mem hi)
      have hs:=impl_RootDist_ev l[i] l[j] D I R (by omega) (by omega) hD hI hR
      have ei:l.getD i []=l[i]:=by simp[hi]
      have eg:l.getD j []=l[j]:=by simp[hj]
      rw[←eg,←ei] at hs
      rw[List.drop_eq_getElem_cons hj,←eg,medS]
      have hr:=rootD_range (l:=l.getD i []) (m:=l.getD j []) (D:=D) (I:=I) (R:=R)
      refine ev_succ ?_
      simp only[impl_Median.l1]
      have e0:wrap64 ((j:Int)+1)=((j+1:Nat):Int):=by rw[w64 (by omega) (by omega)];omega
      rw[e0]
      clear e0
      refine ev_pos (by omega) (ev_pos (by omega) (ev_pos (by omega) (ev_bind hs ?_)))
      by_cases c:rootD (l.getD i []) (l.getD j []) D I R<0
      · rw[if_pos c];exact ev_pos c (Ev.now _)
      · rw[if_neg c]
        refine ev_neg c ?_
        rw[w64 (x:=n+rootD (l.getD i []) (l.getD j []) D I R) (by omega) (by omega)]
        exact ih (j+1) _ (by omega) (by omega) (by omega)
  have key:∀(d i:Nat) (b s:Int),i+d=l.length→Ev (fun k=>impl_Median.l0 k l b s l (l.length:Int) (i:Int) D I R) (medF (fun x y=>rootD x y D I R) l (l.drop i) (i:Int) b s):=by
    intro d
    induction d with
    | zero=>
      intro i b s h
      refine ev_succ ?_
      simp only[impl_Median.l0]
      rw[List.drop_eq_nil_of_le (by omega)]
      exact ev_neg (by omega) (Ev.now _)
    | succ d ih=>
      intro i b s h
      have hi:i<l.length:=by omega
      have eg:l.getD i []=l[i]:=by simp[hi]
      rw[List.drop_eq_getElem_cons hi,←eg,medF]
      refine ev_succ ?_
      simp only[impl_Median.l0]
      refine ev_pos (by omega) (ev_pos (by omega) (ev_pos (by omega) ?_))
      have h3:=inner i hi b s (fun n=>by
        have h1:=ih (i+1) (i:Int) n (by omega)
        have h2:=ih (i+1) b s (by omega)
        have e0:wrap64 ((i:Int)+1)=((i+1:Nat):Int):=by rw[w64 (by omega) (by omega)];omega
        rw[e0]
        clear e0
        rw[show ((i+1:Nat):Int)=(i:Int)+1 by omega] at h1 h2⊢
        by_cases c2:b<0
        · rw[if_pos c2];exact ev_pos c2 h1
        · rw[if_neg c2]
          refine ev_neg c2 ?_
          by_cases c3:n<s
          · rw[if_pos c3];exact ev_pos c3 h1
          · rw[if_neg c3];exact ev_neg c3 h2) l.length 0 0 (by omega) (by omega) (by omega)
      rw[List.drop_zero] at h3
      exact h3
  simp only[impl_Median.f]
  exact key l.length 0 (-1) 0 (by omega)

/-! #### _medLaw -/
/-- what the least sum tells of all -/
theorem medF_law (f:List S61→List S61→Int) (l:List (List S61)):∀(r:List (List S61)) (i:Nat) (b s:Int),l.drop i=r→i≤l.length→
    (b= -1∧i=0∨0≤b∧b<i∧medS (f (l.getD b.toNat [])) l 0=some s∧∀j,j<i→∃n,medS (f (l.getD j [])) l 0=some n∧s≤n)→
    medF f l r (i:Int) b s= -1∨∃b' s',medF f l r (i:Int) b s=b'∧0≤b'∧b'<l.length∧medS (f (l.getD b'.toNat [])) l 0=some s'∧∀j,j<l.length→∃n,medS (f (l.getD j [])) l 0=some n∧s'≤n:=by
  intro r
  induction r with
  | nil=>
    intro i b s hd hi h
    have hil:l.length≤i:=List.drop_eq_nil_iff.1 hd
    rw[medF]
    rcases h with ⟨h,_⟩| ⟨h0,h1,h2,h3⟩
    · exact Or.inl h
    · exact Or.inr ⟨b,s,rfl,h0,by omega,h2,fun j hj=>h3 j (by omega)⟩
  | cons x r ih=>
    intro i b s hd hi h
    have hil:i<l.length:=by
      rcases Nat.lt_or_ge i l.length with c|c
      · exact c
      · rw[List.drop_eq_nil_of_le c] at hd;cases hd
    have hx:l.getD i []=x:=by
      have e:=List.drop_eq_getElem_cons hil
      rw[hd] at e
      injection e with e1 e2
      rw[e1]
      simp[hil]
    have hr:l.drop (i+1)=r:=by
      have e:=List.drop_eq_getElem_cons hil
      rw[hd] at e
      injection e with e1 e2
      exact e2.symm
    rw[medF]
    cases hm:medS (f x) l 0 with
    |none=>exact Or.inl rfl
    | some n=>
      dsimp only
      have step:=fun(b s:Int) h=>ih (i+1) b s hr (by omega) h
      rw[show ((i+1:Nat):Int)=(i:Int)+1 by omega] at step
      rcases h with ⟨rfl,rfl⟩| ⟨h0,h1,h2,h3⟩
      · rw[if_pos (by omega)]
        refine step _ _ (Or.inr ⟨by omega,by omega,?_,fun j hj=>?_⟩)
        · rw[show ((0:Nat):Int).toNat=0 from rfl,hx];exact hm
        · obtain rfl:j=0:=by omega
          rw[hx];exact⟨n,hm,by omega⟩
      · rw[if_neg (by omega)]
        by_cases c:n<s
        · rw[if_pos c]
          refine step _ _ (Or.inr ⟨by omega,by omega,?_,fun j hj=>?_⟩)
          · rw[Int.toNat_natCast,hx];exact hm
          · rcases Nat.lt_or_ge j i with cj|cj
            · obtain⟨m,hm',hle⟩:=h3 j cj
              exact⟨m,hm',by omega⟩
            · obtain rfl:j=i:=by omega
              rw[hx];exact⟨n,hm,by omega⟩
        · rw[if_neg c]
          refine step _ _ (Or.inr ⟨h0,by omega,h2,fun j hj=>?_⟩)
          rcases Nat.lt_or_ge j i with cj|cj
          · exact h3 j cj
          · obtain rfl:j=i:=by omega
            rw[hx];exact⟨n,hm,by omega⟩

end Go.Proofs.Ytbmkobanpakohaa.QFnMedian
