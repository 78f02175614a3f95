/- What the printed functions of the law FnNear come to, function by function, from some number of rounds on; each under the bounds that it names. -/
import Derived.Test.YtbmkobanpakohaaMFnNearx
import Derived.Test.YtbmkobanpakohaaMFnNearEvAid
import Derived.Test.YtbmkobanpakohaaTree
import Derived.Test.YtbmkobanpakohaaPaths
import Derived.Test.YtbmkobanpakohaaBounds
import Derived.Test.YtbmkobanpakohaaDist
import Derived.Test.YtbmkobanpakohaaPos
import Derived.Test.YtbmkobanpakohaaRank
namespace Go.Proofs.Ytbmkobanpakohaa.QFnNear
open Go.RowKit Go.Proofs.Ytbmkobanpakohaa.PFnNear Go.Proofs.YtbmkobanpakohaaW.PrintWords Go.Proofs.YtbmkobanpakohaaW.PrintLast Go.Proofs.YtbmkobanpakohaaW.PrintMore Go.Proofs.Ytbmkobanpakohaa.EvAid Go.Proofs.Ytbmkobanpakohaa
set_option linter.unusedVariables false
set_option linter.unusedSimpArgs false

/-! #### impl_within -/
theorem within_eq (a b c:Int):impl_within.f a b c=some (decide (b≤a∧a≤c)):=by
  unfold impl_within.f
  by_cases h:b≤a
  · rw[if_pos h];simp[h]
  · rw[if_neg h];simp[h]

/-! #### impl_LabelOk -/
theorem LabelOk_eq (a:Int):impl_LabelOk.f a=some (decide (0≤a∧a≤5)):=by
  unfold impl_LabelOk.f;rw[within_eq];rfl

/-! #### _nodes -/
/-- the label and the depth at a place -/
def lbA (l:List S61) (j:Nat):Int:=(l.getD j z61).f0
def dpA (l:List S61) (j:Nat):Int:=(l.getD j z61).f1
theorem rd_f0 (l:List S61) (j:Nat):(rd_T61 l (j:Int)).f0=lbA l j:=id rfl
theorem rd_f1 (l:List S61) (j:Nat):(rd_T61 l (j:Int)).f1=dpA l j:=id rfl
theorem node_ext {a b:S61} (h0:a.f0=b.f0) (h1:a.f1=b.f1):a=b:=by cases a;cases b;simp at h0 h1;rw[h0,h1]
theorem getD_node (l:List S61) (j:Nat) (h:j<l.length):l[j]=⟨lbA l j,dpA l j⟩:=by
  apply node_ext
  · simp[lbA,h]
  · simp[dpA,h]
theorem nodes_ext {a b:List S61} (hl:a.length=b.length) (h0:∀j,j<a.length→lbA a j=lbA b j) (h1:∀j,j<a.length→dpA a j=dpA b j):a=b:=by
  apply List.ext_getElem hl
  intro j h2 h3
  rw[getD_node a j h2,getD_node b j h3,h0 j h2,h1 j h2]
/-- a node may stand at its place -/
def okAt (l:List S61) (j:Nat):Prop:=(0≤lbA l j∧lbA l j≤5)∧(0≤dpA l j∧dpA l j≤12)∧(if j=0 then dpA l j=0 else 1≤dpA l j∧dpA l j≤dpA l (j-1)+1)
instance okAtDec (l:List S61) (j:Nat):Decidable (okAt l j):=by unfold okAt;infer_instance
/-- the nodes are those of one tree -/
def treeOk (l:List S61):Bool:=decide (1≤l.length∧l.length≤24)&&decide (∀j,j<l.length→okAt l j)
theorem treeOk_iff {l:List S61} :treeOk l=true↔(1≤l.length∧l.length≤24)∧∀j,j<l.length→okAt l j:=by
  simp[treeOk]
theorem treeOk_vd {l:List S61} (h:treeOk l=true):Tree.Vd l.length (dpA l):=by
  obtain⟨h1,h2⟩:=treeOk_iff.1 h
  refine⟨h1.1,?_,fun j h0 hj=>?_⟩
  · have:=(h2 0 h1.1).2.2
    rwa[if_pos rfl] at this
  · have:=(h2 j hj).2.2
    rwa[if_neg (by omega)] at this
/-- from place i on all nodes may stand -/
noncomputable def okFrom (l:List S61) (i:Nat):Bool:=cdec (∀j,i≤j→j<l.length→okAt l j)
theorem okFrom_end {l:List S61} {i:Nat} (h:l.length≤i):okFrom l i=true:=by
  unfold okFrom
  rw[cdec_iff]
  intro j h1 h2
  omega
theorem okFrom_step {l:List S61} {i:Nat} (h:i<l.length):okFrom l i=(decide (okAt l i)&&okFrom l (i+1)):=by
  unfold okFrom
  rw[Bool.eq_iff_iff,Bool.and_eq_true,cdec_iff,decide_eq_true_iff,cdec_iff]
  constructor
  · intro a;exact⟨a i (Nat.le_refl _) h,fun j h1 h2=>a j (by omega) h2⟩
  · rintro⟨a,b⟩ j h1 h2
    by_cases e:j=i
    · subst e;exact a
    · exact b j (by omega) h2
theorem okFrom_zero (l:List S61):treeOk l=(decide (1≤l.length∧l.length≤24)&&okFrom l 0):=by
  unfold treeOk okFrom
  congr 1
  rw[Bool.eq_iff_iff,decide_eq_true_iff,cdec_iff]
  exact⟨fun h j _ hj=>h j hj,fun h j hj=>h j (Nat.zero_le _) hj⟩

/-! #### impl_TreeOk -/
theorem depthOk_eq (l:List S61) (i:Nat) (hi:i<l.length) (hl:l.length≤24) (hp:0<i→0≤dpA l (i-1)∧dpA l (i-1)≤12):impl_depthOk.f l (i:Int)=some (decide (if i=0 then dpA l i=0 else 1≤dpA l i∧dpA l i≤dpA l (i-1)+1)):=by
  unfold impl_depthOk.f
  by_cases h0:i=0
  · subst h0
    conv=>lhs;rw[if_pos (show ((0:Nat):Int)=0 from rfl),if_pos (by omega)]
    congr 1
  · have e1:(i:Int)-1=((i-1:Nat):Int):=by omega
    have hb:=hp (by omega)
    conv=>lhs;rw[if_neg (by omega),if_pos (by omega),if_pos (by omega),w64 (x:=(i:Int)-1) (by omega) (by omega),e1,if_pos (by omega),if_pos (by omega),rd_f1,rd_f1,w64 (x:=dpA l (i-1)+1) (by omega) (by omega),within_eq]
    simp only[h0,if_false,Option.bind_some]
theorem impl_TreeOk_l0 (l:List S61) (hl:l.length≤24):∀(d i:Nat),i+d=l.length→(0<i→okAt l (i-1))→Ev (fun k=>impl_TreeOk.l0 k l l (l.length:Int) (i:Int)) (okFrom l i):=by
  intro d
  induction d with
  | zero=>
    intro i h hp
    refine ev_succ ?_
    simp only[impl_TreeOk.l0]
    refine ev_neg (by omega) (ev_some ?_)
    rw[okFrom_end (by omega)]
  | succ d ih=>
    intro i h hp
    refine ev_succ ?_
    simp only[impl_TreeOk.l0]
    simp only[rd_f0,rd_f1]
    rw[okFrom_step (by omega)]
    refine ev_pos (by omega) (ev_pos (by omega) (ev_pos (by omega) (ev_bindc (LabelOk_eq _) ?_)))
    simp only[decide_eq_true_eq]
    by_cases h1:0≤lbA l i∧lbA l i≤5
    · refine ev_pos h1 (ev_bindc (within_eq _ _ _) ?_)
      simp only[decide_eq_true_eq]
      by_cases h2:0≤dpA l i∧dpA l i≤12
      · refine ev_pos h2 (ev_bindc (depthOk_eq l i (by omega) hl (fun h0=>(hp h0).2.1)) ?_)
        simp only[decide_eq_true_eq]
        by_cases h3:(if i=0 then dpA l i=0 else 1≤dpA l i∧dpA l i≤dpA l (i-1)+1)
        · refine ev_pos h3 ?_
          have ok:okAt l i:=⟨h1,h2,h3⟩
          rw[w64 (x:=(i:Int)+1) (by omega) (by omega),decide_eq_true ok,Bool.true_and]
          exact ih (i+1) (by omega) (fun _=>ok)
        · refine ev_neg h3 (ev_some ?_)
          have ok:¬okAt l i:=fun h=>h3 h.2.2
          rw[decide_eq_false ok,Bool.false_and]
      · refine ev_neg h2 (ev_some ?_)
        have ok:¬okAt l i:=fun h=>h2 h.2.1
        rw[decide_eq_false ok,Bool.false_and]
    · refine ev_neg h1 (ev_some ?_)
      have ok:¬okAt l i:=fun h=>h1 h.1
      rw[decide_eq_false ok,Bool.false_and]
theorem impl_TreeOk_ev (l:List S61):Ev (fun k=>impl_TreeOk.f k l) (treeOk l):=by
  simp only[impl_TreeOk.f]
  refine ev_bindc (within_eq _ _ _) ?_
  simp only[decide_eq_true_eq]
  rw[okFrom_zero]
  by_cases h:1≤l.length∧l.length≤24
  · refine ev_pos (by omega) ?_
    rw[decide_eq_true h,Bool.true_and]
    exact impl_TreeOk_l0 l h.2 l.length 0 (by omega) (fun h=>absurd h (Nat.lt_irrefl 0))
  · refine ev_neg (by omega) (ev_some ?_)
    rw[decide_eq_false h,Bool.false_and]

/-! #### _allDrop -/
theorem all_drop {α:Type} (l:List α) (f:α→Bool) (i:Nat) (h:i<l.length):(l.drop i).all f=(f l[i]&&(l.drop (i+1)).all f):=by
  rw[List.drop_eq_getElem_cons h,List.all_cons]

/-! #### _pricesIdx -/
/-- a price is in range -/
def inPrice (x:Int):Bool:=decide (0≤x∧x≤1000)
theorem priceLit_eq (x:Int):impl_pricesOk_lit1.f x=some (!inPrice x):=by
  unfold impl_pricesOk_lit1.f
  rw[within_eq]
  rfl
theorem idxPrice_l0 (p:List Int) (hp:(p.length:Int)≤1099511627776):∀(d i:Nat),i+d=p.length→∃r:Int,Ev (fun k=>slices_IndexFunc_int_int.l0 k p (p.length:Int) (i:Int)) r∧decide (r≥0)= !(p.drop i).all inPrice:=by
  intro d
  induction d with
  | zero=>
    intro i h
    refine⟨-1,ev_succ ?_,?_⟩
    · simp only[slices_IndexFunc_int_int.l0]
      exact ev_neg (by omega) (Ev.now _)
    · rw[List.drop_eq_nil_of_le (by omega)];rfl
  | succ d ih=>
    intro i h
    have hi:i<p.length:=by omega
    have e:rd p (i:Int)=p[i]:=by simp[rd,hi]
    rw[all_drop p inPrice i hi]
    by_cases c:inPrice p[i]=true
    · obtain⟨r,hr,hd⟩:=ih (i+1) (by omega)
      refine⟨r,ev_succ ?_,by rw[c,Bool.true_and];exact hd⟩
      simp only[slices_IndexFunc_int_int.l0]
      refine ev_pos (by omega) (ev_pos (by omega) (ev_pos (by omega) (ev_bindc (priceLit_eq _) ?_)))
      rw[e,c,w64 (x:=(i:Int)+1) (by omega) (by omega)]
      exact ev_neg (by decide) hr
    · have c':inPrice p[i]=false:=by simpa using c
      refine⟨(i:Int),ev_succ ?_,by rw[c',Bool.false_and];simp⟩
      simp only[slices_IndexFunc_int_int.l0]
      refine ev_pos (by omega) (ev_pos (by omega) (ev_pos (by omega) (ev_bindc (priceLit_eq _) ?_)))
      rw[e,c']
      exact ev_pos rfl (Ev.now _)
theorem containsPrice_ev (p:List Int) (hp:(p.length:Int)≤1099511627776):Ev (fun k=>slices_ContainsFunc_int_int.f k p) (!p.all inPrice):=by
  obtain⟨r,hr,hd⟩:=idxPrice_l0 p hp p.length 0 (by omega)
  rw[List.drop_zero] at hd
  simp only[slices_ContainsFunc_int_int.f,slices_IndexFunc_int_int.f]
  exact ev_bind hr (ev_some hd)

/-! #### impl_pricesOk -/
theorem pricesOk_ev (p:List Int) (hp:(p.length:Int)≤1099511627776) (n:Int):Ev (fun k=>impl_pricesOk.f k p n) (decide ((p.length:Int)=n)&&p.all inPrice):=by
  simp only[impl_pricesOk.f]
  by_cases h:(p.length:Int)=n
  · refine ev_pos h (ev_bind (containsPrice_ev p hp) (ev_some ?_))
    rw[decide_eq_true h,Bool.not_not,Bool.true_and]
  · refine ev_neg h (ev_some ?_)
    rw[decide_eq_false h,Bool.false_and]

/-! #### _unit -/
/-- the costs where each change costs 1 -/
def unitD:List Int:=[1,1,1,1,1,1]
def unitR:List Int:=[0,1,1,1,1,1,1,0,1,1,1,1,1,1,0,1,1,1,1,1,1,0,1,1,1,1,1,1,0,1,1,1,1,1,1,0]
theorem unitD_at (a:Int) (h0:0≤a) (h1:a≤5):rd unitD a=1:=by
  have key:∀n:Fin 6,rd unitD ((n.1:Nat):Int)=1:=by decide
  have:=key ⟨a.toNat,by omega⟩
  rwa[Int.toNat_of_nonneg h0] at this
theorem unitR_at (a b:Int) (h0:0≤a) (h1:a≤5) (g0:0≤b) (g1:b≤5):rd unitR (a*6+b)=if a=b then 0 else 1:=by
  have key:∀n m:Fin 6,rd unitR (((n.1*6+m.1:Nat)):Int)=if n.1=m.1 then 0 else 1:=by decide
  obtain⟨n,rfl⟩:∃n:Nat,a=(n:Int):=⟨a.toNat,by omega⟩
  obtain⟨m,rfl⟩:∃m:Nat,b=(m:Int):=⟨b.toNat,by omega⟩
  have:=key ⟨n,by omega⟩ ⟨m,by omega⟩
  dsimp only at this
  rw[show ((n*6+m:Nat):Int)=(n:Int)*6+(m:Int) by omega] at this
  rw[this]
  by_cases h:n=m
  · rw[if_pos h,if_pos (by rw[h])]
  · rw[if_neg h,if_neg (by omega)]

/-! #### impl_CostOk -/
/-! #### impl_endOf -/
theorem endOf_l0 (l:List S61) (i:Nat) (hi:i<l.length) (hm:l.length≤24):∀(f j:Nat),l.length≤j+f→i<j→Ev (fun k=>impl_endOf.l0 k l (i:Int) (j:Int)) (Tree.eoFrom l.length (dpA l) (dpA l i) f j:Int):=by
  intro f
  induction f with
  | zero=>
    intro j h h1
    refine ev_succ ?_
    simp only[impl_endOf.l0]
    exact ev_neg (by omega) (Ev.now _)
  | succ f ih=>
    intro j h h1
    refine ev_succ ?_
    simp only[impl_endOf.l0]
    simp only[rd_f1]
    rw[Tree.eoFrom]
    by_cases h2:j<l.length
    · refine ev_pos (by omega) (ev_pos (by omega) (ev_pos (by omega) (ev_pos (by omega) ?_)))
      by_cases h3:dpA l j>dpA l i
      · refine ev_pos h3 ?_
        rw[if_pos ⟨h2,h3⟩,w64 (by omega) (by omega)]
        exact ih (j+1) (by omega) (by omega)
      · refine ev_neg h3 (ev_some ?_)
        rw[if_neg (by omega)]
    · refine ev_neg (by omega) (ev_some ?_)
      rw[if_neg (by omega)]
theorem endOf_ev (l:List S61) (i:Nat) (hi:i<l.length) (hm:l.length≤24):Ev (fun k=>impl_endOf.f k l (i:Int)) (Tree.eo l.length (dpA l) i:Int):=by
  simp only[impl_endOf.f]
  rw[w64 (by omega) (by omega)]
  exact endOf_l0 l i hi hm (l.length-(i+1)) (i+1) (by omega) (by omega)

/-! #### impl_RelCost -/
/-! #### spec_l1In -/
theorem l1In_eq (a b c:Int):spec_l1In.f a b c=some (decide (b≤a∧a≤c)):=by
  unfold spec_l1In.f
  by_cases h:a≥b
  · rw[if_pos h];have h':b≤a:=h;simp[h']
  · rw[if_neg h];have h':¬b≤a:=h;simp[h']

/-! #### spec_LabelOk -/
theorem spec_LabelOk_eq (a:Int):spec_LabelOk.f a=some (decide (0≤a∧a≤5)):=by
  unfold spec_LabelOk.f;rw[l1In_eq];rfl

/-! #### spec_TreeOk -/
theorem spec_TreeOk_l0 (l:List S61) (hm:(l.length:Int)≤9223372036854775806):∀(d i:Nat),i+d=l.length→(0<i→okAt l (i-1))→Ev (fun k=>spec_TreeOk.l0 k l (i:Int)) (decide (1≤l.length∧l.length≤24)&&okFrom l i):=by
  intro d
  induction d with
  | zero=>
    intro i h hp
    refine ev_succ ?_
    simp only[spec_TreeOk.l0]
    refine ev_neg (by omega) (ev_bindc (l1In_eq _ _ _) (ev_some ?_))
    rw[okFrom_end (by omega),Bool.and_true]
    congr 1
    simp only[eq_iff_iff]
    omega
  | succ d ih =>
    intro i h hp
    refine ev_succ ?_
    simp only[spec_TreeOk.l0]
    simp only[rd_f0,rd_f1]
    refine ev_pos (by omega) (ev_pos (by omega) (ev_bindc (spec_LabelOk_eq _) ?_))
    rw[okFrom_step (by omega)]
    simp only[decide_eq_true_eq]
    by_cases h1:0≤lbA l i∧lbA l i≤5
    · refine ev_pos h1 (ev_bindc (l1In_eq _ _ _) ?_)
      simp only[decide_eq_true_eq]
      by_cases h2:0≤dpA l i∧dpA l i≤12
      · refine ev_pos h2 ?_
        by_cases h0:i=0
        · subst h0
          by_cases h3:dpA l 0=0
          · refine ev_neg (by rw[h3];decide) (ev_neg (by omega) ?_)
            rw[w64 (by omega) (by omega)]
            have ok:okAt l 0:=⟨h1,h2,by rw[if_pos rfl];exact h3⟩
            have:=ih 1 (by omega) (fun _=>ok)
            rw[decide_eq_true ok,Bool.true_and]
            exact this
          · refine ev_pos (by
              have e:(dpA l 0==0)=false:=by rw[beq_eq_false_iff_ne];exact h3
              simp only[e];rfl) (ev_some ?_)
            have ok:¬okAt l 0:=fun h=>h3 (by have:=h.2.2;rwa[if_pos rfl] at this)
            rw[decide_eq_false ok,Bool.false_and,Bool.and_false]
        · have ei:((i:Int)==0)=false:=by rw[beq_eq_false_iff_ne];omega
          by_cases h3:dpA l i=0
          · refine ev_pos (by rw[ei,h3];decide) (ev_some ?_)
            have ok:¬okAt l i:=fun h=>by have:=h.2.2;rw[if_neg h0] at this;omega
            rw[decide_eq_false ok,Bool.false_and,Bool.and_false]
          · have e:(dpA l i==0)=false:=by rw[beq_eq_false_iff_ne];exact h3
            have hpp:=hp (by omega)
            have e1:(i:Int)-1=((i-1:Nat):Int):=by omega
            have hb:=hpp.2.1
            refine ev_neg (by rw[ei,e];decide) (ev_pos (by omega) ?_)
            rw[w64 (x:=(i:Int)-1) (by omega) (by omega),e1]
            simp only[rd_f1]
            rw[w64 (x:=dpA l (i-1)+1) (by omega) (by omega)]
            refine ev_pos (by omega) (ev_pos (by omega) ?_)
            by_cases h4:dpA l i>dpA l (i-1)+1
            · refine ev_pos h4 (ev_some ?_)
              have ok:¬okAt l i:=fun h=>by have:=h.2.2;rw[if_neg h0] at this;omega
              rw[decide_eq_false ok,Bool.false_and,Bool.and_false]
            · refine ev_neg h4 ?_
              have ok:okAt l i:=⟨h1,h2,by rw[if_neg h0];omega⟩
              rw[w64 (x:=(i:Int)+1) (by omega) (by omega),decide_eq_true ok,Bool.true_and]
              exact ih (i+1) (by omega) (fun _=>ok)
      · refine ev_neg h2 (ev_some ?_)
        have ok:¬okAt l i:=fun h=>h2 h.2.1
        rw[decide_eq_false ok,Bool.false_and,Bool.and_false]
    · refine ev_neg h1 (ev_some ?_)
      have ok:¬okAt l i:=fun h=>h1 h.1
      rw[decide_eq_false ok,Bool.false_and,Bool.and_false]
theorem spec_TreeOk_ev (l:List S61) (hm:(l.length:Int)≤9223372036854775806):Ev (fun k=>spec_TreeOk.f k l) (treeOk l):=by
  simp only[spec_TreeOk.f]
  rw[okFrom_zero]
  exact spec_TreeOk_l0 l hm l.length 0 (by omega) (fun h=>absurd h (Nat.lt_irrefl 0))

/-! #### _hasB -/
/-- the tree is one, and has a node i -/
def hasB (l:List S61) (i:Int):Bool:=treeOk l&&decide (0≤i∧i<(l.length:Int))
theorem hasB_iff {l:List S61} {i:Int} :hasB l i=true↔treeOk l=true∧0≤i∧i<(l.length:Int):=by simp[hasB]
theorem hasB_nat {l:List S61} {i:Int} (h:hasB l i=true):∃j:Nat,i=(j:Int)∧j<l.length∧treeOk l=true∧l.length≤24∧Tree.Vd l.length (dpA l):=by
  obtain⟨h1,h2,h3⟩:=hasB_iff.1 h
  exact⟨i.toNat,by omega,by omega,h1,(treeOk_iff.1 h1).1.2,treeOk_vd h1⟩
/-- the end of node i as the program tells it -/
def endI (l:List S61) (i:Int):Int:=if hasB l i=true then (Tree.eo l.length (dpA l) i.toNat:Int) else -1
/-- the kids of node i -/
def kidsI (l:List S61) (i:Int):List Int:=if hasB l i=true then (Tree.kids l.length (dpA l) i.toNat).map Int.ofNat else []
theorem dp_range {l:List S61} (h:treeOk l=true) {j:Nat} (hj:j<l.length):0≤dpA l j∧dpA l j≤12:=((treeOk_iff.1 h).2 j hj).2.1
theorem lb_range {l:List S61} (h:treeOk l=true) {j:Nat} (hj:j<l.length):0≤lbA l j∧lbA l j≤5:=((treeOk_iff.1 h).2 j hj).1
/-- the two lists of nodes are the same -/
noncomputable def sameT (a b:List S61):Bool:=cdec (a=b)
theorem sameT_iff {a b:List S61} :sameT a b=true↔a=b:=cdec_iff
/-- .. from place i on -/
noncomputable def sameFrom (a b:List S61) (i:Nat):Bool:=cdec (∀j,i≤j→j<a.length→lbA a j=lbA b j∧dpA a j=dpA b j)
theorem sameFrom_end {a b:List S61} {i:Nat} (h:a.length≤i):sameFrom a b i=true:=by
  unfold sameFrom
  rw[cdec_iff]
  intro j h1 h2
  omega
theorem sameFrom_step {a b:List S61} {i:Nat} (h:i<a.length):sameFrom a b i=(decide (lbA a i=lbA b i∧dpA a i=dpA b i)&&sameFrom a b (i+1)):=by
  unfold sameFrom
  rw[Bool.eq_iff_iff,Bool.and_eq_true,cdec_iff,decide_eq_true_iff,cdec_iff]
  constructor
  · intro x;exact⟨x i (Nat.le_refl _) h,fun j h1 h2=>x j (by omega) h2⟩
  · rintro⟨x,y⟩ j h1 h2
    by_cases e:j=i
    · subst e;exact x
    · exact y j (by omega) h2
theorem sameFrom_zero {a b:List S61} (h:a.length=b.length):sameFrom a b 0=sameT a b:=by
  unfold sameFrom sameT
  rw[Bool.eq_iff_iff,cdec_iff,cdec_iff]
  constructor
  · intro x;exact nodes_ext h (fun j hj=>(x j (Nat.zero_le _) hj).1) (fun j hj=>(x j (Nat.zero_le _) hj).2)
  · intro e;subst e;exact fun j _ _=>⟨rfl,rfl⟩
theorem same_cond (x0 x1 y0 y1:Int):((!(x0==y0) || !(x1==y1))=true)↔¬(x0=y0∧x1=y1):=by
  by_cases h0:x0=y0<;>by_cases h1:x1=y1<;>simp[h0,h1]
/-! #### spec_l3At -/
theorem l3At_ev (l:List S61) (i:Int) (hm:(l.length:Int)≤9223372036854775806):Ev (fun k=>spec_l3At.f k l i) (hasB l i):=by
  simp only[spec_l3At.f]
  refine ev_bind (spec_TreeOk_ev l hm) ?_
  unfold hasB
  by_cases h:treeOk l=true
  · refine ev_pos h ?_
    rw[h,w64 (x:=(l.length:Int)-1) (by omega) (by omega)]
    refine ev_bindc (l1In_eq _ _ _) (ev_some ?_)
    rw[Bool.true_and]
    congr 1
    simp only[eq_iff_iff]
    omega
  · refine ev_neg h (ev_some ?_)
    have:treeOk l=false:=by simpa using h
    rw[this,Bool.false_and]

/-! #### spec_EndOf -/
theorem spec_EndOf_l0 (l:List S61) (i:Nat) (hi:i<l.length) (hm:l.length≤24):∀(f j:Nat),l.length≤j+f→i<j→Ev (fun k=>spec_EndOf.l0 k l (i:Int) (j:Int)) (Tree.eoFrom l.length (dpA l) (dpA l i) f j:Int):=by
  intro f
  induction f with
  | zero=>
    intro j h h1
    refine ev_succ ?_
    simp only[spec_EndOf.l0]
    exact ev_neg (by omega) (Ev.now _)
  | succ f ih=>
    intro j h h1
    refine ev_succ ?_
    simp only[spec_EndOf.l0]
    simp only[rd_f1]
    rw[Tree.eoFrom]
    by_cases h2:j<l.length
    · refine ev_pos (by omega) (ev_pos (by omega) (ev_pos (by omega) (ev_pos (by omega) ?_)))
      by_cases h3:dpA l j>dpA l i
      · refine ev_pos h3 ?_
        rw[if_pos ⟨h2,h3⟩,w64 (by omega) (by omega)]
        exact ih (j+1) (by omega) (by omega)
      · refine ev_neg h3 (ev_some ?_)
        rw[if_neg (by omega)]
    · refine ev_neg (by omega) (ev_some ?_)
      rw[if_neg (by omega)]
theorem spec_EndOf_ev (l:List S61) (i:Int) (hm:(l.length:Int)≤9223372036854775806):Ev (fun k=>spec_EndOf.f k l i) (endI l i):=by
  simp only[spec_EndOf.f]
  refine ev_bind (l3At_ev l i hm) ?_
  unfold endI
  by_cases h:hasB l i=true
  · obtain⟨j,rfl,hj,h1,h2,hv⟩:=hasB_nat h
    refine ev_pos h ?_
    rw[if_pos h,w64 (by omega) (by omega)]
    exact spec_EndOf_l0 l j hj h2 (l.length-(j+1)) (j+1) (by omega) (by omega)
  · refine ev_neg h ?_
    rw[if_neg h]
    exact Ev.now _

/-! #### _kidsTo -/
/-- the kids up to place j -/
def kidsTo (l:List S61) (i j:Nat):List Int:=((List.range' (i+1) (j-(i+1))).filter fun k=>decide (dpA l k=dpA l i+1)).map Int.ofNat
theorem kidsTo_step (l:List S61) (i j:Nat) (h:i<j):kidsTo l i (j+1)=kidsTo l i j++(if dpA l j=dpA l i+1 then [(j:Int)] else []):=by
  unfold kidsTo
  have e:j+1-(i+1)=(j-(i+1))+1:=by omega
  have e2:i+1+1*(j-(i+1))=j:=by omega
  rw[e,List.range'_concat,List.filter_append,List.map_append,e2]
  congr 1
  by_cases hd:dpA l j=dpA l i+1
  · rw[if_pos hd];simp[hd]
  · rw[if_neg hd];simp[hd]
theorem kidsTo_length (l:List S61) (i j:Nat):(kidsTo l i j).length≤j:=by
  unfold kidsTo
  rw[List.length_map]
  have:=List.length_filter_le (fun k=>decide (dpA l k=dpA l i+1)) (List.range' (i+1) (j-(i+1)))
  rw[List.length_range'] at this
  omega
theorem kidsI_nat {l:List S61} {i:Nat} (h:hasB l (i:Int)=true):kidsI l (i:Int)=(Tree.kids l.length (dpA l) i).map Int.ofNat:=by unfold kidsI;rw[if_pos h];rfl

/-! #### spec_KidsOf -/
theorem spec_KidsOf_l0 (l:List S61) (i:Nat) (hh:hasB l (i:Int)=true) (hi:i<l.length) (hm:l.length≤24) (ht:treeOk l=true):∀(d j:Nat),j+d=Tree.eo l.length (dpA l) i→i<j→
    Ev (fun k=>spec_KidsOf.l0 k l (i:Int) (kidsTo l i j) (j:Int)) (kidsTo l i (Tree.eo l.length (dpA l) i)):=by
  have he:=Tree.eo_le (D:=dpA l) hi
  have hE:endI l (i:Int)=(Tree.eo l.length (dpA l) i:Int):=by unfold endI;rw[if_pos hh];rfl
  intro d
  induction d with
  | zero=>
    intro j h hj
    refine ev_succ ?_
    simp only[spec_KidsOf.l0]
    refine ev_bind (l3At_ev l i (by omega)) (ev_pos hh (ev_bind (spec_EndOf_ev l i (by omega)) (ev_succ ?_)))
    simp only[spec_KidsOf.j1]
    rw[hE]
    refine ev_neg (by simp;omega) (ev_some ?_)
    have:j=Tree.eo l.length (dpA l) i:=by omega
    rw[this]
  | succ d ih=>
    intro j h hj
    refine ev_succ ?_
    simp only[spec_KidsOf.l0]
    have d2:=dp_range ht hi
    have hk:=kidsTo_length l i j
    refine ev_bind (l3At_ev l i (by omega)) (ev_pos hh (ev_bind (spec_EndOf_ev l i (by omega)) (ev_succ ?_)))
    simp only[spec_KidsOf.j1]
    simp only[rd_f1]
    rw[hE]
    refine ev_pos (by simp;omega) (ev_pos (by omega) (ev_pos (by omega) (ev_pos (by omega) (ev_pos (by omega) ?_))))
    rw[w64 (x:=dpA l i+1) (by omega) (by omega),w64 (x:=(j:Int)+1) (by omega) (by omega)]
    have:=ih (j+1) (by omega) (by omega)
    rw[kidsTo_step l i j hj] at this
    by_cases hd:dpA l j=dpA l i+1
    · rw[if_pos hd] at this
      exact ev_pos hd (ev_pos (by omega) this)
    · rw[if_neg hd,List.append_nil] at this
      exact ev_neg hd this
theorem spec_KidsOf_ev (l:List S61) (i:Int) (hm:(l.length:Int)≤9223372036854775806):Ev (fun k=>spec_KidsOf.f k l i) (kidsI l i):=by
  simp only[spec_KidsOf.f]
  by_cases h:hasB l i=true
  · obtain⟨j,rfl,hj,h1,h2,hv⟩:=hasB_nat h
    have g:=@Tree.eo_gt l.length (dpA l) j
    rw[w64 (by omega) (by omega),kidsI_nat h]
    have:=spec_KidsOf_l0 l j h hj h2 h1 (Tree.eo l.length (dpA l) j-(j+1)) (j+1) (by omega) (by omega)
    have e:kidsTo l j (j+1)=[]:=by unfold kidsTo;rw[Nat.sub_self];rfl
    rw[e] at this
    exact this
  · refine ev_succ ?_
    simp only[spec_KidsOf.l0]
    refine ev_bind (l3At_ev l i hm) (ev_neg h (ev_succ ?_))
    simp only[spec_KidsOf.j1]
    refine ev_neg (by decide) (ev_some ?_)
    unfold kidsI
    rw[if_neg h]

/-! #### laws_big -/
theorem big_eq (l:List Int):laws_big.f l=some (decide ((l.length:Int)>1048576)):=rfl

/-! #### _cur -/
theorem and255 (x:Int):0≤Go.bits .and .i64 x 255∧Go.bits .and .i64 x 255≤255:=by
  have key:((BitVec.ofInt 64 x) &&& (BitVec.ofInt 64 255)).toNat≤255:=by
    rw[BitVec.toNat_and]
    exact Nat.le_trans Nat.and_le_right (by decide)
  have e:Go.bits .and .i64 x 255=IntKind.i64.wrap (((BitVec.ofInt 64 x) &&& (BitVec.ofInt 64 255)).toNat:Int):=rfl
  rw[e,IntKind.wrap_i64]
  omega
/-- the cursor's place lies in the code -/
def Cur (s:List Int) (i:Int):Prop:=(0≤i∧i≤(s.length:Int))∧(s.length:Int)≤4611686018427387904

/-! #### spec_l1New -/
theorem l1New_ev (l:List Int) (hl:(l.length:Int)≤4611686018427387904):∃h,Ev (fun k=>spec_l1New.f k l) (l,0,h):=by
  have key:∀(d i:Nat) (h0:Int),i+d=l.length→∃h,Ev (fun k=>spec_l1New.l0 k l h0 (i:Int)) (l,0,h):=by
    intro d
    induction d with
    | zero=>
      intro i h0 h
      refine⟨h0,ev_succ ?_⟩
      simp only[spec_l1New.l0]
      exact ev_neg (by omega) (Ev.now _)
    | succ d ih=>
      intro i h0 h
      by_cases h4:(i:Int)<4000
      · obtain⟨h',he⟩:=ih (i+1) (Go.bits .and .i64 (wrap64 ((wrap64 ((wrap64 (h0*131))+(wrap64 (rd l (i:Int)))))+7)) 1073741823) (by omega)
        refine⟨h',ev_succ ?_⟩
        simp only[spec_l1New.l0]
        refine ev_pos (by omega) (ev_pos h4 (ev_pos (by omega) ?_))
        rw[w64 (x:=(i:Int)+1) (by omega) (by omega)]
        exact he
      · refine⟨h0,ev_succ ?_⟩
        simp only[spec_l1New.l0]
        exact ev_pos (by omega) (ev_neg h4 (Ev.now _))
  simp only[spec_l1New.f]
  exact key l.length 0 _ (by omega)

/-! #### spec_l1Byte -/
theorem l1Byte_ok (s:List Int) (i h0:Int) (hc:Cur s i):∃x i' h,spec_l1Byte.f s i h0=some (x,i',h)∧(0≤x∧x≤255)∧Cur s i':=by
  unfold spec_l1Byte.f
  obtain⟨⟨h1,h2⟩,h3⟩:=hc
  by_cases hlt:i<(s.length:Int)
  · rw[if_pos hlt,if_pos h1,w64 (x:=i+1) (by omega) (by omega)]
    exact⟨_,_,_,rfl,and255 _,⟨by omega,by omega⟩,h3⟩
  · rw[if_neg hlt]
    exact⟨_,_,_,rfl,and255 _,⟨h1,h2⟩,h3⟩

/-! #### spec_l1Below -/
theorem l1Below_ok (s:List Int) (i h0 n:Int) (hc:Cur s i):∃x i' h,spec_l1Below.f s i h0 n=some (x,i',h)∧0≤x∧(0<n→x<n)∧(n≤0→x=0)∧Cur s i':=by
  unfold spec_l1Below.f
  by_cases h0n:n≤0
  · rw[if_pos h0n]
    exact⟨0,i,h0,rfl,Int.le_refl 0,fun h=>by omega,fun _=>rfl,hc⟩
  · rw[if_neg h0n]
    by_cases h256:n≤256
    · obtain⟨x,i',h,e,hx,hc'⟩:=l1Byte_ok s i h0 hc
      rw[if_pos h256,e]
      simp only[Option.bind_some]
      rw[if_neg (by omega)]
      exact⟨_,_,_,rfl,Int.tmod_nonneg _ hx.1,fun _=>Int.tmod_lt_of_pos _ (by omega),fun h=>by omega,hc'⟩
    · obtain⟨x,i1,h1,e1,hx,hc1⟩:=l1Byte_ok s i h0 hc
      obtain⟨y,i2,h2,e2,hy,hc2⟩:=l1Byte_ok s i1 h1 hc1
      obtain⟨z,i3,h3,e3,hz,hc3⟩:=l1Byte_ok s i2 h2 hc2
      obtain⟨v,i4,h4,e4,hv,hc4⟩:=l1Byte_ok s i3 h3 hc3
      rw[if_neg h256,e1]
      simp only[Option.bind_some,e2,e3,e4]
      rw[if_neg (by omega),w64 (x:=x*16777216) (by omega) (by omega),w64 (x:=y*65536) (by omega) (by omega),w64 (x:=z*256) (by omega) (by omega),w64 (x:=x*16777216+y*65536) (by omega) (by omega),w64 (x:=x*16777216+y*65536+z*256) (by omega) (by omega),w64 (by omega) (by omega)]
      exact⟨_,_,_,rfl,Int.tmod_nonneg _ (by omega),fun _=>Int.tmod_lt_of_pos _ (by omega),fun h=>by omega,hc4⟩

/-! #### spec_l1Once -/
theorem l1Once_ok (s:List Int) (i h0 n:Int) (hc:Cur s i):∃x i' h,spec_l1Once.f s i h0 n=some (x,i',h)∧Cur s i':=by
  unfold spec_l1Once.f
  obtain⟨x,i',h,e,_,_,_,hc'⟩:=l1Below_ok s i h0 n hc
  rw[e]
  exact⟨_,_,_,rfl,hc'⟩

/-! #### spec_l2Label -/
theorem l2Label_ok (s:List Int) (i h0:Int) (hc:Cur s i):∃x i' h,spec_l2Label.f s i h0=some (x,i',h)∧(0≤x∧x≤3)∧Cur s i':=by
  unfold spec_l2Label.f
  obtain⟨x,i',h,e,h1,h2,_,hc'⟩:=l1Below_ok s i h0 4 hc
  rw[e]
  exact⟨_,_,_,rfl,⟨h1,by have:=h2 (by omega);omega⟩,hc'⟩

/-! #### spec_l3Tree -/
/-- what a drawn tree is: at least a node, at most so many, all small -/
def Drawn (l:List S61) (n:Nat):Prop:=1≤l.length∧l.length≤n∧∀x ∈ l,(0≤x.f0∧x.f0≤3)∧0≤x.f1∧x.f1≤12
theorem drawn_snoc {l:List S61} {n:Nat} (h:Drawn l n) {a b:Int} (ha:0≤a∧a≤3) (hb:0≤b∧b≤12):Drawn (l++[⟨a,b⟩]) (n+1):=by
  obtain⟨h1,h2,h3⟩:=h
  refine⟨by simp,by simp;omega,fun x hx=>?_⟩
  rcases List.mem_append.1 hx with hx|hx
  · exact h3 x hx
  · rw[List.mem_singleton.1 hx]
    exact⟨ha,hb⟩
theorem l3Tree_l0 (s:List Int) (hs:(s.length:Int)≤4611686018427387904):∀(d:Nat) (l:List S61) (i h0:Int) (m:Nat),Drawn l m→m+d≤1000→Cur s i→
    ∃r i' h,Ev (fun k=>spec_l3Tree.l0 k l (d:Int) s i h0) (r,i',h)∧Drawn r (m+d)∧Cur s i':=by
  intro d
  induction d with
  | zero=>
    intro l i h0 m hd hm hc
    refine⟨l,i,h0,ev_succ ?_,hd,hc⟩
    simp only[spec_l3Tree.l0]
    exact ev_neg (by omega) (Ev.now _)
  | succ d ih=>
    intro l i h0 m hd hm hc
    have hl:=hd.1
    have hl2:=hd.2.1
    have e1:wrap64 ((l.length:Int)-1)=((l.length-1:Nat):Int):=by rw[w64 (by omega) (by omega)];omega
    have hlast:0≤dpA l (l.length-1)∧dpA l (l.length-1)≤12:=by
      have hm2:l[l.length-1] ∈ l:=List.getElem_mem (by omega)
      have:=(hd.2.2 _ hm2).2
      rw[getD_node l _ (by omega)] at this
      exact this
    obtain⟨x,i1,h1,b1,hx0,hx1,_,hc1⟩:=l1Below_ok s i h0 (dpA l (l.length-1)+1) hc
    have hx:=hx1 (by omega)
    obtain⟨o,i2,h2,b2,hc2⟩:=l1Once_ok s i1 h1 2 hc1
    obtain⟨y,i3,h3,b3,hy,hc3⟩:=l2Label_ok s i2 h2 hc2
    have hd1:=fun(b:Int) (hb:0≤b∧b≤12)=>ih (l++[⟨y,b⟩]) i3 h3 (m+1) (drawn_snoc hd hy hb) (by omega) hc3
    have em:m+1+d=m+(d+1):=by omega
    have hed:wrap64 (((d+1:Nat):Int)-1)=(d:Int):=by rw[w64 (by omega) (by omega)];omega
    have e5:wrap64 (dpA l (l.length-1)+1)=dpA l (l.length-1)+1:=w64 (by omega) (by omega)
    have e6:wrap64 (1+x)=1+x:=w64 (by omega) (by omega)
    by_cases ho:o=true
    · by_cases hg:dpA l (l.length-1)+1>12
      · obtain⟨r,i',h,he,hr,hcr⟩:=hd1 1 (by omega)
        refine⟨r,i',h,ev_succ ?_,by rw[←em];exact hr,hcr⟩
        simp only[spec_l3Tree.l0,e1,rd_f1,e5]
        refine ev_pos (by omega) (ev_pos (by omega) (ev_pos (by omega) (ev_bindc b1 (ev_bindc b2 (ev_pos ho (ev_pos hg (ev_bindc b3 (ev_pos (by omega) ?_))))))))
        rw[hed];exact he
      · obtain⟨r,i',h,he,hr,hcr⟩:=hd1 (dpA l (l.length-1)+1) (by omega)
        refine⟨r,i',h,ev_succ ?_,by rw[←em];exact hr,hcr⟩
        simp only[spec_l3Tree.l0,e1,rd_f1,e5]
        refine ev_pos (by omega) (ev_pos (by omega) (ev_pos (by omega) (ev_bindc b1 (ev_bindc b2 (ev_pos ho (ev_neg hg (ev_bindc b3 (ev_pos (by omega) ?_))))))))
        rw[hed];exact he
    · by_cases hg:1+x>12
      · obtain⟨r,i',h,he,hr,hcr⟩:=hd1 1 (by omega)
        refine⟨r,i',h,ev_succ ?_,by rw[←em];exact hr,hcr⟩
        simp only[spec_l3Tree.l0,e1,rd_f1,e5]
        refine ev_pos (by omega) (ev_pos (by omega) (ev_pos (by omega) (ev_bindc b1 (ev_bindc b2 (ev_neg ho ?_)))))
        simp only[e6]
        refine ev_pos hg (ev_bindc b3 (ev_pos (by omega) ?_))
        rw[hed];exact he
      · obtain⟨r,i',h,he,hr,hcr⟩:=hd1 (1+x) (by omega)
        refine⟨r,i',h,ev_succ ?_,by rw[←em];exact hr,hcr⟩
        simp only[spec_l3Tree.l0,e1,rd_f1,e5]
        refine ev_pos (by omega) (ev_pos (by omega) (ev_pos (by omega) (ev_bindc b1 (ev_bindc b2 (ev_neg ho ?_)))))
        simp only[e6]
        refine ev_neg hg (ev_bindc b3 (ev_pos (by omega) ?_))
        rw[hed];exact he
theorem l3Tree_ok (s:List Int) (i h0:Int) (most:Nat) (hm:most≤900) (hc:Cur s i):∃r i' h,Ev (fun k=>spec_l3Tree.f k s i h0 (most:Int)) (r,i',h)∧Drawn r (most+1)∧Cur s i':=by
  obtain⟨y,i1,h1,b1,hy,hc1⟩:=l2Label_ok s i h0 hc
  obtain⟨x,i2,h2,b2,hx0,hx1,hx2,hc2⟩:=l1Below_ok s i1 h1 (most:Int) hc1
  have hxm:x≤(most:Int):=by
    rcases Nat.eq_zero_or_pos most with h|h
    · have:=hx2 (by omega);omega
    · have:=hx1 (by omega);omega
  obtain⟨r,i',h,he,hr,hcr⟩:=l3Tree_l0 s hc.2 x.toNat [⟨y,0⟩] i2 h2 1 ⟨by simp,by simp,fun z hz=>by
    rw[List.mem_singleton.1 hz];exact⟨hy,by show (0:Int)≤0;omega,by show (0:Int)≤12;omega⟩⟩ (by omega) hc2
  rw[Int.toNat_of_nonneg hx0] at he
  refine⟨r,i',h,?_,⟨hr.1,by have:=hr.2.1;omega,hr.2.2⟩,hcr⟩
  simp only[spec_l3Tree.f]
  exact ev_bindc b1 (ev_bindc b2 he)

/-! #### spec_l1PickInt -/
theorem l1PickInt_ok (s:List Int) (i h0:Int) (l:List Int) (hl:0<l.length) (hc:Cur s i):∃(j:Nat) (i' h:Int),spec_l1PickInt.f s i h0 l=some (rd l (j:Int),i',h)∧j<l.length∧Cur s i':=by
  unfold spec_l1PickInt.f
  obtain⟨x,i',h,e,h1,h2,_,hc'⟩:=l1Below_ok s i h0 (l.length:Int) hc
  have h3:=h2 (by omega)
  rw[e]
  simp only[Option.bind_some]
  rw[if_pos h1,if_pos h3]
  refine⟨x.toNat,i',h,?_,by omega,hc'⟩
  rw[Int.toNat_of_nonneg h1]

/-! #### spec_l2Any -/
theorem l2Any_ok (s:List Int) (i h0:Int) (hc:Cur s i):∃x i' h,spec_l2Any.f s i h0=some (x,i',h)∧Cur s i':=by
  unfold spec_l2Any.f
  obtain⟨j,i',h,e,_,hc'⟩:=l1PickInt_ok s i h0 [0,1,2,3,5,6,(-1)] (by simp) hc
  rw[e]
  exact⟨_,_,_,rfl,hc'⟩

/-! #### spec_l3Any -/
theorem l3Any_l0 (s:List Int):∀(d:Nat) (l:List S61) (i h0:Int),26≤l.length+d→l.length≤1000→Cur s i→∃r i' h,Ev (fun k=>spec_l3Any.l0 k l s i h0) (r,i',h)∧r.length≤max l.length 26∧Cur s i':=by
  intro d
  induction d with
  | zero=>
    intro l i h0 h hl hc
    obtain⟨x,i1,h1,b1,hx0,hx1,_,hc1⟩:=l1Below_ok s i h0 2 hc
    have hx:=hx1 (by omega)
    refine⟨l,i1,h1,ev_succ ?_,by omega,hc1⟩
    simp only[spec_l3Any.l0]
    refine ev_bindc b1 (ev_neg ?_ (Ev.now _))
    show ¬(l.length:Int)<wrap64 (24+x)
    rw[w64 (by omega) (by omega)];omega
  | succ d ih=>
    intro l i h0 h hl hc
    obtain⟨x,i1,h1,b1,hx0,hx1,_,hc1⟩:=l1Below_ok s i h0 2 hc
    have hx:=hx1 (by omega)
    by_cases hlt:(l.length:Int)<wrap64 (24+x)
    · have hlt2:=hlt
      rw[w64 (x:=24+x) (by omega) (by omega)] at hlt2
      obtain⟨r,i',h',he,hr,hcr⟩:=ih (l++[⟨1,1⟩]) i1 h1 (by simp;omega) (by simp;omega) hc1
      refine⟨r,i',h',ev_succ ?_,by simp only[List.length_append,List.length_singleton] at hr;omega,hcr⟩
      simp only[spec_l3Any.l0]
      exact ev_bindc b1 (ev_pos hlt (ev_pos (by omega) he))
    · refine⟨l,i1,h1,ev_succ ?_,by omega,hc1⟩
      simp only[spec_l3Any.l0]
      exact ev_bindc b1 (ev_neg hlt (Ev.now _))
theorem l3Any_l1 (s:List Int):∀(d:Nat) (l:List S61) (i h0:Int),26≤l.length+d→l.length≤1000→Cur s i→∃r i' h,Ev (fun k=>spec_l3Any.l1 k l s i h0) (r,i',h)∧r.length≤max l.length 26∧Cur s i':=by
  intro d
  induction d with
  | zero=>
    intro l i h0 h hl hc
    obtain⟨x,i1,h1,b1,hx0,hx1,_,hc1⟩:=l1Below_ok s i h0 2 hc
    have hx:=hx1 (by omega)
    refine⟨l,i1,h1,ev_succ ?_,by omega,hc1⟩
    simp only[spec_l3Any.l1]
    refine ev_bindc b1 (ev_neg ?_ (Ev.now _))
    show ¬(l.length:Int)<wrap64 (13+x)
    rw[w64 (by omega) (by omega)];omega
  | succ d ih=>
    intro l i h0 h hl hc
    obtain⟨x,i1,h1,b1,hx0,hx1,_,hc1⟩:=l1Below_ok s i h0 2 hc
    have hx:=hx1 (by omega)
    by_cases hlt:(l.length:Int)<wrap64 (13+x)
    · have hlt2:=hlt
      rw[w64 (x:=13+x) (by omega) (by omega)] at hlt2
      obtain⟨r,i',h',he,hr,hcr⟩:=ih (l++[⟨0,(l.length:Int)⟩]) i1 h1 (by simp;omega) (by simp;omega) hc1
      refine⟨r,i',h',ev_succ ?_,by simp only[List.length_append,List.length_singleton] at hr;omega,hcr⟩
      simp only[spec_l3Any.l1]
      exact ev_bindc b1 (ev_pos hlt (ev_pos (by omega) he))
    · refine⟨l,i1,h1,ev_succ ?_,by omega,hc1⟩
      simp only[spec_l3Any.l1]
      exact ev_bindc b1 (ev_neg hlt (Ev.now _))
theorem l3Any_ok (s:List Int) (i h0:Int) (most:Nat) (hm:most≤900) (hc:Cur s i):∃r i' h,Ev (fun k=>spec_l3Any.f k s i h0 (most:Int)) (r,i',h)∧r.length≤1000∧Cur s i':=by
  obtain⟨t,i1,h1,b1,ht,hc1⟩:=l3Tree_ok s i h0 most hm hc
  have ht0:=ht.1
  have htl:=ht.2.1
  obtain⟨x,i2,h2,b2,hx0,hx1,_,hc2⟩:=l1Below_ok s i1 h1 (t.length:Int) hc1
  have hx:=hx1 (by omega)
  obtain⟨y,i3,h3,b3,hy0,hy1,_,hc3⟩:=l1Below_ok s i2 h2 18 hc2
  by_cases c0:y=0
  · obtain⟨z,i4,h4,b4,hc4⟩:=l2Any_ok s i3 h3 hc3
    refine⟨t.set x.toNat ⟨z,(rd_T61 t x).f1⟩,i4,h4,?_,?_,hc4⟩
    · simp only[spec_l3Any.f]
      exact ev_bind b1 (ev_bindc b2 (ev_bindc b3 (ev_pos c0 (ev_bindc b4 (ev_pos hx0 (ev_pos hx (Ev.now _)))))))
    · simp only[List.length_set];omega
  · by_cases c1:y=1
    · obtain⟨j,i4,h4,b4,_,hc4⟩:=l1PickInt_ok s i3 h3 [(-1),0,1,13,wrap64 ((rd_T61 t x).f1+1)] (by simp) hc3
      refine⟨t.set x.toNat ⟨(rd_T61 t x).f0,rd [(-1),0,1,13,wrap64 ((rd_T61 t x).f1+1)] (j:Int)⟩,i4,h4,?_,?_,hc4⟩
      · simp only[spec_l3Any.f]
        exact ev_bind b1 (ev_bindc b2 (ev_bindc b3 (ev_neg c0 (ev_pos c1 (ev_pos hx0 (ev_pos hx (ev_bindc b4 (Ev.now _))))))))
      · simp only[List.length_set];omega
    · by_cases c2:y=2
      · refine⟨t.drop (1:Int).toNat,i3,h3,?_,?_,hc3⟩
        · simp only[spec_l3Any.f]
          exact ev_bind b1 (ev_bindc b2 (ev_bindc b3 (ev_neg c0 (ev_neg c1 (ev_pos c2 (ev_pos (by dsimp only;omega) (Ev.now _)))))))
        · rw[List.length_drop];omega
      · by_cases c3:y=3
        · obtain⟨r,i',h',he,hr,hcr⟩:=l3Any_l0 s 26 t i3 h3 (by omega) (by omega) hc3
          refine⟨r,i',h',?_,by omega,hcr⟩
          simp only[spec_l3Any.f]
          exact ev_bind b1 (ev_bindc b2 (ev_bindc b3 (ev_neg c0 (ev_neg c1 (ev_neg c2 (ev_pos c3 he))))))
        · by_cases c4:y=4
          · obtain⟨r,i',h',he,hr,hcr⟩:=l3Any_l1 s 26 [⟨0,0⟩] i3 h3 (by simp) (by simp) hc3
            refine⟨r,i',h',?_,by simp only[List.length_singleton] at hr;omega,hcr⟩
            simp only[spec_l3Any.f]
            exact ev_bind b1 (ev_bindc b2 (ev_bindc b3 (ev_neg c0 (ev_neg c1 (ev_neg c2 (ev_neg c3 (ev_pos c4 he)))))))
          · refine⟨t,i3,h3,?_,by omega,hc3⟩
            simp only[spec_l3Any.f]
            exact ev_bind b1 (ev_bindc b2 (ev_bindc b3 (ev_neg c0 (ev_neg c1 (ev_neg c2 (ev_neg c3 (ev_neg c4 (Ev.now _))))))))

/-! #### spec_l3Copy -/
theorem l3Copy_eq (l:List S61) (h:l.length<8796093022208):spec_l3Copy.f l=some l:=by
  unfold spec_l3Copy.f
  simp only[Option.bind_some,List.nil_append,List.length_nil]
  rw[if_pos (by omega)]

/-! #### spec_l3Near -/
theorem l3Near_end (s:List Int) (l:List S61) (n i h0:Int) (hl:l.length≤100000) (hc:Cur s i):∃r i' h,Ev (fun k=>spec_l3Near.j1 k l n false s i h0) (r,i',h)∧r.length≤max l.length 1000∧Cur s i':=by
  by_cases ht:treeOk l=true
  · refine⟨l,i,h0,ev_succ ?_,by omega,hc⟩
    simp only[spec_l3Near.j1]
    exact ev_neg (by decide) (ev_bind (spec_TreeOk_ev l (by omega)) (ev_pos ht (Ev.now _)))
  · obtain⟨r,i',h',he,hr,hcr⟩:=l3Tree_ok s i h0 8 (by omega) hc
    have:=hr.2.1
    refine⟨r,i',h',ev_succ ?_,by omega,hcr⟩
    simp only[spec_l3Near.j1]
    exact ev_neg (by decide) (ev_bind (spec_TreeOk_ev l (by omega)) (ev_neg ht (ev_bind he (Ev.now _))))
theorem l3Near_l0 (s:List Int):∀(d:Nat) (l:List S61) (i h0:Int),l.length+d≤100000→Cur s i→∃r i' h,Ev (fun k=>spec_l3Near.l0 k l (d:Int) s i h0) (r,i',h)∧r.length≤max (l.length+d) 1000∧Cur s i':=by
  intro d
  induction d with
  | zero=>
    intro l i h0 hl hc
    obtain⟨r,i',h',he,hr,hcr⟩:=l3Near_end s l ((0:Nat):Int) i h0 (by omega) hc
    refine⟨r,i',h',ev_succ ?_,by omega,hcr⟩
    simp only[spec_l3Near.l0]
    exact ev_neg (by omega) he
  | succ d ih =>
    intro l i h0 hl hc
    by_cases h0l:(l.length:Int)>0
    · have hed:wrap64 (((d+1:Nat):Int)-1)=(d:Int):=by rw[w64 (by omega) (by omega)];omega
      obtain⟨x,i1,h1,b1,hx0,hx1,_,hc1⟩:=l1Below_ok s i h0 (l.length:Int) hc
      have hx:=hx1 (by omega)
      obtain⟨y,i2,h2,b2,hy0,hy1,_,hc2⟩:=l1Below_ok s i1 h1 3 hc1
      by_cases c0:y=0
      · obtain⟨z,i3,h3,b3,_,hc3⟩:=l2Label_ok s i2 h2 hc2
        obtain⟨r,i',h',he,hr,hcr⟩:=ih (l.set x.toNat ⟨z,(rd_T61 l x).f1⟩) i3 h3 (by rw[List.length_set];omega) hc3
        rw[List.length_set] at hr
        refine⟨r,i',h',ev_succ ?_,by omega,hcr⟩
        simp only[spec_l3Near.l0]
        refine ev_pos (by omega) ?_
        rw[decide_eq_true h0l]
        refine ev_succ ?_
        simp only[spec_l3Near.j1]
        refine ev_pos trivial (ev_bindc b1 (ev_bindc b2 (ev_pos c0 (ev_bindc b3 (ev_pos hx0 (ev_pos hx ?_))))))
        rw[hed];exact he
      · by_cases c1:y=1
        · by_cases c2:x>0
          · by_cases c3:(l.length:Int)>1
            · have ht:(l.take x.toNat).length≤l.length:=by rw[List.length_take];omega
              have e1:wrap64 (x+1)=x+1:=w64 (by omega) (by omega)
              have hlen:(l.take x.toNat++l.drop (x+1).toNat).length≤l.length:=by rw[List.length_append,List.length_take,List.length_drop];omega
              obtain⟨r,i',h',he,hr,hcr⟩:=ih (l.take x.toNat++l.drop (x+1).toNat) i2 h2 (by omega) hc2
              refine⟨r,i',h',ev_succ ?_,by omega,hcr⟩
              simp only[spec_l3Near.l0]
              refine ev_pos (by omega) ?_
              rw[decide_eq_true h0l]
              refine ev_succ ?_
              simp only[spec_l3Near.j1,e1]
              refine ev_pos trivial (ev_bindc b1 (ev_bindc b2 (ev_neg c0 (ev_pos c1 (ev_pos c2 (ev_pos c3 (ev_pos hx0 (ev_pos (by omega) ?_))))))))
              refine ev_bindc (l3Copy_eq _ (by dsimp only;omega)) ?_
              simp only[e1]
              refine ev_pos (by omega) (ev_pos (by omega) (ev_bindc rfl (ev_pos (by rw[List.length_append] at hlen;omega) ?_)))
              rw[hed];exact he
            · obtain⟨r,i',h',he,hr,hcr⟩:=ih l i2 h2 (by omega) hc2
              refine⟨r,i',h',ev_succ ?_,by omega,hcr⟩
              simp only[spec_l3Near.l0]
              refine ev_pos (by omega) ?_
              rw[decide_eq_true h0l]
              refine ev_succ ?_
              simp only[spec_l3Near.j1]
              refine ev_pos trivial (ev_bindc b1 (ev_bindc b2 (ev_neg c0 (ev_pos c1 (ev_pos c2 (ev_neg c3 ?_))))))
              rw[hed];exact he
          · obtain⟨r,i',h',he,hr,hcr⟩:=ih l i2 h2 (by omega) hc2
            refine⟨r,i',h',ev_succ ?_,by omega,hcr⟩
            simp only[spec_l3Near.l0]
            refine ev_pos (by omega) ?_
            rw[decide_eq_true h0l]
            refine ev_succ ?_
            simp only[spec_l3Near.j1]
            refine ev_pos trivial (ev_bindc b1 (ev_bindc b2 (ev_neg c0 (ev_pos c1 (ev_neg c2 ?_)))))
            rw[hed];exact he
        · obtain⟨z,i3,h3,b3,_,hc3⟩:=l2Label_ok s i2 h2 hc2
          have e1:wrap64 ((l.length:Int)-1)=(l.length:Int)-1:=w64 (by omega) (by omega)
          obtain⟨v,i4,h4,b4,_,_,_,hc4⟩:=l1Below_ok s i3 h3 (wrap64 ((rd_T61 l ((l.length:Int)-1)).f1+1)) hc3
          obtain⟨r,i',h',he,hr,hcr⟩:=ih (l++[⟨z,wrap64 (1+v)⟩]) i4 h4 (by simp;omega) hc4
          simp only[List.length_append,List.length_singleton] at hr
          refine⟨r,i',h',ev_succ ?_,by omega,hcr⟩
          simp only[spec_l3Near.l0]
          refine ev_pos (by omega) ?_
          rw[decide_eq_true h0l]
          refine ev_succ ?_
          simp only[spec_l3Near.j1,e1]
          refine ev_pos trivial (ev_bindc b1 (ev_bindc b2 (ev_neg c0 (ev_neg c1 (ev_bindc (l3Copy_eq _ (by omega)) (ev_bindc b3 (ev_pos (by omega) (ev_pos (by omega) (ev_bindc b4 (ev_pos (by omega) ?_))))))))))
          rw[hed];exact he
    · obtain⟨r,i',h',he,hr,hcr⟩:=l3Near_end s l ((d+1:Nat):Int) i h0 (by omega) hc
      refine⟨r,i',h',ev_succ ?_,by omega,hcr⟩
      simp only[spec_l3Near.l0]
      refine ev_pos (by omega) ?_
      rw[decide_eq_false h0l]
      exact he
theorem l3Near_ok (s:List Int) (i h0:Int) (l:List S61) (hl:l.length≤90000) (hc:Cur s i):∃r i' h,Ev (fun k=>spec_l3Near.f k s i h0 l) (r,i',h)∧r.length≤max (l.length+3) 1000∧Cur s i':=by
  obtain⟨x,i1,h1,b1,hx0,hx1,_,hc1⟩:=l1Below_ok s i h0 3 hc
  have hx:=hx1 (by omega)
  obtain⟨r,i',h',he,hr,hcr⟩:=l3Near_l0 s (1+x).toNat l i1 h1 (by omega) hc1
  rw[Int.toNat_of_nonneg (by omega)] at he
  refine⟨r,i',h',?_,by omega,hcr⟩
  simp only[spec_l3Near.f]
  refine ev_bindc (l3Copy_eq l (by omega)) (ev_bindc b1 ?_)
  show Ev (fun k=>spec_l3Near.l0 k l (wrap64 (1+x)) s i1 h1) _
  rw[w64 (by omega) (by omega)]
  exact he

/-! #### spec_SameTree -/
theorem spec_SameTree_l0 (a b:List S61) (hl:a.length=b.length) (hm:(a.length:Int)≤9223372036854775806):∀(d i:Nat),i+d=a.length→Ev (fun k=>spec_SameTree.l0 k a b (i:Int)) (sameFrom a b i):=by
  intro d
  induction d with
  | zero=>
    intro i h
    refine ev_succ ?_
    simp only[spec_SameTree.l0]
    exact ev_neg (by omega) (ev_some (sameFrom_end (by omega)).symm)
  | succ d ih=>
    intro i h
    refine ev_succ ?_
    simp only[spec_SameTree.l0]
    simp only[rd_f0,rd_f1,same_cond]
    refine ev_pos (by omega) (ev_pos (by omega) (ev_pos (by omega) ?_))
    rw[sameFrom_step (by omega),w64 (by omega) (by omega)]
    by_cases hc:lbA a i=lbA b i∧dpA a i=dpA b i
    · refine ev_neg (by simpa using hc) ?_
      rw[decide_eq_true hc,Bool.true_and]
      exact ih (i+1) (by omega)
    · refine ev_pos hc (ev_some ?_)
      rw[decide_eq_false hc,Bool.false_and]
theorem spec_SameTree_ev (a b:List S61) (hm:(a.length:Int)≤9223372036854775806):Ev (fun k=>spec_SameTree.f k a b) (sameT a b):=by
  simp only[spec_SameTree.f]
  by_cases h:a.length=b.length
  · refine ev_pos (by omega) ?_
    rw[←sameFrom_zero h]
    exact spec_SameTree_l0 a b h hm a.length 0 (by omega)
  · refine ev_neg (by omega) (ev_some ?_)
    symm
    exact cdec_false (fun e=>h (by rw[e]))

/-! #### spec_UnitCost -/
theorem UnitCost_l1 {r:List Int×List Int×List Int} (i i':Int) (hi:wrap64 (i+1)=i') (a b:List Int):∀(d j:Nat) (c:List Int),j+d=6→c.length+d≤100→Ev (fun k=>spec_UnitCost.l0 k i' a b (c++(List.range' j d).map (fun x:Nat=>if i=(x:Int) then (0:Int) else 1))) r→Ev (fun k=>spec_UnitCost.l1 k i (j:Int) a b c) r:=by
  intro d
  induction d with
  | zero=>
    intro j c h hc hr
    refine ev_succ ?_
    simp only[spec_UnitCost.l1]
    rw[hi]
    refine ev_neg (by omega) ?_
    simpa using hr
  | succ d ih=>
    intro j c h hc hr
    refine ev_succ ?_
    simp only[spec_UnitCost.l1]
    rw[List.range'_succ,List.map_cons] at hr
    rw[w64 (x:=(j:Int)+1) (by omega) (by omega)]
    refine ev_pos (by omega) ?_
    by_cases he:i=(j:Int)
    · rw[if_pos he] at hr
      refine ev_pos he (ev_pos (by omega) (ih (j+1) _ (by omega) ?_ ?_))
      · rw[List.length_append,List.length_singleton];omega
      · rw[List.append_assoc,List.singleton_append];exact hr
    · rw[if_neg he] at hr
      refine ev_neg he (ev_pos (by omega) (ih (j+1) _ (by omega) ?_ ?_))
      · rw[List.length_append,List.length_singleton];omega
      · rw[List.append_assoc,List.singleton_append];exact hr
theorem UnitCost_ev:Ev (fun k=>spec_UnitCost.f k) (unitD,unitD,unitR):=by
  simp only[spec_UnitCost.f]
  refine ev_succ ?_
  simp only[spec_UnitCost.l0]
  refine ev_pos (by decide) (ev_pos (by decide) (ev_pos (by decide) (UnitCost_l1 0 1 (by unfold wrap64;omega) _ _ 6 0 _ (by decide) (by decide) ?_)))
  refine ev_succ ?_
  simp only[spec_UnitCost.l0]
  refine ev_pos (by decide) (ev_pos (by decide) (ev_pos (by decide) (UnitCost_l1 1 2 (by unfold wrap64;omega) _ _ 6 0 _ (by decide) (by decide) ?_)))
  refine ev_succ ?_
  simp only[spec_UnitCost.l0]
  refine ev_pos (by decide) (ev_pos (by decide) (ev_pos (by decide) (UnitCost_l1 2 3 (by unfold wrap64;omega) _ _ 6 0 _ (by decide) (by decide) ?_)))
  refine ev_succ ?_
  simp only[spec_UnitCost.l0]
  refine ev_pos (by decide) (ev_pos (by decide) (ev_pos (by decide) (UnitCost_l1 3 4 (by unfold wrap64;omega) _ _ 6 0 _ (by decide) (by decide) ?_)))
  refine ev_succ ?_
  simp only[spec_UnitCost.l0]
  refine ev_pos (by decide) (ev_pos (by decide) (ev_pos (by decide) (UnitCost_l1 4 5 (by unfold wrap64;omega) _ _ 6 0 _ (by decide) (by decide) ?_)))
  refine ev_succ ?_
  simp only[spec_UnitCost.l0]
  refine ev_pos (by decide) (ev_pos (by decide) (ev_pos (by decide) (UnitCost_l1 5 6 (by unfold wrap64;omega) _ _ 6 0 _ (by decide) (by decide) ?_)))
  refine ev_succ ?_
  simp only[spec_UnitCost.l0]
  exact ev_neg (by decide) (ev_some rfl)

/-! #### _l7Cost -/
/-- costs of the right sizes -/
def CostL (x y z:List Int):Prop:=x.length=6∧y.length=6∧z.length=36
theorem l7Cost_l0 (s:List Int) (x y:List Int) (i h0:Int) (hc:Cur s i) (hx:x.length=6) (hy:y.length=6):∀(d j:Nat) (z:List Int),j+d=z.length→z.length=36→∃z',Ev (fun k=>spec_l7Cost.l0 k (j:Int) s i h0 x y z) (x,y,z',i,h0)∧CostL x y z':=by
  intro d
  induction d with
  | zero=>
    intro j z h hz
    refine⟨z,ev_succ ?_,hx,hy,hz⟩
    simp only[spec_l7Cost.l0]
    exact ev_neg (by omega) (Ev.now _)
  | succ d ih=>
    intro j z h hz
    obtain⟨z',e,hl⟩:=ih (j+1) (z.set ((j:Int)).toNat (wrap64 ((rd z (j:Int))*3))) (by rw[List.length_set];omega) (by rw[List.length_set];exact hz)
    refine⟨z',ev_succ ?_,hl⟩
    simp only[spec_l7Cost.l0]
    have e0:wrap64 ((j:Int)+1)=((j+1:Nat):Int):=by rw[w64 (by omega) (by omega)];omega
    rw[e0]
    clear e0
    exact ev_pos (by omega) (ev_pos (by omega) e)
theorem l7Cost_l2 (s:List Int) (p:Nat) (hp:p<6) (x y:List Int) (hx:x.length=6) (hy:y.length=6)
    (next:∀(i h0:Int) (z:List Int),Cur s i→z.length=36→∃x' y' z' i' h,Ev (fun k=>spec_l7Cost.l1 k ((p+1:Nat):Int) s i h0 x y z) (x',y',z',i',h)∧CostL x' y' z'∧Cur s i'):
    ∀(d j:Nat) (i h0:Int) (z:List Int),j+d=6→Cur s i→z.length=36→∃x' y' z' i' h,Ev (fun k=>spec_l7Cost.l2 k (p:Int) (j:Int) s i h0 x y z) (x',y',z',i',h)∧CostL x' y' z'∧Cur s i':=by
  intro d
  induction d with
  | zero=>
    intro j i h0 z hj hc hz
    obtain⟨x',y',z',i',h,e,hl,hc'⟩:=next i h0 z hc hz
    refine⟨x',y',z',i',h,ev_succ ?_,hl,hc'⟩
    simp only[spec_l7Cost.l2]
    have e0:wrap64 ((p:Int)+1)=((p+1:Nat):Int):=by rw[w64 (by omega) (by omega)];omega
    rw[e0]
    clear e0
    exact ev_neg (by omega) e
  | succ d ih=>
    intro j i h0 z hj hc hz
    have e0:PLift (wrap64 ((j:Int)+1)=((j+1:Nat):Int)):=⟨by rw[w64 (by omega) (by omega)];omega⟩
    by_cases c:p=j
    · obtain⟨x',y',z',i',h,e,hl,hc'⟩:=ih (j+1) i h0 z (by omega) hc hz
      refine⟨x',y',z',i',h,ev_succ ?_,hl,hc'⟩
      simp only[spec_l7Cost.l2]
      rw[e0.down]
      exact ev_pos (by omega) (ev_pos (by omega) e)
    · obtain⟨q,i1,h1,b1,_,hc1⟩:=l1PickInt_ok s i h0 [0,1,4,9,1000] (by simp) hc
      have e1:PLift (wrap64 ((wrap64 ((p:Int)*6))+(j:Int))=((p*6+j:Nat):Int)):=⟨by rw[w64 (x:=(p:Int)*6) (by omega) (by omega),w64 (by omega) (by omega)];omega⟩
      obtain⟨x',y',z',i',h,e,hl,hc'⟩:=ih (j+1) i1 h1 (z.set (((p*6+j:Nat):Int)).toNat (rd [0,1,4,9,1000] (q:Int))) (by omega) hc1 (by rw[List.length_set];exact hz)
      refine⟨x',y',z',i',h,ev_succ ?_,hl,hc'⟩
      simp only[spec_l7Cost.l2]
      rw[e0.down,e1.down]
      exact ev_pos (by omega) (ev_neg (by omega) (ev_bindc b1 (ev_pos (by omega) (ev_pos (by omega) e))))
theorem l7Cost_l1 (s:List Int):∀(d p:Nat) (i h0:Int) (x y z:List Int),p+d=6→Cur s i→CostL x y z→∃x' y' z' i' h,Ev (fun k=>spec_l7Cost.l1 k (p:Int) s i h0 x y z) (x',y',z',i',h)∧CostL x' y' z'∧Cur s i':=by
  intro d
  induction d with
  | zero=>
    intro p i h0 x y z hp hc hl
    refine⟨x,y,z,i,h0,ev_succ ?_,hl,hc⟩
    simp only[spec_l7Cost.l1]
    exact ev_neg (by omega) (Ev.now _)
  | succ d ih=>
    intro p i h0 x y z hp hc hl
    obtain⟨hx,hy,hz⟩:=hl
    obtain⟨u,i1,h1,b1,_,_,_,hc1⟩:=l1Below_ok s i h0 7 hc
    obtain⟨v,i2,h2,b2,_,_,_,hc2⟩:=l1Below_ok s i1 h1 7 hc1
    obtain⟨x',y',z',i',h,e,hl,hc'⟩:=l7Cost_l2 s p (by omega) (x.set ((p:Int)).toNat u) (y.set ((p:Int)).toNat v) (by rw[List.length_set];exact hx) (by rw[List.length_set];exact hy) (fun i h0 z hc hz=>ih (p+1) i h0 _ _ z (by omega) hc ⟨by rw[List.length_set];exact hx,by rw[List.length_set];exact hy,hz⟩) 6 0 i2 h2 z (by omega) hc2 hz
    refine⟨x',y',z',i',h,ev_succ ?_,hl,hc'⟩
    simp only[spec_l7Cost.l1]
    exact ev_pos (by omega) (ev_bindc b1 (ev_pos (by omega) (ev_pos (by omega) (ev_bindc b2 (ev_pos (by omega) e)))))
theorem l7Cost_ok (s:List Int) (i h0:Int) (hc:Cur s i):∃x y z i' h,Ev (fun k=>spec_l7Cost.f k s i h0) (x,y,z,i',h)∧CostL x y z∧Cur s i':=by
  obtain⟨t,i1,h1,b1,_,_,_,hc1⟩:=l1Below_ok s i h0 4 hc
  have hu:CostL unitD unitD unitR:=⟨rfl,rfl,rfl⟩
  simp only[spec_l7Cost.f]
  by_cases c0:t=0
  · exact⟨unitD,unitD,unitR,i1,h1,ev_bind UnitCost_ev (ev_bindc b1 (ev_pos c0 (Ev.now _))),hu,hc1⟩
  · by_cases c1:t=1
    · obtain⟨z',e,hl⟩:=l7Cost_l0 s unitD unitD i1 h1 hc1 rfl rfl 36 0 unitR rfl rfl
      exact⟨unitD,unitD,z',i1,h1,ev_bind UnitCost_ev (ev_bindc b1 (ev_neg c0 (ev_pos c1 e))),hl,hc1⟩
    · obtain⟨x',y',z',i',h,e,hl,hc'⟩:=l7Cost_l1 s 6 0 i1 h1 unitD unitD unitR (by omega) hc1 hu
      exact⟨x',y',z',i',h,ev_bind UnitCost_ev (ev_bindc b1 (ev_neg c0 (ev_neg c1 e))),hl,hc'⟩
theorem l7Any_ok (s:List Int) (i h0:Int) (hc:Cur s i):∃x y z i' h,Ev (fun k=>spec_l7Any.f k s i h0) (x,y,z,i',h)∧(x.length≤40∧y.length≤40∧z.length≤40)∧Cur s i':=by
  obtain⟨x,y,z,i1,h1,b1,⟨hx,hy,hz⟩,hc1⟩:=l7Cost_ok s i h0 hc
  obtain⟨t,i2,h2,b2,_,_,_,hc2⟩:=l1Below_ok s i1 h1 14 hc1
  simp only[spec_l7Any.f]
  by_cases c0:t=0
  · obtain⟨u,i3,h3,b3,u0,u1,_,hc3⟩:=l1Below_ok s i2 h2 6 hc2
    have u2:=u1 (by decide)
    obtain⟨q,i4,h4,b4,_,hc4⟩:=l1PickInt_ok s i3 h3 [(-1),1001,1000] (by simp) hc3
    exact⟨_,_,_,i4,h4,ev_bind b1 (ev_bindc b2 (ev_pos c0 (ev_bindc b3 (ev_bindc b4 (ev_pos u0 (ev_pos (by dsimp only;omega) (Ev.now _))))))),(by dsimp only;refine⟨?_,?_,?_⟩<;>(try simp only[List.length_set,List.length_take,List.length_drop])<;>omega),hc4⟩
  · by_cases c1:t=1
    · obtain⟨u,i3,h3,b3,u0,u1,_,hc3⟩:=l1Below_ok s i2 h2 36 hc2
      have u2:=u1 (by decide)
      exact⟨_,_,_,i3,h3,ev_bind b1 (ev_bindc b2 (ev_neg c0 (ev_pos c1 (ev_bindc b3 (ev_pos u0 (ev_pos (by dsimp only;omega) (Ev.now _))))))),(by dsimp only;refine⟨?_,?_,?_⟩<;>(try simp only[List.length_set,List.length_take,List.length_drop])<;>omega),hc3⟩
    · by_cases c2:t=2
      · exact⟨_,_,_,i2,h2,ev_bind b1 (ev_bindc b2 (ev_neg c0 (ev_neg c1 (ev_pos c2 (ev_pos (by dsimp only;omega) (Ev.now _)))))),(by dsimp only;refine⟨?_,?_,?_⟩<;>(try simp only[List.length_set,List.length_take,List.length_drop])<;>omega),hc2⟩
      · exact⟨_,_,_,i2,h2,ev_bind b1 (ev_bindc b2 (ev_neg c0 (ev_neg c1 (ev_neg c2 (Ev.now _))))),(by dsimp only;refine⟨?_,?_,?_⟩<;>(try simp only[List.length_set,List.length_take,List.length_drop])<;>omega),hc2⟩

end Go.Proofs.Ytbmkobanpakohaa.QFnNear
