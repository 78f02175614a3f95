/- Forests by places in the order in which each node is behind what is under it: the forest of a range of places, how its distance is told by smaller ranges, and the step of the table of key roots; plain numbers, each fact under the bounds that it names. -/
import Derived.Test.YtbmkobanpakohaaDist
namespace Go.Proofs.Ytbmkobanpakohaa.Dist
set_option linter.unusedVariables false
open Fo

/-- a tree by places: the first place under each, and the labels -/
structure PT where
  n:Nat
  la:Nat→Nat
  lab:Nat→Int
  le:∀p,p<n→la p≤p
  lam:∀p q,p<n→la p≤q→q≤p→la p≤la q

namespace PT
/-- the nodes of the places from i up to below j -/
def fo (T:PT) (i:Nat):Nat→Fo
  |0=>nil
  |j+1=>if j+1≤i then nil else snoc (fo T i (min j (max i (T.la j)))) (T.lab j) (fo T (min j (max i (T.la j))) j)
termination_by j=>j
decreasing_by all_goals omega

theorem fo_nil (T:PT) {i j:Nat} (h:j≤i):T.fo i j=nil:=by
  cases j with
  |zero=>rw[fo]
  |succ j=>rw[fo,if_pos h]

theorem fo_snoc (T:PT) {i j:Nat} (h:i≤j) (hj:j<T.n):T.fo i (j+1)=snoc (T.fo i (max i (T.la j))) (T.lab j) (T.fo (max i (T.la j)) j):=by
  have h1:=T.le j hj
  rw[fo,if_neg (by omega),show min j (max i (T.la j))=max i (T.la j) by omega]

/-- where no tree stands across x, the forest is what is ahead of x and what is behind -/
theorem fo_cut (T:PT) {i x:Nat} (hi:i≤x):∀j,x≤j→j≤T.n→(∀q,x≤q→q<j→x≤T.la q)→T.fo i j=app (T.fo i x) (T.fo x j):=by
  intro j
  induction j using Nat.strongRecOn with
  | ind j ih=>
    intro hx hn hc
    by_cases h:j=x
    · subst h
      rw[fo_nil T (Nat.le_refl j),app_nil]
    · obtain⟨q,rfl⟩:∃q,j=q+1:=⟨j-1,by omega⟩
      have h1:=T.le q (by omega)
      have h2:=hc q (by omega) (by omega)
      rw[fo_snoc T (by omega) (by omega),fo_snoc T (show x≤q by omega) (by omega),app]
      rw[show max i (T.la q)=T.la q by omega,show max x (T.la q)=T.la q by omega]
      rw[ih (T.la q) (by omega) h2 (by omega) (fun q' h3 h4=>hc q' h3 (by omega))]

theorem fo_split (T:PT) {i j:Nat} (h:i≤j) (hj:j<T.n):app (T.fo i (max i (T.la j))) (T.fo (max i (T.la j)) j)=T.fo i j:=by
  have h1:=T.le j hj
  by_cases h2:T.la j≤i
  · rw[show max i (T.la j)=i by omega,fo_nil T (Nat.le_refl i),nil_app]
  · rw[show max i (T.la j)=T.la j by omega]
    exact(fo_cut T (by omega) j h1 (by omega) (fun q h3 h4=>T.lam j q hj h3 (by omega))).symm

theorem size_fo (T:PT):∀j i,i≤j→j≤T.n→size (T.fo i j)=j-i:=by
  intro j
  induction j using Nat.strongRecOn with
  | ind j ih=>
    intro i h hn
    by_cases h0:j=i
    · subst h0
      rw[fo_nil T (Nat.le_refl j)]
      simp[size]
    · obtain⟨q,rfl⟩:∃q,j=q+1:=⟨j-1,by omega⟩
      have h1:=T.le q (by omega)
      rw[fo_snoc T (by omega) (by omega),size,ih (max i (T.la q)) (by omega) i (by omega) (by omega),ih q (by omega) (max i (T.la q)) (by omega) (by omega)]
      omega

variable (c:Costs) (A B:PT)
theorem d_ins {i k m:Nat} (hk:k≤m) (hm:m<B.n):dist c (A.fo i i) (B.fo k (m+1))=dist c (A.fo i i) (B.fo k m)+c.ins (B.lab m):=by
  rw[fo_nil A (Nat.le_refl i),fo_snoc B hk hm,dist_ns,fo_split B hk hm]
theorem d_del {i j k:Nat} (hi:i≤j) (hj:j<A.n):dist c (A.fo i (j+1)) (B.fo k k)=dist c (A.fo i j) (B.fo k k)+c.del (A.lab j):=by
  rw[fo_nil B (Nat.le_refl k),fo_snoc A hi hj,dist_sn,fo_split A hi hj]
theorem d_step {i j k m:Nat} (hi:i≤j) (hj:j<A.n) (hk:k≤m) (hm:m<B.n):dist c (A.fo i (j+1)) (B.fo k (m+1))=
    min (min (dist c (A.fo i j) (B.fo k (m+1))+c.del (A.lab j)) (dist c (A.fo i (j+1)) (B.fo k m)+c.ins (B.lab m)))
      (dist c (A.fo (max i (A.la j)) j) (B.fo (max k (B.la m)) m)+dist c (A.fo i (max i (A.la j))) (B.fo k (max k (B.la m)))+c.rel (A.lab j) (B.lab m)):=by
  have h1:=fo_snoc A hi hj
  have h2:=fo_snoc B hk hm
  rw[h1,h2,dist_ss,fo_split A hi hj,fo_split B hk hm]

/-- the tree at a place -/
def tr (T:PT) (p:Nat):Fo:=T.fo (T.la p) (p+1)
theorem tr_eq (T:PT) {p:Nat} (hp:p<T.n):T.tr p=snoc nil (T.lab p) (T.fo (T.la p) p):=by
  rw[tr,fo_snoc T (T.le p hp) hp,Nat.max_self,fo_nil T (Nat.le_refl _)]

/-- the table's step where both are on the left edge -/
theorem t_same {i j p q:Nat} (hp:p<A.n) (hq:q<B.n) (hi:A.la p=A.la i) (hj:B.la q=B.la j):dist c (A.fo (A.la i) (p+1)) (B.fo (B.la j) (q+1))=
    min (min (dist c (A.fo (A.la i) p) (B.fo (B.la j) (q+1))+c.del (A.lab p)) (dist c (A.fo (A.la i) (p+1)) (B.fo (B.la j) q)+c.ins (B.lab q)))
      (dist c (A.fo (A.la i) p) (B.fo (B.la j) q)+c.rel (A.lab p) (B.lab q)):=by
  have h1:=A.le p hp
  have h2:=B.le q hq
  rw[d_step c A B (by omega) hp (by omega) hq,hi,hj,Nat.max_self,Nat.max_self,fo_nil A (Nat.le_refl _),fo_nil B (Nat.le_refl (B.la j)),dist_nn,Int.add_zero]

/-- the table's step elsewhere -/
theorem t_other {i j p q:Nat} (hi:i<A.n) (hj:j<B.n) (hp:A.la i≤p) (hpi:p≤i) (hq:B.la j≤q) (hqj:q≤j):dist c (A.fo (A.la i) (p+1)) (B.fo (B.la j) (q+1))=
    min (min (dist c (A.fo (A.la i) p) (B.fo (B.la j) (q+1))+c.del (A.lab p)) (dist c (A.fo (A.la i) (p+1)) (B.fo (B.la j) q)+c.ins (B.lab q)))
      (dist c (A.fo (A.la i) (A.la p)) (B.fo (B.la j) (B.la q))+dist c (A.tr p) (B.tr q)):=by
  have h1:=A.lam i p hi hp hpi
  have h2:=B.lam j q hj hq hqj
  have e1:max (A.la i) (A.la p)=A.la p:=by omega
  have e2:max (B.la j) (B.la q)=B.la q:=by omega
  have s1:=fo_snoc A hp (show p<A.n by omega)
  have s2:=fo_snoc B hq (show q<B.n by omega)
  rw[e1] at s1
  rw[e2] at s2
  have f1:=fo_split A hp (show p<A.n by omega)
  have f2:=fo_split B hq (show q<B.n by omega)
  rw[e1] at f1
  rw[e2] at f2
  rw[s1,s2,dist_trees,tr_eq A (by omega),tr_eq B (by omega),f1,f2]
end PT
end Go.Proofs.Ytbmkobanpakohaa.Dist
