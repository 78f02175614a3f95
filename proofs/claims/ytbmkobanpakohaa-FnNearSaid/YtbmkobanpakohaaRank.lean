/- The places of a tree's nodes in the order in which each is behind what is under it: they are told by depths and ends, the walk over the kids names them in turn, and the first place under each; plain numbers, each fact under the bounds that it names. -/
import Derived.Test.YtbmkobanpakohaaPaths
import Derived.Test.YtbmkobanpakohaaPos
namespace Go.Proofs.Ytbmkobanpakohaa.Tree
set_option linter.unusedVariables false

/-- how many nodes stand left of node i -/
def lft (D:Nat→Int) (i:Nat):Nat:=i-(D i).toNat
/-- node i's place -/
def rnk (n:Nat) (D:Nat→Int) (i:Nat):Nat:=eo n D i-1-(D i).toNat
section
variable {n:Nat} {D:Nat→Int}
theorem dep_le (hv:Vd n D):∀i,i<n→0≤D i∧D i≤(i:Int):=by
  intro i
  induction i with
  |zero=>intro _;have:=hv.2.1;omega
  | succ i ih=>
    intro h
    have h1:=ih (by omega)
    have h2:=hv.2.2 (i+1) (by omega) h
    rw[show i+1-1=i by omega] at h2
    omega
theorem lft_succ (hv:Vd n D) {i:Nat} (h:i+1<n):lft D i≤lft D (i+1):=by
  have h1:=dep_le hv i (by omega)
  have h2:=hv.2.2 (i+1) (by omega) h
  rw[show i+1-1=i by omega] at h2
  unfold lft
  omega
theorem lft_mono (hv:Vd n D) {i j:Nat} (hij:i≤j) (h:j<n):lft D i≤lft D j:=by
  induction hij with
  |refl=>exact Nat.le_refl _
  |step h1 ih=>exact Nat.le_trans (ih (by omega)) (lft_succ hv h)
theorem lft_rnk (hv:Vd n D) {i:Nat} (hi:i<n):lft D i≤rnk n D i:=by
  have:=@eo_gt n D i
  unfold lft rnk
  omega
theorem rnk_lt (hv:Vd n D) {i:Nat} (hi:i<n):rnk n D i<n:=by
  have:=@eo_gt n D i
  have:=@eo_le n D i hi
  unfold rnk
  omega
/-- under: ahead -/
theorem rnk_under (hv:Vd n D) {i j:Nat} (hi:i<n) (h1:i<j) (h2:j<eo n D i):rnk n D j<rnk n D i:=by
  have h3:=eo_nest hi h1 h2
  have h4:=eo_in (n:=n) (D:=D) h1 h2
  have h5:=@eo_le n D i hi
  have h6:=dep_le hv i hi
  have h7:=dep_le hv j (by omega)
  have h8:=@eo_gt n D j
  unfold rnk
  omega
/-- left of: ahead, even of the first under -/
theorem rnk_left (hv:Vd n D) {i j:Nat} (hj:j<n) (h:eo n D i≤j):rnk n D i<lft D j:=by
  have h1:=@eo_gt n D i
  have h2:=eo_end (n:=n) (D:=D) (i:=i) (by omega)
  have h3:=dep_le hv i (by omega)
  have h4:=lft_mono hv h hj
  have h5:=dep_le hv (eo n D i) (by omega)
  unfold lft at h4
  unfold rnk lft
  omega
theorem rnk_inj (hv:Vd n D) {i j:Nat} (hi:i<n) (hj:j<n) (h:rnk n D i=rnk n D j):i=j:=by
  have key:∀i j,i<j→j<n→rnk n D i≠rnk n D j:=by
    intro i j h1 h2 h3
    by_cases h4:j<eo n D i
    · have:=rnk_under hv (by omega) h1 h4
      omega
    · have:=rnk_left hv h2 (show eo n D i≤j by omega)
      have:=lft_rnk hv h2
      omega
  rcases Nat.lt_trichotomy i j with h1|h1|h1
  · exact absurd h (key _ _ h1 hj)
  · exact h1
  · exact absurd h.symm (key _ _ h1 hi)

/-- the walk over the kids -/
def post (n:Nat) (D:Nat→Int):Nat→Nat→List Nat
  |0,_=>[]
  |f+1,i=>(kids n D i).flatMap (post n D f)++[i]
theorem kids_post (hv:Vd n D) {i:Nat} (hi:i<n) (g:Nat→List Nat) (hg:∀k,k ∈ kids n D i→(g k).map (rnk n D)=List.range' (lft D k) (eo n D k-k)):
    ((kids n D i).flatMap g).map (rnk n D)=List.range' (lft D i) (eo n D i-(i+1)):=by
  have hd0:=dep_le hv i hi
  have key:∀m j,eo n D i-j≤m→i<j→j≤eo n D i→(j<eo n D i→D j=D i+1)→
      (((List.range' j (eo n D i-j)).filter (fun k=>decide (D k=D i+1))).flatMap g).map (rnk n D)=List.range' (j-((D i).toNat+1)) (eo n D i-j):=by
    intro m
    induction m with
    | zero=>
      intro j h1 h2 h3 h4
      have e:eo n D i-j=0:=by omega
      rw[e];rfl
    | succ m ih=>
      intro j h1 h2 h3 h4
      by_cases hj:j<eo n D i
      · have hd:=h4 hj
        have g1:=@eo_gt n D j
        have ne:=eo_nest hi h2 hj
        have hl:lft D j=j-((D i).toNat+1):=by unfold lft;omega
        have hb:=dep_le hv j (by have:=@eo_le n D i hi;omega)
        rw[kids_from h2 hj hi hd,List.flatMap_cons,List.map_append,ih (eo n D j) (by omega) (by omega) ne (fun h=>next_kid hv h2 hj hi hd h),hg j (mem_kids.2 ⟨h2,hj,hd⟩),hl]
        rw[show eo n D j-((D i).toNat+1)=(j-((D i).toNat+1))+(eo n D j-j) by omega,List.range'_append_1,show eo n D j-j+(eo n D i-eo n D j)=eo n D i-j by omega]
      · have e:eo n D i-j=0:=by omega
        rw[e];rfl
  have h1:=@eo_gt n D i
  have h2:=key (eo n D i-(i+1)) (i+1) (Nat.le_refl _) (by omega) (by omega) (fun h=>first_kid hv hi h)
  rw[show i+1-((D i).toNat+1)=lft D i by unfold lft;omega] at h2
  exact h2
theorem post_rnk (hv:Vd n D):∀(f i:Nat),i<n→n-i≤f→(post n D f i).map (rnk n D)=List.range' (lft D i) (eo n D i-i):=by
  intro f
  induction f with
  |zero=>intro i hi hf;omega
  | succ f ih=>
    intro i hi hf
    have h1:=@eo_gt n D i
    have h2:=@eo_le n D i hi
    have h3:=dep_le hv i hi
    rw[post,List.map_append,kids_post hv hi (post n D f) (fun k hk=>by
      obtain⟨a,b,_⟩:=mem_kids.1 hk
      exact ih k (by omega) (by omega))]
    rw[show eo n D i-i=eo n D i-(i+1)+1 by omega,←List.range'_append_1]
    have e:rnk n D i=lft D i+(eo n D i-(i+1)):=by unfold rnk lft;omega
    simp[e]
theorem post_lt:∀(f i:Nat),i<n→∀x,x ∈ post n D f i→x<n:=by
  intro f
  induction f with
  |zero=>intro i hi x hx;cases hx
  | succ f ih=>
    intro i hi x hx
    rw[post,List.mem_append,List.mem_flatMap,List.mem_singleton] at hx
    rcases hx with ⟨k,hk,hx⟩|rfl
    · obtain⟨a,b,_⟩:=mem_kids.1 hk
      have:=@eo_le n D i hi
      exact ih k (by omega) x hx
    · exact hi

/-- the order as a list: the node at each place -/
structure Order (n:Nat) (D:Nat→Int) (p:List Nat):Prop where
  rnk:p.map (rnk n D)=List.range n
  lt:∀x,x ∈ p→x<n
theorem eo_root (hv:Vd n D):eo n D 0=n:=eo_eq hv.1 (Nat.le_refl n) (fun t h1 h2=>by
  have:=hv.2.2 t h1 h2
  have:=hv.2.1
  omega) (fun h=>absurd h (Nat.lt_irrefl n))
theorem post_order (hv:Vd n D):Order n D (post n D n 0):=⟨by
  rw[post_rnk hv n 0 hv.1 (by omega),eo_root hv,show lft D 0=0 by simp[lft],List.range_eq_range']
  rfl,post_lt n 0 hv.1⟩
namespace Order
variable {p:List Nat}
theorem len (h:Order n D p):p.length=n:=by
  have:=congrArg List.length h.rnk
  simpa using this
theorem at_ (h:Order n D p) {k:Nat} (hk:k<n):p.getD k 0<n∧Tree.rnk n D (p.getD k 0)=k:=by
  have hl:=h.len
  have h1:p[k]? =some (p.getD k 0):=by rw[List.getD_eq_getElem?_getD,List.getElem?_eq_getElem (by omega)];rfl
  refine⟨h.lt _ (List.mem_of_getElem? h1),?_⟩
  have h2:=congrArg (fun l=>l[k]?) h.rnk
  simp only[List.getElem?_map,h1,Option.map_some,List.getElem?_range hk] at h2
  exact Option.some.inj h2
theorem one (hv:Vd n D) (h:Order n D p) {q:List Nat} (h':Order n D q):p=q:=by
  apply List.ext_getElem?
  intro k
  by_cases hk:k<n
  · have a:=h.at_ hk
    have b:=h'.at_ hk
    have hp:p[k]? =some (p.getD k 0):=by rw[List.getD_eq_getElem?_getD,List.getElem?_eq_getElem (by have:=h.len;omega)];rfl
    have hq:q[k]? =some (q.getD k 0):=by rw[List.getD_eq_getElem?_getD,List.getElem?_eq_getElem (by have:=h'.len;omega)];rfl
    rw[hp,hq,rnk_inj hv a.1 b.1 (a.2.trans b.2.symm)]
  · rw[List.getElem?_eq_none (by have:=h.len;omega),List.getElem?_eq_none (by have:=h'.len;omega)]
end Order
/-- the tree by places -/
def pt (hv:Vd n D) (p:List Nat) (ho:Order n D p) (lab:Nat→Int):Dist.PT where
  n:=n
  la:=fun k=>lft D (p.getD k 0)
  lab:=fun k=>lab (p.getD k 0)
  le:=fun k hk=>by
    obtain⟨h1,h2⟩:=ho.at_ hk
    have:=lft_rnk hv h1
    omega
  lam :=fun k q hk h1 h2=>by
    obtain⟨a1,a2⟩:=ho.at_ hk
    obtain⟨b1,b2⟩:=ho.at_ (show q<n by omega)
    rcases Nat.lt_or_ge (p.getD q 0) (p.getD k 0) with h|h
    · exfalso
      by_cases h3:p.getD k 0<eo n D (p.getD q 0)
      · have:=rnk_under hv b1 h h3
        omega
      · have:=rnk_left hv a1 (show eo n D (p.getD q 0)≤p.getD k 0 by omega)
        omega
    · exact lft_mono hv h b1
/-- the first leaf under i: from i down the first kids -/
theorem leaf_rnk (hv:Vd n D) {i t:Nat} (hi:i<n) (ht:i+t<eo n D i) (hd:D (i+t)=D i+(t:Int)) (hs:¬(i+t+1<eo n D i∧D (i+t+1)=D (i+t)+1)):rnk n D (i+t)=lft D i:=by
  have h1:=@eo_le n D i hi
  have h2:=dep_le hv i hi
  have he:eo n D (i+t)=i+t+1:=by
    by_cases h:i+t+1<eo n D i
    · have h3:=(hv.2.2 (i+t+1) (by omega) (by omega)).2
      rw[show i+t+1-1=i+t by omega] at h3
      refine eo_eq (by omega) (by omega) (fun t' a b=>by omega) (fun _=>?_)
      have h4:D (i+t+1)≠D (i+t)+1:=fun e=>hs ⟨h,e⟩
      omega
    · by_cases h0:t=0
      · subst h0
        have:=@eo_gt n D i
        simp only[Nat.add_zero] at*
        omega
      · have h3:=eo_nest hi (show i<i+t by omega) ht
        have:=@eo_gt n D (i+t)
        omega
  unfold rnk lft
  rw[he]
  omega
end
end Go.Proofs.Ytbmkobanpakohaa.Tree
