/- The places of a tree that is told as depths in preorder: where a node's descendants end, its kids, its parent; plain numbers, each fact under the bounds that it names. -/
namespace Go.Proofs.Ytbmkobanpakohaa.Tree
set_option linter.unusedVariables false

/-- from place j on the first that is n or not deeper than d -/
def eoFrom (n:Nat) (D:Nat→Int) (d:Int):Nat→Nat→Nat
  |0,j=>j
  |f+1,j=>if j<n∧d<D j then eoFrom n D d f (j+1) else j

/-- the place behind the last descendant of node i -/
def eo (n:Nat) (D:Nat→Int) (i:Nat):Nat:=eoFrom n D (D i) (n-(i+1)) (i+1)

theorem eoFrom_le (n:Nat) (D:Nat→Int) (d:Int):∀f j,j≤eoFrom n D d f j:=by
  intro f
  induction f with
  |zero=>intro j;exact Nat.le_refl _
  | succ f ih=>
    intro j
    rw[eoFrom]
    split
    · have:=ih (j+1);omega
    · exact Nat.le_refl _

theorem eoFrom_in (n:Nat) (D:Nat→Int) (d:Int):∀f j t,j≤t→t<eoFrom n D d f j→t<n∧d<D t:=by
  intro f
  induction f with
  |zero=>intro j t h1 h2;rw[eoFrom] at h2;omega
  | succ f ih=>
    intro j t h1 h2
    rw[eoFrom] at h2
    by_cases h:j<n∧d<D j
    · rw[if_pos h] at h2
      by_cases e:t=j
      · subst e;exact h
      · exact ih (j+1) t (by omega) h2
    · rw[if_neg h] at h2;omega

theorem eoFrom_end (n:Nat) (D:Nat→Int) (d:Int):∀f j,n≤j+f→eoFrom n D d f j<n→D (eoFrom n D d f j)≤d:=by
  intro f
  induction f with
  |zero=>intro j h1 h2;rw[eoFrom] at h2;omega
  | succ f ih=>
    intro j h1 h2
    rw[eoFrom] at h2⊢
    by_cases h:j<n∧d<D j
    · rw[if_pos h] at h2⊢;exact ih (j+1) (by omega) h2
    · rw[if_neg h] at h2⊢;omega

theorem eoFrom_le_n (n:Nat) (D:Nat→Int) (d:Int):∀f j,j≤n→eoFrom n D d f j≤n:=by
  intro f
  induction f with
  |zero=>intro j h;exact h
  | succ f ih=>
    intro j h
    rw[eoFrom]
    split
    · exact ih (j+1) (by omega)
    · exact h

section
variable {n:Nat} {D:Nat→Int} {i:Nat}

theorem eo_gt:i<eo n D i:=by have:=eoFrom_le n D (D i) (n-(i+1)) (i+1);unfold eo;omega
theorem eo_le (h:i<n):eo n D i≤n:=eoFrom_le_n n D (D i) _ _ (by omega)
theorem eo_in {t:Nat} (h1:i<t) (h2:t<eo n D i):D i<D t:=(eoFrom_in n D (D i) _ _ t (by omega) h2).2
theorem eo_end (h:eo n D i<n):D (eo n D i)≤D i:=eoFrom_end n D (D i) _ _ (by omega) h
/-- it is the only such place -/
theorem eo_eq {e:Nat} (h1:i<e) (h2:e≤n) (h3:∀t,i<t→t<e→D i<D t) (h4:e<n→D e≤D i):eo n D i=e:=by
  have a:=@eo_gt n D i
  have b:=@eo_le n D i (by omega)
  rcases Nat.lt_trichotomy (eo n D i) e with h|h|h
  · have:=h3 _ a h
    have:=eo_end (n:=n) (D:=D) (i:=i) (by omega)
    omega
  · exact h
  · have:=eo_in (n:=n) (D:=D) h1 h
    have:=h4 (by omega)
    omega
/-- descendants lie within -/
theorem eo_nest {j:Nat} (hi:i<n) (h1:i<j) (h2:j<eo n D i):eo n D j≤eo n D i:=by
  have hn:=@eo_le n D i hi
  have hj:j<n:=by omega
  rcases Nat.lt_or_ge (eo n D i) (eo n D j) with h|h
  · exfalso
    have a:=eo_in (n:=n) (D:=D) (i:=j) h2 h
    have b:=eo_in (n:=n) (D:=D) h1 h2
    have c:=@eo_le n D j hj
    have d:=eo_end (n:=n) (D:=D) (i:=i) (by omega)
    omega
  · exact h
end

/-- the kids of node i -/
def kids (n:Nat) (D:Nat→Int) (i:Nat):List Nat:=(List.range' (i+1) (eo n D i-(i+1))).filter fun k=>decide (D k=D i+1)

theorem mem_kids {n:Nat} {D:Nat→Int} {i k:Nat} :k ∈ kids n D i↔i<k∧k<eo n D i∧D k=D i+1:=by
  have:=@eo_gt n D i
  simp only[kids,List.mem_filter,List.mem_range'_1,decide_eq_true_eq]
  constructor
  · rintro⟨⟨a,b⟩,c⟩;exact⟨by omega,by omega,c⟩
  · rintro⟨a,b,c⟩;exact⟨⟨by omega,by omega⟩,c⟩

theorem kids_length {n:Nat} {D:Nat→Int} {i:Nat} :(kids n D i).length≤eo n D i-(i+1):=by
  have:=List.length_filter_le (fun k=>decide (D k=D i+1)) (List.range' (i+1) (eo n D i-(i+1)))
  simpa [kids] using this

/-- the depths of one tree: the first 0, each other one from 1 up to one more than that of the one ahead -/
def Vd (n:Nat) (D:Nat→Int):Prop:=1≤n∧D 0=0∧∀j,0<j→j<n→1≤D j∧D j≤D (j-1)+1

end Go.Proofs.Ytbmkobanpakohaa.Tree
