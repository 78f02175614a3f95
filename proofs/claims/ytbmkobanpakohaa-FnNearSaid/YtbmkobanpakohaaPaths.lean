/- The path of a node leads to it and no other path does; kids one behind the other; plain numbers, each fact under the bounds that it names. -/
import Derived.Test.YtbmkobanpakohaaTree
namespace Go.Proofs.Ytbmkobanpakohaa.Tree
set_option linter.unusedVariables false

/-- from a kid on: the kid, and the kids from its end on -/
theorem kids_from {n:Nat} {D:Nat→Int} {i j:Nat} (h1:i<j) (h2:j<eo n D i) (hi:i<n) (hd:D j=D i+1):
    (List.range' j (eo n D i-j)).filter (fun k=>decide (D k=D i+1))=j::(List.range' (eo n D j) (eo n D i-eo n D j)).filter (fun k=>decide (D k=D i+1)):=by
  have g:=@eo_gt n D j
  have ne:=eo_nest hi h1 h2
  have e1:eo n D i-j=1+((eo n D j-(j+1))+(eo n D i-eo n D j)):=by omega
  have key:(List.range' (j+1) (eo n D j-(j+1))).filter (fun k=>decide (D k=D i+1))=[]:=by
    rw[List.filter_eq_nil_iff]
    intro t ht
    rw[List.mem_range'_1] at ht
    have:=eo_in (n:=n) (D:=D) (i:=j) (t:=t) (by omega) (by omega)
    simp only[decide_eq_true_eq]
    omega
  rw[e1,←List.range'_append_1,List.filter_append,←List.range'_append_1,List.filter_append,key]
  have e2:j+1+(eo n D j-(j+1))=eo n D j:=by omega
  rw[e2]
  simp[hd]

/-- in a tree: the place behind a kid's end is a kid, or the node's own end -/
theorem next_kid {n:Nat} {D:Nat→Int} {i j:Nat} (hv:Vd n D) (h1:i<j) (h2:j<eo n D i) (hi:i<n) (hd:D j=D i+1) (h:eo n D j<eo n D i):D (eo n D j)=D i+1:=by
  have g:=@eo_gt n D j
  have l:=@eo_le n D i hi
  have a:=eo_in (n:=n) (D:=D) (i:=i) (t:=eo n D j) (by omega) h
  have b:=eo_end (n:=n) (D:=D) (i:=j) (by omega)
  omega

theorem first_kid {n:Nat} {D:Nat→Int} {i:Nat} (hv:Vd n D) (hi:i<n) (h:i+1<eo n D i):D (i+1)=D i+1:=by
  have l:=@eo_le n D i hi
  have a:=eo_in (n:=n) (D:=D) (i:=i) (t:=i+1) (by omega) h
  have b:=(hv.2.2 (i+1) (by omega) (by omega)).2
  have e:i+1-1=i:=by omega
  rw[e] at b
  omega

end Go.Proofs.Ytbmkobanpakohaa.Tree
