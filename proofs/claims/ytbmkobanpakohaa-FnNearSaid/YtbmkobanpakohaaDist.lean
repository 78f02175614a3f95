/- The least cost between two ordered forests by the recursion over the last roots: it is the least over all ways to pair, so it is the same with all kids the other way round, and the same back with deletion and insertion exchanged; for all costs. -/
namespace Go.Proofs.Ytbmkobanpakohaa.Dist
set_option linter.unusedVariables false

/-- a forest: the trees ahead, the last root's label, the forest below it -/
inductive Fo where
  |nil:Fo
  |snoc:Fo→Int→Fo→Fo

namespace Fo
def app (F:Fo):Fo→Fo
  |nil=>F
  |snoc r v k=>snoc (app F r) v k
def size:Fo→Nat
  |nil=>0
  |snoc r v k=>size r+size k+1
theorem app_nil (F:Fo):app F nil=F:=rfl
theorem nil_app:∀F:Fo,app nil F=F
  |nil=>rfl
  |snoc r v k=>by rw[app,nil_app r]
theorem app_assoc (A B:Fo):∀C:Fo,app (app A B) C=app A (app B C)
  |nil=>rfl
  |snoc r v k=>by rw[app,app,app,app_assoc A B r]
theorem size_app (A:Fo):∀B:Fo,size (app A B)=size A+size B
  |nil=>rfl
  |snoc r v k=>by rw[app,size,size,size_app A r];omega
end Fo
open Fo

/-- what goes, what comes, what is renamed -/
structure Costs where
  del:Int→Int
  ins:Int→Int
  rel:Int→Int→Int

def dist (c:Costs):Fo→Fo→Int
  |nil,nil=>0
  |nil,snoc r w k=>dist c nil (app r k)+c.ins w
  |snoc r v k,nil=>dist c (app r k) nil+c.del v
  |snoc r v k,snoc r' w k'=>min (min (dist c (app r k) (snoc r' w k')+c.del v) (dist c (snoc r v k) (app r' k')+c.ins w)) (dist c k k'+dist c r r'+c.rel v w)
termination_by F G=>size F+size G
decreasing_by all_goals simp only[size,size_app]<;>omega

theorem dist_nn (c:Costs):dist c nil nil=0:=by rw[dist]
theorem dist_ns (c:Costs) (r:Fo) (w:Int) (k:Fo):dist c nil (snoc r w k)=dist c nil (app r k)+c.ins w:=by rw[dist]
theorem dist_sn (c:Costs) (r:Fo) (v:Int) (k:Fo):dist c (snoc r v k) nil=dist c (app r k) nil+c.del v:=by rw[dist]
theorem dist_ss (c:Costs) (r:Fo) (v:Int) (k:Fo) (r':Fo) (w:Int) (k':Fo):dist c (snoc r v k) (snoc r' w k')=min (min (dist c (app r k) (snoc r' w k')+c.del v) (dist c (snoc r v k) (app r' k')+c.ins w)) (dist c k k'+dist c r r'+c.rel v w):=by rw[dist]

theorem dist_del (c:Costs) (r:Fo) (v:Int) (k G:Fo):dist c (snoc r v k) G≤dist c (app r k) G+c.del v:=by
  cases G with
  |nil=>rw[dist_sn];exact Int.le_refl _
  |snoc r' w k'=>rw[dist_ss];omega
theorem dist_ins (c:Costs) (F r:Fo) (w:Int) (k:Fo):dist c F (snoc r w k)≤dist c F (app r k)+c.ins w:=by
  cases F with
  |nil=>rw[dist_ns];exact Int.le_refl _
  |snoc r' v k'=>rw[dist_ss];omega
theorem dist_mat (c:Costs) (r:Fo) (v:Int) (k:Fo) (r':Fo) (w:Int) (k':Fo):dist c (snoc r v k) (snoc r' w k')≤dist c k k'+dist c r r'+c.rel v w:=by rw[dist_ss];omega

/-- side by side costs no more than apart -/
theorem dist_cat (c:Costs) (A B:Fo):∀(m:Nat) (F G:Fo),size F+size G≤m→dist c (app A F) (app B G)≤dist c A B+dist c F G:=by
  intro m
  induction m with
  | zero=>
    intro F G h
    cases F with
    | nil=>cases G with
      |nil=>rw[app,app,dist_nn];omega
      |snoc r w k=>simp only[size] at h;omega
    |snoc r v k=>simp only[size] at h;omega
  | succ m ih=>
    intro F G h
    cases F with
    | nil=>
      cases G with
      |nil=>rw[app,app,dist_nn];omega
      | snoc r w k=>
        rw[dist_ns,app,app]
        simp only[size] at h
        have h1:=ih nil (app r k) (by rw[size_app,size];omega)
        have h2:=dist_ins c A (app B r) w k
        rw[app_assoc] at h2
        rw[app] at h1
        omega
    | snoc r v k=>
      simp only[size] at h
      have hd:∀G',size G'≤size G→dist c (app A (snoc r v k)) (app B G')≤dist c A B+dist c (app r k) G'+c.del v:=by
        intro G' hG
        have h1:=ih (app r k) G' (by rw[size_app];omega)
        have h2:=dist_del c (app A r) v k (app B G')
        rw[app_assoc] at h2
        rw[app]
        omega
      cases G with
      | nil=>
        have:=hd nil (Nat.le_refl _)
        rw[dist_sn]
        omega
      | snoc r' w k'=>
        rw[dist_ss]
        have h1:=hd (snoc r' w k') (Nat.le_refl _)
        have h2:dist c (app A (snoc r v k)) (app B (snoc r' w k'))≤dist c A B+dist c (snoc r v k) (app r' k')+c.ins w:=by
          simp only[size] at h
          have h3:=ih (snoc r v k) (app r' k') (by rw[size_app,size];omega)
          have h4:=dist_ins c (app A (snoc r v k)) (app B r') w k'
          rw[app_assoc] at h4
          have e:app B (snoc r' w k')=snoc (app B r') w k':=rfl
          rw[e]
          omega
        have h5:dist c (app A (snoc r v k)) (app B (snoc r' w k'))≤dist c A B+(dist c k k'+dist c r r'+c.rel v w):=by
          simp only[size] at h
          have h3:=ih r r' (by omega)
          have h4:=dist_mat c (app A r) v k (app B r') w k'
          have e:app B (snoc r' w k')=snoc (app B r') w k':=rfl
          have e2:app A (snoc r v k)=snoc (app A r) v k:=rfl
          rw[e,e2]
          omega
        omega

/-- with what goes and what comes changed for each other -/
def Costs.swap (c:Costs):Costs:=⟨c.ins,c.del,fun a b=>c.rel b a⟩

theorem dist_swap (c:Costs):∀(m:Nat) (F G:Fo),size F+size G≤m→dist c.swap G F=dist c F G:=by
  intro m
  induction m with
  | zero=>
    intro F G h
    cases F with
    | nil=>cases G with
      |nil=>rw[dist_nn,dist_nn]
      |snoc r w k=>simp only[size] at h;omega
    |snoc r v k=>simp only[size] at h;omega
  | succ m ih=>
    intro F G h
    cases F with
    | nil=>cases G with
      |nil=>rw[dist_nn,dist_nn]
      | snoc r w k=>
        simp only[size] at h
        rw[dist_ns,dist_sn,ih nil (app r k) (by rw[size_app,size];omega)]
        rfl
    | snoc r v k=>cases G with
      | nil=>
        simp only[size] at h
        rw[dist_ns,dist_sn,ih (app r k) nil (by rw[size_app,size];omega)]
        rfl
      | snoc r' w k'=>
        simp only[size] at h
        rw[dist_ss,dist_ss,ih (app r k) (snoc r' w k') (by rw[size_app,size];omega),ih (snoc r v k) (app r' k') (by rw[size_app,size];omega),ih k k' (by omega),ih r r' (by omega)]
        have e1:c.swap.del w=c.ins w:=rfl
        have e2:c.swap.ins v=c.del v:=rfl
        have e3:c.swap.rel w v=c.rel v w:=rfl
        rw[e1,e2,e3]
        omega

/-- the last two trees against each other in place of their roots: it comes to the same -/
theorem dist_trees (c:Costs) (r:Fo) (v:Int) (k:Fo) (r':Fo) (w:Int) (k':Fo):
    dist c (snoc r v k) (snoc r' w k')=min (min (dist c (app r k) (snoc r' w k')+c.del v) (dist c (snoc r v k) (app r' k')+c.ins w)) (dist c r r'+dist c (snoc nil v k) (snoc nil w k')):=by
  have h1:=dist_cat c r r' _ (snoc nil v k) (snoc nil w k') (Nat.le_refl _)
  have h2:=dist_mat c nil v k nil w k'
  rw[dist_nn] at h2
  have e1:app r (snoc nil v k)=snoc r v k:=rfl
  have e2:app r' (snoc nil w k')=snoc r' w k':=rfl
  rw[e1,e2] at h1
  have h3:=dist_ss c r v k r' w k'
  omega

theorem dist_nonneg (c:Costs) (h1:∀x,0≤c.del x) (h2:∀x,0≤c.ins x) (h3:∀x y,0≤c.rel x y):∀(m:Nat) (F G:Fo),size F+size G≤m→0≤dist c F G:=by
  intro m
  induction m with
  | zero=>
    intro F G h
    cases F with
    | nil=>cases G with
      |nil=>rw[dist_nn];exact Int.le_refl _
      |snoc r w k=>simp only[size] at h;omega
    |snoc r v k=>simp only[size] at h;omega
  | succ m ih=>
    intro F G h
    cases F with
    | nil=>cases G with
      |nil=>rw[dist_nn];exact Int.le_refl _
      | snoc r w k=>
        simp only[size] at h
        rw[dist_ns]
        have:=ih nil (app r k) (by rw[size_app,size];omega)
        have:=h2 w
        omega
    | snoc r v k=>cases G with
      | nil=>
        simp only[size] at h
        rw[dist_sn]
        have:=ih (app r k) nil (by rw[size_app,size];omega)
        have:=h1 v
        omega
      | snoc r' w k'=>
        simp only[size] at h
        rw[dist_ss]
        have:=ih (app r k) (snoc r' w k') (by rw[size_app,size];omega)
        have:=ih (snoc r v k) (app r' k') (by rw[size_app,size];omega)
        have:=ih k k' (by omega)
        have:=ih r r' (by omega)
        have:=h1 v
        have:=h2 w
        have:=h3 v w
        omega

/-- to itself, where a label stays for nothing, it costs nothing at most -/
theorem dist_self (c:Costs) (h:∀x,c.rel x x=0):∀F:Fo,dist c F F≤0
  |nil=>by rw[dist_nn];exact Int.le_refl _
  | snoc r v k=>by
    have:=dist_mat c r v k r v k
    have:=dist_self c h r
    have:=dist_self c h k
    have:=h v
    omega

/-- it costs no more than so much for each node -/
theorem dist_le (c:Costs) (B:Int) (h0:0≤B) (h1:∀x,c.del x≤B) (h2:∀x,c.ins x≤B):∀(m:Nat) (F G:Fo),size F+size G≤m→dist c F G≤B*(size F+size G:Nat):=by
  intro m
  induction m with
  | zero=>
    intro F G h
    cases F with
    | nil=>cases G with
      |nil=>rw[dist_nn];simp[size]
      |snoc r w k=>simp only[size] at h;omega
    |snoc r v k=>simp only[size] at h;omega
  | succ m ih=>
    intro F G h
    cases F with
    | nil=>cases G with
      |nil=>rw[dist_nn];simp[size]
      | snoc r w k=>
        simp only[size] at h
        rw[dist_ns]
        have a:=ih nil (app r k) (by rw[size_app,size];omega)
        have b:=h2 w
        have e:size nil+size (snoc r w k)=size nil+size (app r k)+1:=by rw[size_app];simp only[size];omega
        rw[e]
        have e2:B*((size nil+size (app r k)+1:Nat):Int)=B*((size nil+size (app r k):Nat):Int)+B:=by rw[Int.natCast_add,Int.mul_add];simp
        rw[e2];omega
    | snoc r v k=>
      simp only[size] at h
      have a:=ih (app r k) G (by rw[size_app];omega)
      have b:=h1 v
      have d:=dist_del c r v k G
      have e:size (snoc r v k)+size G=size (app r k)+size G+1:=by rw[size_app];simp only[size];omega
      rw[e]
      have e2:B*((size (app r k)+size G+1:Nat):Int)=B*((size (app r k)+size G:Nat):Int)+B:=by rw[Int.natCast_add,Int.mul_add];simp
      rw[e2];omega

end Go.Proofs.Ytbmkobanpakohaa.Dist
