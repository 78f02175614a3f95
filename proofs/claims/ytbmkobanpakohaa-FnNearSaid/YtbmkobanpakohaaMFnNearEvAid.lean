/- Small lemmas: what holds from some number of rounds on, 64-bit wrapping within bounds, marks that are held; each under the bounds that it names. -/
import Derived.Test.YtbmkobanpakohaaMFnNearw0
namespace Go.Proofs.Ytbmkobanpakohaa.EvAid
open Go.RowKit Go.Proofs.YtbmkobanpakohaaW.PrintWords
set_option linter.unusedVariables false

theorem w64 {x:Int} (h1: -9223372036854775808≤x) (h2:x≤9223372036854775807):wrap64 x=x:=by unfold wrap64;omega

theorem ev_succ {α:Type} {g:Nat→Option α} {r:α} (h:Ev (fun k=>g (k+1)) r):Ev g r:=Ev.step (fun _=>rfl) h

theorem ev_eq {α:Type} {g:Nat→Option α} {r r':α} (h:Ev g r) (e:r=r'):Ev g r':=e▸h

theorem ev_some {α:Type} {r r':α} (e:r=r'):Ev (fun _=>some r) r':=ev_eq (Ev.now r) e

theorem ev_pos {α:Type} {c:Prop} [Decidable c] {a b:Nat→Option α} {r:α} (h:c) (h1:Ev a r):Ev (fun k=>if c then a k else b k) r:=by
  simp only[if_pos h];exact h1

theorem ev_neg {α:Type} {c:Prop} [Decidable c] {a b:Nat→Option α} {r:α} (h:¬c) (h1:Ev b r):Ev (fun k=>if c then a k else b k) r:=by
  simp only[if_neg h];exact h1

theorem ev_bind {α β:Type} {g:Nat→Option α} {f:Nat→α→Option β} {a:α} {r:β} (h:Ev g a) (k:Ev (fun n=>f n a) r):Ev (fun n=>(g n).bind (f n)) r:=Ev.bind h k

theorem ev_bindc {α β:Type} {o:Option α} {f:Nat→α→Option β} {a:α} {r:β} (h:o=some a) (k:Ev (fun n=>f n a) r):Ev (fun n=>o.bind (f n)) r:=by
  subst h;exact k

/-- is it so? -/
noncomputable def cdec (p:Prop):Bool:=@decide p (Classical.propDecidable p)
theorem cdec_iff {p:Prop} :cdec p=true↔p:=@decide_eq_true_iff p (Classical.propDecidable p)
theorem cdec_false {p:Prop} (h:¬p):cdec p=false:=by
  cases e:cdec p with
  |true=>exact absurd (cdec_iff.1 e) h
  |false=>rfl
end Go.Proofs.Ytbmkobanpakohaa.EvAid
