/- The law FnExactJoined, as a pure statement: two scripts put one behind the other are the reference's, for all scripts; no condition. -/
import Derived.Test.YtdapeboajjidmaaQFnExactJoineda
import Derived.Test.YtdapeboajjidmaaOFnExactJoined
namespace Go.Proofs.Ytdapeboajjidmaa.Pure
open Go.RowKit Go.Proofs.Ytdapeboajjidmaa.PFnExactJoined Go.Proofs.YtdapeboajjidmaaW.PrintWords Go.Proofs.YtdapeboajjidmaaW.PrintLast Go.Proofs.YtdapeboajjidmaaW.PrintMore Go.Proofs.Ytdapeboajjidmaa.EvAid Go.Proofs.Ytdapeboajjidmaa Go.Proofs.Ytdapeboajjidmaa.QFnExactJoined Go.Proofs.Ytdapeboajjidmaa.OFnExactJoined
set_option linter.unusedVariables false
set_option linter.unusedSimpArgs false

theorem FnExactJoined : PureL := by
  intro a b ham hag hbm hbg
  refine Ev.rounds ?_
  simp only [laws_FnExactJoined.f]
  refine ev_bind (szOpS_ev a 1048576 (by omega) (by omega) ham (fun o ho => (hag o ho).2.1.1)) ?_
  rcases szOT_facts a 1048576 (by omega) with e | ⟨a1, a2, a3, a4⟩
  · rw [e]; exact ev_pos (by omega) (Ev.now _)
  refine ev_neg (by omega) (ev_bind (szOpS_ev b _ a1 (by omega) hbm (fun o ho => (hbg o ho).2.1.1)) ?_)
  rcases szOT_facts b (szOT a 1048576) a1 with e | ⟨b1, b2, b3, b4⟩
  · rw [e]; exact ev_pos (by omega) (Ev.now _)
  refine ev_neg (by omega) ?_
  have hp : ∀ (l : List S73), (∀ o ∈ l, (o.f1.length : Int) ≤ 1048576) → ∀ o ∈ l.map cvO, o.f1.length ≤ 1048576 := by
    intro l hl o h
    obtain ⟨x, hx, rfl⟩ := List.mem_map.1 h
    have := hl x hx
    show x.f1.length ≤ _
    omega
  have pa := hp a (fun o ho => by have := a4 o ho; omega)
  have pb := hp b (fun o ho => by have := b4 o ho; omega)
  have ta := toOpS_ev a (by omega) (fun o h => by have := a4 o h; omega)
  have tb := toOpS_ev b (by omega) (fun o h => by have := b4 o h; omega)
  have la : (a.map cvO).length = a.length := by simp
  have lb : (b.map cvO).length = b.length := by simp
  generalize a.map cvO = x at *
  generalize b.map cvO = y at *
  have hx : OpsB x := ⟨by omega, fun o h => by have := pa o h; omega⟩
  have hy : OpsB y := ⟨by omega, fun o h => by have := pb o h; omega⟩
  have hxy := hx.append hy (by omega)
  have sp := spec_Joined_ev x y hx hy (by omega)
  have im := impl_Joined_ev x y hx hy (by omega)
  have z1 := opSz_le 1048576 x pa
  have z2 := opSz_le 1048576 y pb
  have z3 := opSz_le 1048576 (x ++ y) (fun o h => (List.mem_append.1 h).elim (pa o) (pb o))
  rw [List.length_append] at z3
  refine ev_bind ta (ev_bind tb (ev_bind sp (ev_bind ta (ev_bind tb (ev_bind im (ev_bind (eqOpS_ev _ hxy) (ev_pos rfl ?_)))))))
  refine ev_bind ta (ev_bind (eqOpS_ev _ hx) (ev_pos rfl (ev_bind tb (ev_bind (eqOpS_ev _ hy) (ev_pos rfl ?_)))))
  refine ev_bind (markOpS_ev _ 1 (by omega) (by omega)) (ev_bind (markOpS_ev _ _ (by dsimp only; omega) (by dsimp only; omega)) (ev_neg (by dsimp only; omega) (ev_bind (eqOpS_ev _ hxy) (ev_pos rfl ?_))))
  refine ev_bind (markOpS_ev (x ++ y) 1 (by omega) (by omega)) ?_
  have hh := heldOpS_ev (x ++ y) 1 (by omega) (by omega)
  exact ev_bind hh (ev_neg (by omega) (ev_pos rfl (ev_bind ta (ev_bind tb (ev_bind im (ev_bind (eqOpS_ev _ hxy) (ev_pos rfl (ev_bind hh (ev_neg (by omega) (ev_pos rfl (Ev.now _)))))))))))

end Go.Proofs.Ytdapeboajjidmaa.Pure
