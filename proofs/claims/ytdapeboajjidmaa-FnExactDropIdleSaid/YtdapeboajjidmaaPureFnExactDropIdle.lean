/- The law FnExactDropIdle, as a pure statement: what is left of a script where the operations that change nothing are left out is the reference's, for every tree and script; no condition. -/
import Derived.Test.YtdapeboajjidmaaQFnExactDropIdleb
import Derived.Test.YtdapeboajjidmaaOFnExactDropIdle
namespace Go.Proofs.Ytdapeboajjidmaa.Pure
open Go.RowKit Go.Proofs.Ytdapeboajjidmaa.PFnExactDropIdle Go.Proofs.YtdapeboajjidmaaW.PrintWords Go.Proofs.YtdapeboajjidmaaW.PrintLast Go.Proofs.YtdapeboajjidmaaW.PrintMore Go.Proofs.Ytdapeboajjidmaa.EvAid Go.Proofs.Ytdapeboajjidmaa Go.Proofs.Ytdapeboajjidmaa.QFnExactDropIdle Go.Proofs.Ytdapeboajjidmaa.OFnExactDropIdle
set_option linter.unusedVariables false
set_option linter.unusedSimpArgs false

theorem idleT_few (l : List S80) (ops : List S78) : (idleT l ops).1.length ≤ ops.length ∧ ∀ o ∈ (idleT l ops).1, o ∈ ops := by
  unfold idleT
  split
  · cases h : idleF l ops with
    | none => exact ⟨by simp [idleR], fun o ho => by simp [idleR] at ho⟩
    | some q =>
      obtain ⟨h1, h2, _⟩ := idleF_few ops q l h
      simp only [idleR, List.nil_append]
      exact ⟨h1, h2⟩
  · exact ⟨by simp, fun o ho => by simp at ho⟩
theorem FnExactDropIdle : PureL := by
  intro l ops hm hg hom hog
  refine Ev.rounds ?_
  simp only [laws_FnExactDropIdle.f]
  refine ev_bindc (szNodeS_eq l 1048576 (by omega) (by omega) hm) ?_
  by_cases hs : (1048576 : Int) < (l.length : Int)
  · rw [if_pos hs]
    exact ev_pos (by omega) (Ev.now _)
  · rw [if_neg hs]
    refine ev_neg (by omega) (ev_bind (szOpS_ev ops _ (by omega) (by omega) hom (fun o ho => (hog o ho).2.1.1)) ?_)
    rcases szOT_facts ops (1048576 - (l.length : Int)) (by omega) with e | ⟨e1, e2, e3, e4⟩
    · rw [e]; exact ev_pos (by omega) (Ev.now _)
    · refine ev_neg (by omega) ?_
      have hl : (l.map cvN).length = l.length := by simp
      have ho : (ops.map cvO).length = ops.length := by simp
      have hp : ∀ o ∈ ops.map cvO, o.f1.length ≤ 1048576 := by
        intro o h
        obtain ⟨x, hx, rfl⟩ := List.mem_map.1 h
        have := e4 x hx
        show x.f1.length ≤ _
        omega
      have ht := toNodeS_ev l (by omega)
      have hto := toOpS_ev ops (by omega) (fun o h => by have := e4 o h; omega)
      obtain ⟨q1, q2⟩ := idleT_few (l.map cvN) (ops.map cvO)
      generalize l.map cvN = l' at *
      generalize ops.map cvO = o' at *
      have hbo : OpsB o' := ⟨by omega, fun o h => by have := hp o h; omega⟩
      have hsp := spec_DropIdle_ev l' o' hbo (by omega)
      have him := impl_DropIdle_ev l' o' hbo (by omega)
      generalize idleT l' o' = p at *
      have hbp : OpsB p.1 := ⟨by omega, fun o h => by have := hp o (q2 o h); omega⟩
      have z1 := opSz_le 1048576 o' hp
      have z2 := opSz_le 1048576 p.1 (fun o h => hp o (q2 o h))
      refine ev_bind ht (ev_bind hto (ev_bind hsp (ev_bind ht (ev_bind hto (ev_bind him (ev_bind (eqOpS_ev _ hbp) (ev_pos rfl (ev_pos rfl ?_))))))))
      refine ev_bind ht (ev_bind (eqNodeS_ev _ (by omega)) (ev_pos rfl (ev_bind hto (ev_bind (eqOpS_ev _ hbo) (ev_pos rfl ?_)))))
      refine ev_bind (markNodeS_ev _ 1 (by omega) (by omega)) (ev_bind (markOpS_ev _ _ (by dsimp only; omega) (by dsimp only; omega)) (ev_neg (by dsimp only; omega) (ev_bind (eqOpS_ev _ hbp) (ev_pos rfl ?_))))
      refine ev_bind (markOpS_ev p.1 1 (by omega) (by omega)) ?_
      have hh := heldOpS_ev p.1 1 (by omega) (by omega)
      refine ev_bind hh (ev_neg (by omega) (ev_pos rfl (ev_bind ht (ev_bind hto (ev_bind him (ev_bind (eqOpS_ev _ hbp) (ev_pos rfl (ev_pos rfl (ev_bind hh (ev_neg (by omega) (ev_pos rfl (Ev.now _))))))))))))

end Go.Proofs.Ytdapeboajjidmaa.Pure
