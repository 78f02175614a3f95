/- The law FnExactInvert, as a pure statement: what undoes a script is the reference's, for every tree and script; no condition. -/
import Derived.Test.YtdapeboajjidmaaQFnExactInvertb
import Derived.Test.YtdapeboajjidmaaOFnExactInvert
namespace Go.Proofs.Ytdapeboajjidmaa.Pure
open Go.RowKit Go.Proofs.Ytdapeboajjidmaa.PFnExactInvert Go.Proofs.YtdapeboajjidmaaW.PrintWords Go.Proofs.YtdapeboajjidmaaW.PrintLast Go.Proofs.YtdapeboajjidmaaW.PrintMore Go.Proofs.Ytdapeboajjidmaa.EvAid Go.Proofs.Ytdapeboajjidmaa Go.Proofs.Ytdapeboajjidmaa.QFnExactInvert Go.Proofs.Ytdapeboajjidmaa.OFnExactInvert
set_option linter.unusedVariables false
set_option linter.unusedSimpArgs false

theorem FnExactInvert : PureL := by
  intro l ops hm hg hom hog
  refine Ev.rounds ?_
  simp only [laws_FnExactInvert.f]
  refine ev_bindc (szNodeS_eq l 1048576 (by omega) (by omega) hm) ?_
  by_cases hs : (1048576 : Int) < (l.length : Int)
  · rw [if_pos hs]
    exact ev_pos (by omega) (Ev.now _)
  · rw [if_neg hs]
    refine ev_neg (by omega) (ev_bind (szOpS_ev ops _ (by omega) (by omega) hom (fun o ho => (hog o ho).2.1.1)) ?_)
    rcases szOT_facts ops (1048576 - (l.length : Int)) (by omega) with e | ⟨e1, e2, e3, e4⟩
    · rw [e]; exact ev_pos (by omega) (Ev.now _)
    · refine ev_neg (by omega) ?_
      have hl : (l.map cvN).length = l.length := by simp
      have ho : (ops.map cvO).length = ops.length := by simp
      have hp : ∀ o ∈ ops.map cvO, o.f1.length ≤ 1048576 := by
        intro o h
        obtain ⟨x, hx, rfl⟩ := List.mem_map.1 h
        have := e4 x hx
        show x.f1.length ≤ _
        omega
      have ht := toNodeS_ev l (by omega)
      have hto := toOpS_ev ops (by omega) (fun o h => by have := e4 o h; omega)
      obtain ⟨q1, q2⟩ := invT_few (l.map cvN) (ops.map cvO)
      generalize l.map cvN = l' at *
      generalize ops.map cvO = o' at *
      have hbo : OpsB o' := ⟨by omega, fun o h => by have := hp o h; omega⟩
      have hsp := spec_Invert_ev l' o' hbo (by omega)
      have him := impl_Invert_ev l' o' hbo (by omega)
      generalize invT l' o' = p at *
      have hbp : OpsB p.1 := ⟨by omega, fun o h => by have := q2 1048576 hp o h; omega⟩
      have z1 := opSz_le 1048576 o' hp
      have z2 := opSz_le 1048577 p.1 (q2 1048576 hp)
      refine ev_bind ht (ev_bind hto (ev_bind hsp (ev_bind ht (ev_bind hto (ev_bind him (ev_bind (eqOpS_ev _ hbp) (ev_pos rfl (ev_pos rfl ?_))))))))
      refine ev_bind ht (ev_bind (eqNodeS_ev _ (by omega)) (ev_pos rfl (ev_bind hto (ev_bind (eqOpS_ev _ hbo) (ev_pos rfl ?_)))))
      refine ev_bind (markNodeS_ev _ 1 (by omega) (by omega)) (ev_bind (markOpS_ev _ _ (by dsimp only; omega) (by dsimp only; omega)) (ev_neg (by dsimp only; omega) (ev_bind (eqOpS_ev _ hbp) (ev_pos rfl ?_))))
      refine ev_bind (markOpS_ev p.1 1 (by omega) (by omega)) ?_
      have hh := heldOpS_ev p.1 1 (by omega) (by omega)
      refine ev_bind hh (ev_neg (by omega) (ev_pos rfl (ev_bind ht (ev_bind hto (ev_bind him (ev_bind (eqOpS_ev _ hbp) (ev_pos rfl (ev_pos rfl (ev_bind hh (ev_neg (by omega) (ev_pos rfl (Ev.now _))))))))))))

end Go.Proofs.Ytdapeboajjidmaa.Pure
