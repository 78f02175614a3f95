/- The law FnExactPatch, as a pure statement: what a patch makes of a tree's text is the reference's, for all texts; no condition beyond the texts' lengths as they can be read. -/
import Derived.Test.YtbiffnahknkoiaaQFnExactPatchc
namespace Go.Proofs.Ytbiffnahknkoiaa.Pure
open Go.RowKit Go.Proofs.Ytbiffnahknkoiaa.PFnExactPatch Go.Proofs.YtbiffnahknkoiaaW.PrintWords Go.Proofs.YtbiffnahknkoiaaW.PrintLast Go.Proofs.YtbiffnahknkoiaaW.PrintMore Go.Proofs.Ytbiffnahknkoiaa.EvAid Go.Proofs.Ytbiffnahknkoiaa Go.Proofs.Ytbiffnahknkoiaa.QFnExactPatch
set_option linter.unusedVariables false
set_option linter.unusedSimpArgs false

theorem Patch_both (x s : ByteArray) (hx : x.size ≤ 1048576) (hs : s.size ≤ 1048576) : ∃ R : ByteArray × Int × Int × Int, Ev (fun k => spec_Patch.f k x s) R ∧ Ev (fun k => impl_Patch.f k x s) R := by
  obtain ⟨⟨l, c⟩, g1, g2, g3⟩ := GetTree_both x hx
  obtain ⟨⟨ops, e⟩, o1, o2, o3⟩ := GetScript_both s hs
  have hl : l.length ≤ 24 := g1
  have ho : OpsB ops := o1
  have a1 := spec_ApplyAll_ev l ops ho (by omega)
  have a2 := impl_ApplyAll_ev l ops ho (by omega)
  have hn := allT_length l ops 25 (by omega) (by omega)
  generalize allT l ops = q at *
  obtain ⟨y, n, f⟩ := q
  dsimp only at hn
  obtain ⟨r, p1, p2⟩ := PutTree_both y (by omega)
  simp only [spec_Patch.f, impl_Patch.f]
  by_cases hc : c = 0
  · by_cases he : e = 0
    · by_cases hf : f = 0
      · exact ⟨(r, 0, 0, 0), ev_bind g2 (ev_pos hc (ev_bind o2 (ev_pos he (ev_bind a1 (ev_pos hf (ev_bind p1 (Ev.now _))))))), ev_bind g3 (ev_bind o3 (ev_pos hc (ev_pos he (ev_bind a2 (ev_pos hf (ev_bind p2 (Ev.now _)))))))⟩
      · exact ⟨(⟨#[]⟩, 5, f, n), ev_bind g2 (ev_pos hc (ev_bind o2 (ev_pos he (ev_bind a1 (ev_neg hf (Ev.now _)))))), ev_bind g3 (ev_bind o3 (ev_pos hc (ev_pos he (ev_bind a2 (ev_neg hf (Ev.now _))))))⟩
    · exact ⟨(⟨#[]⟩, 4, e, 0), ev_bind g2 (ev_pos hc (ev_bind o2 (ev_neg he (Ev.now _)))), ev_bind g3 (ev_bind o3 (ev_pos hc (ev_neg he (Ev.now _))))⟩
  · exact ⟨(⟨#[]⟩, 1, c, 0), ev_bind g2 (ev_neg hc (Ev.now _)), ev_bind g3 (ev_bind o3 (ev_neg hc (Ev.now _)))⟩
theorem FnExactPatch : laws_FnExactPatch.Pure := by
  intro x s _ _
  refine Ev.rounds ?_
  simp only [laws_FnExactPatch.f]
  by_cases hx : (x.size : Int) > 1048576
  · exact ev_pos hx (Ev.now _)
  by_cases hs : (s.size : Int) > 1048576
  · exact ev_neg hx (ev_pos hs (Ev.now _))
  obtain ⟨⟨t, a, b, c⟩, h1, h2⟩ := Patch_both x s (by omega) (by omega)
  have he : laws_eqFault.f a b c a b c = some true := by unfold laws_eqFault.f; rw [if_pos rfl, if_pos rfl, if_pos rfl]
  exact ev_neg hx (ev_neg hs (ev_bind h1 (ev_bind h2 (ev_pos rfl (ev_bindc he (ev_pos rfl (Ev.now _)))))))

end Go.Proofs.Ytbiffnahknkoiaa.Pure
