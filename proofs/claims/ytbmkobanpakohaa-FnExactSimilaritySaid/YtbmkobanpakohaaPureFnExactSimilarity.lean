/- The law FnExactSimilarity, as a pure statement: the similarity of two trees is the reference's, for every two lists of nodes; no condition. -/
import Derived.Test.YtbmkobanpakohaaQFnExactSimilarityc
import Derived.Test.YtbmkobanpakohaaOFnExactSimilarity
namespace Go.Proofs.Ytbmkobanpakohaa.Pure
open Go.RowKit Go.Proofs.Ytbmkobanpakohaa.PFnExactSimilarity Go.Proofs.YtbmkobanpakohaaW.PrintWords Go.Proofs.YtbmkobanpakohaaW.PrintLast Go.Proofs.YtbmkobanpakohaaW.PrintMore Go.Proofs.Ytbmkobanpakohaa.EvAid Go.Proofs.Ytbmkobanpakohaa Go.Proofs.Ytbmkobanpakohaa.QFnExactSimilarity Go.Proofs.Ytbmkobanpakohaa.OFnExactSimilarity
set_option linter.unusedVariables false
set_option linter.unusedSimpArgs false

theorem FnExactSimilarity : PureL := by
  intro l m hl hlg hm hmg
  refine Ev.rounds ?_
  simp only [laws_FnExactSimilarity.f]
  refine ev_bindc (szNodeS_eq l 1048576 (by omega) (by omega) hl) ?_
  by_cases hs : (1048576 : Int) < (l.length : Int)
  · rw [if_pos hs]
    exact ev_pos (by omega) (Ev.now _)
  · rw [if_neg hs]
    refine ev_neg (by omega) (ev_bindc (szNodeS_eq m (1048576 - (l.length : Int)) (by omega) (by omega) hm) ?_)
    by_cases hs2 : (1048576 : Int) - (l.length : Int) < (m.length : Int)
    · rw [if_pos hs2]
      exact ev_pos (by omega) (Ev.now _)
    · rw [if_neg hs2]
      refine ev_neg (by omega) ?_
      have tl := toNodeS_ev l (by omega)
      have tm := toNodeS_ev m (by omega)
      have ll : (l.map cvN).length = l.length := by simp
      have lm : (m.map cvN).length = m.length := by simp
      refine ev_bind tl (ev_bind tm (ev_bind (spec_Similarity_ev _ _ (by omega) (by omega)) (ev_bind tl (ev_bind tm (ev_bind (impl_Similarity_ev _ _ (by omega) (by omega)) (ev_pos rfl ?_))))))
      exact ev_bind tl (ev_bind (eqNodeS_ev _ (by omega)) (ev_pos rfl (ev_bind tm (ev_bind (eqNodeS_ev _ (by omega)) (ev_pos rfl (Ev.now _))))))

end Go.Proofs.Ytbmkobanpakohaa.Pure
