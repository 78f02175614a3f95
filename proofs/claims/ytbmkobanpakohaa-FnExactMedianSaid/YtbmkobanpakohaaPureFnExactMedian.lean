/- The law FnExactMedian, as a pure statement: the median of a list of trees is the reference's, for every list of lists of nodes and costs; no condition. -/
import Derived.Test.YtbmkobanpakohaaQFnExactMedianc
import Derived.Test.YtbmkobanpakohaaOFnExactMedian
namespace Go.Proofs.Ytbmkobanpakohaa.Pure
open Go.RowKit Go.Proofs.Ytbmkobanpakohaa.PFnExactMedian Go.Proofs.YtbmkobanpakohaaW.PrintWords Go.Proofs.YtbmkobanpakohaaW.PrintLast Go.Proofs.YtbmkobanpakohaaW.PrintMore Go.Proofs.Ytbmkobanpakohaa.EvAid Go.Proofs.Ytbmkobanpakohaa Go.Proofs.Ytbmkobanpakohaa.QFnExactMedian Go.Proofs.Ytbmkobanpakohaa.OFnExactMedian
set_option linter.unusedVariables false
set_option linter.unusedSimpArgs false

theorem FnExactMedian : PureL := by
  intro l s hl hlg hs
  obtain ⟨D, I, R⟩ := s
  obtain ⟨⟨hD, _⟩, ⟨hI, _⟩, hR, _⟩ := hs
  dsimp only at hD hI hR
  refine Ev.rounds ?_
  simp only [laws_FnExactMedian.f]
  have hb : NSB l := ⟨hl, fun x hx => (hlg x hx).1⟩
  refine ev_bind (szNodeSS_ev l 1048576 hb (by omega) (by omega)) ?_
  rcases szNT_facts l 1048576 (by omega) with e | ⟨a1, a2, a3, a4⟩
  · rw [e]; exact ev_pos (by omega) (Ev.now _)
  · refine ev_neg (by omega) (ev_bindc (szCost_eq D I R _ a1 a2 hD hI hR) ?_)
    rcases szCT_facts D I R (szNT l 1048576) a1 with e | ⟨b1, b2, b3, b4⟩
    · rw [e]; exact ev_pos (by omega) (Ev.now _)
    · refine ev_neg (by omega) ?_
      have hx : ∀ x ∈ l, x.length ≤ 1048576 := fun x hx => by have := a4 x hx; omega
      have hll : l.length ≤ 1048576 := by omega
      have tl := toNodeSS_ev l hll hx
      have tc := toCost_ev D I R (by omega) (by omega) (by omega)
      have lm : (l.map (List.map cvN)).length = l.length := by simp
      have hx2 : ∀ x ∈ l.map (List.map cvN), x.length ≤ 1048576 := fun x hx' => by
        obtain ⟨y, hy, rfl⟩ := List.mem_map.1 hx'
        rw [List.length_map]
        exact hx y hy
      have hs := spec_Median_ev (l.map (List.map cvN)) D I R (by omega) hx2 (by omega) (by omega) (by omega)
      have hi := impl_Median_ev (l.map (List.map cvN)) D I R (by omega) hx2 (by omega) (by omega) (by omega)
      refine ev_bind tl (ev_bind tc (ev_bind hs (ev_bind tl (ev_bind tc (ev_bind hi (ev_pos rfl ?_))))))
      refine ev_bind tl (ev_bind (eqNodeSS_ev _ (by omega) hx2) (ev_pos rfl ?_))
      exact ev_bind tc (ev_bind (eqCost_ev D I R (by omega) (by omega) (by omega)) (ev_pos rfl (Ev.now _)))

end Go.Proofs.Ytbmkobanpakohaa.Pure
