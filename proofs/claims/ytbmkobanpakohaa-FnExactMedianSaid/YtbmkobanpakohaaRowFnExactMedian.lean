/- The law FnExactMedian holds of the program: for every argument that can be read it returns true and leaves its arguments as they were; no condition beyond the row's own. -/
import Derived.Test.YtbmkobanpakohaaRows
import Derived.Test.YtbmkobanpakohaaOFnExactMedian
import Derived.Test.YtbmkobanpakohaaPureFnExactMedian
import Derived.WalkKit
import Derived.ProofKit
import Derived.OpenShut
import Derived.ShutString
import Derived.ChangeOld
import Derived.Below
import Derived.SizedLaws
namespace Go.Proofs.Ytbmkobanpakohaa.fnExactMedian
open Go.ChangeShapes Go.WideShapes Go.ChangeAt Go.RowKit Go.Proofs.Ytbmkobanpakohaa.Opens Go.Proofs.Ytbmkobanpakohaa.OFnExactMedian Go.Proofs.Ytbmkobanpakohaa.PFnExactMedian Go.Proofs.YtbmkobanpakohaaW.PrintWords
open Go.ChangeMaps (open_string shut_string)
set_option linter.unusedVariables false
theorem own : ownKnob Try.prog.godebug = none := by kernel_rfl
theorem laidOut : laidOutB Try.prog = true := by kernel_rfl
set_option maxRecDepth 100000 in
theorem lifted (os : Os) (started : os.Started) (H : Type) (enc : TypeId × Value → H) :
    ReturnsInHanded {} Try.checked os 5 .any (Rows.fnExactMedianSpec.pre6 enc Try.prog Try.f5 Rows.fnExactMedianRow.domain false) (Rows.fnExactMedianSpec.post enc Try.prog Try.f5 false true false false) := by
  refine returnsInHanded_of_change_sized (C := Try.checked) own started (by kernel_rfl) Try.func5
    (ChangeSpec.witness6 (enc := enc) (C := Try.checked) false ⟨#[], #[.slice none 0 0, .agg #[.slice none 0 0, .slice none 0 0, .slice none 0 0]], []⟩ 8 (by kernel_rfl) (by kernel_rfl) (by kernel_rfl) (by kernel_rfl)) ?_
  intro W base args ds gs before hval0 hW hcnd hsz0 _
  have hsz : (DataW.weightsEach Try.prog (Try.f5.params.toList ++ Rows.fnExactMedianSpec.plain.varTypes Try.prog) (ds ++ gs)).all (· ≤ reachBytes) = true := hsz0
  have hval : ∀ (j : Nat) t v, Try.f5.params[j]? = some t → args[j]? = some v → Value.okWide Try.prog W .any base t v := hval0
  have hW' := hW
  obtain ⟨p, q, hA0, hV, rfl, hfz, hnd⟩ := hW
  have hA : DataW.TrodAll enc Try.prog W 0 (fun _ => true) true Try.f5.params.toList args.toList ds p := hA0
  rw [Try.params5] at hA hval hsz
  obtain ⟨v0, vs0, d0, ds0, p0, q0, hargs, rfl, rfl, h0, r0⟩ := trodAll_cons hA
  obtain ⟨v1, vs1, d1, ds1, p1, q1, rfl, rfl, rfl, h1, r1⟩ := trodAll_cons r0
  obtain ⟨rfl, rfl, rfl⟩ := trodAll_nil r1
  obtain rfl : args = #[v0, v1] := by cases args; simp_all
  obtain ⟨rfl, rfl⟩ := trodVars_none hV
  have k0 := h0
  have lt0 : ∀ x ∈ p0, x.block < W.heap.size := by obtain ⟨m, hm⟩ := k0; exact DataW.trod_lt m _ _ _ hm
  obtain ⟨a0, len0, cap0, rfl⟩ := okWide_slice Try.underlying29 (hval 0 29 v0 rfl rfl)
  obtain ⟨l0, e0, hc0, hC0, hg0⟩ := arg_slice (opens_slice Try.underlying29 (by kernel_rfl) (opens_slice Try.underlying22 (by kernel_rfl) open63)) h0
  subst e0
  have hm0 : l0.length ≤ maxLen := by have := hC0.2.1; unfold maxLen; omega
  have k1 := h1
  have lt1 : ∀ x ∈ p1, x.block < W.heap.size := by obtain ⟨m, hm⟩ := k1; exact DataW.trod_lt m _ _ _ hm
  obtain ⟨cs1, rfl, hcs1⟩ := okWide_struct Try.underlying32 (hval 1 32 v1 rfl rfl)
  obtain ⟨s1, hK1, hg1⟩ := arg_struct open32 h1
  have hs1 : ∃ (B1_0 : Option Addr) (C1_0 : Nat), ∃ (B1_1 : Option Addr) (C1_1 : Nat), ∃ (B1_2 : Option Addr) (C1_2 : Nat), cs1 = #[.slice B1_0 s1.f0.length C1_0, .slice B1_1 s1.f1.length C1_1, .slice B1_2 s1.f2.length C1_2] ∧ s1.f0.length ≤ C1_0 ∧ Kd.C (Kd.int .i64) W B1_0 s1.f0.length s1.f0 ∧ s1.f1.length ≤ C1_1 ∧ Kd.C (Kd.int .i64) W B1_1 s1.f1.length s1.f1 ∧ s1.f2.length ≤ C1_2 ∧ Kd.C (Kd.int .i64) W B1_2 s1.f2.length s1.f2 := by
    obtain ⟨c0, r0, q0, h0_, ⟨c1, r1, q1, h1_, h2_⟩⟩ := hK1
    obtain ⟨B1_0, C1_0, g0, u0, v0⟩ := h0_
    obtain ⟨B1_1, C1_1, g1, u1, v1⟩ := h1_
    obtain ⟨B1_2, C1_2, g2, u2, v2⟩ := h2_
    refine ⟨B1_0, C1_0, B1_1, C1_1, B1_2, C1_2, ?_, u0, v0, u1, v1, u2, v2⟩
    have el : cs1.toList = [.slice B1_0 s1.f0.length C1_0, .slice B1_1 s1.f1.length C1_1, .slice B1_2 s1.f2.length C1_2] := by
      have q := q0
      rw [q1] at q
      rw [show c0 = _ from g0, show c1 = _ from g1] at q
      rw [show r1 = _ from g2] at q
      exact q
    exact Array.toList_inj.1 el
  obtain ⟨B1_0, C1_0, B1_1, C1_1, B1_2, C1_2, rfl, hc1_0, hC1_0, hc1_1, hC1_1, hc1_2, hC1_2⟩ := hs1
  clear hA0 hval0 hsz0 hsz
  obtain ⟨k, h⟩ := Pure.FnExactMedian l0 s1 hm0 hg0 hg1
  refine (laws_FnExactMedian.calls k _ _ l0 _ _ s1.f0 _ _ s1.f1 _ _ s1.f2 true W hC0 hc0 hC1_0 hc1_0 hC1_1 hc1_1 hC1_2 hc1_2 h).mono ?_
  rintro e W' ⟨rfl, bel0⟩
  have bel : Below W.heap.size W W' := bel0
  exact ⟨_, rfl, _, _, _, [], _, [], hW', trodAll_mk1 (shut_bool Try.underlying4 _), (trodAll_cons_mk (Below.trod laidOut (by kernel_rfl) (of_decide_eq_true (by kernel_rfl)) k0 bel lt0) (trodAll_cons_mk (Below.trod laidOut (by kernel_rfl) (of_decide_eq_true (by kernel_rfl)) k1 bel lt1) trodAll_mk0)), rfl, bel.frame _, fun h => by cases h⟩
theorem over : Rows.fnExactMedianRow.holds Try.pinned (OpenSpec.ofChange Rows.fnExactMedianSpec) :=
  OpenClaim.holds_of_wide 5 Try.f5 rfl rfl rfl rfl rfl rfl rfl ⟨rfl, rfl, rfl, rfl, rfl⟩ rfl rfl rfl rfl rfl (by kernel_rfl) Try.func5 (by kernel_rfl)
    (of_decide_eq_true (by kernel_rfl)) (by unfold Func.isWrapper; first | (rw [if_pos (by decide +kernel)]; kernel_rfl) | (rw [if_neg (by decide +kernel)]; exact ⟨rfl, rfl⟩))
    (fun os started H enc _ => lifted os started H enc)
theorem proved : Rows.FnExactMedianSaid := over
end Go.Proofs.Ytbmkobanpakohaa.fnExactMedian
namespace Go.Proofs.Ytbmkobanpakohaa
/-- The row, under a short name, for the claim. -/
theorem fnExactMedian_holds : Rows.FnExactMedianSaid := fnExactMedian.proved
#print axioms fnExactMedian_holds
end Go.Proofs.Ytbmkobanpakohaa
