/- The law FnExactNearest holds of the program: for every argument that can be read it returns true and leaves its arguments as they were; no condition beyond the row's own. -/
import Derived.Test.YtbmkobanpakohaaRows
import Derived.Test.YtbmkobanpakohaaOFnExactNearest
import Derived.Test.YtbmkobanpakohaaPureFnExactNearest
import Derived.WalkKit
import Derived.ProofKit
import Derived.OpenShut
import Derived.ShutString
import Derived.ChangeOld
import Derived.Below
import Derived.SizedLaws
namespace Go.Proofs.Ytbmkobanpakohaa.fnExactNearest
open Go.ChangeShapes Go.WideShapes Go.ChangeAt Go.RowKit Go.Proofs.Ytbmkobanpakohaa.Opens Go.Proofs.Ytbmkobanpakohaa.OFnExactNearest Go.Proofs.Ytbmkobanpakohaa.PFnExactNearest Go.Proofs.YtbmkobanpakohaaW.PrintWords
open Go.ChangeMaps (open_string shut_string)
set_option linter.unusedVariables false
theorem own : ownKnob Try.prog.godebug = none := by kernel_rfl
theorem laidOut : laidOutB Try.prog = true := by kernel_rfl
set_option maxRecDepth 100000 in
theorem lifted (os : Os) (started : os.Started) (H : Type) (enc : TypeId × Value → H) :
    ReturnsInHanded {} Try.checked os 4 .any (Rows.fnExactNearestSpec.pre6 enc Try.prog Try.f4 Rows.fnExactNearestRow.domain false) (Rows.fnExactNearestSpec.post enc Try.prog Try.f4 false true false false) := by
  refine returnsInHanded_of_change_sized (C := Try.checked) own started (by kernel_rfl) Try.func4
    (ChangeSpec.witness6 (enc := enc) (C := Try.checked) false ⟨#[], #[.slice none 0 0, .slice none 0 0, .agg #[.slice none 0 0, .slice none 0 0, .slice none 0 0]], []⟩ 8 (by kernel_rfl) (by kernel_rfl) (by kernel_rfl) (by kernel_rfl)) ?_
  intro W base args ds gs before hval0 hW hcnd hsz0 _
  have hsz : (DataW.weightsEach Try.prog (Try.f4.params.toList ++ Rows.fnExactNearestSpec.plain.varTypes Try.prog) (ds ++ gs)).all (· ≤ reachBytes) = true := hsz0
  have hval : ∀ (j : Nat) t v, Try.f4.params[j]? = some t → args[j]? = some v → Value.okWide Try.prog W .any base t v := hval0
  have hW' := hW
  obtain ⟨p, q, hA0, hV, rfl, hfz, hnd⟩ := hW
  have hA : DataW.TrodAll enc Try.prog W 0 (fun _ => true) true Try.f4.params.toList args.toList ds p := hA0
  rw [Try.params4] at hA hval hsz
  obtain ⟨v0, vs0, d0, ds0, p0, q0, hargs, rfl, rfl, h0, r0⟩ := trodAll_cons hA
  obtain ⟨v1, vs1, d1, ds1, p1, q1, rfl, rfl, rfl, h1, r1⟩ := trodAll_cons r0
  obtain ⟨v2, vs2, d2, ds2, p2, q2, rfl, rfl, rfl, h2, r2⟩ := trodAll_cons r1
  obtain ⟨rfl, rfl, rfl⟩ := trodAll_nil r2
  obtain rfl : args = #[v0, v1, v2] := by cases args; simp_all
  obtain ⟨rfl, rfl⟩ := trodVars_none hV
  have k0 := h0
  have lt0 : ∀ x ∈ p0, x.block < W.heap.size := by obtain ⟨m, hm⟩ := k0; exact DataW.trod_lt m _ _ _ hm
  obtain ⟨a0, len0, cap0, rfl⟩ := okWide_slice Try.underlying29 (hval 0 29 v0 rfl rfl)
  obtain ⟨l0, e0, hc0, hC0, hg0⟩ := arg_slice (opens_slice Try.underlying29 (by kernel_rfl) (opens_slice Try.underlying22 (by kernel_rfl) open63)) h0
  subst e0
  have hm0 : l0.length ≤ maxLen := by have := hC0.2.1; unfold maxLen; omega
  have k1 := h1
  have lt1 : ∀ x ∈ p1, x.block < W.heap.size := by obtain ⟨m, hm⟩ := k1; exact DataW.trod_lt m _ _ _ hm
  obtain ⟨a1, len1, cap1, rfl⟩ := okWide_slice Try.underlying22 (hval 1 22 v1 rfl rfl)
  obtain ⟨l1, e1, hc1, hC1, hg1⟩ := arg_slice (opens_slice Try.underlying22 (by kernel_rfl) open63) h1
  subst e1
  have hm1 : l1.length ≤ maxLen := by have := hC1.2.1; unfold maxLen; omega
  have k2 := h2
  have lt2 : ∀ x ∈ p2, x.block < W.heap.size := by obtain ⟨m, hm⟩ := k2; exact DataW.trod_lt m _ _ _ hm
  obtain ⟨cs2, rfl, hcs2⟩ := okWide_struct Try.underlying32 (hval 2 32 v2 rfl rfl)
  obtain ⟨s2, hK2, hg2⟩ := arg_struct open32 h2
  have hs2 : ∃ (B2_0 : Option Addr) (C2_0 : Nat), ∃ (B2_1 : Option Addr) (C2_1 : Nat), ∃ (B2_2 : Option Addr) (C2_2 : Nat), cs2 = #[.slice B2_0 s2.f0.length C2_0, .slice B2_1 s2.f1.length C2_1, .slice B2_2 s2.f2.length C2_2] ∧ s2.f0.length ≤ C2_0 ∧ Kd.C (Kd.int .i64) W B2_0 s2.f0.length s2.f0 ∧ s2.f1.length ≤ C2_1 ∧ Kd.C (Kd.int .i64) W B2_1 s2.f1.length s2.f1 ∧ s2.f2.length ≤ C2_2 ∧ Kd.C (Kd.int .i64) W B2_2 s2.f2.length s2.f2 := by
    obtain ⟨c0, r0, q0, h0_, ⟨c1, r1, q1, h1_, h2_⟩⟩ := hK2
    obtain ⟨B2_0, C2_0, g0, u0, v0⟩ := h0_
    obtain ⟨B2_1, C2_1, g1, u1, v1⟩ := h1_
    obtain ⟨B2_2, C2_2, g2, u2, v2⟩ := h2_
    refine ⟨B2_0, C2_0, B2_1, C2_1, B2_2, C2_2, ?_, u0, v0, u1, v1, u2, v2⟩
    have el : cs2.toList = [.slice B2_0 s2.f0.length C2_0, .slice B2_1 s2.f1.length C2_1, .slice B2_2 s2.f2.length C2_2] := by
      have q := q0
      rw [q1] at q
      rw [show c0 = _ from g0, show c1 = _ from g1] at q
      rw [show r1 = _ from g2] at q
      exact q
    exact Array.toList_inj.1 el
  obtain ⟨B2_0, C2_0, B2_1, C2_1, B2_2, C2_2, rfl, hc2_0, hC2_0, hc2_1, hC2_1, hc2_2, hC2_2⟩ := hs2
  clear hA0 hval0 hsz0 hsz
  obtain ⟨k, h⟩ := Pure.FnExactNearest l0 l1 s2 hm0 hg0 hm1 hg1 hg2
  refine (laws_FnExactNearest.calls k _ _ l0 _ _ l1 _ _ s2.f0 _ _ s2.f1 _ _ s2.f2 true W hC0 hc0 hC1 hc1 hC2_0 hc2_0 hC2_1 hc2_1 hC2_2 hc2_2 h).mono ?_
  rintro e W' ⟨rfl, bel0⟩
  have bel : Below W.heap.size W W' := bel0
  exact ⟨_, rfl, _, _, _, [], _, [], hW', trodAll_mk1 (shut_bool Try.underlying4 _), (trodAll_cons_mk (Below.trod laidOut (by kernel_rfl) (of_decide_eq_true (by kernel_rfl)) k0 bel lt0) (trodAll_cons_mk (Below.trod laidOut (by kernel_rfl) (of_decide_eq_true (by kernel_rfl)) k1 bel lt1) (trodAll_cons_mk (Below.trod laidOut (by kernel_rfl) (of_decide_eq_true (by kernel_rfl)) k2 bel lt2) trodAll_mk0))), rfl, bel.frame _, fun h => by cases h⟩
theorem over : Rows.fnExactNearestRow.holds Try.pinned (OpenSpec.ofChange Rows.fnExactNearestSpec) :=
  OpenClaim.holds_of_wide 4 Try.f4 rfl rfl rfl rfl rfl rfl rfl ⟨rfl, rfl, rfl, rfl, rfl⟩ rfl rfl rfl rfl rfl (by kernel_rfl) Try.func4 (by kernel_rfl)
    (of_decide_eq_true (by kernel_rfl)) (by unfold Func.isWrapper; first | (rw [if_pos (by decide +kernel)]; kernel_rfl) | (rw [if_neg (by decide +kernel)]; exact ⟨rfl, rfl⟩))
    (fun os started H enc _ => lifted os started H enc)
theorem proved : Rows.FnExactNearestSaid := over
end Go.Proofs.Ytbmkobanpakohaa.fnExactNearest
namespace Go.Proofs.Ytbmkobanpakohaa
/-- The row, under a short name, for the claim. -/
theorem fnExactNearest_holds : Rows.FnExactNearestSaid := fnExactNearest.proved
#print axioms fnExactNearest_holds
end Go.Proofs.Ytbmkobanpakohaa
