/- The law FnExactHistAt holds of the program: for every argument that can be read it returns true and leaves its arguments as they were; no condition beyond the row's own. -/
import Derived.Test.YtdapeboajjidmaaRows
import Derived.Test.YtdapeboajjidmaaOFnExactHistAt
import Derived.Test.YtdapeboajjidmaaPureFnExactHistAt
import Derived.WalkKit
import Derived.ProofKit
import Derived.OpenShut
import Derived.ShutString
import Derived.ChangeOld
import Derived.Below
import Derived.SizedLaws
namespace Go.Proofs.Ytdapeboajjidmaa.fnExactHistAt
open Go.ChangeShapes Go.WideShapes Go.ChangeAt Go.RowKit Go.Proofs.Ytdapeboajjidmaa.Opens Go.Proofs.Ytdapeboajjidmaa.OFnExactHistAt Go.Proofs.Ytdapeboajjidmaa.PFnExactHistAt Go.Proofs.YtdapeboajjidmaaW.PrintWords
open Go.ChangeMaps (open_string shut_string)
set_option linter.unusedVariables false
theorem own : ownKnob Try.prog.godebug = none := by kernel_rfl
theorem laidOut : laidOutB Try.prog = true := by kernel_rfl
set_option maxRecDepth 100000 in
theorem lifted (os : Os) (started : os.Started) (H : Type) (enc : TypeId × Value → H) :
    ReturnsInHanded {} Try.checked os 4 .any (Rows.fnExactHistAtSpec.pre6 enc Try.prog Try.f4 Rows.fnExactHistAtRow.domain false) (Rows.fnExactHistAtSpec.post enc Try.prog Try.f4 false true false false) := by
  refine returnsInHanded_of_change_sized (C := Try.checked) own started (by kernel_rfl) Try.func4
    (ChangeSpec.witness6 (enc := enc) (C := Try.checked) false ⟨#[], #[.agg #[.slice none 0 0, .slice none 0 0], .int .i64 0], []⟩ 8 (by kernel_rfl) (by kernel_rfl) (by kernel_rfl) (by kernel_rfl)) ?_
  intro W base args ds gs before hval0 hW hcnd hsz0 _
  have hsz : (DataW.weightsEach Try.prog (Try.f4.params.toList ++ Rows.fnExactHistAtSpec.plain.varTypes Try.prog) (ds ++ gs)).all (· ≤ reachBytes) = true := hsz0
  have hval : ∀ (j : Nat) t v, Try.f4.params[j]? = some t → args[j]? = some v → Value.okWide Try.prog W .any base t v := hval0
  have hW' := hW
  obtain ⟨p, q, hA0, hV, rfl, hfz, hnd⟩ := hW
  have hA : DataW.TrodAll enc Try.prog W 0 (fun _ => true) true Try.f4.params.toList args.toList ds p := hA0
  rw [Try.params4] at hA hval hsz
  obtain ⟨v0, vs0, d0, ds0, p0, q0, hargs, rfl, rfl, h0, r0⟩ := trodAll_cons hA
  obtain ⟨v1, vs1, d1, ds1, p1, q1, rfl, rfl, rfl, h1, r1⟩ := trodAll_cons r0
  obtain ⟨rfl, rfl, rfl⟩ := trodAll_nil r1
  obtain rfl : args = #[v0, v1] := by cases args; simp_all
  obtain ⟨rfl, rfl⟩ := trodVars_none hV
  have k0 := h0
  have lt0 : ∀ x ∈ p0, x.block < W.heap.size := by obtain ⟨m, hm⟩ := k0; exact DataW.trod_lt m _ _ _ hm
  obtain ⟨cs0, rfl, hcs0⟩ := okWide_struct Try.underlying39 (hval 0 39 v0 rfl rfl)
  obtain ⟨s0, hK0, hg0⟩ := arg_struct open39 h0
  have hs0 : ∃ (B0_0 : Option Addr) (C0_0 : Nat), ∃ (B0_1 : Option Addr) (C0_1 : Nat), cs0 = #[.slice B0_0 s0.f0.length C0_0, .slice B0_1 s0.f1.length C0_1] ∧ s0.f0.length ≤ C0_0 ∧ Kd.C k82 W B0_0 s0.f0.length s0.f0 ∧ s0.f1.length ≤ C0_1 ∧ Kd.C (Kd.slice 73 k73) W B0_1 s0.f1.length s0.f1 := by
    obtain ⟨c0, r0, q0, h0_, h1_⟩ := hK0
    obtain ⟨B0_0, C0_0, g0, u0, v0⟩ := h0_
    obtain ⟨B0_1, C0_1, g1, u1, v1⟩ := h1_
    refine ⟨B0_0, C0_0, B0_1, C0_1, ?_, u0, v0, u1, v1⟩
    have el : cs0.toList = [.slice B0_0 s0.f0.length C0_0, .slice B0_1 s0.f1.length C0_1] := by
      have q := q0
      rw [show c0 = _ from g0] at q
      rw [show r0 = _ from g1] at q
      exact q
    exact Array.toList_inj.1 el
  obtain ⟨B0_0, C0_0, B0_1, C0_1, rfl, hc0_0, hC0_0, hc0_1, hC0_1⟩ := hs0
  obtain ⟨a1, rfl, rfl, rfl, w1⟩ := open_int Try.underlying3 (hval 1 3 v1 rfl rfl) h1
  clear hA0 hval0 hsz0 hsz
  obtain ⟨k, h⟩ := Pure.FnExactHistAt s0 a1 hg0 w1
  refine (laws_FnExactHistAt.calls k _ _ s0.f0 _ _ s0.f1 a1 true W hC0_0 hc0_0 hC0_1 hc0_1 h).mono ?_
  rintro e W' ⟨rfl, bel0⟩
  have bel : Below W.heap.size W W' := bel0
  exact ⟨_, rfl, _, _, _, [], _, [], hW', trodAll_mk1 (shut_bool Try.underlying4 _), (trodAll_cons_mk (Below.trod laidOut (by kernel_rfl) (of_decide_eq_true (by kernel_rfl)) k0 bel lt0) (trodAll_cons_mk (shut_int Try.underlying3 w1) trodAll_mk0)), rfl, bel.frame _, fun h => by cases h⟩
theorem over : Rows.fnExactHistAtRow.holds Try.pinned (OpenSpec.ofChange Rows.fnExactHistAtSpec) :=
  OpenClaim.holds_of_wide 4 Try.f4 rfl rfl rfl rfl rfl rfl rfl ⟨rfl, rfl, rfl, rfl, rfl⟩ rfl rfl rfl rfl rfl (by kernel_rfl) Try.func4 (by kernel_rfl)
    (of_decide_eq_true (by kernel_rfl)) (by unfold Func.isWrapper; first | (rw [if_pos (by decide +kernel)]; kernel_rfl) | (rw [if_neg (by decide +kernel)]; exact ⟨rfl, rfl⟩))
    (fun os started H enc _ => lifted os started H enc)
theorem proved : Rows.FnExactHistAtSaid := over
end Go.Proofs.Ytdapeboajjidmaa.fnExactHistAt
namespace Go.Proofs.Ytdapeboajjidmaa
/-- The row, under a short name, for the claim. -/
theorem fnExactHistAt_holds : Rows.FnExactHistAtSaid := fnExactHistAt.proved
#print axioms fnExactHistAt_holds
end Go.Proofs.Ytdapeboajjidmaa
