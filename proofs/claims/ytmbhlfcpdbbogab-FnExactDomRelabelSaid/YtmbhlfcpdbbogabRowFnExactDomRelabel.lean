/- The law FnExactDomRelabel holds of the program: for every argument that can be read it returns true and leaves its arguments as they were; no condition beyond the row's own. -/
import Derived.Test.YtmbhlfcpdbbogabRows
import Derived.Test.YtmbhlfcpdbbogabOFnExactDomRelabel
import Derived.Test.YtmbhlfcpdbbogabPureFnExactDomRelabel
import Derived.WalkKit
import Derived.ProofKit
import Derived.OpenShut
import Derived.ShutString
import Derived.ChangeOld
import Derived.Below
import Derived.SizedLaws
namespace Go.Proofs.Ytmbhlfcpdbbogab.fnExactDomRelabel
open Go.ChangeShapes Go.WideShapes Go.ChangeAt Go.RowKit Go.Proofs.Ytmbhlfcpdbbogab.Opens Go.Proofs.Ytmbhlfcpdbbogab.OFnExactDomRelabel Go.Proofs.Ytmbhlfcpdbbogab.PFnExactDomRelabel Go.Proofs.YtmbhlfcpdbbogabW.PrintWords
open Go.ChangeMaps (open_string shut_string)
set_option linter.unusedVariables false
theorem own : ownKnob Try.prog.godebug = none := by kernel_rfl
theorem laidOut : laidOutB Try.prog = true := by kernel_rfl
set_option maxRecDepth 100000 in
theorem lifted (os : Os) (started : os.Started) (H : Type) (enc : TypeId × Value → H) :
    ReturnsInHanded {} Try.checked os 3 .any (Rows.fnExactDomRelabelSpec.pre6 enc Try.prog Try.f3 Rows.fnExactDomRelabelRow.domain false) (Rows.fnExactDomRelabelSpec.post enc Try.prog Try.f3 false true false false) := by
  refine returnsInHanded_of_change_sized (C := Try.checked) own started (by kernel_rfl) Try.func3
    (ChangeSpec.witness6 (enc := enc) (C := Try.checked) false ⟨#[], #[.agg #[.slice none 0 0], .int .i64 0, .int .i64 0], []⟩ 8 (by kernel_rfl) (by kernel_rfl) (by kernel_rfl) (by kernel_rfl)) ?_
  intro W base args ds gs before hval0 hW hcnd hsz0 _
  have hsz : (DataW.weightsEach Try.prog (Try.f3.params.toList ++ Rows.fnExactDomRelabelSpec.plain.varTypes Try.prog) (ds ++ gs)).all (· ≤ reachBytes) = true := hsz0
  have hval : ∀ (j : Nat) t v, Try.f3.params[j]? = some t → args[j]? = some v → Value.okWide Try.prog W .any base t v := hval0
  have hW' := hW
  obtain ⟨p, q, hA0, hV, rfl, hfz, hnd⟩ := hW
  have hA : DataW.TrodAll enc Try.prog W 0 (fun _ => true) true Try.f3.params.toList args.toList ds p := hA0
  rw [Try.params3] at hA hval hsz
  obtain ⟨v0, vs0, d0, ds0, p0, q0, hargs, rfl, rfl, h0, r0⟩ := trodAll_cons hA
  obtain ⟨v1, vs1, d1, ds1, p1, q1, rfl, rfl, rfl, h1, r1⟩ := trodAll_cons r0
  obtain ⟨v2, vs2, d2, ds2, p2, q2, rfl, rfl, rfl, h2, r2⟩ := trodAll_cons r1
  obtain ⟨rfl, rfl, rfl⟩ := trodAll_nil r2
  obtain rfl : args = #[v0, v1, v2] := by cases args; simp_all
  obtain ⟨rfl, rfl⟩ := trodVars_none hV
  have k0 := h0
  have lt0 : ∀ x ∈ p0, x.block < W.heap.size := by obtain ⟨m, hm⟩ := k0; exact DataW.trod_lt m _ _ _ hm
  obtain ⟨cs0, rfl, hcs0⟩ := okWide_struct Try.underlying24 (hval 0 24 v0 rfl rfl)
  obtain ⟨s0, hK0, hg0⟩ := arg_struct open24 h0
  have hs0 : ∃ (B0_0 : Option Addr) (C0_0 : Nat), cs0 = #[.slice B0_0 s0.f0.length C0_0] ∧ s0.f0.length ≤ C0_0 ∧ Kd.C k131 W B0_0 s0.f0.length s0.f0 := by
    have h0_ := hK0
    obtain ⟨B0_0, C0_0, g0, u0, v0⟩ := h0_
    refine ⟨B0_0, C0_0, ?_, u0, v0⟩
    have el : cs0.toList = [.slice B0_0 s0.f0.length C0_0] := by
      exact g0
    exact Array.toList_inj.1 el
  obtain ⟨B0_0, C0_0, rfl, hc0_0, hC0_0⟩ := hs0
  obtain ⟨a1, rfl, rfl, rfl, w1⟩ := open_int Try.underlying3 (hval 1 3 v1 rfl rfl) h1
  obtain ⟨a2, rfl, rfl, rfl, w2⟩ := open_int Try.underlying3 (hval 2 3 v2 rfl rfl) h2
  clear hA0 hval0 hsz0 hsz
  obtain ⟨k, h⟩ := Pure.FnExactDomRelabel s0 a1 a2 hg0 w1 w2
  refine (laws_FnExactDomRelabel.calls k _ _ s0.f0 a1 a2 true W hC0_0 hc0_0 h).mono ?_
  rintro e W' ⟨rfl, bel0⟩
  have bel : Below W.heap.size W W' := bel0
  exact ⟨_, rfl, _, _, _, [], _, [], hW', trodAll_mk1 (shut_bool Try.underlying4 _), (trodAll_cons_mk (Below.trod laidOut (by kernel_rfl) (of_decide_eq_true (by kernel_rfl)) k0 bel lt0) (trodAll_cons_mk (shut_int Try.underlying3 w1) (trodAll_cons_mk (shut_int Try.underlying3 w2) trodAll_mk0))), rfl, bel.frame _, fun h => by cases h⟩
theorem over : Rows.fnExactDomRelabelRow.holds Try.pinned (OpenSpec.ofChange Rows.fnExactDomRelabelSpec) :=
  OpenClaim.holds_of_wide 3 Try.f3 rfl rfl rfl rfl rfl rfl rfl ⟨rfl, rfl, rfl, rfl, rfl⟩ rfl rfl rfl rfl rfl (by kernel_rfl) Try.func3 (by kernel_rfl)
    (of_decide_eq_true (by kernel_rfl)) (by unfold Func.isWrapper; first | (rw [if_pos (by decide +kernel)]; kernel_rfl) | (rw [if_neg (by decide +kernel)]; exact ⟨rfl, rfl⟩))
    (fun os started H enc _ => lifted os started H enc)
theorem proved : Rows.FnExactDomRelabelSaid := over
end Go.Proofs.Ytmbhlfcpdbbogab.fnExactDomRelabel
namespace Go.Proofs.Ytmbhlfcpdbbogab
/-- The row, under a short name, for the claim. -/
theorem fnExactDomRelabel_holds : Rows.FnExactDomRelabelSaid := fnExactDomRelabel.proved
#print axioms fnExactDomRelabel_holds
end Go.Proofs.Ytmbhlfcpdbbogab
