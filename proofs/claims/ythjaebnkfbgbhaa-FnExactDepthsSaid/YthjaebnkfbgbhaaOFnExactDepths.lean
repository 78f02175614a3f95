/- How the arguments of the law FnExactDepths are read, and its pure statement: for every argument that can be read, from some number of rounds on the function answers true; no other condition. -/
import Derived.Test.YthjaebnkfbgbhaaPFnExactDepthsx
import Derived.Test.YthjaebnkfbgbhaaOpens
namespace Go.Proofs.Ythjaebnkfbgbhaa.OFnExactDepths
open Go.RowKit Go.Proofs.Ythjaebnkfbgbhaa.PFnExactDepths Go.Proofs.YthjaebnkfbgbhaaW.PrintWords Go.Proofs.YthjaebnkfbgbhaaW.PrintLast Go.Proofs.YthjaebnkfbgbhaaW.PrintMore Go.Proofs.Ythjaebnkfbgbhaa.Opens
set_option linter.unusedVariables false
def good48 (x : S48) : Prop := (Lit.int .i64 x.f0).wf = true ∧ (Lit.int .i64 x.f1).wf = true
theorem open48 : Opens Try.prog 48 k48 good48 :=
  opens_struct (f := fun x : S48 => (x.f0, x.f1)) (fun p : (Int) × (Int) => (⟨p.1, p.2⟩ : S48)) (fun _ => rfl) Try.underlying48 rfl (fieldsTo_cons (j := 0) rfl (by kernel_rfl) (opens_int Try.underlying3) rfl (by first | rfl | kernel_rfl) (fieldsTo_last (j := 1) rfl (by kernel_rfl) (opens_int Try.underlying3) (by first | rfl | kernel_rfl) rfl))
/-- The one pure statement of the law. -/
def PureL : Prop := ∀ (l0 : List (S48)), l0.length ≤ maxLen → (∀ x ∈ l0, good48 x) → ∃ k, laws_FnExactDepths.f k l0 = some true
end Go.Proofs.Ythjaebnkfbgbhaa.OFnExactDepths
