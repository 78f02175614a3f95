/- How the arguments of the law FnExactDomFrom are read, and its pure statement: for every argument that can be read, from some number of rounds on the function answers true; no other condition. -/
import Derived.Test.YtmbhlfcpdbbogabMFnExactDomFromx
import Derived.Test.YtmbhlfcpdbbogabMFnExactDomFromOpens
namespace Go.Proofs.Ytmbhlfcpdbbogab.OFnExactDomFrom
open Go.RowKit Go.Proofs.Ytmbhlfcpdbbogab.PFnExactDomFrom Go.Proofs.YtmbhlfcpdbbogabW.PrintWords Go.Proofs.YtmbhlfcpdbbogabW.PrintLast Go.Proofs.YtmbhlfcpdbbogabW.PrintMore Go.Proofs.Ytmbhlfcpdbbogab.Opens
set_option linter.unusedVariables false
def good96 (x : S96) : Prop := (Lit.int .i64 x.f0).wf = true ∧ (Lit.int .i64 x.f1).wf = true
set_option maxRecDepth 100000 in
theorem open96 : Opens Try.prog 96 k96 good96 :=
  opens_struct (f := fun x : S96 => (x.f0, x.f1)) (fun p : (Int) × (Int) => (⟨p.1, p.2⟩ : S96)) (fun _ => rfl) Try.underlying96 rfl (fieldsTo_cons (j := 0) rfl (by kernel_rfl) (opens_int Try.underlying3) rfl (by first | rfl | kernel_rfl) (fieldsTo_last (j := 1) rfl (by kernel_rfl) (opens_int Try.underlying3) (by first | rfl | kernel_rfl) rfl))
/-- The one pure statement of the law. -/
def PureL : Prop := ∀ (l0 : List (S96)), l0.length ≤ maxLen → (∀ x ∈ l0, good96 x) → ∃ k, laws_FnExactDomFrom.f k l0 = some true
end Go.Proofs.Ytmbhlfcpdbbogab.OFnExactDomFrom
