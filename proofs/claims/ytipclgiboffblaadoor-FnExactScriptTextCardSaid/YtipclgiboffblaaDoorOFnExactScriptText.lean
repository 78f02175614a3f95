/- How the arguments of the law FnExactScriptText are read, and its pure statement: for every argument that can be read, from some number of rounds on the function answers true; no other condition. -/
import Derived.Test.YtipclgiboffblaaDoorMFnExactScriptTextx
import Derived.Test.YtipclgiboffblaaDoorMFnExactScriptTextOpens
namespace Go.Proofs.YtipclgiboffblaaDoor.OFnExactScriptText
open Go.RowKit Go.Proofs.YtipclgiboffblaaDoor.PFnExactScriptText Go.Proofs.YtipclgiboffblaaDoorW.PrintWords Go.Proofs.YtipclgiboffblaaDoorW.PrintLast Go.Proofs.YtipclgiboffblaaDoorW.PrintMore Go.Proofs.YtipclgiboffblaaDoor.Opens
set_option linter.unusedVariables false
def good30 (x : S30) : Prop := (Lit.int .i64 x.f0).wf = true ∧ (x.f1.length ≤ maxLen ∧ ∀ y0 ∈ x.f1, (Lit.int .i64 y0).wf = true) ∧ (Lit.int .i64 x.f2).wf = true ∧ (Lit.int .i64 x.f3).wf = true ∧ (Lit.int .i64 x.f4).wf = true
set_option maxRecDepth 100000 in
theorem open30 : Opens Tryd.prog 30 k30 good30 :=
  opens_struct (f := fun x : S30 => (x.f0, x.f1, x.f2, x.f3, x.f4)) (fun p : (Int) × (List (Int)) × (Int) × (Int) × (Int) => (⟨p.1, p.2.1, p.2.2.1, p.2.2.2.1, p.2.2.2.2⟩ : S30)) (fun _ => rfl) Tryd.underlying30 rfl (fieldsTo_cons (j := 0) rfl (by kernel_rfl) (opens_int Tryd.underlying3) rfl (by first | rfl | kernel_rfl) (fieldsTo_cons (j := 1) rfl (by kernel_rfl) (opens_slice Tryd.underlying28 (by kernel_rfl) (opens_int Tryd.underlying3)) rfl (by first | rfl | kernel_rfl) (fieldsTo_cons (j := 2) rfl (by kernel_rfl) (opens_int Tryd.underlying3) rfl (by first | rfl | kernel_rfl) (fieldsTo_cons (j := 3) rfl (by kernel_rfl) (opens_int Tryd.underlying3) rfl (by first | rfl | kernel_rfl) (fieldsTo_last (j := 4) rfl (by kernel_rfl) (opens_int Tryd.underlying3) (by first | rfl | kernel_rfl) rfl)))))
/-- The one pure statement of the law. -/
def PureL : Prop := ∀ (l0 : List (S30)), l0.length ≤ maxLen → (∀ x ∈ l0, good30 x) → ∃ k, laws_FnExactScriptText.f k l0 = some true
end Go.Proofs.YtipclgiboffblaaDoor.OFnExactScriptText
