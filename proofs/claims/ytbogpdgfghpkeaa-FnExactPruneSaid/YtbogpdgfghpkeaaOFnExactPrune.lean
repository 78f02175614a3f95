/- How the arguments of the law FnExactPrune are read, and its pure statement: for every argument that can be read, from some number of rounds on the function answers true; no other condition. -/
import Derived.Test.YtbogpdgfghpkeaaMFnExactPrunex
import Derived.Test.YtbogpdgfghpkeaaMFnExactPruneOpens
namespace Go.Proofs.Ytbogpdgfghpkeaa.OFnExactPrune
open Go.RowKit Go.Proofs.Ytbogpdgfghpkeaa.PFnExactPrune Go.Proofs.YtbogpdgfghpkeaaW.PrintWords Go.Proofs.YtbogpdgfghpkeaaW.PrintLast Go.Proofs.YtbogpdgfghpkeaaW.PrintMore Go.Proofs.Ytbogpdgfghpkeaa.Opens
set_option linter.unusedVariables false
def good76 (x : S76) : Prop := (Lit.int .i64 x.f0).wf = true ∧ (Lit.int .i64 x.f1).wf = true
set_option maxRecDepth 100000 in
theorem open76 : Opens Try.prog 76 k76 good76 :=
  opens_struct (f := fun x : S76 => (x.f0, x.f1)) (fun p : (Int) × (Int) => (⟨p.1, p.2⟩ : S76)) (fun _ => rfl) Try.underlying76 rfl (fieldsTo_cons (j := 0) rfl (by kernel_rfl) (opens_int Try.underlying3) rfl (by first | rfl | kernel_rfl) (fieldsTo_last (j := 1) rfl (by kernel_rfl) (opens_int Try.underlying3) (by first | rfl | kernel_rfl) rfl))
/-- The one pure statement of the law. -/
def PureL : Prop := ∀ (l0 : List (S76)) (a1 : Int), l0.length ≤ maxLen → (∀ x ∈ l0, good76 x) → (Lit.int .i64 a1).wf = true → ∃ k, laws_FnExactPrune.f k l0 a1 = some true
end Go.Proofs.Ytbogpdgfghpkeaa.OFnExactPrune
