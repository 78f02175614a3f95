/- How the arguments of the law FnExactGraft are read, and its pure statement: for every argument that can be read, from some number of rounds on the function answers true; no other condition. -/
import Derived.Test.YtbogpdgfghpkeabMFnExactGraftx
import Derived.Test.YtbogpdgfghpkeabMFnExactGraftOpens
namespace Go.Proofs.Ytbogpdgfghpkeab.OFnExactGraft
open Go.RowKit Go.Proofs.Ytbogpdgfghpkeab.PFnExactGraft Go.Proofs.YtbogpdgfghpkeabW.PrintWords Go.Proofs.YtbogpdgfghpkeabW.PrintLast Go.Proofs.YtbogpdgfghpkeabW.PrintMore Go.Proofs.Ytbogpdgfghpkeab.Opens
set_option linter.unusedVariables false
def good112 (x : S112) : Prop := (Lit.int .i64 x.f0).wf = true ∧ (Lit.int .i64 x.f1).wf = true
set_option maxRecDepth 100000 in
theorem open112 : Opens Try.prog 112 k112 good112 :=
  opens_struct (f := fun x : S112 => (x.f0, x.f1)) (fun p : (Int) × (Int) => (⟨p.1, p.2⟩ : S112)) (fun _ => rfl) Try.underlying112 rfl (fieldsTo_cons (j := 0) rfl (by kernel_rfl) (opens_int Try.underlying3) rfl (by first | rfl | kernel_rfl) (fieldsTo_last (j := 1) rfl (by kernel_rfl) (opens_int Try.underlying3) (by first | rfl | kernel_rfl) rfl))
/-- The one pure statement of the law. -/
def PureL : Prop := ∀ (l0 : List (S112)) (a1 : Int) (l2 : List (S112)), l0.length ≤ maxLen → (∀ x ∈ l0, good112 x) → (Lit.int .i64 a1).wf = true → l2.length ≤ maxLen → (∀ x ∈ l2, good112 x) → ∃ k, laws_FnExactGraft.f k l0 a1 l2 = some true
end Go.Proofs.Ytbogpdgfghpkeab.OFnExactGraft
