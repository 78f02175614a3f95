/- How the arguments of the law FnExactSimilarity are read, and its pure statement: for every argument that can be read, from some number of rounds on the function answers true; no other condition. -/
import Derived.Test.YtbmkobanpakohaaMFnExactSimilarityx
import Derived.Test.YtbmkobanpakohaaMFnExactSimilarityOpens
namespace Go.Proofs.Ytbmkobanpakohaa.OFnExactSimilarity
open Go.RowKit Go.Proofs.Ytbmkobanpakohaa.PFnExactSimilarity Go.Proofs.YtbmkobanpakohaaW.PrintWords Go.Proofs.YtbmkobanpakohaaW.PrintLast Go.Proofs.YtbmkobanpakohaaW.PrintMore Go.Proofs.Ytbmkobanpakohaa.Opens
set_option linter.unusedVariables false
def good63 (x : S63) : Prop := (Lit.int .i64 x.f0).wf = true ∧ (Lit.int .i64 x.f1).wf = true
set_option maxRecDepth 100000 in
theorem open63 : Opens Try.prog 63 k63 good63 :=
  opens_struct (f := fun x : S63 => (x.f0, x.f1)) (fun p : (Int) × (Int) => (⟨p.1, p.2⟩ : S63)) (fun _ => rfl) Try.underlying63 rfl (fieldsTo_cons (j := 0) rfl (by kernel_rfl) (opens_int Try.underlying3) rfl (by first | rfl | kernel_rfl) (fieldsTo_last (j := 1) rfl (by kernel_rfl) (opens_int Try.underlying3) (by first | rfl | kernel_rfl) rfl))
/-- The one pure statement of the law. -/
def PureL : Prop := ∀ (l0 : List (S63)) (l1 : List (S63)), l0.length ≤ maxLen → (∀ x ∈ l0, good63 x) → l1.length ≤ maxLen → (∀ x ∈ l1, good63 x) → ∃ k, laws_FnExactSimilarity.f k l0 l1 = some true
end Go.Proofs.Ytbmkobanpakohaa.OFnExactSimilarity
