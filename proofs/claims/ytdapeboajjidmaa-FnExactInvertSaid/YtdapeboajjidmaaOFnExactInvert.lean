/- How the arguments of the law FnExactInvert are read, and its pure statement: for every argument that can be read, from some number of rounds on the function answers true; no other condition. -/
import Derived.Test.YtdapeboajjidmaaMFnExactInvertx
import Derived.Test.YtdapeboajjidmaaMFnExactInvertOpens
namespace Go.Proofs.Ytdapeboajjidmaa.OFnExactInvert
open Go.RowKit Go.Proofs.Ytdapeboajjidmaa.PFnExactInvert Go.Proofs.YtdapeboajjidmaaW.PrintWords Go.Proofs.YtdapeboajjidmaaW.PrintLast Go.Proofs.YtdapeboajjidmaaW.PrintMore Go.Proofs.Ytdapeboajjidmaa.Opens
set_option linter.unusedVariables false
def good82 (x : S82) : Prop := (Lit.int .i64 x.f0).wf = true ∧ (Lit.int .i64 x.f1).wf = true
set_option maxRecDepth 100000 in
theorem open82 : Opens Try.prog 82 k82 good82 :=
  opens_struct (f := fun x : S82 => (x.f0, x.f1)) (fun p : (Int) × (Int) => (⟨p.1, p.2⟩ : S82)) (fun _ => rfl) Try.underlying82 rfl (fieldsTo_cons (j := 0) rfl (by kernel_rfl) (opens_int Try.underlying3) rfl (by first | rfl | kernel_rfl) (fieldsTo_last (j := 1) rfl (by kernel_rfl) (opens_int Try.underlying3) (by first | rfl | kernel_rfl) rfl))
def good73 (x : S73) : Prop := (Lit.int .i64 x.f0).wf = true ∧ (x.f1.length ≤ maxLen ∧ ∀ y0 ∈ x.f1, (Lit.int .i64 y0).wf = true) ∧ (Lit.int .i64 x.f2).wf = true ∧ (Lit.int .i64 x.f3).wf = true ∧ (Lit.int .i64 x.f4).wf = true
set_option maxRecDepth 100000 in
theorem open73 : Opens Try.prog 73 k73 good73 :=
  opens_struct (f := fun x : S73 => (x.f0, x.f1, x.f2, x.f3, x.f4)) (fun p : (Int) × (List (Int)) × (Int) × (Int) × (Int) => (⟨p.1, p.2.1, p.2.2.1, p.2.2.2.1, p.2.2.2.2⟩ : S73)) (fun _ => rfl) Try.underlying73 rfl (fieldsTo_cons (j := 0) rfl (by kernel_rfl) (opens_int Try.underlying3) rfl (by first | rfl | kernel_rfl) (fieldsTo_cons (j := 1) rfl (by kernel_rfl) (opens_slice Try.underlying61 (by kernel_rfl) (opens_int Try.underlying3)) rfl (by first | rfl | kernel_rfl) (fieldsTo_cons (j := 2) rfl (by kernel_rfl) (opens_int Try.underlying3) rfl (by first | rfl | kernel_rfl) (fieldsTo_cons (j := 3) rfl (by kernel_rfl) (opens_int Try.underlying3) rfl (by first | rfl | kernel_rfl) (fieldsTo_last (j := 4) rfl (by kernel_rfl) (opens_int Try.underlying3) (by first | rfl | kernel_rfl) rfl)))))
/-- The one pure statement of the law. -/
def PureL : Prop := ∀ (l0 : List (S82)) (l1 : List (S73)), l0.length ≤ maxLen → (∀ x ∈ l0, good82 x) → l1.length ≤ maxLen → (∀ x ∈ l1, good73 x) → ∃ k, laws_FnExactInvert.f k l0 l1 = some true
end Go.Proofs.Ytdapeboajjidmaa.OFnExactInvert
