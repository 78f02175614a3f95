/- How the arguments of the law FnExactDomRelabel are read, and its pure statement: for every argument that can be read, from some number of rounds on the function answers true; no other condition. -/
import Derived.Test.YtmbhlfcpdbbogabMFnExactDomRelabelx
import Derived.Test.YtmbhlfcpdbbogabMFnExactDomRelabelOpens
namespace Go.Proofs.Ytmbhlfcpdbbogab.OFnExactDomRelabel
open Go.RowKit Go.Proofs.Ytmbhlfcpdbbogab.PFnExactDomRelabel Go.Proofs.YtmbhlfcpdbbogabW.PrintWords Go.Proofs.YtmbhlfcpdbbogabW.PrintLast Go.Proofs.YtmbhlfcpdbbogabW.PrintMore Go.Proofs.Ytmbhlfcpdbbogab.Opens
set_option linter.unusedVariables false
def good131 (x : S131) : Prop := True ∧ (Lit.int .i64 x.f1).wf = true ∧ (Lit.int .i64 x.f2).wf = true ∧ (Lit.int .i64 x.f3).wf = true ∧ (Lit.int .i64 x.f4).wf = true ∧ (Lit.int .i64 x.f5).wf = true ∧ (Lit.int .i64 x.f6).wf = true
set_option maxRecDepth 100000 in
theorem open131 : Opens Try.prog 131 k131 good131 :=
  opens_struct (f := fun x : S131 => (x.f0, x.f1, x.f2, x.f3, x.f4, x.f5, x.f6)) (fun p : (Bool) × (Int) × (Int) × (Int) × (Int) × (Int) × (Int) => (⟨p.1, p.2.1, p.2.2.1, p.2.2.2.1, p.2.2.2.2.1, p.2.2.2.2.2.1, p.2.2.2.2.2.2⟩ : S131)) (fun _ => rfl) Try.underlying131 rfl (fieldsTo_cons (j := 0) rfl (by kernel_rfl) (opens_bool Try.underlying4) rfl (by first | rfl | kernel_rfl) (fieldsTo_cons (j := 1) rfl (by kernel_rfl) (opens_int Try.underlying3) rfl (by first | rfl | kernel_rfl) (fieldsTo_cons (j := 2) rfl (by kernel_rfl) (opens_int Try.underlying3) rfl (by first | rfl | kernel_rfl) (fieldsTo_cons (j := 3) rfl (by kernel_rfl) (opens_int Try.underlying3) rfl (by first | rfl | kernel_rfl) (fieldsTo_cons (j := 4) rfl (by kernel_rfl) (opens_int Try.underlying3) rfl (by first | rfl | kernel_rfl) (fieldsTo_cons (j := 5) rfl (by kernel_rfl) (opens_int Try.underlying3) rfl (by first | rfl | kernel_rfl) (fieldsTo_last (j := 6) rfl (by kernel_rfl) (opens_int Try.underlying3) (by first | rfl | kernel_rfl) rfl)))))))
structure S24 where
  f0 : List (S131)
def k24 : Kd S24 := Kd.iso (Kd.slice 131 k131) (fun x : S24 => (x.f0))
def good24 (x : S24) : Prop := (x.f0.length ≤ maxLen ∧ ∀ y0 ∈ x.f0, good131 y0)
set_option maxRecDepth 100000 in
theorem open24 : Opens Try.prog 24 k24 good24 :=
  opens_struct (f := fun x : S24 => (x.f0)) (fun p : (List (S131)) => (⟨p⟩ : S24)) (fun _ => rfl) Try.underlying24 rfl (fieldsTo_last (j := 0) rfl (by kernel_rfl) (opens_slice Try.underlying22 (by kernel_rfl) open131) (by first | rfl | kernel_rfl) rfl)
/-- The one pure statement of the law. -/
def PureL : Prop := ∀ (s0 : S24) (a1 : Int) (a2 : Int), good24 s0 → (Lit.int .i64 a1).wf = true → (Lit.int .i64 a2).wf = true → ∃ k, laws_FnExactDomRelabel.f k s0.f0 a1 a2 = some true
end Go.Proofs.Ytmbhlfcpdbbogab.OFnExactDomRelabel
