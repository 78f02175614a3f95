/- How the arguments of the law FnExactHistOk are read, and its pure statement: for every argument that can be read, from some number of rounds on the function answers true; no other condition. -/
import Derived.Test.YtmbhlfcpdbbogabMFnExactHistOkx
import Derived.Test.YtmbhlfcpdbbogabMFnExactHistOkOpens
namespace Go.Proofs.Ytmbhlfcpdbbogab.OFnExactHistOk
open Go.RowKit Go.Proofs.Ytmbhlfcpdbbogab.PFnExactHistOk Go.Proofs.YtmbhlfcpdbbogabW.PrintWords Go.Proofs.YtmbhlfcpdbbogabW.PrintLast Go.Proofs.YtmbhlfcpdbbogabW.PrintMore Go.Proofs.Ytmbhlfcpdbbogab.Opens
set_option linter.unusedVariables false
def good96 (x : S96) : Prop := (Lit.int .i64 x.f0).wf = true ∧ (Lit.int .i64 x.f1).wf = true
set_option maxRecDepth 100000 in
theorem open96 : Opens Try.prog 96 k96 good96 :=
  opens_struct (f := fun x : S96 => (x.f0, x.f1)) (fun p : (Int) × (Int) => (⟨p.1, p.2⟩ : S96)) (fun _ => rfl) Try.underlying96 rfl (fieldsTo_cons (j := 0) rfl (by kernel_rfl) (opens_int Try.underlying3) rfl (by first | rfl | kernel_rfl) (fieldsTo_last (j := 1) rfl (by kernel_rfl) (opens_int Try.underlying3) (by first | rfl | kernel_rfl) rfl))
def good160 (x : S160) : Prop := (Lit.int .i64 x.f0).wf = true ∧ (x.f1.length ≤ maxLen ∧ ∀ y0 ∈ x.f1, (Lit.int .i64 y0).wf = true) ∧ (Lit.int .i64 x.f2).wf = true ∧ (Lit.int .i64 x.f3).wf = true ∧ (Lit.int .i64 x.f4).wf = true
set_option maxRecDepth 100000 in
theorem open160 : Opens Try.prog 160 k160 good160 :=
  opens_struct (f := fun x : S160 => (x.f0, x.f1, x.f2, x.f3, x.f4)) (fun p : (Int) × (List (Int)) × (Int) × (Int) × (Int) => (⟨p.1, p.2.1, p.2.2.1, p.2.2.2.1, p.2.2.2.2⟩ : S160)) (fun _ => rfl) Try.underlying160 rfl (fieldsTo_cons (j := 0) rfl (by kernel_rfl) (opens_int Try.underlying3) rfl (by first | rfl | kernel_rfl) (fieldsTo_cons (j := 1) rfl (by kernel_rfl) (opens_slice Try.underlying47 (by kernel_rfl) (opens_int Try.underlying3)) rfl (by first | rfl | kernel_rfl) (fieldsTo_cons (j := 2) rfl (by kernel_rfl) (opens_int Try.underlying3) rfl (by first | rfl | kernel_rfl) (fieldsTo_cons (j := 3) rfl (by kernel_rfl) (opens_int Try.underlying3) rfl (by first | rfl | kernel_rfl) (fieldsTo_last (j := 4) rfl (by kernel_rfl) (opens_int Try.underlying3) (by first | rfl | kernel_rfl) rfl)))))
structure S76 where
  f0 : List (S96)
  f1 : List (List (S160))
def k76 : Kd S76 := Kd.iso (Kd.pair (Kd.slice 96 k96) (Kd.slice 145 (Kd.slice 160 k160))) (fun x : S76 => (x.f0, x.f1))
def good76 (x : S76) : Prop := (x.f0.length ≤ maxLen ∧ ∀ y0 ∈ x.f0, good96 y0) ∧ (x.f1.length ≤ maxLen ∧ ∀ y0 ∈ x.f1, (y0.length ≤ maxLen ∧ ∀ y1 ∈ y0, good160 y1))
set_option maxRecDepth 100000 in
theorem open76 : Opens Try.prog 76 k76 good76 :=
  opens_struct (f := fun x : S76 => (x.f0, x.f1)) (fun p : (List (S96)) × (List (List (S160))) => (⟨p.1, p.2⟩ : S76)) (fun _ => rfl) Try.underlying76 rfl (fieldsTo_cons (j := 0) rfl (by kernel_rfl) (opens_slice Try.underlying35 (by kernel_rfl) open96) rfl (by first | rfl | kernel_rfl) (fieldsTo_last (j := 1) rfl (by kernel_rfl) (opens_slice Try.underlying74 (by kernel_rfl) (opens_slice Try.underlying145 (by kernel_rfl) open160)) (by first | rfl | kernel_rfl) rfl))
/-- The one pure statement of the law. -/
def PureL : Prop := ∀ (s0 : S76), good76 s0 → ∃ k, laws_FnExactHistOk.f k s0.f0 s0.f1 = some true
end Go.Proofs.Ytmbhlfcpdbbogab.OFnExactHistOk
