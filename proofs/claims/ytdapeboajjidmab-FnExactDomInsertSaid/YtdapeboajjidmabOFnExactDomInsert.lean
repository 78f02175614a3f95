/- How the arguments of the law FnExactDomInsert are read, and its pure statement: for every argument that can be read, from some number of rounds on the function answers true; no other condition. -/
import Derived.Test.YtdapeboajjidmabMFnExactDomInsertx
import Derived.Test.YtdapeboajjidmabMFnExactDomInsertOpens
namespace Go.Proofs.Ytdapeboajjidmab.OFnExactDomInsert
open Go.RowKit Go.Proofs.Ytdapeboajjidmab.PFnExactDomInsert Go.Proofs.YtdapeboajjidmabW.PrintWords Go.Proofs.YtdapeboajjidmabW.PrintLast Go.Proofs.YtdapeboajjidmabW.PrintMore Go.Proofs.Ytdapeboajjidmab.Opens
set_option linter.unusedVariables false
def good135 (x : S135) : Prop := True ∧ (Lit.int .i64 x.f1).wf = true ∧ (Lit.int .i64 x.f2).wf = true ∧ (Lit.int .i64 x.f3).wf = true ∧ (Lit.int .i64 x.f4).wf = true ∧ (Lit.int .i64 x.f5).wf = true ∧ (Lit.int .i64 x.f6).wf = true
set_option maxRecDepth 100000 in
theorem open135 : Opens Try.prog 135 k135 good135 :=
  opens_struct (f := fun x : S135 => (x.f0, x.f1, x.f2, x.f3, x.f4, x.f5, x.f6)) (fun p : (Bool) × (Int) × (Int) × (Int) × (Int) × (Int) × (Int) => (⟨p.1, p.2.1, p.2.2.1, p.2.2.2.1, p.2.2.2.2.1, p.2.2.2.2.2.1, p.2.2.2.2.2.2⟩ : S135)) (fun _ => rfl) Try.underlying135 rfl (fieldsTo_cons (j := 0) rfl (by kernel_rfl) (opens_bool Try.underlying4) rfl (by first | rfl | kernel_rfl) (fieldsTo_cons (j := 1) rfl (by kernel_rfl) (opens_int Try.underlying3) rfl (by first | rfl | kernel_rfl) (fieldsTo_cons (j := 2) rfl (by kernel_rfl) (opens_int Try.underlying3) rfl (by first | rfl | kernel_rfl) (fieldsTo_cons (j := 3) rfl (by kernel_rfl) (opens_int Try.underlying3) rfl (by first | rfl | kernel_rfl) (fieldsTo_cons (j := 4) rfl (by kernel_rfl) (opens_int Try.underlying3) rfl (by first | rfl | kernel_rfl) (fieldsTo_cons (j := 5) rfl (by kernel_rfl) (opens_int Try.underlying3) rfl (by first | rfl | kernel_rfl) (fieldsTo_last (j := 6) rfl (by kernel_rfl) (opens_int Try.underlying3) (by first | rfl | kernel_rfl) rfl)))))))
structure S39 where
  f0 : List (S135)
def k39 : Kd S39 := Kd.iso (Kd.slice 135 k135) (fun x : S39 => (x.f0))
def good39 (x : S39) : Prop := (x.f0.length ≤ maxLen ∧ ∀ y0 ∈ x.f0, good135 y0)
set_option maxRecDepth 100000 in
theorem open39 : Opens Try.prog 39 k39 good39 :=
  opens_struct (f := fun x : S39 => (x.f0)) (fun p : (List (S135)) => (⟨p⟩ : S39)) (fun _ => rfl) Try.underlying39 rfl (fieldsTo_last (j := 0) rfl (by kernel_rfl) (opens_slice Try.underlying37 (by kernel_rfl) open135) (by first | rfl | kernel_rfl) rfl)
/-- The one pure statement of the law. -/
def PureL : Prop := ∀ (s0 : S39) (a1 : Int) (a2 : Int) (a3 : Int) (a4 : Int), good39 s0 → (Lit.int .i64 a1).wf = true → (Lit.int .i64 a2).wf = true → (Lit.int .i64 a3).wf = true → (Lit.int .i64 a4).wf = true → ∃ k, laws_FnExactDomInsert.f k s0.f0 a1 a2 a3 a4 = some true
end Go.Proofs.Ytdapeboajjidmab.OFnExactDomInsert
