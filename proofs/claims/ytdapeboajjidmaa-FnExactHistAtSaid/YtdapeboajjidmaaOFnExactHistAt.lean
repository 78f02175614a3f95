/- How the arguments of the law FnExactHistAt are read, and its pure statement: for every argument that can be read, from some number of rounds on the function answers true; no other condition. -/
import Derived.Test.YtdapeboajjidmaaMFnExactHistAtx
import Derived.Test.YtdapeboajjidmaaMFnExactHistAtOpens
namespace Go.Proofs.Ytdapeboajjidmaa.OFnExactHistAt
open Go.RowKit Go.Proofs.Ytdapeboajjidmaa.PFnExactHistAt Go.Proofs.YtdapeboajjidmaaW.PrintWords Go.Proofs.YtdapeboajjidmaaW.PrintLast Go.Proofs.YtdapeboajjidmaaW.PrintMore Go.Proofs.Ytdapeboajjidmaa.Opens
set_option linter.unusedVariables false
def good82 (x : S82) : Prop := (Lit.int .i64 x.f0).wf = true ∧ (Lit.int .i64 x.f1).wf = true
set_option maxRecDepth 100000 in
theorem open82 : Opens Try.prog 82 k82 good82 :=
  opens_struct (f := fun x : S82 => (x.f0, x.f1)) (fun p : (Int) × (Int) => (⟨p.1, p.2⟩ : S82)) (fun _ => rfl) Try.underlying82 rfl (fieldsTo_cons (j := 0) rfl (by kernel_rfl) (opens_int Try.underlying3) rfl (by first | rfl | kernel_rfl) (fieldsTo_last (j := 1) rfl (by kernel_rfl) (opens_int Try.underlying3) (by first | rfl | kernel_rfl) rfl))
def good73 (x : S73) : Prop := (Lit.int .i64 x.f0).wf = true ∧ (x.f1.length ≤ maxLen ∧ ∀ y0 ∈ x.f1, (Lit.int .i64 y0).wf = true) ∧ (Lit.int .i64 x.f2).wf = true ∧ (Lit.int .i64 x.f3).wf = true ∧ (Lit.int .i64 x.f4).wf = true
set_option maxRecDepth 100000 in
theorem open73 : Opens Try.prog 73 k73 good73 :=
  opens_struct (f := fun x : S73 => (x.f0, x.f1, x.f2, x.f3, x.f4)) (fun p : (Int) × (List (Int)) × (Int) × (Int) × (Int) => (⟨p.1, p.2.1, p.2.2.1, p.2.2.2.1, p.2.2.2.2⟩ : S73)) (fun _ => rfl) Try.underlying73 rfl (fieldsTo_cons (j := 0) rfl (by kernel_rfl) (opens_int Try.underlying3) rfl (by first | rfl | kernel_rfl) (fieldsTo_cons (j := 1) rfl (by kernel_rfl) (opens_slice Try.underlying61 (by kernel_rfl) (opens_int Try.underlying3)) rfl (by first | rfl | kernel_rfl) (fieldsTo_cons (j := 2) rfl (by kernel_rfl) (opens_int Try.underlying3) rfl (by first | rfl | kernel_rfl) (fieldsTo_cons (j := 3) rfl (by kernel_rfl) (opens_int Try.underlying3) rfl (by first | rfl | kernel_rfl) (fieldsTo_last (j := 4) rfl (by kernel_rfl) (opens_int Try.underlying3) (by first | rfl | kernel_rfl) rfl)))))
structure S39 where
  f0 : List (S82)
  f1 : List (List (S73))
def k39 : Kd S39 := Kd.iso (Kd.pair (Kd.slice 82 k82) (Kd.slice 23 (Kd.slice 73 k73))) (fun x : S39 => (x.f0, x.f1))
def good39 (x : S39) : Prop := (x.f0.length ≤ maxLen ∧ ∀ y0 ∈ x.f0, good82 y0) ∧ (x.f1.length ≤ maxLen ∧ ∀ y0 ∈ x.f1, (y0.length ≤ maxLen ∧ ∀ y1 ∈ y0, good73 y1))
set_option maxRecDepth 100000 in
theorem open39 : Opens Try.prog 39 k39 good39 :=
  opens_struct (f := fun x : S39 => (x.f0, x.f1)) (fun p : (List (S82)) × (List (List (S73))) => (⟨p.1, p.2⟩ : S39)) (fun _ => rfl) Try.underlying39 rfl (fieldsTo_cons (j := 0) rfl (by kernel_rfl) (opens_slice Try.underlying22 (by kernel_rfl) open82) rfl (by first | rfl | kernel_rfl) (fieldsTo_last (j := 1) rfl (by kernel_rfl) (opens_slice Try.underlying37 (by kernel_rfl) (opens_slice Try.underlying23 (by kernel_rfl) open73)) (by first | rfl | kernel_rfl) rfl))
/-- The one pure statement of the law. -/
def PureL : Prop := ∀ (s0 : S39) (a1 : Int), good39 s0 → (Lit.int .i64 a1).wf = true → ∃ k, laws_FnExactHistAt.f k s0.f0 s0.f1 a1 = some true
end Go.Proofs.Ytdapeboajjidmaa.OFnExactHistAt
