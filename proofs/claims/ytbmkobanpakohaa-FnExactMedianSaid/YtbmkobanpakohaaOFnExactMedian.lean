/- How the arguments of the law FnExactMedian are read, and its pure statement: for every argument that can be read, from some number of rounds on the function answers true; no other condition. -/
import Derived.Test.YtbmkobanpakohaaMFnExactMedianx
import Derived.Test.YtbmkobanpakohaaMFnExactMedianOpens
namespace Go.Proofs.Ytbmkobanpakohaa.OFnExactMedian
open Go.RowKit Go.Proofs.Ytbmkobanpakohaa.PFnExactMedian Go.Proofs.YtbmkobanpakohaaW.PrintWords Go.Proofs.YtbmkobanpakohaaW.PrintLast Go.Proofs.YtbmkobanpakohaaW.PrintMore Go.Proofs.Ytbmkobanpakohaa.Opens
set_option linter.unusedVariables false
def good63 (x : S63) : Prop := (Lit.int .i64 x.f0).wf = true ∧ (Lit.int .i64 x.f1).wf = true
set_option maxRecDepth 100000 in
theorem open63 : Opens Try.prog 63 k63 good63 :=
  opens_struct (f := fun x : S63 => (x.f0, x.f1)) (fun p : (Int) × (Int) => (⟨p.1, p.2⟩ : S63)) (fun _ => rfl) Try.underlying63 rfl (fieldsTo_cons (j := 0) rfl (by kernel_rfl) (opens_int Try.underlying3) rfl (by first | rfl | kernel_rfl) (fieldsTo_last (j := 1) rfl (by kernel_rfl) (opens_int Try.underlying3) (by first | rfl | kernel_rfl) rfl))
structure S32 where
  f0 : List (Int)
  f1 : List (Int)
  f2 : List (Int)
def k32 : Kd S32 := Kd.iso (Kd.pair (Kd.slice 3 (Kd.int .i64)) (Kd.pair (Kd.slice 3 (Kd.int .i64)) (Kd.slice 3 (Kd.int .i64)))) (fun x : S32 => (x.f0, x.f1, x.f2))
def good32 (x : S32) : Prop := (x.f0.length ≤ maxLen ∧ ∀ y0 ∈ x.f0, (Lit.int .i64 y0).wf = true) ∧ (x.f1.length ≤ maxLen ∧ ∀ y0 ∈ x.f1, (Lit.int .i64 y0).wf = true) ∧ (x.f2.length ≤ maxLen ∧ ∀ y0 ∈ x.f2, (Lit.int .i64 y0).wf = true)
set_option maxRecDepth 100000 in
theorem open32 : Opens Try.prog 32 k32 good32 :=
  opens_struct (f := fun x : S32 => (x.f0, x.f1, x.f2)) (fun p : (List (Int)) × (List (Int)) × (List (Int)) => (⟨p.1, p.2.1, p.2.2⟩ : S32)) (fun _ => rfl) Try.underlying32 rfl (fieldsTo_cons (j := 0) rfl (by kernel_rfl) (opens_slice Try.underlying30 (by kernel_rfl) (opens_int Try.underlying3)) rfl (by first | rfl | kernel_rfl) (fieldsTo_cons (j := 1) rfl (by kernel_rfl) (opens_slice Try.underlying30 (by kernel_rfl) (opens_int Try.underlying3)) rfl (by first | rfl | kernel_rfl) (fieldsTo_last (j := 2) rfl (by kernel_rfl) (opens_slice Try.underlying30 (by kernel_rfl) (opens_int Try.underlying3)) (by first | rfl | kernel_rfl) rfl)))
/-- The one pure statement of the law. -/
def PureL : Prop := ∀ (l0 : List (List (S63))) (s1 : S32), l0.length ≤ maxLen → (∀ x ∈ l0, (x.length ≤ maxLen ∧ ∀ y0 ∈ x, good63 y0)) → good32 s1 → ∃ k, laws_FnExactMedian.f k l0 s1.f0 s1.f1 s1.f2 = some true
end Go.Proofs.Ytbmkobanpakohaa.OFnExactMedian
