/- How the arguments of the law FnExactFaultText are read, and its pure statement: for every argument that can be read, from some number of rounds on the function answers true; no other condition. -/
import Derived.Test.YtipclgiboffblaaDoorMFnExactFaultTextx
import Derived.Test.YtipclgiboffblaaDoorMFnExactFaultTextOpens
namespace Go.Proofs.YtipclgiboffblaaDoor.OFnExactFaultText
open Go.RowKit Go.Proofs.YtipclgiboffblaaDoor.PFnExactFaultText Go.Proofs.YtipclgiboffblaaDoorW.PrintWords Go.Proofs.YtipclgiboffblaaDoorW.PrintLast Go.Proofs.YtipclgiboffblaaDoorW.PrintMore Go.Proofs.YtipclgiboffblaaDoor.Opens
set_option linter.unusedVariables false
structure S23 where
  f0 : Int
  f1 : Int
  f2 : Int
def k23 : Kd S23 := Kd.iso (Kd.pair (Kd.int .i64) (Kd.pair (Kd.int .i64) (Kd.int .i64))) (fun x : S23 => (x.f0, x.f1, x.f2))
def good23 (x : S23) : Prop := (Lit.int .i64 x.f0).wf = true ∧ (Lit.int .i64 x.f1).wf = true ∧ (Lit.int .i64 x.f2).wf = true
set_option maxRecDepth 100000 in
theorem open23 : Opens Tryd.prog 23 k23 good23 :=
  opens_struct (f := fun x : S23 => (x.f0, x.f1, x.f2)) (fun p : (Int) × (Int) × (Int) => (⟨p.1, p.2.1, p.2.2⟩ : S23)) (fun _ => rfl) Tryd.underlying23 rfl (fieldsTo_cons (j := 0) rfl (by kernel_rfl) (opens_int Tryd.underlying3) rfl (by first | rfl | kernel_rfl) (fieldsTo_cons (j := 1) rfl (by kernel_rfl) (opens_int Tryd.underlying3) rfl (by first | rfl | kernel_rfl) (fieldsTo_last (j := 2) rfl (by kernel_rfl) (opens_int Tryd.underlying3) (by first | rfl | kernel_rfl) rfl)))
/-- The one pure statement of the law. -/
def PureL : Prop := ∀ (s0 : S23), good23 s0 → ∃ k, laws_FnExactFaultText.f k s0.f0 s0.f1 s0.f2 = some true
end Go.Proofs.YtipclgiboffblaaDoor.OFnExactFaultText
