/- The law FnExactFaultText, as a pure statement: the text of a fault is the reference's, for every fault of three 64-bit numbers. -/
import Derived.Test.YtipclgiboffblaaDoorQFnExactFaultTexta
import Derived.Test.YtipclgiboffblaaDoorOFnExactFaultText
namespace Go.Proofs.YtipclgiboffblaaDoor.Pure
open Go.RowKit Go.Proofs.YtipclgiboffblaaDoor.PFnExactFaultText Go.Proofs.YtipclgiboffblaaDoorW.PrintWords Go.Proofs.YtipclgiboffblaaDoorW.PrintLast Go.Proofs.YtipclgiboffblaaDoorW.PrintMore Go.Proofs.YtipclgiboffblaaDoor.EvAid Go.Proofs.YtipclgiboffblaaDoor Go.Proofs.YtipclgiboffblaaDoor.QFnExactFaultText Go.Proofs.YtipclgiboffblaaDoor.OFnExactFaultText
set_option linter.unusedVariables false
set_option linter.unusedSimpArgs false

theorem FnExactFaultText : PureL := fun s h => by
  have h_ := h.2.2
  simp only [Lit.wf, Bool.and_eq_true, decide_eq_true_eq] at h_
  exact FaultText_law _ _ _ h_.1 h_.2

end Go.Proofs.YtipclgiboffblaaDoor.Pure
