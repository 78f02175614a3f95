/- The walks of the law FnMedian. -/
import Derived.Test.YtbmkobanpakohaaMFnMedianx0
namespace Go.Proofs.Ytbmkobanpakohaa.PFnMedian
open Go.RowKit Go.Proofs.YtbmkobanpakohaaW.PrintWords Go.Proofs.YtbmkobanpakohaaW.PrintLast Go.Proofs.YtbmkobanpakohaaW.PrintMore
attribute [local go_sem] max2_int min2_int max_two min_two max_three min_three max_four min_four
set_option linter.unusedVariables false
set_option linter.unusedSimpArgs false

/-! ### spec_l1In: function 55 -/
def spec_l1In.f (a0:Int) (a1:Int) (a2:Int):Option (Bool):=if a0≥a1 then (some (decide (a0≤a2))) else (some false)
set_option maxHeartbeats 8000000 in
set_option maxRecDepth 100000 in
theorem spec_l1In.calls (a0:Int) (a1:Int) (a2:Int) (r:Bool) (w:World) (h:spec_l1In.f a0 a1 a2=some r):
  Calls Try.prog 55 #[.int .i64 a0,.int .i64 a1,.int .i64 a2] w fun e w'=>e= .returned (.bool r)∧Drawn0 w w':=by
 have H:(if a0≥a1 then (some (decide (a0≤a2))) else (some false))=some r:=h;clear h;by_cases c4:a0≥a1
 ·rw[if_pos c4] at H;have c4b0:=decide_eq_true c4;clear c4;obtain rfl:=Option.some.inj H;go_enter Try.func55,Try.ntmps55;go_wp2;go_ret;exact⟨z9_,z50_⟩
 ·rw[if_neg c4] at H;have c4b0:=decide_eq_false c4;clear c4;obtain rfl:=Option.some.inj H;go_enter Try.func55,Try.ntmps55;go_wp2;go_ret;exact⟨z9_,z50_⟩

/-! ### spec_LabelOk: function 54 -/
def spec_LabelOk.f (a0:Int):Option (Bool):=(spec_l1In.f a0 0 5).bind fun t101=>(some t101)
set_option maxHeartbeats 8000000 in
set_option maxRecDepth 100000 in
theorem spec_LabelOk.calls (a0:Int) (r:Bool) (w:World) (h:spec_LabelOk.f a0=some r):
  Calls Try.prog 54 #[.int .i64 a0] w fun e w'=>e= .returned (.bool r)∧Drawn0 w w':=by
 have H:((spec_l1In.f a0 0 5).bind fun t101=>(some t101))=some r:=h;clear h;obtain⟨t101,A2,H⟩:=bnd_ H;obtain rfl:=Option.some.inj H;go_enter Try.func54,Try.ntmps54
 go_wp2_with (((with_reducible refine gate_callee (f:=55) rfl ?_);refine goesL_ (some 4) rfl rfl Try.func55 y0_ rfl #[.int .i64 a0,.int .i64 0,.int .i64 5] rfl z1_ ?_;(with_reducible refine(spec_l1In.calls a0 0 5 t101 _ A2.out).mono ?_);rintro e w' ⟨rfl,⟨nd,rfl⟩⟩;refine⟨_,rfl,?_⟩))
 go_ret;exact⟨z9_,z50_⟩

end Go.Proofs.Ytbmkobanpakohaa.PFnMedian
