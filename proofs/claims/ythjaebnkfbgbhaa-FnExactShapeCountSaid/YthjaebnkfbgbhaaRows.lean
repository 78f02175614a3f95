/-
  No cell of these rows narrows 'for every input' (looked for: loops, veiled, ifaces, maps, wideKeys, modest, calm, conditions, laid).
  DERIVED. THE GIVEN ROWS OF THIS SEAT. 5 by the template 'for every input the law returns true; each argument reads behind the call as it read before'; 0 by the template 'total and deterministic' (their statements: YthjaebnkfbgbhaaTotals.lean).
  GIVEN WITH THE SEED: the statements are not yours to turn. If you find one false, say at which input.
  Laid BY PROGRAM, IN A SANDBOX (cutbox-rows.mjs): the forced cells as the released guide's own fill.sh prints them over the translation 4f575f92126dfd1d… (all of the seat's roots in one cut). By AI agents, Wed Nov 11 2026. No macro, syntax, notation, axiom, sorry.
-/
import Derived.Test.YthjaebnkfbgbhaaChecked
import GoSem.Claim
import GoSem.ClaimJoined
import GoSem.ClaimMapViews
import Derived.JoinedTies
import Derived.KernelRfl
namespace Go.Proofs.Ythjaebnkfbgbhaa
/- THE CELL 'sum', in the pinned program and in every row, IS THE sha256 OF THE DUMP (.gsa) THAT YthjaebnkfbgbhaaProg.lean LOADS. Nothing in Lean hashes anything: it is a label: what it is worth is what the hold of that sum in a sandbox is worth. -/
noncomputable def Try.pinned : Pinned := { name := "ythjaebnkfbgbhaa", sum := "4f575f92126dfd1dd3256ab47743e97ea6f260dd8ad4e839f226753c7eea7aa6", checked := Try.checked }
namespace Rows
def none {H : Type} : Left H := { results := [], args := [] }

/-- 'laws.FnCounts': WHATEVER THE INPUT: true; the input reads as it did. -/
def fnCountsSpec : ChangeSpec := { name := "fnCounts", fn := fun _ => fun
  | [d] => { results := [.lit (.bool true)], args := [d] }
  | _ => none }
def fnCountsRow : OpenClaim := { program := "ythjaebnkfbgbhaa", sum := "4f575f92126dfd1dd3256ab47743e97ea6f260dd8ad4e839f226753c7eea7aa6", func := "loop.example/g01618/laws.FnCounts", spec := "fnCounts", recurses := true, apart := false }
def FnCountsSaid : Prop := fnCountsRow.holds Try.pinned (OpenSpec.ofChange fnCountsSpec)

/-- ITS FALSE NEIGHBOUR: 'it returns false'. Refute it at one input. -/
def fnCountsWrong : ChangeSpec := { name := "fnCounts", fn := fun _ => fun
  | [d] => { results := [.lit (.bool false)], args := [d] }
  | _ => none }
def FnCountsWrongFalsely : Prop := fnCountsRow.holds Try.pinned (OpenSpec.ofChange fnCountsWrong)

/-- 'laws.FnExactShapeCount': WHATEVER THE INPUT: true; the input reads as it did. -/
def fnExactShapeCountSpec : ChangeSpec := { name := "fnExactShapeCount", fn := fun _ => fun
  | [d] => { results := [.lit (.bool true)], args := [d] }
  | _ => none }
def fnExactShapeCountRow : OpenClaim := { program := "ythjaebnkfbgbhaa", sum := "4f575f92126dfd1dd3256ab47743e97ea6f260dd8ad4e839f226753c7eea7aa6", func := "loop.example/g01618/laws.FnExactShapeCount", spec := "fnExactShapeCount", recurses := true, apart := false }
def FnExactShapeCountSaid : Prop := fnExactShapeCountRow.holds Try.pinned (OpenSpec.ofChange fnExactShapeCountSpec)

/-- ITS FALSE NEIGHBOUR: 'it returns false'. Refute it at one input. -/
def fnExactShapeCountWrong : ChangeSpec := { name := "fnExactShapeCount", fn := fun _ => fun
  | [d] => { results := [.lit (.bool false)], args := [d] }
  | _ => none }
def FnExactShapeCountWrongFalsely : Prop := fnExactShapeCountRow.holds Try.pinned (OpenSpec.ofChange fnExactShapeCountWrong)

/-- 'laws.FnExactShapeRank': WHATEVER THE INPUT: true; the input reads as it did. -/
def fnExactShapeRankSpec : ChangeSpec := { name := "fnExactShapeRank", fn := fun _ => fun
  | [d] => { results := [.lit (.bool true)], args := [d] }
  | _ => none }
def fnExactShapeRankRow : OpenClaim := { program := "ythjaebnkfbgbhaa", sum := "4f575f92126dfd1dd3256ab47743e97ea6f260dd8ad4e839f226753c7eea7aa6", func := "loop.example/g01618/laws.FnExactShapeRank", spec := "fnExactShapeRank", recurses := true, apart := false }
def FnExactShapeRankSaid : Prop := fnExactShapeRankRow.holds Try.pinned (OpenSpec.ofChange fnExactShapeRankSpec)

/-- ITS FALSE NEIGHBOUR: 'it returns false'. Refute it at one input. -/
def fnExactShapeRankWrong : ChangeSpec := { name := "fnExactShapeRank", fn := fun _ => fun
  | [d] => { results := [.lit (.bool false)], args := [d] }
  | _ => none }
def FnExactShapeRankWrongFalsely : Prop := fnExactShapeRankRow.holds Try.pinned (OpenSpec.ofChange fnExactShapeRankWrong)

/-- 'laws.FnExactDepths': WHATEVER THE INPUT: true; the input reads as it did. -/
def fnExactDepthsSpec : ChangeSpec := { name := "fnExactDepths", fn := fun _ => fun
  | [d] => { results := [.lit (.bool true)], args := [d] }
  | _ => none }
def fnExactDepthsRow : OpenClaim := { program := "ythjaebnkfbgbhaa", sum := "4f575f92126dfd1dd3256ab47743e97ea6f260dd8ad4e839f226753c7eea7aa6", func := "loop.example/g01618/laws.FnExactDepths", spec := "fnExactDepths", apart := false }
def FnExactDepthsSaid : Prop := fnExactDepthsRow.holds Try.pinned (OpenSpec.ofChange fnExactDepthsSpec)

/-- ITS FALSE NEIGHBOUR: 'it returns false'. Refute it at one input. -/
def fnExactDepthsWrong : ChangeSpec := { name := "fnExactDepths", fn := fun _ => fun
  | [d] => { results := [.lit (.bool false)], args := [d] }
  | _ => none }
def FnExactDepthsWrongFalsely : Prop := fnExactDepthsRow.holds Try.pinned (OpenSpec.ofChange fnExactDepthsWrong)

/-- 'laws.FnExactShapeAt': WHATEVER THE INPUT: true; the input reads as it did. -/
def fnExactShapeAtSpec : ChangeSpec := { name := "fnExactShapeAt", fn := fun _ => fun
  | [d1, d2] => { results := [.lit (.bool true)], args := [d1, d2] }
  | _ => none }
def fnExactShapeAtRow : OpenClaim := { program := "ythjaebnkfbgbhaa", sum := "4f575f92126dfd1dd3256ab47743e97ea6f260dd8ad4e839f226753c7eea7aa6", func := "loop.example/g01618/laws.FnExactShapeAt", spec := "fnExactShapeAt", recurses := true, apart := false }
def FnExactShapeAtSaid : Prop := fnExactShapeAtRow.holds Try.pinned (OpenSpec.ofChange fnExactShapeAtSpec)

/-- ITS FALSE NEIGHBOUR: 'it returns false'. Refute it at one input. -/
def fnExactShapeAtWrong : ChangeSpec := { name := "fnExactShapeAt", fn := fun _ => fun
  | [d1, d2] => { results := [.lit (.bool false)], args := [d1, d2] }
  | _ => none }
def FnExactShapeAtWrongFalsely : Prop := fnExactShapeAtRow.holds Try.pinned (OpenSpec.ofChange fnExactShapeAtWrong)

/- THE SECOND FORM. 'bulk': how many values and letters a reading holds, each counted each time it is reached (what is shared counts as often as it is met; a slice's spare places count too). A statement '..UptoSaid' is the law's where the arguments, and the package variables that the reading takes, are together of bulk at most 1048576: NARROWER than '..Said'. Prove '..Said' where nothing that the law and all that it calls make is longer than what came in: it says more and counts as full. Else prove '..UptoSaid'. A law counts once. -/
mutual
def uptoBulk {H : Type} : DataW H → Nat
  | .lit (.string bytes) => bytes.length + 1
  | .lit _ => 1
  | .nil => 1
  | .ptr d => uptoBulk d + 1
  | .slice elems spare => uptoBulkAll elems + uptoBulkAll spare + 1
  | .agg parts => uptoBulkAll parts + 1
  | .iface _ d => uptoBulk d + 1
  | .map entries => uptoBulkEntries entries + 1
  | .held _ => 1
def uptoBulkAll {H : Type} : List (DataW H) → Nat
  | [] => 0
  | d :: r => uptoBulk d + uptoBulkAll r
def uptoBulkEntries {H : Type} : List (Lit × DataW H) → Nat
  | [] => 0
  | x :: r => uptoBulkEntry x + uptoBulkEntries r
def uptoBulkEntry {H : Type} : Lit × DataW H → Nat
  | (.string bytes, d) => bytes.length + uptoBulk d + 1
  | (_, d) => uptoBulk d + 1
 end
def uptoSmall : (H : Type) → List (DataW H) → Bool := fun _ ds => decide (uptoBulkAll ds ≤ 1048576)
def OpenSpec.upto (s : _root_.Go.ChangeSpec) : _root_.Go.OpenSpec := { _root_.Go.OpenSpec.ofChange s with cond := some uptoSmall }

/-- 'laws.FnCounts', WHERE WHAT IT READS IS OF BULK AT MOST 1048576: true; the input reads as it did. -/
def fnCountsUptoRow : OpenClaim := { program := "ythjaebnkfbgbhaa", sum := "4f575f92126dfd1dd3256ab47743e97ea6f260dd8ad4e839f226753c7eea7aa6", func := "loop.example/g01618/laws.FnCounts", spec := "fnCounts", recurses := true, apart := false, narrowed := true }
def FnCountsUptoSaid : Prop := fnCountsUptoRow.holds Try.pinned (OpenSpec.upto fnCountsSpec)

/-- 'laws.FnExactShapeCount', WHERE WHAT IT READS IS OF BULK AT MOST 1048576: true; the input reads as it did. -/
def fnExactShapeCountUptoRow : OpenClaim := { program := "ythjaebnkfbgbhaa", sum := "4f575f92126dfd1dd3256ab47743e97ea6f260dd8ad4e839f226753c7eea7aa6", func := "loop.example/g01618/laws.FnExactShapeCount", spec := "fnExactShapeCount", recurses := true, apart := false, narrowed := true }
def FnExactShapeCountUptoSaid : Prop := fnExactShapeCountUptoRow.holds Try.pinned (OpenSpec.upto fnExactShapeCountSpec)

/-- 'laws.FnExactShapeRank', WHERE WHAT IT READS IS OF BULK AT MOST 1048576: true; the input reads as it did. -/
def fnExactShapeRankUptoRow : OpenClaim := { program := "ythjaebnkfbgbhaa", sum := "4f575f92126dfd1dd3256ab47743e97ea6f260dd8ad4e839f226753c7eea7aa6", func := "loop.example/g01618/laws.FnExactShapeRank", spec := "fnExactShapeRank", recurses := true, apart := false, narrowed := true }
def FnExactShapeRankUptoSaid : Prop := fnExactShapeRankUptoRow.holds Try.pinned (OpenSpec.upto fnExactShapeRankSpec)

/-- 'laws.FnExactDepths', WHERE WHAT IT READS IS OF BULK AT MOST 1048576: true; the input reads as it did. -/
def fnExactDepthsUptoRow : OpenClaim := { program := "ythjaebnkfbgbhaa", sum := "4f575f92126dfd1dd3256ab47743e97ea6f260dd8ad4e839f226753c7eea7aa6", func := "loop.example/g01618/laws.FnExactDepths", spec := "fnExactDepths", apart := false, narrowed := true }
def FnExactDepthsUptoSaid : Prop := fnExactDepthsUptoRow.holds Try.pinned (OpenSpec.upto fnExactDepthsSpec)

/-- 'laws.FnExactShapeAt', WHERE WHAT IT READS IS OF BULK AT MOST 1048576: true; the input reads as it did. -/
def fnExactShapeAtUptoRow : OpenClaim := { program := "ythjaebnkfbgbhaa", sum := "4f575f92126dfd1dd3256ab47743e97ea6f260dd8ad4e839f226753c7eea7aa6", func := "loop.example/g01618/laws.FnExactShapeAt", spec := "fnExactShapeAt", recurses := true, apart := false, narrowed := true }
def FnExactShapeAtUptoSaid : Prop := fnExactShapeAtUptoRow.holds Try.pinned (OpenSpec.upto fnExactShapeAtSpec)

end Rows
end Go.Proofs.Ythjaebnkfbgbhaa
