/-
  No cell of these rows narrows 'for every input' (looked for: loops, veiled, ifaces, maps, wideKeys, modest, calm, conditions, laid).
  DERIVED. THE GIVEN ROWS OF THIS SEAT. 5 by the template 'for every input the law returns true; each argument reads behind the call as it read before'; 0 by the template 'total and deterministic' (their statements: YtbogpdgfghpkeabTotals.lean).
  GIVEN WITH THE SEED: the statements are not yours to turn. If you find one false, say at which input.
  Laid BY PROGRAM, IN A SANDBOX (cutbox-rows.mjs): the forced cells as the released guide's own fill.sh prints them over the translation b035aec2c62ba3fe… (all of the seat's roots in one cut). By AI agents, Wed Nov 11 2026. No macro, syntax, notation, axiom, sorry.
-/
import Derived.Test.YtbogpdgfghpkeabChecked
import GoSem.Claim
import GoSem.ClaimJoined
import GoSem.ClaimMapViews
import Derived.JoinedTies
import Derived.KernelRfl
namespace Go.Proofs.Ytbogpdgfghpkeab
/- THE CELL 'sum', in the pinned program and in every row, IS THE sha256 OF THE DUMP (.gsa) THAT YtbogpdgfghpkeabProg.lean LOADS. Nothing in Lean hashes anything: it is a label: what it is worth is what the hold of that sum in a sandbox is worth. -/
noncomputable def Try.pinned : Pinned := { name := "ytbogpdgfghpkeab", sum := "b035aec2c62ba3feac29b09d9911343ba94415d6bd793983220a19f3e77aa9c0", checked := Try.checked }
namespace Rows
def none {H : Type} : Left H := { results := [], args := [] }

/-- 'laws.FnDomOps': WHATEVER THE INPUT: true; the input reads as it did. -/
def fnDomOpsSpec : ChangeSpec := { name := "fnDomOps", fn := fun _ => fun
  | [d] => { results := [.lit (.bool true)], args := [d] }
  | _ => none }
def fnDomOpsRow : OpenClaim := { program := "ytbogpdgfghpkeab", sum := "b035aec2c62ba3feac29b09d9911343ba94415d6bd793983220a19f3e77aa9c0", func := "loop.example/g01618/laws.FnDomOps", spec := "fnDomOps", inPlace := ["slices.overlaps[loop.example/g01618/impl.Node]"], unfollowed := true, recurses := true, apart := false }
def FnDomOpsSaid : Prop := fnDomOpsRow.holds Try.pinned (OpenSpec.ofChange fnDomOpsSpec)

/-- ITS FALSE NEIGHBOUR: 'it returns false'. Refute it at one input. -/
def fnDomOpsWrong : ChangeSpec := { name := "fnDomOps", fn := fun _ => fun
  | [d] => { results := [.lit (.bool false)], args := [d] }
  | _ => none }
def FnDomOpsWrongFalsely : Prop := fnDomOpsRow.holds Try.pinned (OpenSpec.ofChange fnDomOpsWrong)

/-- 'laws.FnExactJoined': WHATEVER THE INPUT: true; the input reads as it did. -/
def fnExactJoinedSpec : ChangeSpec := { name := "fnExactJoined", fn := fun _ => fun
  | [d1, d2] => { results := [.lit (.bool true)], args := [d1, d2] }
  | _ => none }
def fnExactJoinedRow : OpenClaim := { program := "ytbogpdgfghpkeab", sum := "b035aec2c62ba3feac29b09d9911343ba94415d6bd793983220a19f3e77aa9c0", func := "loop.example/g01618/laws.FnExactJoined", spec := "fnExactJoined", apart := false }
def FnExactJoinedSaid : Prop := fnExactJoinedRow.holds Try.pinned (OpenSpec.ofChange fnExactJoinedSpec)

/-- ITS FALSE NEIGHBOUR: 'it returns false'. Refute it at one input. -/
def fnExactJoinedWrong : ChangeSpec := { name := "fnExactJoined", fn := fun _ => fun
  | [d1, d2] => { results := [.lit (.bool false)], args := [d1, d2] }
  | _ => none }
def FnExactJoinedWrongFalsely : Prop := fnExactJoinedRow.holds Try.pinned (OpenSpec.ofChange fnExactJoinedWrong)

/-- 'laws.FnFound': WHATEVER THE INPUT: true; the input reads as it did. -/
def fnFoundSpec : ChangeSpec := { name := "fnFound", fn := fun _ => fun
  | [d] => { results := [.lit (.bool true)], args := [d] }
  | _ => none }
def fnFoundRow : OpenClaim := { program := "ytbogpdgfghpkeab", sum := "b035aec2c62ba3feac29b09d9911343ba94415d6bd793983220a19f3e77aa9c0", func := "loop.example/g01618/laws.FnFound", spec := "fnFound", apart := false }
def FnFoundSaid : Prop := fnFoundRow.holds Try.pinned (OpenSpec.ofChange fnFoundSpec)

/-- ITS FALSE NEIGHBOUR: 'it returns false'. Refute it at one input. -/
def fnFoundWrong : ChangeSpec := { name := "fnFound", fn := fun _ => fun
  | [d] => { results := [.lit (.bool false)], args := [d] }
  | _ => none }
def FnFoundWrongFalsely : Prop := fnFoundRow.holds Try.pinned (OpenSpec.ofChange fnFoundWrong)

/-- 'laws.FnExactGraft': WHATEVER THE INPUT: true; the input reads as it did. -/
def fnExactGraftSpec : ChangeSpec := { name := "fnExactGraft", fn := fun _ => fun
  | [d1, d2, d3] => { results := [.lit (.bool true)], args := [d1, d2, d3] }
  | _ => none }
def fnExactGraftRow : OpenClaim := { program := "ytbogpdgfghpkeab", sum := "b035aec2c62ba3feac29b09d9911343ba94415d6bd793983220a19f3e77aa9c0", func := "loop.example/g01618/laws.FnExactGraft", spec := "fnExactGraft", inPlace := ["slices.overlaps[loop.example/g01618/impl.Node]"], apart := false }
def FnExactGraftSaid : Prop := fnExactGraftRow.holds Try.pinned (OpenSpec.ofChange fnExactGraftSpec)

/-- ITS FALSE NEIGHBOUR: 'it returns false'. Refute it at one input. -/
def fnExactGraftWrong : ChangeSpec := { name := "fnExactGraft", fn := fun _ => fun
  | [d1, d2, d3] => { results := [.lit (.bool false)], args := [d1, d2, d3] }
  | _ => none }
def FnExactGraftWrongFalsely : Prop := fnExactGraftRow.holds Try.pinned (OpenSpec.ofChange fnExactGraftWrong)

/-- 'laws.FnExactDomRelabel': WHATEVER THE INPUT: true; the input reads as it did. -/
def fnExactDomRelabelSpec : ChangeSpec := { name := "fnExactDomRelabel", fn := fun _ => fun
  | [d1, d2, d3] => { results := [.lit (.bool true)], args := [d1, d2, d3] }
  | _ => none }
def fnExactDomRelabelRow : OpenClaim := { program := "ytbogpdgfghpkeab", sum := "b035aec2c62ba3feac29b09d9911343ba94415d6bd793983220a19f3e77aa9c0", func := "loop.example/g01618/laws.FnExactDomRelabel", spec := "fnExactDomRelabel", recurses := true, apart := false }
def FnExactDomRelabelSaid : Prop := fnExactDomRelabelRow.holds Try.pinned (OpenSpec.ofChange fnExactDomRelabelSpec)

/-- ITS FALSE NEIGHBOUR: 'it returns false'. Refute it at one input. -/
def fnExactDomRelabelWrong : ChangeSpec := { name := "fnExactDomRelabel", fn := fun _ => fun
  | [d1, d2, d3] => { results := [.lit (.bool false)], args := [d1, d2, d3] }
  | _ => none }
def FnExactDomRelabelWrongFalsely : Prop := fnExactDomRelabelRow.holds Try.pinned (OpenSpec.ofChange fnExactDomRelabelWrong)

/- THE SECOND FORM. 'bulk': how many values and letters a reading holds, each counted each time it is reached (what is shared counts as often as it is met; a slice's spare places count too). A statement '..UptoSaid' is the law's where the arguments, and the package variables that the reading takes, are together of bulk at most 1048576: NARROWER than '..Said'. Prove '..Said' where nothing that the law and all that it calls make is longer than what came in: it says more and counts as full. Else prove '..UptoSaid'. A law counts once. -/
mutual
def uptoBulk {H : Type} : DataW H → Nat
  | .lit (.string bytes) => bytes.length + 1
  | .lit _ => 1
  | .nil => 1
  | .ptr d => uptoBulk d + 1
  | .slice elems spare => uptoBulkAll elems + uptoBulkAll spare + 1
  | .agg parts => uptoBulkAll parts + 1
  | .iface _ d => uptoBulk d + 1
  | .map entries => uptoBulkEntries entries + 1
  | .held _ => 1
def uptoBulkAll {H : Type} : List (DataW H) → Nat
  | [] => 0
  | d :: r => uptoBulk d + uptoBulkAll r
def uptoBulkEntries {H : Type} : List (Lit × DataW H) → Nat
  | [] => 0
  | x :: r => uptoBulkEntry x + uptoBulkEntries r
def uptoBulkEntry {H : Type} : Lit × DataW H → Nat
  | (.string bytes, d) => bytes.length + uptoBulk d + 1
  | (_, d) => uptoBulk d + 1
 end
def uptoSmall : (H : Type) → List (DataW H) → Bool := fun _ ds => decide (uptoBulkAll ds ≤ 1048576)
def OpenSpec.upto (s : _root_.Go.ChangeSpec) : _root_.Go.OpenSpec := { _root_.Go.OpenSpec.ofChange s with cond := some uptoSmall }

/-- 'laws.FnDomOps', WHERE WHAT IT READS IS OF BULK AT MOST 1048576: true; the input reads as it did. -/
def fnDomOpsUptoRow : OpenClaim := { program := "ytbogpdgfghpkeab", sum := "b035aec2c62ba3feac29b09d9911343ba94415d6bd793983220a19f3e77aa9c0", func := "loop.example/g01618/laws.FnDomOps", spec := "fnDomOps", inPlace := ["slices.overlaps[loop.example/g01618/impl.Node]"], unfollowed := true, recurses := true, apart := false, narrowed := true }
def FnDomOpsUptoSaid : Prop := fnDomOpsUptoRow.holds Try.pinned (OpenSpec.upto fnDomOpsSpec)

/-- 'laws.FnExactJoined', WHERE WHAT IT READS IS OF BULK AT MOST 1048576: true; the input reads as it did. -/
def fnExactJoinedUptoRow : OpenClaim := { program := "ytbogpdgfghpkeab", sum := "b035aec2c62ba3feac29b09d9911343ba94415d6bd793983220a19f3e77aa9c0", func := "loop.example/g01618/laws.FnExactJoined", spec := "fnExactJoined", apart := false, narrowed := true }
def FnExactJoinedUptoSaid : Prop := fnExactJoinedUptoRow.holds Try.pinned (OpenSpec.upto fnExactJoinedSpec)

/-- 'laws.FnFound', WHERE WHAT IT READS IS OF BULK AT MOST 1048576: true; the input reads as it did. -/
def fnFoundUptoRow : OpenClaim := { program := "ytbogpdgfghpkeab", sum := "b035aec2c62ba3feac29b09d9911343ba94415d6bd793983220a19f3e77aa9c0", func := "loop.example/g01618/laws.FnFound", spec := "fnFound", apart := false, narrowed := true }
def FnFoundUptoSaid : Prop := fnFoundUptoRow.holds Try.pinned (OpenSpec.upto fnFoundSpec)

/-- 'laws.FnExactGraft', WHERE WHAT IT READS IS OF BULK AT MOST 1048576: true; the input reads as it did. -/
def fnExactGraftUptoRow : OpenClaim := { program := "ytbogpdgfghpkeab", sum := "b035aec2c62ba3feac29b09d9911343ba94415d6bd793983220a19f3e77aa9c0", func := "loop.example/g01618/laws.FnExactGraft", spec := "fnExactGraft", inPlace := ["slices.overlaps[loop.example/g01618/impl.Node]"], apart := false, narrowed := true }
def FnExactGraftUptoSaid : Prop := fnExactGraftUptoRow.holds Try.pinned (OpenSpec.upto fnExactGraftSpec)

/-- 'laws.FnExactDomRelabel', WHERE WHAT IT READS IS OF BULK AT MOST 1048576: true; the input reads as it did. -/
def fnExactDomRelabelUptoRow : OpenClaim := { program := "ytbogpdgfghpkeab", sum := "b035aec2c62ba3feac29b09d9911343ba94415d6bd793983220a19f3e77aa9c0", func := "loop.example/g01618/laws.FnExactDomRelabel", spec := "fnExactDomRelabel", recurses := true, apart := false, narrowed := true }
def FnExactDomRelabelUptoSaid : Prop := fnExactDomRelabelUptoRow.holds Try.pinned (OpenSpec.upto fnExactDomRelabelSpec)

end Rows
end Go.Proofs.Ytbogpdgfghpkeab
