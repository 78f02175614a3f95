/-
  No cell of these rows narrows 'for every input' (looked for: loops, veiled, ifaces, maps, wideKeys, modest, calm, conditions, laid).
  DERIVED. THE GIVEN ROWS OF THIS SEAT. 6 by the template 'for every input the law returns true; each argument reads behind the call as it read before'; 0 by the template 'total and deterministic' (their statements: YtbogpdgfghpkeacTotals.lean).
  GIVEN WITH THE SEED: the statements are not yours to turn. If you find one false, say at which input.
  Laid BY PROGRAM, IN A SANDBOX (cutbox-rows.mjs): the forced cells as the released guide's own fill.sh prints them over the translation 87ef016546d5fe0c… (all of the seat's roots in one cut). By AI agents, Wed Nov 11 2026. No macro, syntax, notation, axiom, sorry.
-/
import Derived.Test.YtbogpdgfghpkeacChecked
import GoSem.Claim
import GoSem.ClaimJoined
import GoSem.ClaimMapViews
import Derived.JoinedTies
import Derived.KernelRfl
namespace Go.Proofs.Ytbogpdgfghpkeac
/- THE CELL 'sum', in the pinned program and in every row, IS THE sha256 OF THE DUMP (.gsa) THAT YtbogpdgfghpkeacProg.lean LOADS. Nothing in Lean hashes anything: it is a label: what it is worth is what the hold of that sum in a sandbox is worth. -/
noncomputable def Try.pinned : Pinned := { name := "ytbogpdgfghpkeac", sum := "87ef016546d5fe0c2be387feb7a73f6b4b134ce43f12da17097e36111ea8aa0e", checked := Try.checked }
namespace Rows
def none {H : Type} : Left H := { results := [], args := [] }

/-- 'laws.FnExactDomFrom': WHATEVER THE INPUT: true; the input reads as it did. -/
def fnExactDomFromSpec : ChangeSpec := { name := "fnExactDomFrom", fn := fun _ => fun
  | [d] => { results := [.lit (.bool true)], args := [d] }
  | _ => none }
def fnExactDomFromRow : OpenClaim := { program := "ytbogpdgfghpkeac", sum := "87ef016546d5fe0c2be387feb7a73f6b4b134ce43f12da17097e36111ea8aa0e", func := "loop.example/g01618/laws.FnExactDomFrom", spec := "fnExactDomFrom", apart := false }
def FnExactDomFromSaid : Prop := fnExactDomFromRow.holds Try.pinned (OpenSpec.ofChange fnExactDomFromSpec)

/-- ITS FALSE NEIGHBOUR: 'it returns false'. Refute it at one input. -/
def fnExactDomFromWrong : ChangeSpec := { name := "fnExactDomFrom", fn := fun _ => fun
  | [d] => { results := [.lit (.bool false)], args := [d] }
  | _ => none }
def FnExactDomFromWrongFalsely : Prop := fnExactDomFromRow.holds Try.pinned (OpenSpec.ofChange fnExactDomFromWrong)

/-- 'laws.FnPaths': WHATEVER THE INPUT: true; the input reads as it did. -/
def fnPathsSpec : ChangeSpec := { name := "fnPaths", fn := fun _ => fun
  | [d] => { results := [.lit (.bool true)], args := [d] }
  | _ => none }
def fnPathsRow : OpenClaim := { program := "ytbogpdgfghpkeac", sum := "87ef016546d5fe0c2be387feb7a73f6b4b134ce43f12da17097e36111ea8aa0e", func := "loop.example/g01618/laws.FnPaths", spec := "fnPaths", recurses := true, apart := false }
def FnPathsSaid : Prop := fnPathsRow.holds Try.pinned (OpenSpec.ofChange fnPathsSpec)

/-- ITS FALSE NEIGHBOUR: 'it returns false'. Refute it at one input. -/
def fnPathsWrong : ChangeSpec := { name := "fnPaths", fn := fun _ => fun
  | [d] => { results := [.lit (.bool false)], args := [d] }
  | _ => none }
def FnPathsWrongFalsely : Prop := fnPathsRow.holds Try.pinned (OpenSpec.ofChange fnPathsWrong)

/-- 'laws.FnExactDomDelete': WHATEVER THE INPUT: true; the input reads as it did. -/
def fnExactDomDeleteSpec : ChangeSpec := { name := "fnExactDomDelete", fn := fun _ => fun
  | [d1, d2] => { results := [.lit (.bool true)], args := [d1, d2] }
  | _ => none }
def fnExactDomDeleteRow : OpenClaim := { program := "ytbogpdgfghpkeac", sum := "87ef016546d5fe0c2be387feb7a73f6b4b134ce43f12da17097e36111ea8aa0e", func := "loop.example/g01618/laws.FnExactDomDelete", spec := "fnExactDomDelete", recurses := true, apart := false }
def FnExactDomDeleteSaid : Prop := fnExactDomDeleteRow.holds Try.pinned (OpenSpec.ofChange fnExactDomDeleteSpec)

/-- ITS FALSE NEIGHBOUR: 'it returns false'. Refute it at one input. -/
def fnExactDomDeleteWrong : ChangeSpec := { name := "fnExactDomDelete", fn := fun _ => fun
  | [d1, d2] => { results := [.lit (.bool false)], args := [d1, d2] }
  | _ => none }
def FnExactDomDeleteWrongFalsely : Prop := fnExactDomDeleteRow.holds Try.pinned (OpenSpec.ofChange fnExactDomDeleteWrong)

/-- 'laws.FnGrafts': WHATEVER THE INPUT: true; the input reads as it did. -/
def fnGraftsSpec : ChangeSpec := { name := "fnGrafts", fn := fun _ => fun
  | [d] => { results := [.lit (.bool true)], args := [d] }
  | _ => none }
def fnGraftsRow : OpenClaim := { program := "ytbogpdgfghpkeac", sum := "87ef016546d5fe0c2be387feb7a73f6b4b134ce43f12da17097e36111ea8aa0e", func := "loop.example/g01618/laws.FnGrafts", spec := "fnGrafts", inPlace := ["slices.overlaps[loop.example/g01618/impl.Node]"], apart := false }
def FnGraftsSaid : Prop := fnGraftsRow.holds Try.pinned (OpenSpec.ofChange fnGraftsSpec)

/-- ITS FALSE NEIGHBOUR: 'it returns false'. Refute it at one input. -/
def fnGraftsWrong : ChangeSpec := { name := "fnGrafts", fn := fun _ => fun
  | [d] => { results := [.lit (.bool false)], args := [d] }
  | _ => none }
def FnGraftsWrongFalsely : Prop := fnGraftsRow.holds Try.pinned (OpenSpec.ofChange fnGraftsWrong)

/-- 'laws.FnKept': WHATEVER THE INPUT: true; the input reads as it did. -/
def fnKeptSpec : ChangeSpec := { name := "fnKept", fn := fun _ => fun
  | [d] => { results := [.lit (.bool true)], args := [d] }
  | _ => none }
def fnKeptRow : OpenClaim := { program := "ytbogpdgfghpkeac", sum := "87ef016546d5fe0c2be387feb7a73f6b4b134ce43f12da17097e36111ea8aa0e", func := "loop.example/g01618/laws.FnKept", spec := "fnKept", unfollowed := true, recurses := true, apart := false }
def FnKeptSaid : Prop := fnKeptRow.holds Try.pinned (OpenSpec.ofChange fnKeptSpec)

/-- ITS FALSE NEIGHBOUR: 'it returns false'. Refute it at one input. -/
def fnKeptWrong : ChangeSpec := { name := "fnKept", fn := fun _ => fun
  | [d] => { results := [.lit (.bool false)], args := [d] }
  | _ => none }
def FnKeptWrongFalsely : Prop := fnKeptRow.holds Try.pinned (OpenSpec.ofChange fnKeptWrong)

/-- 'laws.FnExactDomInsert': WHATEVER THE INPUT: true; the input reads as it did. -/
def fnExactDomInsertSpec : ChangeSpec := { name := "fnExactDomInsert", fn := fun _ => fun
  | [d1, d2, d3, d4, d5] => { results := [.lit (.bool true)], args := [d1, d2, d3, d4, d5] }
  | _ => none }
def fnExactDomInsertRow : OpenClaim := { program := "ytbogpdgfghpkeac", sum := "87ef016546d5fe0c2be387feb7a73f6b4b134ce43f12da17097e36111ea8aa0e", func := "loop.example/g01618/laws.FnExactDomInsert", spec := "fnExactDomInsert", unfollowed := true, recurses := true, apart := false }
def FnExactDomInsertSaid : Prop := fnExactDomInsertRow.holds Try.pinned (OpenSpec.ofChange fnExactDomInsertSpec)

/-- ITS FALSE NEIGHBOUR: 'it returns false'. Refute it at one input. -/
def fnExactDomInsertWrong : ChangeSpec := { name := "fnExactDomInsert", fn := fun _ => fun
  | [d1, d2, d3, d4, d5] => { results := [.lit (.bool false)], args := [d1, d2, d3, d4, d5] }
  | _ => none }
def FnExactDomInsertWrongFalsely : Prop := fnExactDomInsertRow.holds Try.pinned (OpenSpec.ofChange fnExactDomInsertWrong)

/- THE SECOND FORM. 'bulk': how many values and letters a reading holds, each counted each time it is reached (what is shared counts as often as it is met; a slice's spare places count too). A statement '..UptoSaid' is the law's where the arguments, and the package variables that the reading takes, are together of bulk at most 1048576: NARROWER than '..Said'. Prove '..Said' where nothing that the law and all that it calls make is longer than what came in: it says more and counts as full. Else prove '..UptoSaid'. A law counts once. -/
mutual
def uptoBulk {H : Type} : DataW H → Nat
  | .lit (.string bytes) => bytes.length + 1
  | .lit _ => 1
  | .nil => 1
  | .ptr d => uptoBulk d + 1
  | .slice elems spare => uptoBulkAll elems + uptoBulkAll spare + 1
  | .agg parts => uptoBulkAll parts + 1
  | .iface _ d => uptoBulk d + 1
  | .map entries => uptoBulkEntries entries + 1
  | .held _ => 1
def uptoBulkAll {H : Type} : List (DataW H) → Nat
  | [] => 0
  | d :: r => uptoBulk d + uptoBulkAll r
def uptoBulkEntries {H : Type} : List (Lit × DataW H) → Nat
  | [] => 0
  | x :: r => uptoBulkEntry x + uptoBulkEntries r
def uptoBulkEntry {H : Type} : Lit × DataW H → Nat
  | (.string bytes, d) => bytes.length + uptoBulk d + 1
  | (_, d) => uptoBulk d + 1
 end
def uptoSmall : (H : Type) → List (DataW H) → Bool := fun _ ds => decide (uptoBulkAll ds ≤ 1048576)
def OpenSpec.upto (s : _root_.Go.ChangeSpec) : _root_.Go.OpenSpec := { _root_.Go.OpenSpec.ofChange s with cond := some uptoSmall }

/-- 'laws.FnExactDomFrom', WHERE WHAT IT READS IS OF BULK AT MOST 1048576: true; the input reads as it did. -/
def fnExactDomFromUptoRow : OpenClaim := { program := "ytbogpdgfghpkeac", sum := "87ef016546d5fe0c2be387feb7a73f6b4b134ce43f12da17097e36111ea8aa0e", func := "loop.example/g01618/laws.FnExactDomFrom", spec := "fnExactDomFrom", apart := false, narrowed := true }
def FnExactDomFromUptoSaid : Prop := fnExactDomFromUptoRow.holds Try.pinned (OpenSpec.upto fnExactDomFromSpec)

/-- 'laws.FnPaths', WHERE WHAT IT READS IS OF BULK AT MOST 1048576: true; the input reads as it did. -/
def fnPathsUptoRow : OpenClaim := { program := "ytbogpdgfghpkeac", sum := "87ef016546d5fe0c2be387feb7a73f6b4b134ce43f12da17097e36111ea8aa0e", func := "loop.example/g01618/laws.FnPaths", spec := "fnPaths", recurses := true, apart := false, narrowed := true }
def FnPathsUptoSaid : Prop := fnPathsUptoRow.holds Try.pinned (OpenSpec.upto fnPathsSpec)

/-- 'laws.FnExactDomDelete', WHERE WHAT IT READS IS OF BULK AT MOST 1048576: true; the input reads as it did. -/
def fnExactDomDeleteUptoRow : OpenClaim := { program := "ytbogpdgfghpkeac", sum := "87ef016546d5fe0c2be387feb7a73f6b4b134ce43f12da17097e36111ea8aa0e", func := "loop.example/g01618/laws.FnExactDomDelete", spec := "fnExactDomDelete", recurses := true, apart := false, narrowed := true }
def FnExactDomDeleteUptoSaid : Prop := fnExactDomDeleteUptoRow.holds Try.pinned (OpenSpec.upto fnExactDomDeleteSpec)

/-- 'laws.FnGrafts', WHERE WHAT IT READS IS OF BULK AT MOST 1048576: true; the input reads as it did. -/
def fnGraftsUptoRow : OpenClaim := { program := "ytbogpdgfghpkeac", sum := "87ef016546d5fe0c2be387feb7a73f6b4b134ce43f12da17097e36111ea8aa0e", func := "loop.example/g01618/laws.FnGrafts", spec := "fnGrafts", inPlace := ["slices.overlaps[loop.example/g01618/impl.Node]"], apart := false, narrowed := true }
def FnGraftsUptoSaid : Prop := fnGraftsUptoRow.holds Try.pinned (OpenSpec.upto fnGraftsSpec)

/-- 'laws.FnKept', WHERE WHAT IT READS IS OF BULK AT MOST 1048576: true; the input reads as it did. -/
def fnKeptUptoRow : OpenClaim := { program := "ytbogpdgfghpkeac", sum := "87ef016546d5fe0c2be387feb7a73f6b4b134ce43f12da17097e36111ea8aa0e", func := "loop.example/g01618/laws.FnKept", spec := "fnKept", unfollowed := true, recurses := true, apart := false, narrowed := true }
def FnKeptUptoSaid : Prop := fnKeptUptoRow.holds Try.pinned (OpenSpec.upto fnKeptSpec)

/-- 'laws.FnExactDomInsert', WHERE WHAT IT READS IS OF BULK AT MOST 1048576: true; the input reads as it did. -/
def fnExactDomInsertUptoRow : OpenClaim := { program := "ytbogpdgfghpkeac", sum := "87ef016546d5fe0c2be387feb7a73f6b4b134ce43f12da17097e36111ea8aa0e", func := "loop.example/g01618/laws.FnExactDomInsert", spec := "fnExactDomInsert", unfollowed := true, recurses := true, apart := false, narrowed := true }
def FnExactDomInsertUptoSaid : Prop := fnExactDomInsertUptoRow.holds Try.pinned (OpenSpec.upto fnExactDomInsertSpec)

end Rows
end Go.Proofs.Ytbogpdgfghpkeac
