/-
  No cell of these rows narrows 'for every input' (looked for: loops, veiled, ifaces, maps, wideKeys, modest, calm, conditions, laid).
  DERIVED. THE GIVEN ROWS OF THIS SEAT. 6 by the template 'for every input the law returns true; each argument reads behind the call as it read before'; 0 by the template 'total and deterministic' (their statements: YtmbhlfcpdbbogabTotals.lean).
  GIVEN WITH THE SEED: the statements are not yours to turn. If you find one false, say at which input.
  Laid BY PROGRAM, IN A SANDBOX (cutbox-rows.mjs): the forced cells as the released guide's own fill.sh prints them over the translation 92343767b8f7b7e8… (all of the seat's roots in one cut). By AI agents, Wed Nov 11 2026. No macro, syntax, notation, axiom, sorry.
-/
import Derived.Test.YtmbhlfcpdbbogabChecked
import GoSem.Claim
import GoSem.ClaimJoined
import GoSem.ClaimMapViews
import Derived.JoinedTies
import Derived.KernelRfl
namespace Go.Proofs.Ytmbhlfcpdbbogab
/- THE CELL 'sum', in the pinned program and in every row, IS THE sha256 OF THE DUMP (.gsa) THAT YtmbhlfcpdbbogabProg.lean LOADS. Nothing in Lean hashes anything: it is a label: what it is worth is what the hold of that sum in a sandbox is worth. -/
noncomputable def Try.pinned : Pinned := { name := "ytmbhlfcpdbbogab", sum := "92343767b8f7b7e8f86cd3e3a5087943c380ebe0043c693eaddc39f64305d995", checked := Try.checked }
namespace Rows
def none {H : Type} : Left H := { results := [], args := [] }

/-- 'laws.FnExactDomRelabel': WHATEVER THE INPUT: true; the input reads as it did. -/
def fnExactDomRelabelSpec : ChangeSpec := { name := "fnExactDomRelabel", fn := fun _ => fun
  | [d1, d2, d3] => { results := [.lit (.bool true)], args := [d1, d2, d3] }
  | _ => none }
def fnExactDomRelabelRow : OpenClaim := { program := "ytmbhlfcpdbbogab", sum := "92343767b8f7b7e8f86cd3e3a5087943c380ebe0043c693eaddc39f64305d995", func := "loop.example/g01618/laws.FnExactDomRelabel", spec := "fnExactDomRelabel", recurses := true, apart := false }
def FnExactDomRelabelSaid : Prop := fnExactDomRelabelRow.holds Try.pinned (OpenSpec.ofChange fnExactDomRelabelSpec)

/-- ITS FALSE NEIGHBOUR: 'it returns false'. Refute it at one input. -/
def fnExactDomRelabelWrong : ChangeSpec := { name := "fnExactDomRelabel", fn := fun _ => fun
  | [d1, d2, d3] => { results := [.lit (.bool false)], args := [d1, d2, d3] }
  | _ => none }
def FnExactDomRelabelWrongFalsely : Prop := fnExactDomRelabelRow.holds Try.pinned (OpenSpec.ofChange fnExactDomRelabelWrong)

/-- 'laws.FnExactDomFrom': WHATEVER THE INPUT: true; the input reads as it did. -/
def fnExactDomFromSpec : ChangeSpec := { name := "fnExactDomFrom", fn := fun _ => fun
  | [d] => { results := [.lit (.bool true)], args := [d] }
  | _ => none }
def fnExactDomFromRow : OpenClaim := { program := "ytmbhlfcpdbbogab", sum := "92343767b8f7b7e8f86cd3e3a5087943c380ebe0043c693eaddc39f64305d995", func := "loop.example/g01618/laws.FnExactDomFrom", spec := "fnExactDomFrom", apart := false }
def FnExactDomFromSaid : Prop := fnExactDomFromRow.holds Try.pinned (OpenSpec.ofChange fnExactDomFromSpec)

/-- ITS FALSE NEIGHBOUR: 'it returns false'. Refute it at one input. -/
def fnExactDomFromWrong : ChangeSpec := { name := "fnExactDomFrom", fn := fun _ => fun
  | [d] => { results := [.lit (.bool false)], args := [d] }
  | _ => none }
def FnExactDomFromWrongFalsely : Prop := fnExactDomFromRow.holds Try.pinned (OpenSpec.ofChange fnExactDomFromWrong)

/-- 'laws.FnPaths': WHATEVER THE INPUT: true; the input reads as it did. -/
def fnPathsSpec : ChangeSpec := { name := "fnPaths", fn := fun _ => fun
  | [d] => { results := [.lit (.bool true)], args := [d] }
  | _ => none }
def fnPathsRow : OpenClaim := { program := "ytmbhlfcpdbbogab", sum := "92343767b8f7b7e8f86cd3e3a5087943c380ebe0043c693eaddc39f64305d995", func := "loop.example/g01618/laws.FnPaths", spec := "fnPaths", recurses := true, apart := false }
def FnPathsSaid : Prop := fnPathsRow.holds Try.pinned (OpenSpec.ofChange fnPathsSpec)

/-- ITS FALSE NEIGHBOUR: 'it returns false'. Refute it at one input. -/
def fnPathsWrong : ChangeSpec := { name := "fnPaths", fn := fun _ => fun
  | [d] => { results := [.lit (.bool false)], args := [d] }
  | _ => none }
def FnPathsWrongFalsely : Prop := fnPathsRow.holds Try.pinned (OpenSpec.ofChange fnPathsWrong)

/-- 'laws.FnDoms': WHATEVER THE INPUT: true; the input reads as it did. -/
def fnDomsSpec : ChangeSpec := { name := "fnDoms", fn := fun _ => fun
  | [d] => { results := [.lit (.bool true)], args := [d] }
  | _ => none }
def fnDomsRow : OpenClaim := { program := "ytmbhlfcpdbbogab", sum := "92343767b8f7b7e8f86cd3e3a5087943c380ebe0043c693eaddc39f64305d995", func := "loop.example/g01618/laws.FnDoms", spec := "fnDoms", recurses := true, apart := false }
def FnDomsSaid : Prop := fnDomsRow.holds Try.pinned (OpenSpec.ofChange fnDomsSpec)

/-- ITS FALSE NEIGHBOUR: 'it returns false'. Refute it at one input. -/
def fnDomsWrong : ChangeSpec := { name := "fnDoms", fn := fun _ => fun
  | [d] => { results := [.lit (.bool false)], args := [d] }
  | _ => none }
def FnDomsWrongFalsely : Prop := fnDomsRow.holds Try.pinned (OpenSpec.ofChange fnDomsWrong)

/-- 'laws.FnKept': WHATEVER THE INPUT: true; the input reads as it did. -/
def fnKeptSpec : ChangeSpec := { name := "fnKept", fn := fun _ => fun
  | [d] => { results := [.lit (.bool true)], args := [d] }
  | _ => none }
def fnKeptRow : OpenClaim := { program := "ytmbhlfcpdbbogab", sum := "92343767b8f7b7e8f86cd3e3a5087943c380ebe0043c693eaddc39f64305d995", func := "loop.example/g01618/laws.FnKept", spec := "fnKept", unfollowed := true, recurses := true, apart := false }
def FnKeptSaid : Prop := fnKeptRow.holds Try.pinned (OpenSpec.ofChange fnKeptSpec)

/-- ITS FALSE NEIGHBOUR: 'it returns false'. Refute it at one input. -/
def fnKeptWrong : ChangeSpec := { name := "fnKept", fn := fun _ => fun
  | [d] => { results := [.lit (.bool false)], args := [d] }
  | _ => none }
def FnKeptWrongFalsely : Prop := fnKeptRow.holds Try.pinned (OpenSpec.ofChange fnKeptWrong)

/-- 'laws.FnExactHistOk': WHATEVER THE INPUT: true; the input reads as it did. -/
def fnExactHistOkSpec : ChangeSpec := { name := "fnExactHistOk", fn := fun _ => fun
  | [d] => { results := [.lit (.bool true)], args := [d] }
  | _ => none }
def fnExactHistOkRow : OpenClaim := { program := "ytmbhlfcpdbbogab", sum := "92343767b8f7b7e8f86cd3e3a5087943c380ebe0043c693eaddc39f64305d995", func := "loop.example/g01618/laws.FnExactHistOk", spec := "fnExactHistOk", inPlace := ["slices.overlaps[loop.example/g01618/impl.Node]"], unfollowed := true, recurses := true, apart := false }
def FnExactHistOkSaid : Prop := fnExactHistOkRow.holds Try.pinned (OpenSpec.ofChange fnExactHistOkSpec)

/-- ITS FALSE NEIGHBOUR: 'it returns false'. Refute it at one input. -/
def fnExactHistOkWrong : ChangeSpec := { name := "fnExactHistOk", fn := fun _ => fun
  | [d] => { results := [.lit (.bool false)], args := [d] }
  | _ => none }
def FnExactHistOkWrongFalsely : Prop := fnExactHistOkRow.holds Try.pinned (OpenSpec.ofChange fnExactHistOkWrong)

/- THE SECOND FORM. 'bulk': how many values and letters a reading holds, each counted each time it is reached (what is shared counts as often as it is met; a slice's spare places count too). A statement '..UptoSaid' is the law's where the arguments, and the package variables that the reading takes, are together of bulk at most 1048576: NARROWER than '..Said'. Prove '..Said' where nothing that the law and all that it calls make is longer than what came in: it says more and counts as full. Else prove '..UptoSaid'. A law counts once. -/
mutual
def uptoBulk {H : Type} : DataW H → Nat
  | .lit (.string bytes) => bytes.length + 1
  | .lit _ => 1
  | .nil => 1
  | .ptr d => uptoBulk d + 1
  | .slice elems spare => uptoBulkAll elems + uptoBulkAll spare + 1
  | .agg parts => uptoBulkAll parts + 1
  | .iface _ d => uptoBulk d + 1
  | .map entries => uptoBulkEntries entries + 1
  | .held _ => 1
def uptoBulkAll {H : Type} : List (DataW H) → Nat
  | [] => 0
  | d :: r => uptoBulk d + uptoBulkAll r
def uptoBulkEntries {H : Type} : List (Lit × DataW H) → Nat
  | [] => 0
  | x :: r => uptoBulkEntry x + uptoBulkEntries r
def uptoBulkEntry {H : Type} : Lit × DataW H → Nat
  | (.string bytes, d) => bytes.length + uptoBulk d + 1
  | (_, d) => uptoBulk d + 1
 end
def uptoSmall : (H : Type) → List (DataW H) → Bool := fun _ ds => decide (uptoBulkAll ds ≤ 1048576)
def OpenSpec.upto (s : _root_.Go.ChangeSpec) : _root_.Go.OpenSpec := { _root_.Go.OpenSpec.ofChange s with cond := some uptoSmall }

/-- 'laws.FnExactDomRelabel', WHERE WHAT IT READS IS OF BULK AT MOST 1048576: true; the input reads as it did. -/
def fnExactDomRelabelUptoRow : OpenClaim := { program := "ytmbhlfcpdbbogab", sum := "92343767b8f7b7e8f86cd3e3a5087943c380ebe0043c693eaddc39f64305d995", func := "loop.example/g01618/laws.FnExactDomRelabel", spec := "fnExactDomRelabel", recurses := true, apart := false, narrowed := true }
def FnExactDomRelabelUptoSaid : Prop := fnExactDomRelabelUptoRow.holds Try.pinned (OpenSpec.upto fnExactDomRelabelSpec)

/-- 'laws.FnExactDomFrom', WHERE WHAT IT READS IS OF BULK AT MOST 1048576: true; the input reads as it did. -/
def fnExactDomFromUptoRow : OpenClaim := { program := "ytmbhlfcpdbbogab", sum := "92343767b8f7b7e8f86cd3e3a5087943c380ebe0043c693eaddc39f64305d995", func := "loop.example/g01618/laws.FnExactDomFrom", spec := "fnExactDomFrom", apart := false, narrowed := true }
def FnExactDomFromUptoSaid : Prop := fnExactDomFromUptoRow.holds Try.pinned (OpenSpec.upto fnExactDomFromSpec)

/-- 'laws.FnPaths', WHERE WHAT IT READS IS OF BULK AT MOST 1048576: true; the input reads as it did. -/
def fnPathsUptoRow : OpenClaim := { program := "ytmbhlfcpdbbogab", sum := "92343767b8f7b7e8f86cd3e3a5087943c380ebe0043c693eaddc39f64305d995", func := "loop.example/g01618/laws.FnPaths", spec := "fnPaths", recurses := true, apart := false, narrowed := true }
def FnPathsUptoSaid : Prop := fnPathsUptoRow.holds Try.pinned (OpenSpec.upto fnPathsSpec)

/-- 'laws.FnDoms', WHERE WHAT IT READS IS OF BULK AT MOST 1048576: true; the input reads as it did. -/
def fnDomsUptoRow : OpenClaim := { program := "ytmbhlfcpdbbogab", sum := "92343767b8f7b7e8f86cd3e3a5087943c380ebe0043c693eaddc39f64305d995", func := "loop.example/g01618/laws.FnDoms", spec := "fnDoms", recurses := true, apart := false, narrowed := true }
def FnDomsUptoSaid : Prop := fnDomsUptoRow.holds Try.pinned (OpenSpec.upto fnDomsSpec)

/-- 'laws.FnKept', WHERE WHAT IT READS IS OF BULK AT MOST 1048576: true; the input reads as it did. -/
def fnKeptUptoRow : OpenClaim := { program := "ytmbhlfcpdbbogab", sum := "92343767b8f7b7e8f86cd3e3a5087943c380ebe0043c693eaddc39f64305d995", func := "loop.example/g01618/laws.FnKept", spec := "fnKept", unfollowed := true, recurses := true, apart := false, narrowed := true }
def FnKeptUptoSaid : Prop := fnKeptUptoRow.holds Try.pinned (OpenSpec.upto fnKeptSpec)

/-- 'laws.FnExactHistOk', WHERE WHAT IT READS IS OF BULK AT MOST 1048576: true; the input reads as it did. -/
def fnExactHistOkUptoRow : OpenClaim := { program := "ytmbhlfcpdbbogab", sum := "92343767b8f7b7e8f86cd3e3a5087943c380ebe0043c693eaddc39f64305d995", func := "loop.example/g01618/laws.FnExactHistOk", spec := "fnExactHistOk", inPlace := ["slices.overlaps[loop.example/g01618/impl.Node]"], unfollowed := true, recurses := true, apart := false, narrowed := true }
def FnExactHistOkUptoSaid : Prop := fnExactHistOkUptoRow.holds Try.pinned (OpenSpec.upto fnExactHistOkSpec)

end Rows
end Go.Proofs.Ytmbhlfcpdbbogab
