/-
  No cell of these rows narrows 'for every input' (looked for: loops, veiled, ifaces, maps, wideKeys, modest, calm, conditions, laid).
  DERIVED. THE GIVEN ROWS OF THIS SEAT. 6 by the template 'for every input the law returns true; each argument reads behind the call as it read before'; 0 by the template 'total and deterministic' (their statements: YtdapeboajjidmabTotals.lean).
  GIVEN WITH THE SEED: the statements are not yours to turn. If you find one false, say at which input.
  Laid BY PROGRAM, IN A SANDBOX (cutbox-rows.mjs): the forced cells as the released guide's own fill.sh prints them over the translation be5c7206fa7aa395… (all of the seat's roots in one cut). By AI agents, Wed Nov 11 2026. No macro, syntax, notation, axiom, sorry.
-/
import Derived.Test.YtdapeboajjidmabChecked
import GoSem.Claim
import GoSem.ClaimJoined
import GoSem.ClaimMapViews
import Derived.JoinedTies
import Derived.KernelRfl
namespace Go.Proofs.Ytdapeboajjidmab
/- THE CELL 'sum', in the pinned program and in every row, IS THE sha256 OF THE DUMP (.gsa) THAT YtdapeboajjidmabProg.lean LOADS. Nothing in Lean hashes anything: it is a label: what it is worth is what the hold of that sum in a sandbox is worth. -/
noncomputable def Try.pinned : Pinned := { name := "ytdapeboajjidmab", sum := "be5c7206fa7aa395c4d63c4bd67291a60e262972993f2783c6f29fe102fcdaa1", checked := Try.checked }
namespace Rows
def none {H : Type} : Left H := { results := [], args := [] }

/-- 'laws.FnDoms': WHATEVER THE INPUT: true; the input reads as it did. -/
def fnDomsSpec : ChangeSpec := { name := "fnDoms", fn := fun _ => fun
  | [d] => { results := [.lit (.bool true)], args := [d] }
  | _ => none }
def fnDomsRow : OpenClaim := { program := "ytdapeboajjidmab", sum := "be5c7206fa7aa395c4d63c4bd67291a60e262972993f2783c6f29fe102fcdaa1", func := "loop.example/g01618/laws.FnDoms", spec := "fnDoms", recurses := true, apart := false }
def FnDomsSaid : Prop := fnDomsRow.holds Try.pinned (OpenSpec.ofChange fnDomsSpec)

/-- ITS FALSE NEIGHBOUR: 'it returns false'. Refute it at one input. -/
def fnDomsWrong : ChangeSpec := { name := "fnDoms", fn := fun _ => fun
  | [d] => { results := [.lit (.bool false)], args := [d] }
  | _ => none }
def FnDomsWrongFalsely : Prop := fnDomsRow.holds Try.pinned (OpenSpec.ofChange fnDomsWrong)

/-- 'laws.FnExactDomDelete': WHATEVER THE INPUT: true; the input reads as it did. -/
def fnExactDomDeleteSpec : ChangeSpec := { name := "fnExactDomDelete", fn := fun _ => fun
  | [d1, d2] => { results := [.lit (.bool true)], args := [d1, d2] }
  | _ => none }
def fnExactDomDeleteRow : OpenClaim := { program := "ytdapeboajjidmab", sum := "be5c7206fa7aa395c4d63c4bd67291a60e262972993f2783c6f29fe102fcdaa1", func := "loop.example/g01618/laws.FnExactDomDelete", spec := "fnExactDomDelete", recurses := true, apart := false }
def FnExactDomDeleteSaid : Prop := fnExactDomDeleteRow.holds Try.pinned (OpenSpec.ofChange fnExactDomDeleteSpec)

/-- ITS FALSE NEIGHBOUR: 'it returns false'. Refute it at one input. -/
def fnExactDomDeleteWrong : ChangeSpec := { name := "fnExactDomDelete", fn := fun _ => fun
  | [d1, d2] => { results := [.lit (.bool false)], args := [d1, d2] }
  | _ => none }
def FnExactDomDeleteWrongFalsely : Prop := fnExactDomDeleteRow.holds Try.pinned (OpenSpec.ofChange fnExactDomDeleteWrong)

/-- 'laws.FnExactDomInsert': WHATEVER THE INPUT: true; the input reads as it did. -/
def fnExactDomInsertSpec : ChangeSpec := { name := "fnExactDomInsert", fn := fun _ => fun
  | [d1, d2, d3, d4, d5] => { results := [.lit (.bool true)], args := [d1, d2, d3, d4, d5] }
  | _ => none }
def fnExactDomInsertRow : OpenClaim := { program := "ytdapeboajjidmab", sum := "be5c7206fa7aa395c4d63c4bd67291a60e262972993f2783c6f29fe102fcdaa1", func := "loop.example/g01618/laws.FnExactDomInsert", spec := "fnExactDomInsert", unfollowed := true, recurses := true, apart := false }
def FnExactDomInsertSaid : Prop := fnExactDomInsertRow.holds Try.pinned (OpenSpec.ofChange fnExactDomInsertSpec)

/-- ITS FALSE NEIGHBOUR: 'it returns false'. Refute it at one input. -/
def fnExactDomInsertWrong : ChangeSpec := { name := "fnExactDomInsert", fn := fun _ => fun
  | [d1, d2, d3, d4, d5] => { results := [.lit (.bool false)], args := [d1, d2, d3, d4, d5] }
  | _ => none }
def FnExactDomInsertWrongFalsely : Prop := fnExactDomInsertRow.holds Try.pinned (OpenSpec.ofChange fnExactDomInsertWrong)

/-- 'laws.FnKept': WHATEVER THE INPUT: true; the input reads as it did. -/
def fnKeptSpec : ChangeSpec := { name := "fnKept", fn := fun _ => fun
  | [d] => { results := [.lit (.bool true)], args := [d] }
  | _ => none }
def fnKeptRow : OpenClaim := { program := "ytdapeboajjidmab", sum := "be5c7206fa7aa395c4d63c4bd67291a60e262972993f2783c6f29fe102fcdaa1", func := "loop.example/g01618/laws.FnKept", spec := "fnKept", unfollowed := true, recurses := true, apart := false }
def FnKeptSaid : Prop := fnKeptRow.holds Try.pinned (OpenSpec.ofChange fnKeptSpec)

/-- ITS FALSE NEIGHBOUR: 'it returns false'. Refute it at one input. -/
def fnKeptWrong : ChangeSpec := { name := "fnKept", fn := fun _ => fun
  | [d] => { results := [.lit (.bool false)], args := [d] }
  | _ => none }
def FnKeptWrongFalsely : Prop := fnKeptRow.holds Try.pinned (OpenSpec.ofChange fnKeptWrong)

/-- 'laws.FnDomParts': WHATEVER THE INPUT: true; the input reads as it did. -/
def fnDomPartsSpec : ChangeSpec := { name := "fnDomParts", fn := fun _ => fun
  | [d] => { results := [.lit (.bool true)], args := [d] }
  | _ => none }
def fnDomPartsRow : OpenClaim := { program := "ytdapeboajjidmab", sum := "be5c7206fa7aa395c4d63c4bd67291a60e262972993f2783c6f29fe102fcdaa1", func := "loop.example/g01618/laws.FnDomParts", spec := "fnDomParts", unfollowed := true, recurses := true, apart := false }
def FnDomPartsSaid : Prop := fnDomPartsRow.holds Try.pinned (OpenSpec.ofChange fnDomPartsSpec)

/-- ITS FALSE NEIGHBOUR: 'it returns false'. Refute it at one input. -/
def fnDomPartsWrong : ChangeSpec := { name := "fnDomParts", fn := fun _ => fun
  | [d] => { results := [.lit (.bool false)], args := [d] }
  | _ => none }
def FnDomPartsWrongFalsely : Prop := fnDomPartsRow.holds Try.pinned (OpenSpec.ofChange fnDomPartsWrong)

/-- 'laws.FnInverted': WHATEVER THE INPUT: true; the input reads as it did. -/
def fnInvertedSpec : ChangeSpec := { name := "fnInverted", fn := fun _ => fun
  | [d] => { results := [.lit (.bool true)], args := [d] }
  | _ => none }
def fnInvertedRow : OpenClaim := { program := "ytdapeboajjidmab", sum := "be5c7206fa7aa395c4d63c4bd67291a60e262972993f2783c6f29fe102fcdaa1", func := "loop.example/g01618/laws.FnInverted", spec := "fnInverted", inPlace := ["slices.overlaps[loop.example/g01618/impl.Node]"], unfollowed := true, recurses := true, apart := false }
def FnInvertedSaid : Prop := fnInvertedRow.holds Try.pinned (OpenSpec.ofChange fnInvertedSpec)

/-- ITS FALSE NEIGHBOUR: 'it returns false'. Refute it at one input. -/
def fnInvertedWrong : ChangeSpec := { name := "fnInverted", fn := fun _ => fun
  | [d] => { results := [.lit (.bool false)], args := [d] }
  | _ => none }
def FnInvertedWrongFalsely : Prop := fnInvertedRow.holds Try.pinned (OpenSpec.ofChange fnInvertedWrong)

/- THE SECOND FORM. 'bulk': how many values and letters a reading holds, each counted each time it is reached (what is shared counts as often as it is met; a slice's spare places count too). A statement '..UptoSaid' is the law's where the arguments, and the package variables that the reading takes, are together of bulk at most 1048576: NARROWER than '..Said'. Prove '..Said' where nothing that the law and all that it calls make is longer than what came in: it says more and counts as full. Else prove '..UptoSaid'. A law counts once. -/
mutual
def uptoBulk {H : Type} : DataW H → Nat
  | .lit (.string bytes) => bytes.length + 1
  | .lit _ => 1
  | .nil => 1
  | .ptr d => uptoBulk d + 1
  | .slice elems spare => uptoBulkAll elems + uptoBulkAll spare + 1
  | .agg parts => uptoBulkAll parts + 1
  | .iface _ d => uptoBulk d + 1
  | .map entries => uptoBulkEntries entries + 1
  | .held _ => 1
def uptoBulkAll {H : Type} : List (DataW H) → Nat
  | [] => 0
  | d :: r => uptoBulk d + uptoBulkAll r
def uptoBulkEntries {H : Type} : List (Lit × DataW H) → Nat
  | [] => 0
  | x :: r => uptoBulkEntry x + uptoBulkEntries r
def uptoBulkEntry {H : Type} : Lit × DataW H → Nat
  | (.string bytes, d) => bytes.length + uptoBulk d + 1
  | (_, d) => uptoBulk d + 1
 end
def uptoSmall : (H : Type) → List (DataW H) → Bool := fun _ ds => decide (uptoBulkAll ds ≤ 1048576)
def OpenSpec.upto (s : _root_.Go.ChangeSpec) : _root_.Go.OpenSpec := { _root_.Go.OpenSpec.ofChange s with cond := some uptoSmall }

/-- 'laws.FnDoms', WHERE WHAT IT READS IS OF BULK AT MOST 1048576: true; the input reads as it did. -/
def fnDomsUptoRow : OpenClaim := { program := "ytdapeboajjidmab", sum := "be5c7206fa7aa395c4d63c4bd67291a60e262972993f2783c6f29fe102fcdaa1", func := "loop.example/g01618/laws.FnDoms", spec := "fnDoms", recurses := true, apart := false, narrowed := true }
def FnDomsUptoSaid : Prop := fnDomsUptoRow.holds Try.pinned (OpenSpec.upto fnDomsSpec)

/-- 'laws.FnExactDomDelete', WHERE WHAT IT READS IS OF BULK AT MOST 1048576: true; the input reads as it did. -/
def fnExactDomDeleteUptoRow : OpenClaim := { program := "ytdapeboajjidmab", sum := "be5c7206fa7aa395c4d63c4bd67291a60e262972993f2783c6f29fe102fcdaa1", func := "loop.example/g01618/laws.FnExactDomDelete", spec := "fnExactDomDelete", recurses := true, apart := false, narrowed := true }
def FnExactDomDeleteUptoSaid : Prop := fnExactDomDeleteUptoRow.holds Try.pinned (OpenSpec.upto fnExactDomDeleteSpec)

/-- 'laws.FnExactDomInsert', WHERE WHAT IT READS IS OF BULK AT MOST 1048576: true; the input reads as it did. -/
def fnExactDomInsertUptoRow : OpenClaim := { program := "ytdapeboajjidmab", sum := "be5c7206fa7aa395c4d63c4bd67291a60e262972993f2783c6f29fe102fcdaa1", func := "loop.example/g01618/laws.FnExactDomInsert", spec := "fnExactDomInsert", unfollowed := true, recurses := true, apart := false, narrowed := true }
def FnExactDomInsertUptoSaid : Prop := fnExactDomInsertUptoRow.holds Try.pinned (OpenSpec.upto fnExactDomInsertSpec)

/-- 'laws.FnKept', WHERE WHAT IT READS IS OF BULK AT MOST 1048576: true; the input reads as it did. -/
def fnKeptUptoRow : OpenClaim := { program := "ytdapeboajjidmab", sum := "be5c7206fa7aa395c4d63c4bd67291a60e262972993f2783c6f29fe102fcdaa1", func := "loop.example/g01618/laws.FnKept", spec := "fnKept", unfollowed := true, recurses := true, apart := false, narrowed := true }
def FnKeptUptoSaid : Prop := fnKeptUptoRow.holds Try.pinned (OpenSpec.upto fnKeptSpec)

/-- 'laws.FnDomParts', WHERE WHAT IT READS IS OF BULK AT MOST 1048576: true; the input reads as it did. -/
def fnDomPartsUptoRow : OpenClaim := { program := "ytdapeboajjidmab", sum := "be5c7206fa7aa395c4d63c4bd67291a60e262972993f2783c6f29fe102fcdaa1", func := "loop.example/g01618/laws.FnDomParts", spec := "fnDomParts", unfollowed := true, recurses := true, apart := false, narrowed := true }
def FnDomPartsUptoSaid : Prop := fnDomPartsUptoRow.holds Try.pinned (OpenSpec.upto fnDomPartsSpec)

/-- 'laws.FnInverted', WHERE WHAT IT READS IS OF BULK AT MOST 1048576: true; the input reads as it did. -/
def fnInvertedUptoRow : OpenClaim := { program := "ytdapeboajjidmab", sum := "be5c7206fa7aa395c4d63c4bd67291a60e262972993f2783c6f29fe102fcdaa1", func := "loop.example/g01618/laws.FnInverted", spec := "fnInverted", inPlace := ["slices.overlaps[loop.example/g01618/impl.Node]"], unfollowed := true, recurses := true, apart := false, narrowed := true }
def FnInvertedUptoSaid : Prop := fnInvertedUptoRow.holds Try.pinned (OpenSpec.upto fnInvertedSpec)

end Rows
end Go.Proofs.Ytdapeboajjidmab
