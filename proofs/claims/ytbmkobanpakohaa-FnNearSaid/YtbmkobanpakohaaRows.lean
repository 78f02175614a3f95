/-
  No cell of these rows narrows 'for every input' (looked for: loops, veiled, ifaces, maps, wideKeys, modest, calm, conditions, laid).
  DERIVED. THE GIVEN ROWS OF THIS SEAT. 6 by the template 'for every input the law returns true; each argument reads behind the call as it read before'; 0 by the template 'total and deterministic' (their statements: YtbmkobanpakohaaTotals.lean).
  GIVEN WITH THE SEED: the statements are not yours to turn. If you find one false, say at which input.
  Laid BY PROGRAM, IN A SANDBOX (cutbox-rows.mjs): the forced cells as the released guide's own fill.sh prints them over the translation ed1d0ad45af07d2c… (all of the seat's roots in one cut). By AI agents, Wed Nov 11 2026. No macro, syntax, notation, axiom, sorry.
-/
import Derived.Test.YtbmkobanpakohaaChecked
import GoSem.Claim
import GoSem.ClaimJoined
import GoSem.ClaimMapViews
import Derived.JoinedTies
import Derived.KernelRfl
namespace Go.Proofs.Ytbmkobanpakohaa
/- THE CELL 'sum', in the pinned program and in every row, IS THE sha256 OF THE DUMP (.gsa) THAT YtbmkobanpakohaaProg.lean LOADS. Nothing in Lean hashes anything: it is a label: what it is worth is what the hold of that sum in a sandbox is worth. -/
noncomputable def Try.pinned : Pinned := { name := "ytbmkobanpakohaa", sum := "ed1d0ad45af07d2cd23044a3659c026f7ec56a8951d0598639b1c1fb94977dea", checked := Try.checked }
namespace Rows
def none {H : Type} : Left H := { results := [], args := [] }

/-- 'laws.FnExactSimilarity': WHATEVER THE INPUT: true; the input reads as it did. -/
def fnExactSimilaritySpec : ChangeSpec := { name := "fnExactSimilarity", fn := fun _ => fun
  | [d1, d2] => { results := [.lit (.bool true)], args := [d1, d2] }
  | _ => none }
def fnExactSimilarityRow : OpenClaim := { program := "ytbmkobanpakohaa", sum := "ed1d0ad45af07d2cd23044a3659c026f7ec56a8951d0598639b1c1fb94977dea", func := "loop.example/g01618/laws.FnExactSimilarity", spec := "fnExactSimilarity", unfollowed := true, recurses := true, plainKeys := false, apart := false }
def FnExactSimilaritySaid : Prop := fnExactSimilarityRow.holds Try.pinned (OpenSpec.ofChange fnExactSimilaritySpec)

/-- ITS FALSE NEIGHBOUR: 'it returns false'. Refute it at one input. -/
def fnExactSimilarityWrong : ChangeSpec := { name := "fnExactSimilarity", fn := fun _ => fun
  | [d1, d2] => { results := [.lit (.bool false)], args := [d1, d2] }
  | _ => none }
def FnExactSimilarityWrongFalsely : Prop := fnExactSimilarityRow.holds Try.pinned (OpenSpec.ofChange fnExactSimilarityWrong)

/-- 'laws.FnExactNearest': WHATEVER THE INPUT: true; the input reads as it did. -/
def fnExactNearestSpec : ChangeSpec := { name := "fnExactNearest", fn := fun _ => fun
  | [d1, d2, d3] => { results := [.lit (.bool true)], args := [d1, d2, d3] }
  | _ => none }
def fnExactNearestRow : OpenClaim := { program := "ytbmkobanpakohaa", sum := "ed1d0ad45af07d2cd23044a3659c026f7ec56a8951d0598639b1c1fb94977dea", func := "loop.example/g01618/laws.FnExactNearest", spec := "fnExactNearest", unfollowed := true, recurses := true, plainKeys := false, apart := false }
def FnExactNearestSaid : Prop := fnExactNearestRow.holds Try.pinned (OpenSpec.ofChange fnExactNearestSpec)

/-- ITS FALSE NEIGHBOUR: 'it returns false'. Refute it at one input. -/
def fnExactNearestWrong : ChangeSpec := { name := "fnExactNearest", fn := fun _ => fun
  | [d1, d2, d3] => { results := [.lit (.bool false)], args := [d1, d2, d3] }
  | _ => none }
def FnExactNearestWrongFalsely : Prop := fnExactNearestRow.holds Try.pinned (OpenSpec.ofChange fnExactNearestWrong)

/-- 'laws.FnExactMedian': WHATEVER THE INPUT: true; the input reads as it did. -/
def fnExactMedianSpec : ChangeSpec := { name := "fnExactMedian", fn := fun _ => fun
  | [d1, d2] => { results := [.lit (.bool true)], args := [d1, d2] }
  | _ => none }
def fnExactMedianRow : OpenClaim := { program := "ytbmkobanpakohaa", sum := "ed1d0ad45af07d2cd23044a3659c026f7ec56a8951d0598639b1c1fb94977dea", func := "loop.example/g01618/laws.FnExactMedian", spec := "fnExactMedian", unfollowed := true, recurses := true, plainKeys := false, apart := false }
def FnExactMedianSaid : Prop := fnExactMedianRow.holds Try.pinned (OpenSpec.ofChange fnExactMedianSpec)

/-- ITS FALSE NEIGHBOUR: 'it returns false'. Refute it at one input. -/
def fnExactMedianWrong : ChangeSpec := { name := "fnExactMedian", fn := fun _ => fun
  | [d1, d2] => { results := [.lit (.bool false)], args := [d1, d2] }
  | _ => none }
def FnExactMedianWrongFalsely : Prop := fnExactMedianRow.holds Try.pinned (OpenSpec.ofChange fnExactMedianWrong)

/-- 'laws.FnMedian': WHATEVER THE INPUT: true; the input reads as it did. -/
def fnMedianSpec : ChangeSpec := { name := "fnMedian", fn := fun _ => fun
  | [d] => { results := [.lit (.bool true)], args := [d] }
  | _ => none }
def fnMedianRow : OpenClaim := { program := "ytbmkobanpakohaa", sum := "ed1d0ad45af07d2cd23044a3659c026f7ec56a8951d0598639b1c1fb94977dea", func := "loop.example/g01618/laws.FnMedian", spec := "fnMedian", unfollowed := true, recurses := true, plainKeys := false, apart := false }
def FnMedianSaid : Prop := fnMedianRow.holds Try.pinned (OpenSpec.ofChange fnMedianSpec)

/-- ITS FALSE NEIGHBOUR: 'it returns false'. Refute it at one input. -/
def fnMedianWrong : ChangeSpec := { name := "fnMedian", fn := fun _ => fun
  | [d] => { results := [.lit (.bool false)], args := [d] }
  | _ => none }
def FnMedianWrongFalsely : Prop := fnMedianRow.holds Try.pinned (OpenSpec.ofChange fnMedianWrong)

/-- 'laws.FnNear': WHATEVER THE INPUT: true; the input reads as it did. -/
def fnNearSpec : ChangeSpec := { name := "fnNear", fn := fun _ => fun
  | [d] => { results := [.lit (.bool true)], args := [d] }
  | _ => none }
def fnNearRow : OpenClaim := { program := "ytbmkobanpakohaa", sum := "ed1d0ad45af07d2cd23044a3659c026f7ec56a8951d0598639b1c1fb94977dea", func := "loop.example/g01618/laws.FnNear", spec := "fnNear", unfollowed := true, recurses := true, plainKeys := false, apart := false }
def FnNearSaid : Prop := fnNearRow.holds Try.pinned (OpenSpec.ofChange fnNearSpec)

/-- ITS FALSE NEIGHBOUR: 'it returns false'. Refute it at one input. -/
def fnNearWrong : ChangeSpec := { name := "fnNear", fn := fun _ => fun
  | [d] => { results := [.lit (.bool false)], args := [d] }
  | _ => none }
def FnNearWrongFalsely : Prop := fnNearRow.holds Try.pinned (OpenSpec.ofChange fnNearWrong)

/-- 'laws.FnMirrored': WHATEVER THE INPUT: true; the input reads as it did. -/
def fnMirroredSpec : ChangeSpec := { name := "fnMirrored", fn := fun _ => fun
  | [d] => { results := [.lit (.bool true)], args := [d] }
  | _ => none }
def fnMirroredRow : OpenClaim := { program := "ytbmkobanpakohaa", sum := "ed1d0ad45af07d2cd23044a3659c026f7ec56a8951d0598639b1c1fb94977dea", func := "loop.example/g01618/laws.FnMirrored", spec := "fnMirrored", unfollowed := true, recurses := true, plainKeys := false, apart := false }
def FnMirroredSaid : Prop := fnMirroredRow.holds Try.pinned (OpenSpec.ofChange fnMirroredSpec)

/-- ITS FALSE NEIGHBOUR: 'it returns false'. Refute it at one input. -/
def fnMirroredWrong : ChangeSpec := { name := "fnMirrored", fn := fun _ => fun
  | [d] => { results := [.lit (.bool false)], args := [d] }
  | _ => none }
def FnMirroredWrongFalsely : Prop := fnMirroredRow.holds Try.pinned (OpenSpec.ofChange fnMirroredWrong)

/- THE SECOND FORM. 'bulk': how many values and letters a reading holds, each counted each time it is reached (what is shared counts as often as it is met; a slice's spare places count too). A statement '..UptoSaid' is the law's where the arguments, and the package variables that the reading takes, are together of bulk at most 1048576: NARROWER than '..Said'. Prove '..Said' where nothing that the law and all that it calls make is longer than what came in: it says more and counts as full. Else prove '..UptoSaid'. A law counts once. -/
mutual
def uptoBulk {H : Type} : DataW H → Nat
  | .lit (.string bytes) => bytes.length + 1
  | .lit _ => 1
  | .nil => 1
  | .ptr d => uptoBulk d + 1
  | .slice elems spare => uptoBulkAll elems + uptoBulkAll spare + 1
  | .agg parts => uptoBulkAll parts + 1
  | .iface _ d => uptoBulk d + 1
  | .map entries => uptoBulkEntries entries + 1
  | .held _ => 1
def uptoBulkAll {H : Type} : List (DataW H) → Nat
  | [] => 0
  | d :: r => uptoBulk d + uptoBulkAll r
def uptoBulkEntries {H : Type} : List (Lit × DataW H) → Nat
  | [] => 0
  | x :: r => uptoBulkEntry x + uptoBulkEntries r
def uptoBulkEntry {H : Type} : Lit × DataW H → Nat
  | (.string bytes, d) => bytes.length + uptoBulk d + 1
  | (_, d) => uptoBulk d + 1
 end
def uptoSmall : (H : Type) → List (DataW H) → Bool := fun _ ds => decide (uptoBulkAll ds ≤ 1048576)
def OpenSpec.upto (s : _root_.Go.ChangeSpec) : _root_.Go.OpenSpec := { _root_.Go.OpenSpec.ofChange s with cond := some uptoSmall }

/-- 'laws.FnExactSimilarity', WHERE WHAT IT READS IS OF BULK AT MOST 1048576: true; the input reads as it did. -/
def fnExactSimilarityUptoRow : OpenClaim := { program := "ytbmkobanpakohaa", sum := "ed1d0ad45af07d2cd23044a3659c026f7ec56a8951d0598639b1c1fb94977dea", func := "loop.example/g01618/laws.FnExactSimilarity", spec := "fnExactSimilarity", unfollowed := true, recurses := true, plainKeys := false, apart := false, narrowed := true }
def FnExactSimilarityUptoSaid : Prop := fnExactSimilarityUptoRow.holds Try.pinned (OpenSpec.upto fnExactSimilaritySpec)

/-- 'laws.FnExactNearest', WHERE WHAT IT READS IS OF BULK AT MOST 1048576: true; the input reads as it did. -/
def fnExactNearestUptoRow : OpenClaim := { program := "ytbmkobanpakohaa", sum := "ed1d0ad45af07d2cd23044a3659c026f7ec56a8951d0598639b1c1fb94977dea", func := "loop.example/g01618/laws.FnExactNearest", spec := "fnExactNearest", unfollowed := true, recurses := true, plainKeys := false, apart := false, narrowed := true }
def FnExactNearestUptoSaid : Prop := fnExactNearestUptoRow.holds Try.pinned (OpenSpec.upto fnExactNearestSpec)

/-- 'laws.FnExactMedian', WHERE WHAT IT READS IS OF BULK AT MOST 1048576: true; the input reads as it did. -/
def fnExactMedianUptoRow : OpenClaim := { program := "ytbmkobanpakohaa", sum := "ed1d0ad45af07d2cd23044a3659c026f7ec56a8951d0598639b1c1fb94977dea", func := "loop.example/g01618/laws.FnExactMedian", spec := "fnExactMedian", unfollowed := true, recurses := true, plainKeys := false, apart := false, narrowed := true }
def FnExactMedianUptoSaid : Prop := fnExactMedianUptoRow.holds Try.pinned (OpenSpec.upto fnExactMedianSpec)

/-- 'laws.FnMedian', WHERE WHAT IT READS IS OF BULK AT MOST 1048576: true; the input reads as it did. -/
def fnMedianUptoRow : OpenClaim := { program := "ytbmkobanpakohaa", sum := "ed1d0ad45af07d2cd23044a3659c026f7ec56a8951d0598639b1c1fb94977dea", func := "loop.example/g01618/laws.FnMedian", spec := "fnMedian", unfollowed := true, recurses := true, plainKeys := false, apart := false, narrowed := true }
def FnMedianUptoSaid : Prop := fnMedianUptoRow.holds Try.pinned (OpenSpec.upto fnMedianSpec)

/-- 'laws.FnNear', WHERE WHAT IT READS IS OF BULK AT MOST 1048576: true; the input reads as it did. -/
def fnNearUptoRow : OpenClaim := { program := "ytbmkobanpakohaa", sum := "ed1d0ad45af07d2cd23044a3659c026f7ec56a8951d0598639b1c1fb94977dea", func := "loop.example/g01618/laws.FnNear", spec := "fnNear", unfollowed := true, recurses := true, plainKeys := false, apart := false, narrowed := true }
def FnNearUptoSaid : Prop := fnNearUptoRow.holds Try.pinned (OpenSpec.upto fnNearSpec)

/-- 'laws.FnMirrored', WHERE WHAT IT READS IS OF BULK AT MOST 1048576: true; the input reads as it did. -/
def fnMirroredUptoRow : OpenClaim := { program := "ytbmkobanpakohaa", sum := "ed1d0ad45af07d2cd23044a3659c026f7ec56a8951d0598639b1c1fb94977dea", func := "loop.example/g01618/laws.FnMirrored", spec := "fnMirrored", unfollowed := true, recurses := true, plainKeys := false, apart := false, narrowed := true }
def FnMirroredUptoSaid : Prop := fnMirroredUptoRow.holds Try.pinned (OpenSpec.upto fnMirroredSpec)

end Rows
end Go.Proofs.Ytbmkobanpakohaa
