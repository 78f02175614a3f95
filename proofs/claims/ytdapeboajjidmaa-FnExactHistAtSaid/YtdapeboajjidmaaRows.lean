/-
  No cell of these rows narrows 'for every input' (looked for: loops, veiled, ifaces, maps, wideKeys, modest, calm, conditions, laid).
  DERIVED. THE GIVEN ROWS OF THIS SEAT. 6 by the template 'for every input the law returns true; each argument reads behind the call as it read before'; 0 by the template 'total and deterministic' (their statements: YtdapeboajjidmaaTotals.lean).
  GIVEN WITH THE SEED: the statements are not yours to turn. If you find one false, say at which input.
  Laid BY PROGRAM, IN A SANDBOX (cutbox-rows.mjs): the forced cells as the released guide's own fill.sh prints them over the translation 565eb177d1c8222a… (all of the seat's roots in one cut). By AI agents, Wed Nov 11 2026. No macro, syntax, notation, axiom, sorry.
-/
import Derived.Test.YtdapeboajjidmaaChecked
import GoSem.Claim
import GoSem.ClaimJoined
import GoSem.ClaimMapViews
import Derived.JoinedTies
import Derived.KernelRfl
namespace Go.Proofs.Ytdapeboajjidmaa
/- THE CELL 'sum', in the pinned program and in every row, IS THE sha256 OF THE DUMP (.gsa) THAT YtdapeboajjidmaaProg.lean LOADS. Nothing in Lean hashes anything: it is a label: what it is worth is what the hold of that sum in a sandbox is worth. -/
noncomputable def Try.pinned : Pinned := { name := "ytdapeboajjidmaa", sum := "565eb177d1c8222af4bba26bc1fd01067c4fb32fe01cb6cc2e7f0b2d65c0daa2", checked := Try.checked }
namespace Rows
def none {H : Type} : Left H := { results := [], args := [] }

/-- 'laws.FnExactDropIdle': WHATEVER THE INPUT: true; the input reads as it did. -/
def fnExactDropIdleSpec : ChangeSpec := { name := "fnExactDropIdle", fn := fun _ => fun
  | [d1, d2] => { results := [.lit (.bool true)], args := [d1, d2] }
  | _ => none }
def fnExactDropIdleRow : OpenClaim := { program := "ytdapeboajjidmaa", sum := "565eb177d1c8222af4bba26bc1fd01067c4fb32fe01cb6cc2e7f0b2d65c0daa2", func := "loop.example/g01618/laws.FnExactDropIdle", spec := "fnExactDropIdle", inPlace := ["slices.overlaps[loop.example/g01618/impl.Node]"], apart := false }
def FnExactDropIdleSaid : Prop := fnExactDropIdleRow.holds Try.pinned (OpenSpec.ofChange fnExactDropIdleSpec)

/-- ITS FALSE NEIGHBOUR: 'it returns false'. Refute it at one input. -/
def fnExactDropIdleWrong : ChangeSpec := { name := "fnExactDropIdle", fn := fun _ => fun
  | [d1, d2] => { results := [.lit (.bool false)], args := [d1, d2] }
  | _ => none }
def FnExactDropIdleWrongFalsely : Prop := fnExactDropIdleRow.holds Try.pinned (OpenSpec.ofChange fnExactDropIdleWrong)

/-- 'laws.FnExactHistAt': WHATEVER THE INPUT: true; the input reads as it did. -/
def fnExactHistAtSpec : ChangeSpec := { name := "fnExactHistAt", fn := fun _ => fun
  | [d1, d2] => { results := [.lit (.bool true)], args := [d1, d2] }
  | _ => none }
def fnExactHistAtRow : OpenClaim := { program := "ytdapeboajjidmaa", sum := "565eb177d1c8222af4bba26bc1fd01067c4fb32fe01cb6cc2e7f0b2d65c0daa2", func := "loop.example/g01618/laws.FnExactHistAt", spec := "fnExactHistAt", inPlace := ["slices.overlaps[loop.example/g01618/impl.Node]"], unfollowed := true, recurses := true, apart := false }
def FnExactHistAtSaid : Prop := fnExactHistAtRow.holds Try.pinned (OpenSpec.ofChange fnExactHistAtSpec)

/-- ITS FALSE NEIGHBOUR: 'it returns false'. Refute it at one input. -/
def fnExactHistAtWrong : ChangeSpec := { name := "fnExactHistAt", fn := fun _ => fun
  | [d1, d2] => { results := [.lit (.bool false)], args := [d1, d2] }
  | _ => none }
def FnExactHistAtWrongFalsely : Prop := fnExactHistAtRow.holds Try.pinned (OpenSpec.ofChange fnExactHistAtWrong)

/-- 'laws.FnExactInvert': WHATEVER THE INPUT: true; the input reads as it did. -/
def fnExactInvertSpec : ChangeSpec := { name := "fnExactInvert", fn := fun _ => fun
  | [d1, d2] => { results := [.lit (.bool true)], args := [d1, d2] }
  | _ => none }
def fnExactInvertRow : OpenClaim := { program := "ytdapeboajjidmaa", sum := "565eb177d1c8222af4bba26bc1fd01067c4fb32fe01cb6cc2e7f0b2d65c0daa2", func := "loop.example/g01618/laws.FnExactInvert", spec := "fnExactInvert", inPlace := ["slices.overlaps[loop.example/g01618/impl.Node]"], apart := false }
def FnExactInvertSaid : Prop := fnExactInvertRow.holds Try.pinned (OpenSpec.ofChange fnExactInvertSpec)

/-- ITS FALSE NEIGHBOUR: 'it returns false'. Refute it at one input. -/
def fnExactInvertWrong : ChangeSpec := { name := "fnExactInvert", fn := fun _ => fun
  | [d1, d2] => { results := [.lit (.bool false)], args := [d1, d2] }
  | _ => none }
def FnExactInvertWrongFalsely : Prop := fnExactInvertRow.holds Try.pinned (OpenSpec.ofChange fnExactInvertWrong)

/-- 'laws.FnExactJoined': WHATEVER THE INPUT: true; the input reads as it did. -/
def fnExactJoinedSpec : ChangeSpec := { name := "fnExactJoined", fn := fun _ => fun
  | [d1, d2] => { results := [.lit (.bool true)], args := [d1, d2] }
  | _ => none }
def fnExactJoinedRow : OpenClaim := { program := "ytdapeboajjidmaa", sum := "565eb177d1c8222af4bba26bc1fd01067c4fb32fe01cb6cc2e7f0b2d65c0daa2", func := "loop.example/g01618/laws.FnExactJoined", spec := "fnExactJoined", apart := false }
def FnExactJoinedSaid : Prop := fnExactJoinedRow.holds Try.pinned (OpenSpec.ofChange fnExactJoinedSpec)

/-- ITS FALSE NEIGHBOUR: 'it returns false'. Refute it at one input. -/
def fnExactJoinedWrong : ChangeSpec := { name := "fnExactJoined", fn := fun _ => fun
  | [d1, d2] => { results := [.lit (.bool false)], args := [d1, d2] }
  | _ => none }
def FnExactJoinedWrongFalsely : Prop := fnExactJoinedRow.holds Try.pinned (OpenSpec.ofChange fnExactJoinedWrong)

/-- 'laws.FnJoined': WHATEVER THE INPUT: true; the input reads as it did. -/
def fnJoinedSpec : ChangeSpec := { name := "fnJoined", fn := fun _ => fun
  | [d] => { results := [.lit (.bool true)], args := [d] }
  | _ => none }
def fnJoinedRow : OpenClaim := { program := "ytdapeboajjidmaa", sum := "565eb177d1c8222af4bba26bc1fd01067c4fb32fe01cb6cc2e7f0b2d65c0daa2", func := "loop.example/g01618/laws.FnJoined", spec := "fnJoined", inPlace := ["slices.overlaps[loop.example/g01618/impl.Node]"], unfollowed := true, recurses := true, apart := false }
def FnJoinedSaid : Prop := fnJoinedRow.holds Try.pinned (OpenSpec.ofChange fnJoinedSpec)

/-- ITS FALSE NEIGHBOUR: 'it returns false'. Refute it at one input. -/
def fnJoinedWrong : ChangeSpec := { name := "fnJoined", fn := fun _ => fun
  | [d] => { results := [.lit (.bool false)], args := [d] }
  | _ => none }
def FnJoinedWrongFalsely : Prop := fnJoinedRow.holds Try.pinned (OpenSpec.ofChange fnJoinedWrong)

/-- 'laws.FnExactPatch': WHATEVER THE INPUT: true; the input reads as it did. -/
def fnExactPatchSpec : ChangeSpec := { name := "fnExactPatch", fn := fun _ => fun
  | [d1, d2] => { results := [.lit (.bool true)], args := [d1, d2] }
  | _ => none }
def fnExactPatchRow : OpenClaim := { program := "ytdapeboajjidmaa", sum := "565eb177d1c8222af4bba26bc1fd01067c4fb32fe01cb6cc2e7f0b2d65c0daa2", func := "loop.example/g01618/laws.FnExactPatch", spec := "fnExactPatch", inPlace := ["slices.overlaps[loop.example/g01618/impl.Node]"], apart := false }
def FnExactPatchSaid : Prop := fnExactPatchRow.holds Try.pinned (OpenSpec.ofChange fnExactPatchSpec)

/-- ITS FALSE NEIGHBOUR: 'it returns false'. Refute it at one input. -/
def fnExactPatchWrong : ChangeSpec := { name := "fnExactPatch", fn := fun _ => fun
  | [d1, d2] => { results := [.lit (.bool false)], args := [d1, d2] }
  | _ => none }
def FnExactPatchWrongFalsely : Prop := fnExactPatchRow.holds Try.pinned (OpenSpec.ofChange fnExactPatchWrong)

/- THE SECOND FORM. 'bulk': how many values and letters a reading holds, each counted each time it is reached (what is shared counts as often as it is met; a slice's spare places count too). A statement '..UptoSaid' is the law's where the arguments, and the package variables that the reading takes, are together of bulk at most 1048576: NARROWER than '..Said'. Prove '..Said' where nothing that the law and all that it calls make is longer than what came in: it says more and counts as full. Else prove '..UptoSaid'. A law counts once. -/
mutual
def uptoBulk {H : Type} : DataW H → Nat
  | .lit (.string bytes) => bytes.length + 1
  | .lit _ => 1
  | .nil => 1
  | .ptr d => uptoBulk d + 1
  | .slice elems spare => uptoBulkAll elems + uptoBulkAll spare + 1
  | .agg parts => uptoBulkAll parts + 1
  | .iface _ d => uptoBulk d + 1
  | .map entries => uptoBulkEntries entries + 1
  | .held _ => 1
def uptoBulkAll {H : Type} : List (DataW H) → Nat
  | [] => 0
  | d :: r => uptoBulk d + uptoBulkAll r
def uptoBulkEntries {H : Type} : List (Lit × DataW H) → Nat
  | [] => 0
  | x :: r => uptoBulkEntry x + uptoBulkEntries r
def uptoBulkEntry {H : Type} : Lit × DataW H → Nat
  | (.string bytes, d) => bytes.length + uptoBulk d + 1
  | (_, d) => uptoBulk d + 1
 end
def uptoSmall : (H : Type) → List (DataW H) → Bool := fun _ ds => decide (uptoBulkAll ds ≤ 1048576)
def OpenSpec.upto (s : _root_.Go.ChangeSpec) : _root_.Go.OpenSpec := { _root_.Go.OpenSpec.ofChange s with cond := some uptoSmall }

/-- 'laws.FnExactDropIdle', WHERE WHAT IT READS IS OF BULK AT MOST 1048576: true; the input reads as it did. -/
def fnExactDropIdleUptoRow : OpenClaim := { program := "ytdapeboajjidmaa", sum := "565eb177d1c8222af4bba26bc1fd01067c4fb32fe01cb6cc2e7f0b2d65c0daa2", func := "loop.example/g01618/laws.FnExactDropIdle", spec := "fnExactDropIdle", inPlace := ["slices.overlaps[loop.example/g01618/impl.Node]"], apart := false, narrowed := true }
def FnExactDropIdleUptoSaid : Prop := fnExactDropIdleUptoRow.holds Try.pinned (OpenSpec.upto fnExactDropIdleSpec)

/-- 'laws.FnExactHistAt', WHERE WHAT IT READS IS OF BULK AT MOST 1048576: true; the input reads as it did. -/
def fnExactHistAtUptoRow : OpenClaim := { program := "ytdapeboajjidmaa", sum := "565eb177d1c8222af4bba26bc1fd01067c4fb32fe01cb6cc2e7f0b2d65c0daa2", func := "loop.example/g01618/laws.FnExactHistAt", spec := "fnExactHistAt", inPlace := ["slices.overlaps[loop.example/g01618/impl.Node]"], unfollowed := true, recurses := true, apart := false, narrowed := true }
def FnExactHistAtUptoSaid : Prop := fnExactHistAtUptoRow.holds Try.pinned (OpenSpec.upto fnExactHistAtSpec)

/-- 'laws.FnExactInvert', WHERE WHAT IT READS IS OF BULK AT MOST 1048576: true; the input reads as it did. -/
def fnExactInvertUptoRow : OpenClaim := { program := "ytdapeboajjidmaa", sum := "565eb177d1c8222af4bba26bc1fd01067c4fb32fe01cb6cc2e7f0b2d65c0daa2", func := "loop.example/g01618/laws.FnExactInvert", spec := "fnExactInvert", inPlace := ["slices.overlaps[loop.example/g01618/impl.Node]"], apart := false, narrowed := true }
def FnExactInvertUptoSaid : Prop := fnExactInvertUptoRow.holds Try.pinned (OpenSpec.upto fnExactInvertSpec)

/-- 'laws.FnExactJoined', WHERE WHAT IT READS IS OF BULK AT MOST 1048576: true; the input reads as it did. -/
def fnExactJoinedUptoRow : OpenClaim := { program := "ytdapeboajjidmaa", sum := "565eb177d1c8222af4bba26bc1fd01067c4fb32fe01cb6cc2e7f0b2d65c0daa2", func := "loop.example/g01618/laws.FnExactJoined", spec := "fnExactJoined", apart := false, narrowed := true }
def FnExactJoinedUptoSaid : Prop := fnExactJoinedUptoRow.holds Try.pinned (OpenSpec.upto fnExactJoinedSpec)

/-- 'laws.FnJoined', WHERE WHAT IT READS IS OF BULK AT MOST 1048576: true; the input reads as it did. -/
def fnJoinedUptoRow : OpenClaim := { program := "ytdapeboajjidmaa", sum := "565eb177d1c8222af4bba26bc1fd01067c4fb32fe01cb6cc2e7f0b2d65c0daa2", func := "loop.example/g01618/laws.FnJoined", spec := "fnJoined", inPlace := ["slices.overlaps[loop.example/g01618/impl.Node]"], unfollowed := true, recurses := true, apart := false, narrowed := true }
def FnJoinedUptoSaid : Prop := fnJoinedUptoRow.holds Try.pinned (OpenSpec.upto fnJoinedSpec)

/-- 'laws.FnExactPatch', WHERE WHAT IT READS IS OF BULK AT MOST 1048576: true; the input reads as it did. -/
def fnExactPatchUptoRow : OpenClaim := { program := "ytdapeboajjidmaa", sum := "565eb177d1c8222af4bba26bc1fd01067c4fb32fe01cb6cc2e7f0b2d65c0daa2", func := "loop.example/g01618/laws.FnExactPatch", spec := "fnExactPatch", inPlace := ["slices.overlaps[loop.example/g01618/impl.Node]"], apart := false, narrowed := true }
def FnExactPatchUptoSaid : Prop := fnExactPatchUptoRow.holds Try.pinned (OpenSpec.upto fnExactPatchSpec)

end Rows
end Go.Proofs.Ytdapeboajjidmaa
