/-
  No cell of these rows narrows 'for every input' (looked for: loops, veiled, ifaces, maps, wideKeys, modest, calm, conditions, laid).
  DERIVED. THE GIVEN ROWS OF THIS SEAT. 12 by the template 'for every input the law returns true; each argument reads behind the call as it read before'; 0 by the template 'total and deterministic' (their statements: YtgpafelepkhdoaaTotals.lean).
  GIVEN WITH THE SEED: the statements are not yours to turn. If you find one false, say at which input.
  Laid BY PROGRAM, IN A SANDBOX (cutbox-rows.mjs): the forced cells as the released guide's own fill.sh prints them over the translation 0171e5bc86a649ad… (all of the seat's roots in one cut). By AI agents, Wed Nov 11 2026. No macro, syntax, notation, axiom, sorry.
-/
import Derived.Test.YtgpafelepkhdoaaChecked
import GoSem.Claim
import GoSem.ClaimJoined
import GoSem.ClaimMapViews
import Derived.JoinedTies
import Derived.KernelRfl
namespace Go.Proofs.Ytgpafelepkhdoaa
/- THE CELL 'sum', in the pinned program and in every row, IS THE sha256 OF THE DUMP (.gsa) THAT YtgpafelepkhdoaaProg.lean LOADS. Nothing in Lean hashes anything: it is a label: what it is worth is what the hold of that sum in a sandbox is worth. -/
noncomputable def Try.pinned : Pinned := { name := "ytgpafelepkhdoaa", sum := "0171e5bc86a649adde464b8589b1b985b21ed0d10ed1fc011349c1f0201efcc8", checked := Try.checked }
namespace Rows
def none {H : Type} : Left H := { results := [], args := [] }

/-- 'laws.FnVotes': WHATEVER THE INPUT: true; the input reads as it did. -/
def fnVotesSpec : ChangeSpec := { name := "fnVotes", fn := fun _ => fun
  | [d] => { results := [.lit (.bool true)], args := [d] }
  | _ => none }
def fnVotesRow : OpenClaim := { program := "ytgpafelepkhdoaa", sum := "0171e5bc86a649adde464b8589b1b985b21ed0d10ed1fc011349c1f0201efcc8", func := "loop.example/g00103/laws.FnVotes", spec := "fnVotes", apart := false }
def FnVotesSaid : Prop := fnVotesRow.holds Try.pinned (OpenSpec.ofChange fnVotesSpec)

/-- ITS FALSE NEIGHBOUR: 'it returns false'. Refute it at one input. -/
def fnVotesWrong : ChangeSpec := { name := "fnVotes", fn := fun _ => fun
  | [d] => { results := [.lit (.bool false)], args := [d] }
  | _ => none }
def FnVotesWrongFalsely : Prop := fnVotesRow.holds Try.pinned (OpenSpec.ofChange fnVotesWrong)

/-- 'laws.FnExactReadCommand': WHATEVER THE INPUT: true; the input reads as it did. -/
def fnExactReadCommandSpec : ChangeSpec := { name := "fnExactReadCommand", fn := fun _ => fun
  | [d] => { results := [.lit (.bool true)], args := [d] }
  | _ => none }
def fnExactReadCommandRow : OpenClaim := { program := "ytgpafelepkhdoaa", sum := "0171e5bc86a649adde464b8589b1b985b21ed0d10ed1fc011349c1f0201efcc8", func := "loop.example/g00103/laws.FnExactReadCommand", spec := "fnExactReadCommand", apart := false }
def FnExactReadCommandSaid : Prop := fnExactReadCommandRow.holds Try.pinned (OpenSpec.ofChange fnExactReadCommandSpec)

/-- ITS FALSE NEIGHBOUR: 'it returns false'. Refute it at one input. -/
def fnExactReadCommandWrong : ChangeSpec := { name := "fnExactReadCommand", fn := fun _ => fun
  | [d] => { results := [.lit (.bool false)], args := [d] }
  | _ => none }
def FnExactReadCommandWrongFalsely : Prop := fnExactReadCommandRow.holds Try.pinned (OpenSpec.ofChange fnExactReadCommandWrong)

/-- 'laws.FnExactReadEntry': WHATEVER THE INPUT: true; the input reads as it did. -/
def fnExactReadEntrySpec : ChangeSpec := { name := "fnExactReadEntry", fn := fun _ => fun
  | [d] => { results := [.lit (.bool true)], args := [d] }
  | _ => none }
def fnExactReadEntryRow : OpenClaim := { program := "ytgpafelepkhdoaa", sum := "0171e5bc86a649adde464b8589b1b985b21ed0d10ed1fc011349c1f0201efcc8", func := "loop.example/g00103/laws.FnExactReadEntry", spec := "fnExactReadEntry", apart := false }
def FnExactReadEntrySaid : Prop := fnExactReadEntryRow.holds Try.pinned (OpenSpec.ofChange fnExactReadEntrySpec)

/-- ITS FALSE NEIGHBOUR: 'it returns false'. Refute it at one input. -/
def fnExactReadEntryWrong : ChangeSpec := { name := "fnExactReadEntry", fn := fun _ => fun
  | [d] => { results := [.lit (.bool false)], args := [d] }
  | _ => none }
def FnExactReadEntryWrongFalsely : Prop := fnExactReadEntryRow.holds Try.pinned (OpenSpec.ofChange fnExactReadEntryWrong)

/-- 'laws.FnCommands': WHATEVER THE INPUT: true; the input reads as it did. -/
def fnCommandsSpec : ChangeSpec := { name := "fnCommands", fn := fun _ => fun
  | [d] => { results := [.lit (.bool true)], args := [d] }
  | _ => none }
def fnCommandsRow : OpenClaim := { program := "ytgpafelepkhdoaa", sum := "0171e5bc86a649adde464b8589b1b985b21ed0d10ed1fc011349c1f0201efcc8", func := "loop.example/g00103/laws.FnCommands", spec := "fnCommands", apart := false }
def FnCommandsSaid : Prop := fnCommandsRow.holds Try.pinned (OpenSpec.ofChange fnCommandsSpec)

/-- ITS FALSE NEIGHBOUR: 'it returns false'. Refute it at one input. -/
def fnCommandsWrong : ChangeSpec := { name := "fnCommands", fn := fun _ => fun
  | [d] => { results := [.lit (.bool false)], args := [d] }
  | _ => none }
def FnCommandsWrongFalsely : Prop := fnCommandsRow.holds Try.pinned (OpenSpec.ofChange fnCommandsWrong)

/-- 'laws.FnExactMessageOk': WHATEVER THE INPUT: true; the input reads as it did. -/
def fnExactMessageOkSpec : ChangeSpec := { name := "fnExactMessageOk", fn := fun _ => fun
  | [d] => { results := [.lit (.bool true)], args := [d] }
  | _ => none }
def fnExactMessageOkRow : OpenClaim := { program := "ytgpafelepkhdoaa", sum := "0171e5bc86a649adde464b8589b1b985b21ed0d10ed1fc011349c1f0201efcc8", func := "loop.example/g00103/laws.FnExactMessageOk", spec := "fnExactMessageOk", apart := false }
def FnExactMessageOkSaid : Prop := fnExactMessageOkRow.holds Try.pinned (OpenSpec.ofChange fnExactMessageOkSpec)

/-- ITS FALSE NEIGHBOUR: 'it returns false'. Refute it at one input. -/
def fnExactMessageOkWrong : ChangeSpec := { name := "fnExactMessageOk", fn := fun _ => fun
  | [d] => { results := [.lit (.bool false)], args := [d] }
  | _ => none }
def FnExactMessageOkWrongFalsely : Prop := fnExactMessageOkRow.holds Try.pinned (OpenSpec.ofChange fnExactMessageOkWrong)

/-- 'laws.FnExactLogBehind': WHATEVER THE INPUT: true; the input reads as it did. -/
def fnExactLogBehindSpec : ChangeSpec := { name := "fnExactLogBehind", fn := fun _ => fun
  | [d1, d2, d3] => { results := [.lit (.bool true)], args := [d1, d2, d3] }
  | _ => none }
def fnExactLogBehindRow : OpenClaim := { program := "ytgpafelepkhdoaa", sum := "0171e5bc86a649adde464b8589b1b985b21ed0d10ed1fc011349c1f0201efcc8", func := "loop.example/g00103/laws.FnExactLogBehind", spec := "fnExactLogBehind", apart := false }
def FnExactLogBehindSaid : Prop := fnExactLogBehindRow.holds Try.pinned (OpenSpec.ofChange fnExactLogBehindSpec)

/-- ITS FALSE NEIGHBOUR: 'it returns false'. Refute it at one input. -/
def fnExactLogBehindWrong : ChangeSpec := { name := "fnExactLogBehind", fn := fun _ => fun
  | [d1, d2, d3] => { results := [.lit (.bool false)], args := [d1, d2, d3] }
  | _ => none }
def FnExactLogBehindWrongFalsely : Prop := fnExactLogBehindRow.holds Try.pinned (OpenSpec.ofChange fnExactLogBehindWrong)

/-- 'laws.FnExactReadHint': WHATEVER THE INPUT: true; the input reads as it did. -/
def fnExactReadHintSpec : ChangeSpec := { name := "fnExactReadHint", fn := fun _ => fun
  | [d] => { results := [.lit (.bool true)], args := [d] }
  | _ => none }
def fnExactReadHintRow : OpenClaim := { program := "ytgpafelepkhdoaa", sum := "0171e5bc86a649adde464b8589b1b985b21ed0d10ed1fc011349c1f0201efcc8", func := "loop.example/g00103/laws.FnExactReadHint", spec := "fnExactReadHint", unfollowed := true, recurses := true, apart := false }
def FnExactReadHintSaid : Prop := fnExactReadHintRow.holds Try.pinned (OpenSpec.ofChange fnExactReadHintSpec)

/-- ITS FALSE NEIGHBOUR: 'it returns false'. Refute it at one input. -/
def fnExactReadHintWrong : ChangeSpec := { name := "fnExactReadHint", fn := fun _ => fun
  | [d] => { results := [.lit (.bool false)], args := [d] }
  | _ => none }
def FnExactReadHintWrongFalsely : Prop := fnExactReadHintRow.holds Try.pinned (OpenSpec.ofChange fnExactReadHintWrong)

/-- 'laws.FnExactLogFile': WHATEVER THE INPUT: true; the input reads as it did. -/
def fnExactLogFileSpec : ChangeSpec := { name := "fnExactLogFile", fn := fun _ => fun
  | [d] => { results := [.lit (.bool true)], args := [d] }
  | _ => none }
def fnExactLogFileRow : OpenClaim := { program := "ytgpafelepkhdoaa", sum := "0171e5bc86a649adde464b8589b1b985b21ed0d10ed1fc011349c1f0201efcc8", func := "loop.example/g00103/laws.FnExactLogFile", spec := "fnExactLogFile", apart := false }
def FnExactLogFileSaid : Prop := fnExactLogFileRow.holds Try.pinned (OpenSpec.ofChange fnExactLogFileSpec)

/-- ITS FALSE NEIGHBOUR: 'it returns false'. Refute it at one input. -/
def fnExactLogFileWrong : ChangeSpec := { name := "fnExactLogFile", fn := fun _ => fun
  | [d] => { results := [.lit (.bool false)], args := [d] }
  | _ => none }
def FnExactLogFileWrongFalsely : Prop := fnExactLogFileRow.holds Try.pinned (OpenSpec.ofChange fnExactLogFileWrong)

/-- 'laws.FnExactDirMore': WHATEVER THE INPUT: true; the input reads as it did. -/
def fnExactDirMoreSpec : ChangeSpec := { name := "fnExactDirMore", fn := fun _ => fun
  | [d1, d2] => { results := [.lit (.bool true)], args := [d1, d2] }
  | _ => none }
def fnExactDirMoreRow : OpenClaim := { program := "ytgpafelepkhdoaa", sum := "0171e5bc86a649adde464b8589b1b985b21ed0d10ed1fc011349c1f0201efcc8", func := "loop.example/g00103/laws.FnExactDirMore", spec := "fnExactDirMore", inPlace := ["internal/bytealg.abigen_runtime_cmpstring", "slices.overlaps[loop.example/g00103/impl.Spot]"], unfollowed := true, recurses := true, apart := false }
def FnExactDirMoreSaid : Prop := fnExactDirMoreRow.holds Try.pinned (OpenSpec.ofChange fnExactDirMoreSpec)

/-- ITS FALSE NEIGHBOUR: 'it returns false'. Refute it at one input. -/
def fnExactDirMoreWrong : ChangeSpec := { name := "fnExactDirMore", fn := fun _ => fun
  | [d1, d2] => { results := [.lit (.bool false)], args := [d1, d2] }
  | _ => none }
def FnExactDirMoreWrongFalsely : Prop := fnExactDirMoreRow.holds Try.pinned (OpenSpec.ofChange fnExactDirMoreWrong)

/-- 'laws.FnEntries': WHATEVER THE INPUT: true; the input reads as it did. -/
def fnEntriesSpec : ChangeSpec := { name := "fnEntries", fn := fun _ => fun
  | [d] => { results := [.lit (.bool true)], args := [d] }
  | _ => none }
def fnEntriesRow : OpenClaim := { program := "ytgpafelepkhdoaa", sum := "0171e5bc86a649adde464b8589b1b985b21ed0d10ed1fc011349c1f0201efcc8", func := "loop.example/g00103/laws.FnEntries", spec := "fnEntries", apart := false }
def FnEntriesSaid : Prop := fnEntriesRow.holds Try.pinned (OpenSpec.ofChange fnEntriesSpec)

/-- ITS FALSE NEIGHBOUR: 'it returns false'. Refute it at one input. -/
def fnEntriesWrong : ChangeSpec := { name := "fnEntries", fn := fun _ => fun
  | [d] => { results := [.lit (.bool false)], args := [d] }
  | _ => none }
def FnEntriesWrongFalsely : Prop := fnEntriesRow.holds Try.pinned (OpenSpec.ofChange fnEntriesWrong)

/-- 'laws.FnBehind': WHATEVER THE INPUT: true; the input reads as it did. -/
def fnBehindSpec : ChangeSpec := { name := "fnBehind", fn := fun _ => fun
  | [d] => { results := [.lit (.bool true)], args := [d] }
  | _ => none }
def fnBehindRow : OpenClaim := { program := "ytgpafelepkhdoaa", sum := "0171e5bc86a649adde464b8589b1b985b21ed0d10ed1fc011349c1f0201efcc8", func := "loop.example/g00103/laws.FnBehind", spec := "fnBehind", apart := false }
def FnBehindSaid : Prop := fnBehindRow.holds Try.pinned (OpenSpec.ofChange fnBehindSpec)

/-- ITS FALSE NEIGHBOUR: 'it returns false'. Refute it at one input. -/
def fnBehindWrong : ChangeSpec := { name := "fnBehind", fn := fun _ => fun
  | [d] => { results := [.lit (.bool false)], args := [d] }
  | _ => none }
def FnBehindWrongFalsely : Prop := fnBehindRow.holds Try.pinned (OpenSpec.ofChange fnBehindWrong)

/-- 'laws.FnExactEncode': WHATEVER THE INPUT: true; the input reads as it did. -/
def fnExactEncodeSpec : ChangeSpec := { name := "fnExactEncode", fn := fun _ => fun
  | [d] => { results := [.lit (.bool true)], args := [d] }
  | _ => none }
def fnExactEncodeRow : OpenClaim := { program := "ytgpafelepkhdoaa", sum := "0171e5bc86a649adde464b8589b1b985b21ed0d10ed1fc011349c1f0201efcc8", func := "loop.example/g00103/laws.FnExactEncode", spec := "fnExactEncode", apart := false }
def FnExactEncodeSaid : Prop := fnExactEncodeRow.holds Try.pinned (OpenSpec.ofChange fnExactEncodeSpec)

/-- ITS FALSE NEIGHBOUR: 'it returns false'. Refute it at one input. -/
def fnExactEncodeWrong : ChangeSpec := { name := "fnExactEncode", fn := fun _ => fun
  | [d] => { results := [.lit (.bool false)], args := [d] }
  | _ => none }
def FnExactEncodeWrongFalsely : Prop := fnExactEncodeRow.holds Try.pinned (OpenSpec.ofChange fnExactEncodeWrong)

/- THE SECOND FORM. 'bulk': how many values and letters a reading holds, each counted each time it is reached (what is shared counts as often as it is met; a slice's spare places count too). A statement '..UptoSaid' is the law's where the arguments, and the package variables that the reading takes, are together of bulk at most 1048576: NARROWER than '..Said'. Prove '..Said' where nothing that the law and all that it calls make is longer than what came in: it says more and counts as full. Else prove '..UptoSaid'. A law counts once. -/
mutual
def uptoBulk {H : Type} : DataW H → Nat
  | .lit (.string bytes) => bytes.length + 1
  | .lit _ => 1
  | .nil => 1
  | .ptr d => uptoBulk d + 1
  | .slice elems spare => uptoBulkAll elems + uptoBulkAll spare + 1
  | .agg parts => uptoBulkAll parts + 1
  | .iface _ d => uptoBulk d + 1
  | .map entries => uptoBulkEntries entries + 1
  | .held _ => 1
def uptoBulkAll {H : Type} : List (DataW H) → Nat
  | [] => 0
  | d :: r => uptoBulk d + uptoBulkAll r
def uptoBulkEntries {H : Type} : List (Lit × DataW H) → Nat
  | [] => 0
  | x :: r => uptoBulkEntry x + uptoBulkEntries r
def uptoBulkEntry {H : Type} : Lit × DataW H → Nat
  | (.string bytes, d) => bytes.length + uptoBulk d + 1
  | (_, d) => uptoBulk d + 1
 end
def uptoSmall : (H : Type) → List (DataW H) → Bool := fun _ ds => decide (uptoBulkAll ds ≤ 1048576)
def OpenSpec.upto (s : _root_.Go.ChangeSpec) : _root_.Go.OpenSpec := { _root_.Go.OpenSpec.ofChange s with cond := some uptoSmall }

/-- 'laws.FnVotes', WHERE WHAT IT READS IS OF BULK AT MOST 1048576: true; the input reads as it did. -/
def fnVotesUptoRow : OpenClaim := { program := "ytgpafelepkhdoaa", sum := "0171e5bc86a649adde464b8589b1b985b21ed0d10ed1fc011349c1f0201efcc8", func := "loop.example/g00103/laws.FnVotes", spec := "fnVotes", apart := false, narrowed := true }
def FnVotesUptoSaid : Prop := fnVotesUptoRow.holds Try.pinned (OpenSpec.upto fnVotesSpec)

/-- 'laws.FnExactReadCommand', WHERE WHAT IT READS IS OF BULK AT MOST 1048576: true; the input reads as it did. -/
def fnExactReadCommandUptoRow : OpenClaim := { program := "ytgpafelepkhdoaa", sum := "0171e5bc86a649adde464b8589b1b985b21ed0d10ed1fc011349c1f0201efcc8", func := "loop.example/g00103/laws.FnExactReadCommand", spec := "fnExactReadCommand", apart := false, narrowed := true }
def FnExactReadCommandUptoSaid : Prop := fnExactReadCommandUptoRow.holds Try.pinned (OpenSpec.upto fnExactReadCommandSpec)

/-- 'laws.FnExactReadEntry', WHERE WHAT IT READS IS OF BULK AT MOST 1048576: true; the input reads as it did. -/
def fnExactReadEntryUptoRow : OpenClaim := { program := "ytgpafelepkhdoaa", sum := "0171e5bc86a649adde464b8589b1b985b21ed0d10ed1fc011349c1f0201efcc8", func := "loop.example/g00103/laws.FnExactReadEntry", spec := "fnExactReadEntry", apart := false, narrowed := true }
def FnExactReadEntryUptoSaid : Prop := fnExactReadEntryUptoRow.holds Try.pinned (OpenSpec.upto fnExactReadEntrySpec)

/-- 'laws.FnCommands', WHERE WHAT IT READS IS OF BULK AT MOST 1048576: true; the input reads as it did. -/
def fnCommandsUptoRow : OpenClaim := { program := "ytgpafelepkhdoaa", sum := "0171e5bc86a649adde464b8589b1b985b21ed0d10ed1fc011349c1f0201efcc8", func := "loop.example/g00103/laws.FnCommands", spec := "fnCommands", apart := false, narrowed := true }
def FnCommandsUptoSaid : Prop := fnCommandsUptoRow.holds Try.pinned (OpenSpec.upto fnCommandsSpec)

/-- 'laws.FnExactMessageOk', WHERE WHAT IT READS IS OF BULK AT MOST 1048576: true; the input reads as it did. -/
def fnExactMessageOkUptoRow : OpenClaim := { program := "ytgpafelepkhdoaa", sum := "0171e5bc86a649adde464b8589b1b985b21ed0d10ed1fc011349c1f0201efcc8", func := "loop.example/g00103/laws.FnExactMessageOk", spec := "fnExactMessageOk", apart := false, narrowed := true }
def FnExactMessageOkUptoSaid : Prop := fnExactMessageOkUptoRow.holds Try.pinned (OpenSpec.upto fnExactMessageOkSpec)

/-- 'laws.FnExactLogBehind', WHERE WHAT IT READS IS OF BULK AT MOST 1048576: true; the input reads as it did. -/
def fnExactLogBehindUptoRow : OpenClaim := { program := "ytgpafelepkhdoaa", sum := "0171e5bc86a649adde464b8589b1b985b21ed0d10ed1fc011349c1f0201efcc8", func := "loop.example/g00103/laws.FnExactLogBehind", spec := "fnExactLogBehind", apart := false, narrowed := true }
def FnExactLogBehindUptoSaid : Prop := fnExactLogBehindUptoRow.holds Try.pinned (OpenSpec.upto fnExactLogBehindSpec)

/-- 'laws.FnExactReadHint', WHERE WHAT IT READS IS OF BULK AT MOST 1048576: true; the input reads as it did. -/
def fnExactReadHintUptoRow : OpenClaim := { program := "ytgpafelepkhdoaa", sum := "0171e5bc86a649adde464b8589b1b985b21ed0d10ed1fc011349c1f0201efcc8", func := "loop.example/g00103/laws.FnExactReadHint", spec := "fnExactReadHint", unfollowed := true, recurses := true, apart := false, narrowed := true }
def FnExactReadHintUptoSaid : Prop := fnExactReadHintUptoRow.holds Try.pinned (OpenSpec.upto fnExactReadHintSpec)

/-- 'laws.FnExactLogFile', WHERE WHAT IT READS IS OF BULK AT MOST 1048576: true; the input reads as it did. -/
def fnExactLogFileUptoRow : OpenClaim := { program := "ytgpafelepkhdoaa", sum := "0171e5bc86a649adde464b8589b1b985b21ed0d10ed1fc011349c1f0201efcc8", func := "loop.example/g00103/laws.FnExactLogFile", spec := "fnExactLogFile", apart := false, narrowed := true }
def FnExactLogFileUptoSaid : Prop := fnExactLogFileUptoRow.holds Try.pinned (OpenSpec.upto fnExactLogFileSpec)

/-- 'laws.FnExactDirMore', WHERE WHAT IT READS IS OF BULK AT MOST 1048576: true; the input reads as it did. -/
def fnExactDirMoreUptoRow : OpenClaim := { program := "ytgpafelepkhdoaa", sum := "0171e5bc86a649adde464b8589b1b985b21ed0d10ed1fc011349c1f0201efcc8", func := "loop.example/g00103/laws.FnExactDirMore", spec := "fnExactDirMore", inPlace := ["internal/bytealg.abigen_runtime_cmpstring", "slices.overlaps[loop.example/g00103/impl.Spot]"], unfollowed := true, recurses := true, apart := false, narrowed := true }
def FnExactDirMoreUptoSaid : Prop := fnExactDirMoreUptoRow.holds Try.pinned (OpenSpec.upto fnExactDirMoreSpec)

/-- 'laws.FnEntries', WHERE WHAT IT READS IS OF BULK AT MOST 1048576: true; the input reads as it did. -/
def fnEntriesUptoRow : OpenClaim := { program := "ytgpafelepkhdoaa", sum := "0171e5bc86a649adde464b8589b1b985b21ed0d10ed1fc011349c1f0201efcc8", func := "loop.example/g00103/laws.FnEntries", spec := "fnEntries", apart := false, narrowed := true }
def FnEntriesUptoSaid : Prop := fnEntriesUptoRow.holds Try.pinned (OpenSpec.upto fnEntriesSpec)

/-- 'laws.FnBehind', WHERE WHAT IT READS IS OF BULK AT MOST 1048576: true; the input reads as it did. -/
def fnBehindUptoRow : OpenClaim := { program := "ytgpafelepkhdoaa", sum := "0171e5bc86a649adde464b8589b1b985b21ed0d10ed1fc011349c1f0201efcc8", func := "loop.example/g00103/laws.FnBehind", spec := "fnBehind", apart := false, narrowed := true }
def FnBehindUptoSaid : Prop := fnBehindUptoRow.holds Try.pinned (OpenSpec.upto fnBehindSpec)

/-- 'laws.FnExactEncode', WHERE WHAT IT READS IS OF BULK AT MOST 1048576: true; the input reads as it did. -/
def fnExactEncodeUptoRow : OpenClaim := { program := "ytgpafelepkhdoaa", sum := "0171e5bc86a649adde464b8589b1b985b21ed0d10ed1fc011349c1f0201efcc8", func := "loop.example/g00103/laws.FnExactEncode", spec := "fnExactEncode", apart := false, narrowed := true }
def FnExactEncodeUptoSaid : Prop := fnExactEncodeUptoRow.holds Try.pinned (OpenSpec.upto fnExactEncodeSpec)

end Rows
end Go.Proofs.Ytgpafelepkhdoaa
