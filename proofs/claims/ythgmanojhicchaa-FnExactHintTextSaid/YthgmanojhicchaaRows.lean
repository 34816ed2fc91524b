/-
  No cell of these rows narrows 'for every input' (looked for: loops, veiled, ifaces, maps, wideKeys, modest, calm, conditions, laid).
  DERIVED. THE GIVEN ROWS OF THIS SEAT. 12 by the template 'for every input the law returns true; each argument reads behind the call as it read before'; 0 by the template 'total and deterministic' (their statements: YthgmanojhicchaaTotals.lean).
  GIVEN WITH THE SEED: the statements are not yours to turn. If you find one false, say at which input.
  Laid BY PROGRAM, IN A SANDBOX (cutbox-rows.mjs): the forced cells as the released guide's own fill.sh prints them over the translation 94f9ea80f75b3061… (all of the seat's roots in one cut). By AI agents, Wed Nov 11 2026. No macro, syntax, notation, axiom, sorry.
-/
import Derived.Test.YthgmanojhicchaaChecked
import GoSem.Claim
import GoSem.ClaimJoined
import GoSem.ClaimMapViews
import Derived.JoinedTies
import Derived.KernelRfl
namespace Go.Proofs.Ythgmanojhicchaa
/- THE CELL 'sum', in the pinned program and in every row, IS THE sha256 OF THE DUMP (.gsa) THAT YthgmanojhicchaaProg.lean LOADS. Nothing in Lean hashes anything: it is a label: what it is worth is what the hold of that sum in a sandbox is worth. -/
noncomputable def Try.pinned : Pinned := { name := "ythgmanojhicchaa", sum := "94f9ea80f75b3061a1b768f1c4c20b7b6e35c5f68bcd05b6332d783db7e004cb", checked := Try.checked }
namespace Rows
def none {H : Type} : Left H := { results := [], args := [] }

/-- 'laws.FnExactConfText': WHATEVER THE INPUT: true; the input reads as it did. -/
def fnExactConfTextSpec : ChangeSpec := { name := "fnExactConfText", fn := fun _ => fun
  | [d] => { results := [.lit (.bool true)], args := [d] }
  | _ => none }
def fnExactConfTextRow : OpenClaim := { program := "ythgmanojhicchaa", sum := "94f9ea80f75b3061a1b768f1c4c20b7b6e35c5f68bcd05b6332d783db7e004cb", func := "loop.example/g00103/laws.FnExactConfText", spec := "fnExactConfText", apart := false }
def FnExactConfTextSaid : Prop := fnExactConfTextRow.holds Try.pinned (OpenSpec.ofChange fnExactConfTextSpec)

/-- ITS FALSE NEIGHBOUR: 'it returns false'. Refute it at one input. -/
def fnExactConfTextWrong : ChangeSpec := { name := "fnExactConfText", fn := fun _ => fun
  | [d] => { results := [.lit (.bool false)], args := [d] }
  | _ => none }
def FnExactConfTextWrongFalsely : Prop := fnExactConfTextRow.holds Try.pinned (OpenSpec.ofChange fnExactConfTextWrong)

/-- 'laws.FnExactCommandOk': WHATEVER THE INPUT: true; the input reads as it did. -/
def fnExactCommandOkSpec : ChangeSpec := { name := "fnExactCommandOk", fn := fun _ => fun
  | [d] => { results := [.lit (.bool true)], args := [d] }
  | _ => none }
def fnExactCommandOkRow : OpenClaim := { program := "ythgmanojhicchaa", sum := "94f9ea80f75b3061a1b768f1c4c20b7b6e35c5f68bcd05b6332d783db7e004cb", func := "loop.example/g00103/laws.FnExactCommandOk", spec := "fnExactCommandOk", apart := false }
def FnExactCommandOkSaid : Prop := fnExactCommandOkRow.holds Try.pinned (OpenSpec.ofChange fnExactCommandOkSpec)

/-- ITS FALSE NEIGHBOUR: 'it returns false'. Refute it at one input. -/
def fnExactCommandOkWrong : ChangeSpec := { name := "fnExactCommandOk", fn := fun _ => fun
  | [d] => { results := [.lit (.bool false)], args := [d] }
  | _ => none }
def FnExactCommandOkWrongFalsely : Prop := fnExactCommandOkRow.holds Try.pinned (OpenSpec.ofChange fnExactCommandOkWrong)

/-- 'laws.FnExactReadConf': WHATEVER THE INPUT: true; the input reads as it did. -/
def fnExactReadConfSpec : ChangeSpec := { name := "fnExactReadConf", fn := fun _ => fun
  | [d] => { results := [.lit (.bool true)], args := [d] }
  | _ => none }
def fnExactReadConfRow : OpenClaim := { program := "ythgmanojhicchaa", sum := "94f9ea80f75b3061a1b768f1c4c20b7b6e35c5f68bcd05b6332d783db7e004cb", func := "loop.example/g00103/laws.FnExactReadConf", spec := "fnExactReadConf", apart := false }
def FnExactReadConfSaid : Prop := fnExactReadConfRow.holds Try.pinned (OpenSpec.ofChange fnExactReadConfSpec)

/-- ITS FALSE NEIGHBOUR: 'it returns false'. Refute it at one input. -/
def fnExactReadConfWrong : ChangeSpec := { name := "fnExactReadConf", fn := fun _ => fun
  | [d] => { results := [.lit (.bool false)], args := [d] }
  | _ => none }
def FnExactReadConfWrongFalsely : Prop := fnExactReadConfRow.holds Try.pinned (OpenSpec.ofChange fnExactReadConfWrong)

/-- 'laws.FnExactMost': WHATEVER THE INPUT: true; the input reads as it did. -/
def fnExactMostSpec : ChangeSpec := { name := "fnExactMost", fn := fun _ => fun
  | [d1, d2] => { results := [.lit (.bool true)], args := [d1, d2] }
  | _ => none }
def fnExactMostRow : OpenClaim := { program := "ythgmanojhicchaa", sum := "94f9ea80f75b3061a1b768f1c4c20b7b6e35c5f68bcd05b6332d783db7e004cb", func := "loop.example/g00103/laws.FnExactMost", spec := "fnExactMost", apart := false }
def FnExactMostSaid : Prop := fnExactMostRow.holds Try.pinned (OpenSpec.ofChange fnExactMostSpec)

/-- ITS FALSE NEIGHBOUR: 'it returns false'. Refute it at one input. -/
def fnExactMostWrong : ChangeSpec := { name := "fnExactMost", fn := fun _ => fun
  | [d1, d2] => { results := [.lit (.bool false)], args := [d1, d2] }
  | _ => none }
def FnExactMostWrongFalsely : Prop := fnExactMostRow.holds Try.pinned (OpenSpec.ofChange fnExactMostWrong)

/-- 'laws.FnExactEntryOk': WHATEVER THE INPUT: true; the input reads as it did. -/
def fnExactEntryOkSpec : ChangeSpec := { name := "fnExactEntryOk", fn := fun _ => fun
  | [d] => { results := [.lit (.bool true)], args := [d] }
  | _ => none }
def fnExactEntryOkRow : OpenClaim := { program := "ythgmanojhicchaa", sum := "94f9ea80f75b3061a1b768f1c4c20b7b6e35c5f68bcd05b6332d783db7e004cb", func := "loop.example/g00103/laws.FnExactEntryOk", spec := "fnExactEntryOk", apart := false }
def FnExactEntryOkSaid : Prop := fnExactEntryOkRow.holds Try.pinned (OpenSpec.ofChange fnExactEntryOkSpec)

/-- ITS FALSE NEIGHBOUR: 'it returns false'. Refute it at one input. -/
def fnExactEntryOkWrong : ChangeSpec := { name := "fnExactEntryOk", fn := fun _ => fun
  | [d] => { results := [.lit (.bool false)], args := [d] }
  | _ => none }
def FnExactEntryOkWrongFalsely : Prop := fnExactEntryOkRow.holds Try.pinned (OpenSpec.ofChange fnExactEntryOkWrong)

/-- 'laws.FnExactVoteText': WHATEVER THE INPUT: true; the input reads as it did. -/
def fnExactVoteTextSpec : ChangeSpec := { name := "fnExactVoteText", fn := fun _ => fun
  | [d1, d2] => { results := [.lit (.bool true)], args := [d1, d2] }
  | _ => none }
def fnExactVoteTextRow : OpenClaim := { program := "ythgmanojhicchaa", sum := "94f9ea80f75b3061a1b768f1c4c20b7b6e35c5f68bcd05b6332d783db7e004cb", func := "loop.example/g00103/laws.FnExactVoteText", spec := "fnExactVoteText", apart := false }
def FnExactVoteTextSaid : Prop := fnExactVoteTextRow.holds Try.pinned (OpenSpec.ofChange fnExactVoteTextSpec)

/-- ITS FALSE NEIGHBOUR: 'it returns false'. Refute it at one input. -/
def fnExactVoteTextWrong : ChangeSpec := { name := "fnExactVoteText", fn := fun _ => fun
  | [d1, d2] => { results := [.lit (.bool false)], args := [d1, d2] }
  | _ => none }
def FnExactVoteTextWrongFalsely : Prop := fnExactVoteTextRow.holds Try.pinned (OpenSpec.ofChange fnExactVoteTextWrong)

/-- 'laws.FnExactLogLast': WHATEVER THE INPUT: true; the input reads as it did. -/
def fnExactLogLastSpec : ChangeSpec := { name := "fnExactLogLast", fn := fun _ => fun
  | [d] => { results := [.lit (.bool true)], args := [d] }
  | _ => none }
def fnExactLogLastRow : OpenClaim := { program := "ythgmanojhicchaa", sum := "94f9ea80f75b3061a1b768f1c4c20b7b6e35c5f68bcd05b6332d783db7e004cb", func := "loop.example/g00103/laws.FnExactLogLast", spec := "fnExactLogLast", apart := false }
def FnExactLogLastSaid : Prop := fnExactLogLastRow.holds Try.pinned (OpenSpec.ofChange fnExactLogLastSpec)

/-- ITS FALSE NEIGHBOUR: 'it returns false'. Refute it at one input. -/
def fnExactLogLastWrong : ChangeSpec := { name := "fnExactLogLast", fn := fun _ => fun
  | [d] => { results := [.lit (.bool false)], args := [d] }
  | _ => none }
def FnExactLogLastWrongFalsely : Prop := fnExactLogLastRow.holds Try.pinned (OpenSpec.ofChange fnExactLogLastWrong)

/-- 'laws.FnExactLogTerm': WHATEVER THE INPUT: true; the input reads as it did. -/
def fnExactLogTermSpec : ChangeSpec := { name := "fnExactLogTerm", fn := fun _ => fun
  | [d1, d2] => { results := [.lit (.bool true)], args := [d1, d2] }
  | _ => none }
def fnExactLogTermRow : OpenClaim := { program := "ythgmanojhicchaa", sum := "94f9ea80f75b3061a1b768f1c4c20b7b6e35c5f68bcd05b6332d783db7e004cb", func := "loop.example/g00103/laws.FnExactLogTerm", spec := "fnExactLogTerm", apart := false }
def FnExactLogTermSaid : Prop := fnExactLogTermRow.holds Try.pinned (OpenSpec.ofChange fnExactLogTermSpec)

/-- ITS FALSE NEIGHBOUR: 'it returns false'. Refute it at one input. -/
def fnExactLogTermWrong : ChangeSpec := { name := "fnExactLogTerm", fn := fun _ => fun
  | [d1, d2] => { results := [.lit (.bool false)], args := [d1, d2] }
  | _ => none }
def FnExactLogTermWrongFalsely : Prop := fnExactLogTermRow.holds Try.pinned (OpenSpec.ofChange fnExactLogTermWrong)

/-- 'laws.FnExactCommandText': WHATEVER THE INPUT: true; the input reads as it did. -/
def fnExactCommandTextSpec : ChangeSpec := { name := "fnExactCommandText", fn := fun _ => fun
  | [d] => { results := [.lit (.bool true)], args := [d] }
  | _ => none }
def fnExactCommandTextRow : OpenClaim := { program := "ythgmanojhicchaa", sum := "94f9ea80f75b3061a1b768f1c4c20b7b6e35c5f68bcd05b6332d783db7e004cb", func := "loop.example/g00103/laws.FnExactCommandText", spec := "fnExactCommandText", apart := false }
def FnExactCommandTextSaid : Prop := fnExactCommandTextRow.holds Try.pinned (OpenSpec.ofChange fnExactCommandTextSpec)

/-- ITS FALSE NEIGHBOUR: 'it returns false'. Refute it at one input. -/
def fnExactCommandTextWrong : ChangeSpec := { name := "fnExactCommandText", fn := fun _ => fun
  | [d] => { results := [.lit (.bool false)], args := [d] }
  | _ => none }
def FnExactCommandTextWrongFalsely : Prop := fnExactCommandTextRow.holds Try.pinned (OpenSpec.ofChange fnExactCommandTextWrong)

/-- 'laws.FnExactEntryText': WHATEVER THE INPUT: true; the input reads as it did. -/
def fnExactEntryTextSpec : ChangeSpec := { name := "fnExactEntryText", fn := fun _ => fun
  | [d1, d2] => { results := [.lit (.bool true)], args := [d1, d2] }
  | _ => none }
def fnExactEntryTextRow : OpenClaim := { program := "ythgmanojhicchaa", sum := "94f9ea80f75b3061a1b768f1c4c20b7b6e35c5f68bcd05b6332d783db7e004cb", func := "loop.example/g00103/laws.FnExactEntryText", spec := "fnExactEntryText", apart := false }
def FnExactEntryTextSaid : Prop := fnExactEntryTextRow.holds Try.pinned (OpenSpec.ofChange fnExactEntryTextSpec)

/-- ITS FALSE NEIGHBOUR: 'it returns false'. Refute it at one input. -/
def fnExactEntryTextWrong : ChangeSpec := { name := "fnExactEntryText", fn := fun _ => fun
  | [d1, d2] => { results := [.lit (.bool false)], args := [d1, d2] }
  | _ => none }
def FnExactEntryTextWrongFalsely : Prop := fnExactEntryTextRow.holds Try.pinned (OpenSpec.ofChange fnExactEntryTextWrong)

/-- 'laws.FnExactLogOk': WHATEVER THE INPUT: true; the input reads as it did. -/
def fnExactLogOkSpec : ChangeSpec := { name := "fnExactLogOk", fn := fun _ => fun
  | [d] => { results := [.lit (.bool true)], args := [d] }
  | _ => none }
def fnExactLogOkRow : OpenClaim := { program := "ythgmanojhicchaa", sum := "94f9ea80f75b3061a1b768f1c4c20b7b6e35c5f68bcd05b6332d783db7e004cb", func := "loop.example/g00103/laws.FnExactLogOk", spec := "fnExactLogOk", apart := false }
def FnExactLogOkSaid : Prop := fnExactLogOkRow.holds Try.pinned (OpenSpec.ofChange fnExactLogOkSpec)

/-- ITS FALSE NEIGHBOUR: 'it returns false'. Refute it at one input. -/
def fnExactLogOkWrong : ChangeSpec := { name := "fnExactLogOk", fn := fun _ => fun
  | [d] => { results := [.lit (.bool false)], args := [d] }
  | _ => none }
def FnExactLogOkWrongFalsely : Prop := fnExactLogOkRow.holds Try.pinned (OpenSpec.ofChange fnExactLogOkWrong)

/-- 'laws.FnExactHintText': WHATEVER THE INPUT: true; the input reads as it did. -/
def fnExactHintTextSpec : ChangeSpec := { name := "fnExactHintText", fn := fun _ => fun
  | [d] => { results := [.lit (.bool true)], args := [d] }
  | _ => none }
def fnExactHintTextRow : OpenClaim := { program := "ythgmanojhicchaa", sum := "94f9ea80f75b3061a1b768f1c4c20b7b6e35c5f68bcd05b6332d783db7e004cb", func := "loop.example/g00103/laws.FnExactHintText", spec := "fnExactHintText", apart := false }
def FnExactHintTextSaid : Prop := fnExactHintTextRow.holds Try.pinned (OpenSpec.ofChange fnExactHintTextSpec)

/-- ITS FALSE NEIGHBOUR: 'it returns false'. Refute it at one input. -/
def fnExactHintTextWrong : ChangeSpec := { name := "fnExactHintText", fn := fun _ => fun
  | [d] => { results := [.lit (.bool false)], args := [d] }
  | _ => none }
def FnExactHintTextWrongFalsely : Prop := fnExactHintTextRow.holds Try.pinned (OpenSpec.ofChange fnExactHintTextWrong)

/- THE SECOND FORM. 'bulk': how many values and letters a reading holds, each counted each time it is reached (what is shared counts as often as it is met; a slice's spare places count too). A statement '..UptoSaid' is the law's where the arguments, and the package variables that the reading takes, are together of bulk at most 1048576: NARROWER than '..Said'. Prove '..Said' where nothing that the law and all that it calls make is longer than what came in: it says more and counts as full. Else prove '..UptoSaid'. A law counts once. -/
mutual
def uptoBulk {H : Type} : DataW H → Nat
  | .lit (.string bytes) => bytes.length + 1
  | .lit _ => 1
  | .nil => 1
  | .ptr d => uptoBulk d + 1
  | .slice elems spare => uptoBulkAll elems + uptoBulkAll spare + 1
  | .agg parts => uptoBulkAll parts + 1
  | .iface _ d => uptoBulk d + 1
  | .map entries => uptoBulkEntries entries + 1
  | .held _ => 1
def uptoBulkAll {H : Type} : List (DataW H) → Nat
  | [] => 0
  | d :: r => uptoBulk d + uptoBulkAll r
def uptoBulkEntries {H : Type} : List (Lit × DataW H) → Nat
  | [] => 0
  | x :: r => uptoBulkEntry x + uptoBulkEntries r
def uptoBulkEntry {H : Type} : Lit × DataW H → Nat
  | (.string bytes, d) => bytes.length + uptoBulk d + 1
  | (_, d) => uptoBulk d + 1
 end
def uptoSmall : (H : Type) → List (DataW H) → Bool := fun _ ds => decide (uptoBulkAll ds ≤ 1048576)
def OpenSpec.upto (s : _root_.Go.ChangeSpec) : _root_.Go.OpenSpec := { _root_.Go.OpenSpec.ofChange s with cond := some uptoSmall }

/-- 'laws.FnExactConfText', WHERE WHAT IT READS IS OF BULK AT MOST 1048576: true; the input reads as it did. -/
def fnExactConfTextUptoRow : OpenClaim := { program := "ythgmanojhicchaa", sum := "94f9ea80f75b3061a1b768f1c4c20b7b6e35c5f68bcd05b6332d783db7e004cb", func := "loop.example/g00103/laws.FnExactConfText", spec := "fnExactConfText", apart := false, narrowed := true }
def FnExactConfTextUptoSaid : Prop := fnExactConfTextUptoRow.holds Try.pinned (OpenSpec.upto fnExactConfTextSpec)

/-- 'laws.FnExactCommandOk', WHERE WHAT IT READS IS OF BULK AT MOST 1048576: true; the input reads as it did. -/
def fnExactCommandOkUptoRow : OpenClaim := { program := "ythgmanojhicchaa", sum := "94f9ea80f75b3061a1b768f1c4c20b7b6e35c5f68bcd05b6332d783db7e004cb", func := "loop.example/g00103/laws.FnExactCommandOk", spec := "fnExactCommandOk", apart := false, narrowed := true }
def FnExactCommandOkUptoSaid : Prop := fnExactCommandOkUptoRow.holds Try.pinned (OpenSpec.upto fnExactCommandOkSpec)

/-- 'laws.FnExactReadConf', WHERE WHAT IT READS IS OF BULK AT MOST 1048576: true; the input reads as it did. -/
def fnExactReadConfUptoRow : OpenClaim := { program := "ythgmanojhicchaa", sum := "94f9ea80f75b3061a1b768f1c4c20b7b6e35c5f68bcd05b6332d783db7e004cb", func := "loop.example/g00103/laws.FnExactReadConf", spec := "fnExactReadConf", apart := false, narrowed := true }
def FnExactReadConfUptoSaid : Prop := fnExactReadConfUptoRow.holds Try.pinned (OpenSpec.upto fnExactReadConfSpec)

/-- 'laws.FnExactMost', WHERE WHAT IT READS IS OF BULK AT MOST 1048576: true; the input reads as it did. -/
def fnExactMostUptoRow : OpenClaim := { program := "ythgmanojhicchaa", sum := "94f9ea80f75b3061a1b768f1c4c20b7b6e35c5f68bcd05b6332d783db7e004cb", func := "loop.example/g00103/laws.FnExactMost", spec := "fnExactMost", apart := false, narrowed := true }
def FnExactMostUptoSaid : Prop := fnExactMostUptoRow.holds Try.pinned (OpenSpec.upto fnExactMostSpec)

/-- 'laws.FnExactEntryOk', WHERE WHAT IT READS IS OF BULK AT MOST 1048576: true; the input reads as it did. -/
def fnExactEntryOkUptoRow : OpenClaim := { program := "ythgmanojhicchaa", sum := "94f9ea80f75b3061a1b768f1c4c20b7b6e35c5f68bcd05b6332d783db7e004cb", func := "loop.example/g00103/laws.FnExactEntryOk", spec := "fnExactEntryOk", apart := false, narrowed := true }
def FnExactEntryOkUptoSaid : Prop := fnExactEntryOkUptoRow.holds Try.pinned (OpenSpec.upto fnExactEntryOkSpec)

/-- 'laws.FnExactVoteText', WHERE WHAT IT READS IS OF BULK AT MOST 1048576: true; the input reads as it did. -/
def fnExactVoteTextUptoRow : OpenClaim := { program := "ythgmanojhicchaa", sum := "94f9ea80f75b3061a1b768f1c4c20b7b6e35c5f68bcd05b6332d783db7e004cb", func := "loop.example/g00103/laws.FnExactVoteText", spec := "fnExactVoteText", apart := false, narrowed := true }
def FnExactVoteTextUptoSaid : Prop := fnExactVoteTextUptoRow.holds Try.pinned (OpenSpec.upto fnExactVoteTextSpec)

/-- 'laws.FnExactLogLast', WHERE WHAT IT READS IS OF BULK AT MOST 1048576: true; the input reads as it did. -/
def fnExactLogLastUptoRow : OpenClaim := { program := "ythgmanojhicchaa", sum := "94f9ea80f75b3061a1b768f1c4c20b7b6e35c5f68bcd05b6332d783db7e004cb", func := "loop.example/g00103/laws.FnExactLogLast", spec := "fnExactLogLast", apart := false, narrowed := true }
def FnExactLogLastUptoSaid : Prop := fnExactLogLastUptoRow.holds Try.pinned (OpenSpec.upto fnExactLogLastSpec)

/-- 'laws.FnExactLogTerm', WHERE WHAT IT READS IS OF BULK AT MOST 1048576: true; the input reads as it did. -/
def fnExactLogTermUptoRow : OpenClaim := { program := "ythgmanojhicchaa", sum := "94f9ea80f75b3061a1b768f1c4c20b7b6e35c5f68bcd05b6332d783db7e004cb", func := "loop.example/g00103/laws.FnExactLogTerm", spec := "fnExactLogTerm", apart := false, narrowed := true }
def FnExactLogTermUptoSaid : Prop := fnExactLogTermUptoRow.holds Try.pinned (OpenSpec.upto fnExactLogTermSpec)

/-- 'laws.FnExactCommandText', WHERE WHAT IT READS IS OF BULK AT MOST 1048576: true; the input reads as it did. -/
def fnExactCommandTextUptoRow : OpenClaim := { program := "ythgmanojhicchaa", sum := "94f9ea80f75b3061a1b768f1c4c20b7b6e35c5f68bcd05b6332d783db7e004cb", func := "loop.example/g00103/laws.FnExactCommandText", spec := "fnExactCommandText", apart := false, narrowed := true }
def FnExactCommandTextUptoSaid : Prop := fnExactCommandTextUptoRow.holds Try.pinned (OpenSpec.upto fnExactCommandTextSpec)

/-- 'laws.FnExactEntryText', WHERE WHAT IT READS IS OF BULK AT MOST 1048576: true; the input reads as it did. -/
def fnExactEntryTextUptoRow : OpenClaim := { program := "ythgmanojhicchaa", sum := "94f9ea80f75b3061a1b768f1c4c20b7b6e35c5f68bcd05b6332d783db7e004cb", func := "loop.example/g00103/laws.FnExactEntryText", spec := "fnExactEntryText", apart := false, narrowed := true }
def FnExactEntryTextUptoSaid : Prop := fnExactEntryTextUptoRow.holds Try.pinned (OpenSpec.upto fnExactEntryTextSpec)

/-- 'laws.FnExactLogOk', WHERE WHAT IT READS IS OF BULK AT MOST 1048576: true; the input reads as it did. -/
def fnExactLogOkUptoRow : OpenClaim := { program := "ythgmanojhicchaa", sum := "94f9ea80f75b3061a1b768f1c4c20b7b6e35c5f68bcd05b6332d783db7e004cb", func := "loop.example/g00103/laws.FnExactLogOk", spec := "fnExactLogOk", apart := false, narrowed := true }
def FnExactLogOkUptoSaid : Prop := fnExactLogOkUptoRow.holds Try.pinned (OpenSpec.upto fnExactLogOkSpec)

/-- 'laws.FnExactHintText', WHERE WHAT IT READS IS OF BULK AT MOST 1048576: true; the input reads as it did. -/
def fnExactHintTextUptoRow : OpenClaim := { program := "ythgmanojhicchaa", sum := "94f9ea80f75b3061a1b768f1c4c20b7b6e35c5f68bcd05b6332d783db7e004cb", func := "loop.example/g00103/laws.FnExactHintText", spec := "fnExactHintText", apart := false, narrowed := true }
def FnExactHintTextUptoSaid : Prop := fnExactHintTextUptoRow.holds Try.pinned (OpenSpec.upto fnExactHintTextSpec)

end Rows
end Go.Proofs.Ythgmanojhicchaa
