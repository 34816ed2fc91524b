/- The contracts of the Go functions that this law reaches: what each call returns, by a plain Lean function of its arguments. No conditions but those each contract names. By the kit's print.py, run by this session's wip/gen/pp.py with facts and hand proofs beside it: not to the letter what print.sh prints. -/
import Derived.Test.YtgpafelepkhdoaaProg
import Derived.Below
import Derived.Deep.Draws
import Derived.Deep.AppendLies
import Derived.Maps.AppendAt
import Derived.OwnWalk
import Derived.Laws.BytesArg
import Derived.Laws.MakeOwn
import Derived.Laws.OwnMore
import Derived.Deep.OwnRows
import Derived.Tactics
import Derived.Lib.ConvBytes
import Derived.Laws.Slices
import Derived.WalkKit
import Derived.KernelRfl
import Derived.RowKit3
import Derived.Deep.LoopGhost
import Derived.Deep.QuietTactic
import Derived.BigQuiet
import Derived.WideLaws
import Derived.Deep.DeepCutAuto
import Derived.Deep.CutBlock
import Derived.Deep.RegionHeld3
import Derived.Laws.Rows
import Derived.Lib.AppendStr
import Derived.ArgAppend
import Derived.Laws.IdiomCopy
import Derived.OrdersHeld
import Derived.Laws.BitsLemmas
import Derived.RowKit
import Derived.Test.YtgpafelepkhdoaaVFnVotesWWords
import Derived.Test.YtgpafelepkhdoaaVFnVotesWLast
import Derived.Test.YtgpafelepkhdoaaVFnVotesWTab
import Derived.Test.YtgpafelepkhdoaaVFnVotesWFour
import Derived.Test.YtgpafelepkhdoaaVFnVotesWQPut
import Derived.Test.YtgpafelepkhdoaaVFnVotesWApart
import Derived.Test.YtgpafelepkhdoaaVFnVotesWArr
import Derived.Test.YtgpafelepkhdoaaVFnVotesWZeros
import Derived.Test.YtgpafelepkhdoaaVFnVotesWFoot
import Derived.Test.YtgpafelepkhdoaaVFnVotesWKept
import Derived.Test.YtgpafelepkhdoaaVFnVotesWShare
import Derived.Test.YtgpafelepkhdoaaVFnVotesWN
import Derived.Test.YtgpafelepkhdoaaVFnVotesWFootNe
import Derived.Test.YtgpafelepkhdoaaVFnVotesWAt
import Derived.Test.YtgpafelepkhdoaaVFnVotesWEqStruct
import Derived.Test.YtgpafelepkhdoaaVFnVotesWRepsOne
import Derived.Test.YtgpafelepkhdoaaVFnVotesWInv
import Derived.Test.YtgpafelepkhdoaaVFnVotesWInvWords
import Derived.Test.YtgpafelepkhdoaaVFnVotesWGuard
import Derived.Test.YtgpafelepkhdoaaVFnVotesWNEv
import Derived.Test.YtgpafelepkhdoaaVFnVotesWMore
namespace Go.Proofs.Ytgpafelepkhdoaa.PFnVotes
open Go.RowKit Go.Proofs.YtgpafelepkhdoaaW.PrintWords Go.Proofs.YtgpafelepkhdoaaW.PrintLast Go.Proofs.YtgpafelepkhdoaaW.PrintMore
attribute [local go_sem] max2_int min2_int max_two min_two max_three min_three max_four min_four
set_option linter.unusedVariables false
set_option linter.unusedSimpArgs false
def errW : Option Int → Value
  | none => .nilIface
  | some c => .iface 0 (.int .i64 c)
theorem errW_none : errW none = .nilIface := rfl
theorem errW_some (c : Int) : errW (some c) = .iface 0 (.int .i64 c) := rfl
theorem info3 : (Try.prog.info? 3).map (fun i => (i.zero, i.size, i.bytes)) = some (some (.int .i64 0), 1, 8) := by kernel_rfl
theorem info5 : (Try.prog.info? 5).map (fun i => (i.zero, i.size, i.bytes)) = some (some (.int .u8 0), 1, 1) := by kernel_rfl
theorem info9 : (Try.prog.info? 9).map (fun i => (i.zero, i.size, i.bytes)) = some (some (.string ⟨#[]⟩), 1, 16) := by kernel_rfl
end Go.Proofs.Ytgpafelepkhdoaa.PFnVotes
