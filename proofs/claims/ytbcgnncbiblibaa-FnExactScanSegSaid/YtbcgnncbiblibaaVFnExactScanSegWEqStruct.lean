/- The declarations of the shared text 'WEqStruct' that this claim needs, as the kit's print or this repo's generator wrote them; comments are taken out. -/
import Derived.Test.YtbcgnncbiblibaaVFnExactScanSegWWords
import Derived.Laws.StructEq
namespace Go.Proofs.YtbcgnncbiblibaaW.PrintWords
open Go.RowKit
end Go.Proofs.YtbcgnncbiblibaaW.PrintWords
