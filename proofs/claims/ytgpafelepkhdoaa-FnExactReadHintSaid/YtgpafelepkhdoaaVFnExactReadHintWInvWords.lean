/- The declarations of the shared text 'WInvWords' that this claim needs, as the kit's print or this repo's generator wrote them; comments are taken out. -/
import Derived.Test.YtgpafelepkhdoaaVFnExactReadHintWInv
import Derived.Test.YtgpafelepkhdoaaVFnExactReadHintWFootNe
namespace Go.Proofs.YtgpafelepkhdoaaW.PrintWords
open Go.RowKit
end Go.Proofs.YtgpafelepkhdoaaW.PrintWords
namespace Go.Proofs.YtgpafelepkhdoaaW.PrintLast
end Go.Proofs.YtgpafelepkhdoaaW.PrintLast
