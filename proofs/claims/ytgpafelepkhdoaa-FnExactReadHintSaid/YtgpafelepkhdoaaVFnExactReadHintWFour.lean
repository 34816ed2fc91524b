/- The declarations of the shared text 'WFour' that this claim needs, as the kit's print or this repo's generator wrote them; comments are taken out. -/
import Derived.Test.YtgpafelepkhdoaaVFnExactReadHintWTab
namespace Go.Proofs.YtgpafelepkhdoaaW.PrintLast
end Go.Proofs.YtgpafelepkhdoaaW.PrintLast
