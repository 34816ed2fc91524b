/- The declarations of the shared text 'WGuard' that this claim needs, as the kit's print or this repo's generator wrote them; comments are taken out. -/
import Derived.Test.YtgpafelepkhdoaaVFnExactReadHintWWords
namespace Go.Proofs.YtgpafelepkhdoaaW.PrintWords
open Go.RowKit
end Go.Proofs.YtgpafelepkhdoaaW.PrintWords
