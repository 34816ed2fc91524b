/- The declarations of the shared text 'WFour' that this claim needs, as the kit's print or this repo's generator wrote them; comments are taken out. -/
import Derived.Test.YtbcgnncbiblibaaVFnMessagesWTab
namespace Go.Proofs.YtbcgnncbiblibaaW.PrintLast
end Go.Proofs.YtbcgnncbiblibaaW.PrintLast
