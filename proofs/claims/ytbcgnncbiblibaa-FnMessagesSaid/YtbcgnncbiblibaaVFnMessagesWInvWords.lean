/- The declarations of the shared text 'WInvWords' that this claim needs, as the kit's print or this repo's generator wrote them; comments are taken out. -/
import Derived.Test.YtbcgnncbiblibaaVFnMessagesWInv
import Derived.Test.YtbcgnncbiblibaaVFnMessagesWFootNe
namespace Go.Proofs.YtbcgnncbiblibaaW.PrintWords
open Go.RowKit
end Go.Proofs.YtbcgnncbiblibaaW.PrintWords
namespace Go.Proofs.YtbcgnncbiblibaaW.PrintLast
end Go.Proofs.YtbcgnncbiblibaaW.PrintLast
