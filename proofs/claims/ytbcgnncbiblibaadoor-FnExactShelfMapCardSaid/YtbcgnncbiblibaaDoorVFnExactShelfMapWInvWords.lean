/- The declarations of the shared text 'WInvWords' that this claim needs, as the kit's print or this repo's generator wrote them; comments are taken out. -/
import Derived.Test.YtbcgnncbiblibaaDoorVFnExactShelfMapWInv
import Derived.Test.YtbcgnncbiblibaaDoorVFnExactShelfMapWFootNe
namespace Go.Proofs.YtbcgnncbiblibaaDoorW.PrintWords
open Go.RowKit
end Go.Proofs.YtbcgnncbiblibaaDoorW.PrintWords
namespace Go.Proofs.YtbcgnncbiblibaaDoorW.PrintLast
end Go.Proofs.YtbcgnncbiblibaaDoorW.PrintLast
