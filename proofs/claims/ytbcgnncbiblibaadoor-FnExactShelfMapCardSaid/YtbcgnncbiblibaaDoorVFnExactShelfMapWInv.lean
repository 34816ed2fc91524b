/- The declarations of the shared text 'WInv' that this claim needs, as the kit's print or this repo's generator wrote them; comments are taken out. -/
import Derived.Test.YtbcgnncbiblibaaDoorVFnExactShelfMapWTab
namespace Go.Proofs.YtbcgnncbiblibaaDoorW.PrintLast
end Go.Proofs.YtbcgnncbiblibaaDoorW.PrintLast
