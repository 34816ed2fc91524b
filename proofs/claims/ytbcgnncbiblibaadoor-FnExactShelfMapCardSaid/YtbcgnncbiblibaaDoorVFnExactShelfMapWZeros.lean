/- The declarations of the shared text 'WZeros' that this claim needs, as the kit's print or this repo's generator wrote them; comments are taken out. -/
import Derived.Test.YtbcgnncbiblibaaDoorVFnExactShelfMapWApart
import Derived.Test.YtbcgnncbiblibaaDoorVFnExactShelfMapWArr
namespace Go.Proofs.YtbcgnncbiblibaaDoorW.PrintWords
open Go.RowKit
namespace Kd
end Kd
end Go.Proofs.YtbcgnncbiblibaaDoorW.PrintWords
