/- The declarations of the shared text 'WArr' that this claim needs, as the kit's print or this repo's generator wrote them; comments are taken out. -/
import Derived.Test.YtbcgnncbiblibaaDoorVFnExactShelfMapWWords
namespace Go.Proofs.YtbcgnncbiblibaaDoorW.PrintWords
open Go.RowKit
namespace Kd
end Kd
end Go.Proofs.YtbcgnncbiblibaaDoorW.PrintWords
