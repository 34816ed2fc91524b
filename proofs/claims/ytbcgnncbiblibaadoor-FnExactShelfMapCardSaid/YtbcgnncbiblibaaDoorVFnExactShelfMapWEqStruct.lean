/- The declarations of the shared text 'WEqStruct' that this claim needs, as the kit's print or this repo's generator wrote them; comments are taken out. -/
import Derived.Test.YtbcgnncbiblibaaDoorVFnExactShelfMapWWords
import Derived.Laws.StructEq
namespace Go.Proofs.YtbcgnncbiblibaaDoorW.PrintWords
open Go.RowKit
end Go.Proofs.YtbcgnncbiblibaaDoorW.PrintWords
