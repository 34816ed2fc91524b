/- The declarations of the shared text 'WInvWords' that this claim needs, as the kit's print or this repo's generator wrote them; comments are taken out. -/
import Derived.Test.YthgmanojhicchaaVFnExactHintTextWInv
import Derived.Test.YthgmanojhicchaaVFnExactHintTextWFootNe
namespace Go.Proofs.YthgmanojhicchaaW.PrintWords
open Go.RowKit
end Go.Proofs.YthgmanojhicchaaW.PrintWords
namespace Go.Proofs.YthgmanojhicchaaW.PrintLast
end Go.Proofs.YthgmanojhicchaaW.PrintLast

