-- Words of the kit's print, cut down to those that this claim uses.
import Derived.Test.YtfhakhbmbnbneaaWInv
import Derived.Test.YtfhakhbmbnbneaaWFootNe
namespace Go.Proofs.YtfhakhbmbnbneaaW.PrintWords
open Go.RowKit
end Go.Proofs.YtfhakhbmbnbneaaW.PrintWords
namespace Go.Proofs.YtfhakhbmbnbneaaW.PrintLast
section
variable {ops : Array Oper} {a : Act} {o og : Oper} {g : Nat} {t : Tmp} {u : Bool}
end
end Go.Proofs.YtfhakhbmbnbneaaW.PrintLast
