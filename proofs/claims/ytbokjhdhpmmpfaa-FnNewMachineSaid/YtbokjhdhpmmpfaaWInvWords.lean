-- Words of the kit's print, cut down to those that this claim uses.
import Derived.Test.YtbokjhdhpmmpfaaWInv
import Derived.Test.YtbokjhdhpmmpfaaWFootNe
namespace Go.Proofs.YtbokjhdhpmmpfaaW.PrintWords
open Go.RowKit
end Go.Proofs.YtbokjhdhpmmpfaaW.PrintWords
namespace Go.Proofs.YtbokjhdhpmmpfaaW.PrintLast
section
variable {ops : Array Oper} {a : Act} {o og : Oper} {g : Nat} {t : Tmp} {u : Bool}
end
end Go.Proofs.YtbokjhdhpmmpfaaW.PrintLast
