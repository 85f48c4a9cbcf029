-- Words of the kit's print, cut down to those that this claim uses.
import Derived.Test.YtonppkaobnfldaaWInv
import Derived.Test.YtonppkaobnfldaaWFootNe
namespace Go.Proofs.YtonppkaobnfldaaW.PrintWords
open Go.RowKit
end Go.Proofs.YtonppkaobnfldaaW.PrintWords
namespace Go.Proofs.YtonppkaobnfldaaW.PrintLast
section
variable {ops : Array Oper} {a : Act} {o og : Oper} {g : Nat} {t : Tmp} {u : Bool}
end
end Go.Proofs.YtonppkaobnfldaaW.PrintLast
