/- The program's constants have the values that the statement lists: for the empty input, without a condition. -/
import Derived.Test.YtnkmbihlkbiccaaPFnExactConstantsx1
namespace Go.Proofs.Ytnkmbihlkbiccaa.Pure
open Go.RowKit Go.Proofs.Ytnkmbihlkbiccaa.PFnExactConstants Go.Proofs.YtnkmbihlkbiccaaW.PrintWords Go.Proofs.YtnkmbihlkbiccaaW.PrintLast

theorem FnExactConstants : laws_FnExactConstants.Pure := rfl

end Go.Proofs.Ytnkmbihlkbiccaa.Pure
