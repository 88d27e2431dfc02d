/- The law FnExactConstants answers true: every constant of the program is the number that the document gives.
   Conditions: none. -/
import Derived.Test.YtefgbocbhohkeaaPFnExactConstantsx1
namespace Go.Proofs.Ytefgbocbhohkeaa.Pure
open Go.RowKit Go.Proofs.Ytefgbocbhohkeaa.PFnExactConstants Go.Proofs.YtefgbocbhohkeaaW.PrintWords Go.Proofs.YtefgbocbhohkeaaW.PrintLast

theorem FnExactConstants : laws_FnExactConstants.Pure := rfl

end Go.Proofs.Ytefgbocbhohkeaa.Pure
