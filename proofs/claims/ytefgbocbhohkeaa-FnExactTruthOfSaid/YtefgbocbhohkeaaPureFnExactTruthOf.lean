/- The program's TruthOf answers as the reference's. Conditions: none beyond the statement's own. -/
import Derived.Test.YtefgbocbhohkeaaPFnExactTruthOfx1
namespace Go.Proofs.Ytefgbocbhohkeaa.Pure
open Go.RowKit Go.Proofs.Ytefgbocbhohkeaa.PFnExactTruthOf Go.Proofs.YtefgbocbhohkeaaW.PrintWords Go.Proofs.YtefgbocbhohkeaaW.PrintLast

theorem FnExactTruthOf : laws_FnExactTruthOf.Pure := by
  intro b
  cases b <;> decide

end Go.Proofs.Ytefgbocbhohkeaa.Pure
