/- For all inputs (there are none), the law FnExactRulesList returns true: the program's list of rules is the reference's. Conditions: none. -/
import Derived.Test.YtkdcimbonbjljaaPFnExactRulesListx1
namespace Go.Proofs.Ytkdcimbonbjljaa.Pure
open Go.RowKit Go.Proofs.Ytkdcimbonbjljaa.PFnExactRulesList Go.Proofs.YtkdcimbonbjljaaW.PrintWords Go.Proofs.YtkdcimbonbjljaaW.PrintLast

/-- The two lists are the same: a closed computation. -/
theorem FnExactRulesList : laws_FnExactRulesList.Pure := by
  exact ⟨60, by decide +kernel⟩

end Go.Proofs.Ytkdcimbonbjljaa.Pure
