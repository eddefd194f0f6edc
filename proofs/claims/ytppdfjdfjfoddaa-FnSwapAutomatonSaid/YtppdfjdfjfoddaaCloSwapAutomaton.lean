/-
  The closed facts of the law FnSwapAutomaton's row.
-/
import Derived.Test.YtppdfjdfjfoddaaRows
import Derived.ProofKit
import Derived.JoinedOf
namespace Go.Proofs.Ytppdfjdfjfoddaa.fnSwapAutomaton
theorem closed : joinedFacts Try.pinned.checked.prog 3 Try.f3 Rows.fnSwapAutomatonSpec Rows.fnSwapAutomatonRow = true := by kernel_rfl
end Go.Proofs.Ytppdfjdfjfoddaa.fnSwapAutomaton
