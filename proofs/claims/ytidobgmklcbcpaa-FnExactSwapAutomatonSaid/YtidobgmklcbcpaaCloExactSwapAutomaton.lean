/-
  The closed facts of the law FnExactSwapAutomaton's row.
-/
import Derived.Test.YtidobgmklcbcpaaRows
import Derived.ProofKit
import Derived.JoinedOf
namespace Go.Proofs.Ytidobgmklcbcpaa.fnExactSwapAutomaton
theorem closed : joinedFacts Try.pinned.checked.prog 8 Try.f8 Rows.fnExactSwapAutomatonSpec Rows.fnExactSwapAutomatonRow = true := by kernel_rfl
end Go.Proofs.Ytidobgmklcbcpaa.fnExactSwapAutomaton
