/-
  The closed facts of the law FnExactSwapSystem's row.
-/
import Derived.Test.YtidobgmklcbcpaaRows
import Derived.ProofKit
import Derived.JoinedOf
namespace Go.Proofs.Ytidobgmklcbcpaa.fnExactSwapSystem
theorem closed : joinedFacts Try.pinned.checked.prog 13 Try.f13 Rows.fnExactSwapSystemSpec Rows.fnExactSwapSystemRow = true := by kernel_rfl
end Go.Proofs.Ytidobgmklcbcpaa.fnExactSwapSystem
