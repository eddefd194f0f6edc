/-
  The closed facts of the law FnEdgeOnce's row.
-/
import Derived.Test.YtidobgmklcbcpaaRows
import Derived.ProofKit
import Derived.JoinedOf
namespace Go.Proofs.Ytidobgmklcbcpaa.fnEdgeOnce
theorem closed : joinedFacts Try.pinned.checked.prog 10 Try.f10 Rows.fnEdgeOnceSpec Rows.fnEdgeOnceRow = true := by kernel_rfl
end Go.Proofs.Ytidobgmklcbcpaa.fnEdgeOnce
