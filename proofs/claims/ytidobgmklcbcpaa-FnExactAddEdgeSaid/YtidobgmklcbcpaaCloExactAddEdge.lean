/-
  The closed facts of the law FnExactAddEdge's row.
-/
import Derived.Test.YtidobgmklcbcpaaRows
import Derived.ProofKit
import Derived.JoinedOf
namespace Go.Proofs.Ytidobgmklcbcpaa.fnExactAddEdge
theorem closed : joinedFacts Try.pinned.checked.prog 9 Try.f9 Rows.fnExactAddEdgeSpec Rows.fnExactAddEdgeRow = true := by kernel_rfl
end Go.Proofs.Ytidobgmklcbcpaa.fnExactAddEdge
