/-
  The closed facts of the law FnExactDropEdge's row.
-/
import Derived.Test.YtidobgmklcbcpaaRows
import Derived.ProofKit
import Derived.JoinedOf
namespace Go.Proofs.Ytidobgmklcbcpaa.fnExactDropEdge
theorem closed : joinedFacts Try.pinned.checked.prog 7 Try.f7 Rows.fnExactDropEdgeSpec Rows.fnExactDropEdgeRow = true := by kernel_rfl
end Go.Proofs.Ytidobgmklcbcpaa.fnExactDropEdge
