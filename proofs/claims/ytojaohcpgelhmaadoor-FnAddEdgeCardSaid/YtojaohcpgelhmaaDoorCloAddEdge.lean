/-
  The closed facts of the law FnAddEdge's row.
-/
import Derived.Test.YtojaohcpgelhmaaDoorRows
import Derived.ProofKit
import Derived.JoinedOf
namespace Go.Proofs.YtojaohcpgelhmaaDoor.fnAddEdge
theorem closed : joinedFacts Tryd.pinned.checked.prog 4 Tryd.f4 Rows.fnAddEdgeSpec Rows.fnAddEdgeRow = true := by kernel_rfl
end Go.Proofs.YtojaohcpgelhmaaDoor.fnAddEdge
