/-
  The closed facts of the law FnDropEdge's row.
-/
import Derived.Test.YtojaohcpgelhmaaDoorRows
import Derived.ProofKit
import Derived.JoinedOf
namespace Go.Proofs.YtojaohcpgelhmaaDoor.fnDropEdge
theorem closed : joinedFacts Tryd.pinned.checked.prog 5 Tryd.f5 Rows.fnDropEdgeSpec Rows.fnDropEdgeRow = true := by kernel_rfl
end Go.Proofs.YtojaohcpgelhmaaDoor.fnDropEdge
