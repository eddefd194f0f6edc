/-
  The closed facts of the law FnRepairEdges's row.
-/
import Derived.Test.YtahbdkmimmnadaaGreatDoorRows
import Derived.ProofKit
import Derived.JoinedOf
namespace Go.Proofs.YtahbdkmimmnadaaGreatDoor.fnRepairEdges
theorem closed:joinedFacts Tryz.pinned.checked.prog 5 Tryz.f5 Rows.fnRepairEdgesSpec Rows.fnRepairEdgesRow = true:=by kernel_rfl
end Go.Proofs.YtahbdkmimmnadaaGreatDoor.fnRepairEdges
