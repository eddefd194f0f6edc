/-
  The closed facts of the law FnRepairAll's row.
-/
import Derived.Test.YtahbdkmimmnadaaGreatDoorRows
import Derived.ProofKit
import Derived.JoinedOf
namespace Go.Proofs.YtahbdkmimmnadaaGreatDoor.fnRepairAll
theorem closed:joinedFacts Tryz.pinned.checked.prog 4 Tryz.f4 Rows.fnRepairAllSpec Rows.fnRepairAllRow = true:=by kernel_rfl
end Go.Proofs.YtahbdkmimmnadaaGreatDoor.fnRepairAll
