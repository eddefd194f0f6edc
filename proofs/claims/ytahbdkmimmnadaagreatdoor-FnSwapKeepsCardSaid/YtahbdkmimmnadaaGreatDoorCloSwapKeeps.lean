/-
  The closed facts of the law FnSwapKeeps's row.
-/
import Derived.Test.YtahbdkmimmnadaaGreatDoorRows
import Derived.ProofKit
import Derived.JoinedOf
namespace Go.Proofs.YtahbdkmimmnadaaGreatDoor.fnSwapKeeps
theorem closed:joinedFacts Tryz.pinned.checked.prog 6 Tryz.f6 Rows.fnSwapKeepsSpec Rows.fnSwapKeepsRow = true:=by kernel_rfl
end Go.Proofs.YtahbdkmimmnadaaGreatDoor.fnSwapKeeps
