/-
  The closed facts of the law FnSwapSystem's row.
-/
import Derived.Test.YtojaohcpgelhmaaDoorRows
import Derived.ProofKit
import Derived.JoinedOf
namespace Go.Proofs.YtojaohcpgelhmaaDoor.fnSwapSystem
theorem closed : joinedFacts Tryd.pinned.checked.prog 3 Tryd.f3 Rows.fnSwapSystemSpec Rows.fnSwapSystemRow = true := by kernel_rfl
end Go.Proofs.YtojaohcpgelhmaaDoor.fnSwapSystem
