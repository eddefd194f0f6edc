/-
  The closed facts of the law FnSwapSystem's row.
-/
import Derived.Test.YtbgjfhbbnmhnjaaDoorRows
import Derived.ProofKit
import Derived.JoinedOf
namespace Go.Proofs.YtbgjfhbbnmhnjaaDoor.fnSwapSystem
theorem closed : joinedFacts Tryd.pinned.checked.prog 3 Tryd.f3 Rows.fnSwapSystemSpec Rows.fnSwapSystemRow = true := by kernel_rfl
end Go.Proofs.YtbgjfhbbnmhnjaaDoor.fnSwapSystem
