/-
  The closed facts of the law FnPassesTurned's row.
-/
import Derived.Test.YtppffbehejpglaaGreatDoorRows
import Derived.ProofKit
import Derived.JoinedOf
namespace Go.Proofs.YtppffbehejpglaaGreatDoor.fnPassesTurned
theorem closed:joinedFacts Tryz.pinned.checked.prog 3 Tryz.f3 Rows.fnPassesTurnedSpec Rows.fnPassesTurnedRow = true:=by kernel_rfl
end Go.Proofs.YtppffbehejpglaaGreatDoor.fnPassesTurned
