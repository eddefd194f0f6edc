/-
  The closed facts of the law FnPassesMinimal's row.
-/
import Derived.Test.YtppffbehejpglaaGreatDoorRows
import Derived.ProofKit
import Derived.JoinedOf
namespace Go.Proofs.YtppffbehejpglaaGreatDoor.fnPassesMinimal
theorem closed:joinedFacts Tryz.pinned.checked.prog 4 Tryz.f4 Rows.fnPassesMinimalSpec Rows.fnPassesMinimalRow = true:=by kernel_rfl
end Go.Proofs.YtppffbehejpglaaGreatDoor.fnPassesMinimal
