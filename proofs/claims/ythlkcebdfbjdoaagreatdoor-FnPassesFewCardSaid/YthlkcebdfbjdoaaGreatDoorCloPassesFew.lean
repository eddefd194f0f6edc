/-
  The closed facts of the law FnPassesFew's row.
-/
import Derived.Test.YthlkcebdfbjdoaaGreatDoorRows
import Derived.ProofKit
import Derived.JoinedOf
namespace Go.Proofs.YthlkcebdfbjdoaaGreatDoor.fnPassesFew
theorem closed:joinedFacts Tryz.pinned.checked.prog 4 Tryz.f4 Rows.fnPassesFewSpec Rows.fnPassesFewRow = true:=by kernel_rfl
end Go.Proofs.YthlkcebdfbjdoaaGreatDoor.fnPassesFew
