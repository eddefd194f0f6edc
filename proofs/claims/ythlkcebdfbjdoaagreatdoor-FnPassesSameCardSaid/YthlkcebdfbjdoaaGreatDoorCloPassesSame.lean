/-
  The closed facts of the law FnPassesSame's row.
-/
import Derived.Test.YthlkcebdfbjdoaaGreatDoorRows
import Derived.ProofKit
import Derived.JoinedOf
namespace Go.Proofs.YthlkcebdfbjdoaaGreatDoor.fnPassesSame
theorem closed:joinedFacts Tryz.pinned.checked.prog 6 Tryz.f6 Rows.fnPassesSameSpec Rows.fnPassesSameRow = true:=by kernel_rfl
end Go.Proofs.YthlkcebdfbjdoaaGreatDoor.fnPassesSame
