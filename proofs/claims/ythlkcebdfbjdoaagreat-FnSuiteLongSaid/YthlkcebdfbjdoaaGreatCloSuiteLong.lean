/-
  The closed facts of the law FnSuiteLong's row.
-/
import Derived.Test.YthlkcebdfbjdoaaGreatRows
import Derived.ProofKit
import Derived.JoinedOf
namespace Go.Proofs.YthlkcebdfbjdoaaGreat.fnSuiteLong
theorem closed:joinedFacts Tryz.pinned.checked.prog 3 Tryz.f3 Rows.fnSuiteLongSpec Rows.fnSuiteLongRow = true:=by kernel_rfl
end Go.Proofs.YthlkcebdfbjdoaaGreat.fnSuiteLong
