/-
  The closed facts of the law FnFailingLeast's row.
-/
import Derived.Test.YthlkcebdfbjdoaaGreatRows
import Derived.ProofKit
import Derived.JoinedOf
namespace Go.Proofs.YthlkcebdfbjdoaaGreat.fnFailingLeast
theorem closed:joinedFacts Tryz.pinned.checked.prog 5 Tryz.f5 Rows.fnFailingLeastSpec Rows.fnFailingLeastRow = true:=by kernel_rfl
end Go.Proofs.YthlkcebdfbjdoaaGreat.fnFailingLeast
