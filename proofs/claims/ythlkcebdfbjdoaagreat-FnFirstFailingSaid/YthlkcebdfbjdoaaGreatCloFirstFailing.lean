/-
  The closed facts of the law FnFirstFailing's row.
-/
import Derived.Test.YthlkcebdfbjdoaaGreatRows
import Derived.ProofKit
import Derived.JoinedOf
namespace Go.Proofs.YthlkcebdfbjdoaaGreat.fnFirstFailing
theorem closed:joinedFacts Tryz.pinned.checked.prog 6 Tryz.f6 Rows.fnFirstFailingSpec Rows.fnFirstFailingRow = true:=by kernel_rfl
end Go.Proofs.YthlkcebdfbjdoaaGreat.fnFirstFailing
