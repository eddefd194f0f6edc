/-
  The closed facts of the law FnTestSuite's row.
-/
import Derived.Test.YthlkcebdfbjdoaaGreatRows
import Derived.ProofKit
import Derived.JoinedOf
namespace Go.Proofs.YthlkcebdfbjdoaaGreat.fnTestSuite
theorem closed:joinedFacts Tryz.pinned.checked.prog 4 Tryz.f4 Rows.fnTestSuiteSpec Rows.fnTestSuiteRow = true:=by kernel_rfl
end Go.Proofs.YthlkcebdfbjdoaaGreat.fnTestSuite
