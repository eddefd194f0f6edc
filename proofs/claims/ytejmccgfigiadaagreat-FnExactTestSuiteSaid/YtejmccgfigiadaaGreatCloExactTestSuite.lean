/-
  The closed facts of the law FnExactTestSuite's row.
-/
import Derived.Test.YtejmccgfigiadaaGreatRows
import Derived.ProofKit
import Derived.JoinedOf
namespace Go.Proofs.YtejmccgfigiadaaGreat.fnExactTestSuite
theorem closed:joinedFacts Tryz.pinned.checked.prog 3 Tryz.f3 Rows.fnExactTestSuiteSpec Rows.fnExactTestSuiteRow = true:=by kernel_rfl
end Go.Proofs.YtejmccgfigiadaaGreat.fnExactTestSuite
