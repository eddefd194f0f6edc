/-
  The closed facts of the law FnExactPassesSuite's row.
-/
import Derived.Test.YtejmccgfigiadaaGreatRows
import Derived.ProofKit
import Derived.JoinedOf
namespace Go.Proofs.YtejmccgfigiadaaGreat.fnExactPassesSuite
theorem closed:joinedFacts Tryz.pinned.checked.prog 5 Tryz.f5 Rows.fnExactPassesSuiteSpec Rows.fnExactPassesSuiteRow = true:=by kernel_rfl
end Go.Proofs.YtejmccgfigiadaaGreat.fnExactPassesSuite
