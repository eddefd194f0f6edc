/-
  The closed facts of the law FnSuiteGrows's row.
-/
import Derived.Test.YtejmccgfigiadaaGreatRows
import Derived.ProofKit
import Derived.JoinedOf
namespace Go.Proofs.YtejmccgfigiadaaGreat.fnSuiteGrows
theorem closed:joinedFacts Tryz.pinned.checked.prog 6 Tryz.f6 Rows.fnSuiteGrowsSpec Rows.fnSuiteGrowsRow = true:=by kernel_rfl
end Go.Proofs.YtejmccgfigiadaaGreat.fnSuiteGrows
