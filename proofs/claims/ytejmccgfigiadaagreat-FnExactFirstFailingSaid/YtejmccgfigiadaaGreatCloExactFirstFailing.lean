/-
  The closed facts of the law FnExactFirstFailing's row.
-/
import Derived.Test.YtejmccgfigiadaaGreatRows
import Derived.ProofKit
import Derived.JoinedOf
namespace Go.Proofs.YtejmccgfigiadaaGreat.fnExactFirstFailing
theorem closed:joinedFacts Tryz.pinned.checked.prog 4 Tryz.f4 Rows.fnExactFirstFailingSpec Rows.fnExactFirstFailingRow = true:=by kernel_rfl
end Go.Proofs.YtejmccgfigiadaaGreat.fnExactFirstFailing
