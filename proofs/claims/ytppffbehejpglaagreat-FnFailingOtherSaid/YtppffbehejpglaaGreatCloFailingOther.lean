/-
  The closed facts of the law FnFailingOther's row.
-/
import Derived.Test.YtppffbehejpglaaGreatRows
import Derived.ProofKit
import Derived.JoinedOf
namespace Go.Proofs.YtppffbehejpglaaGreat.fnFailingOther
theorem closed:joinedFacts Tryz.pinned.checked.prog 3 Tryz.f3 Rows.fnFailingOtherSpec Rows.fnFailingOtherRow = true:=by kernel_rfl
end Go.Proofs.YtppffbehejpglaaGreat.fnFailingOther
