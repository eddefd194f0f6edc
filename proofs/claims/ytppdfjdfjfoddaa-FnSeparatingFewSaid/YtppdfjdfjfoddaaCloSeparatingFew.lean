/-
  The closed facts of the law FnSeparatingFew's row.
-/
import Derived.Test.YtppdfjdfjfoddaaRows
import Derived.ProofKit
import Derived.JoinedOf
namespace Go.Proofs.Ytppdfjdfjfoddaa.fnSeparatingFew
theorem closed : joinedFacts Try.pinned.checked.prog 5 Try.f5 Rows.fnSeparatingFewSpec Rows.fnSeparatingFewRow = true := by kernel_rfl
end Go.Proofs.Ytppdfjdfjfoddaa.fnSeparatingFew
