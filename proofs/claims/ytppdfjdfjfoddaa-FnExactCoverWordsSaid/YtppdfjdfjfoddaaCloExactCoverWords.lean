/-
  The closed facts of the law FnExactCoverWords's row.
-/
import Derived.Test.YtppdfjdfjfoddaaRows
import Derived.ProofKit
import Derived.JoinedOf
namespace Go.Proofs.Ytppdfjdfjfoddaa.fnExactCoverWords
theorem closed : joinedFacts Try.pinned.checked.prog 6 Try.f6 Rows.fnExactCoverWordsSpec Rows.fnExactCoverWordsRow = true := by kernel_rfl
end Go.Proofs.Ytppdfjdfjfoddaa.fnExactCoverWords
