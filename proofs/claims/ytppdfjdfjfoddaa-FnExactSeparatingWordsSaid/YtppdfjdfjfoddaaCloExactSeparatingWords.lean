/-
  The closed facts of the law FnExactSeparatingWords's row.
-/
import Derived.Test.YtppdfjdfjfoddaaRows
import Derived.ProofKit
import Derived.JoinedOf
namespace Go.Proofs.Ytppdfjdfjfoddaa.fnExactSeparatingWords
theorem closed : joinedFacts Try.pinned.checked.prog 4 Try.f4 Rows.fnExactSeparatingWordsSpec Rows.fnExactSeparatingWordsRow = true := by kernel_rfl
end Go.Proofs.Ytppdfjdfjfoddaa.fnExactSeparatingWords
