/-
  The closed facts of the law FnCoverPrefix's row.
-/
import Derived.Test.YtppdfjdfjfoddaaRows
import Derived.ProofKit
import Derived.JoinedOf
namespace Go.Proofs.Ytppdfjdfjfoddaa.fnCoverPrefix
theorem closed : joinedFacts Try.pinned.checked.prog 7 Try.f7 Rows.fnCoverPrefixSpec Rows.fnCoverPrefixRow = true := by kernel_rfl
end Go.Proofs.Ytppdfjdfjfoddaa.fnCoverPrefix
