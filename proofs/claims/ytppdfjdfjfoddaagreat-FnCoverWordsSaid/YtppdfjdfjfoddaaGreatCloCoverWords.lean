/-
  The closed facts of the law FnCoverWords's row.
-/
import Derived.Test.YtppdfjdfjfoddaaGreatRows
import Derived.ProofKit
import Derived.JoinedOf
namespace Go.Proofs.YtppdfjdfjfoddaaGreat.fnCoverWords
theorem closed:joinedFacts Tryz.pinned.checked.prog 3 Tryz.f3 Rows.fnCoverWordsSpec Rows.fnCoverWordsRow = true:=by kernel_rfl
end Go.Proofs.YtppdfjdfjfoddaaGreat.fnCoverWords
