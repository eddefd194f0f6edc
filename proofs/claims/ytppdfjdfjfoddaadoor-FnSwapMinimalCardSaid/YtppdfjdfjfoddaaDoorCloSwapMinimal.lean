/-
  The closed facts of the law FnSwapMinimal's row.
-/
import Derived.Test.YtppdfjdfjfoddaaDoorRows
import Derived.ProofKit
import Derived.JoinedOf
namespace Go.Proofs.YtppdfjdfjfoddaaDoor.fnSwapMinimal
theorem closed:joinedFacts Tryd.pinned.checked.prog 4 Tryd.f4 Rows.fnSwapMinimalSpec Rows.fnSwapMinimalRow = true:=by kernel_rfl
end Go.Proofs.YtppdfjdfjfoddaaDoor.fnSwapMinimal
