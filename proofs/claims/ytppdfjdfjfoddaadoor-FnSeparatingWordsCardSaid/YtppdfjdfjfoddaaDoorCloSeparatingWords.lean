/-
  The closed facts of the law FnSeparatingWords's row.
-/
import Derived.Test.YtppdfjdfjfoddaaDoorRows
import Derived.ProofKit
import Derived.JoinedOf
namespace Go.Proofs.YtppdfjdfjfoddaaDoor.fnSeparatingWords
theorem closed:joinedFacts Tryd.pinned.checked.prog 3 Tryd.f3 Rows.fnSeparatingWordsSpec Rows.fnSeparatingWordsRow = true:=by kernel_rfl
end Go.Proofs.YtppdfjdfjfoddaaDoor.fnSeparatingWords
