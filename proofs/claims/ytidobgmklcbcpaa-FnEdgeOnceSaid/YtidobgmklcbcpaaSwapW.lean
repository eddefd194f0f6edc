/-
  Words: what the functions on words give.
-/
import Derived.Test.YtidobgmklcbcpaaSwapA
set_option linter.unusedSimpArgs false
set_option linter.unusedVariables false
namespace Go.Proofs.Ytidobgmklcbcpaa
namespace Ev

/-! ### SwapWord -/

end Ev
end Go.Proofs.Ytidobgmklcbcpaa
