/-
  Words that are drawn.
-/
import Derived.Test.YtidobgmklcbcpaaDraw1
import Derived.Test.YtidobgmklcbcpaaLett
set_option linter.unusedSimpArgs false
set_option linter.unusedVariables false
set_option maxRecDepth 8000
set_option maxHeartbeats 4000000
set_option pp.maxSteps 6000
namespace Go.Proofs.Ytidobgmklcbcpaa
namespace Ev

/-! ### long words -/

end Ev
end Go.Proofs.Ytidobgmklcbcpaa
