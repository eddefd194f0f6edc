/-
  The law: the program's DropEdge and the reference's answer the same, and share no memory.
-/
import Derived.Test.YtidobgmklcbcpaaDropS
set_option linter.unusedSimpArgs false
set_option linter.unusedVariables false
set_option maxRecDepth 8000
set_option pp.maxSteps 6000
set_option maxHeartbeats 4000000
namespace Go.Proofs.Ytidobgmklcbcpaa
namespace Ev

/-! ### no edges at all -/

end Ev
end Go.Proofs.Ytidobgmklcbcpaa
