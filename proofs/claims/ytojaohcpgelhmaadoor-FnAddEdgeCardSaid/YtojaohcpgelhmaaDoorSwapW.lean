/-
  Words: what the functions on words give.
-/
import Derived.Test.YtojaohcpgelhmaaDoorEdges
set_option linter.unusedSimpArgs false
set_option linter.unusedVariables false
namespace Go.Proofs.YtojaohcpgelhmaaDoor
namespace Ev

/-! ### SwapWord -/

end Ev
end Go.Proofs.YtojaohcpgelhmaaDoor
