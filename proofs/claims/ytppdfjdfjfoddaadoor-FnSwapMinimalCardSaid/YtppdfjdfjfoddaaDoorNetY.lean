/-
  Products as the reference searches them, walked: the nodes to which a letter leads.
-/
import Derived.Test.YtppdfjdfjfoddaaDoorNetX
set_option linter.unusedSimpArgs false
set_option linter.unusedVariables false
set_option maxRecDepth 8000
set_option maxHeartbeats 4000000
namespace Go.Proofs.YtppdfjdfjfoddaaDoor
namespace Ev
end Ev
end Go.Proofs.YtppdfjdfjfoddaaDoor
