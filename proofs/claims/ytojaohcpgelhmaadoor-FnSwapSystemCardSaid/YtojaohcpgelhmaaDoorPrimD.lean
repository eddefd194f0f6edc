/-
  slices.Delete of edges, as the evaluator answers it.
-/
import Derived.Test.YtojaohcpgelhmaaDoorPrimA
import Derived.Deep.LoopGhost
set_option linter.unusedSimpArgs false
set_option linter.unusedVariables false
set_option maxRecDepth 1000000
set_option maxHeartbeats 4000000
namespace Go.Proofs.YtojaohcpgelhmaaDoor
namespace Ev
variable {G : Gnd}
open Go.RowKit Go.Lib

/-- Cells written over others. -/
def over (C : Array Value) : Nat → List Value → Array Value
  | _, [] => C
  | o, v :: vs => over (C.setIfInBounds o v) (o + 1) vs

end Ev
end Go.Proofs.YtojaohcpgelhmaaDoor
