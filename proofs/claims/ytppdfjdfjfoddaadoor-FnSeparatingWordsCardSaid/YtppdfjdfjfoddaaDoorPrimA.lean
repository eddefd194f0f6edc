/-
  slices.Clone as the evaluator answers it.
-/
import Derived.Test.YtppdfjdfjfoddaaDoorEvDraw
import Derived.Test.YtppdfjdfjfoddaaDoorEvPrim
import Derived.Test.YtppdfjdfjfoddaaDoorChecked
import Derived.WalkKit
import Derived.Deep.RegionLaw
import Derived.Shelf.RegionOpenPlain
import Derived.Lib.Walk
import Derived.Lib.SliceRun
set_option linter.unusedSimpArgs false
set_option linter.unusedVariables false
set_option maxRecDepth 100000
set_option maxHeartbeats 2000000
namespace Go.Proofs.YtppdfjdfjfoddaaDoor
namespace Ev
variable {G:Gnd}
open Go.RowKit Go.Lib
end Ev
end Go.Proofs.YtppdfjdfjfoddaaDoor
