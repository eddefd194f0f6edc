/-
  Alphabets as sets of aB; alphabets of words, restrictions.
-/
import Derived.Test.YthlkcebdfbjdoaaGreatDrawR
set_option linter.unusedSimpArgs false
set_option linter.unusedVariables false
set_option maxRecDepth 8000
set_option maxHeartbeats 4000000
namespace Go.Proofs.YthlkcebdfbjdoaaGreat
namespace Ev
end Ev
end Go.Proofs.YthlkcebdfbjdoaaGreat
