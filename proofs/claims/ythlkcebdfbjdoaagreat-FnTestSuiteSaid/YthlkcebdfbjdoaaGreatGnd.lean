/-
  The package-level variables that are laid ahead of the call, as they lie in memory.
-/
import Derived.Test.YthlkcebdfbjdoaaGreatEvRel
namespace Go.Proofs.YthlkcebdfbjdoaaGreat
namespace Ev
def gnd:Gnd:=⟨[],false⟩
end Ev
end Go.Proofs.YthlkcebdfbjdoaaGreat
