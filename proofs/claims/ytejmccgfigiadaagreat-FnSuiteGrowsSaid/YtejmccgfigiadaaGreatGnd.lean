/-
  The package-level variables that are laid ahead of the call, as they lie in memory.
-/
import Derived.Test.YtejmccgfigiadaaGreatEvRel
namespace Go.Proofs.YtejmccgfigiadaaGreat
namespace Ev
def gnd:Gnd:=⟨[],false⟩
end Ev
end Go.Proofs.YtejmccgfigiadaaGreat
