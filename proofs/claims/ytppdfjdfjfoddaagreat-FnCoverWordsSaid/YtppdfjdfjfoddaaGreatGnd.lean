/-
  The package-level variables that are laid ahead of the call, as they lie in memory.
-/
import Derived.Test.YtppdfjdfjfoddaaGreatEvRel
namespace Go.Proofs.YtppdfjdfjfoddaaGreat
namespace Ev
def gnd:Gnd:=[]
end Ev
end Go.Proofs.YtppdfjdfjfoddaaGreat
