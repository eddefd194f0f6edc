/-
  The package-level variables that are laid ahead of the call, as they lie in memory.
-/
import Derived.Test.YtppdfjdfjfoddaaDoorEvRel
import Derived.Lib.TrailingZeros
namespace Go.Proofs.YtppdfjdfjfoddaaDoor
namespace Ev
def gnd:Gnd:=[(2,(Lib.deBruijn64tab.map fun (n:Nat) => Value.int .u8 (n:Int)).toArray)]
end Ev
end Go.Proofs.YtppdfjdfjfoddaaDoor
