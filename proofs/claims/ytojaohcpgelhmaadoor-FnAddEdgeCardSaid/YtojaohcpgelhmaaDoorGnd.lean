/-
  The package-level variables that are laid ahead of the call, as they lie in memory.
-/
import Derived.Test.YtojaohcpgelhmaaDoorEvRel
import Derived.Lib.TrailingZeros
namespace Go.Proofs.YtojaohcpgelhmaaDoor
namespace Ev

def gnd : Gnd := [(1, (Lib.deBruijn64tab.map fun (n : Nat) => Value.int .u8 (n : Int)).toArray)]

end Ev
end Go.Proofs.YtojaohcpgelhmaaDoor
