/-
  Texts of systems, parsed by the reference: worked out by the kernel (part 1).
-/
import Derived.Test.YtojaohcpgelhmaaDoorDrawP0
set_option maxRecDepth 1000000
namespace Go.Proofs.YtojaohcpgelhmaaDoor
namespace Ev

theorem text2_2 : sysShape (evCall env 3000 12 78 [.d (.str [97, 98, 32, 51, 32, 48, 97, 48, 32, 48, 97, 49, 32, 48, 98, 48, 32, 49, 98, 50, 32, 50, 97, 50])] []) = true := by kernel_rfl
theorem text2_7 : sysShape (evCall env 3000 12 78 [.d (.str [97, 99, 32, 52, 32, 48, 97, 49, 32, 48, 97, 50, 32, 49, 99, 51, 32, 50, 97, 50, 32, 51, 97, 48, 32, 51, 99, 51])] []) = true := by kernel_rfl
theorem text2_0 : sysShape (evCall env 3000 12 78 [.d (.str [97, 98, 32, 50, 32, 48, 97, 49, 32, 49, 98, 48])] []) = true := by kernel_rfl

end Ev
end Go.Proofs.YtojaohcpgelhmaaDoor
