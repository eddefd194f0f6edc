/-
  Texts of systems, parsed by the reference: worked out by the kernel (part 2).
-/
import Derived.Test.YtojaohcpgelhmaaDoorDrawP0
set_option maxRecDepth 1000000
namespace Go.Proofs.YtojaohcpgelhmaaDoor
namespace Ev

theorem text2_8 : sysShape (evCall env 3000 12 78 [.d (.str [97, 98, 99, 32, 52, 32, 48, 97, 48, 32, 48, 98, 49, 32, 49, 98, 50, 32, 49, 99, 48, 32, 50, 99, 51, 32, 51, 97, 49])] []) = true := by kernel_rfl
theorem text2_4 : sysShape (evCall env 3000 12 78 [.d (.str [98, 99, 32, 51, 32, 48, 98, 49, 32, 48, 99, 48, 32, 49, 99, 50, 32, 50, 98, 50, 32, 50, 99, 50])] []) = true := by kernel_rfl
theorem text2_3 : sysShape (evCall env 3000 12 78 [.d (.str [98, 99, 32, 50, 32, 48, 98, 49, 32, 49, 99, 48])] []) = true := by kernel_rfl

end Ev
end Go.Proofs.YtojaohcpgelhmaaDoor
