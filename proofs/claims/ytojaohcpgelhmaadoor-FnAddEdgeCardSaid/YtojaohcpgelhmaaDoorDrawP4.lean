/-
  Texts of systems, parsed by the reference: worked out by the kernel (part 4).
-/
import Derived.Test.YtojaohcpgelhmaaDoorDrawP0
set_option maxRecDepth 1000000
namespace Go.Proofs.YtojaohcpgelhmaaDoor
namespace Ev

theorem text2_1 : sysShape (evCall env 3000 12 78 [.d (.str [97, 98, 99, 32, 51, 32, 48, 97, 49, 32, 49, 98, 50, 32, 50, 99, 48])] []) = true := by kernel_rfl
theorem text2_10 : sysShape (evCall env 3000 12 78 [.d (.str [97, 98, 100, 32, 51, 32, 48, 97, 49, 32, 48, 100, 48, 32, 49, 98, 48, 32, 49, 100, 50])] []) = true := by kernel_rfl
theorem text2_5 : sysShape (evCall env 3000 12 78 [.d (.str [45, 32, 49])] []) = true := by kernel_rfl
theorem text2_6 : sysShape (evCall env 3000 12 78 [.d (.str [97, 32, 49, 32, 48, 97, 48])] []) = true := by kernel_rfl

end Ev
end Go.Proofs.YtojaohcpgelhmaaDoor
