/-
  All texts of systems are parsed.
-/
import Derived.Test.YtojaohcpgelhmaaDoorDrawP1
import Derived.Test.YtojaohcpgelhmaaDoorDrawP2
import Derived.Test.YtojaohcpgelhmaaDoorDrawP3
import Derived.Test.YtojaohcpgelhmaaDoorDrawP4
set_option maxRecDepth 1000000
namespace Go.Proofs.YtojaohcpgelhmaaDoor
namespace Ev

theorem text2_all : ∀ t ∈ texts2, sysShape (evCall env 3000 12 78 [.d (.str t)] []) = true := by
  intro t ht
  simp only [texts2, List.mem_cons, List.not_mem_nil, or_false] at ht
  rcases ht with rfl | rfl | rfl | rfl | rfl | rfl | rfl | rfl | rfl | rfl | rfl
  · exact text2_0
  · exact text2_1
  · exact text2_2
  · exact text2_3
  · exact text2_4
  · exact text2_5
  · exact text2_6
  · exact text2_7
  · exact text2_8
  · exact text2_9
  · exact text2_10

end Ev
end Go.Proofs.YtojaohcpgelhmaaDoor
