/-
  Texts of systems, parsed by the reference: worked out by the kernel (part 4).
-/
import Derived.Test.YtahbdkmimmnadaaGreatDoorDrawP0
set_option linter.unusedSimpArgs false
set_option linter.unusedVariables false
set_option maxRecDepth 1000000
namespace Go.Proofs.YtahbdkmimmnadaaGreatDoor
namespace Ev
theorem aR0:hG (aA env 3000 12 138 [.d (.str [97,98,99,32,51,32,48,97,49,32,49,98,50,32,50,99,48])] [])=true:=kr
theorem aPa:hG (aA env 3000 12 138 [.d (.str [97,98,100,32,51,32,48,97,49,32,48,100,48,32,49,98,48,32,49,100,50])] [])=true:=kr
theorem aRB:hG (aA env 3000 12 138 [.d (.str [45,32,49])] [])=true:=kr
theorem aRD:hG (aA env 3000 12 138 [.d (.str [97,32,49,32,48,97,48])] [])=true:=kr
end Ev
end Go.Proofs.YtahbdkmimmnadaaGreatDoor
