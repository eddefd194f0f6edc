/-
  Texts of systems, parsed by the reference: worked out by the kernel (part 1).
-/
import Derived.Test.YtahbdkmimmnadaaGreatDoorDrawP0
set_option linter.unusedSimpArgs false
set_option linter.unusedVariables false
set_option maxRecDepth 1000000
namespace Go.Proofs.YtahbdkmimmnadaaGreatDoor
namespace Ev
theorem aRx:hG (aA env 3000 12 138 [.d (.str [97,98,32,51,32,48,97,48,32,48,97,49,32,48,98,48,32,49,98,50,32,50,97,50])] [])=true:=kr
theorem aRT:hG (aA env 3000 12 138 [.d (.str [97,99,32,52,32,48,97,49,32,48,97,50,32,49,99,51,32,50,97,50,32,51,97,48,32,51,99,51])] [])=true:=kr
theorem aRb:hG (aA env 3000 12 138 [.d (.str [97,98,32,50,32,48,97,49,32,49,98,48])] [])=true:=kr
end Ev
end Go.Proofs.YtahbdkmimmnadaaGreatDoor
