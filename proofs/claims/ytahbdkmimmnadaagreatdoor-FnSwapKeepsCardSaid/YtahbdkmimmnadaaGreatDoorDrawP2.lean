/-
  Texts of systems, parsed by the reference: worked out by the kernel (part 2).
-/
import Derived.Test.YtahbdkmimmnadaaGreatDoorDrawP0
set_option linter.unusedSimpArgs false
set_option linter.unusedVariables false
set_option maxRecDepth 1000000
namespace Go.Proofs.YtahbdkmimmnadaaGreatDoor
namespace Ev
theorem aRw:hG (aA env 3000 12 138 [.d (.str [97,98,99,32,52,32,48,97,48,32,48,98,49,32,49,98,50,32,49,99,48,32,50,99,51,32,51,97,49])] [])=true:=kr
theorem aRg:hG (aA env 3000 12 138 [.d (.str [98,99,32,51,32,48,98,49,32,48,99,48,32,49,99,50,32,50,98,50,32,50,99,50])] [])=true:=kr
theorem aQ4:hG (aA env 3000 12 138 [.d (.str [98,99,32,50,32,48,98,49,32,49,99,48])] [])=true:=kr
end Ev
end Go.Proofs.YtahbdkmimmnadaaGreatDoor
