/-
  All texts of systems are parsed.
-/
import Derived.Test.YtahbdkmimmnadaaGreatDoorDrawP1
import Derived.Test.YtahbdkmimmnadaaGreatDoorDrawP2
import Derived.Test.YtahbdkmimmnadaaGreatDoorDrawP3
import Derived.Test.YtahbdkmimmnadaaGreatDoorDrawP4
set_option linter.unusedSimpArgs false
set_option linter.unusedVariables false
set_option maxRecDepth 1000000
namespace Go.Proofs.YtahbdkmimmnadaaGreatDoor
namespace Ev
theorem aLE:∀t∈AS,bZ (aA env 3000 12 138 [.d (.str t)] [])=true:=by
 intro t ht;simp only[AS,Au,Bo,or_false]at ht
 rcases ht with rfl|rfl|rfl|rfl|rfl|rfl|rfl|rfl|rfl|rfl|rfl
 ·exact aOr
 ·exact aOx
 ·exact aOh
 ·exact aOZ
 ·exact aO3
 ·exact aOH
 ·exact aON
 ·exact aOt
 ·exact aOi
 ·exact aOz
 ·exact aNx
end Ev
end Go.Proofs.YtahbdkmimmnadaaGreatDoor
