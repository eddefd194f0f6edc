/-
  All texts of systems are parsed.
-/
import Derived.Test.YtahbdkmimmnadaaGreatDoorDrawP1
import Derived.Test.YtahbdkmimmnadaaGreatDoorDrawP2
import Derived.Test.YtahbdkmimmnadaaGreatDoorDrawP3
import Derived.Test.YtahbdkmimmnadaaGreatDoorDrawP4
set_option linter.unusedSimpArgs false
set_option linter.unusedVariables false
set_option maxRecDepth 1000000
namespace Go.Proofs.YtahbdkmimmnadaaGreatDoor
namespace Ev
theorem aOs:∀t∈CC,hG (aA env 3000 12 138 [.d (.str t)] [])=true:=by
 intro t ht;simp only[CC,Au,Bv,or_false]at ht
 rcases ht with rfl|rfl|rfl|rfl|rfl|rfl|rfl|rfl|rfl|rfl|rfl
 ·exact aRb
 ·exact aR0
 ·exact aRx
 ·exact aQ4
 ·exact aRg
 ·exact aRB
 ·exact aRD
 ·exact aRT
 ·exact aRw
 ·exact aRG
 ·exact aPa
end Ev
end Go.Proofs.YtahbdkmimmnadaaGreatDoor
