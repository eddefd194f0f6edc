/-
  All texts of systems are parsed.
-/
import Derived.Test.YtahbdkmimmnadaaGreatDoorDrawP1
import Derived.Test.YtahbdkmimmnadaaGreatDoorDrawP2
import Derived.Test.YtahbdkmimmnadaaGreatDoorDrawP3
import Derived.Test.YtahbdkmimmnadaaGreatDoorDrawP4
set_option linter.unusedSimpArgs false
set_option linter.unusedVariables false
set_option maxRecDepth 1000000
namespace Go.Proofs.YtahbdkmimmnadaaGreatDoor
namespace Ev
theorem aJ9:∀t∈A2,b9 (aA env 3000 12 138 [.d (.str t)] [])=true:=by
 intro t ht;simp only[A2,Au,Bn,or_false]at ht
 rcases ht with rfl|rfl|rfl|rfl|rfl|rfl|rfl|rfl|rfl|rfl|rfl
 ·exact aPi
 ·exact aPf
 ·exact aOJ
 ·exact aOt
 ·exact aOK
 ·exact aPd
 ·exact aO5
 ·exact aOv
 ·exact aOH
 ·exact aO2
 ·exact aNj
end Ev
end Go.Proofs.YtahbdkmimmnadaaGreatDoor
