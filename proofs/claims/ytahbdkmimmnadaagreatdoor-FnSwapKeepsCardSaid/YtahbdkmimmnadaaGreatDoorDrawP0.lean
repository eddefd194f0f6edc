/-
  The texts of systems, parsed by the reference: worked out by the kernel.
-/
import Derived.Test.YtahbdkmimmnadaaGreatDoorEnvF
set_option linter.unusedSimpArgs false
set_option linter.unusedVariables false
set_option maxRecDepth 1000000
namespace Go.Proofs.YtahbdkmimmnadaaGreatDoor
namespace Ev
def aB4:Nat->List D->Bool
 |0,[]=>true
 |n+1,.int .i64 _::.int .i64 _::.int .i64 _::ds=>aB4 n ds
 |_,_=>false
def hG:Option (A×H)->Bool
 |some (.tup [.agg [.d (.int .i64 _),.d (.int .i64 _),.d (.ivs n cs)],.d (.bool _)],[])=>aB4 n cs&&decide (n<=100)
 |_=>false
def CC:List (List UInt8):=[[97,98,32,50,32,48,97,49,32,49,98,48],[97,98,99,32,51,32,48,97,49,32,49,98,50,32,50,99,48],[97,98,32,51,32,48,97,48,32,48,97,49,32,48,98,48,32,49,98,50,32,50,97,50],[98,99,32,50,32,48,98,49,32,49,99,48],[98,99,32,51,32,48,98,49,32,48,99,48,32,49,99,50,32,50,98,50,32,50,99,50],[45,32,49],[97,32,49,32,48,97,48],[97,99,32,52,32,48,97,49,32,48,97,50,32,49,99,51,32,50,97,50,32,51,97,48,32,51,99,51],[97,98,99,32,52,32,48,97,48,32,48,98,49,32,49,98,50,32,49,99,48,32,50,99,51,32,51,97,49],[97,98,32,53,32,48,97,48,32,48,97,49,32,48,98,48,32,49,97,50,32,49,98,50,32,50,97,51,32,50,98,51,32,51,97,52,32,51,98,52],[97,98,100,32,51,32,48,97,49,32,48,100,48,32,49,98,48,32,49,100,50]]
end Ev
end Go.Proofs.YtahbdkmimmnadaaGreatDoor
