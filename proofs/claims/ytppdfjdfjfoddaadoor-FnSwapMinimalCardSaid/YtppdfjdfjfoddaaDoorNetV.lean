/-
  Products as the reference searches them, walked: goals, the search of a product of automata.
-/
import Derived.Test.YtppdfjdfjfoddaaDoorNetU
import Derived.Test.YtppdfjdfjfoddaaDoorRead
import Derived.Test.YtppdfjdfjfoddaaDoorDrawR
import Derived.Test.YtppdfjdfjfoddaaDoorPathY
set_option linter.unusedSimpArgs false
set_option linter.unusedVariables false
set_option maxRecDepth 8000
set_option maxHeartbeats 4000000
namespace Go.Proofs.YtppdfjdfjfoddaaDoor
namespace Ev
structure OkN (N:Net) (states:List Int) (i:Nat):Prop where
 hi:i < N.us.length
 hs:N.ps.length + i < states.length
 ha:(N.us.getD i default).ac.length ≤ 4294967290
 q0:0 ≤ states.getD (N.ps.length + i) 0
 q1:states.getD (N.ps.length + i) 0 < (N.us.getD i default).ac.length
theorem aBU {R:Type} {E:Env} {call:a7} {h blk blk2 h2:H} {f:FuncId} {args fs:List A} {r:A} {k:A → H → Option R} {ids ord:List Nat} (hm:(E.hint f).mode = 2) (hids:idsL args = ids) (hre:aF aG h ids [] = ord) (hpk:pack h ord = blk) (hf:jO blk (aH (aK ord) args) = some (fs,blk2)) (hcl:closed h ord ids = true) (hc:call f fs [] = some (r,[])) (hr:idsA r = []) (hl:ord.length ≤ blk2.length) (hpb:bG (back ord h.length blk2.length) h ord blk2 = h2) :
  aL E call h f args k = k r h2:=by
 unfold aL
 rw [hids,hre,hpk]
 have hc:dO call E.hint blk f (aH (aK ord) args) = some (r,blk2):=by
  unfold dO; rw [hm]
  simp only [hf,hc]
 rw [hc]
 simp only [hl,hcl,and_self,if_true,tU r hr,hpb]
end Ev
end Go.Proofs.YtppdfjdfjfoddaaDoor
