/-
  Words that are drawn.
-/
import Derived.Test.YtejmccgfigiadaaGreatLett
set_option linter.unusedSimpArgs false
set_option linter.unusedVariables false
set_option maxRecDepth 8000
set_option maxHeartbeats 4000000
namespace Go.Proofs.YtejmccgfigiadaaGreat
namespace Ev
theorem aGe {L n:Nat} (hn:1 ≤ n) (l:Int) (h0:0 ≤ l) (h:l ≤ 5):aA env L n 88 [nI l] [] = some (.d (.str [eE l]),[]):=by
 have e:IntKind.u8.wrap (97 + l) = ((eE l).toNat:Int):=aL8 h0 h
 have e2:[D.int .u8 ((eE l).toNat:Int)] = dB [eE l]:=rfl
 obtain _ | n:=n; omega
 simp -implicitDefEqProofs (maxSteps:=2000000) (disch:=try exact Dz) only [↓DN,↓kAsg,↓kRet,UP,simprocAttr,e,e2,↓X7,aPG,aJN,Tryz.f88]
theorem dJ:type_of% fun {L} l h0 h => ks fun hn => @aGe L _ hn l h0 h:=fun {L} l h0 h => ks fun hn => @aGe L _ hn l h0 h
end Ev
end Go.Proofs.YtejmccgfigiadaaGreat
