/-
  Words that are drawn.
-/
import Derived.Test.YtejmccgfigiadaaGreatDistG
set_option linter.unusedSimpArgs false
set_option linter.unusedVariables false
set_option maxRecDepth 8000
set_option maxHeartbeats 4000000
namespace Go.Proofs.YtejmccgfigiadaaGreat
namespace Ev
theorem RC {L n:Nat} (hn:1 ≤ n) (l:Int) (h0:0 ≤ l) (h:l ≤ 5):aA env L n 88 [nI l] [] = some (.d (.str [bY l]),[]):=by
 have e:IntKind.u8.wrap (97 + l) = ((bY l).toNat:Int):=aAR h0 h
 have e2:[D.int .u8 ((bY l).toNat:Int)] = bS [bY l]:=rfl
 obtain _ | n:=n; omega
 simp -implicitDefEqProofs (maxSteps:=2000000) (disch:=try exact Dz) only [↓DN,↓kAsg,↓kRet,UP,simprocAttr,e,e2,↓HI,aEJ,YL,Tryz.f88]
theorem FF:type_of% fun {L} l h0 h => ks fun hn => @RC L _ hn l h0 h:=fun {L} l h0 h => ks fun hn => @RC L _ hn l h0 h
end Ev
end Go.Proofs.YtejmccgfigiadaaGreat
