/-
  Letters, as the laws take them.
-/
import Derived.Test.YthlkcebdfbjdoaaGreatDrawR
set_option linter.unusedSimpArgs false
set_option linter.unusedVariables false
set_option maxRecDepth 8000
set_option maxHeartbeats 4000000
namespace Go.Proofs.YthlkcebdfbjdoaaGreat
namespace Ev
theorem aHG{L n:Nat}(hn:1<=n)(a i:Int)(hi:0<=i)(hi2:i<=9223372036854775807):aA env L n 16 [nI a,nI i] []=some (.d (.bool (eL a i)),[]):=by
 obtain _|n:=n;omega;simp -implicitDefEqProofs (maxSteps:=2000000) (disch:=try exact Dz) only[↓DN,↓kAsg,↓kRet,UP,simprocAttr,↓QK,aMI,aAh,aGS,aRr,aK7,Tryz.f16];rfl
theorem aIs:type_of% fun {L} a i hi hi2=>ks fun hn=> @aHG L _ hn a i hi hi2:=fun {L} a i hi hi2=>ks fun hn=> @aHG L _ hn a i hi hi2
theorem XO{L n:Nat}(hn:1<=n)(l:Int)(h0:0<=l)(h:l<=5):aA env L n 18 [nI l] []=some (.d (.str [b7 l]),[]):=by
 have e:IntKind.u8.wrap (97+l)=((b7 l).toNat:Int):=TF h0 h;have e2:[D.int .u8 ((b7 l).toNat:Int)]=bI [b7 l]:=rfl;obtain _|n:=n;omega;simp -implicitDefEqProofs (maxSteps:=2000000) (disch:=try exact Dz) only[↓DN,↓kAsg,↓kRet,UP,simprocAttr,e,e2,↓AP,aJ2,aCN,Tryz.f18]
theorem aJM:type_of% fun {L} l h0 h=>ks fun hn=> @XO L _ hn l h0 h:=fun {L} l h0 h=>ks fun hn=> @XO L _ hn l h0 h
end Ev
end Go.Proofs.YthlkcebdfbjdoaaGreat
