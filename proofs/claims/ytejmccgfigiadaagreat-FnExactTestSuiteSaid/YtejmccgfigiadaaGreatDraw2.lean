/-
  Words that are drawn.
-/
import Derived.Test.YtejmccgfigiadaaGreatLeast
import Derived.Test.YtejmccgfigiadaaGreatDistG
set_option linter.unusedSimpArgs false
set_option linter.unusedVariables false
set_option maxRecDepth 8000
set_option maxHeartbeats 4000000
namespace Go.Proofs.YtejmccgfigiadaaGreat
namespace Ev
theorem aN2 {L n:Nat} (hn:1 ≤ n) (l:Int) (h0:0 ≤ l) (h:l ≤ 5):aA env L n 88 [nI l] [] = some (.d (.str [dY l]),[]):=by
 have e:IntKind.u8.wrap (97 + l) = ((dY l).toNat:Int):=aJ6 h0 h
 have e2:[D.int .u8 ((dY l).toNat:Int)] = dA [dY l]:=rfl
 obtain _ | n:=n; omega
 rw [aOn]
 simp only [aGM,Tryz.f88,SLM,simprocAttr]
 simp -implicitDefEqProofs (maxSteps:=2000000) (disch:=try exact Dz) only [↓DN,↓kAsg,↓kRet,UP,simprocAttr,e,e2,↓HH]
theorem dK {L:Nat} (l:Int) (h0:0 ≤ l) (h:l ≤ 5):KC 1 L 88 [nI l] (.d (.str [dY l])):=ks rfl (fun hn => aN2 hn l h0 h) rfl (.inl rfl)
end Ev
end Go.Proofs.YtejmccgfigiadaaGreat
