/-
  Where a word leads from a state, as the laws tell it; classes of valid automata.
-/
import Derived.Test.YtppdfjdfjfoddaaDoorSepC
set_option linter.unusedSimpArgs false
set_option linter.unusedVariables false
set_option maxRecDepth 8000
set_option maxHeartbeats 4000000
namespace Go.Proofs.YtppdfjdfjfoddaaDoor
namespace Ev
theorem V1 {L n:Nat} (hn:7 ≤ n) (a:Aut) (ha:AOK a) (hL:2 ^ 60 ≤ L):aA env L n 10 [.agg [.d (.int .i64 a.al),.d (.ivs a.nx.length (aC a.nx)),.d (.ivs a.ac.length (aB a.ac))]] [] = some (.d (.ivs (dC a).length (ints (dC a))),[]):=by
 obtain ⟨sa,wa,a1,a2,a3⟩:=bR ha
 have hrl:=sa.1
 have hac:a.ac.length ≤ 4294967296:=by omega
 have kc_t:=fun {R:Type} {n:Nat} {hq:H} {k:A → H → Option R} (hn:6 ≤ n) => @jX R L n hq k hn a ha hL
 unfold AOK at ha
 generalize dC a = w at *
 obtain _ | n:=n; omega
 rw [V6]
 simp only [HT,Tryd.f10,SLM,simprocAttr]
 simp -implicitDefEqProofs (maxSteps:=2000000) (disch:=try exact Dz) only [↓DN,↓kAsg,↓kRet,UP,simprocAttr,↓dB,↓dA,↓cT,↓cR,↓cS,LA,ha,↓kc_t]
theorem pP {R:Type} {L n:Nat} {hq:H} {k:A → H → Option R} (hn:7 ≤ n) (a:Aut) (ha:AOK a) (hL:2 ^ 60 ≤ L):aL env (aA env L n) hq 10 [.agg [.d (.int .i64 a.al),.d (.ivs a.nx.length (aC a.nx)),.d (.ivs a.ac.length (aB a.ac))]] k = k (.d (.ivs (dC a).length (ints (dC a)))) hq :=
 aV rfl (V1 hn a ha hL) rfl (.inr rfl)
end Ev
end Go.Proofs.YtppdfjdfjfoddaaDoor
